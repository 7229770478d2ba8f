/- Lemmas for the proof: more of the program's functions, walked on the abstract machine. -/
import Derived.Test.YtbgiddcgdgdmbaaGreatXReadsA
/- The program: the error of a brewhouse. -/
section
namespace AM.Try
open Go AM AM.Wort Go.Proofs
open Nat renaming reduceLT→sA,reduceAdd→sB,reduceMul→sC,reduceSub→sD,reduceLeDiff→sE,reduceEqDiff→sF,reduceBEq→sG
open Int renaming reduceAdd→sH,reduceSub→sI,reduceMul→sJ,reduceLT→sK,reduceLE→sL,reduceNeg→sM,reduceToNat→sN,reduceEq→sO
set_option maxRecDepth 100000
set_option maxHeartbeats 16000000
theorem elD:ElT Tryz.prog 66 103 avD Aye:=Zo (P:=Tryz.prog) (tS:=66) (tE:=103) (enc:=Aye) (n:=5) (by simp only [amT]) (by simp only [amT]; rfl) (by simp only [amT]) (fun _=>rfl)
theorem Bel {σ α:Type} {step:σ→α→σ × Bool}:∀ (l1 l2:List α) (s:σ),Gn step s (l1++l2)=if (Gn step s l1).2=true then Gn step (Gn step s l1).1 l2 else Gn step s l1
  | [],l2,s=>rfl
  | x :: l1,l2,s=>by
    simp only [List.cons_append,Gn]
    split
    · rw [Bel l1 l2]
    · rename_i h; simp
theorem Bfo {σ α:Type} {step:σ→α→σ × Bool} {s:σ} {x:α}:Gn step s [x]=step s x:=by
  simp only [Gn]
  split
  · rename_i h; exact Prod.ext rfl h.symm
  · rename_i h; exact Prod.ext rfl (Bool.eq_false_iff.2 h).symm
theorem Bh.of_nil0 {P:Program} {bd:Nat} {fv:AV} {os:Nat→Option AO} {R:AV→(Nat→Option AO)→Prop} (h:Bh P bd fv [.p (.sl [])] os R):Bh P bd fv [C4] os R:=by
  intro hfree S θ M w vf vs h1 h2 h3 h4 h5 h6
  refine h hfree S θ M w vf vs h1 h2 h3 (fun i x hx=>?_) h5 (fun i x hx=>?_)
  · match i,hx with
    | 0,hx=>
      cases hx
      have:=Re (h4 0 C4 rfl)
      rw [this]; exact .p _ _ .nil
  · match i,hx with
    | 0,hx=>cases hx; exact AV.lives_p _ _
theorem Bi2 {r:RB} {N:Nat} {s:St} {K:St→Prop} {dst:Option Nat} {ty:TypeId} {pos:String} {after:Array Edge} {g:Option (Nat × Bool)} {x hi mx:Operand} {lo:Option Operand}:EO Tryz.prog r N ⟨dst,.slice 26 x lo (some hi) (some mx),ty,pos,after,g⟩ s K=EOp r.b N dst s K (Bl2 (fun e=>(Aa Tryz.prog e).sz) (fun e=>(Aa Tryz.prog e).agg) 3 ((ev s.t x).pv?.bind PV.list?) (Ba (ev s.t) 0 lo) (Ba (ev s.t) 0 (some hi)) (Ba (ev s.t) 0 (some mx))):=Bln (by rw [Azg])
theorem Bi8 {r:RB} {N:Nat} {s:St} {K:St→Prop} {dst:Option Nat} {ty:TypeId} {pos:String} {after:Array Edge} {g:Option (Nat × Bool)} {x:Operand} {lo hi:Option Operand}:EO Tryz.prog r N ⟨dst,.slice 26 x lo hi none,ty,pos,after,g⟩ s K=EOp r.b N dst s K (Bk5 (fun e=>(Aa Tryz.prog e).sz) (fun e=>(Aa Tryz.prog e).agg) 3 ((ev s.t x).pv?.bind PV.list?) (Ba (ev s.t) 0 lo) (fun n=>Ba (ev s.t) n hi)):=Blg (by rw [Azg])
theorem Biv (l:List Int):((l.map fun n=>[iv n]).all fun c=>decide (c.length=(Aa Tryz.prog 3).sz))=true:=by
  simp only [amT]; simp
theorem Bog {l:List Int} {lo hi m:Int} (h0:0≤lo) (h1:lo≤hi) (h2:hi≤m) (h3:m≤l.length):Bl2 (fun e=>(Aa Tryz.prog e).sz) (fun e=>(Aa Tryz.prog e).agg) 3 (some (l.map fun n=>[iv n])) (some lo) (some hi) (some m)=some (.pure (isl ((l.take hi.toNat).drop lo.toNat))):=by
  rw [Blk h0 h1 h2 (by simpa using h3) (by simp only [amT]; rfl) (Biv l),← List.map_take,← List.map_drop]
theorem Bn9 {l:List Int} {lo:Int} (h0:0≤lo) (h1:lo≤l.length):Bk5 (fun e=>(Aa Tryz.prog e).sz) (fun e=>(Aa Tryz.prog e).agg) 3 (some (l.map fun n=>[iv n])) (some lo) (fun n=>some (n:Int))=some (.pure (isl (l.drop lo.toNat))):=by
  rw [Blb (h:=(l.length:Int)) (by simp) h0 h1 (by simp) (by simp only [amT]; rfl) (Biv l),← List.map_take,← List.map_drop,List.take_of_length_le (by simp)]
theorem Bnk {bd:Nat} {fv:AV} {p:List Int} {x:Int} {os:Nat→Option AO} {R:AV→(Nat→Option AO)→Prop} (h:Bh Tryz.prog bd fv [isl (p++[x])] os R):Bh Tryz.prog bd fv [.p (.sl ((p.map fun n=>[iv n])++[[iv x]]))] os R:=by
  rw [show isl (p++[x])=.p (.sl ((p.map fun n=>[iv n])++[[iv x]])) from by simp [List.map_append]] at h; exact h
theorem Bll {n len:Nat} {es:List (List PV)} (h:len=es.length):[AV.own n len].map (AV.frz n es)=[.p (.sl es)]:=by
  subst h
  show [(AV.own n es.length).frz n es]=_
  simp only [AV.frz,if_true,Nat.le_refl,List.take_length]
abbrev avL (k:Nat) (x:List Int):AV:=.agg [isl (x.take k),isl ((x.take (2 * k)).drop k),isl (x.drop (2 * k))]
abbrev chF (nr ny nk nc:Nat):AV:=.fn (.func 130) [] [.ptr nr 0,.ptr ny 0,.ptr nk 0,.ptr nc 0]
theorem Bos {n nr ny nk nc:Nat} {es:List (List PV)} (h1:nr≠n) (h2:ny≠n) (h3:nk≠n) (h4:nc≠n):(chF nr ny nk nc).frz n es=chF nr ny nk nc:=by
  simp only [AV.frz,AV.frz.frzL,h1,h2,h3,h4,if_false]
structure Chs (rs:List Rng) (k nr ny nk nc:Nat) (yv:AV) (os:Nat→Option AO):Prop where
  r:os nr=some (.cells [.p (.sl (rs.map Hy))])
  y:os ny=some (.cells [yv])
  k:os nk=some (.cells [i64 (k:Int)])
  c:os nc=some (.cells [chF nr ny nk nc])
theorem Blr {rs:List Rng} {k:Nat} {yv:AV} {F:Nat→Prop} {σ:Type} {L:List (List Int)} {go:σ→Prop} {I:σ→(Nat→Option AO)→Prop} {step:σ→List Int→σ × Bool} (hY:Ahk Tryz.prog yv F (avL k) L go I step) (hrs:∀ r ∈ rs,0≤r.lo∧r.lo≤r.hi∧r.hi≤1000) (hn:rs.length≤100) (hk:2 * k≤rs.length) {nr ny nk nc:Nat} (f1:¬ F nr) (f2:¬ F ny) (f3:¬ F nk) (f4:¬ F nc) (m:Nat) :
    ∀ (cur:List Int) (s:σ) (os:Nat→Option AO) (bd:Nat),rs.length - cur.length=m→cur.length≤rs.length→(∀ x ∈ Bea (rs.drop cur.length) cur,x ∈ L)→Chs rs k nr ny nk nc yv os→go s→I s os →
    Bh Tryz.prog bd (chF nr ny nk nc) [isl cur] os fun res os'=>res=bl (Gn step s (Bea (rs.drop cur.length) cur)).2∧I (Gn step s (Bea (rs.drop cur.length) cur)).1 os'∧∀ n,¬ F n→os' n=os n:=by
  induction m using Nat.strongRecOn with
  | ind m ih=>
  intro cur s os bd hm hcu hL hch hg hI
  refine B3 (v:=[]) (q:=[]) (N:=54) (rs:=[.tmp 6]) Tryz.func130 rfl (by kernel_rfl) rfl rfl (fun hcl hfree=>?_)
  obtain ⟨o1,o2,o3,o4⟩:=hch
  have hfr0:∀ k,os (bd+k)=none:=fun k=>hfree _ (by omega)
  have b1:=Ap hfree o1
  have b2:=Ap hfree o2
  have b3:=Ap hfree o3
  have b4:=Ap hfree o4
  have hF:∀ n,F n→n < bd:=fun n hn=>by obtain ⟨o,h,_⟩:=hY.foot s os n hI hn; exact Ap hfree h
  have hlv:=hY.live _ _ hI
  have hpg:∀ j,pgO (bd+j) os=os:=fun j=>Adf hcl (hfr0 j)
  have hpf:∀ j,AV.purge (bd+j) (chF nr ny nk nc)=chF nr ny nk nc:=fun j=>by
    unfold AV.purge
    refine if_pos ?_
    simp [AV.clean,AV.clean.cleanL]; omega
  have hw2:IntKind.i64.wrap (2 * (k:Int))=2 * k:=Fc (by omega) (by omega)
  refine Ad fun K1 hK1=>?_
  simp (disch:=omega) only [amL,sA,sB]
  refine hK1 _ ?_
  refine Ab fun K2 hK2=>?_
  refine Ad fun K3 hK3=>?_
  simp (disch:=omega) only [o1,amL,amT,sA,sF,↓reduceIte,reduceCtorEq]
  refine hK3 _ ?_
  refine Al rfl (fun h=>MT.x ?_) (fun h=>ME.x ?_)
  all_goals
   first
   |refine MT.mk ?_
    first
    |exact Bool.noConfusion h
    |skip
     try simp only [nrm] at h
     refine Ab fun K4 hK4=>?_
     refine Cj (by kernel_rfl) (by kernel_rfl) ?_
     have hone:=Bk6 (rs:=rs) (cur:=cur) (by omega)
     simp (disch:=omega) only [o2,o3,hw2,Bi2,Bi8,Bki,Bl,Bk,B4,Bog,Bn9,List.map_cons,List.map_nil,amL,amT,sA,sB,sE,sF,sN,↓reduceIte,reduceCtorEq]
     have hcall:=hY.call s cur os (bd+54) (hL cur (by rw [hone]; exact List.mem_singleton.2 rfl)) hg hI hcl
     refine A2 [] (by decide) hcall (fun q hq=>hfree q (by omega)) (Nat.le_add_right _ _) (fun res os4 hR hcl4 hlvr=>?_)
     obtain ⟨rfl,hI4,hfr4⟩:=hR
     simp (disch:=omega) only [amL,sA,↓reduceIte]
     refine hK4 _ ?_
     refine Aj ?_
     try simp (disch:=omega) only [amL]
     first
       | (refine A6 (res:=bl (step s cur).2) os4 rfl (Sub.refl _) hcl4 (A9 _ rfl) ⟨?_,?_,hfr4⟩
          · rw [hone,Bfo]
          · rw [hone,Bfo]; exact hI4)
       | (have hf:=h
          refine A6 (res:=bl false) (Dt bd os4) rfl hsb4 hd4.1 (A9 _ rfl) ⟨?_,?_,hd4.2.2⟩
          · rw [← hall,Beq (by omega),Bel,if_neg (by rw [hf]; decide),hf]
          · rw [← hall,Beq (by omega),Bel,if_neg (by rw [hf]; decide)]; exact hd4.2.1)
       | (rw [Bgc (by omega)] at hall
          refine A6 (res:=bl true) os1 (by simp (disch:=omega) only [o1,o2,o3,o4,hw2,hfr0,Ac,Bz,Bi,Bi2,Bi8,Bki,Bl,Bk,B4,Bog,Bn9,hpf,hpg,Hr,Nr,J9,Ew,Gh,List.map_cons,List.map_nil,Lx,if_true,amL,amT,sA,sB,sC,sD,sE,sF,sG,sH,sI,sJ,sK,sL,sM,sN,sO,↓reduceIte,reduceCtorEq]; try rfl) (fun q=>?_) hcl1 (A9 _ rfl) ⟨?_,?_,hfr1⟩
          · by_cases e:q=bd+7
            · subst e; left; exact hfr0 7
            · right; simp only [Ac e]
          · rw [← hall]; rfl
          · rw [← hall]; exact hI1)
   |refine ME.mk ?_
    first
    |exact Bool.noConfusion h
    |skip
     try simp only [nrm] at h
     refine Am ?_
     refine hK2 _ ?_
  all_goals
   skip
   refine Ad fun K5 hK5=>?_
   have hcl3:cur.length < rs.length:=by omega
   obtain ⟨q1,q2,q3⟩:=hrs (rs.getD cur.length default) (AM.Wort.Du default hcl3)
   have hhere:=Bkf (d:=default) hcl3
   have hsz:Fa (rs.getD cur.length default)=(rs.getD cur.length default).hi - (rs.getD cur.length default).lo+1:=rfl
   simp (disch:=omega) only [o1,hfr0,Bz,Bi,List.map_cons,List.map_nil,amL,amT,sA,sB,sF,↓reduceIte,reduceCtorEq]
   refine hK5 _ ?_
   refine Ab fun K6 hK6=>?_
   refine Ad fun K7 hK7=>?_
   simp (disch:=omega) only [List.map_cons,List.map_nil,amL,amT,sA,sB,↓reduceIte]
   repeat' first | (refine Ax (by kernel_rfl) rfl (Ad9 (rs.getD cur.length default) (by omega) (by omega)) (by first | exact .inl rfl | exact .inr (.inl rfl)) ?_ ; simp (disch:=omega) only [amL,sA])
   refine hK7 _ ?_
   refine Au ?_
   skip
   refine Bg (α:=Nat × σ × (Nat→Option AO)) (fun x=>⟨T [(0,isl cur),(1,.ptr nr 0),(2,.ptr ny 0),(3,.ptr nk 0),(4,.ptr nc 0),(7,.ptr (bd+7) 0),(38,i64 (Fa (rs.getD cur.length default))),(39,i64 (x.1:Int))],upd x.2.2 (bd+7) (some (.cells [i64 (rs.getD cur.length default).lo,i64 (rs.getD cur.length default).hi]))⟩) (fun x=>(Fa (rs.getD cur.length default)).toNat - x.1) (fun x=>x.1≤(Fa (rs.getD cur.length default)).toNat∧go x.2.1∧I x.2.1 x.2.2∧(Hp x.2.2).closed∧(∀ n,¬ F n→x.2.2 n=os n)∧Gn step x.2.1 (Be6 (fun n=>Bea (rs.drop (cur.length+1)) (cur++[n])) ((Fa (rs.getD cur.length default)).toNat - x.1) ((rs.getD cur.length default).lo+(x.1:Nat)))=Gn step s (Bea (rs.drop cur.length) cur)) (0,s,os) ?_ ?_ (fun x hx8 K8 hK8=>?_)
   · exact ⟨Nat.zero_le _,hg,hI,hcl,fun _ _=>rfl,by rw [hhere]⟩
   · refine G9 ?_ ?_ ?_ ?_ <;> (try simp (disch:=omega) only [o1,o2,o3,o4,Ac,amL,sF,↓reduceIte,reduceCtorEq]); all_goals first | exact Sub.refl _ | exact F3 hcl (by simp [AV.isP]) | trace_state
   obtain ⟨n,s1,os1⟩:=x; dsimp only at hx8 ⊢; obtain ⟨hn1,hg1,hI1,hcl1,hfr1,hall⟩:=hx8; have o1:=(hfr1 nr f1).trans o1; have o2:=(hfr1 ny f2).trans o2; have o3:=(hfr1 nk f3).trans o3; have o4:=(hfr1 nc f4).trans o4; have hfreeI:∀ q,bd≤q→os1 q=none:=fun q hq=>(hfr1 q (fun h=>by have:=hF q h; omega)).trans (hfree q hq); have hfr0:∀ k,os1 (bd+k)=none:=fun k=>hfreeI _ (by omega); have hpg:∀ j,pgO (bd+j) os1=os1:=fun j=>Adf hcl1 (hfr0 j)
   refine Ad fun K9 hK9=>?_
   simp (disch:=omega) only [amL,amT,sA,sF,↓reduceIte,reduceCtorEq]
   refine hK9 _ ?_
   refine Ab fun K10 hK10=>?_
   refine Al rfl (fun h=>MT.x ?_) (fun h=>ME.x ?_)
   all_goals
    first
    |refine MT.mk ?_
     first
     |exact Bool.noConfusion h
     |skip
      try simp only [nrm] at h
      refine Am ?_
      refine hK10 _ ?_
    |refine ME.mk ?_
     first
     |exact Bool.noConfusion h
     |skip
      try simp only [nrm] at h
      refine Bq ?_
      refine hK6 _ ?_
      refine Ad fun K11 hK11=>?_
      simp (disch:=omega) only [amL,sA]
      refine hK11 _ ?_
      refine Aj ?_
      try simp (disch:=omega) only [amL]
      first
        | (refine A6 (res:=bl (step s cur).2) os4 rfl (Sub.refl _) hcl4 (A9 _ rfl) ⟨?_,?_,hfr4⟩
           · rw [hone,Bfo]
           · rw [hone,Bfo]; exact hI4)
        | (have hf:=h
           refine A6 (res:=bl false) (Dt bd os4) rfl hsb4 hd4.1 (A9 _ rfl) ⟨?_,?_,hd4.2.2⟩
           · rw [← hall,Beq (by omega),Bel,if_neg (by rw [hf]; decide),hf]
           · rw [← hall,Beq (by omega),Bel,if_neg (by rw [hf]; decide)]; exact hd4.2.1)
        | (rw [Bgc (by omega)] at hall
           refine A6 (res:=bl true) os1 (by simp (disch:=omega) only [amL,↓reduceIte]; try rfl) (fun q=>?_) hcl1 (A9 _ rfl) ⟨?_,?_,hfr1⟩
           · by_cases e:q=bd+7
             · subst e; left; exact hfr0 7
             · right; simp only [Ac e]
           · rw [← hall]; rfl
           · rw [← hall]; exact hI1)
   all_goals
    skip
    refine Ab fun K12 hK12=>?_
    refine Au ?_
    refine Ad fun K13 hK13=>?_
    simp (disch:=omega) only [amL,sA,sF,↓reduceIte,reduceCtorEq]
    refine hK13 _ ?_
    refine Ab fun K14 hK14=>?_
    have hw3:IntKind.i64.wrap ((rs.getD cur.length default).lo+(n:Int))=(rs.getD cur.length default).lo+n:=Fc (by omega) (by omega)
    refine Ug 9 [.app [4]] (by kernel_rfl) (by kernel_rfl) ?_
    simp only [List.take_succ_cons,List.take_zero,List.drop_succ_cons,List.drop_zero]
    simp (disch:=omega) only [o4,Ac,List.map_cons,List.map_nil,amL,amT,sA,sF,↓reduceIte,reduceCtorEq]
    refine Ux (by kernel_rfl) (by decide) (Anz (cur.map fun n=>[iv n]) (by simp) (by simp [PV.isVal]) (by rw [List.length_map]; omega)) (by simp (disch:=omega) only [hfr0,Ac]) ?_
    simp (disch:=omega) only [hfr0,Ac,hpf,hpg,Hr,Nr,J9,Ew,Gh,List.map_cons,List.map_nil,Lx,amL,amT,sA,sE,sF,↓reduceIte,reduceCtorEq]
    refine ⟨rfl,?_⟩
    have hin:∀ x ∈ Bea (rs.drop (cur.length+1)) (cur++[(rs.getD cur.length default).lo+(n:Int)]),x ∈ L:=fun x hx=>hL x (by rw [hhere]; exact Bgj _ _ n (by omega) (by simpa using hx))
    have hcall:=ih (rs.length - (cur++[(rs.getD cur.length default).lo+(n:Int)]).length) (by rw [List.length_append,List.length_singleton]; omega) (cur++[(rs.getD cur.length default).lo+(n:Int)]) s1 (upd (upd os1 (bd+7) (some (.cells [i64 (rs.getD cur.length default).lo,i64 (rs.getD cur.length default).hi]))) (bd+49) (some (.arr 1 [[iv ((rs.getD cur.length default).lo+(n:Int))]]))) (bd+54) rfl (by rw [List.length_append,List.length_singleton]; omega) (by rw [List.length_append,List.length_singleton]; exact hin) ⟨by simp (disch:=omega) only [Ac]; exact o1,by simp (disch:=omega) only [Ac]; exact o2,by simp (disch:=omega) only [Ac]; exact o3,by simp (disch:=omega) only [Ac]; exact o4⟩ hg1 (hY.stable _ _ _ hI1 (fun q hq=>by have:=hF q hq; simp (disch:=omega) only [Ac]))
    rw [List.length_append,List.length_singleton] at hcall
    refine Aej (bd:=bd+54) (bd+50) Bc _ [(0,isl cur),(1,.ptr nr 0),(2,.ptr ny 0),(3,.ptr nk 0),(4,.ptr nc 0),(7,.ptr (bd+7) 0),(38,i64 (Fa (rs.getD cur.length default))),(39,i64 (n:Int))] ((Acd (Nt (F3 hcl1 (by simp [AV.isP]))) (by simp (disch:=omega) only [Ac]; exact hfr0 _)).trans rfl) (by decide) (by
      rw [Bos (by omega) (by omega) (by omega) (by omega),Bll (by simp)]
      exact Bnk hcall) (fun q hq=>by simp (disch:=omega) only [Ac]; exact hfreeI q (by omega)) (Nat.le_add_right _ _) (fun res os4 hR hcl4 hlv4=>?_)
    obtain ⟨rfl,hI4,hfr4⟩:=hR
    simp (disch:=omega) only [Wr,AV.frz,if_neg]
    have hd4:=hY.drop hcl hfree hI hI4 (fun q hq1 hq2=>(hfr4 q hq2).trans (by simp (disch:=omega) only [Ac]; exact hfr1 q hq2))
    have h74:os4 (bd+7)=some (.cells [i64 (rs.getD cur.length default).lo,i64 (rs.getD cur.length default).hi]):=(hfr4 (bd+7) (fun h=>by have:=hF _ h; omega)).trans (by simp (disch:=omega) only [Ac,Bc])
    have hsb4:Sub (Dt bd os4) os4:=L3 bd os4
    have hsub4:Sub (upd (Dt bd os4) (bd+7) (some (.cells [i64 (rs.getD cur.length default).lo,i64 (rs.getD cur.length default).hi]))) os4:=fun q=>by
      by_cases e:q=bd+7
      · subst e; right; rw [Bc,h74]
      · rw [Ac e]; exact hsb4 q
    simp (disch:=omega) only [amL,sA,sF,↓reduceIte,reduceCtorEq]
    refine ⟨⟨by rw [hfr4 nr f1]; simp (disch:=omega) only [Ac]; rw [o1]; rfl,by rw [hfr4 ny f2]; simp (disch:=omega) only [Ac]; rw [o2]; rfl,by rw [hfr4 nk f3]; simp (disch:=omega) only [Ac]; rw [o3]; rfl,by rw [hfr4 nc f4]; simp (disch:=omega) only [Ac]; rw [o4]; rfl,by rw [h74]; rfl⟩,?_⟩
    refine hK14 _ ?_
    refine Al rfl (fun h=>MT.x ?_) (fun h=>ME.x ?_)
    all_goals
     first
     |refine MT.mk ?_
      first
      |exact Bool.noConfusion h
      |skip
       try simp only [nrm] at h
       refine Ad fun K15 hK15=>?_
       simp (disch:=omega) only [amL,sA]
       refine hK15 _ ?_
       refine Aj ?_
       try simp (disch:=omega) only [amL]
       first
         | (refine A6 (res:=bl (step s cur).2) os4 rfl (Sub.refl _) hcl4 (A9 _ rfl) ⟨?_,?_,hfr4⟩
            · rw [hone,Bfo]
            · rw [hone,Bfo]; exact hI4)
         | (have hf:=h
            refine A6 (res:=bl false) (Dt bd os4) rfl hsb4 hd4.1 (A9 _ rfl) ⟨?_,?_,hd4.2.2⟩
            · rw [← hall,Beq (by omega),Bel,if_neg (by rw [hf]; decide),hf]
            · rw [← hall,Beq (by omega),Bel,if_neg (by rw [hf]; decide)]; exact hd4.2.1)
         | (rw [Bgc (by omega)] at hall
            refine A6 (res:=bl true) os1 (by simp (disch:=omega) only [o1,o2,o3,o4,hw2,hfr0,Ac,Bz,Bi,Bi2,Bi8,Bki,Bl,Bk,B4,Bog,Bn9,hpf,hpg,Hr,Nr,J9,Ew,Gh,List.map_cons,List.map_nil,Lx,if_true,amL,amT,sA,sB,sC,sD,sE,sF,sG,sH,sI,sJ,sK,sL,sM,sN,sO,↓reduceIte,reduceCtorEq]; try rfl) (fun q=>?_) hcl1 (A9 _ rfl) ⟨?_,?_,hfr1⟩
            · by_cases e:q=bd+7
              · subst e; left; exact hfr0 7
              · right; simp only [Ac e]
            · rw [← hall]; rfl
            · rw [← hall]; exact hI1)
     |refine ME.mk ?_
      first
      |exact Bool.noConfusion h
      |skip
       try simp only [nrm] at h
       refine Am ?_
       refine hK12 _ ?_
    all_goals
     skip
     refine Ah ?_
     simp (disch:=omega) only [amL,amT,sA,sF,↓reduceIte,reduceCtorEq]
     refine hK8 (n+1,(Gn step s1 (Bea (rs.drop (cur.length+1)) (cur++[(rs.getD cur.length default).lo+(n:Nat)]))).1,Dt bd os4) _ ?_ ?_ (G9 ?_ ?_ ?_ ?_)
     all_goals (try simp (disch:=omega) only [Ac,amL,sF,↓reduceIte,reduceCtorEq])
     all_goals first | omega | exact hsub4 | exact F3 hd4.1 (by simp [AV.isP]) | exact ⟨by omega,Bjd (fun s x hx=>hY.next s x (hin x hx)) hg1 h,hd4.2.1,hd4.1,hd4.2.2,by rw [← hall,Beq (by omega),Bel,if_pos h]; rfl⟩ | exact ⟨by rw [hd4.2.2 nr f1,← hfr1 nr f1,o1]; rfl,by rw [hd4.2.2 ny f2,← hfr1 ny f2,o2]; rfl,by rw [hd4.2.2 nk f3,← hfr1 nk f3,o3]; rfl,by rw [hd4.2.2 nc f4,← hfr1 nc f4,o4]; rfl⟩ | trace_state
theorem Bm4 {b:Eg} {nw m:Nat} {os:Nat→Option AO} {bd:Nat} (hl:b.vs.length < 1000000) (hl2:b.ss.length < 1000000) (hw:os nw=some (.cells [.p (slV b.vs),.p (slS b.ss),.mp m])) :
  Bh Tryz.prog bd (.fn (.func 110) [] []) [.ptr nw 0] os fun res os'=>res=.fn (.func 129) [] [.ptr (bd+3) 0,.ptr (bd+4) 0]∧os'=upd (upd os (bd+3) (some (.cells [.p (.sl ((Fy b).map Hy))]))) (bd+4) (some (.cells [i64 b.vs.length])):=by
 refine B3 (v:=[]) (q:=[]) (N:=17) (rs:=[.tmp 2]) Tryz.func110 rfl (by kernel_rfl) rfl rfl (fun hcl hfree=>?_)
 have hfr0:∀ k,os (bd+k)=none:=fun k=>hfree _ (by omega)
 have hb:=Ap hfree hw
 refine Ad fun K1 hK1=>?_
 simp (disch:=omega) only [amL,sA]
 refine hK1 _ ?_
 refine Ad fun K2 hK2=>?_
 simp (disch:=omega) only [hw,amL,amT,sA,sB,sE,↓reduceIte,reduceCtorEq]
 repeat' first | (refine Ax (by kernel_rfl) rfl (Abo b hl hl2) (by first | exact .inl rfl | exact .inr (.inl rfl)) ?_ ; simp (disch:=omega) only [hfr0,amL,amT,sA,sF,↓reduceIte])
 refine hK2 _ ?_
 refine Ad fun K3 hK3=>?_
 simp (disch:=omega) only [hw,hfr0,Ac,amL,amT,sA,sF,↓reduceIte,reduceCtorEq]
 refine hK3 _ ?_
 refine Ad fun K4 hK4=>?_
 simp (disch:=omega) only [amL,sA,sF,↓reduceIte]
 refine hK4 _ ?_
 refine Aj ?_
 try simp (disch:=omega) only [amL]
 refine A6 (res:=.fn (.func 129) [] [.ptr (bd+3) 0,.ptr (bd+4) 0]) (upd (upd os (bd+3) (some (.cells [.p (.sl ((Fy b).map Hy))]))) (bd+4) (some (.cells [i64 b.vs.length]))) (by simp (disch:=omega) only [amL,↓reduceIte]; try rfl) (by simp only [Bz]; exact Sub.refl _) (F3 (F3 hcl (by simp [AV.isP])) (by simp [AV.isP])) ?_ ⟨rfl,rfl⟩
 ·rw [Fr]; simp (disch:=omega) only [Cq,Cm,C8,Ac,Bc,Option.isSome_some,and_self]
theorem Bli {rs:List Rng} {k:Nat} {yv:AV} {F:Nat→Prop} {σ:Type} {go:σ→Prop} {I:σ→(Nat→Option AO)→Prop} {step:σ→List Int→σ × Bool} (hY:Ahk Tryz.prog yv F (avL k) (Bea rs []) go I step) (hcs:yv.cs?=some [yv]) (hrs:∀ r ∈ rs,0≤r.lo∧r.lo≤r.hi∧r.hi≤1000) (hn:rs.length≤100) (hk:2 * k≤rs.length) {nr nk:Nat} (f1:¬ F nr) (f3:¬ F nk) {s:σ} {os:Nat→Option AO} {bd:Nat} (o1:os nr=some (.cells [.p (.sl (rs.map Hy))])) (o3:os nk=some (.cells [i64 (k:Int)])) (hg:go s) (hI:I s os) :
  Bh Tryz.prog bd (.fn (.func 129) [] [.ptr nr 0,.ptr nk 0]) [yv] os fun res os'=>res=.tup []∧I (Gn step s (Bea rs [])).1 os'∧∀ n,¬ F n→os' n=os n:=by
 refine B3 (v:=[]) (q:=[]) (N:=8) (rs:=[]) Tryz.func129 rfl (by kernel_rfl) rfl rfl (fun hcl hfree=>?_)
 have hfr0:∀ k,os (bd+k)=none:=fun k=>hfree _ (by omega)
 have b1:=Ap hfree o1
 have b3:=Ap hfree o3
 have hF:∀ n,F n→n < bd:=fun n hn=>by obtain ⟨o,h,_⟩:=hY.foot s os n hI hn; exact Ap hfree h
 have hlv:=hY.live _ _ hI
 refine Ad fun K1 hK1=>?_
 simp (disch:=omega) only [hfr0,hcs,amL,sA,sB,↓reduceIte]
 refine hK1 _ ?_
 refine Ad fun K2 hK2=>?_
 simp (disch:=omega) only [hfr0,Ac,amL,amT,sA,↓reduceIte]
 refine hK2 _ ?_
 refine Ad fun K3 hK3=>?_
 simp (disch:=omega) only [Bz,amL,amT,sA,sF,↓reduceIte,reduceCtorEq]
 refine hK3 _ ?_
 refine Ah ?_
 simp (disch:=omega) only [amL,amT,sA,sF,↓reduceIte]
 have hcall:=Bh.of_nil0 (Blr hY hrs hn hk (nr:=nr) (ny:=bd+3) (nk:=nk) (nc:=bd+4) f1 (fun h=>by have:=hF _ h; omega) f3 (fun h=>by have:=hF _ h; omega) rs.length [] s (upd (upd os (bd+3) (some (.cells [yv]))) (bd+4) (some (.cells [chF nr (bd+3) nk (bd+4)]))) (bd+8) rfl (Nat.zero_le _) (fun x hx=>hx) ⟨by simp (disch:=omega) only [Ac]; exact o1,by simp (disch:=omega) only [Ac,Bc],by simp (disch:=omega) only [Ac]; exact o3,Bc⟩ hg (hY.stable _ _ _ hI (fun q hq=>by have:=hF q hq; simp (disch:=omega) only [Ac])))
 refine A2 [] (by decide) hcall (fun q hq=>by simp (disch:=omega) only [Ac]; exact hfree q (by omega)) (Nat.le_add_right _ _) (fun res os4 hR hcl4 hlv4=>?_)
 obtain ⟨rfl,hI4,hfr4⟩:=hR
 have hd4:=hY.drop hcl hfree hI hI4 (fun q hq1 hq2=>(hfr4 q hq2).trans (by simp (disch:=omega) only [Ac]))
 simp (disch:=omega) only [amL]
 try simp (disch:=omega) only [o1,o3,hfr0,Ac,Bz,hcs,amL,amT,sA,sB,sC,sD,sE,sF,sG,sH,sI,sJ,sK,sL,sM,sN,sO,↓reduceIte,reduceCtorEq]
 refine A6 (res:=.tup []) (Dt bd os4) rfl (L3 bd os4) hd4.1 (A9 _ rfl) ⟨rfl,hd4.2.1,hd4.2.2⟩
theorem Bod:Ml Tryz.prog 120 8:=Rn (by kernel_rfl)
theorem eqV {v w:List Liq} (hv:OkV v) (hw:OkV w):G0 Tryz.prog .eql 120 (Cn (cW v)) (Cn (cW w))=some (.pure (bl (decide (v=w)))):=by
 have l1:(wI v).length=8:=by rw [Ayj,hv.len]
 have l2:(wI w).length=8:=by rw [Ayj,hw.len]
 rw [Bil,Bil,Nk (by rw [l1]; exact Bod) (by rw [l1,l2]) (Bn4 hv) (Bn4 hw)]
 by_cases e:v=w
 ·subst e; rw [decide_eq_true rfl,decide_eq_true rfl]
 ·rw [decide_eq_false e,decide_eq_false (fun h=>e (Bmy h))]
theorem Boc {nw:Nat} {os:Nat→Option AO} {bd:Nat} (hw:(os nw).isSome=true) :
  Bh Tryz.prog bd (.fn (.func 71) [] []) [.ptr nw 0] os fun res os'=>res=.fn (.func 109) [] [.ptr (bd+1) 0]∧os'=upd os (bd+1) (some (.cells [.ptr nw 0])):=by
 refine B3 (v:=[]) (q:=[]) (N:=4) (rs:=[.tmp 2]) Tryz.func71 rfl (by kernel_rfl) rfl rfl (fun hcl hfree=>?_)
 have hfr0:∀ k,os (bd+k)=none:=fun k=>hfree _ (by omega)
 have hb:nw < bd:=by
  cases Nat.lt_or_ge nw bd with
  | inl h=>exact h
  | inr h=>rw [hfree nw h] at hw; cases hw
 refine Ad fun K1 hK1=>?_
 simp (disch:=omega) only [hfr0,amL,sA,↓reduceIte]
 refine hK1 _ ?_
 refine Ad fun K2 hK2=>?_
 simp (disch:=omega) only [amL,sA,sF,↓reduceIte]
 refine hK2 _ ?_
 refine Aj ?_
 try simp (disch:=omega) only [amL]
 refine A6 (res:=.fn (.func 109) [] [.ptr (bd+1) 0]) (upd os (bd+1) (some (.cells [.ptr nw 0]))) (by simp (disch:=omega) only [amL,↓reduceIte]; try rfl) (by simp only []; exact Sub.refl _) (Cs hcl ?_) ?_ ⟨rfl,rfl⟩
 ·rw [Dw]; simp (disch:=omega) only [Cq,Cm,C8,Ac,hw,and_self]
 ·rw [Fr]; simp (disch:=omega) only [Cq,Cm,C8,Bc,Option.isSome_some,and_self]
abbrev tmE (n1 ny nl nf:Nat):List (Nat × AV):=[(1,.ptr n1 0),(2,.ptr ny 0),(3,.ptr nl 0),(4,.ptr nf 0)]
def Beb (b:Eg) (x:List Int):List Liq:=(Md b (Bfh b.vs.length x)).1
def Be2 (b:Eg) (x:List Int):Bool:=(Md b (Bfh b.vs.length x)).2
def Bh4 {σ:Type} (b:Eg) (step:σ→List Liq→σ × Bool) (s:σ × List Liq × Bool) (x:List Int):(σ × List Liq × Bool) × Option Code:=
  if Be2 b x=false∨(s.2.2=false∧Beb b x=s.2.1) then (s,none)
  else if (step s.1 (Beb b x)).2=true then (((step s.1 (Beb b x)).1,Beb b x,false),none) else (((step s.1 (Beb b x)).1,s.2.1,s.2.2),some .ret)
theorem Bhg {σ:Type} {b:Eg} {step:σ→List Liq→σ × Bool} {s:σ × List Liq × Bool} {x:List Int} (h:Be2 b x=false∨(s.2.2=false∧Beb b x=s.2.1)):Bh4 b step s x=(s,none):=if_pos h
theorem Bhe {σ:Type} {b:Eg} {step:σ→List Liq→σ × Bool} {s:σ × List Liq × Bool} {x:List Int} (h:¬ (Be2 b x=false∨(s.2.2=false∧Beb b x=s.2.1))) (h2:(step s.1 (Beb b x)).2=true):Bh4 b step s x=(((step s.1 (Beb b x)).1,Beb b x,false),none):=(if_neg h).trans (if_pos h2)
theorem Bgp {σ:Type} {b:Eg} {step:σ→List Liq→σ × Bool} {s:σ × List Liq × Bool} {x:List Int} (h:¬ (Be2 b x=false∨(s.2.2=false∧Beb b x=s.2.1))) (h2:(step s.1 (Beb b x)).2=false):Bh4 b step s x=(((step s.1 (Beb b x)).1,s.2.1,s.2.2),some .ret):=(if_neg h).trans (if_neg (by rw [h2]; decide))
structure EnI {σ:Type} (b:Eg) (yv:AV) (I:σ→(Nat→Option AO)→Prop) (n1 nw m ny nl nf:Nat) (s:σ × List Liq × Bool) (os:Nat→Option AO):Prop where
  i:I s.1 os
  w1:os n1=some (.cells [.ptr nw 0])
  wk:Wk b.vs b.ss nw m os
  y:os ny=some (.cells [yv])
  l:os nl=some (.cells (cW s.2.1))
  f:os nf=some (.cells [bl s.2.2])
  ok:OkV s.2.1
def FE (F:Nat→Prop) (n1 nw m ny nl nf n:Nat):Prop:=F n∨n=n1∨n=nw∨n=m∨n=ny∨n=nl∨n=nf
theorem Bnu {b:Eg} {x:List Int} {nw m:Nat} {os:Nat→Option AO} {bd:Nat} (hW:Wk b.vs b.ss nw m os) (hv:N3 b) (hx:x ∈ Bea (Fy b) []) :
    Bh Tryz.prog bd (.fn (.func 61) [] []) [.ptr nw 0,avL b.vs.length x] os fun res os'=>res=.tup [avW (Beb b x),bl (Be2 b x)]∧os'=os:=Ek (t:=Bfh b.vs.length x) hW hv (Bft hx)
theorem Bmc {b:Eg} {yv:AV} {F:Nat→Prop} {σ:Type} {L:List (List Liq)} {go:σ→Prop} {I:σ→(Nat→Option AO)→Prop} {step:σ→List Liq→σ × Bool} (hY:Ahk Tryz.prog yv F avW L go I step) (hL:∀ x ∈ Bea (Fy b) [],Be2 b x=true→Beb b x ∈ L) (hv:N3 b) (own:∀ q,yv.clean q=false→F q) {n1 nw m ny nl nf bdL:Nat} (f1:¬ F n1) (fw:¬ F nw) (fm:¬ F m) (fy:¬ F ny) (fl:¬ F nl) (ff:¬ F nf) (fL:¬ F bdL) (d1:n1 < ny) (dw:nw < ny) (dm:m < ny) (dy:ny < nl) (dl:nl < nf) (df:nf < bdL)
    {A B:Code} (hcode:(Tryz.f109.body.bind Na)=some (A,B)) :
    Bi1 Tryz.prog bdL ⟨33,[10],A,B,.ready,none⟩ (tmE n1 ny nl nf) [61] [] (FE F n1 nw m ny nl nf) (avL b.vs.length) (Bea (Fy b) []) (fun s=>go s.1) (EnI b yv I n1 nw m ny nl nf) (Bh4 b step) where
  ready:=rfl
  lenp:=rfl
  psn q hq:=by
    simp only [List.mem_cons,List.not_mem_nil,or_false] at hq
    subst hq; exact (by decide:10 < 33)
  notF h:=by
    rcases h with h | h | h | h | h | h | h
    · exact fL h
    all_goals omega
  tmF q hq:=by
    simp [AO.clean,AV.clean,AV.clean.cleanL] at hq
    unfold FE; omega
  stable s o1 o2 hI he:=⟨hY.stable _ _ _ hI.i (fun n hn=>he n (.inl hn)),(he n1 (by unfold FE; omega)).trans hI.w1,⟨(he nw (by unfold FE; omega)).trans hI.wk.ow,(he m (by unfold FE; omega)).trans hI.wk.om⟩,(he ny (by unfold FE; omega)).trans hI.y,(he nl (by unfold FE; omega)).trans hI.l,(he nf (by unfold FE; omega)).trans hI.f,hI.ok⟩
  foot s o1 n hI hn:=by
    rcases hn with h | rfl | rfl | rfl | rfl | rfl | rfl
    · obtain ⟨o,h1,h2⟩:=hY.foot _ _ _ hI.i h
      exact ⟨o,h1,fun q hq=>.inl (h2 q hq)⟩
    · exact ⟨_,hI.w1,fun q hq=>by simp [AO.clean,AV.clean,AV.clean.cleanL] at hq; unfold FE; omega⟩
    · exact ⟨_,hI.wk.ow,fun q hq=>by simp [AO.clean,AV.clean,AV.clean.cleanL] at hq; unfold FE; omega⟩
    · exact ⟨_,hI.wk.om,fun q hq=>by simp [AO.clean] at hq⟩
    · exact ⟨_,hI.y,fun q hq=>.inl (own q (by simpa [AO.clean,AV.clean.cleanL] using hq))⟩
    · exact ⟨_,hI.l,fun q hq=>by rw [show (AO.cells (cW s.2.1)).clean q=true from Aor] at hq; cases hq⟩
    · exact ⟨_,hI.f,fun q hq=>by simp [AO.clean,AV.clean,AV.clean.cleanL] at hq⟩
  next s x hx hg hb:=by
    unfold Bh4 at hb ⊢
    split at hb
    · rename_i h; rw [if_pos h]; exact hg
    · rename_i h
      rw [if_neg h]
      split at hb
      · rename_i h2
        rw [if_pos h2]
        refine hY.next _ _ (hL x hx ?_) hg h2
        cases he:Be2 b x with
        | true=>rfl
        | false=>exact absurd (.inl he) h
      · cases hb
  body s x o1 bd1 hx hg hI hl hcl1 hfree1 hb1 rl:=by
    obtain ⟨s,last,first⟩:=s
    obtain ⟨hi,a1,⟨aw,am⟩,ay,al,af,hok⟩:=hI
    dsimp only at hi al af hok hg
    have hfr0:∀ k,o1 (bd1+k)=none:=fun k=>hfree1 _ (by omega)
    have hpp:=Ano hv (Bft hx)
    have hp4:(Beb b x).length=4:=hpp.1
    have hpo:Be2 b x=true→OkV (Beb b x):=hpp.2
    have hlast:=hok.len
    have b1:=Ap hfree1 a1
    have bw:=Ap hfree1 aw
    have bm:=Ap hfree1 am
    have b2:=Ap hfree1 ay
    have b3:=Ap hfree1 al
    have b4:=Ap hfree1 af
    have hF:∀ q,F q→q < bd1∧q≠bdL∧q≠nl∧q≠nf:=fun q hq=>by
      obtain ⟨o,h,_⟩:=hY.foot s o1 q hi hq
      exact ⟨Ap hfree1 h,fun e=>fL (e ▸ hq),fun e=>fl (e ▸ hq),fun e=>ff (e ▸ hq)⟩
    have hlq:∀ {q:Nat} {kk:F0},(AO.loop kk (tmE n1 ny nl nf)).clean q=false→(o1 q).isSome=true∧(q=n1∨q=ny∨q=nl∨q=nf):=fun {q kk} hq=>by
      have e:q=n1∨q=ny∨q=nl∨q=nf:=by
        simp [AO.clean,AV.clean,AV.clean.cleanL] at hq; omega
      refine ⟨?_,e⟩
      rcases e with e | e | e | e <;> rw [e]
      · rw [a1]; rfl
      · rw [ay]; rfl
      · rw [al]; rfl
      · rw [af]; rfl
    have hclL:∀ {os:Nat→Option AO} {kk:F0},(Hp os).closed→(os n1).isSome=true→(os ny).isSome=true→(os nl).isSome=true→(os nf).isSome=true→(Hp (upd os bdL (some (.loop kk (tmE n1 ny nl nf))))).closed:=fun {os kk} hc h1 h2 h3 h4=>Cs hc (fun q hq=>by
      obtain ⟨_,e⟩:=hlq hq
      unfold upd
      split
      · rfl
      · rcases e with e | e | e | e <;> rw [e] <;> assumption)
    have hlv:=hY.live _ _ hi
    have key:(Be2 b x=false∧(Be2 b x=false∨(first=false∧Beb b x=last)))∨(Be2 b x=true∧first=true∧¬ (Be2 b x=false∨(first=false∧Beb b x=last)))∨(Be2 b x=true∧first=false∧Beb b x=last∧(Be2 b x=false∨(first=false∧Beb b x=last)))∨(Be2 b x=true∧first=false∧¬ Beb b x=last∧¬ (Be2 b x=false∨(first=false∧Beb b x=last))):=by
      cases he:Be2 b x with
      | false=>exact .inl ⟨rfl,.inl rfl⟩
      | true=>cases first with
        | true=>exact .inr (.inl ⟨rfl,rfl,by simp⟩)
        | false=>
                   by_cases hev:Beb b x=last
                   · exact .inr (.inr (.inl ⟨rfl,rfl,hev,.inr ⟨rfl,hev⟩⟩))
                   · exact .inr (.inr (.inr ⟨rfl,rfl,hev,by simp [hev]⟩))
    rcases key with ⟨he,hC⟩ | ⟨he,hf,hC⟩ | ⟨he,hf,hev,hC⟩ | ⟨he,hf,hev,hC⟩
    all_goals
      first
        | (have hce:G0 Tryz.prog .eql 120 (Cn (cW (Beb b x))) (Cn (cW last))=some (.pure (bl true)):=by rw [eqV (hpo he) hok,decide_eq_true hev])
        | (have hce:G0 Tryz.prog .eql 120 (Cn (cW (Beb b x))) (Cn (cW last))=some (.pure (bl false)):=by rw [eqV (hpo he) hok,decide_eq_false hev])
        | (have hce:=he)
      cases (show some (_,_)=some (A,B) from hcode)
      have he:=he
      have hce:=hce
      first | (have hf:=hf) | (have hf:=he)
      show AWP _ _ 33 _ ⟨T [(10,avL b.vs.length x),(1,.ptr n1 0),(2,.ptr ny 0),(3,.ptr nl 0),(4,.ptr nf 0)],o1⟩ _
      refine Ah ?_
      simp (disch:=omega) only [hl,hfr0,Ac,Bz,amL,amT,sA,sB,sF,↓reduceIte]
      try simp (disch:=omega) only [hl,hfr0,Ac,Bz,amL,amT,sA,sB,sC,sD,sE,sF,sG,sH,sI,sJ,sK,sL,sM,sN,sO,↓reduceIte,reduceCtorEq]
      skip
      refine Au ?_
      refine Ad fun K1 hK1=>?_
      simp (disch:=(first | assumption | omega)) only [a1,Ac,amL,amT,sA,sB,sF,↓reduceIte]
      refine Cc (bd:=bd1+33) (by decide) (Bnu (b:=b) (x:=x) (nw:=nw) (m:=m) ⟨by simp (disch:=omega) only [Ac]; exact aw,by simp (disch:=omega) only [Ac]; exact am⟩ hv hx) (fun q hq=>by simp (disch:=omega) only [Ac]; exact hfree1 q (by omega)) (Nat.le_add_right _ _) (D7 _ _) ?_
      simp (disch:=(first | assumption | omega)) only [hfr0,Ac,Bz,A0,Aio,he,amL,amT,sA,sB,sF,↓reduceIte]
      refine hK1 _ ?_
      refine Ab fun K2 hK2=>?_
      refine Ad fun K3 hK3=>?_
      simp (disch:=(first | assumption | omega)) only [al,af,Ac,Br,A0,hce,hf,amL,amT,sA,sF,↓reduceIte]
      repeat' first | (refine E3 (fun h=>?_) (fun h=>?_) <;> simp (disch:=(first | assumption | omega)) only [h,a1,aw,am,ay,al,af,hl,hfr0,Ac,Bz,Br,A0,Aio,he,hce,hf,ne_eq,W3,Ae8,amL,amT,sA,sB,sC,sD,sE,sF,sG,sH,sI,sJ,sK,sL,sM,sN,sO,↓reduceIte,reduceCtorEq]) | (refine Cz (fun h=>?_) (fun h=>?_) <;> simp (disch:=(first | assumption | omega)) only [h,a1,aw,am,ay,al,af,hl,hfr0,Ac,Bz,Br,A0,Aio,he,hce,hf,ne_eq,W3,Ae8,amL,amT,sA,sB,sC,sD,sE,sF,sG,sH,sI,sJ,sK,sL,sM,sN,sO,↓reduceIte,reduceCtorEq])
      all_goals
       skip
       refine hK3 _ ?_
       refine Al rfl (fun h=>MT.x ?_) (fun h=>ME.x ?_)
       all_goals
        first
        |refine MT.mk ?_
         first
         |exact Bool.noConfusion h
         |skip
          try simp only [] at h
          refine Bq ?_
          try simp (disch:=(first | assumption | omega)) only [hf]
          first
            | (try subst hf
               have hb:=Bhg (step:=step) (s:=(s,last,_)) hC
               simp only [Bge,Sj,reduceIte,W3]
               refine Qj o1 (by simp (disch:=omega) only [Ac,Bc]) (fun z=>?_) hcl1 ⟨by rw [hb] ; first | done | rfl,⟨by rw [hb]; exact ⟨hi,a1,⟨aw,am⟩,ay,al,af,hok⟩,by rw [hb]; exact hl⟩,fun _ _=>rfl⟩
               by_cases e1:z=bdL
               · subst e1; right; rw [Bc]; exact hl
               · by_cases e4:bd1≤z
                 · left; exact hfree1 z e4
                 · right; simp (disch:=omega) only [Ac])
            | (try subst hf
               have hst:(step s (Beb b x)).2=false:=by assumption
               have hb:=Bgp (step:=step) (s:=(s,last,_)) hC hst
               dsimp only at hb
               refine Qj (upd (Dt bd1 os4) bdL (some (.loop (Apv _ (some .ret)) (tmE n1 ny nl nf)))) rL (fun z=>?_) (hclL hd4.1 (by rw [g1]; rfl) (by rw [gy]; rfl) (by rw [gl]; rfl) (by rw [gf]; rfl)) ⟨by rw [hb] ; first | done | rfl,⟨?_,by rw [hb,Bc]⟩,fun n hn=>?_⟩
               · by_cases e1:z=bdL
                 · subst e1; right; rw [Bc,Bc] ; first | done | rfl
                 · rw [Ac e1,Ac e1]; exact L3 bd1 os4 z
               · rw [hb]
                 exact ⟨hY.stable _ _ _ hd4.2.1 (fun q hq=>Ac (hF q hq).2.1),(Ac (by omega)).trans g1,⟨(Ac (by omega)).trans gw,(Ac (by omega)).trans gm⟩,(Ac (by omega)).trans gy,(Ac (by omega)).trans gl,(Ac (by omega)).trans gf,hok⟩
               · have e1:n≠bdL:=fun e=>hn (.inr e)
                 rw [Ac e1,gL n (fun h=>hn (.inl (.inl h))),Ac e1])
            | (try subst hf
               have hst:(step s (Beb b x)).2=true:=by assumption
               have hb:=Bhe (step:=step) (s:=(s,last,_)) hC hst
               dsimp only at hb
               refine Qj (upd (upd (upd (Dt bd1 os4) nl (some (.cells (cW (Beb b x))))) nf (some (.cells [bl false]))) bdL (some (.loop (Apv _ none) (tmE n1 ny nl nf)))) (by simp (disch:=omega) only [Ac]; exact rL) (fun z=>?_) (hclL (F3 (Ee hd4.1) (by simp [AV.isP])) (by simp (disch:=omega) only [Ac]; rw [g1]; rfl) (by simp (disch:=omega) only [Ac]; rw [gy]; rfl) (by simp (disch:=omega) only [Ac,Bc,Option.isSome_some]) (by simp (disch:=omega) only [Bc,Option.isSome_some])) ⟨by rw [hb] ; first | done | rfl,⟨?_,by rw [hb,Bc]⟩,fun n hn=>?_⟩
               · by_cases e1:z=bdL
                 · subst e1; right; rw [Bc,Bc] ; first | done | rfl
                 · by_cases e2:z=nf
                   · subst e2; right; simp (disch:=omega) only [Ac,Bc]
                   · by_cases e3:z=nl
                     · subst e3; right; simp (disch:=omega) only [Ac,Bc] ; first | done | rfl | (rw [Cb (by omega)])
                     · rw [Ac e1,Ac e2,Ac e3]
                       rcases L3 bd1 os4 z with h0 | h0
                       · exact .inl h0
                       · right; rw [h0]; simp (disch:=omega) only [Ac]
               · rw [hb]
                 exact ⟨hY.stable _ _ _ hd4.2.1 (fun q hq=>by obtain ⟨_,_,_,_⟩:=hF q hq; simp (disch:=omega) only [Ac]),by simp (disch:=omega) only [Ac]; exact g1,⟨by simp (disch:=omega) only [Ac]; exact gw,by simp (disch:=omega) only [Ac]; exact gm⟩,by simp (disch:=omega) only [Ac]; exact gy,by simp (disch:=omega) only [Ac,Bc],by simp (disch:=omega) only [Ac,Bc],hpo he⟩
               · have e1:n≠bdL:=fun e=>hn (.inr e)
                 have e2:n≠nl:=fun e=>hn (.inl (by unfold FE; omega))
                 have e3:n≠nf:=fun e=>hn (.inl (by unfold FE; omega))
                 rw [Ac e1,Ac e3,Ac e2,gL n (fun h=>hn (.inl (.inl h))),Ac e1])
        |refine ME.mk ?_
         first
         |exact Bool.noConfusion h
         |skip
          try simp only [] at h
          refine Am ?_
          refine hK2 _ ?_
       all_goals
        skip
        refine Ab fun K4 hK4=>?_
        refine Ad fun K5 hK5=>?_
        simp (disch:=(first | assumption | omega)) only [ay,Ac,Br,A0,amL,amT,sA,sF,↓reduceIte]
        have hcall:=fun os h1 h2=>hY.call s (Beb b x) os (bd1+33) (hL x hx he) hg h1 h2
        refine A2 [(1,.ptr n1 0),(2,.ptr ny 0),(3,.ptr nl 0),(4,.ptr nf 0),(6,.ptr (bd1+6) 0)] (by decide) (hcall _ (hY.stable _ _ _ hi (fun q hq=>by obtain ⟨_,_,_,_⟩:=hF q hq; simp (disch:=omega) only [Ac])) (Ee (hclL (F3 hcl1 (by simp [AV.isP])) (by simp (disch:=omega) only [Ac,a1,Option.isSome_some]) (by simp (disch:=omega) only [Ac,ay,Option.isSome_some]) (by simp (disch:=omega) only [Ac,al,Option.isSome_some]) (by simp (disch:=omega) only [Ac,af,Option.isSome_some])))) (fun q hq=>by simp (disch:=omega) only [Ac]; exact hfree1 q (by omega)) (Nat.le_add_right _ _) (fun res os4 hR hcl4 hlv4=>?_)
        obtain ⟨rfl,hI4,hfr4⟩:=hR
        have r1:os4 n1=some (.cells [.ptr nw 0]):=(hfr4 n1 f1).trans (by simp (disch:=omega) only [Ac]; exact a1)
        have rw':os4 nw=some (.cells [.p (slV b.vs),.p (slS b.ss),.mp m]):=(hfr4 nw fw).trans (by simp (disch:=omega) only [Ac]; exact aw)
        have rm:os4 m=some (.obj (F8 14 (Si b.vs))):=(hfr4 m fm).trans (by simp (disch:=omega) only [Ac]; exact am)
        have ry:os4 ny=some (.cells [yv]):=(hfr4 ny fy).trans (by simp (disch:=omega) only [Ac]; exact ay)
        have rl':os4 nl=some (.cells (cW last)):=(hfr4 nl fl).trans (by simp (disch:=omega) only [Ac]; exact al)
        have rf:os4 nf=some (.cells [bl first]):=(hfr4 nf ff).trans (by simp (disch:=omega) only [Ac]; exact af)
        have r6:os4 (bd1+6)=some (.cells (cW (Beb b x))):=(hfr4 (bd1+6) (fun h=>by have:=(hF _ h).1; omega)).trans Bc
        have rL:os4 bdL=_:=(hfr4 bdL fL).trans ((Ac (by omega)).trans Bc)
        have hd4:=hY.drop (bd:=bd1) (os:=upd o1 bdL (os4 bdL)) (os2:=os4) (by rw [rL]; exact hclL hcl1 (by rw [a1]; rfl) (by rw [ay]; rfl) (by rw [al]; rfl) (by rw [af]; rfl)) (fun q hq=>(Ac (by omega)).trans (hfree1 q hq)) (hY.stable _ _ _ hi (fun q hq=>Ac (hF q hq).2.1)) hI4 (fun q hq1 hq2=>by
          by_cases e:q=bdL
          · subst e; rw [Bc]
          · rw [Ac e]; exact (hfr4 q hq2).trans (by simp (disch:=omega) only [Ac]))
        have g1:=(Fq b1).trans r1
        have gw:=(Fq bw).trans rw'
        have gm:=(Fq bm).trans rm
        have gy:=(Fq b2).trans ry
        have gl:=(Fq b3).trans rl'
        have gf:=(Fq b4).trans rf
        have gL:=hd4.2.2
        simp (disch:=(first | assumption | omega)) only [amL,sA,sF,↓reduceIte]
        refine ⟨⟨by rw [r1]; rfl,by rw [ry]; rfl,by rw [rl']; rfl,by rw [rf]; rfl,by rw [r6]; rfl⟩,?_⟩
        refine hK5 _ ?_
        refine Al rfl (fun h=>MT.x ?_) (fun h=>ME.x ?_)
        all_goals
         first
         |refine MT.mk ?_
          first
          |exact Bool.noConfusion h
          |skip
           try simp only [nrm] at h
           refine Aj ?_
           try simp (disch:=(first | assumption | omega)) only [hf,Ae8,amL]
           first
             | (try subst hf
                have hb:=Bhg (step:=step) (s:=(s,last,_)) hC
                simp only [Bge,Sj,reduceIte,W3]
                refine Qj o1 (by simp (disch:=omega) only [Ac,Bc]) (fun z=>?_) hcl1 ⟨by rw [hb] ; first | done | rfl,⟨by rw [hb]; exact ⟨hi,a1,⟨aw,am⟩,ay,al,af,hok⟩,by rw [hb]; exact hl⟩,fun _ _=>rfl⟩
                by_cases e1:z=bdL
                · subst e1; right; rw [Bc]; exact hl
                · by_cases e4:bd1≤z
                  · left; exact hfree1 z e4
                  · right; simp (disch:=omega) only [Ac])
             | (try subst hf
                have hst:(step s (Beb b x)).2=false:=by assumption
                have hb:=Bgp (step:=step) (s:=(s,last,_)) hC hst
                dsimp only at hb
                refine Qj (upd (Dt bd1 os4) bdL (some (.loop (Apv _ (some .ret)) (tmE n1 ny nl nf)))) rL (fun z=>?_) (hclL hd4.1 (by rw [g1]; rfl) (by rw [gy]; rfl) (by rw [gl]; rfl) (by rw [gf]; rfl)) ⟨by rw [hb] ; first | done | rfl,⟨?_,by rw [hb,Bc]⟩,fun n hn=>?_⟩
                · by_cases e1:z=bdL
                  · subst e1; right; rw [Bc,Bc] ; first | done | rfl
                  · rw [Ac e1,Ac e1]; exact L3 bd1 os4 z
                · rw [hb]
                  exact ⟨hY.stable _ _ _ hd4.2.1 (fun q hq=>Ac (hF q hq).2.1),(Ac (by omega)).trans g1,⟨(Ac (by omega)).trans gw,(Ac (by omega)).trans gm⟩,(Ac (by omega)).trans gy,(Ac (by omega)).trans gl,(Ac (by omega)).trans gf,hok⟩
                · have e1:n≠bdL:=fun e=>hn (.inr e)
                  rw [Ac e1,gL n (fun h=>hn (.inl (.inl h))),Ac e1])
             | (try subst hf
                have hst:(step s (Beb b x)).2=true:=by assumption
                have hb:=Bhe (step:=step) (s:=(s,last,_)) hC hst
                dsimp only at hb
                refine Qj (upd (upd (upd (Dt bd1 os4) nl (some (.cells (cW (Beb b x))))) nf (some (.cells [bl false]))) bdL (some (.loop (Apv _ none) (tmE n1 ny nl nf)))) (by simp (disch:=omega) only [Ac]; exact rL) (fun z=>?_) (hclL (F3 (Ee hd4.1) (by simp [AV.isP])) (by simp (disch:=omega) only [Ac]; rw [g1]; rfl) (by simp (disch:=omega) only [Ac]; rw [gy]; rfl) (by simp (disch:=omega) only [Ac,Bc,Option.isSome_some]) (by simp (disch:=omega) only [Bc,Option.isSome_some])) ⟨by rw [hb] ; first | done | rfl,⟨?_,by rw [hb,Bc]⟩,fun n hn=>?_⟩
                · by_cases e1:z=bdL
                  · subst e1; right; rw [Bc,Bc] ; first | done | rfl
                  · by_cases e2:z=nf
                    · subst e2; right; simp (disch:=omega) only [Ac,Bc]
                    · by_cases e3:z=nl
                      · subst e3; right; simp (disch:=omega) only [Ac,Bc] ; first | done | rfl | (rw [Cb (by omega)])
                      · rw [Ac e1,Ac e2,Ac e3]
                        rcases L3 bd1 os4 z with h0 | h0
                        · exact .inl h0
                        · right; rw [h0]; simp (disch:=omega) only [Ac]
                · rw [hb]
                  exact ⟨hY.stable _ _ _ hd4.2.1 (fun q hq=>by obtain ⟨_,_,_,_⟩:=hF q hq; simp (disch:=omega) only [Ac]),by simp (disch:=omega) only [Ac]; exact g1,⟨by simp (disch:=omega) only [Ac]; exact gw,by simp (disch:=omega) only [Ac]; exact gm⟩,by simp (disch:=omega) only [Ac]; exact gy,by simp (disch:=omega) only [Ac,Bc],by simp (disch:=omega) only [Ac,Bc],hpo he⟩
                · have e1:n≠bdL:=fun e=>hn (.inr e)
                  have e2:n≠nl:=fun e=>hn (.inl (by unfold FE; omega))
                  have e3:n≠nf:=fun e=>hn (.inl (by unfold FE; omega))
                  rw [Ac e1,Ac e3,Ac e2,gL n (fun h=>hn (.inl (.inl h))),Ac e1])
         |refine ME.mk ?_
          first
          |exact Bool.noConfusion h
          |skip
           try simp only [nrm] at h
           refine Am ?_
           refine hK4 _ ?_
        all_goals
         skip
         refine Ah ?_
         simp (disch:=(first | assumption | omega)) only [rl',rf,r6,Br,A0,Ac,Br,A0,hf,W3,amL,amT,sF,↓reduceIte]
         try simp (disch:=(first | assumption | omega)) only [a1,aw,am,ay,al,af,hl,hfr0,Ac,Bz,Br,A0,Aio,he,hce,hf,ne_eq,W3,Ae8,amL,amT,sA,sB,sC,sD,sE,sF,sG,sH,sI,sJ,sK,sL,sM,sN,sO,↓reduceIte,reduceCtorEq]
         first
           | (try subst hf
              have hb:=Bhg (step:=step) (s:=(s,last,_)) hC
              simp only [Bge,Sj,reduceIte,W3]
              refine Qj o1 (by simp (disch:=omega) only [Ac,Bc]) (fun z=>?_) hcl1 ⟨by rw [hb] ; first | done | rfl,⟨by rw [hb]; exact ⟨hi,a1,⟨aw,am⟩,ay,al,af,hok⟩,by rw [hb]; exact hl⟩,fun _ _=>rfl⟩
              by_cases e1:z=bdL
              · subst e1; right; rw [Bc]; exact hl
              · by_cases e4:bd1≤z
                · left; exact hfree1 z e4
                · right; simp (disch:=omega) only [Ac])
           | (try subst hf
              have hst:(step s (Beb b x)).2=false:=by assumption
              have hb:=Bgp (step:=step) (s:=(s,last,_)) hC hst
              dsimp only at hb
              refine Qj (upd (Dt bd1 os4) bdL (some (.loop (Apv _ (some .ret)) (tmE n1 ny nl nf)))) rL (fun z=>?_) (hclL hd4.1 (by rw [g1]; rfl) (by rw [gy]; rfl) (by rw [gl]; rfl) (by rw [gf]; rfl)) ⟨by rw [hb] ; first | done | rfl,⟨?_,by rw [hb,Bc]⟩,fun n hn=>?_⟩
              · by_cases e1:z=bdL
                · subst e1; right; rw [Bc,Bc] ; first | done | rfl
                · rw [Ac e1,Ac e1]; exact L3 bd1 os4 z
              · rw [hb]
                exact ⟨hY.stable _ _ _ hd4.2.1 (fun q hq=>Ac (hF q hq).2.1),(Ac (by omega)).trans g1,⟨(Ac (by omega)).trans gw,(Ac (by omega)).trans gm⟩,(Ac (by omega)).trans gy,(Ac (by omega)).trans gl,(Ac (by omega)).trans gf,hok⟩
              · have e1:n≠bdL:=fun e=>hn (.inr e)
                rw [Ac e1,gL n (fun h=>hn (.inl (.inl h))),Ac e1])
           | (try subst hf
              have hst:(step s (Beb b x)).2=true:=by assumption
              have hb:=Bhe (step:=step) (s:=(s,last,_)) hC hst
              dsimp only at hb
              refine Qj (upd (upd (upd (Dt bd1 os4) nl (some (.cells (cW (Beb b x))))) nf (some (.cells [bl false]))) bdL (some (.loop (Apv _ none) (tmE n1 ny nl nf)))) (by simp (disch:=omega) only [Ac]; exact rL) (fun z=>?_) (hclL (F3 (Ee hd4.1) (by simp [AV.isP])) (by simp (disch:=omega) only [Ac]; rw [g1]; rfl) (by simp (disch:=omega) only [Ac]; rw [gy]; rfl) (by simp (disch:=omega) only [Ac,Bc,Option.isSome_some]) (by simp (disch:=omega) only [Bc,Option.isSome_some])) ⟨by rw [hb] ; first | done | rfl,⟨?_,by rw [hb,Bc]⟩,fun n hn=>?_⟩
              · by_cases e1:z=bdL
                · subst e1; right; rw [Bc,Bc] ; first | done | rfl
                · by_cases e2:z=nf
                  · subst e2; right; simp (disch:=omega) only [Ac,Bc]
                  · by_cases e3:z=nl
                    · subst e3; right; simp (disch:=omega) only [Ac,Bc] ; first | done | rfl | (rw [Cb (by omega)])
                    · rw [Ac e1,Ac e2,Ac e3]
                      rcases L3 bd1 os4 z with h0 | h0
                      · exact .inl h0
                      · right; rw [h0]; simp (disch:=omega) only [Ac]
              · rw [hb]
                exact ⟨hY.stable _ _ _ hd4.2.1 (fun q hq=>by obtain ⟨_,_,_,_⟩:=hF q hq; simp (disch:=omega) only [Ac]),by simp (disch:=omega) only [Ac]; exact g1,⟨by simp (disch:=omega) only [Ac]; exact gw,by simp (disch:=omega) only [Ac]; exact gm⟩,by simp (disch:=omega) only [Ac]; exact gy,by simp (disch:=omega) only [Ac,Bc],by simp (disch:=omega) only [Ac,Bc],hpo he⟩
              · have e1:n≠bdL:=fun e=>hn (.inr e)
                have e2:n≠nl:=fun e=>hn (.inl (by unfold FE; omega))
                have e3:n≠nf:=fun e=>hn (.inl (by unfold FE; omega))
                rw [Ac e1,Ac e3,Ac e2,gL n (fun h=>hn (.inl (.inl h))),Ac e1])
def Bfy (b:Eg):List Liq→Bool→List (List Int)→List (List Liq)
 | _,_,[]=>[]
 | last,first,x :: l=>if Be2 b x=false∨(first=false∧Beb b x=last) then Bfy b last first l else Beb b x :: Bfy b (Beb b x) false l
def Beu (b:Eg):List (List Liq):=Bfy b v0 true (Bea (Fy b) [])
theorem Bka {σ:Type} {b:Eg} {step:σ→List Liq→σ × Bool}:∀ (l:List (List Int)) (s:σ) (last:List Liq) (first:Bool),
  (Gn (fun (s:(σ × List Liq × Bool) × Option Code) x=>(Bh4 b step s.1 x,(Bh4 b step s.1 x).2.isNone)) ((s,last,first),none) l).1.1.1=(Gn step s (Bfy b last first l)).1 ∧
  ((Gn (fun (s:(σ × List Liq × Bool) × Option Code) x=>(Bh4 b step s.1 x,(Bh4 b step s.1 x).2.isNone)) ((s,last,first),none) l).1.2=none∨(Gn (fun (s:(σ × List Liq × Bool) × Option Code) x=>(Bh4 b step s.1 x,(Bh4 b step s.1 x).2.isNone)) ((s,last,first),none) l).1.2=some .ret)
 | [],s,last,first=>⟨rfl,.inl rfl⟩
 | x :: l,s,last,first=>by
  by_cases hC:Be2 b x=false∨(first=false∧Beb b x=last)
  ·have hb:=Bhg (step:=step) (s:=(s,last,first)) hC
   simp only [Gn,hb,Option.isNone_none,if_true,Bfy,if_pos hC]
   exact Bka l s last first
  ·cases hs:(step s (Beb b x)).2 with
   | true=>
    have hb:=Bhe (step:=step) (s:=(s,last,first)) hC hs
    simp only [Gn,hb,Option.isNone_none,if_true,Bfy,if_neg hC,hs]
    exact Bka l _ _ _
   | false=>
    have hb:=Bgp (step:=step) (s:=(s,last,first)) hC hs
    simp only [Gn,hb,Option.isNone_some,Bool.false_eq_true,if_false,Bfy,if_neg hC,hs]
    exact ⟨trivial,.inr trivial⟩
theorem Bng {b:Eg} (hv:N3 b):∀ r ∈ Fy b,0≤r.lo∧r.lo≤r.hi∧r.hi≤1000:=by
 intro r hr
 unfold Fy at hr
 simp only [List.mem_append,List.mem_map] at hr
 rcases hr with (⟨v,h1,rfl⟩ | ⟨v,h1,rfl⟩) | ⟨s,h1,rfl⟩
 ·have h:=Da (C9 (List.all_eq_true.1 hv.v v h1)).1
  omega
 ·have h:=Da (C9 (List.all_eq_true.1 hv.v v h1)).2.1
  omega
 ·have h:=Da (Fp (List.all_eq_true.1 hv.s s h1)).2.2.2.2
  omega
abbrev osE (os:Nat→Option AO) (bd:Nat) (b:Eg) (yv:AV):Nat→Option AO:=
 upd (upd (upd (upd (upd os (bd+2) (some (.cells [yv]))) (bd+3) (some (.cells (cW v0)))) (bd+4) (some (.cells [bl true]))) (bd+33+3) (some (.cells [.p (.sl ((Fy b).map Hy))]))) (bd+33+4) (some (.cells [i64 b.vs.length]))
theorem Bns {b:Eg} {yv:AV} {F:Nat→Prop} {σ:Type} {L:List (List Liq)} {go:σ→Prop} {I:σ→(Nat→Option AO)→Prop} {step:σ→List Liq→σ × Bool} (hY:Ahk Tryz.prog yv F avW L go I step) (hcs:yv.cs?=some [yv]) (hL:∀ x ∈ Bea (Fy b) [],Be2 b x=true→Beb b x ∈ L) (hv:N3 b) (own:∀ q,yv.clean q=false→F q) {n1 nw m:Nat} (f1:¬ F n1) (fw:¬ F nw) (fm:¬ F m) {s:σ} {os:Nat→Option AO} {bd:Nat} (o1:os n1=some (.cells [.ptr nw 0])) (hW:Wk b.vs b.ss nw m os) (hg:go s) (hI:I s os) :
  Bh Tryz.prog bd (.fn (.func 109) [] [.ptr n1 0]) [yv] os fun res os'=>res=.tup []∧I (Gn step s (Beu b)).1 os'∧∀ n,¬ F n→os' n=os n:=by
 refine Xs (v:=[110]) (q:=[]) (N:=33) (rs:=[]) Tryz.func109 rfl (by kernel_rfl) rfl rfl (fun hcl hfree=>?_)
 have hfr0:∀ k,os (bd+k)=none:=fun k=>hfree _ (by omega)
 have ow:=hW.ow
 have om:=hW.om
 have b1:=Ap hfree o1
 have bw:=Ap hfree ow
 have bm:=Ap hfree om
 have hF:∀ q,F q→q < bd:=fun q hq=>by obtain ⟨o,h,_⟩:=hY.foot s os q hI hq; exact Ap hfree h
 have hFb:∀ k,¬ F (bd+k):=fun k h=>by have:=hF _ h; omega
 have hlv:=hY.live _ _ hI
 have hnv:=hv.nv
 have hns:=hv.ns
 obtain ⟨A,B,hcode⟩:∃ A B,(Tryz.f109.body.bind Na)=some (A,B):=⟨_,_,rfl⟩
 have hRd:=Bmc (step:=step) (n1:=n1) (nw:=nw) (m:=m) (ny:=bd+2) (nl:=bd+3) (nf:=bd+4) (bdL:=bd+40) hY hL hv own f1 fw fm (hFb 2) (hFb 3) (hFb 4) (hFb 40) (by omega) (by omega) (by omega) (by omega) (by omega) (by omega) hcode
 refine Ls fun K1 hK1=>?_
 refine Ah ?_
 simp (disch:=(first | assumption | omega)) only [hfr0,hcs,amL,sA,sB,↓reduceIte]
 refine hK1 _ ?_
 refine Ls fun K2 hK2=>?_
 refine Ah ?_
 simp (disch:=(first | assumption | omega)) only [hfr0,Ac,amL,amT,sA,sB,↓reduceIte]
 refine hK2 _ ?_
 refine Ls fun K3 hK3=>?_
 refine Ah ?_
 simp (disch:=(first | assumption | omega)) only [hfr0,Ac,Bz,amL,amT,sA,↓reduceIte]
 refine hK3 _ ?_
 refine Ls fun K4 hK4=>?_
 refine Ah ?_
 simp (disch:=(first | assumption | omega)) only [o1,Ac,amL,amT,sA,sF,↓reduceIte,reduceCtorEq]
 refine A2 [(1,.ptr n1 0),(2,.ptr (bd+2) 0),(3,.ptr (bd+3) 0),(4,.ptr (bd+4) 0)] (by decide) (Bm4 (b:=b) (nw:=nw) (m:=m) (bd:=bd+33) (by omega) (by omega) (by simp (disch:=omega) only [Ac]; exact ow)) (fun q hq=>by simp (disch:=omega) only [Ac]; exact hfree q (by omega)) (Nat.le_add_right _ _) (fun res os2 hR hcl2 hlv2=>?_)
 obtain ⟨rfl,rfl⟩:=hR
 simp (disch:=(first | assumption | omega)) only [o1,Ac,amL,sF,↓reduceIte,reduceCtorEq]
 refine hK4 _ ?_
 refine Vm ?_
 have hI0:EnI b yv I n1 nw m (bd+2) (bd+3) (bd+4) (s,v0,true) (upd (osE os bd b yv) (bd+40) (some (.loop ⟨33,[10],A,B,.ready,none⟩ (tmE n1 (bd+2) (bd+3) (bd+4))))):=⟨hY.stable _ _ _ hI (fun q hq=>by have:=hF q hq; simp (disch:=omega) only [Ac]),by simp (disch:=omega) only [Ac]; exact o1,⟨by simp (disch:=omega) only [Ac]; exact ow,by simp (disch:=omega) only [Ac]; exact om⟩,by simp (disch:=omega) only [Ac,Bc],by simp (disch:=omega) only [Ac,Bc],by simp (disch:=omega) only [Ac,Bc],Ale⟩
 have hnF:∀ k,k=36∨k=37→¬ (FE F n1 nw m (bd+2) (bd+3) (bd+4) (bd+k)∨bd+k=bd+40):=fun k hk h=>by
  rcases h with h | h
  ·unfold FE at h
   rcases h with h | h
   ·exact hFb k h
   ·omega
  ·omega
 have hc:=Bli hRd.yields rfl (Bng hv) (by rw [Qo]; omega) (by rw [Qo]; omega) (nr:=bd+33+3) (nk:=bd+33+4) (s:=((s,v0,true),none)) (bd:=bd+41) (os:=upd (osE os bd b yv) (bd+40) (some (.loop ⟨33,[10],A,B,.ready,none⟩ (tmE n1 (bd+2) (bd+3) (bd+4))))) (hnF 36 (.inl rfl)) (hnF 37 (.inr rfl)) (by simp (disch:=omega) only [Ac,Bc]) (by simp (disch:=omega) only [Ac,Bc]) ⟨rfl,hg⟩ ⟨hI0,Bc⟩
 cases (show some (_,_)=some (A,B) from hcode)
 refine My (bd:=bd+40) (tm:=tmE n1 (bd+2) (bd+3) (bd+4)) rfl (fun q hq=>by simp (disch:=omega) only [Ac]; exact hfree q (by omega)) (by simp only []; omega) rfl (by kernel_rfl) (fun i=>Aal (by simp (disch:=(first | assumption | omega)) only [amL,sF,↓reduceIte]) i) (Axa (by simp (disch:=(first | assumption | omega)) only [amL,sF,↓reduceIte])) hc (fun res os2 hR hcl2=>?_)
 obtain ⟨rfl,hI2,hfr2⟩:=hR
 obtain ⟨e1,e2⟩:=Bka (b:=b) (step:=step) (Bea (Fy b) []) s v0 true
 have hfin:∀ X,Acx Tryz.prog [] (fun res os'=>res=.tup []∧I (Gn step s (Beu b)).1 os'∧∀ n,¬ F n→os' n=os n) ⟨T (tmE n1 (bd+2) (bd+3) (bd+4)),upd os2 (bd+40) X⟩:=fun X=>by
  have hI3:=hI2.1.i
  rw [e1] at hI3
  have hd:=hY.drop (bd:=bd) hcl hfree hI hI3 (fun q hq1 hq2=>by
   by_cases c1:q=n1
   ·rw [c1,hI2.1.w1,o1]
   ·by_cases c2:q=nw
    ·rw [c2,hI2.1.wk.ow,ow]
    ·by_cases c3:q=m
     ·rw [c3,hI2.1.wk.om,om]
     ·rw [hfr2 q (fun h=>by
       rcases h with h | h
       ·unfold FE at h
        rcases h with h | h
        ·exact hq2 h
        ·omega
       ·omega)]
      simp (disch:=omega) only [Ac])
  exact A6 (res:=.tup []) (Dt bd os2) rfl (fun n=>by
   by_cases e:n=bd+40
   ·left; rw [e]; exact Sl (by omega)
   ·show Dt bd os2 n=none∨Dt bd os2 n=upd os2 (bd+40) X n
    rw [Ac e]; exact L3 bd os2 n) hd.1 (A9 _ rfl) ⟨rfl,hd.2.1,hd.2.2⟩
 rcases e2 with e2 | e2
 ·refine ⟨_,hI2.2,by rw [e2]; simp [],?_⟩
  rw [e2]
  exact hfin _
 ·refine ⟨_,hI2.2,by rw [e2]; simp [],?_⟩
  rw [e2]
  exact hfin _
theorem Boz {x:List Liq} {i:Nat} (h:i < x.length):(if 2≤(List.drop (i * 2) (cW x)).length then some (AV.agg (List.take 2 (List.drop (i * 2) (cW x)))) else none)=some (.agg [i64 (x.getD i default).g,i64 (x.getD i default).e]):=by
 rw [B9 h]; simp
theorem Bgt {b:Eg} {P:List Liq→Prop}:∀ (l:List (List Int)) (last:List Liq) (first:Bool),(∀ x ∈ l,Be2 b x=true→P (Beb b x))→∀ v ∈ Bfy b last first l,P v
 | [],_,_,_,v,hv=>by cases hv
 | x :: l,last,first,h,v,hv=>by
  unfold Bfy at hv
  split at hv
  ·exact Bgt l _ _ (fun y hy=>h y (by simp [hy])) v hv
  ·rename_i hC
   rcases List.mem_cons.1 hv with rfl | hv
   ·refine h x (by simp) ?_
    cases he:Be2 b x with
    | true=>rfl
    | false=>exact absurd (.inl he) hC
   ·exact Bgt l _ _ (fun y hy=>h y (by simp [hy])) v hv
theorem Bf6 {b:Eg} {x:List Int}:∀ (l:List (List Int)) (last:List Liq) (first:Bool),x ∈ l→Be2 b x=true→Beb b x ∈ Bfy b last first l∨(first=false∧Beb b x=last)
 | [],_,_,h,_=>by cases h
 | y :: l,last,first,h,he=>by
  unfold Bfy
  split
  ·rename_i hC
   rcases List.mem_cons.1 h with rfl | h
   ·rcases hC with hC | hC
    ·rw [he] at hC; cases hC
    ·exact .inr hC
   ·exact Bf6 l last first h he
  ·rcases List.mem_cons.1 h with rfl | h
   ·exact .inl (List.mem_cons_self ..)
   ·rcases Bf6 l (Beb b y) false h he with h1 | h1
    ·exact .inl (List.mem_cons_of_mem _ h1)
    ·left; rw [h1.2]; exact List.mem_cons_self ..
theorem Bo7 {x:List Liq} {i:Nat} (h:i < x.length):Ai true 2 (List.drop (i * 2) (cW x))=some (.agg [i64 (x.getD i default).g,i64 (x.getD i default).e]):=by
  rw [B9 h]; rfl
theorem Bl1 (v:List Liq) (r:Rdg) (hv:OkV v) (h0:0≤r.v) (h1:r.v < 4):Bu Tryz.prog 77 [avW v,avD r] (bl (Bei v r)):=by
  refine Bo (v:=[]) (q:=[]) (N:=23) (rs:=[.tmp 4]) Tryz.func77 rfl rfl rfl (by show ((avW v).isP&&((avD r).isP&&true))=true; rw [Aqj]; rfl) rfl ?_
  have hv4:=hv.len
  have hsm:=hv.small
  obtain ⟨i,hi⟩:∃ i:Nat,r.v=i:=⟨r.v.toNat,by omega⟩
  have hti:r.v.toNat=i:=by omega
  refine Ad fun K1 hK1=>?_
  simp (disch:=(first | assumption | omega)) only [hi,amL,sA,sB,sF,↓reduceIte,reduceCtorEq]
  refine hK1 _ ?_
  refine Ab fun K2 hK2=>?_
  refine Cj (by kernel_rfl) (by kernel_rfl) ?_
  simp (disch:=(first | assumption | omega)) only [Int.toNat_natCast,Jm,amL,amT,sA,sB,sE,sF,sH,↓reduceIte,reduceCtorEq]
  repeat' first | (refine E3 (fun h=>?_) (fun h=>?_) <;> simp (disch:=(first | assumption | omega)) only [h,hi,hti,Int.toNat_natCast,Br,A0,Ke,Jm,Lk,Boz,Bo7,We,amL,amT,sA,sB,sC,sD,sE,sF,sG,sH,sI,sJ,sK,sL,sM,sN,sO,↓reduceIte,reduceCtorEq]) | (refine Cz (fun h=>?_) (fun h=>?_) <;> simp (disch:=(first | assumption | omega)) only [h,Int.toNat_natCast,Boz,amL,amT,sA,sB,sF,sH,↓reduceIte,reduceCtorEq]) | (refine Ax (by kernel_rfl) rfl (Agb _ _) (by first | exact .inl rfl | exact .inr (.inl rfl)) ?_ ; simp (disch:=(first | assumption | omega)) only [amL,sA,sF,↓reduceIte]) | (refine Ax (by kernel_rfl) rfl (Yz _ (hsm i)) (by first | exact .inl rfl | exact .inr (.inl rfl)) ?_ ; simp (disch:=(first | assumption | omega)) only [amL,sA,sF,↓reduceIte])
  all_goals
   skip
   refine hK2 _ ?_
   refine Aj ?_
   try simp (disch:=(first | assumption | omega)) only [amL,↓reduceIte]
   all_goals first | (unfold Bei; rw [hti,show Jk r.g (v.getD i default).g=true by assumption,Bool.true_and]) | (unfold Bei; rw [hti,show Jk r.g (v.getD i default).g=false by assumption,Bool.false_and]) | trace_state
def Bf9 (x y:Int):Int:=if x < y then -1 else if y < x then 1 else 0
def Bgq:List Int→List Int→Int
  | [],[]=>0
  | [],_ :: _=>-1
  | _ :: _,[]=>1
  | x :: a,y :: b=>if Bf9 x y=0 then Bgq a b else Bf9 x y
theorem Bn6 (x:Int):Bu Tryz.prog 134 [i64 x] (bl false):=by
  refine Bo (v:=[]) (q:=[]) (N:=6) (rs:=[.tmp 2]) Tryz.func134 rfl rfl rfl rfl rfl ?_
  refine Ad fun K1 hK1=>?_
  simp (disch:=omega) only [decide_true,amL,sA]
  refine hK1 _ ?_
  refine Ad fun K2 hK2=>?_
  simp (disch:=omega) only [ne_eq,decide_false,decide_true,amL,amT,sA,sF,↓reduceIte,reduceCtorEq]
  refine hK2 _ ?_
  refine Aj ?_
  try simp (disch:=omega) only [amL,↓reduceIte]
  all_goals first | rfl | (simp; done) | trace_state
theorem Bow (x y:Int):Bu Tryz.prog 114 [i64 x,i64 y] (i64 (Bf9 x y)):=by
  refine Bo (v:=[]) (q:=[]) (N:=20) (rs:=[.tmp 4]) Tryz.func114 rfl rfl rfl rfl rfl ?_
  refine Ad fun K1 hK1=>?_
  simp (disch:=omega) only [amL,sA,sB]
  refine hK1 _ ?_
  refine Ad fun K2 hK2=>?_
  simp (disch:=omega) only [amL,sA,↓reduceIte,reduceCtorEq]
  repeat' first | (refine Ax (by kernel_rfl) rfl (Bn6 _) (by first | exact .inl rfl | exact .inr (.inl rfl)) ?_ ; simp (disch:=omega) only [amL,sA,↓reduceIte])
  refine hK2 _ ?_
  refine Ad fun K3 hK3=>?_
  simp (disch:=omega) only [amL,sA,sF,↓reduceIte,reduceCtorEq]
  repeat' first | (refine Ax (by kernel_rfl) rfl (Bn6 _) (by first | exact .inl rfl | exact .inr (.inl rfl)) ?_ ; simp (disch:=omega) only [amL,sA,↓reduceIte])
  refine hK3 _ ?_
  refine Ab fun K4 hK4=>?_
  refine Ad fun K5 hK5=>?_
  simp (disch:=omega) only [amL,sA,sF,↓reduceIte]
  refine hK5 _ ?_
  refine Al rfl (fun h=>MT.x ?_) (fun h=>ME.x ?_)
  all_goals
   first
   |refine MT.mk ?_
    first
    |exact Bool.noConfusion h
   |refine ME.mk ?_
    first
    |exact Bool.noConfusion h
    |skip
     try simp only [] at h
     refine Am ?_
     refine hK4 _ ?_
  all_goals
   skip
   refine Ab fun K6 hK6=>?_
   refine Ad fun K7 hK7=>?_
   simp (disch:=omega) only [amL,sA,sF,↓reduceIte]
   refine hK7 _ ?_
   refine Al rfl (fun h=>MT.x ?_) (fun h=>ME.x ?_)
   all_goals
    first
    |refine MT.mk ?_
     first
     |exact Bool.noConfusion h
    |refine ME.mk ?_
     first
     |exact Bool.noConfusion h
     |skip
      try simp only [] at h
      refine Am ?_
      refine hK6 _ ?_
   all_goals
    skip
    refine Ab fun K8 hK8=>?_
    refine Ad fun K9 hK9=>?_
    simp (disch:=omega) only [amL,amT,sA,sF,↓reduceIte,reduceCtorEq]
    refine hK9 _ ?_
    refine Al rfl (fun h=>MT.x ?_) (fun h=>ME.x ?_)
    all_goals
     first
     |refine MT.mk ?_
      first
      |exact Bool.noConfusion h
      |skip
       try simp only [nrm] at h
       refine Ad fun K10 hK10=>?_
       simp (disch:=omega) only [amL,sA,sM]
       refine hK10 _ ?_
       refine Aj ?_
       try simp (disch:=omega) only [amL,sM,↓reduceIte]
       all_goals first | (unfold Bf9; rw [if_pos (by omega)]; done) | (unfold Bf9; rw [if_neg (by omega),if_pos (by omega)]; done) | (unfold Bf9; rw [if_neg (by omega),if_neg (by omega)]; done) | trace_state
     |refine ME.mk ?_
      first
      |exact Bool.noConfusion h
      |skip
       try simp only [nrm] at h
       refine Am ?_
       refine hK8 _ ?_
    all_goals
     skip
     refine Ab fun K11 hK11=>?_
     refine Ad fun K12 hK12=>?_
     simp (disch:=omega) only [amL,amT,sA,sF,↓reduceIte,reduceCtorEq]
     refine hK12 _ ?_
     refine Al rfl (fun h=>MT.x ?_) (fun h=>ME.x ?_)
     all_goals
      first
      |refine MT.mk ?_
       first
       |exact Bool.noConfusion h
       |skip
        try simp only [nrm] at h
        refine Ad fun K13 hK13=>?_
        simp (disch:=omega) only [amL,sA]
        refine hK13 _ ?_
        refine Aj ?_
        try simp (disch:=omega) only [amL,↓reduceIte]
        all_goals first | (unfold Bf9; rw [if_pos (by omega)]; done) | (unfold Bf9; rw [if_neg (by omega),if_pos (by omega)]; done) | (unfold Bf9; rw [if_neg (by omega),if_neg (by omega)]; done) | trace_state
      |refine ME.mk ?_
       first
       |exact Bool.noConfusion h
       |skip
        try simp only [nrm] at h
        refine Am ?_
        refine hK11 _ ?_
     all_goals
      skip
      refine Ad fun K14 hK14=>?_
      simp (disch:=omega) only [amL,sA]
      refine hK14 _ ?_
      refine Aj ?_
      try simp (disch:=omega) only [amL,↓reduceIte]
      all_goals first | (unfold Bf9; rw [if_pos (by omega)]; done) | (unfold Bf9; rw [if_neg (by omega),if_pos (by omega)]; done) | (unfold Bf9; rw [if_neg (by omega),if_neg (by omega)]; done) | trace_state
theorem Bi9 {l:List Int} {k:Nat} (h:k < l.length):l.drop k=l.getD k 0 :: l.drop (k+1):=Bhj 0 h
theorem Bf4 {a b:List Int} {k:Nat} (h1:k < a.length) (h2:k < b.length):Bgq (a.drop k) (b.drop k)=if Bf9 (a.getD k 0) (b.getD k 0)=0 then Bgq (a.drop (k+1)) (b.drop (k+1)) else Bf9 (a.getD k 0) (b.getD k 0):=by
  rw [Bi9 h1,Bi9 h2]; rfl
theorem Bgm {a b:List Int} {k:Nat} (h1:k < a.length) (h2:b.length≤k):Bgq (a.drop k) (b.drop k)=1:=by
  rw [Bi9 h1,List.drop_of_length_le h2]; rfl
theorem Bf7 {a b:List Int} {k:Nat} (h1:a.length≤k) (h2:k < b.length):Bgq (a.drop k) (b.drop k)=-1:=by
  rw [Bi9 h2,List.drop_of_length_le h1]; rfl
theorem Bgk {a b:List Int} {k:Nat} (h1:a.length≤k) (h2:b.length≤k):Bgq (a.drop k) (b.drop k)=0:=by
  rw [List.drop_of_length_le h1,List.drop_of_length_le h2]; rfl
theorem Blc (a b:List Int) (ha:a.length < 1000000) (_:b.length < 1000000):Bu Tryz.prog 78 [isl a,isl b] (i64 (Bgq a b)):=by
  refine Bo (v:=[]) (q:=[]) (N:=36) (rs:=[.tmp 4]) Tryz.func78 rfl rfl rfl rfl rfl ?_
  refine Ad fun K1 hK1=>?_
  simp (disch:=omega) only [amL,sA,sB]
  refine hK1 _ ?_
  refine Ab fun K2 hK2=>?_
  refine Ad fun K3 hK3=>?_
  simp (disch:=omega) only [amL,amT,sA,↓reduceIte,reduceCtorEq]
  refine hK3 _ ?_
  refine Au ?_
  skip
  refine Bg (α:=Nat) (fun k=>⟨T [(0,isl a),(1,isl b),(9,isl a),(10,i64 a.length),(11,i64 (k:Int))],O []⟩) (fun k=>a.length - k) (fun k=>k≤a.length∧k≤b.length∧Bgq (a.drop k) (b.drop k)=Bgq a b) 0 ?_ ?_ (fun k hx4 K4 hK4=>?_)
  · exact ⟨Nat.zero_le _,Nat.zero_le _,rfl⟩
  · refine Dg ?_ ?_ ?_ ?_ <;> (try simp (disch:=omega) only [amL,sF,↓reduceIte,reduceCtorEq]); all_goals first | rfl | trace_state
  obtain ⟨hk1,hk2,hk3⟩:=hx4
  refine Ad fun K5 hK5=>?_
  simp (disch:=omega) only [amL,amT,sA,sF,↓reduceIte,reduceCtorEq]
  refine hK5 _ ?_
  refine Ab fun K6 hK6=>?_
  refine Al rfl (fun h=>MT.x ?_) (fun h=>ME.x ?_)
  all_goals
   first
   |refine MT.mk ?_
    first
    |exact Bool.noConfusion h
    |skip
     try simp only [nrm] at h
     refine Am ?_
     refine hK6 _ ?_
   |refine ME.mk ?_
    first
    |exact Bool.noConfusion h
    |skip
     try simp only [nrm] at h
     refine Bq ?_
     refine hK2 _ ?_
     refine Ab fun K7 hK7=>?_
     refine Ad fun K8 hK8=>?_
     simp (disch:=omega) only [amL,amT,sA,sF,↓reduceIte,reduceCtorEq]
     refine hK8 _ ?_
     refine Al rfl (fun h=>MT.x ?_) (fun h=>ME.x ?_)
     all_goals
      first
      |refine MT.mk ?_
       first
       |exact Bool.noConfusion h
       |skip
        try simp only [nrm] at h
        refine Ad fun K9 hK9=>?_
        simp (disch:=omega) only [amL,sA,sM]
        refine hK9 _ ?_
        refine Aj ?_
        try simp (disch:=omega) only [amL,sM,↓reduceIte]
        all_goals first | (rw [← hk3,Bgm (by omega) (by omega)]; done) | (rw [← hk3,Bf7 (by omega) (by omega)]; done) | (rw [← hk3,Bgk (by omega) (by omega)]; done) | (rw [← hk3,Bf4 (k:=k) (by omega) (by omega),if_neg (by omega)]; done) | trace_state
      |refine ME.mk ?_
       first
       |exact Bool.noConfusion h
       |skip
        try simp only [nrm] at h
        refine Am ?_
        refine hK7 _ ?_
     all_goals
      skip
      refine Ad fun K10 hK10=>?_
      simp (disch:=omega) only [amL,sA]
      refine hK10 _ ?_
      refine Aj ?_
      try simp (disch:=omega) only [amL,↓reduceIte]
      all_goals first | (rw [← hk3,Bgm (by omega) (by omega)]; done) | (rw [← hk3,Bf7 (by omega) (by omega)]; done) | (rw [← hk3,Bgk (by omega) (by omega)]; done) | (rw [← hk3,Bf4 (k:=k) (by omega) (by omega),if_neg (by omega)]; done) | trace_state
  all_goals
   skip
   refine Ab fun K11 hK11=>?_
   refine Au ?_
   refine Ad fun K12 hK12=>?_
   simp (disch:=omega) only [Bm,amL,amT,sA,sF,↓reduceIte,reduceCtorEq]
   refine hK12 _ ?_
   refine Ab fun K13 hK13=>?_
   refine Ad fun K14 hK14=>?_
   simp (disch:=omega) only [amL,amT,sA,sF,↓reduceIte,reduceCtorEq]
   refine hK14 _ ?_
   refine Al rfl (fun h=>MT.x ?_) (fun h=>ME.x ?_)
   all_goals
    first
    |refine MT.mk ?_
     first
     |exact Bool.noConfusion h
     |skip
      try simp only [nrm] at h
      refine Ad fun K15 hK15=>?_
      simp (disch:=omega) only [amL,sA]
      refine hK15 _ ?_
      refine Aj ?_
      try simp (disch:=omega) only [amL,↓reduceIte]
      all_goals first | (rw [← hk3,Bgm (by omega) (by omega)]; done) | (rw [← hk3,Bf7 (by omega) (by omega)]; done) | (rw [← hk3,Bgk (by omega) (by omega)]; done) | (rw [← hk3,Bf4 (k:=k) (by omega) (by omega),if_neg (by omega)]; done) | trace_state
    |refine ME.mk ?_
     first
     |exact Bool.noConfusion h
     |skip
      try simp only [nrm] at h
      refine Am ?_
      refine hK13 _ ?_
   all_goals
    skip
    refine Ad fun K16 hK16=>?_
    simp (disch:=omega) only [Bm,amL,amT,sA,sF,↓reduceIte,reduceCtorEq]
    refine hK16 _ ?_
    refine Ad fun K17 hK17=>?_
    simp (disch:=omega) only [amL,sA,sF,↓reduceIte]
    repeat' first | (refine Ax (by kernel_rfl) rfl (Bow _ _) (by first | exact .inl rfl | exact .inr (.inl rfl)) ?_ ; simp (disch:=omega) only [amL,sA,↓reduceIte])
    refine hK17 _ ?_
    refine Ad fun K18 hK18=>?_
    simp (disch:=omega) only [ne_eq,amL,amT,sA,↓reduceIte]
    refine hK18 _ ?_
    refine Al rfl (fun h=>MT.x ?_) (fun h=>ME.x ?_)
    all_goals
     first
     |refine MT.mk ?_
      first
      |exact Bool.noConfusion h
      |skip
       try simp only [nrm] at h
       refine Ad fun K19 hK19=>?_
       simp (disch:=omega) only [amL,sA,sF,↓reduceIte]
       refine hK19 _ ?_
       refine Aj ?_
       try simp (disch:=omega) only [amL,↓reduceIte]
       all_goals first | (rw [← hk3,Bgm (by omega) (by omega)]; done) | (rw [← hk3,Bf7 (by omega) (by omega)]; done) | (rw [← hk3,Bgk (by omega) (by omega)]; done) | (rw [← hk3,Bf4 (k:=k) (by omega) (by omega),if_neg (by omega)]; done) | trace_state
     |refine ME.mk ?_
      first
      |exact Bool.noConfusion h
      |skip
       try simp only [nrm] at h
       refine Am ?_
       refine hK11 _ ?_
    all_goals
     skip
     refine Ah ?_
     simp (disch:=omega) only [amL,amT,sA,sF,↓reduceIte,reduceCtorEq]
     refine hK4 (k+1) _ ?_ ?_ (Dg ?_ ?_ ?_ ?_)
     all_goals (try simp (disch:=omega) only [amL,sF,↓reduceIte,reduceCtorEq])
     all_goals first | omega | exact ⟨by omega,by omega,by rw [← hk3,Bf4 (k:=k) (by omega) (by omega),if_pos (by omega)]⟩ | trace_state
theorem sfD:Mf Tryz.prog 66 103 144 3 4 133 112:=⟨⟨_,Tryz.func133,rfl,rfl,rfl,by kernel_rfl⟩,⟨_,Tryz.func112,rfl,rfl,rfl,by kernel_rfl⟩⟩
theorem afD:Ai3 Tryz.prog 66 103 144 4 112 113 76:=⟨⟨_,Tryz.func113,rfl,rfl,rfl,by kernel_rfl⟩,⟨_,Tryz.func76,rfl,rfl,rfl,by kernel_rfl⟩⟩
theorem Bok {b:Eg} {r:Rdg} {n2:Nat} {os:Nat→Option AO} {bd:Nat} (hb:b.vs.length < 1000000) (o2:os n2=some (.cells (cB b))) :
    Bh Tryz.prog bd (.fn (.func 74) [] [.ptr n2 0]) [avD r] os fun res os'=>res=bl (Beg b.vs.length r)∧os'=os:=by
  refine B3 (v:=[]) (q:=[]) (N:=29) (rs:=[.tmp 3]) Tryz.func74 rfl (by kernel_rfl) rfl rfl (fun hcl hfree=>?_)
  have hfr0:∀ k,os (bd+k)=none:=fun k=>hfree _ (by omega)
  have b2:=Ap hfree o2
  have hw:IntKind.i64.wrap ((b.vs.length:Int) - 1)=b.vs.length - 1:=Fc (by omega) (by omega)
  refine Ad fun K1 hK1=>?_
  simp (disch:=omega) only [hfr0,amL,sA,sB,↓reduceIte]
  refine hK1 _ ?_
  refine Ad fun K2 hK2=>?_
  simp (disch:=omega) only [o2,Ac,hw,amL,amT,sA,sF,↓reduceIte,reduceCtorEq]
  repeat' first | (refine E3 (fun h=>?_) (fun h=>?_) <;> simp (disch:=omega) only [h,amL,amT,sA,sB,sF,↓reduceIte,reduceCtorEq]) | (refine Cz (fun h=>?_) (fun h=>?_) <;> simp (disch:=omega) only [h,amL,amT,sA,sB,sF,↓reduceIte,reduceCtorEq]) | (refine Ax (by kernel_rfl) rfl (Lb _ _ _) (by first | exact .inl rfl | exact .inr (.inl rfl)) ?_ ; simp (disch:=omega) only [amL,sA,↓reduceIte])
  all_goals
   skip
   refine hK2 _ ?_
   refine Aj ?_
   try simp (disch:=omega) only [amL]
   first
     | (refine A6 (res:=bl (decide (r.d.lo≤r.d.hi))) os (by simp (disch:=omega) only [amL,↓reduceIte]; try rfl) (by first | ((repeat' first | exact Sub.refl _ | refine Sub.skip (by first | exact hfr0 _ | (simp (disch:=omega) only [Ac]; exact hfr0 _)) ?_ | refine Sub.both ?_); done) | fail) hcl (A9 _ rfl) ⟨?_,rfl⟩
        unfold Beg
        rw [show inB r.v 0 ((b.vs.length:Int) - 1)=true by assumption,show decide (r.g.lo≤r.g.hi)=true by (first | assumption | exact decide_eq_true (by assumption)),Bool.true_and,Bool.true_and])
     | (refine A6 (res:=bl false) os (by simp (disch:=omega) only [amL,↓reduceIte]; try rfl) (by first | ((repeat' first | exact Sub.refl _ | refine Sub.skip (by first | exact hfr0 _ | (simp (disch:=omega) only [Ac]; exact hfr0 _)) ?_ | refine Sub.both ?_); done) | fail) hcl (A9 _ rfl) ⟨?_,rfl⟩
        unfold Beg
        first
          | (rw [show inB r.v 0 ((b.vs.length:Int) - 1)=false by assumption,Bool.false_and]; done)
          | (rw [show decide (r.g.lo≤r.g.hi)=false by (first | assumption | exact decide_eq_false (by assumption)),Bool.false_and,Bool.and_false]; done))
     | trace_state
theorem Bof {b:Eg} {l:List Rdg} {n2:Nat} {os:Nat→Option AO} {bd:Nat} (hb:b.vs.length < 1000000) (hl:l.length < 1000000) (o2:os n2=some (.cells (cB b))) :
    Bh Tryz.prog bd (.fn (.func 76) [] []) [.p (.sl (l.map Aye)),.fn (.func 74) [] [.ptr n2 0]] os fun res os'=>res=bl (l.all (Beg b.vs.length))∧os'=os:=by
  have hT:Hd Tryz.prog (.fn (.func 74) [] [.ptr n2 0]) (fun q=>q=n2) avD l (fun (_:Unit) os=>os n2=some (.cells (cB b))) (fun _ r=>((),Beg b.vs.length r)):={
    live:=fun s os hI=>by rw [Fr]; simp only [Cq,Cm,C8,hI,Option.isSome_some,and_self]
    stable:=fun s os os' hI he=>(he n2 rfl).trans hI
    foot:=fun s os n hI hn=>by
      subst hn
      exact ⟨_,hI,fun m hm=>by simp [AO.clean,AV.clean,AV.clean.cleanL] at hm⟩
    call:=fun s x os bd hx hI hcl=>Bh.mono (Bok hb hI) (by
      rintro r os' ⟨rfl,rfl⟩
      exact ⟨rfl,hI,fun _ _=>rfl⟩) }
  refine Bh.mono (Bbh elD sfD afD (by simp only [amT]; rfl) hl hT (fun m hm=>by simp [AV.clean,AV.clean.cleanL] at hm; omega) (s:=()) (bd:=bd) o2) ?_
  rintro r os' ⟨rfl,hI,hfr⟩
  refine ⟨by rw [Rq],funext fun n=>?_⟩
  by_cases e:n=n2
  · subst e; rw [hI,o2]
  · exact hfr n e
def Bgf:Code→Option (Code × Code)
  | .seq a b=>match Bgf a with | some x=>some x | none=>Bgf b
  | .block _ c=>Bgf c
  | .loop c=>Bgf c
  | .scope c=>Bgf c
  | .rangeFunc _ _ a b=>some (a,b)
  | _=>none
theorem Bha {nl:Nat} {k:F0} {tm:List (Nat × AV)} {R:AV→(Nat→Option AO)→Prop} {i:Nat} {s:St}:U7 nl k tm R (.exit i) s=Po nl k tm R (some (.exit i)) s:=rfl
theorem Bj7:∀ {a b:List Int},(Bgq a b < 0)=(Bd6 a b=true)
  | [],[]=>by simp [Bgq,Bd6]
  | [],_ :: _=>by simp [Bgq,Bd6]
  | _ :: _,[]=>by simp [Bgq,Bd6]
  | x :: a,y :: b=>by
    have ih:=Bj7 (a:=a) (b:=b)
    simp only [Bgq,Bd6]
    by_cases e:x=y
    · subst e
      rw [if_pos (by unfold Bf9; simp),if_pos rfl]; exact ih
    · rw [if_neg e]
      unfold Bf9
      by_cases h:x < y
      · simp [h]
      · have:y < x:=by omega
        simp [h,this]
def Bfv (l:List Rdg) (s:List Int × Bool) (v:List Liq):(List Int × Bool) × Option Code:=(Bff l s v,if (Bff l s v).1.length=0 then some (.exit 1) else none)
abbrev tmL (n3 n8 n9:Nat):List (Nat × AV):=[(3,.ptr n3 0),(8,.ptr n8 0),(9,.ptr n9 0)]
def Bj6 (s:List Int × Bool):AV:=if s.2=true then isl s.1 else C4
structure LvI (l:List Rdg) (n3 n8 n9:Nat) (s:List Int × Bool) (os:Nat→Option AO):Prop where
  r:os n3=some (.cells [.p (.sl (l.map Aye))])
  b:os n8=some (.cells [Bj6 s])
  f:os n9=some (.cells [bl s.2])
  len:s.1.length≤l.length
  no:s.2=false→s.1=[]
theorem Bkt {v:List Liq} {l:List Rdg} {k:Nat} (h:Bei v (l.getD k default)=false):Be9 v l (k+1)=Be9 v l k++[(k:Int)]:=by
  show (if _ then _ else _)=_
  rw [if_neg (by rw [h]; decide)]
theorem Bja {v:List Liq} {l:List Rdg} {k:Nat} (h:Bei v (l.getD k default)=true):Be9 v l (k+1)=Be9 v l k:=if_pos h
theorem Bnz {n:Nat} {r:Rdg} (h:Beg n r=true):0≤r.v∧r.v < n:=by
  simp only [Beg,inB,Bool.and_eq_true,decide_eq_true_eq] at h; omega
theorem Bkr {os:Nat→Option AO}:∀ l:List Int,Hb os (l.map i64)=some (l.map i64)
  | []=>rfl
  | x :: l=>by show (match Fb os (i64 x),Hb os (l.map i64) with | some y,some ys=>some (y :: ys) | _,_=>none)=_; rw [Bkr l]; rfl
theorem Bjk {os:Nat→Option AO} (v:List Liq):Hb os (cW v)=some (cW v):=Bkr _
theorem Bko {o1 X:Nat→Option AO} {bdL b7 b8 bd:Nat} {LP:Option AO} {es:List (List PV)} {c:List AV} (h1:b7≠b8) (h2:b7≠bdL) (h3:b8≠bdL) (x7:X b7=some (.cells c)) (x8:X b8=some (.arr 1 es)) (xL:X bdL=LP) (hf:∀ q,bd≤q→o1 q=none) (hX:∀ q,q≠b7→q≠b8→q≠bdL→q < bd→X q=o1 q):Sub (upd (upd (upd o1 bdL LP) b7 (some (.cells c))) b8 (some (.arr 1 es))) X:=fun q=>by
  by_cases e8:q=b8
  · subst e8; right; rw [Bc,x8]
  · by_cases e7:q=b7
    · subst e7; right; rw [Ac e8,Bc,x7]
    · by_cases eL:q=bdL
      · subst eL; right; rw [Ac e8,Ac e7,Bc,xL]
      · rw [Ac e8,Ac e7,Ac eL]
        by_cases e13:bd≤q
        · exact .inl (hf q e13)
        · exact .inr (hX q e7 e8 eL (by omega)).symm
theorem Bl8 {n m:Nat} {os:Nat→Option AO} {x:Option AO} (h:m≠n) (hx:x.map (AO.purge n)=x):pgO n (upd os m x)=upd (pgO n os) m x:=by
  cases x with
  | none=>
    funext q
    unfold pgO upd
    by_cases e:q=m
    · subst e; simp [h]
    · simp [e]
  | some o=>
    have hx:o.purge n=o:=by simpa using hx
    rw [Nr h,hx]
theorem Bjp (s:List Int × Bool):(Bj6 s).isP=true:=by unfold Bj6; split <;> rfl
theorem Bks {l:List Rdg} {s:List Int × Bool} {v:List Liq} (h:Bg1 s (Bfj v l)=true):Bff l s v=(Bfj v l,true):=if_pos h
theorem Bmv {l:List Rdg} {s:List Int × Bool} {v:List Liq} (h:Bg1 s (Bfj v l)=false):Bff l s v=s:=if_neg (by rw [h]; decide)
theorem Bmn {s:List Int} {o:List Int}:Bg1 (s,false) o=true:=rfl
theorem Bl6 {s:List Int} {o:List Int} (h:(o.length:Int) < s.length):Bg1 (s,true) o=true:=by
  simp only [Bg1,Bd5,Bool.not_true,Bool.false_or,decide_eq_true (show o.length < s.length by omega),Bool.true_or]
theorem Bmt {s:List Int} {o:List Int} (h:(o.length:Int)=s.length) (h2:Bd6 o s=true):Bg1 (s,true) o=true:=by
  simp only [Bg1,Bd5,Bool.not_true,decide_eq_true (show o.length=s.length by omega),h2,Bool.true_and,Bool.or_true]
theorem Bmq {s:List Int} {o:List Int} (h:¬ (o.length:Int) < s.length) (h2:¬ (o.length:Int)=s.length):Bg1 (s,true) o=false:=by
  simp only [Bg1,Bd5,Bool.not_true,Bool.false_or,decide_eq_false (show ¬ o.length < s.length by omega),decide_eq_false (show ¬ o.length=s.length by omega),Bool.false_and]
theorem Blu {s:List Int} {o:List Int} (h:¬ (o.length:Int) < s.length) (h2:¬ Bd6 o s=true):Bg1 (s,true) o=false:=by
  have h3:Bd6 o s=false:=by simpa using h2
  simp only [Bg1,Bd5,Bool.not_true,Bool.false_or,decide_eq_false (show ¬ o.length < s.length by omega),h3,Bool.and_false]
theorem Bl5 {l:List Rdg} {s:List Int × Bool} {v:List Liq} (h:s.1.length≤l.length):(Bff l s v).1.length≤l.length:=by
  unfold Bff; split
  · exact Bjw
  · exact h
theorem Bnx {l:List Rdg} {s:List Int × Bool} {v:List Liq} (h:s.2=false→s.1=[]):(Bff l s v).2=false→(Bff l s v).1=[]:=by
  unfold Bff; split
  · intro h; cases h
  · exact h
theorem Bkw {l:List Rdg} {n3 n8 n9 bdL bd1:Nat} {s:List Int × Bool} {x:List Liq} {o1 X:Nat→Option AO} {K:F0} {tt:Nat→AV} {jump:Option Code} (t:List Int × Bool) (ht:Bff l s x=t) (hj:jump=if t.1.length=0 then some (.exit 1) else none)
    (hI:LvI l n3 n8 n9 s o1) (hcl:(Hp o1).closed) (d1:n3 < n8) (d2:n8 < n9) (d3:n9 < bdL) (d4:bdL < bd1) (hfree:∀ n,bd1≤n→o1 n=none)
    (x8:X n8=some (.cells [Bj6 t])) (x9:X n9=some (.cells [bl t.2])) (xL:X bdL=some (.loop { K with state:=.busy } (tmL n3 n8 n9))) (hX:∀ q,q≠n8→q≠n9→q≠bdL→q < bd1→X q=o1 q) :
    Po bdL K (tmL n3 n8 n9) (fun res os'=>res=bl (Bfv l s x).2.isNone∧(LvI l n3 n8 n9 (Bfv l s x).1 os'∧os' bdL=some (.loop (Apv K (Bfv l s x).2) (tmL n3 n8 n9)))∧∀ n,¬ ((n=n3∨n=n8∨n=n9)∨n=bdL)→os' n=o1 n) jump ⟨tt,X⟩:=by
  have hb:Bfv l s x=(t,jump):=by unfold Bfv; rw [ht,hj]
  rw [hb]
  have hlen:=Bl5 (v:=x) hI.len
  have hno:=Bnx (l:=l) (v:=x) hI.no
  rw [ht] at hlen hno
  refine Qj (upd (upd (upd o1 n8 (some (.cells [Bj6 t]))) n9 (some (.cells [bl t.2]))) bdL (some (.loop (Apv K jump) (tmL n3 n8 n9)))) xL (fun z=>?_) ?_ ⟨rfl,⟨⟨?_,?_,?_,hlen,hno⟩,Bc⟩,fun q hq=>?_⟩
  · show _∨_=upd X bdL _ z
    by_cases e1:z=bdL
    · subst e1; right; rw [Bc,Bc]
    · rw [Ac e1,Ac e1]
      by_cases e2:z=n9
      · subst e2; right; rw [Bc,x9]
      · rw [Ac e2]
        by_cases e3:z=n8
        · subst e3; right; rw [Bc,x8]
        · rw [Ac e3]
          by_cases e4:bd1≤z
          · exact .inl (hfree z e4)
          · exact .inr (hX z e3 e2 e1 (by omega)).symm
  · refine Cs (F3 (F3 hcl (by simp [Bjp])) (by simp [AV.isP])) fun q hq=>?_
    have e:q=n3∨q=n8∨q=n9:=by
      simp [AO.clean,AV.clean,AV.clean.cleanL] at hq; omega
    rcases e with rfl | rfl | rfl
    · rw [Ac (by omega),Ac (by omega),Ac (by omega),hI.r]; rfl
    · rw [Ac (by omega),Ac (by omega),Bc]; rfl
    · rw [Ac (by omega),Bc]; rfl
  · rw [Ac (by omega),Ac (by omega),Ac (by omega)]; exact hI.r
  · rw [Ac (by omega),Ac (by omega),Bc]
  · rw [Ac (by omega),Bc]
  · rw [Ac (fun e=>hq (.inr e)),Ac (fun e=>hq (.inl (.inr (.inr e)))),Ac (fun e=>hq (.inl (.inr (.inl e))))]
theorem Bm2 {L:List (List Liq)} {l:List Rdg} {n n3 n8 n9 bdL:Nat} (hn:n≤4) (hll:l.length≤4) (hr:∀ r ∈ l,Beg n r=true) (hL:∀ v ∈ L,OkV v) (d1:n3 < n8) (d2:n8 < n9) (d3:n9 < bdL) {A B:Code} (hcode:(Tryz.f28.body.bind Bgf)=some (A,B)) :
    Zt Tryz.prog bdL ⟨78,[32],A,B,.ready,none⟩ (tmL n3 n8 n9) [] [] (fun q=>q=n3∨q=n8∨q=n9) avW L (LvI l n3 n8 n9) (Bfv l) where
  ready:=rfl
  lenp:=rfl
  psn q hq:=by
    simp only [List.mem_cons,List.not_mem_nil,or_false] at hq
    subst hq; exact (by decide:32 < 78)
  notF h:=by omega
  tmF q hq:=by
    simp [AO.clean,AV.clean,AV.clean.cleanL] at hq
    omega
  stable s o1 o2 hI he:=⟨(he n3 (by omega)).trans hI.r,(he n8 (by omega)).trans hI.b,(he n9 (by omega)).trans hI.f,hI.len,hI.no⟩
  foot s o1 q hI hq:=by
    rcases hq with rfl | rfl | rfl
    · exact ⟨_,hI.r,fun m hm=>by simp [AO.clean,AV.clean,AV.clean.cleanL] at hm⟩
    · exact ⟨_,hI.b,fun m hm=>by
        have e:(Bj6 s).clean m=true:=Nw (Bjp s) m
        simp [AO.clean,AV.clean.cleanL,e] at hm⟩
    · exact ⟨_,hI.f,fun m hm=>by simp [AO.clean,AV.clean,AV.clean.cleanL] at hm⟩
  body s x o1 bd1 hx hI hl hcl1 hfree1 hb1 rl:=by
    have hI0:=hI
    obtain ⟨s1,f⟩:=s
    obtain ⟨a3,a8,a9,hlen,hno⟩:=hI
    dsimp only at a8 a9 hlen hno
    have hok:=hL x hx
    have hx4:=hok.len
    have hfr0:∀ k,o1 (bd1+k)=none:=fun k=>hfree1 _ (by omega)
    have b3:=Ap hfree1 a3
    have b8:=Ap hfree1 a8
    have b9:=Ap hfree1 a9
    obtain ⟨LP,hLP⟩:∃ LP:Option AO,LP=some (.loop ⟨78,[32],A,B,.busy,none⟩ (tmL n3 n8 n9)):=⟨_,rfl⟩
    have hclL:∀ {os:Nat→Option AO} {kk:F0},(Hp os).closed→(os n3).isSome=true→(os n8).isSome=true→(os n9).isSome=true→(Hp (upd os bdL (some (.loop kk (tmL n3 n8 n9))))).closed:=fun {os kk} hc h1 h2 h3=>Cs hc (fun q hq=>by
      have e:q=n3∨q=n8∨q=n9:=by
        simp [AO.clean,AV.clean,AV.clean.cleanL] at hq; omega
      unfold upd
      split
      · rfl
      · rcases e with e | e | e <;> rw [e] <;> assumption)
    have hcl2:(Hp (upd o1 bdL LP)).closed:=by rw [hLP]; exact hclL hcl1 (by rw [a3]; rfl) (by rw [a8]; rfl) (by rw [a9]; rfl)
    have hpg:∀ k,pgO (bd1+k) o1=o1:=fun k=>Adf hcl1 (hfr0 k)
    have hpgL:∀ k (os:Nat→Option AO),pgO (bd1+k) (upd os bdL LP)=upd (pgO (bd1+k) os) bdL LP:=fun k os=>Bl8 (by omega) (by
      rw [hLP]
      show some (AO.loop _ (List.map _ _))=_
      congr 2
      simp (disch:=omega) only [tmL,List.map_cons,List.map_nil,Y4,if_neg])
    cases f
    all_goals
      first
        | (have a8:o1 n8=some (.cells [isl s1]):=a8)
        | (have a8:o1 n8=some (.cells [C4]):=a8)
      cases (show some (_,_)=some (A,B) from hcode)
      show AWP _ _ 78 _ ⟨T [(32,avW x),(3,.ptr n3 0),(8,.ptr n8 0),(9,.ptr n9 0)],o1⟩ _
      refine Ah ?_
      simp (disch:=(first | assumption | omega)) only [hl,hfr0,Ac,Bz,A0,Aio,amL,amT,sA,sB,sF,↓reduceIte]
      try simp (disch:=(first | assumption | omega)) only [hl,hfr0,Ac,Bz,Br,A0,Aio,amL,amT,sA,sB,sC,sD,sE,sF,sG,sH,sI,sJ,sK,sL,sM,sN,sO,↓reduceIte,reduceCtorEq]
      skip
      refine Au ?_
      refine Ad fun K1 hK1=>?_
      simp (disch:=(first | assumption | omega)) only [amL,sA]
      refine hK1 _ ?_
      refine Ab fun K2 hK2=>?_
      refine Ad fun K3 hK3=>?_
      simp (disch:=(first | assumption | omega)) only [a3,Ac,amL,amT,sA,sF,↓reduceIte]
      refine hK3 _ ?_
      refine Au ?_
      rw [← hLP]
      refine T1 (bd1+47) 1 11 (by simp only []; omega) rfl (by simp (disch:=omega) only [Ac]; exact hfr0 47) ?_
      refine Bg (α:=Nat) (fun k=>⟨T [(3,.ptr n3 0),(8,.ptr n8 0),(9,.ptr n9 0),(10,.ptr (bd1+10) 0),(11,.own (bd1+47) (Be9 x l k).length),(33,.p (.sl (l.map Aye))),(34,i64 (l.length:Int)),(35,i64 (k:Int))],upd (upd (upd o1 bdL LP) (bd1+10) (some (.cells (cW x)))) (bd1+47) (some (.arr 1 ((Be9 x l k).map fun n=>[iv n])))⟩) (fun k=>l.length - k) (fun k=>k≤l.length) 0 ?_ ?_ (fun k hx4 K4 hK4=>?_)
      · exact Nat.zero_le _
      · refine G9 ?_ ?_ ?_ ?_ <;> (try simp (disch:=(first | assumption | omega)) only [a3,a8,a9,Ac,amL,sF,↓reduceIte]); all_goals first | rfl | exact Nt (Ee hcl2) | exact Bko (by omega) (by omega) (by omega) (by simp (disch:=omega) only [Ac,Bc]) (by simp (disch:=omega) only [Bc] ; first | done | rfl) (by simp (disch:=omega) only [Ac,Bc]) hfree1 (fun q h1 h2 h3 h4=>by simp (disch:=omega) only [Ac]) | trace_state
      have hk:=hx4; have hlk:=Bhr (v:=x) (l:=l) k
      refine Ad fun K5 hK5=>?_
      simp (disch:=(first | assumption | omega)) only [amL,amT,sA,sF,↓reduceIte]
      refine hK5 _ ?_
      refine Ab fun K6 hK6=>?_
      refine Al rfl (fun h=>MT.x ?_) (fun h=>ME.x ?_)
      all_goals
       first
       |refine MT.mk ?_
        first
        |exact Bool.noConfusion h
        |skip
         try simp only [nrm] at h
         refine Am ?_
         refine hK6 _ ?_
       |refine ME.mk ?_
        first
        |exact Bool.noConfusion h
        |skip
         try simp only [nrm] at h
         refine Bq ?_
         refine hK2 _ ?_
         refine Ab fun K7 hK7=>?_
         refine Ab fun K8 hK8=>?_
         obtain rfl:k=l.length:=by omega
         refine Acv (Ee hcl2) (by simp (disch:=omega) only [Ac]; exact hfr0 47) ?_
         simp (disch:=omega) only [Wr,AV.frz,if_neg,if_true,List.length_map,Nat.le_refl]
         rw [List.take_of_length_le (by simp)]
         refine Ah ?_
         simp (disch:=(first | assumption | omega)) only [a8,a9,Ac,amL,amT,sA,sF,↓reduceIte]
         repeat' first | (refine E3 (fun h=>?_) (fun h=>?_) <;> simp (disch:=(first | assumption | omega)) only [h,a8,Ac,List.map_cons,List.map_nil,amL,amT,sA,sF,↓reduceIte]) | (refine Cz (fun h=>?_) (fun h=>?_) <;> simp (disch:=(first | assumption | omega)) only [h,a3,a8,a9,hl,hfr0,Ac,Bz,Br,A0,Bjk,Bg2,Hr,Nr,J9,hpg,hpgL,Kw,Ew,Gh,List.map_cons,List.map_nil,Lx,W3,Ae8,Bha,Sj,N2,Bj7,amL,amT,sA,sB,sC,sD,sE,sF,sG,sH,sI,sJ,sK,sL,sM,sN,sO,↓reduceIte,reduceCtorEq]) | (refine Ax (by kernel_rfl) rfl (Blc _ _ (by omega) (by omega)) (by first | exact .inl rfl | exact .inr (.inl rfl)) ?_ ; simp (disch:=(first | assumption | omega)) only [Bj7,amL,amT,sA,sF,↓reduceIte])
         all_goals
          skip
          refine hK8 _ ?_
          refine Al rfl (fun h=>MT.x ?_) (fun h=>ME.x ?_)
          all_goals
           first
           |refine MT.mk ?_
            first
            |exact Bool.noConfusion h
            |skip
             try simp only [nrm] at h
             refine Ah ?_
             simp (disch:=(first | assumption | omega)) only [a8,a9,Ac,amL,amT,sA,sF,↓reduceIte]
             refine hK7 _ ?_
           |refine ME.mk ?_
            first
            |exact Bool.noConfusion h
            |skip
             try simp only [nrm] at h
             refine Am ?_
             refine hK7 _ ?_
          all_goals
           skip
           refine Ad fun K9 hK9=>?_
           simp (disch:=(first | assumption | omega)) only [a8,Ac,amL,amT,sA,sF,↓reduceIte]
           refine hK9 _ ?_
           refine Al rfl (fun h=>?_) (fun h=>?_)
           ·first
            | exact Bool.noConfusion h
            |skip
             try simp only [nrm] at h
             refine Bq ?_
             try simp (disch:=(first | assumption | omega)) only [Bha,Sj,sF,↓reduceIte]
             first
               | (refine Bkw (Bfj x l,true) (Bks (by first | exact Bmn | exact Bl6 (by assumption) | exact Bmt (by assumption) (by assumption))) (by first | exact (if_neg (show ¬ (Be9 x l l.length).length=0 by omega)).symm | exact (if_pos (show (Be9 x l l.length).length=0 by omega)).symm) hI0 hcl1 d1 d2 d3 hb1 hfree1 ((Ac (by omega)).trans Bc) Bc (by simp (disch:=omega) only [Ac,Bc]; exact hLP) (fun q h1 h2 h3 h4=>by simp (disch:=omega) only [Ac]) ; done)
               | (refine Bkw (s1,true) (Bmv (by first | exact Bmq (by assumption) (by assumption) | exact Blu (by assumption) (by assumption))) (by first | exact (if_neg (show ¬ s1.length=0 by omega)).symm | exact (if_pos (show s1.length=0 by omega)).symm) hI0 hcl1 d1 d2 d3 hb1 hfree1 (by simp (disch:=omega) only [Ac]; exact a8) (by simp (disch:=omega) only [Ac]; exact a9) (by simp (disch:=omega) only [Ac,Bc]; exact hLP) (fun q h1 h2 h3 h4=>by simp (disch:=omega) only [Ac]) ; done)
               | trace_state
           ·first
            | exact Bool.noConfusion h
            |skip
             try simp only [nrm] at h
             refine Am ?_
             try simp (disch:=(first | assumption | omega)) only [W3,N2]
             first
               | (refine Bkw (Bfj x l,true) (Bks (by first | exact Bmn | exact Bl6 (by assumption) | exact Bmt (by assumption) (by assumption))) (by first | exact (if_neg (show ¬ (Be9 x l l.length).length=0 by omega)).symm | exact (if_pos (show (Be9 x l l.length).length=0 by omega)).symm) hI0 hcl1 d1 d2 d3 hb1 hfree1 ((Ac (by omega)).trans Bc) Bc (by simp (disch:=omega) only [Ac,Bc]; exact hLP) (fun q h1 h2 h3 h4=>by simp (disch:=omega) only [Ac]) ; done)
               | (refine Bkw (s1,true) (Bmv (by first | exact Bmq (by assumption) (by assumption) | exact Blu (by assumption) (by assumption))) (by first | exact (if_neg (show ¬ s1.length=0 by omega)).symm | exact (if_pos (show s1.length=0 by omega)).symm) hI0 hcl1 d1 d2 d3 hb1 hfree1 (by simp (disch:=omega) only [Ac]; exact a8) (by simp (disch:=omega) only [Ac]; exact a9) (by simp (disch:=omega) only [Ac,Bc]; exact hLP) (fun q h1 h2 h3 h4=>by simp (disch:=omega) only [Ac]) ; done)
               | trace_state
      all_goals
       skip
       refine Ab fun K10 hK10=>?_
       refine Au ?_
       refine Ad fun K11 hK11=>?_
       simp (disch:=(first | assumption | omega)) only [hfr0,Ac,Bz,Bg2,List.map_cons,List.map_nil,amL,amT,sA,sB,sF,↓reduceIte]
       refine hK11 _ ?_
       refine Ad fun K12 hK12=>?_
       have hrk:=Bnz (hr _ (Du default (show k < l.length by omega)))
       simp (disch:=(first | assumption | omega)) only [Ac,Br,A0,Bjk,List.map_cons,List.map_nil,amL,amT,sA,sB,sF,↓reduceIte]
       repeat' first | (refine Ax (by kernel_rfl) rfl (Bl1 x (l.getD k default) hok (by omega) (by omega)) (by first | exact .inl rfl | exact .inr (.inl rfl)) ?_ ; simp (disch:=(first | assumption | omega)) only [amL,sA,↓reduceIte])
       refine hK12 _ ?_
       refine Al rfl (fun h=>MT.x ?_) (fun h=>ME.x ?_)
       all_goals
        first
        |refine MT.mk ?_
         first
         |exact Bool.noConfusion h
         |skip
          try simp only [nrm] at h
          refine Ah ?_
          simp (disch:=(first | assumption | omega)) only [hfr0,Ac,Hr,Nr,J9,hpg,hpgL,Kw,Ew,Gh,List.map_cons,List.map_nil,Lx,N2,amL,amT,sA,sE,sF,↓reduceIte,reduceCtorEq]
          refine hK10 _ ?_
        |refine ME.mk ?_
         first
         |exact Bool.noConfusion h
         |skip
          try simp only [nrm] at h
          refine Am ?_
          refine hK10 _ ?_
       all_goals
        skip
        refine Ah ?_
        simp (disch:=(first | assumption | omega)) only [amL,amT,sA,sF,↓reduceIte]
        refine hK4 (k+1) _ ?_ ?_ (G9 ?_ ?_ ?_ ?_)
        all_goals (try simp (disch:=(first | assumption | omega)) only [a3,a8,a9,Ac,amL,sF,↓reduceIte])
        all_goals first | omega | (rw [Bkt (by assumption),List.length_append]; rfl) | (rw [Bja (by assumption)]; done) | (rw [Bkt (by assumption),List.map_append]; exact Bko (by omega) (by omega) (by omega) (by simp (disch:=omega) only [Ac,Bc]) (by simp (disch:=omega) only [Bc] ; first | done | rfl) (by simp (disch:=omega) only [Ac,Bc]) hfree1 (fun q h1 h2 h3 h4=>by simp (disch:=omega) only [Ac])) | (rw [Bja (by assumption)]; exact Bko (by omega) (by omega) (by omega) (by simp (disch:=omega) only [Ac,Bc]) (by simp (disch:=omega) only [Ac,Bc] ; first | done | rfl) (by simp (disch:=omega) only [Ac,Bc]) hfree1 (fun q h1 h2 h3 h4=>by simp (disch:=omega) only [Ac])) | exact Nt (Ee hcl2) | exact Bko (by omega) (by omega) (by omega) (by simp (disch:=omega) only [Ac,Bc]) (by simp (disch:=omega) only [Ac,Bc] ; first | done | rfl) (by simp (disch:=omega) only [Ac,Bc]) hfree1 (fun q h1 h2 h3 h4=>by simp (disch:=omega) only [Ac]) | trace_state
theorem Bkc {l:List Rdg}:∀ (L:List (List Liq)) (s:List Int × Bool),(Gn (fun (s:(List Int × Bool) × Option Code) x=>(Bfv l s.1 x,(Bfv l s.1 x).2.isNone)) (s,none) L).1.1=Be0 l s L ∧
    ((Gn (fun (s:(List Int × Bool) × Option Code) x=>(Bfv l s.1 x,(Bfv l s.1 x).2.isNone)) (s,none) L).1.2=none∨(Gn (fun (s:(List Int × Bool) × Option Code) x=>(Bfv l s.1 x,(Bfv l s.1 x).2.isNone)) (s,none) L).1.2=some (.exit 1))
  | [],s=>⟨rfl,.inl rfl⟩
  | x :: L,s=>by
    by_cases h:(Bff l s x).1.length=0
    · have hb:Bfv l s x=(Bff l s x,some (.exit 1)):=by unfold Bfv; rw [if_pos h]
      simp only [Gn,hb,Option.isNone_some,Bool.false_eq_true,if_false,Be0,if_pos h]
      exact ⟨trivial,.inr trivial⟩
    · have hb:Bfv l s x=(Bff l s x,none):=by unfold Bfv; rw [if_neg h]
      simp only [Gn,hb,Option.isNone_none,if_true,Be0,if_neg h]
      exact Bkc L _
theorem Bnt {jump:Option Code} {Q:AEx→St→Prop} {s:St} (h:Lm 1 Q .normal s) :
    (match jump with | none=>Lm 1 Q .normal s | some .ret=>Lm 1 Q .ret s | some (.exit i)=>Lm 1 Q (.exit i) s | _=>False)∨¬ (jump=none∨jump=some (.exit 1)):=by
  by_cases hj:jump=none∨jump=some (.exit 1)
  · left
    rcases hj with rfl | rfl
    · exact h
    · exact h
  · exact .inr hj
def Bd8 (b:Eg) (l:List Rdg):AV:=
  if B5 b=0 then
    if 4 < (l.length:Int) then .tup [C4,i64 3]
    else if l.all (Beg b.vs.length)=false then .tup [C4,i64 2]
    else if (Be0 l ([],false) (Beu b)).2=true then .tup [isl (Be0 l ([],false) (Beu b)).1,i64 0] else .tup [C4,i64 9]
  else .tup [C4,i64 (B5 b)]
theorem Bj4 (b:Eg) (l:List Rdg):(Bd8 b l).isP=true:=by
  unfold Bd8; split
  · split
    · rfl
    · split
      · rfl
      · split <;> rfl
  · rfl
theorem Bnh (b:Eg) (l:List Rdg) (hl:b.vs.length < 1000000) (hl2:b.ss.length < 1000000) (hll:l.length < 1000000):Bu Tryz.prog 28 [avB b,.p (.sl (l.map Aye))] (Bd8 b l):=by
  refine Ak5 (v:=[60,71,76]) (q:=[]) (N:=78) (rs:=[.tmp 4,.tmp 5]) Tryz.func28 rfl rfl rfl rfl (Bj4 b l) ?_
  obtain ⟨A,B,hcode⟩:∃ A B,(Tryz.f28.body.bind Bgf)=some (A,B):=⟨_,_,rfl⟩
  refine Ls fun K1 hK1=>?_
  refine Ah ?_
  simp (disch:=(first | assumption | omega)) only [amL,sA,sB,sF,↓reduceIte,reduceCtorEq]
  refine hK1 _ ?_
  refine Afg ?_
  refine Ls fun K2 hK2=>?_
  refine Ad fun K3 hK3=>?_
  simp (disch:=(first | assumption | omega)) only [amL,amT,sA,sB,sF,sG,↓reduceIte]
  repeat' first | (refine Ax (by kernel_rfl) rfl (Ahm b hl hl2) (by first | exact .inl rfl | exact .inr (.inl rfl)) ?_ ; simp (disch:=(first | assumption | omega)) only [amL,sA,↓reduceIte])
  refine hK3 _ ?_
  refine Ad fun K4 hK4=>?_
  simp (disch:=(first | assumption | omega)) only [ne_eq,amL,amT,sA,↓reduceIte]
  refine hK4 _ ?_
  refine Al rfl (fun h=>MT.x ?_) (fun h=>ME.x ?_)
  all_goals
   first
   |refine MT.mk ?_
    first
    |exact Bool.noConfusion h
    |skip
     try simp only [nrm] at h
     refine Ad fun K5 hK5=>?_
     simp (disch:=(first | assumption | omega)) only [amL,sA,sF,↓reduceIte]
     refine hK5 _ ?_
     refine Aj ?_
     try simp (disch:=(first | assumption | omega)) only [amL,sF,↓reduceIte]
     first
       | (unfold Bd8; rw [if_neg (by assumption)]; done)
       | (unfold Bd8; rw [if_pos (by omega),if_pos (by assumption)]; done)
       | (unfold Bd8; rw [if_pos (by omega),if_neg (by omega),if_pos (by assumption)]; done)
       | (unfold Bd8; rw [if_pos (by omega),if_neg (by omega),if_neg (by rw [hral]; decide),hb,if_neg (fun e=>Bool.noConfusion ((show f2=false by assumption).symm.trans e))]; done)
       | (unfold Bd8; rw [if_pos (by omega),if_neg (by omega),if_neg (by rw [hral]; decide),hb,if_pos (by assumption)]; done)
       | trace_state
   |refine ME.mk ?_
    first
    |exact Bool.noConfusion h
    |skip
     try simp only [nrm] at h
     refine Am ?_
     refine hK2 _ ?_
  all_goals
   skip
   refine Ls fun K6 hK6=>?_
   refine Ah ?_
   simp (disch:=(first | assumption | omega)) only [amL,sA,sF,↓reduceIte]
   refine hK6 _ ?_
   refine Ls fun K7 hK7=>?_
   refine Au ?_
   refine Ad fun K8 hK8=>?_
   simp (disch:=(first | assumption | omega)) only [List.length_map,amL,amT,sA,sF,↓reduceIte]
   refine hK8 _ ?_
   refine Al rfl (fun h=>MT.x ?_) (fun h=>ME.x ?_)
   all_goals
    first
    |refine MT.mk ?_
     first
     |exact Bool.noConfusion h
     |skip
      try simp only [nrm] at h
      refine Ad fun K9 hK9=>?_
      simp (disch:=(first | assumption | omega)) only [amL,sA]
      refine hK9 _ ?_
      refine Aj ?_
      try simp (disch:=(first | assumption | omega)) only [amL,sF,↓reduceIte]
      first
        | (unfold Bd8; rw [if_neg (by assumption)]; done)
        | (unfold Bd8; rw [if_pos (by omega),if_pos (by assumption)]; done)
        | (unfold Bd8; rw [if_pos (by omega),if_neg (by omega),if_pos (by assumption)]; done)
        | (unfold Bd8; rw [if_pos (by omega),if_neg (by omega),if_neg (by rw [hral]; decide),hb,if_neg (fun e=>Bool.noConfusion ((show f2=false by assumption).symm.trans e))]; done)
        | (unfold Bd8; rw [if_pos (by omega),if_neg (by omega),if_neg (by rw [hral]; decide),hb,if_pos (by assumption)]; done)
        | trace_state
    |refine ME.mk ?_
     first
     |exact Bool.noConfusion h
     |skip
      try simp only [nrm] at h
      refine Ad fun K10 hK10=>?_
      simp (disch:=(first | assumption | omega)) only [amL,amT,sA,sF,sG,↓reduceIte]
      refine A2 [(2,.ptr 2 0),(3,.ptr 3 0),(7,.fn (.func 74) [] [.ptr 2 0])] (by decide) (Bof (b:=b) (l:=l) (n2:=2) (bd:=78) hl hll rfl) (Lg rfl) (by decide) (fun res os2 hR hcl2 hlv2=>?_)
      obtain ⟨rfl,rfl⟩:=hR
      simp (disch:=(first | assumption | omega)) only [amL,sA,sF,↓reduceIte]
      refine hK10 _ ?_
      refine Al rfl (fun h=>MT.x ?_) (fun h=>ME.x ?_)
      all_goals
       first
       |refine MT.mk ?_
        first
        |exact Bool.noConfusion h
        |skip
         try simp only [nrm] at h
         refine Ad fun K11 hK11=>?_
         simp (disch:=(first | assumption | omega)) only [amL,sA]
         refine hK11 _ ?_
         refine Aj ?_
         try simp (disch:=(first | assumption | omega)) only [amL,sF,↓reduceIte]
         first
           | (unfold Bd8; rw [if_neg (by assumption)]; done)
           | (unfold Bd8; rw [if_pos (by omega),if_pos (by assumption)]; done)
           | (unfold Bd8; rw [if_pos (by omega),if_neg (by omega),if_pos (by assumption)]; done)
           | (unfold Bd8; rw [if_pos (by omega),if_neg (by omega),if_neg (by rw [hral]; decide),hb,if_neg (fun e=>Bool.noConfusion ((show f2=false by assumption).symm.trans e))]; done)
           | (unfold Bd8; rw [if_pos (by omega),if_neg (by omega),if_neg (by rw [hral]; decide),hb,if_pos (by assumption)]; done)
           | trace_state
       |refine ME.mk ?_
        first
        |exact Bool.noConfusion h
        |skip
         try simp only [nrm] at h
         refine Am ?_
         refine hK7 _ ?_
   all_goals
    skip
    refine Ls fun K12 hK12=>?_
    refine Ah ?_
    have hf0:B5 b=0:=by omega
    have hval:=Adn hf0
    have hnv:=hval.nv
    have hral:l.all (Beg b.vs.length)=true:=by assumption
    have hr:∀ r ∈ l,Beg b.vs.length r=true:=List.all_eq_true.1 hral
    have hll4:l.length≤4:=by omega
    simp (disch:=(first | assumption | omega)) only [amL,amT,sA,sF,↓reduceIte]
    refine hK12 _ ?_
    refine Ls fun K13 hK13=>?_
    refine Ah ?_
    simp (disch:=(first | assumption | omega)) only [amL,amT,sA,sF,↓reduceIte]
    refine hK13 _ ?_
    refine Ls fun K14 hK14=>?_
    refine Yx ?_
    refine hK14 _ ?_
    refine Ad8 fun K15 hK15=>?_
    refine Ls fun K16 hK16=>?_
    refine Ah ?_
    simp (disch:=(first | assumption | omega)) only [amL,amT,sA,sB,sF,sG,↓reduceIte]
    refine A2 [(2,.ptr 2 0),(3,.ptr 3 0),(8,.ptr 8 0),(9,.ptr 9 0)] (by decide) (Dp (b:=b) (bd:=78)) (Lg rfl) (by decide) (fun res os2 hR hcl2 hlv2=>?_)
    obtain ⟨rfl,rfl⟩:=hR
    simp (disch:=(first | assumption | omega)) only [amL,sB,sF,sG,↓reduceIte]
    refine A2 [(2,.ptr 2 0),(3,.ptr 3 0),(8,.ptr 8 0),(9,.ptr 9 0)] (by decide) (Boc (nw:=84) (bd:=91) rfl) (Lg rfl) (by decide) (fun res os2 hR hcl3 hlv3=>?_)
    obtain ⟨rfl,rfl⟩:=hR
    simp (disch:=(first | assumption | omega)) only [amL,sB,sF,↓reduceIte]
    refine hK16 _ ?_
    refine Vm ?_
    have hLk:∀ v ∈ Beu b,OkV v:=Bgt (P:=OkV) _ _ _ (fun x hx he=>(Ano hval (Bft hx)).2 he)
    have hRd:=Bm2 (L:=Beu b) (l:=l) (n:=b.vs.length) (n3:=3) (n8:=8) (n9:=9) (bdL:=93) hnv hll4 hr hLk (by decide) (by decide) (by decide) hcode
    have hmem:∀ x ∈ Bea (Fy b) [],Be2 b x=true→Beb b x ∈ Beu b:=fun x hx he=>by
      rcases Bf6 (b:=b) _ v0 true hx he with h | h
      · exact h
      · exact absurd h.1 (by decide)
    cases (show some (_,_)=some (A,B) from hcode)
    refine My (bd:=93) (tm:=tmL 3 8 9) rfl (Lg rfl) (by decide) rfl (by kernel_rfl) (fun i=>Aal (by simp (disch:=(first | assumption | omega)) only [amL,sF,↓reduceIte]) i) (Axa (by simp (disch:=(first | assumption | omega)) only [amL,sF,↓reduceIte])) (Bns (b:=b) (F:=fun q=>(q=3∨q=8∨q=9)∨q=93) hRd.yields rfl hmem hval (fun q hq=>by
      simp only [AV.clean,bne_eq_false_iff_eq] at hq
      exact .inr hq.symm) (n1:=92) (nw:=84) (m:=82) (by decide) (by decide) (by decide) (s:=(([],false),none)) (bd:=94) rfl ⟨rfl,rfl⟩ rfl ⟨⟨rfl,rfl,rfl,Nat.zero_le _,fun _=>rfl⟩,rfl⟩) (fun res os2 hR hcl2=>?_)
    obtain ⟨rfl,hI2,hfr2⟩:=hR
    have hj:=(Bkc (l:=l) (Beu b) ([],false)).2
    rw [(Bkc (l:=l) (Beu b) ([],false)).1] at hI2
    generalize (Gn (fun (s:(List Int × Bool) × Option Code) x=>(Bfv l s.1 x,(Bfv l s.1 x).2.isNone)) (([],false),none) (Beu b)).1.2=jump at hj hI2
    generalize hb:Be0 l ([],false) (Beu b)=bb at hI2
    obtain ⟨o2,f2⟩:=bb
    obtain ⟨⟨q3,q8,q9,qn,qo⟩,q7⟩:=hI2
    dsimp only at q3 q8 q9 qn qo q7
    refine ⟨_,q7,by rcases hj with rfl | rfl <;> simp [],(Bnt ?_).resolve_right (fun e=>e hj)⟩
    simp only [N2,Qr]
    refine hK15 _ ?_
    refine Ls fun K17 hK17=>?_
    refine Ad fun K18 hK18=>?_
    simp (disch:=(first | assumption | omega)) only [q9,Ac,amL,amT,sA,sF,↓reduceIte]
    refine hK18 _ ?_
    refine Al rfl (fun h=>MT.x ?_) (fun h=>ME.x ?_)
    all_goals
     first
     |refine MT.mk ?_
      first
      |exact Bool.noConfusion h
      |skip
       try simp only [nrm] at h
       refine Ad fun K19 hK19=>?_
       simp (disch:=(first | assumption | omega)) only [amL,sA]
       refine hK19 _ ?_
       refine Aj ?_
       try simp (disch:=(first | assumption | omega)) only [amL,sF,↓reduceIte]
       first
         | (unfold Bd8; rw [if_neg (by assumption)]; done)
         | (unfold Bd8; rw [if_pos (by omega),if_pos (by assumption)]; done)
         | (unfold Bd8; rw [if_pos (by omega),if_neg (by omega),if_pos (by assumption)]; done)
         | (unfold Bd8; rw [if_pos (by omega),if_neg (by omega),if_neg (by rw [hral]; decide),hb,if_neg (fun e=>Bool.noConfusion ((show f2=false by assumption).symm.trans e))]; done)
         | (unfold Bd8; rw [if_pos (by omega),if_neg (by omega),if_neg (by rw [hral]; decide),hb,if_pos (by assumption)]; done)
         | trace_state
     |refine ME.mk ?_
      first
      |exact Bool.noConfusion h
      |skip
       try simp only [nrm] at h
       refine Am ?_
       refine hK17 _ ?_
    all_goals
     skip
     refine Ls fun K20 hK20=>?_
     refine Ah ?_
     have hbe:Bj6 (o2,f2)=isl o2:=if_pos (by assumption)
     simp (disch:=(first | assumption | omega)) only [q8,hbe,Ac,amL,amT,sA,sF,↓reduceIte]
     refine hK20 _ ?_
     refine D0 ?_
     refine Aj ?_
     try simp (disch:=(first | assumption | omega)) only [amL,sF,↓reduceIte]
     first
       | (unfold Bd8; rw [if_neg (by assumption)]; done)
       | (unfold Bd8; rw [if_pos (by omega),if_pos (by assumption)]; done)
       | (unfold Bd8; rw [if_pos (by omega),if_neg (by omega),if_pos (by assumption)]; done)
       | (unfold Bd8; rw [if_pos (by omega),if_neg (by omega),if_neg (by rw [hral]; decide),hb,if_neg (fun e=>Bool.noConfusion ((show f2=false by assumption).symm.trans e))]; done)
       | (unfold Bd8; rw [if_pos (by omega),if_neg (by omega),if_neg (by rw [hral]; decide),hb,if_pos (by assumption)]; done)
       | trace_state
theorem Bin {b:Eg} {v:List Liq}:v ∈ Beu b↔∃ x ∈ Bea (Fy b) [],Be2 b x=true∧v=Beb b x:=by
 constructor
 ·intro h
  exact Bgt (P:=fun v=>∃ x ∈ Bea (Fy b) [],Be2 b x=true∧v=Beb b x) _ _ _ (fun x hx he=>⟨x,hx,he,rfl⟩) v h
 ·rintro ⟨x,h1,h2,rfl⟩
  rcases Bf6 (b:=b) _ v0 true h1 h2 with h | h
  ·exact h
  ·exact absurd h.1 (by decide)
theorem Bf5 {b:Eg} (hv:N3 b) {v:List Liq}:Bj9 b v↔∃ w,w ∈ Beu b∧v=w.take b.vs.length:=by
 rw [Bm1 hv]
 constructor
 ·rintro ⟨x,h1,h2,h3⟩; exact ⟨_,Bin.2 ⟨x,h1,h2,rfl⟩,h3⟩
 ·rintro ⟨w,h1,rfl⟩
  obtain ⟨x,h3,h4,rfl⟩:=Bin.1 h1
  exact ⟨x,h3,h4,rfl⟩
theorem Blf {b:Eg} (hv:N3 b):(∀ w,¬ w ∈ Beu b)↔Bg7 b=[]:=by
 rw [List.eq_nil_iff_forall_not_mem]
 constructor
 ·intro h v hv2
  obtain ⟨w,h1,_⟩:=(Bf5 hv).1 ((Bh9 hv).1 hv2)
  exact h w h1
 ·intro h w hw
  exact h _ ((Bh9 hv).2 ((Bf5 hv).2 ⟨w,hw,rfl⟩))
theorem Bmm {b:Eg} (hv:N3 b) {l:List Rdg} (hr:∀ r ∈ l,Beg b.vs.length r=true) (o:List Int):Bfu (· ∈ Beu b) l o↔Bfu (Bj9 b) l o:=by
 constructor
 ·rintro ⟨w,h1,rfl⟩
  exact ⟨w.take b.vs.length,(Bf5 hv).2 ⟨w,h1,rfl⟩,(Bio hr).symm⟩
 ·rintro ⟨v,h1,rfl⟩
  obtain ⟨w,h2,rfl⟩:=(Bf5 hv).1 h1
  exact ⟨w,h2,Bio hr⟩
def Bh3 (b:Eg) (l:List Rdg):Int:=if B5 b=0 then if 4 < (l.length:Int) then 3 else if l.all (Beg b.vs.length)=true then 0 else 2 else B5 b
def Bfz (b:Eg) (l:List Rdg):Int:=if Bh3 b l=0 then if Bg7 b=[] then 9 else 0 else Bh3 b l
theorem Bkq {b:Eg} {l:List Rdg} (h:Bh3 b l=0):B5 b=0∧l.length≤4∧l.all (Beg b.vs.length)=true:=by
 unfold Bh3 at h
 split at h
 ·rename_i hf
  split at h
  ·cases h
  ·rename_i h4
   split at h
   ·rename_i ha; exact ⟨hf,by omega,ha⟩
   ·cases h
 ·rename_i hf; exact absurd h hf
theorem Bic {b:Eg} (hv:N3 b):Bg7 b=[]↔Beu b=[]:=by
 rw [← Blf hv,List.eq_nil_iff_forall_not_mem]
theorem Bjr {b:Eg} {l:List Rdg} (h:Bfz b l=0):(Be0 l ([],false) (Beu b)).2=true∧Bew (Bfu (Bj9 b) l) (Be0 l ([],false) (Beu b)).1:=by
 unfold Bfz at h
 split at h
 ·rename_i h0
  split at h
  ·cases h
  ·rename_i he
   obtain ⟨hf,h4,ha⟩:=Bkq h0
   have hv:=Adn hf
   obtain ⟨h1,h2⟩:=Bl3 (l:=l) (fun e=>he ((Bic hv).2 e))
   exact ⟨h1,h2.congr (Bmm hv (List.all_eq_true.1 ha))⟩
 ·rename_i h0; exact absurd h h0
def Bhn (b:Eg) (l:List Rdg):List Int:=(Be0 l ([],false) (Beu b)).1
theorem Bgx {b:Eg} {l:List Rdg} (h:Bfz b l=0):Bew (Bfu (Bj9 b) l) (Bhn b l):=(Bjr h).2
theorem Blm (b:Eg) (l:List Rdg):Bd8 b l=if Bfz b l=0 then .tup [isl (Bhn b l),i64 0] else .tup [C4,i64 (Bfz b l)]:=by
 by_cases h:Bfz b l=0
 ·rw [if_pos h]
  have hb:=Bjr h
  unfold Bfz at h
  split at h
  ·rename_i h0
   obtain ⟨hf,h4,ha⟩:=Bkq h0
   unfold Bd8
   rw [if_pos hf,if_neg (by omega),if_neg (by rw [ha]; decide),if_pos hb.1]; rfl
  ·rename_i h0; exact absurd h h0
 ·rw [if_neg h]
  unfold Bd8 Bfz Bh3 at *
  by_cases hf:B5 b=0
  ·simp only [if_pos hf] at *
   by_cases h4:4 < (l.length:Int)
   ·simp only [if_pos h4]; rfl
   ·simp only [if_neg h4] at *
    cases ha:l.all (Beg b.vs.length) with
    | false=>simp
    | true=>
     simp only [ha,if_true] at h ⊢
     by_cases he:Bg7 b=[]
     ·have e:Beu b=[]:=(Bic (Adn hf)).1 he
      rw [e]; simp [Be0,he]
     ·exact absurd (if_neg he) h
  ·simp only [if_neg hf]
theorem Bkz {b:Eg} {l:List Rdg} (hz:b.vs.length < 1000000∧b.ss.length < 1000000) (hl:l.length < 1000000) (h:Bfz b l=0):Bu Tryz.prog 28 [avB b,.p (.sl (l.map Aye))] (.tup [isl (Bhn b l),i64 0]):=by
 have h2:=Bnh b l hz.1 hz.2 hl
 rwa [Blm,if_pos h] at h2
theorem Bju {P:List Liq→Prop} {l:List Rdg} {x:List Int} (h:Bew (Bfu P l) x):x.length≤l.length:=by
 obtain ⟨v,_,rfl⟩:=h.1
 exact Bjw
theorem Blv {b:Eg} {t:Tru} (hf:B5 b=0) (hl:F7 b t=true) (hx:(Beh b t).2=true):Dl b t=.tup [.p (.sl (stL (Beh b t).1)),i64 0]:=by
 have hv:=Adn hf
 obtain ⟨e1,e2⟩:=Bgv t hv
 have e3:(Md b t).2=true:=e1.trans hx
 unfold Dl
 rw [if_pos hf,if_pos hl,if_pos e3,e2 e3]; rfl
theorem Bo4 {b:Eg} {t:Tru} (hf:B5 b=0) (hl:F7 b t=true) (hx:(Beh b t).2=true):Bu Tryz.prog 15 [avB b,avT t] (.tup [.p (.sl (stL (Beh b t).1)),i64 0]):=by
 have hv:=Adn hf
 obtain ⟨h1,h2,h3,_⟩:=Dk hl
 have hnv:=hv.nv
 have hns:=hv.ns
 have h:=Arv b t (by omega) (by omega) (by rw [An8]; omega)
 rwa [Blv hf hl hx] at h
theorem Bjy {b:Eg} (hv:N3 b):Bu Tryz.prog 16 [avB b] (avB b):=Bnv b (Nat.lt_of_le_of_lt hv.nv (by decide)) (Nat.lt_of_le_of_lt hv.ns (by decide))
theorem Bot {b:Eg} {t:Tru} (hv:N3 b) (hl:F7 b t=true):Bu Tryz.prog 17 [avT t] (avT t):=by
 obtain ⟨h1,h2,h3,_⟩:=Dk hl
 have hnv:=hv.nv
 have hns:=hv.ns
 exact Bmo t (by omega) (by omega) (by omega)
theorem Bec (v:List Liq):(stL v).length=v.length:=by unfold stL; rw [List.length_map]
theorem Biw {b:Eg} {t:Tru} (hf:B5 b=0) (hl:F7 b t=true) (hx:(Beh b t).2=true):(Beh b t).1.length=b.vs.length:=by
 have hv:=Adn hf
 have hnv:=hv.nv
 obtain ⟨e1,e2⟩:=Bgv t hv
 rw [← e2 (e1.trans hx),List.length_take,(Ano hv hl).1]; omega
def Bjq (b:Eg) (t:Tru):AV:=if (Beh b t).2=true then .tup [.p (.sl (stL (Beh b t).1)),bl true,bl true] else .tup [C4,bl false,bl true]
theorem Bmi (b:Eg) (t:Tru):(Bjq b t).isP=true:=by unfold Bjq; split <;> rfl
theorem Bo2 {b:Eg} {t:Tru} (hf:B5 b=0) (hl:F7 b t=true) (hx:(Beh b t).2=false):Bu Tryz.prog 15 [avB b,avT t] (.tup [C4,i64 11]):=by
  have hv:=Adn hf
  obtain ⟨h1,h2,h3,_⟩:=Dk hl
  have hnv:=hv.nv
  have hns:=hv.ns
  have h:=Arv b t (by omega) (by omega) (by rw [An8]; omega)
  have e:Dl b t=.tup [C4,i64 11]:=by
    unfold Dl
    rw [if_pos hf,if_pos hl,if_neg (by rw [(Bgv t hv).1,hx]; decide)]
  rwa [e] at h
theorem Bnj (b:Eg) (w:Int) (hf:B5 b=0) (hw:0≤w∧w≤100000000):Bu Tryz.prog 43 [avB b,i64 w] (Bjq b (Bhc b (w % Bey b))):=by
  refine Bo (v:=[]) (q:=[]) (N:=57) (rs:=[.tmp 4,.tmp 5,.tmp 6]) Tryz.func43 rfl rfl rfl rfl (Bmi _ _) ?_
  have hv:=Adn hf
  have hnv:=hv.nv
  have hns:=hv.ns
  have hmb:=Bhl hv b.ss.length
  rw [List.take_length] at hmb
  have hmo:w.tmod (Bey b)=w % Bey b:=Int.tmod_eq_emod_of_nonneg hw.1
  have hmb2:1≤Bey b:=hmb.1
  have hmod:=Bib (m:=w) hmb2
  have hmod2:w % Bey b≤w:=by
    have:=Int.mul_ediv_add_emod w (Bey b)
    have:=Int.mul_nonneg (show 0≤Bey b by omega) (Int.ediv_nonneg hw.1 (show 0≤Bey b by omega))
    omega
  obtain ⟨t,ht⟩:∃ t,t=Bhc b (w % Bey b):=⟨_,rfl⟩
  have hl:F7 b t=true:=by rw [ht]; exact Bgg hv _
  have hrn:=Boo b (w % Bey b) hv hmod.1 (by omega)
  rw [← ht] at hrn ⊢
  cases hx:(Beh b t).2
  all_goals
    first | (have hg:=Biw hf hl hx) | (have hg:=hmo)
    refine Ad fun K1 hK1=>?_
    simp (disch:=omega) only [amL,sA,sB,↓reduceIte]
    refine hK1 _ ?_
    refine Ab fun K2 hK2=>?_
    refine Cj (by kernel_rfl) (by kernel_rfl) ?_
    simp (disch:=omega) only [amL,amT,sA,sB,sF,↓reduceIte,reduceCtorEq]
    repeat' first | (refine Ax (by kernel_rfl) rfl (Bk0 b hv) (by first | exact .inl rfl | exact .inr (.inl rfl)) ?_ ; simp (disch:=omega) only [hg,hmo,amL,amT,sA,sF,↓reduceIte]) | (refine Ax (by kernel_rfl) rfl (hrn) (by first | exact .inl rfl | exact .inr (.inl rfl)) ?_ ; simp (disch:=omega) only [amL,amT,sA,sB,sF,↓reduceIte])
    refine hK2 _ ?_
    refine Ad fun K3 hK3=>?_
    simp (disch:=omega) only [amL,amT,sA,sB,sF,↓reduceIte]
    repeat' first | (refine Ax (by kernel_rfl) rfl (Bnn b t hv hl) (by first | exact .inl rfl | exact .inr (.inl rfl)) ?_ ; simp (disch:=omega) only [hx,amL,sA,sF,↓reduceIte])
    refine hK3 _ ?_
    refine Ab fun K4 hK4=>?_
    refine Cj (by kernel_rfl) (by kernel_rfl) ?_
    simp (disch:=omega) only [amL,amT,sA,sB,sF,↓reduceIte]
    repeat' first | (refine Ax (by kernel_rfl) rfl (Bjy hv) (by first | exact .inl rfl | exact .inr (.inl rfl)) ?_ ; simp (disch:=omega) only [amL,amT,sA,sB,sF,↓reduceIte]) | (refine Ax (by kernel_rfl) rfl (Bot hv hl) (by first | exact .inl rfl | exact .inr (.inl rfl)) ?_ ; simp (disch:=omega) only [amL,sF,↓reduceIte]) | (refine Ax (by kernel_rfl) rfl (by first | exact Bo4 hf hl hx | exact Bo2 hf hl hx) (by first | exact .inl rfl | exact .inr (.inl rfl)) ?_ ; simp (disch:=omega) only [amL,sA,sF,↓reduceIte])
    refine hK4 _ ?_
    refine Ad fun K5 hK5=>?_
    simp (disch:=omega) only [Bec,hg,amL,amT,sA,sF,sO,↓reduceIte,reduceCtorEq]
    repeat' first | (refine E3 (fun h=>?_) (fun h=>?_) <;> simp (disch:=omega) only [h,hx,Bec,hg,hmo,amL,amT,sA,sB,sC,sD,sE,sF,sG,sH,sI,sJ,sK,sL,sM,sN,sO,↓reduceIte,reduceCtorEq]) | (refine Cz (fun h=>?_) (fun h=>?_) <;> simp (disch:=omega) only [h,hx,Bec,hg,hmo,amL,amT,sA,sB,sC,sD,sE,sF,sG,sH,sI,sJ,sK,sL,sM,sN,sO,↓reduceIte,reduceCtorEq])
    all_goals
     skip
     refine hK5 _ ?_
     refine Aj ?_
     try simp (disch:=omega) only [amL]
     all_goals (simp only [Bjq,hx,if_true,Bool.false_eq_true,if_false] ; first | done | rfl | trace_state)
theorem Boj {b:Eg} {t:Tru} (h:(Beh b t).2=true):Bjq b t=.tup [.p (.sl (stL (Beh b t).1)),bl true,bl true]:=by unfold Bjq; rw [if_pos h]
theorem Boh {b:Eg} {t:Tru} (h:¬ (Beh b t).2=true):Bjq b t=.tup [C4,bl false,bl true]:=by unfold Bjq; rw [if_neg h]
theorem Bgy (l:Liq):(Bby l).k=Q8 l:=rfl
theorem Bn2 {w n:Nat} (_:0 < n):(w:Int).tmod n=((w % n:Nat):Int):=by
  rw [Int.tmod_eq_emod_of_nonneg (by omega)]; omega
theorem Bho (a b:Int):Bu Tryz.prog 48 [i64 a,i64 b] (avR ⟨a,b⟩):=by
  refine Bo (v:=[]) (q:=[]) (N:=8) (rs:=[.cell 4 58]) Tryz.func48 rfl rfl rfl rfl rfl ?_
  refine Ab fun K1 hK1=>?_
  refine Ah ?_
  simp (disch:=omega) only [amL,amT,sA,sB,↓reduceIte]
  refine hK1 _ ?_
  refine Ab fun K2 hK2=>?_
  refine Ah ?_
  simp (disch:=omega) only [amL,amT,sA,sB,sE,sF,↓reduceIte,reduceCtorEq]
  refine hK2 _ ?_
  refine Aj ?_
  try simp (disch:=omega) only [amL,amT,sB,sF,↓reduceIte]
  all_goals rfl
theorem Bo1 {n p:Nat} (h:((n / 2 ^ p:Nat):Int) % 2=0):n / 2 ^ p % 2=0:=by generalize n / 2 ^ p=m at h ⊢; omega
theorem Boy {n p:Nat} (h:¬ ((n / 2 ^ p:Nat):Int) % 2=0):¬ n / 2 ^ p % 2=0:=by generalize n / 2 ^ p=m at h ⊢; omega
theorem Bl7 {l:List Rdg} {n k:Nat} (h:((n / 2 ^ k:Nat):Int) % 2=0):Be1 l n (k+1)=Be1 l n k++[l.getD k default]:=if_pos (Bo1 h)
theorem Bob {l:List Rdg} {n k:Nat} (h:¬ ((n / 2 ^ k:Nat):Int) % 2=0):Be1 l n (k+1)=Be1 l n k:=if_neg (Boy h)
theorem Bhf (l:List Rdg) (n:Nat) (hl:l.length≤16) (_:n < 65536):Bu Tryz.prog 49 [.p (.sl (l.map Aye)),i64 (n:Int)] (.p (.sl ((Bfw l n).map Aye))):=by
  refine Bo (v:=[]) (q:=[]) (N:=27) (rs:=[.tmp 4]) Tryz.func49 rfl rfl rfl rfl rfl ?_
  refine Ad fun K1 hK1=>?_
  simp (disch:=omega) only [amL,sA,sB]
  refine hK1 _ ?_
  refine Ad fun K2 hK2=>?_
  simp (disch:=omega) only [amL,sA]
  refine hK2 _ ?_
  refine Ab fun K3 hK3=>?_
  refine Ad fun K4 hK4=>?_
  simp (disch:=omega) only [amL,sA]
  refine hK4 _ ?_
  refine Au ?_
  refine Px 25 5 5 (by decide) rfl rfl ?_
  refine Bg (α:=Nat) (fun k=>⟨T [(0,.p (.sl (l.map Aye))),(1,i64 (n:Int)),(5,.own 25 (Be1 l n k).length),(6,i64 (k:Int))],O [(25,.arr 5 ((Be1 l n k).map Aye))]⟩) (fun k=>l.length - k) (fun k=>k≤l.length) 0 ?_ ?_ (fun k hx5 K5 hK5=>?_)
  · exact Nat.zero_le _
  · refine Dg ?_ ?_ ?_ ?_ <;> (try simp (disch:=omega) only [amL,sF,↓reduceIte,reduceCtorEq]); all_goals first | rfl | trace_state
  have hk:=hx5; have hkl:=Bgr l n k
  refine Ab fun K6 hK6=>?_
  refine Ad fun K7 hK7=>?_
  simp (disch:=omega) only [amL,amT,sA,sF,↓reduceIte,reduceCtorEq]
  refine hK7 _ ?_
  refine Al rfl (fun h=>MT.x ?_) (fun h=>ME.x ?_)
  all_goals
   first
   |refine MT.mk ?_
    first
    |exact Bool.noConfusion h
    |skip
     try simp only [nrm] at h
     refine Am ?_
     refine hK6 _ ?_
   |refine ME.mk ?_
    first
    |exact Bool.noConfusion h
    |skip
     try simp only [nrm] at h
     refine Bq ?_
     refine hK3 _ ?_
     refine Ad fun K8 hK8=>?_
     simp (disch:=omega) only [amL,sA,sF,↓reduceIte,reduceCtorEq]
     refine hK8 _ ?_
     refine Aj ?_
     try simp (disch:=omega) only [amL,↓reduceIte]
     obtain rfl:k=l.length:=by omega
     rw [List.take_of_length_le (by simp)]
     rfl
  all_goals
   skip
   refine Ab fun K9 hK9=>?_
   refine Au ?_
   refine Ad fun K10 hK10=>?_
   simp (disch:=omega) only [Bez,Bga,Bfa,amL,amT,sA,sF,sO,↓reduceIte,reduceCtorEq]
   refine hK10 _ ?_
   refine Al rfl (fun h=>MT.x ?_) (fun h=>ME.x ?_)
   all_goals
    first
    |refine MT.mk ?_
     first
     |exact Bool.noConfusion h
     |skip
      try simp only [nrm] at h
      refine Ah ?_
      simp (disch:=omega) only [Bg2,amL,amT,sA,sB,sC,sE,sF,↓reduceIte,reduceCtorEq]
      refine hK9 _ ?_
    |refine ME.mk ?_
     first
     |exact Bool.noConfusion h
     |skip
      try simp only [nrm] at h
      refine Am ?_
      refine hK9 _ ?_
   all_goals
    skip
    refine Ah ?_
    simp (disch:=omega) only [amL,amT,sA,sF,↓reduceIte,reduceCtorEq]
    refine hK5 (k+1) _ ?_ ?_ (Dg ?_ ?_ ?_ ?_)
    all_goals (try simp (disch:=omega) only [amL,sF,↓reduceIte,reduceCtorEq])
    all_goals first | omega | (rw [Bl7 (by assumption),List.length_append]; rfl) | (rw [Bl7 (by assumption),List.map_append]; rfl) | (rw [Bob (by assumption)]; done) | trace_state
theorem Bgw {b:Eg} {l:List Rdg} (hf:B5 b=0) (he:¬ Bg7 b=[]) (h4:l.length≤4) (ha:∀ r ∈ l,Beg b.vs.length r=true):Bfz b l=0:=by
  have hR:Bh3 b l=0:=by unfold Bh3; rw [if_pos hf,if_neg (by omega),if_pos (List.all_eq_true.2 ha)]
  unfold Bfz; rw [if_pos hR,if_neg he]
theorem Bjt {last:Int}:∀ {l:List Int} {p:Int} {k:Nat},Bep last p l=true→k+1 < l.length→l.getD k 0 < l.getD (k+1) 0
  | [],_,_,_,h=>by simp at h
  | [_],_,_,_,h=>by simp at h
  | x :: y :: l,p,0,hp,_=>by
    simp only [Bep,Bool.and_eq_true,decide_eq_true_eq] at hp
    exact hp.2.2.1
  | x :: y :: l,p,k+1,hp,h=>by
    simp only [Bep,Bool.and_eq_true,decide_eq_true_eq] at hp
    have:=Bjt (l:=y :: l) (p:=x) (k:=k) (last:=last) (by simp only [Bep,Bool.and_eq_true,decide_eq_true_eq]; exact hp.2.2) (by simpa using h)
    simpa using this
theorem Bne {b n:Nat} (h:n < 2 ^ b):(BitVec.ofInt b (n:Int)).toNat=n:=by
  rw [BitVec.ofInt_natCast,BitVec.toNat_ofNat,Nat.mod_eq_of_lt h]
theorem Bno {P:Program} {t:TypeId} {k:TK} {a b:Nat} (ha:a < 65536) (hb:b < 65536):Fx P t .or k (.p (.val (.int .i64 (a:Int)))) (.p (.val (.int .i64 (b:Int))))=some (.pure (i64 ((a ||| b:Nat):Int))):=by
  have h2:a ||| b < 2 ^ 16:=Nat.or_lt_two_pow ha hb
  have h1:IntKind.i64.wrap (((BitVec.ofInt IntKind.i64.bits (a:Int) ||| BitVec.ofInt IntKind.i64.bits (b:Int)).toNat:Nat):Int)=((a ||| b:Nat):Int):=by
    rw [BitVec.toNat_or,Bne (Nat.lt_of_lt_of_le ha (by decide)),Bne (Nat.lt_of_lt_of_le hb (by decide))]
    exact Fc (by omega) (by omega)
  show (Ji .or (.int .i64 (a:Int)) (.int .i64 (b:Int))).map (fun v=>Eff.pure (.p (.val v)))=_
  simp only [Ji,Ae7,if_true,h1,Option.map_some]
abbrev wdR (wide i:Nat):Int:=((wide / 2 ^ i % 3:Nat):Int)
def Bfs (v:List Liq) (wide i:Nat):Rdg:=⟨((i % v.length:Nat):Int),⟨(B6 v (i % v.length)).g - wdR wide i,(B6 v (i % v.length)).g+wdR wide i % 2⟩,⟨Q8 (B6 v (i % v.length)),Q8 (B6 v (i % v.length))+wdR wide i⟩⟩
def Bk4 (v:List Liq) (wide wrong i:Nat):Rdg:=if wrong / 2 ^ i % 2=1 then ⟨(Bfs v wide i).v,⟨(Bfs v wide i).g.lo+1,(Bfs v wide i).g.hi+1+i⟩,(Bfs v wide i).d⟩ else Bfs v wide i
def Bi5 (v:List Liq) (wide k:Nat):List Rdg:=(List.range k).map (Bfs v wide)
def Bje (v:List Liq) (wide wrong k:Nat):List Rdg:=(List.range k).map (Bk4 v wide wrong)
theorem Bih {v:List Liq} {wide k:Nat}:(Bi5 v wide (k+1)).map Aye=(Bi5 v wide k).map Aye++[Aye (Bfs v wide k)]:=by
  unfold Bi5; rw [List.range_succ,List.map_append,List.map_append]; rfl
theorem Bif {v:List Liq} {wide wrong k:Nat}:(Bje v wide wrong (k+1)).map Aye=(Bje v wide wrong k).map Aye++[Aye (Bk4 v wide wrong k)]:=by
  unfold Bje; rw [List.range_succ,List.map_append,List.map_append]; rfl
theorem Bo3 {n p:Nat} (h:((n / 2 ^ p:Nat):Int) % 2=1):n / 2 ^ p % 2=1:=by generalize n / 2 ^ p=m at h ⊢; omega
theorem Bo6 {n p:Nat} (h:¬ ((n / 2 ^ p:Nat):Int) % 2=1):¬ n / 2 ^ p % 2=1:=by generalize n / 2 ^ p=m at h ⊢; omega
theorem Boe {v:List Liq} {wide wrong i:Nat} (h:((wrong / 2 ^ i:Nat):Int) % 2=1):Bk4 v wide wrong i=⟨(Bfs v wide i).v,⟨(Bfs v wide i).g.lo+1,(Bfs v wide i).g.hi+1+i⟩,(Bfs v wide i).d⟩:=if_pos (Bo3 h)
theorem Boa {v:List Liq} {wide wrong i:Nat} (h:¬ ((wrong / 2 ^ i:Nat):Int) % 2=1):Bk4 v wide wrong i=Bfs v wide i:=if_neg (Bo6 h)
theorem Bk2 (wide i:Nat):0≤wdR wide i∧wdR wide i≤2:=by unfold wdR; omega
theorem Bjm {v:List Liq} {n wide i:Nat} (hv:v.length=n) (hn:0 < n):Beg n (Bfs v wide i)=true:=by
  have h:=Bk2 wide i
  have h2:=Nat.mod_lt i (show 0 < v.length by omega)
  simp only [Beg,inB,Bool.and_eq_true,decide_eq_true_eq]
  dsimp only [Bfs]
  omega
theorem Blx {v:List Liq} {n wide wrong i:Nat} (hv:v.length=n) (hn:0 < n):Beg n (Bk4 v wide wrong i)=true:=by
  unfold Bk4
  split
  · have h:=Bk2 wide i
    have h2:=Nat.mod_lt i (show 0 < v.length by omega)
    simp only [Beg,inB,Bool.and_eq_true,decide_eq_true_eq]
    dsimp only [Bfs]
    omega
  · exact Bjm hv hn
theorem Bjz {v:List Liq} {wide i:Nat}:Bei v (Bfs v wide i)=true:=by
  have h:=Bk2 wide i
  unfold Bei
  have e:v.getD (Bfs v wide i).v.toNat default=B6 v (i % v.length):=by
    show v.getD (((i % v.length:Nat):Int)).toNat default=_
    rw [Int.toNat_natCast]
  rw [e]
  simp only [Jk,inB,Bool.and_eq_true,decide_eq_true_eq]
  dsimp only [Bfs]
  omega
theorem Bfi {n p:Nat} (h:p≤8):((n:Int).fdiv (2 ^ (min p IntKind.u8.bits)):Int)=((n / 2 ^ p:Nat):Int):=by
  have e:(2:Int) ^ p=((2 ^ p:Nat):Int):=by rw [Int.natCast_pow]; rfl
  rw [Nat.min_eq_left (by simp only [IntKind.bits]; omega),e,Int.fdiv_eq_ediv_of_nonneg _ (Int.natCast_nonneg _),Int.natCast_ediv]
theorem Bou {m:Nat}:(m:Int).tmod 3=((m % 3:Nat):Int):=by rw [Int.tmod_eq_emod_of_nonneg (by omega)]; omega
theorem Bek (v:List Liq) (wide k:Nat):(Bi5 v wide k).length=k:=by simp [Bi5]
theorem Tf (v:List Liq) (wide wrong k:Nat):(Bje v wide wrong k).length=k:=by simp [Bje]
theorem Bm8 {v:List Liq} {n wide k:Nat} (hv:v.length=n) (hn:0 < n):∀ r ∈ Bi5 v wide k,Beg n r=true:=fun r hr=>by
  obtain ⟨i,_,rfl⟩:=List.mem_map.1 hr; exact Bjm hv hn
theorem Bmd {v:List Liq} {n wide wrong k:Nat} (hv:v.length=n) (hn:0 < n):∀ r ∈ Bje v wide wrong k,Beg n r=true:=fun r hr=>by
  obtain ⟨i,_,rfl⟩:=List.mem_map.1 hr; exact Blx hv hn
theorem Bis {n m:Nat} {l:List Rdg} (h:∀ r ∈ l,Beg n r=true):∀ r ∈ Bfw l m,Beg n r=true:=fun r hr=>by
  obtain ⟨j,h1,_,rfl⟩:=(Bgl _).1 hr
  exact h _ (Du default h1)
theorem Bny {v:List Liq} {wide k:Nat}:Bfj v (Bi5 v wide k)=[]:=Bjl.2 fun r hr=>by
  obtain ⟨i,_,rfl⟩:=List.mem_map.1 hr; exact Bjz
theorem Bhd {v:List Liq} {wide i q:Nat} {w:Int} (hq:q=i % v.length) (hw:w=wdR wide i):Bfs v wide i=⟨(q:Int),⟨(B6 v q).g - w,(B6 v q).g+w % 2⟩,⟨Q8 (B6 v q),Q8 (B6 v q)+w⟩⟩:=by subst hq hw; rfl
theorem c_wortReads (b:Eg) (w wide wrong out:Nat) (_:Alh b) (hw:w < 65536) (hwide:wide < 256) (_:wrong < 256) (hout:out < 256):Bu Tryz.prog 11 [avB b,.p (.val (.int .u16 w)),.p (.val (.int .u8 wide)),.p (.val (.int .u8 wrong)),.p (.val (.int .u8 out))] (bl true):=by
  refine Bo (v:=[]) (q:=[]) (N:=237) (rs:=[.tmp 10]) Tryz.func11 rfl rfl rfl rfl rfl ?_
  cases hq:Bhi b
  case' true=>
    have hth:Bg9 b ⟨[],[],[]⟩=true:=by simp [Bhi] at hq; exact hq.1
    have hf:B5 b=0:=by simp [Bhi] at hq; exact hq.2
    have hz:=Bl9 hth
    have hv:=Adn hf
    have hp:=Bnj b w hf ⟨by omega,by omega⟩
    obtain ⟨t,ht⟩:∃ t,t=Bhc b ((w:Int) % Bey b):=⟨_,rfl⟩
    have hl:F7 b t=true:=by rw [ht]; exact Bgg hv _
    rw [← ht] at hp
    obtain ⟨v,hvd⟩:∃ v,v=(Beh b t).1:=⟨_,rfl⟩
    by_cases hx:(Beh b t).2=true
  all_goals
    first
    | (rw [Boj hx,← hvd] at hp
       have hE:Bj9 b v:=⟨t,hl,hx,hvd⟩
       have he:¬ Bg7 b=[]:=fun e=>by have:=(Bh9 hv).2 hE; rw [e] at this; cases this
       have hM:v.length=b.vs.length:=by rw [hvd]; exact Biw hf hl hx
       have hok:OkN b.vs.length v:=by rw [hvd]; exact Bmh hv hl
       have hn0:=(Afu hf).2.2.1
       have hnv:=hv.nv
       obtain ⟨own,hown⟩:∃ l,l=Bi5 v wide 4:=⟨_,rfl⟩
       obtain ⟨all,hall⟩:∃ l,l=Bje v wide wrong 4:=⟨_,rfl⟩
       have r1:∀ r ∈ own,Beg b.vs.length r=true:=by rw [hown]; exact Bm8 hM hn0
       have r2:∀ r ∈ all,Beg b.vs.length r=true:=by rw [hall]; exact Bmd hM hn0
       have l1:own.length=4:=by rw [hown]; exact Bek _ _ _
       have l2:all.length=4:=by rw [hall]; exact Tf _ _ _ _
       have w1:=Bgw hf he (by omega) r1
       have w2:=Bgw hf he (by omega) r2
       have c1:=Bkz hz (by omega) w1
       have c2:=Bkz hz (by omega) w2
       have b2:=Bgx w2
       have e1:Bhn b own=[]:=Bhx (Bgx w1) ⟨v,hE,by rw [hown,Bny]⟩
       rw [e1] at c1
       obtain ⟨y,hy⟩:∃ y,y=Bhn b all:=⟨_,rfl⟩
       rw [← hy] at c2 b2
       have ly:y.length≤4:=by have:=Bju b2; omega
       have py:Bep 3 (-1) y=true:=by
         obtain ⟨u,_,hu⟩:=b2.1
         have:=Bg5 (v:=u) (l:=all)
         rw [← hu,l2] at this; exact this
       have ym:∀ k,k < y.length→0≤y.getD k 0∧y.getD k 0≤3:=fun k hk=>by have:=Bfn py _ (Du 0 hk); omega
       have yB:∀ k,k < y.length→inB (y.getD k 0) 0 3=true:=fun k hk=>by have:=ym k hk; simp only [inB,Bool.and_eq_true,decide_eq_true_eq]; omega
       have yI:∀ k:Nat,k < y.length→0 < (k:Int)→(y.getD k 0≤y.getD ((k:Int) - 1).toNat 0)=False:=fun k hk h0=>eq_false (by rw [show ((k:Int) - 1).toNat=k - 1 by omega]; have:=Bjt (k:=k - 1) py (by omega); rw [show k - 1+1=k by omega] at this; omega)
       have sS:∀ k,Bgh (y.take k) < 65536:=fun k=>Bn0 (m:=16) fun x hx=>by have:=Bfn py x (List.mem_of_mem_take hx); omega
       have k1l:(Bfw all (Bgh y)).length≤4:=by have:=Bgr all (Bgh y) all.length; unfold Bfw; omega
       have w3:=Bgw hf he k1l (Bis (m:=Bgh y) r2)
       have c3:=Bkz hz (by omega) w3
       have e3:Bhn b (Bfw all (Bgh y))=[]:=Bhx (Bgx w3) (Bmj (by omega) b2)
       rw [e3] at c3
       have k2l:(Bfw all (out % 16)).length≤4:=by have:=Bgr all (out % 16) all.length; unfold Bfw; omega
       have w4:=Bgw hf he k2l (Bis (m:=out % 16) r2)
       have c4:=Bkz hz (by omega) w4
       obtain ⟨q,hqd⟩:∃ q,q=Bhn b (Bfw all (out % 16)):=⟨_,rfl⟩
       have b4:=Bgx w4
       rw [← hqd] at c4 b4
       have hsh:¬ 0 < (q.length:Int)→Bd5 (Bfc (out % 16)) y=false:=fun h0=>Bj1 (by omega) b2 (by rw [l2]; exact Nat.mod_lt _ (by decide)) (by rw [List.length_eq_zero_iff.1 (show q.length=0 by omega)] at b4; exact b4.1)
       have lq:q.length≤4:=by have:=Bju b4; omega
       have hmo:(out:Int).tmod 16=((out % 16:Nat):Int):=Bn2 (n:=16) (by decide)
       have hmi:∀ i:Nat,(i:Int).tmod (v.length:Int)=((i % v.length:Nat):Int):=fun i=>Bn2 (by omega)
       have hq2:=hq)
    | (rw [Boh hx] at hp; have hM:=hq; have yB:=hq; have yI:=hq; have hmo:=hq; have hmi:=hq; have hsh:=hq; have hq2:=hq)
    | (have hp:=Bdq; have hM:=hq; have yB:=hq; have yI:=hq; have hmo:=hq; have hmi:=hq; have hsh:=hq; have hq2:=hq)
    refine Ad fun K1 hK1=>?_
    simp (disch:=omega) only [eq_self,decide_true,amL,sA,sB,↓reduceIte]
    refine hK1 _ ?_
    refine Ab fun K2 hK2=>?_
    refine Ad fun K3 hK3=>?_
    simp (disch:=omega) only [eq_self,decide_true,amL,amT,sA,sB,sF,↓reduceIte]
    repeat' first | (refine Ax (by kernel_rfl) rfl (Bm7 b) (by first | exact .inl rfl | exact .inr (.inl rfl)) ?_ ; simp (disch:=omega) only [hq,eq_self,decide_true,amL,sA,↓reduceIte])
    refine hK3 _ ?_
    refine Al rfl (fun h=>MT.x ?_) (fun h=>ME.x ?_)
    all_goals
     first
     |refine MT.mk ?_
      first
      |exact Bool.noConfusion h
      |((try simp only [] at h) ; exfalso ; omega)
      |skip
       try simp only [] at h
       refine Ad fun K4 hK4=>?_
       simp (disch:=omega) only [amL]
       repeat' first | (refine Ax (by kernel_rfl) rfl (Bdq) (by first | exact .inl rfl | exact .inr (.inl rfl)) ?_ ; simp (disch:=omega) only [eq_self,decide_true,amL,sA,↓reduceIte])
       refine hK4 _ ?_
       refine Aj ?_
       try simp (disch:=omega) only [eq_self,amL,↓reduceIte]
       all_goals first | rfl | trace_state
     |refine ME.mk ?_
      first
      |exact Bool.noConfusion h
      |((try simp only [] at h) ; exfalso ; omega)
      |skip
       try simp only [] at h
       refine Am ?_
       refine hK2 _ ?_
    all_goals
     skip
     refine Ad fun K5 hK5=>?_
     simp (disch:=omega) only [eq_self,decide_true,amL,amT,sA,sB,sF,↓reduceIte,reduceCtorEq]
     repeat' first | (refine Ax (by kernel_rfl) rfl (hp) (by first | exact .inl rfl | exact .inr (.inl rfl)) ?_ ; simp (disch:=omega) only [eq_self,decide_true,amL,sA,sF,↓reduceIte])
     refine hK5 _ ?_
     refine Ab fun K6 hK6=>?_
     refine Ad fun K7 hK7=>?_
     simp (disch:=omega) only [eq_self,decide_true,amL,sA,sF,↓reduceIte]
     repeat' first | (refine E3 (fun h=>?_) (fun h=>?_) <;> simp (disch:=omega) only [h,hq,hsh,Bek,Tf,yB,yI,hmo,Bez,Bga,Bfi,Bfa,Beo,Bec,Bfl,Bfg,Bgy,Bm,ne_eq,eq_self,not_true_eq_false,decide_false,decide_true,List.length_map,amL,amT,sA,sB,sC,sD,sE,sF,sG,sH,sI,sJ,sK,sL,sM,sN,sO,↓reduceIte,reduceCtorEq]) | (refine Cz (fun h=>?_) (fun h=>?_) <;> simp (disch:=omega) only [h,hq,hsh,Bek,Tf,yB,yI,hmo,Bez,Bga,Bfi,Bfa,Beo,Bec,Bfl,Bfg,Bgy,Bm,ne_eq,eq_self,not_true_eq_false,decide_false,decide_true,List.length_map,amL,amT,sA,sB,sC,sD,sE,sF,sG,sH,sI,sJ,sK,sL,sM,sN,sO,↓reduceIte,reduceCtorEq])
     all_goals
      skip
      refine hK7 _ ?_
      refine Al rfl (fun h=>MT.x ?_) (fun h=>ME.x ?_)
      all_goals
       first
       |refine MT.mk ?_
        first
        |exact Bool.noConfusion h
        |((try simp only [] at h) ; exfalso ; omega)
        |skip
         try simp only [] at h
         refine Ad fun K8 hK8=>?_
         simp (disch:=omega) only [eq_self,decide_true,amL,sA,sF,↓reduceIte]
         repeat' first | (refine E3 (fun h=>?_) (fun h=>?_) <;> simp (disch:=omega) only [h,hq,hsh,Bek,Tf,yB,yI,hmo,Bez,Bga,Bfi,Bfa,Beo,Bec,Bfl,Bfg,Bgy,Bm,ne_eq,eq_self,not_true_eq_false,decide_false,decide_true,List.length_map,amL,amT,sA,sB,sC,sD,sE,sF,sG,sH,sI,sJ,sK,sL,sM,sN,sO,↓reduceIte,reduceCtorEq]) | (refine Cz (fun h=>?_) (fun h=>?_) <;> simp (disch:=omega) only [h,hq,hsh,Bek,Tf,yB,yI,hmo,Bez,Bga,Bfi,Bfa,Beo,Bec,Bfl,Bfg,Bgy,Bm,ne_eq,eq_self,not_true_eq_false,decide_false,decide_true,List.length_map,amL,amT,sA,sB,sC,sD,sE,sF,sG,sH,sI,sJ,sK,sL,sM,sN,sO,↓reduceIte,reduceCtorEq]) | (refine Ax (by kernel_rfl) rfl (Bdq) (by first | exact .inl rfl | exact .inr (.inl rfl)) ?_ ; simp (disch:=omega) only [eq_self,decide_true,amL,sA,sF,↓reduceIte])
         all_goals
          skip
          refine hK8 _ ?_
          refine Aj ?_
          try simp (disch:=omega) only [eq_self,amL,↓reduceIte]
          all_goals first | rfl | trace_state
       |refine ME.mk ?_
        first
        |exact Bool.noConfusion h
        |((try simp only [] at h) ; exfalso ; omega)
        |skip
         try simp only [] at h
         refine Am ?_
         refine hK6 _ ?_
      all_goals
       skip
       refine Ad fun K9 hK9=>?_
       simp (disch:=omega) only [eq_self,decide_true,amL,sA]
       refine hK9 _ ?_
       refine Ab fun K10 hK10=>?_
       refine Ad fun K11 hK11=>?_
       simp (disch:=omega) only [eq_self,decide_true,amL,sA]
       refine hK11 _ ?_
       refine Au ?_
       refine Px 101 5 14 (by decide) rfl rfl ?_
       refine Px 123 5 15 (by decide) rfl rfl ?_
       refine Bg (α:=Nat) (fun i=>⟨T [(2,.p (.val (.int .u8 wide))),(3,.p (.val (.int .u8 wrong))),(4,.p (.val (.int .u8 out))),(5,.ptr 5 0),(11,.p (.sl (stL v))),(14,.own 101 i),(15,.own 123 i),(16,i64 (i:Int))],O [(5,.cells (cB b)),(101,.arr 5 ((Bi5 v wide i).map Aye)),(123,.arr 5 ((Bje v wide wrong i).map Aye))]⟩) (fun i=>4 - i) (fun i=>i≤4) 0 ?_ ?_ (fun i hx12 K12 hK12=>?_)
       · exact Nat.zero_le _
       · refine Dg ?_ ?_ ?_ ?_ <;> (try simp (disch:=omega) only [eq_self,amL,sF,sG,↓reduceIte,reduceCtorEq]); all_goals first | rfl | exact ⟨rfl,rfl⟩ | trace_state
       have hk:=hx12
       refine Ab fun K13 hK13=>?_
       refine Ad fun K14 hK14=>?_
       simp (disch:=omega) only [eq_self,decide_true,amL,amT,sA,sF,↓reduceIte]
       refine hK14 _ ?_
       refine Al rfl (fun h=>MT.x ?_) (fun h=>ME.x ?_)
       all_goals
        first
        |refine MT.mk ?_
         first
         |exact Bool.noConfusion h
         |((try simp only [nrm] at h) ; exfalso ; omega)
         |skip
          try simp only [nrm] at h
          refine Am ?_
          refine hK13 _ ?_
        |refine ME.mk ?_
         first
         |exact Bool.noConfusion h
         |((try simp only [nrm] at h) ; exfalso ; omega)
         |skip
          try simp only [nrm] at h
          refine Bq ?_
          refine hK10 _ ?_
          refine Ab fun K15 hK15=>?_
          obtain rfl:i=4:=by omega
          refine Bgn 101 rfl ?_
          simp only [Wr,Bh7,AV.frz,AO.frz,List.map_cons,List.map_nil,Nat.reduceEqDiff,if_false,if_true,Nat.le_refl,List.length_map,Bek]
          refine Bgn 123 rfl ?_
          simp only [Wr,Bh7,AV.frz,AO.frz,List.map_cons,List.map_nil,Nat.reduceEqDiff,if_false,if_true,Nat.le_refl,List.length_map,Tf]
          rw [List.take_of_length_le (by rw [List.length_map,Bek]; exact Nat.le_refl _),List.take_of_length_le (by rw [List.length_map,Tf]; exact Nat.le_refl _),← hown,← hall]
          refine Ah ?_
          simp (disch:=omega) only [eq_self,decide_false,decide_true,amL,amT,sA,sB,sF,sH,sK,↓reduceIte]
          repeat' first | (refine Ax (by kernel_rfl) rfl (Bjy hv) (by first | exact .inl rfl | exact .inr (.inl rfl)) ?_ ; simp (disch:=omega) only [eq_self,decide_true,amL,sA,sF,↓reduceIte]) | (refine Ax (by kernel_rfl) rfl (by first | exact c1 | exact c2 | exact c3 | exact c4) (by first | exact .inl rfl | exact .inr (.inl rfl)) ?_ ; simp (disch:=omega) only [eq_self,decide_true,amL,sA,sF,↓reduceIte])
          refine hK15 _ ?_
          refine Ad fun K16 hK16=>?_
          simp (disch:=omega) only [eq_self,decide_true,amL,amT,sA,sB,sF,↓reduceIte]
          repeat' first | (refine Ax (by kernel_rfl) rfl (Bjy hv) (by first | exact .inl rfl | exact .inr (.inl rfl)) ?_ ; simp (disch:=omega) only [eq_self,decide_true,amL,sA,sF,↓reduceIte]) | (refine Ax (by kernel_rfl) rfl (by first | exact c1 | exact c2 | exact c3 | exact c4) (by first | exact .inl rfl | exact .inr (.inl rfl)) ?_ ; simp (disch:=omega) only [eq_self,decide_true,amL,sA,sF,↓reduceIte])
          refine hK16 _ ?_
          refine Ab fun K17 hK17=>?_
          refine Ad fun K18 hK18=>?_
          simp (disch:=omega) only [ne_eq,eq_self,not_true_eq_false,decide_false,decide_true,List.length_map,amL,amT,sA,sF,↓reduceIte]
          repeat' first | (refine E3 (fun h=>?_) (fun h=>?_) <;> simp (disch:=omega) only [h,hq,hsh,Bek,Tf,yB,yI,hmo,Bez,Bga,Bfi,Bfa,Beo,Bec,Bfl,Bfg,Bgy,Bm,ne_eq,eq_self,not_true_eq_false,decide_false,decide_true,List.length_map,amL,amT,sA,sB,sC,sD,sE,sF,sG,sH,sI,sJ,sK,sL,sM,sN,sO,↓reduceIte,reduceCtorEq]) | (refine Cz (fun h=>?_) (fun h=>?_) <;> simp (disch:=omega) only [h,hq,hsh,Bek,Tf,yB,yI,hmo,Bez,Bga,Bfi,Bfa,Beo,Bec,Bfl,Bfg,Bgy,Bm,ne_eq,eq_self,not_true_eq_false,decide_false,decide_true,List.length_map,amL,amT,sA,sB,sC,sD,sE,sF,sG,sH,sI,sJ,sK,sL,sM,sN,sO,↓reduceIte,reduceCtorEq])
          all_goals
           skip
           refine hK18 _ ?_
           refine Al rfl (fun h=>MT.x ?_) (fun h=>ME.x ?_)
           all_goals
            first
            |refine MT.mk ?_
             first
             |exact Bool.noConfusion h
             |((try simp only [nrm] at h) ; exfalso ; omega)
             |skip
              try simp only [nrm] at h
              refine Ad fun K19 hK19=>?_
              simp (disch:=omega) only [hq,hsh,Bek,Tf,yB,yI,hmo,Bez,Bga,Bfi,Bfa,Beo,Bec,Bfl,Bfg,Bgy,Bm,ne_eq,eq_self,not_true_eq_false,decide_false,decide_true,List.length_map,amL,amT,sA,sB,sC,sD,sE,sF,sG,sH,sI,sJ,sK,sL,sM,sN,sO,↓reduceIte,reduceCtorEq]
              refine hK19 _ ?_
              refine Aj ?_
              try simp (disch:=omega) only [hq,hsh,Bek,Tf,yB,yI,hmo,Bez,Bga,Bfi,Bfa,Beo,Bec,Bfl,Bfg,Bgy,Bm,ne_eq,eq_self,not_true_eq_false,decide_false,decide_true,List.length_map,amL,amT,sA,sB,sC,sD,sE,sF,sG,sH,sI,sJ,sK,sL,sM,sN,sO,↓reduceIte,reduceCtorEq]
              all_goals first | rfl | trace_state
            |refine ME.mk ?_
             first
             |exact Bool.noConfusion h
             |((try simp only [nrm] at h) ; exfalso ; omega)
             |skip
              try simp only [nrm] at h
              refine Am ?_
              refine hK17 _ ?_
           all_goals
            skip
            refine Ad fun K20 hK20=>?_
            simp (disch:=omega) only [eq_self,decide_true,amL,sA]
            refine hK20 _ ?_
            refine Ab fun K21 hK21=>?_
            refine Ad fun K22 hK22=>?_
            simp (disch:=omega) only [eq_self,decide_true,amL,sA]
            refine hK22 _ ?_
            refine Au ?_
            skip
            refine Bg (α:=Nat) (fun k=>⟨T [(4,.p (.val (.int .u8 out))),(5,.ptr 5 0),(15,.p (.sl (all.map Aye))),(22,isl y),(24,i64 ((Bgh (y.take k):Nat):Int)),(25,i64 (k:Int))],O [(5,.cells (cB b))]⟩) (fun k=>y.length - k) (fun k=>k≤y.length) 0 ?_ ?_ (fun k hx23 K23 hK23=>?_)
            · exact Nat.zero_le _
            · refine Dg ?_ ?_ ?_ ?_ <;> (try simp (disch:=omega) only [eq_self,amL,sF,↓reduceIte]); all_goals first | rfl | trace_state
            have hk:=hx23
            refine Ab fun K24 hK24=>?_
            refine Ad fun K25 hK25=>?_
            simp (disch:=omega) only [eq_self,decide_true,List.length_map,amL,amT,sA,sF,↓reduceIte]
            refine hK25 _ ?_
            refine Al rfl (fun h=>MT.x ?_) (fun h=>ME.x ?_)
            all_goals
             first
             |refine MT.mk ?_
              first
              |exact Bool.noConfusion h
              |((try simp only [nrm] at h) ; exfalso ; omega)
              |skip
               try simp only [nrm] at h
               refine Am ?_
               refine hK24 _ ?_
             |refine ME.mk ?_
              first
              |exact Bool.noConfusion h
              |((try simp only [nrm] at h) ; exfalso ; omega)
              |skip
               try simp only [nrm] at h
               refine Bq ?_
               refine hK21 _ ?_
               refine Ab fun K26 hK26=>?_
               rw [List.take_of_length_le (show y.length≤k by omega)]
               refine Ah ?_
               simp (disch:=omega) only [hmo,eq_self,decide_true,amL,amT,sA,sF,sO,↓reduceIte]
               refine hK26 _ ?_
               refine Ad fun K27 hK27=>?_
               simp (disch:=omega) only [eq_self,decide_true,amL,amT,sA,sB,sF,↓reduceIte]
               repeat' first | (refine Ax (by kernel_rfl) rfl (Bjy hv) (by first | exact .inl rfl | exact .inr (.inl rfl)) ?_ ; simp (disch:=omega) only [eq_self,decide_true,amL,sA,sF,↓reduceIte]) | (refine Ax (by kernel_rfl) rfl (by first | exact Bhf all (Bgh y) (by omega) (by have:=sS y.length; rwa [List.take_length] at this) | exact Bhf all (out % 16) (by omega) (by omega)) (by first | exact .inl rfl | exact .inr (.inl rfl)) ?_ ; simp (disch:=omega) only [eq_self,amL,sF,↓reduceIte]) | (refine Ax (by kernel_rfl) rfl (by first | exact c1 | exact c2 | exact c3 | exact c4) (by first | exact .inl rfl | exact .inr (.inl rfl)) ?_ ; simp (disch:=omega) only [eq_self,decide_true,amL,sA,sF,↓reduceIte])
               refine hK27 _ ?_
               refine Ad fun K28 hK28=>?_
               simp (disch:=omega) only [eq_self,decide_true,amL,amT,sA,sB,sF,↓reduceIte]
               repeat' first | (refine Ax (by kernel_rfl) rfl (Bjy hv) (by first | exact .inl rfl | exact .inr (.inl rfl)) ?_ ; simp (disch:=omega) only [eq_self,decide_true,amL,sA,sF,↓reduceIte]) | (refine Ax (by kernel_rfl) rfl (by first | exact Bhf all (Bgh y) (by omega) (by have:=sS y.length; rwa [List.take_length] at this) | exact Bhf all (out % 16) (by omega) (by omega)) (by first | exact .inl rfl | exact .inr (.inl rfl)) ?_ ; simp (disch:=omega) only [eq_self,amL,sF,↓reduceIte]) | (refine Ax (by kernel_rfl) rfl (by first | exact c1 | exact c2 | exact c3 | exact c4) (by first | exact .inl rfl | exact .inr (.inl rfl)) ?_ ; simp (disch:=omega) only [eq_self,decide_true,amL,sA,sF,↓reduceIte])
               refine hK28 _ ?_
               refine Ad fun K29 hK29=>?_
               simp (disch:=omega) only [eq_self,decide_true,List.length_map,amL,amT,sA,sF,↓reduceIte]
               repeat' first | (refine E3 (fun h=>?_) (fun h=>?_) <;> simp (disch:=omega) only [h,eq_self,decide_false,decide_true,amL,sA,sF,↓reduceIte]) | (refine Cz (fun h=>?_) (fun h=>?_) <;> simp (disch:=omega) only [h,hq,hsh,Bek,Tf,yB,yI,hmo,Bez,Bga,Bfi,Bfa,Beo,Bec,Bfl,Bfg,Bgy,Bm,ne_eq,eq_self,not_true_eq_false,decide_false,decide_true,List.length_map,amL,amT,sA,sB,sC,sD,sE,sF,sG,sH,sI,sJ,sK,sL,sM,sN,sO,↓reduceIte,reduceCtorEq]) | (refine Ax (by kernel_rfl) rfl (Bnr (out % 16) (by omega)) (by first | exact .inl rfl | exact .inr (.inl rfl)) ?_ ; simp (disch:=omega) only [eq_self,decide_true,amL,sA,sF,↓reduceIte]) | (refine Ax (by kernel_rfl) rfl (Bke (Bfc (out % 16)) y (by have:=Bms (out % 16); omega) (by omega)) (by first | exact .inl rfl | exact .inr (.inl rfl)) ?_ ; simp (disch:=omega) only [hsh,eq_self,decide_true,amL,sA,sF,↓reduceIte]) | (refine Ax (by kernel_rfl) rfl (Bdq) (by first | exact .inl rfl | exact .inr (.inl rfl)) ?_ ; simp (disch:=omega) only [eq_self,decide_true,amL,sA,sF,↓reduceIte])
               all_goals
                skip
                refine hK29 _ ?_
                refine Aj ?_
                try simp (disch:=omega) only [eq_self,amL,↓reduceIte]
                all_goals first | rfl | trace_state
            all_goals
             skip
             refine Ab fun K30 hK30=>?_
             refine Au ?_
             refine Ab fun K31 hK31=>?_
             refine Ab fun K32 hK32=>?_
             refine Cj (by kernel_rfl) (by kernel_rfl) ?_
             simp (disch:=omega) only [Bm,eq_self,decide_true,List.length_map,amL,amT,sA,sF,↓reduceIte]
             repeat' first | (refine E3 (fun h=>?_) (fun h=>?_) <;> simp (disch:=omega) only [h,yI,Bm,eq_self,decide_false,decide_true,List.length_map,amL,amT,sA,sF,↓reduceIte]) | (refine Cz (fun h=>?_) (fun h=>?_) <;> simp (disch:=omega) only [h,hq,hsh,Bek,Tf,yB,yI,hmo,Bez,Bga,Bfi,Bfa,Beo,Bec,Bfl,Bfg,Bgy,Bm,ne_eq,eq_self,not_true_eq_false,decide_false,decide_true,List.length_map,amL,amT,sA,sB,sC,sD,sE,sF,sG,sH,sI,sJ,sK,sL,sM,sN,sO,↓reduceIte,reduceCtorEq]) | (refine Ax (by kernel_rfl) rfl (Bkv _ _ _) (by first | exact .inl rfl | exact .inr (.inl rfl)) ?_ ; simp (disch:=omega) only [yB,eq_self,decide_true,amL,amT,sA,sF,↓reduceIte])
             all_goals
              skip
              refine hK32 _ ?_
              refine Al rfl (fun h=>MT.x ?_) (fun h=>ME.x ?_)
              all_goals
               first
               |refine MT.mk ?_
                first
                |exact Bool.noConfusion h
                |((try simp only [nrm] at h) ; exfalso ; omega)
                |skip
                 try simp only [nrm] at h
                 refine Ad fun K33 hK33=>?_
                 simp (disch:=omega) only [hq,hsh,Bek,Tf,yB,yI,hmo,Bez,Bga,Bfi,Bfa,Beo,Bec,Bfl,Bfg,Bgy,Bm,ne_eq,eq_self,not_true_eq_false,decide_false,decide_true,List.length_map,amL,amT,sA,sB,sC,sD,sE,sF,sG,sH,sI,sJ,sK,sL,sM,sN,sO,↓reduceIte,reduceCtorEq]
                 refine hK33 _ ?_
                 refine Aj ?_
                 try simp (disch:=omega) only [hq,hsh,Bek,Tf,yB,yI,hmo,Bez,Bga,Bfi,Bfa,Beo,Bec,Bfl,Bfg,Bgy,Bm,ne_eq,eq_self,not_true_eq_false,decide_false,decide_true,List.length_map,amL,amT,sA,sB,sC,sD,sE,sF,sG,sH,sI,sJ,sK,sL,sM,sN,sO,↓reduceIte,reduceCtorEq]
                 all_goals first | rfl | trace_state
               |refine ME.mk ?_
                first
                |exact Bool.noConfusion h
                |((try simp only [] at h) ; exfalso ; omega)
                |skip
                 try simp only [] at h
                 refine Am ?_
                 refine hK31 _ ?_
              all_goals
               skip
               refine Ah ?_
               have hk2:k < y.length:=by omega
               have hm1:=ym k hk2
               have hsx:=Bo5 (n:=(y.getD k 0).toNat) (by omega)
               have hpx2:2 ^ (y.getD k 0).toNat < 65536:=Nat.pow_lt_pow_right (n:=16) (by decide) (by omega)
               have hwx:IntKind.i64.wrap ((2 ^ (y.getD k 0).toNat:Nat):Int)=((2 ^ (y.getD k 0).toNat:Nat):Int):=(by generalize 2 ^ (y.getD k 0).toNat=z at hpx2 ⊢; exact Fc (by omega) (by omega))
               have hsk:=sS k
               simp (disch:=omega) only [hsx,hwx,Bno hsk hpx2,Bez,Bm,eq_self,decide_true,List.length_map,amL,amT,sA,sF,↓reduceIte]
               refine hK30 _ ?_
               refine Ah ?_
               simp (disch:=omega) only [eq_self,decide_true,amL,amT,sA,sF,↓reduceIte]
               refine hK23 (k+1) _ ?_ ?_ (Dg ?_ ?_ ?_ ?_)
               all_goals (try simp (disch:=omega) only [eq_self,amL,sF,↓reduceIte])
               all_goals first | omega | (rw [Blo (by omega)]; done) | trace_state
       all_goals
        skip
        refine Ab fun K34 hK34=>?_
        refine Au ?_
        refine Ad fun K35 hK35=>?_
        obtain ⟨q1,hq1⟩:∃ q1,q1=i % v.length:=⟨_,rfl⟩
        have hq1l:q1 < v.length:=by rw [hq1]; exact Nat.mod_lt _ (by omega)
        have hmq:(i:Int).tmod (v.length:Int)=(q1:Int):=by rw [hq1]; exact hmi i
        simp (disch:=omega) only [hmq,Bec,eq_self,decide_true,amL,amT,sA,sF,↓reduceIte]
        refine hK35 _ ?_
        refine Ad fun K36 hK36=>?_
        obtain ⟨wd,hwd⟩:∃ wd,wd=wdR wide i:=⟨_,rfl⟩
        have hwd2:=Bk2 wide i
        rw [← hwd] at hwd2
        have hm3:((wide / 2 ^ i:Nat):Int).tmod 3=wd:=by rw [hwd]; exact Bou
        simp (disch:=omega) only [hm3,Bez,Bga,eq_self,decide_true,amL,amT,sA,sF,sO,↓reduceIte]
        refine hK36 _ ?_
        refine Ab fun K37 hK37=>?_
        refine Cj (by kernel_rfl) (by kernel_rfl) ?_
        have hat:=hok.at q1
        have hgr:=Bnm hat.1 hat.2
        have hm2:wd.tmod 2=wd % 2:=Int.tmod_eq_emod_of_nonneg hwd2.1
        simp (disch:=omega) only [hm2,Beo,Bec,Bfl,Bfg,Bgy,eq_self,decide_true,amL,amT,sA,sB,sF,sO,↓reduceIte,reduceCtorEq]
        repeat' first | (refine Ax (by kernel_rfl) rfl (Bho _ _) (by first | exact .inl rfl | exact .inr (.inl rfl)) ?_ ; simp (disch:=omega) only [Beo,Bec,Bfg,Bgy,eq_self,decide_true,amL,amT,sA,sB,sE,sF,↓reduceIte,reduceCtorEq])
        refine hK37 _ ?_
        refine Ad fun K38 hK38=>?_
        simp (disch:=omega) only [Bek,eq_self,decide_true,List.length_map,amL,amT,sA,sB,sC,sE,sF,↓reduceIte,reduceCtorEq]
        refine hK38 _ ?_
        refine Ab fun K39 hK39=>?_
        refine Ad fun K40 hK40=>?_
        simp (disch:=omega) only [Bez,Bfi,Bfa,eq_self,decide_true,amL,amT,sA,sF,sO,↓reduceIte]
        refine hK40 _ ?_
        refine Al rfl (fun h=>MT.x ?_) (fun h=>ME.x ?_)
        all_goals
         first
         |refine MT.mk ?_
          first
          |exact Bool.noConfusion h
          |((try simp only [nrm] at h) ; exfalso ; omega)
          |skip
           try simp only [nrm] at h
           refine Ah ?_
           simp (disch:=omega) only [eq_self,decide_true,amL,amT,sA,sB,sF,↓reduceIte,reduceCtorEq]
           repeat' first | (refine Ax (by kernel_rfl) rfl (Bho _ _) (by first | exact .inl rfl | exact .inr (.inl rfl)) ?_ ; simp (disch:=omega) only [eq_self,decide_true,amL,amT,sA,sB,sE,sF,↓reduceIte,reduceCtorEq])
           refine hK39 _ ?_
         |refine ME.mk ?_
          first
          |exact Bool.noConfusion h
          |((try simp only [nrm] at h) ; exfalso ; omega)
          |skip
           try simp only [nrm] at h
           refine Am ?_
           refine hK39 _ ?_
        all_goals
         skip
         refine Ah ?_
         simp (disch:=omega) only [Tf,eq_self,decide_true,List.length_map,amL,amT,sA,sB,sC,sE,sF,↓reduceIte,reduceCtorEq]
         refine hK34 _ ?_
         refine Ah ?_
         simp (disch:=omega) only [eq_self,decide_true,amL,amT,sA,sF,↓reduceIte]
         refine hK12 (i+1) _ ?_ ?_ (Dg ?_ ?_ ?_ ?_)
         all_goals (try simp (disch:=omega) only [eq_self,amL,sE,sF,sG,↓reduceIte])
         all_goals first | omega | exact ⟨by rw [Bih,Bhd hq1 hwd],by rw [Bif,Boa (by assumption),Bhd hq1 hwd]⟩ | exact ⟨by rw [Bih,Bhd hq1 hwd],by rw [Bif,Boe (by assumption),Bhd hq1 hwd]⟩ | trace_state
end AM.Try
end
