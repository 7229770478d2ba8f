/- Lemmas for the proof: more of the program's functions, walked on the abstract machine. -/
import Derived.Test.YtbgiddcgdgdmbaaGreatXLeavesA
/- The program: the error of a brewhouse. -/
section
namespace AM.Try
open Go AM AM.Wort Go.Proofs
open Nat renaming reduceLT→sA,reduceAdd→sB,reduceMul→sC,reduceSub→sD,reduceLeDiff→sE,reduceEqDiff→sF,reduceBEq→sG
open Int renaming reduceAdd→sH,reduceSub→sI,reduceMul→sJ,reduceLT→sK,reduceLE→sL,reduceNeg→sM,reduceToNat→sN,reduceEq→sO
set_option maxRecDepth 100000
set_option maxHeartbeats 16000000
theorem elD:ElT Tryz.prog 66 103 avD Axq:=Z0 (P:=Tryz.prog) (tS:=66) (tE:=103) (enc:=Axq) (n:=5) (by simp only [amT]) (by simp only [amT]; rfl) (by simp only [amT]) (fun _=>rfl)
theorem Bej {σ α:Type} {step:σ→α→σ × Bool}:∀ (l1 l2:List α) (s:σ),Gg step s (l1++l2)=if (Gg step s l1).2=true then Gg step (Gg step s l1).1 l2 else Gg step s l1
  | [],l2,s=>rfl
  | x :: l1,l2,s=>by
    simp only [List.cons_append,Gg]
    split
    · rw [Bej l1 l2]
    · rename_i h; simp
theorem Bfj {σ α:Type} {step:σ→α→σ × Bool} {s:σ} {x:α}:Gg step s [x]=step s x:=by
  simp only [Gg]
  split
  · rename_i h; exact Prod.ext rfl h.symm
  · rename_i h; exact Prod.ext rfl (Bool.eq_false_iff.2 h).symm
theorem Bh.of_nil0 {P:Program} {bd:Nat} {fv:AV} {os:Nat→Option AO} {R:AV→(Nat→Option AO)→Prop} (h:Bh P bd fv [.p (.sl [])] os R):Bh P bd fv [C4] os R:=by
  intro hfree S θ M w vf vs h1 h2 h3 h4 h5 h6
  refine h hfree S θ M w vf vs h1 h2 h3 (fun i x hx=>?_) h5 (fun i x hx=>?_)
  · match i,hx with
    | 0,hx=>
      cases hx
      have:=Qf (h4 0 C4 rfl)
      rw [this]; exact .p _ _ .nil
  · match i,hx with
    | 0,hx=>cases hx; exact AV.lives_p _ _
theorem Bin {r:RB} {N:Nat} {s:St} {K:St→Prop} {dst:Option Nat} {ty:TypeId} {pos:String} {after:Array Edge} {g:Option (Nat × Bool)} {x hi mx:Operand} {lo:Option Operand}:EO Tryz.prog r N ⟨dst,.slice 26 x lo (some hi) (some mx),ty,pos,after,g⟩ s K=EOp r.b N dst s K (Bl5 (fun e=>(Aa Tryz.prog e).sz) (fun e=>(Aa Tryz.prog e).agg) 3 ((ev s.t x).pv?.bind PV.list?) (Ba (ev s.t) 0 lo) (Ba (ev s.t) 0 (some hi)) (Ba (ev s.t) 0 (some mx))):=Bkv (by rw [Bcr])
theorem Bim {r:RB} {N:Nat} {s:St} {K:St→Prop} {dst:Option Nat} {ty:TypeId} {pos:String} {after:Array Edge} {g:Option (Nat × Bool)} {x:Operand} {lo hi:Option Operand}:EO Tryz.prog r N ⟨dst,.slice 26 x lo hi none,ty,pos,after,g⟩ s K=EOp r.b N dst s K (Blb (fun e=>(Aa Tryz.prog e).sz) (fun e=>(Aa Tryz.prog e).agg) 3 ((ev s.t x).pv?.bind PV.list?) (Ba (ev s.t) 0 lo) (fun n=>Ba (ev s.t) n hi)):=Bld (by rw [Bcr])
theorem Bh8 (l:List Int):((l.map fun n=>[iv n]).all fun c=>decide (c.length=(Aa Tryz.prog 3).sz))=true:=by
  simp only [amT]; simp
theorem Bny {l:List Int} {lo hi m:Int} (h0:0≤lo) (h1:lo≤hi) (h2:hi≤m) (h3:m≤l.length):Bl5 (fun e=>(Aa Tryz.prog e).sz) (fun e=>(Aa Tryz.prog e).agg) 3 (some (l.map fun n=>[iv n])) (some lo) (some hi) (some m)=some (.pure (isl ((l.take hi.toNat).drop lo.toNat))):=by
  rw [Bk2 h0 h1 h2 (by simpa using h3) (by simp only [amT]; rfl) (Bh8 l),← List.map_take,← List.map_drop]
theorem Bof {l:List Int} {lo:Int} (h0:0≤lo) (h1:lo≤l.length):Blb (fun e=>(Aa Tryz.prog e).sz) (fun e=>(Aa Tryz.prog e).agg) 3 (some (l.map fun n=>[iv n])) (some lo) (fun n=>some (n:Int))=some (.pure (isl (l.drop lo.toNat))):=by
  rw [Bk3 (h:=(l.length:Int)) (by simp) h0 h1 (by simp) (by simp only [amT]; rfl) (Bh8 l),← List.map_take,← List.map_drop,List.take_of_length_le (by simp)]
theorem Bm4 {bd:Nat} {fv:AV} {p:List Int} {x:Int} {os:Nat→Option AO} {R:AV→(Nat→Option AO)→Prop} (h:Bh Tryz.prog bd fv [isl (p++[x])] os R):Bh Tryz.prog bd fv [.p (.sl ((p.map fun n=>[iv n])++[[iv x]]))] os R:=by
  rw [show isl (p++[x])=.p (.sl ((p.map fun n=>[iv n])++[[iv x]])) from by simp [List.map_append]] at h; exact h
theorem Bkt {n len:Nat} {es:List (List PV)} (h:len=es.length):[AV.own n len].map (AV.frz n es)=[.p (.sl es)]:=by
  subst h
  show [(AV.own n es.length).frz n es]=_
  simp only [AV.frz,if_true,Nat.le_refl,List.take_length]
abbrev avL (k:Nat) (x:List Int):AV:=.agg [isl (x.take k),isl ((x.take (2 * k)).drop k),isl (x.drop (2 * k))]
abbrev chF (nr ny nk nc:Nat):AV:=.fn (.func 130) [] [.ptr nr 0,.ptr ny 0,.ptr nk 0,.ptr nc 0]
theorem Bnq {n nr ny nk nc:Nat} {es:List (List PV)} (h1:nr≠n) (h2:ny≠n) (h3:nk≠n) (h4:nc≠n):(chF nr ny nk nc).frz n es=chF nr ny nk nc:=by
  simp only [AV.frz,AV.frz.frzL,h1,h2,h3,h4,if_false]
structure Chs (rs:List Rng) (k nr ny nk nc:Nat) (yv:AV) (os:Nat→Option AO):Prop where
  r:os nr=some (.cells [.p (.sl (rs.map Jh))])
  y:os ny=some (.cells [yv])
  k:os nk=some (.cells [i64 (k:Int)])
  c:os nc=some (.cells [chF nr ny nk nc])
theorem Bly {rs:List Rng} {k:Nat} {yv:AV} {F:Nat→Prop} {σ:Type} {L:List (List Int)} {go:σ→Prop} {I:σ→(Nat→Option AO)→Prop} {step:σ→List Int→σ × Bool} (hY:Ahq Tryz.prog yv F (avL k) L go I step) (hrs:∀ r ∈ rs,0≤r.lo∧r.lo≤r.hi∧r.hi≤1000) (hn:rs.length≤100) (hk:2 * k≤rs.length) {nr ny nk nc:Nat} (f1:¬ F nr) (f2:¬ F ny) (f3:¬ F nk) (f4:¬ F nc) (m:Nat) :
    ∀ (cur:List Int) (s:σ) (os:Nat→Option AO) (bd:Nat),rs.length - cur.length=m→cur.length≤rs.length→(∀ x ∈ Bea (rs.drop cur.length) cur,x ∈ L)→Chs rs k nr ny nk nc yv os→go s→I s os →
    Bh Tryz.prog bd (chF nr ny nk nc) [isl cur] os fun res os'=>res=bl (Gg step s (Bea (rs.drop cur.length) cur)).2∧I (Gg step s (Bea (rs.drop cur.length) cur)).1 os'∧∀ n,¬ F n→os' n=os n:=by
  induction m using Nat.strongRecOn with
  | ind m ih=>
  intro cur s os bd hm hcu hL hch hg hI
  refine B2 (v:=[]) (q:=[]) (N:=54) (rs:=[.tmp 6]) Tryz.func130 rfl (by kernel_rfl) rfl rfl (fun hcl hfree=>?_)
  obtain ⟨o1,o2,o3,o4⟩:=hch
  have hfr0:∀ k,os (bd+k)=none:=fun k=>hfree _ (by omega)
  have b1:=Ap hfree o1
  have b2:=Ap hfree o2
  have b3:=Ap hfree o3
  have b4:=Ap hfree o4
  have hF:∀ n,F n→n < bd:=fun n hn=>by obtain ⟨o,h,_⟩:=hY.foot s os n hI hn; exact Ap hfree h
  have hlv:=hY.live _ _ hI
  have hpg:∀ j,pgO (bd+j) os=os:=fun j=>Ac9 hcl (hfr0 j)
  have hpf:∀ j,AV.purge (bd+j) (chF nr ny nk nc)=chF nr ny nk nc:=fun j=>by
    unfold AV.purge
    refine if_pos ?_
    simp [AV.clean,AV.clean.cleanL]; omega
  have hw2:IntKind.i64.wrap (2 * (k:Int))=2 * k:=Fc (by omega) (by omega)
  refine Ad fun K1 hK1=>?_
  simp (disch:=omega) only [amL,sA,sB]
  refine hK1 _ ?_
  refine Ab fun K2 hK2=>?_
  refine Ad fun K3 hK3=>?_
  simp (disch:=omega) only [o1,amL,amT,sA,sF,↓reduceIte,reduceCtorEq]
  refine hK3 _ ?_
  refine Al rfl (fun h=>MT.x ?_) (fun h=>ME.x ?_)
  all_goals
   first
   |refine MT.mk ?_
    first
    |exact Bool.noConfusion h
    |skip
     try simp only [nrm] at h
     refine Ab fun K4 hK4=>?_
     refine Ch (by kernel_rfl) (by kernel_rfl) ?_
     have hone:=Bk9 (rs:=rs) (cur:=cur) (by omega)
     simp (disch:=omega) only [o2,o3,hw2,Bin,Bim,Bjj,Bl,Bk,B1,Bny,Bof,List.map_cons,List.map_nil,amL,amT,sA,sB,sE,sF,sN,↓reduceIte,reduceCtorEq]
     have hcall:=hY.call s cur os (bd+54) (hL cur (by rw [hone]; exact List.mem_singleton.2 rfl)) hg hI hcl
     refine A2 [] (by decide) hcall (fun q hq=>hfree q (by omega)) (Nat.le_add_right _ _) (fun res os4 hR hcl4 hlvr=>?_)
     obtain ⟨rfl,hI4,hfr4⟩:=hR
     simp (disch:=omega) only [amL,sA,↓reduceIte]
     refine hK4 _ ?_
     refine Aj ?_
     try simp (disch:=omega) only [amL]
     first
       | (refine A6 (res:=bl (step s cur).2) os4 rfl (Sub.refl _) hcl4 (A9 _ rfl) ⟨?_,?_,hfr4⟩
          · rw [hone,Bfj]
          · rw [hone,Bfj]; exact hI4)
       | (have hf:=h
          refine A6 (res:=bl false) (Dt bd os4) rfl hsb4 hd4.1 (A9 _ rfl) ⟨?_,?_,hd4.2.2⟩
          · rw [← hall,Bep (by omega),Bej,if_neg (by rw [hf]; decide),hf]
          · rw [← hall,Bep (by omega),Bej,if_neg (by rw [hf]; decide)]; exact hd4.2.1)
       | (rw [Bf9 (by omega)] at hall
          refine A6 (res:=bl true) os1 (by simp (disch:=omega) only [o1,o2,o3,o4,hw2,hfr0,Ac,Bz,Bi,Bin,Bim,Bjj,Bl,Bk,B1,Bny,Bof,hpf,hpg,Hu,Nq,Kg,Er,Gi,List.map_cons,List.map_nil,L4,if_true,amL,amT,sA,sB,sC,sD,sE,sF,sG,sH,sI,sJ,sK,sL,sM,sN,sO,↓reduceIte,reduceCtorEq]; try rfl) (fun q=>?_) hcl1 (A9 _ rfl) ⟨?_,?_,hfr1⟩
          · by_cases e:q=bd+7
            · subst e; left; exact hfr0 7
            · right; simp only [Ac e]
          · rw [← hall]; rfl
          · rw [← hall]; exact hI1)
   |refine ME.mk ?_
    first
    |exact Bool.noConfusion h
    |skip
     try simp only [nrm] at h
     refine Am ?_
     refine hK2 _ ?_
  all_goals
   skip
   refine Ad fun K5 hK5=>?_
   have hcl3:cur.length < rs.length:=by omega
   obtain ⟨q1,q2,q3⟩:=hrs (rs.getD cur.length default) (AM.Wort.Du default hcl3)
   have hhere:=Bjh (d:=default) hcl3
   have hsz:Fa (rs.getD cur.length default)=(rs.getD cur.length default).hi - (rs.getD cur.length default).lo+1:=rfl
   simp (disch:=omega) only [o1,hfr0,Bz,Bi,List.map_cons,List.map_nil,amL,amT,sA,sB,sF,↓reduceIte,reduceCtorEq]
   refine hK5 _ ?_
   refine Ab fun K6 hK6=>?_
   refine Ad fun K7 hK7=>?_
   simp (disch:=omega) only [List.map_cons,List.map_nil,amL,amT,sA,sB,↓reduceIte]
   repeat' first | (refine Ay (by kernel_rfl) rfl (Aeo (rs.getD cur.length default) (by omega) (by omega)) (by first | exact .inl rfl | exact .inr (.inl rfl)) ?_ ; simp (disch:=omega) only [amL,sA])
   refine hK7 _ ?_
   refine Aq ?_
   skip
   refine Bg (α:=Nat × σ × (Nat→Option AO)) (fun x=>⟨T [(0,isl cur),(1,.ptr nr 0),(2,.ptr ny 0),(3,.ptr nk 0),(4,.ptr nc 0),(7,.ptr (bd+7) 0),(38,i64 (Fa (rs.getD cur.length default))),(39,i64 (x.1:Int))],upd x.2.2 (bd+7) (some (.cells [i64 (rs.getD cur.length default).lo,i64 (rs.getD cur.length default).hi]))⟩) (fun x=>(Fa (rs.getD cur.length default)).toNat - x.1) (fun x=>x.1≤(Fa (rs.getD cur.length default)).toNat∧go x.2.1∧I x.2.1 x.2.2∧(Hp x.2.2).closed∧(∀ n,¬ F n→x.2.2 n=os n)∧Gg step x.2.1 (Be5 (fun n=>Bea (rs.drop (cur.length+1)) (cur++[n])) ((Fa (rs.getD cur.length default)).toNat - x.1) ((rs.getD cur.length default).lo+(x.1:Nat)))=Gg step s (Bea (rs.drop cur.length) cur)) (0,s,os) ?_ ?_ (fun x hx8 K8 hK8=>?_)
   · exact ⟨Nat.zero_le _,hg,hI,hcl,fun _ _=>rfl,by rw [hhere]⟩
   · refine He ?_ ?_ ?_ ?_ <;> (try simp (disch:=omega) only [o1,o2,o3,o4,Ac,amL,sF,↓reduceIte,reduceCtorEq]); all_goals first | exact Sub.refl _ | exact F3 hcl (by simp [AV.isP]) | trace_state
   obtain ⟨n,s1,os1⟩:=x; dsimp only at hx8 ⊢; obtain ⟨hn1,hg1,hI1,hcl1,hfr1,hall⟩:=hx8; have o1:=(hfr1 nr f1).trans o1; have o2:=(hfr1 ny f2).trans o2; have o3:=(hfr1 nk f3).trans o3; have o4:=(hfr1 nc f4).trans o4; have hfreeI:∀ q,bd≤q→os1 q=none:=fun q hq=>(hfr1 q (fun h=>by have:=hF q h; omega)).trans (hfree q hq); have hfr0:∀ k,os1 (bd+k)=none:=fun k=>hfreeI _ (by omega); have hpg:∀ j,pgO (bd+j) os1=os1:=fun j=>Ac9 hcl1 (hfr0 j)
   refine Ad fun K9 hK9=>?_
   simp (disch:=omega) only [amL,amT,sA,sF,↓reduceIte,reduceCtorEq]
   refine hK9 _ ?_
   refine Ab fun K10 hK10=>?_
   refine Al rfl (fun h=>MT.x ?_) (fun h=>ME.x ?_)
   all_goals
    first
    |refine MT.mk ?_
     first
     |exact Bool.noConfusion h
     |skip
      try simp only [nrm] at h
      refine Am ?_
      refine hK10 _ ?_
    |refine ME.mk ?_
     first
     |exact Bool.noConfusion h
     |skip
      try simp only [nrm] at h
      refine Br ?_
      refine hK6 _ ?_
      refine Ad fun K11 hK11=>?_
      simp (disch:=omega) only [amL,sA]
      refine hK11 _ ?_
      refine Aj ?_
      try simp (disch:=omega) only [amL]
      first
        | (refine A6 (res:=bl (step s cur).2) os4 rfl (Sub.refl _) hcl4 (A9 _ rfl) ⟨?_,?_,hfr4⟩
           · rw [hone,Bfj]
           · rw [hone,Bfj]; exact hI4)
        | (have hf:=h
           refine A6 (res:=bl false) (Dt bd os4) rfl hsb4 hd4.1 (A9 _ rfl) ⟨?_,?_,hd4.2.2⟩
           · rw [← hall,Bep (by omega),Bej,if_neg (by rw [hf]; decide),hf]
           · rw [← hall,Bep (by omega),Bej,if_neg (by rw [hf]; decide)]; exact hd4.2.1)
        | (rw [Bf9 (by omega)] at hall
           refine A6 (res:=bl true) os1 (by simp (disch:=omega) only [amL,↓reduceIte]; try rfl) (fun q=>?_) hcl1 (A9 _ rfl) ⟨?_,?_,hfr1⟩
           · by_cases e:q=bd+7
             · subst e; left; exact hfr0 7
             · right; simp only [Ac e]
           · rw [← hall]; rfl
           · rw [← hall]; exact hI1)
   all_goals
    skip
    refine Ab fun K12 hK12=>?_
    refine Aq ?_
    refine Ad fun K13 hK13=>?_
    simp (disch:=omega) only [amL,sA,sF,↓reduceIte,reduceCtorEq]
    refine hK13 _ ?_
    refine Ab fun K14 hK14=>?_
    have hw3:IntKind.i64.wrap ((rs.getD cur.length default).lo+(n:Int))=(rs.getD cur.length default).lo+n:=Fc (by omega) (by omega)
    refine Uf 9 [.app [4]] (by kernel_rfl) (by kernel_rfl) ?_
    simp only [List.take_succ_cons,List.take_zero,List.drop_succ_cons,List.drop_zero]
    simp (disch:=omega) only [o4,Ac,List.map_cons,List.map_nil,amL,amT,sA,sF,↓reduceIte,reduceCtorEq]
    refine U3 (by kernel_rfl) (by decide) (Ale (cur.map fun n=>[iv n]) (by simp) (by simp [PV.isVal]) (by rw [List.length_map]; omega)) (by simp (disch:=omega) only [hfr0,Ac]) ?_
    simp (disch:=omega) only [hfr0,Ac,hpf,hpg,Hu,Nq,Kg,Er,Gi,List.map_cons,List.map_nil,L4,amL,amT,sA,sE,sF,↓reduceIte,reduceCtorEq]
    refine ⟨rfl,?_⟩
    have hin:∀ x ∈ Bea (rs.drop (cur.length+1)) (cur++[(rs.getD cur.length default).lo+(n:Int)]),x ∈ L:=fun x hx=>hL x (by rw [hhere]; exact Bgb _ _ n (by omega) (by simpa using hx))
    have hcall:=ih (rs.length - (cur++[(rs.getD cur.length default).lo+(n:Int)]).length) (by rw [List.length_append,List.length_singleton]; omega) (cur++[(rs.getD cur.length default).lo+(n:Int)]) s1 (upd (upd os1 (bd+7) (some (.cells [i64 (rs.getD cur.length default).lo,i64 (rs.getD cur.length default).hi]))) (bd+49) (some (.arr 1 [[iv ((rs.getD cur.length default).lo+(n:Int))]]))) (bd+54) rfl (by rw [List.length_append,List.length_singleton]; omega) (by rw [List.length_append,List.length_singleton]; exact hin) ⟨by simp (disch:=omega) only [Ac]; exact o1,by simp (disch:=omega) only [Ac]; exact o2,by simp (disch:=omega) only [Ac]; exact o3,by simp (disch:=omega) only [Ac]; exact o4⟩ hg1 (hY.stable _ _ _ hI1 (fun q hq=>by have:=hF q hq; simp (disch:=omega) only [Ac]))
    rw [List.length_append,List.length_singleton] at hcall
    refine Ae0 (bd:=bd+54) (bd+50) Bc _ [(0,isl cur),(1,.ptr nr 0),(2,.ptr ny 0),(3,.ptr nk 0),(4,.ptr nc 0),(7,.ptr (bd+7) 0),(38,i64 (Fa (rs.getD cur.length default))),(39,i64 (n:Int))] ((Acs (Nj (F3 hcl1 (by simp [AV.isP]))) (by simp (disch:=omega) only [Ac]; exact hfr0 _)).trans rfl) (by decide) (by
      rw [Bnq (by omega) (by omega) (by omega) (by omega),Bkt (by simp)]
      exact Bm4 hcall) (fun q hq=>by simp (disch:=omega) only [Ac]; exact hfreeI q (by omega)) (Nat.le_add_right _ _) (fun res os4 hR hcl4 hlv4=>?_)
    obtain ⟨rfl,hI4,hfr4⟩:=hR
    simp (disch:=omega) only [Wo,AV.frz,if_neg]
    have hd4:=hY.drop hcl hfree hI hI4 (fun q hq1 hq2=>(hfr4 q hq2).trans (by simp (disch:=omega) only [Ac]; exact hfr1 q hq2))
    have h74:os4 (bd+7)=some (.cells [i64 (rs.getD cur.length default).lo,i64 (rs.getD cur.length default).hi]):=(hfr4 (bd+7) (fun h=>by have:=hF _ h; omega)).trans (by simp (disch:=omega) only [Ac,Bc])
    have hsb4:Sub (Dt bd os4) os4:=L0 bd os4
    have hsub4:Sub (upd (Dt bd os4) (bd+7) (some (.cells [i64 (rs.getD cur.length default).lo,i64 (rs.getD cur.length default).hi]))) os4:=fun q=>by
      by_cases e:q=bd+7
      · subst e; right; rw [Bc,h74]
      · rw [Ac e]; exact hsb4 q
    simp (disch:=omega) only [amL,sA,sF,↓reduceIte,reduceCtorEq]
    refine ⟨⟨by rw [hfr4 nr f1]; simp (disch:=omega) only [Ac]; rw [o1]; rfl,by rw [hfr4 ny f2]; simp (disch:=omega) only [Ac]; rw [o2]; rfl,by rw [hfr4 nk f3]; simp (disch:=omega) only [Ac]; rw [o3]; rfl,by rw [hfr4 nc f4]; simp (disch:=omega) only [Ac]; rw [o4]; rfl,by rw [h74]; rfl⟩,?_⟩
    refine hK14 _ ?_
    refine Al rfl (fun h=>MT.x ?_) (fun h=>ME.x ?_)
    all_goals
     first
     |refine MT.mk ?_
      first
      |exact Bool.noConfusion h
      |skip
       try simp only [nrm] at h
       refine Ad fun K15 hK15=>?_
       simp (disch:=omega) only [amL,sA]
       refine hK15 _ ?_
       refine Aj ?_
       try simp (disch:=omega) only [amL]
       first
         | (refine A6 (res:=bl (step s cur).2) os4 rfl (Sub.refl _) hcl4 (A9 _ rfl) ⟨?_,?_,hfr4⟩
            · rw [hone,Bfj]
            · rw [hone,Bfj]; exact hI4)
         | (have hf:=h
            refine A6 (res:=bl false) (Dt bd os4) rfl hsb4 hd4.1 (A9 _ rfl) ⟨?_,?_,hd4.2.2⟩
            · rw [← hall,Bep (by omega),Bej,if_neg (by rw [hf]; decide),hf]
            · rw [← hall,Bep (by omega),Bej,if_neg (by rw [hf]; decide)]; exact hd4.2.1)
         | (rw [Bf9 (by omega)] at hall
            refine A6 (res:=bl true) os1 (by simp (disch:=omega) only [o1,o2,o3,o4,hw2,hfr0,Ac,Bz,Bi,Bin,Bim,Bjj,Bl,Bk,B1,Bny,Bof,hpf,hpg,Hu,Nq,Kg,Er,Gi,List.map_cons,List.map_nil,L4,if_true,amL,amT,sA,sB,sC,sD,sE,sF,sG,sH,sI,sJ,sK,sL,sM,sN,sO,↓reduceIte,reduceCtorEq]; try rfl) (fun q=>?_) hcl1 (A9 _ rfl) ⟨?_,?_,hfr1⟩
            · by_cases e:q=bd+7
              · subst e; left; exact hfr0 7
              · right; simp only [Ac e]
            · rw [← hall]; rfl
            · rw [← hall]; exact hI1)
     |refine ME.mk ?_
      first
      |exact Bool.noConfusion h
      |skip
       try simp only [nrm] at h
       refine Am ?_
       refine hK12 _ ?_
    all_goals
     skip
     refine Ah ?_
     simp (disch:=omega) only [amL,amT,sA,sF,↓reduceIte,reduceCtorEq]
     refine hK8 (n+1,(Gg step s1 (Bea (rs.drop (cur.length+1)) (cur++[(rs.getD cur.length default).lo+(n:Nat)]))).1,Dt bd os4) _ ?_ ?_ (He ?_ ?_ ?_ ?_)
     all_goals (try simp (disch:=omega) only [Ac,amL,sF,↓reduceIte,reduceCtorEq])
     all_goals first | omega | exact hsub4 | exact F3 hd4.1 (by simp [AV.isP]) | exact ⟨by omega,Bix (fun s x hx=>hY.next s x (hin x hx)) hg1 h,hd4.2.1,hd4.1,hd4.2.2,by rw [← hall,Bep (by omega),Bej,if_pos h]; rfl⟩ | exact ⟨by rw [hd4.2.2 nr f1,← hfr1 nr f1,o1]; rfl,by rw [hd4.2.2 ny f2,← hfr1 ny f2,o2]; rfl,by rw [hd4.2.2 nk f3,← hfr1 nk f3,o3]; rfl,by rw [hd4.2.2 nc f4,← hfr1 nc f4,o4]; rfl⟩ | trace_state
theorem Bmk {b:Ed} {nw m:Nat} {os:Nat→Option AO} {bd:Nat} (hl:b.vs.length < 1000000) (hl2:b.ss.length < 1000000) (hw:os nw=some (.cells [.p (slV b.vs),.p (slS b.ss),.mp m])) :
  Bh Tryz.prog bd (.fn (.func 110) [] []) [.ptr nw 0] os fun res os'=>res=.fn (.func 129) [] [.ptr (bd+3) 0,.ptr (bd+4) 0]∧os'=upd (upd os (bd+3) (some (.cells [.p (.sl ((Fy b).map Jh))]))) (bd+4) (some (.cells [i64 b.vs.length])):=by
 refine B2 (v:=[]) (q:=[]) (N:=17) (rs:=[.tmp 2]) Tryz.func110 rfl (by kernel_rfl) rfl rfl (fun hcl hfree=>?_)
 have hfr0:∀ k,os (bd+k)=none:=fun k=>hfree _ (by omega)
 have hb:=Ap hfree hw
 refine Ad fun K1 hK1=>?_
 simp (disch:=omega) only [amL,sA]
 refine hK1 _ ?_
 refine Ad fun K2 hK2=>?_
 simp (disch:=omega) only [hw,amL,amT,sA,sB,sE,↓reduceIte,reduceCtorEq]
 repeat' first | (refine Ay (by kernel_rfl) rfl (Adx b hl hl2) (by first | exact .inl rfl | exact .inr (.inl rfl)) ?_ ; simp (disch:=omega) only [hfr0,amL,amT,sA,sF,↓reduceIte])
 refine hK2 _ ?_
 refine Ad fun K3 hK3=>?_
 simp (disch:=omega) only [hw,hfr0,Ac,amL,amT,sA,sF,↓reduceIte,reduceCtorEq]
 refine hK3 _ ?_
 refine Ad fun K4 hK4=>?_
 simp (disch:=omega) only [amL,sA,sF,↓reduceIte]
 refine hK4 _ ?_
 refine Aj ?_
 try simp (disch:=omega) only [amL]
 refine A6 (res:=.fn (.func 129) [] [.ptr (bd+3) 0,.ptr (bd+4) 0]) (upd (upd os (bd+3) (some (.cells [.p (.sl ((Fy b).map Jh))]))) (bd+4) (some (.cells [i64 b.vs.length]))) (by simp (disch:=omega) only [amL,↓reduceIte]; try rfl) (by simp only [Bz]; exact Sub.refl _) (F3 (F3 hcl (by simp [AV.isP])) (by simp [AV.isP])) ?_ ⟨rfl,rfl⟩
 ·rw [Ft]; simp (disch:=omega) only [Cr,Cm,C7,Ac,Bc,Option.isSome_some,and_self]
theorem Blc {rs:List Rng} {k:Nat} {yv:AV} {F:Nat→Prop} {σ:Type} {go:σ→Prop} {I:σ→(Nat→Option AO)→Prop} {step:σ→List Int→σ × Bool} (hY:Ahq Tryz.prog yv F (avL k) (Bea rs []) go I step) (hcs:yv.cs?=some [yv]) (hrs:∀ r ∈ rs,0≤r.lo∧r.lo≤r.hi∧r.hi≤1000) (hn:rs.length≤100) (hk:2 * k≤rs.length) {nr nk:Nat} (f1:¬ F nr) (f3:¬ F nk) {s:σ} {os:Nat→Option AO} {bd:Nat} (o1:os nr=some (.cells [.p (.sl (rs.map Jh))])) (o3:os nk=some (.cells [i64 (k:Int)])) (hg:go s) (hI:I s os) :
  Bh Tryz.prog bd (.fn (.func 129) [] [.ptr nr 0,.ptr nk 0]) [yv] os fun res os'=>res=.tup []∧I (Gg step s (Bea rs [])).1 os'∧∀ n,¬ F n→os' n=os n:=by
 refine B2 (v:=[]) (q:=[]) (N:=8) (rs:=[]) Tryz.func129 rfl (by kernel_rfl) rfl rfl (fun hcl hfree=>?_)
 have hfr0:∀ k,os (bd+k)=none:=fun k=>hfree _ (by omega)
 have b1:=Ap hfree o1
 have b3:=Ap hfree o3
 have hF:∀ n,F n→n < bd:=fun n hn=>by obtain ⟨o,h,_⟩:=hY.foot s os n hI hn; exact Ap hfree h
 have hlv:=hY.live _ _ hI
 refine Ad fun K1 hK1=>?_
 simp (disch:=omega) only [hfr0,hcs,amL,sA,sB,↓reduceIte]
 refine hK1 _ ?_
 refine Ad fun K2 hK2=>?_
 simp (disch:=omega) only [hfr0,Ac,amL,amT,sA,↓reduceIte]
 refine hK2 _ ?_
 refine Ad fun K3 hK3=>?_
 simp (disch:=omega) only [Bz,amL,amT,sA,sF,↓reduceIte,reduceCtorEq]
 refine hK3 _ ?_
 refine Ah ?_
 simp (disch:=omega) only [amL,amT,sA,sF,↓reduceIte]
 have hcall:=Bh.of_nil0 (Bly hY hrs hn hk (nr:=nr) (ny:=bd+3) (nk:=nk) (nc:=bd+4) f1 (fun h=>by have:=hF _ h; omega) f3 (fun h=>by have:=hF _ h; omega) rs.length [] s (upd (upd os (bd+3) (some (.cells [yv]))) (bd+4) (some (.cells [chF nr (bd+3) nk (bd+4)]))) (bd+8) rfl (Nat.zero_le _) (fun x hx=>hx) ⟨by simp (disch:=omega) only [Ac]; exact o1,by simp (disch:=omega) only [Ac,Bc],by simp (disch:=omega) only [Ac]; exact o3,Bc⟩ hg (hY.stable _ _ _ hI (fun q hq=>by have:=hF q hq; simp (disch:=omega) only [Ac])))
 refine A2 [] (by decide) hcall (fun q hq=>by simp (disch:=omega) only [Ac]; exact hfree q (by omega)) (Nat.le_add_right _ _) (fun res os4 hR hcl4 hlv4=>?_)
 obtain ⟨rfl,hI4,hfr4⟩:=hR
 have hd4:=hY.drop hcl hfree hI hI4 (fun q hq1 hq2=>(hfr4 q hq2).trans (by simp (disch:=omega) only [Ac]))
 simp (disch:=omega) only [amL]
 try simp (disch:=omega) only [o1,o3,hfr0,Ac,Bz,hcs,amL,amT,sA,sB,sC,sD,sE,sF,sG,sH,sI,sJ,sK,sL,sM,sN,sO,↓reduceIte,reduceCtorEq]
 refine A6 (res:=.tup []) (Dt bd os4) rfl (L0 bd os4) hd4.1 (A9 _ rfl) ⟨rfl,hd4.2.1,hd4.2.2⟩
theorem Bn8:Mu Tryz.prog 120 8:=Ri (by kernel_rfl)
theorem eqV {v w:List Liq} (hv:OkV v) (hw:OkV w):Gw Tryz.prog .eql 120 (Cn (cW v)) (Cn (cW w))=some (.pure (bl (decide (v=w)))):=by
 have l1:(wI v).length=8:=by rw [Aw9,hv.len]
 have l2:(wI w).length=8:=by rw [Aw9,hw.len]
 rw [Bh1,Bh1,Nk (by rw [l1]; exact Bn8) (by rw [l1,l2]) (Bnm hv) (Bnm hw)]
 by_cases e:v=w
 ·subst e; rw [decide_eq_true rfl,decide_eq_true rfl]
 ·rw [decide_eq_false e,decide_eq_false (fun h=>e (Blu h))]
theorem Bn6 {nw:Nat} {os:Nat→Option AO} {bd:Nat} (hw:(os nw).isSome=true) :
  Bh Tryz.prog bd (.fn (.func 71) [] []) [.ptr nw 0] os fun res os'=>res=.fn (.func 109) [] [.ptr (bd+1) 0]∧os'=upd os (bd+1) (some (.cells [.ptr nw 0])):=by
 refine B2 (v:=[]) (q:=[]) (N:=4) (rs:=[.tmp 2]) Tryz.func71 rfl (by kernel_rfl) rfl rfl (fun hcl hfree=>?_)
 have hfr0:∀ k,os (bd+k)=none:=fun k=>hfree _ (by omega)
 have hb:nw < bd:=by
  cases Nat.lt_or_ge nw bd with
  | inl h=>exact h
  | inr h=>rw [hfree nw h] at hw; cases hw
 refine Ad fun K1 hK1=>?_
 simp (disch:=omega) only [hfr0,amL,sA,↓reduceIte]
 refine hK1 _ ?_
 refine Ad fun K2 hK2=>?_
 simp (disch:=omega) only [amL,sA,sF,↓reduceIte]
 refine hK2 _ ?_
 refine Aj ?_
 try simp (disch:=omega) only [amL]
 refine A6 (res:=.fn (.func 109) [] [.ptr (bd+1) 0]) (upd os (bd+1) (some (.cells [.ptr nw 0]))) (by simp (disch:=omega) only [amL,↓reduceIte]; try rfl) (by simp only []; exact Sub.refl _) (Ct hcl ?_) ?_ ⟨rfl,rfl⟩
 ·rw [Dx]; simp (disch:=omega) only [Cr,Cm,C7,Ac,hw,and_self]
 ·rw [Ft]; simp (disch:=omega) only [Cr,Cm,C7,Bc,Option.isSome_some,and_self]
abbrev tmE (n1 ny nl nf:Nat):List (Nat × AV):=[(1,.ptr n1 0),(2,.ptr ny 0),(3,.ptr nl 0),(4,.ptr nf 0)]
def Bed (b:Ed) (x:List Int):List Liq:=(Mp b (Bfe b.vs.length x)).1
def Be4 (b:Ed) (x:List Int):Bool:=(Mp b (Bfe b.vs.length x)).2
def Bhk {σ:Type} (b:Ed) (step:σ→List Liq→σ × Bool) (s:σ × List Liq × Bool) (x:List Int):(σ × List Liq × Bool) × Option Code:=
  if Be4 b x=false∨(s.2.2=false∧Bed b x=s.2.1) then (s,none)
  else if (step s.1 (Bed b x)).2=true then (((step s.1 (Bed b x)).1,Bed b x,false),none) else (((step s.1 (Bed b x)).1,s.2.1,s.2.2),some .ret)
theorem Bg3 {σ:Type} {b:Ed} {step:σ→List Liq→σ × Bool} {s:σ × List Liq × Bool} {x:List Int} (h:Be4 b x=false∨(s.2.2=false∧Bed b x=s.2.1)):Bhk b step s x=(s,none):=if_pos h
theorem Bg0 {σ:Type} {b:Ed} {step:σ→List Liq→σ × Bool} {s:σ × List Liq × Bool} {x:List Int} (h:¬ (Be4 b x=false∨(s.2.2=false∧Bed b x=s.2.1))) (h2:(step s.1 (Bed b x)).2=true):Bhk b step s x=(((step s.1 (Bed b x)).1,Bed b x,false),none):=(if_neg h).trans (if_pos h2)
theorem Bgg {σ:Type} {b:Ed} {step:σ→List Liq→σ × Bool} {s:σ × List Liq × Bool} {x:List Int} (h:¬ (Be4 b x=false∨(s.2.2=false∧Bed b x=s.2.1))) (h2:(step s.1 (Bed b x)).2=false):Bhk b step s x=(((step s.1 (Bed b x)).1,s.2.1,s.2.2),some .ret):=(if_neg h).trans (if_neg (by rw [h2]; decide))
structure EnI {σ:Type} (b:Ed) (yv:AV) (I:σ→(Nat→Option AO)→Prop) (n1 nw m ny nl nf:Nat) (s:σ × List Liq × Bool) (os:Nat→Option AO):Prop where
  i:I s.1 os
  w1:os n1=some (.cells [.ptr nw 0])
  wk:Wk b.vs b.ss nw m os
  y:os ny=some (.cells [yv])
  l:os nl=some (.cells (cW s.2.1))
  f:os nf=some (.cells [bl s.2.2])
  ok:OkV s.2.1
def FE (F:Nat→Prop) (n1 nw m ny nl nf n:Nat):Prop:=F n∨n=n1∨n=nw∨n=m∨n=ny∨n=nl∨n=nf
theorem Bna {b:Ed} {x:List Int} {nw m:Nat} {os:Nat→Option AO} {bd:Nat} (hW:Wk b.vs b.ss nw m os) (hv:N8 b) (hx:x ∈ Bea (Fy b) []) :
    Bh Tryz.prog bd (.fn (.func 61) [] []) [.ptr nw 0,avL b.vs.length x] os fun res os'=>res=.tup [avW (Bed b x),bl (Be4 b x)]∧os'=os:=Ek (t:=Bfe b.vs.length x) hW hv (Bfm hx)
theorem Bmo {b:Ed} {yv:AV} {F:Nat→Prop} {σ:Type} {L:List (List Liq)} {go:σ→Prop} {I:σ→(Nat→Option AO)→Prop} {step:σ→List Liq→σ × Bool} (hY:Ahq Tryz.prog yv F avW L go I step) (hL:∀ x ∈ Bea (Fy b) [],Be4 b x=true→Bed b x ∈ L) (hv:N8 b) (own:∀ q,yv.clean q=false→F q) {n1 nw m ny nl nf bdL:Nat} (f1:¬ F n1) (fw:¬ F nw) (fm:¬ F m) (fy:¬ F ny) (fl:¬ F nl) (ff:¬ F nf) (fL:¬ F bdL) (d1:n1 < ny) (dw:nw < ny) (dm:m < ny) (dy:ny < nl) (dl:nl < nf) (df:nf < bdL)
    {A B:Code} (hcode:(Tryz.f109.body.bind Nu)=some (A,B)) :
    Biq Tryz.prog bdL ⟨33,[10],A,B,.ready,none⟩ (tmE n1 ny nl nf) [61] [] (FE F n1 nw m ny nl nf) (avL b.vs.length) (Bea (Fy b) []) (fun s=>go s.1) (EnI b yv I n1 nw m ny nl nf) (Bhk b step) where
  ready:=rfl
  lenp:=rfl
  psn q hq:=by
    simp only [List.mem_cons,List.not_mem_nil,or_false] at hq
    subst hq; exact (by decide:10 < 33)
  notF h:=by
    rcases h with h | h | h | h | h | h | h
    · exact fL h
    all_goals omega
  tmF q hq:=by
    simp [AO.clean,AV.clean,AV.clean.cleanL] at hq
    unfold FE; omega
  stable s o1 o2 hI he:=⟨hY.stable _ _ _ hI.i (fun n hn=>he n (.inl hn)),(he n1 (by unfold FE; omega)).trans hI.w1,⟨(he nw (by unfold FE; omega)).trans hI.wk.ow,(he m (by unfold FE; omega)).trans hI.wk.om⟩,(he ny (by unfold FE; omega)).trans hI.y,(he nl (by unfold FE; omega)).trans hI.l,(he nf (by unfold FE; omega)).trans hI.f,hI.ok⟩
  foot s o1 n hI hn:=by
    rcases hn with h | rfl | rfl | rfl | rfl | rfl | rfl
    · obtain ⟨o,h1,h2⟩:=hY.foot _ _ _ hI.i h
      exact ⟨o,h1,fun q hq=>.inl (h2 q hq)⟩
    · exact ⟨_,hI.w1,fun q hq=>by simp [AO.clean,AV.clean,AV.clean.cleanL] at hq; unfold FE; omega⟩
    · exact ⟨_,hI.wk.ow,fun q hq=>by simp [AO.clean,AV.clean,AV.clean.cleanL] at hq; unfold FE; omega⟩
    · exact ⟨_,hI.wk.om,fun q hq=>by simp [AO.clean] at hq⟩
    · exact ⟨_,hI.y,fun q hq=>.inl (own q (by simpa [AO.clean,AV.clean.cleanL] using hq))⟩
    · exact ⟨_,hI.l,fun q hq=>by rw [show (AO.cells (cW s.2.1)).clean q=true from An3] at hq; cases hq⟩
    · exact ⟨_,hI.f,fun q hq=>by simp [AO.clean,AV.clean,AV.clean.cleanL] at hq⟩
  next s x hx hg hb:=by
    unfold Bhk at hb ⊢
    split at hb
    · rename_i h; rw [if_pos h]; exact hg
    · rename_i h
      rw [if_neg h]
      split at hb
      · rename_i h2
        rw [if_pos h2]
        refine hY.next _ _ (hL x hx ?_) hg h2
        cases he:Be4 b x with
        | true=>rfl
        | false=>exact absurd (.inl he) h
      · cases hb
  body s x o1 bd1 hx hg hI hl hcl1 hfree1 hb1 rl:=by
    obtain ⟨s,last,first⟩:=s
    obtain ⟨hi,a1,⟨aw,am⟩,ay,al,af,hok⟩:=hI
    dsimp only at hi al af hok hg
    have hfr0:∀ k,o1 (bd1+k)=none:=fun k=>hfree1 _ (by omega)
    have hpp:=Alw hv (Bfm hx)
    have hp4:(Bed b x).length=4:=hpp.1
    have hpo:Be4 b x=true→OkV (Bed b x):=hpp.2
    have hlast:=hok.len
    have b1:=Ap hfree1 a1
    have bw:=Ap hfree1 aw
    have bm:=Ap hfree1 am
    have b2:=Ap hfree1 ay
    have b3:=Ap hfree1 al
    have b4:=Ap hfree1 af
    have hF:∀ q,F q→q < bd1∧q≠bdL∧q≠nl∧q≠nf:=fun q hq=>by
      obtain ⟨o,h,_⟩:=hY.foot s o1 q hi hq
      exact ⟨Ap hfree1 h,fun e=>fL (e ▸ hq),fun e=>fl (e ▸ hq),fun e=>ff (e ▸ hq)⟩
    have hlq:∀ {q:Nat} {kk:F4},(AO.loop kk (tmE n1 ny nl nf)).clean q=false→(o1 q).isSome=true∧(q=n1∨q=ny∨q=nl∨q=nf):=fun {q kk} hq=>by
      have e:q=n1∨q=ny∨q=nl∨q=nf:=by
        simp [AO.clean,AV.clean,AV.clean.cleanL] at hq; omega
      refine ⟨?_,e⟩
      rcases e with e | e | e | e <;> rw [e]
      · rw [a1]; rfl
      · rw [ay]; rfl
      · rw [al]; rfl
      · rw [af]; rfl
    have hclL:∀ {os:Nat→Option AO} {kk:F4},(Hp os).closed→(os n1).isSome=true→(os ny).isSome=true→(os nl).isSome=true→(os nf).isSome=true→(Hp (upd os bdL (some (.loop kk (tmE n1 ny nl nf))))).closed:=fun {os kk} hc h1 h2 h3 h4=>Ct hc (fun q hq=>by
      obtain ⟨_,e⟩:=hlq hq
      unfold upd
      split
      · rfl
      · rcases e with e | e | e | e <;> rw [e] <;> assumption)
    have hlv:=hY.live _ _ hi
    have key:(Be4 b x=false∧(Be4 b x=false∨(first=false∧Bed b x=last)))∨(Be4 b x=true∧first=true∧¬ (Be4 b x=false∨(first=false∧Bed b x=last)))∨(Be4 b x=true∧first=false∧Bed b x=last∧(Be4 b x=false∨(first=false∧Bed b x=last)))∨(Be4 b x=true∧first=false∧¬ Bed b x=last∧¬ (Be4 b x=false∨(first=false∧Bed b x=last))):=by
      cases he:Be4 b x with
      | false=>exact .inl ⟨rfl,.inl rfl⟩
      | true=>cases first with
        | true=>exact .inr (.inl ⟨rfl,rfl,by simp⟩)
        | false=>
                   by_cases hev:Bed b x=last
                   · exact .inr (.inr (.inl ⟨rfl,rfl,hev,.inr ⟨rfl,hev⟩⟩))
                   · exact .inr (.inr (.inr ⟨rfl,rfl,hev,by simp [hev]⟩))
    rcases key with ⟨he,hC⟩ | ⟨he,hf,hC⟩ | ⟨he,hf,hev,hC⟩ | ⟨he,hf,hev,hC⟩
    all_goals
      first
        | (have hce:Gw Tryz.prog .eql 120 (Cn (cW (Bed b x))) (Cn (cW last))=some (.pure (bl true)):=by rw [eqV (hpo he) hok,decide_eq_true hev])
        | (have hce:Gw Tryz.prog .eql 120 (Cn (cW (Bed b x))) (Cn (cW last))=some (.pure (bl false)):=by rw [eqV (hpo he) hok,decide_eq_false hev])
        | (have hce:=he)
      cases (show some (_,_)=some (A,B) from hcode)
      have he:=he
      have hce:=hce
      first | (have hf:=hf) | (have hf:=he)
      show AWP _ _ 33 _ ⟨T [(10,avL b.vs.length x),(1,.ptr n1 0),(2,.ptr ny 0),(3,.ptr nl 0),(4,.ptr nf 0)],o1⟩ _
      refine Ah ?_
      simp (disch:=omega) only [hl,hfr0,Ac,Bz,amL,amT,sA,sB,sF,↓reduceIte]
      try simp (disch:=omega) only [hl,hfr0,Ac,Bz,amL,amT,sA,sB,sC,sD,sE,sF,sG,sH,sI,sJ,sK,sL,sM,sN,sO,↓reduceIte,reduceCtorEq]
      skip
      refine Aq ?_
      refine Ad fun K1 hK1=>?_
      simp (disch:=(first | assumption | omega)) only [a1,Ac,amL,amT,sA,sB,sF,↓reduceIte]
      refine Cc (bd:=bd1+33) (by decide) (Bna (b:=b) (x:=x) (nw:=nw) (m:=m) ⟨by simp (disch:=omega) only [Ac]; exact aw,by simp (disch:=omega) only [Ac]; exact am⟩ hv hx) (fun q hq=>by simp (disch:=omega) only [Ac]; exact hfree1 q (by omega)) (Nat.le_add_right _ _) (D9 _ _) ?_
      simp (disch:=(first | assumption | omega)) only [hfr0,Ac,Bz,A0,Aj2,he,amL,amT,sA,sB,sF,↓reduceIte]
      refine hK1 _ ?_
      refine Ab fun K2 hK2=>?_
      refine Ad fun K3 hK3=>?_
      simp (disch:=(first | assumption | omega)) only [al,af,Ac,Bq,A0,hce,hf,amL,amT,sA,sF,↓reduceIte]
      repeat' first | (refine Ey (fun h=>?_) (fun h=>?_) <;> simp (disch:=(first | assumption | omega)) only [h,a1,aw,am,ay,al,af,hl,hfr0,Ac,Bz,Bq,A0,Aj2,he,hce,hf,ne_eq,Wv,Ae7,amL,amT,sA,sB,sC,sD,sE,sF,sG,sH,sI,sJ,sK,sL,sM,sN,sO,↓reduceIte,reduceCtorEq]) | (refine C0 (fun h=>?_) (fun h=>?_) <;> simp (disch:=(first | assumption | omega)) only [h,a1,aw,am,ay,al,af,hl,hfr0,Ac,Bz,Bq,A0,Aj2,he,hce,hf,ne_eq,Wv,Ae7,amL,amT,sA,sB,sC,sD,sE,sF,sG,sH,sI,sJ,sK,sL,sM,sN,sO,↓reduceIte,reduceCtorEq])
      all_goals
       skip
       refine hK3 _ ?_
       refine Al rfl (fun h=>MT.x ?_) (fun h=>ME.x ?_)
       all_goals
        first
        |refine MT.mk ?_
         first
         |exact Bool.noConfusion h
         |skip
          try simp only [] at h
          refine Br ?_
          try simp (disch:=(first | assumption | omega)) only [hf]
          first
            | (try subst hf
               have hb:=Bg3 (step:=step) (s:=(s,last,_)) hC
               simp only [Bf7,So,reduceIte,Wv]
               refine Q4 o1 (by simp (disch:=omega) only [Ac,Bc]) (fun z=>?_) hcl1 ⟨by rw [hb] ; first | done | rfl,⟨by rw [hb]; exact ⟨hi,a1,⟨aw,am⟩,ay,al,af,hok⟩,by rw [hb]; exact hl⟩,fun _ _=>rfl⟩
               by_cases e1:z=bdL
               · subst e1; right; rw [Bc]; exact hl
               · by_cases e4:bd1≤z
                 · left; exact hfree1 z e4
                 · right; simp (disch:=omega) only [Ac])
            | (try subst hf
               have hst:(step s (Bed b x)).2=false:=by assumption
               have hb:=Bgg (step:=step) (s:=(s,last,_)) hC hst
               dsimp only at hb
               refine Q4 (upd (Dt bd1 os4) bdL (some (.loop (Am8 _ (some .ret)) (tmE n1 ny nl nf)))) rL (fun z=>?_) (hclL hd4.1 (by rw [g1]; rfl) (by rw [gy]; rfl) (by rw [gl]; rfl) (by rw [gf]; rfl)) ⟨by rw [hb] ; first | done | rfl,⟨?_,by rw [hb,Bc]⟩,fun n hn=>?_⟩
               · by_cases e1:z=bdL
                 · subst e1; right; rw [Bc,Bc] ; first | done | rfl
                 · rw [Ac e1,Ac e1]; exact L0 bd1 os4 z
               · rw [hb]
                 exact ⟨hY.stable _ _ _ hd4.2.1 (fun q hq=>Ac (hF q hq).2.1),(Ac (by omega)).trans g1,⟨(Ac (by omega)).trans gw,(Ac (by omega)).trans gm⟩,(Ac (by omega)).trans gy,(Ac (by omega)).trans gl,(Ac (by omega)).trans gf,hok⟩
               · have e1:n≠bdL:=fun e=>hn (.inr e)
                 rw [Ac e1,gL n (fun h=>hn (.inl (.inl h))),Ac e1])
            | (try subst hf
               have hst:(step s (Bed b x)).2=true:=by assumption
               have hb:=Bg0 (step:=step) (s:=(s,last,_)) hC hst
               dsimp only at hb
               refine Q4 (upd (upd (upd (Dt bd1 os4) nl (some (.cells (cW (Bed b x))))) nf (some (.cells [bl false]))) bdL (some (.loop (Am8 _ none) (tmE n1 ny nl nf)))) (by simp (disch:=omega) only [Ac]; exact rL) (fun z=>?_) (hclL (F3 (D4 hd4.1) (by simp [AV.isP])) (by simp (disch:=omega) only [Ac]; rw [g1]; rfl) (by simp (disch:=omega) only [Ac]; rw [gy]; rfl) (by simp (disch:=omega) only [Ac,Bc,Option.isSome_some]) (by simp (disch:=omega) only [Bc,Option.isSome_some])) ⟨by rw [hb] ; first | done | rfl,⟨?_,by rw [hb,Bc]⟩,fun n hn=>?_⟩
               · by_cases e1:z=bdL
                 · subst e1; right; rw [Bc,Bc] ; first | done | rfl
                 · by_cases e2:z=nf
                   · subst e2; right; simp (disch:=omega) only [Ac,Bc]
                   · by_cases e3:z=nl
                     · subst e3; right; simp (disch:=omega) only [Ac,Bc] ; first | done | rfl | (rw [B7 (by omega)])
                     · rw [Ac e1,Ac e2,Ac e3]
                       rcases L0 bd1 os4 z with h0 | h0
                       · exact .inl h0
                       · right; rw [h0]; simp (disch:=omega) only [Ac]
               · rw [hb]
                 exact ⟨hY.stable _ _ _ hd4.2.1 (fun q hq=>by obtain ⟨_,_,_,_⟩:=hF q hq; simp (disch:=omega) only [Ac]),by simp (disch:=omega) only [Ac]; exact g1,⟨by simp (disch:=omega) only [Ac]; exact gw,by simp (disch:=omega) only [Ac]; exact gm⟩,by simp (disch:=omega) only [Ac]; exact gy,by simp (disch:=omega) only [Ac,Bc],by simp (disch:=omega) only [Ac,Bc],hpo he⟩
               · have e1:n≠bdL:=fun e=>hn (.inr e)
                 have e2:n≠nl:=fun e=>hn (.inl (by unfold FE; omega))
                 have e3:n≠nf:=fun e=>hn (.inl (by unfold FE; omega))
                 rw [Ac e1,Ac e3,Ac e2,gL n (fun h=>hn (.inl (.inl h))),Ac e1])
        |refine ME.mk ?_
         first
         |exact Bool.noConfusion h
         |skip
          try simp only [] at h
          refine Am ?_
          refine hK2 _ ?_
       all_goals
        skip
        refine Ab fun K4 hK4=>?_
        refine Ad fun K5 hK5=>?_
        simp (disch:=(first | assumption | omega)) only [ay,Ac,Bq,A0,amL,amT,sA,sF,↓reduceIte]
        have hcall:=fun os h1 h2=>hY.call s (Bed b x) os (bd1+33) (hL x hx he) hg h1 h2
        refine A2 [(1,.ptr n1 0),(2,.ptr ny 0),(3,.ptr nl 0),(4,.ptr nf 0),(6,.ptr (bd1+6) 0)] (by decide) (hcall _ (hY.stable _ _ _ hi (fun q hq=>by obtain ⟨_,_,_,_⟩:=hF q hq; simp (disch:=omega) only [Ac])) (D4 (hclL (F3 hcl1 (by simp [AV.isP])) (by simp (disch:=omega) only [Ac,a1,Option.isSome_some]) (by simp (disch:=omega) only [Ac,ay,Option.isSome_some]) (by simp (disch:=omega) only [Ac,al,Option.isSome_some]) (by simp (disch:=omega) only [Ac,af,Option.isSome_some])))) (fun q hq=>by simp (disch:=omega) only [Ac]; exact hfree1 q (by omega)) (Nat.le_add_right _ _) (fun res os4 hR hcl4 hlv4=>?_)
        obtain ⟨rfl,hI4,hfr4⟩:=hR
        have r1:os4 n1=some (.cells [.ptr nw 0]):=(hfr4 n1 f1).trans (by simp (disch:=omega) only [Ac]; exact a1)
        have rw':os4 nw=some (.cells [.p (slV b.vs),.p (slS b.ss),.mp m]):=(hfr4 nw fw).trans (by simp (disch:=omega) only [Ac]; exact aw)
        have rm:os4 m=some (.obj (F9 14 (Sk b.vs))):=(hfr4 m fm).trans (by simp (disch:=omega) only [Ac]; exact am)
        have ry:os4 ny=some (.cells [yv]):=(hfr4 ny fy).trans (by simp (disch:=omega) only [Ac]; exact ay)
        have rl':os4 nl=some (.cells (cW last)):=(hfr4 nl fl).trans (by simp (disch:=omega) only [Ac]; exact al)
        have rf:os4 nf=some (.cells [bl first]):=(hfr4 nf ff).trans (by simp (disch:=omega) only [Ac]; exact af)
        have r6:os4 (bd1+6)=some (.cells (cW (Bed b x))):=(hfr4 (bd1+6) (fun h=>by have:=(hF _ h).1; omega)).trans Bc
        have rL:os4 bdL=_:=(hfr4 bdL fL).trans ((Ac (by omega)).trans Bc)
        have hd4:=hY.drop (bd:=bd1) (os:=upd o1 bdL (os4 bdL)) (os2:=os4) (by rw [rL]; exact hclL hcl1 (by rw [a1]; rfl) (by rw [ay]; rfl) (by rw [al]; rfl) (by rw [af]; rfl)) (fun q hq=>(Ac (by omega)).trans (hfree1 q hq)) (hY.stable _ _ _ hi (fun q hq=>Ac (hF q hq).2.1)) hI4 (fun q hq1 hq2=>by
          by_cases e:q=bdL
          · subst e; rw [Bc]
          · rw [Ac e]; exact (hfr4 q hq2).trans (by simp (disch:=omega) only [Ac]))
        have g1:=(Fw b1).trans r1
        have gw:=(Fw bw).trans rw'
        have gm:=(Fw bm).trans rm
        have gy:=(Fw b2).trans ry
        have gl:=(Fw b3).trans rl'
        have gf:=(Fw b4).trans rf
        have gL:=hd4.2.2
        simp (disch:=(first | assumption | omega)) only [amL,sA,sF,↓reduceIte]
        refine ⟨⟨by rw [r1]; rfl,by rw [ry]; rfl,by rw [rl']; rfl,by rw [rf]; rfl,by rw [r6]; rfl⟩,?_⟩
        refine hK5 _ ?_
        refine Al rfl (fun h=>MT.x ?_) (fun h=>ME.x ?_)
        all_goals
         first
         |refine MT.mk ?_
          first
          |exact Bool.noConfusion h
          |skip
           try simp only [nrm] at h
           refine Aj ?_
           try simp (disch:=(first | assumption | omega)) only [hf,Ae7,amL]
           first
             | (try subst hf
                have hb:=Bg3 (step:=step) (s:=(s,last,_)) hC
                simp only [Bf7,So,reduceIte,Wv]
                refine Q4 o1 (by simp (disch:=omega) only [Ac,Bc]) (fun z=>?_) hcl1 ⟨by rw [hb] ; first | done | rfl,⟨by rw [hb]; exact ⟨hi,a1,⟨aw,am⟩,ay,al,af,hok⟩,by rw [hb]; exact hl⟩,fun _ _=>rfl⟩
                by_cases e1:z=bdL
                · subst e1; right; rw [Bc]; exact hl
                · by_cases e4:bd1≤z
                  · left; exact hfree1 z e4
                  · right; simp (disch:=omega) only [Ac])
             | (try subst hf
                have hst:(step s (Bed b x)).2=false:=by assumption
                have hb:=Bgg (step:=step) (s:=(s,last,_)) hC hst
                dsimp only at hb
                refine Q4 (upd (Dt bd1 os4) bdL (some (.loop (Am8 _ (some .ret)) (tmE n1 ny nl nf)))) rL (fun z=>?_) (hclL hd4.1 (by rw [g1]; rfl) (by rw [gy]; rfl) (by rw [gl]; rfl) (by rw [gf]; rfl)) ⟨by rw [hb] ; first | done | rfl,⟨?_,by rw [hb,Bc]⟩,fun n hn=>?_⟩
                · by_cases e1:z=bdL
                  · subst e1; right; rw [Bc,Bc] ; first | done | rfl
                  · rw [Ac e1,Ac e1]; exact L0 bd1 os4 z
                · rw [hb]
                  exact ⟨hY.stable _ _ _ hd4.2.1 (fun q hq=>Ac (hF q hq).2.1),(Ac (by omega)).trans g1,⟨(Ac (by omega)).trans gw,(Ac (by omega)).trans gm⟩,(Ac (by omega)).trans gy,(Ac (by omega)).trans gl,(Ac (by omega)).trans gf,hok⟩
                · have e1:n≠bdL:=fun e=>hn (.inr e)
                  rw [Ac e1,gL n (fun h=>hn (.inl (.inl h))),Ac e1])
             | (try subst hf
                have hst:(step s (Bed b x)).2=true:=by assumption
                have hb:=Bg0 (step:=step) (s:=(s,last,_)) hC hst
                dsimp only at hb
                refine Q4 (upd (upd (upd (Dt bd1 os4) nl (some (.cells (cW (Bed b x))))) nf (some (.cells [bl false]))) bdL (some (.loop (Am8 _ none) (tmE n1 ny nl nf)))) (by simp (disch:=omega) only [Ac]; exact rL) (fun z=>?_) (hclL (F3 (D4 hd4.1) (by simp [AV.isP])) (by simp (disch:=omega) only [Ac]; rw [g1]; rfl) (by simp (disch:=omega) only [Ac]; rw [gy]; rfl) (by simp (disch:=omega) only [Ac,Bc,Option.isSome_some]) (by simp (disch:=omega) only [Bc,Option.isSome_some])) ⟨by rw [hb] ; first | done | rfl,⟨?_,by rw [hb,Bc]⟩,fun n hn=>?_⟩
                · by_cases e1:z=bdL
                  · subst e1; right; rw [Bc,Bc] ; first | done | rfl
                  · by_cases e2:z=nf
                    · subst e2; right; simp (disch:=omega) only [Ac,Bc]
                    · by_cases e3:z=nl
                      · subst e3; right; simp (disch:=omega) only [Ac,Bc] ; first | done | rfl | (rw [B7 (by omega)])
                      · rw [Ac e1,Ac e2,Ac e3]
                        rcases L0 bd1 os4 z with h0 | h0
                        · exact .inl h0
                        · right; rw [h0]; simp (disch:=omega) only [Ac]
                · rw [hb]
                  exact ⟨hY.stable _ _ _ hd4.2.1 (fun q hq=>by obtain ⟨_,_,_,_⟩:=hF q hq; simp (disch:=omega) only [Ac]),by simp (disch:=omega) only [Ac]; exact g1,⟨by simp (disch:=omega) only [Ac]; exact gw,by simp (disch:=omega) only [Ac]; exact gm⟩,by simp (disch:=omega) only [Ac]; exact gy,by simp (disch:=omega) only [Ac,Bc],by simp (disch:=omega) only [Ac,Bc],hpo he⟩
                · have e1:n≠bdL:=fun e=>hn (.inr e)
                  have e2:n≠nl:=fun e=>hn (.inl (by unfold FE; omega))
                  have e3:n≠nf:=fun e=>hn (.inl (by unfold FE; omega))
                  rw [Ac e1,Ac e3,Ac e2,gL n (fun h=>hn (.inl (.inl h))),Ac e1])
         |refine ME.mk ?_
          first
          |exact Bool.noConfusion h
          |skip
           try simp only [nrm] at h
           refine Am ?_
           refine hK4 _ ?_
        all_goals
         skip
         refine Ah ?_
         simp (disch:=(first | assumption | omega)) only [rl',rf,r6,Bq,A0,Ac,Bq,A0,hf,Wv,amL,amT,sF,↓reduceIte]
         try simp (disch:=(first | assumption | omega)) only [a1,aw,am,ay,al,af,hl,hfr0,Ac,Bz,Bq,A0,Aj2,he,hce,hf,ne_eq,Wv,Ae7,amL,amT,sA,sB,sC,sD,sE,sF,sG,sH,sI,sJ,sK,sL,sM,sN,sO,↓reduceIte,reduceCtorEq]
         first
           | (try subst hf
              have hb:=Bg3 (step:=step) (s:=(s,last,_)) hC
              simp only [Bf7,So,reduceIte,Wv]
              refine Q4 o1 (by simp (disch:=omega) only [Ac,Bc]) (fun z=>?_) hcl1 ⟨by rw [hb] ; first | done | rfl,⟨by rw [hb]; exact ⟨hi,a1,⟨aw,am⟩,ay,al,af,hok⟩,by rw [hb]; exact hl⟩,fun _ _=>rfl⟩
              by_cases e1:z=bdL
              · subst e1; right; rw [Bc]; exact hl
              · by_cases e4:bd1≤z
                · left; exact hfree1 z e4
                · right; simp (disch:=omega) only [Ac])
           | (try subst hf
              have hst:(step s (Bed b x)).2=false:=by assumption
              have hb:=Bgg (step:=step) (s:=(s,last,_)) hC hst
              dsimp only at hb
              refine Q4 (upd (Dt bd1 os4) bdL (some (.loop (Am8 _ (some .ret)) (tmE n1 ny nl nf)))) rL (fun z=>?_) (hclL hd4.1 (by rw [g1]; rfl) (by rw [gy]; rfl) (by rw [gl]; rfl) (by rw [gf]; rfl)) ⟨by rw [hb] ; first | done | rfl,⟨?_,by rw [hb,Bc]⟩,fun n hn=>?_⟩
              · by_cases e1:z=bdL
                · subst e1; right; rw [Bc,Bc] ; first | done | rfl
                · rw [Ac e1,Ac e1]; exact L0 bd1 os4 z
              · rw [hb]
                exact ⟨hY.stable _ _ _ hd4.2.1 (fun q hq=>Ac (hF q hq).2.1),(Ac (by omega)).trans g1,⟨(Ac (by omega)).trans gw,(Ac (by omega)).trans gm⟩,(Ac (by omega)).trans gy,(Ac (by omega)).trans gl,(Ac (by omega)).trans gf,hok⟩
              · have e1:n≠bdL:=fun e=>hn (.inr e)
                rw [Ac e1,gL n (fun h=>hn (.inl (.inl h))),Ac e1])
           | (try subst hf
              have hst:(step s (Bed b x)).2=true:=by assumption
              have hb:=Bg0 (step:=step) (s:=(s,last,_)) hC hst
              dsimp only at hb
              refine Q4 (upd (upd (upd (Dt bd1 os4) nl (some (.cells (cW (Bed b x))))) nf (some (.cells [bl false]))) bdL (some (.loop (Am8 _ none) (tmE n1 ny nl nf)))) (by simp (disch:=omega) only [Ac]; exact rL) (fun z=>?_) (hclL (F3 (D4 hd4.1) (by simp [AV.isP])) (by simp (disch:=omega) only [Ac]; rw [g1]; rfl) (by simp (disch:=omega) only [Ac]; rw [gy]; rfl) (by simp (disch:=omega) only [Ac,Bc,Option.isSome_some]) (by simp (disch:=omega) only [Bc,Option.isSome_some])) ⟨by rw [hb] ; first | done | rfl,⟨?_,by rw [hb,Bc]⟩,fun n hn=>?_⟩
              · by_cases e1:z=bdL
                · subst e1; right; rw [Bc,Bc] ; first | done | rfl
                · by_cases e2:z=nf
                  · subst e2; right; simp (disch:=omega) only [Ac,Bc]
                  · by_cases e3:z=nl
                    · subst e3; right; simp (disch:=omega) only [Ac,Bc] ; first | done | rfl | (rw [B7 (by omega)])
                    · rw [Ac e1,Ac e2,Ac e3]
                      rcases L0 bd1 os4 z with h0 | h0
                      · exact .inl h0
                      · right; rw [h0]; simp (disch:=omega) only [Ac]
              · rw [hb]
                exact ⟨hY.stable _ _ _ hd4.2.1 (fun q hq=>by obtain ⟨_,_,_,_⟩:=hF q hq; simp (disch:=omega) only [Ac]),by simp (disch:=omega) only [Ac]; exact g1,⟨by simp (disch:=omega) only [Ac]; exact gw,by simp (disch:=omega) only [Ac]; exact gm⟩,by simp (disch:=omega) only [Ac]; exact gy,by simp (disch:=omega) only [Ac,Bc],by simp (disch:=omega) only [Ac,Bc],hpo he⟩
              · have e1:n≠bdL:=fun e=>hn (.inr e)
                have e2:n≠nl:=fun e=>hn (.inl (by unfold FE; omega))
                have e3:n≠nf:=fun e=>hn (.inl (by unfold FE; omega))
                rw [Ac e1,Ac e3,Ac e2,gL n (fun h=>hn (.inl (.inl h))),Ac e1])
def Bft (b:Ed):List Liq→Bool→List (List Int)→List (List Liq)
 | _,_,[]=>[]
 | last,first,x :: l=>if Be4 b x=false∨(first=false∧Bed b x=last) then Bft b last first l else Bed b x :: Bft b (Bed b x) false l
def Bet (b:Ed):List (List Liq):=Bft b v0 true (Bea (Fy b) [])
theorem Bj1 {σ:Type} {b:Ed} {step:σ→List Liq→σ × Bool}:∀ (l:List (List Int)) (s:σ) (last:List Liq) (first:Bool),
  (Gg (fun (s:(σ × List Liq × Bool) × Option Code) x=>(Bhk b step s.1 x,(Bhk b step s.1 x).2.isNone)) ((s,last,first),none) l).1.1.1=(Gg step s (Bft b last first l)).1 ∧
  ((Gg (fun (s:(σ × List Liq × Bool) × Option Code) x=>(Bhk b step s.1 x,(Bhk b step s.1 x).2.isNone)) ((s,last,first),none) l).1.2=none∨(Gg (fun (s:(σ × List Liq × Bool) × Option Code) x=>(Bhk b step s.1 x,(Bhk b step s.1 x).2.isNone)) ((s,last,first),none) l).1.2=some .ret)
 | [],s,last,first=>⟨rfl,.inl rfl⟩
 | x :: l,s,last,first=>by
  by_cases hC:Be4 b x=false∨(first=false∧Bed b x=last)
  ·have hb:=Bg3 (step:=step) (s:=(s,last,first)) hC
   simp only [Gg,hb,Option.isNone_none,if_true,Bft,if_pos hC]
   exact Bj1 l s last first
  ·cases hs:(step s (Bed b x)).2 with
   | true=>
    have hb:=Bg0 (step:=step) (s:=(s,last,first)) hC hs
    simp only [Gg,hb,Option.isNone_none,if_true,Bft,if_neg hC,hs]
    exact Bj1 l _ _ _
   | false=>
    have hb:=Bgg (step:=step) (s:=(s,last,first)) hC hs
    simp only [Gg,hb,Option.isNone_some,Bool.false_eq_true,if_false,Bft,if_neg hC,hs]
    exact ⟨trivial,.inr trivial⟩
theorem Bnk {b:Ed} (hv:N8 b):∀ r ∈ Fy b,0≤r.lo∧r.lo≤r.hi∧r.hi≤1000:=by
 intro r hr
 unfold Fy at hr
 simp only [List.mem_append,List.mem_map] at hr
 rcases hr with (⟨v,h1,rfl⟩ | ⟨v,h1,rfl⟩) | ⟨s,h1,rfl⟩
 ·have h:=C9 (Da (List.all_eq_true.1 hv.v v h1)).1
  omega
 ·have h:=C9 (Da (List.all_eq_true.1 hv.v v h1)).2.1
  omega
 ·have h:=C9 (Fp (List.all_eq_true.1 hv.s s h1)).2.2.2.2
  omega
abbrev osE (os:Nat→Option AO) (bd:Nat) (b:Ed) (yv:AV):Nat→Option AO:=
 upd (upd (upd (upd (upd os (bd+2) (some (.cells [yv]))) (bd+3) (some (.cells (cW v0)))) (bd+4) (some (.cells [bl true]))) (bd+33+3) (some (.cells [.p (.sl ((Fy b).map Jh))]))) (bd+33+4) (some (.cells [i64 b.vs.length]))
theorem Bnj {b:Ed} {yv:AV} {F:Nat→Prop} {σ:Type} {L:List (List Liq)} {go:σ→Prop} {I:σ→(Nat→Option AO)→Prop} {step:σ→List Liq→σ × Bool} (hY:Ahq Tryz.prog yv F avW L go I step) (hcs:yv.cs?=some [yv]) (hL:∀ x ∈ Bea (Fy b) [],Be4 b x=true→Bed b x ∈ L) (hv:N8 b) (own:∀ q,yv.clean q=false→F q) {n1 nw m:Nat} (f1:¬ F n1) (fw:¬ F nw) (fm:¬ F m) {s:σ} {os:Nat→Option AO} {bd:Nat} (o1:os n1=some (.cells [.ptr nw 0])) (hW:Wk b.vs b.ss nw m os) (hg:go s) (hI:I s os) :
  Bh Tryz.prog bd (.fn (.func 109) [] [.ptr n1 0]) [yv] os fun res os'=>res=.tup []∧I (Gg step s (Bet b)).1 os'∧∀ n,¬ F n→os' n=os n:=by
 refine Yw (v:=[110]) (q:=[]) (N:=33) (rs:=[]) Tryz.func109 rfl (by kernel_rfl) rfl rfl (fun hcl hfree=>?_)
 have hfr0:∀ k,os (bd+k)=none:=fun k=>hfree _ (by omega)
 have ow:=hW.ow
 have om:=hW.om
 have b1:=Ap hfree o1
 have bw:=Ap hfree ow
 have bm:=Ap hfree om
 have hF:∀ q,F q→q < bd:=fun q hq=>by obtain ⟨o,h,_⟩:=hY.foot s os q hI hq; exact Ap hfree h
 have hFb:∀ k,¬ F (bd+k):=fun k h=>by have:=hF _ h; omega
 have hlv:=hY.live _ _ hI
 have hnv:=hv.nv
 have hns:=hv.ns
 obtain ⟨A,B,hcode⟩:∃ A B,(Tryz.f109.body.bind Nu)=some (A,B):=⟨_,_,rfl⟩
 have hRd:=Bmo (step:=step) (n1:=n1) (nw:=nw) (m:=m) (ny:=bd+2) (nl:=bd+3) (nf:=bd+4) (bdL:=bd+40) hY hL hv own f1 fw fm (hFb 2) (hFb 3) (hFb 4) (hFb 40) (by omega) (by omega) (by omega) (by omega) (by omega) (by omega) hcode
 refine Lm fun K1 hK1=>?_
 refine Ah ?_
 simp (disch:=(first | assumption | omega)) only [hfr0,hcs,amL,sA,sB,↓reduceIte]
 refine hK1 _ ?_
 refine Lm fun K2 hK2=>?_
 refine Ah ?_
 simp (disch:=(first | assumption | omega)) only [hfr0,Ac,amL,amT,sA,sB,↓reduceIte]
 refine hK2 _ ?_
 refine Lm fun K3 hK3=>?_
 refine Ah ?_
 simp (disch:=(first | assumption | omega)) only [hfr0,Ac,Bz,amL,amT,sA,↓reduceIte]
 refine hK3 _ ?_
 refine Lm fun K4 hK4=>?_
 refine Ah ?_
 simp (disch:=(first | assumption | omega)) only [o1,Ac,amL,amT,sA,sF,↓reduceIte,reduceCtorEq]
 refine A2 [(1,.ptr n1 0),(2,.ptr (bd+2) 0),(3,.ptr (bd+3) 0),(4,.ptr (bd+4) 0)] (by decide) (Bmk (b:=b) (nw:=nw) (m:=m) (bd:=bd+33) (by omega) (by omega) (by simp (disch:=omega) only [Ac]; exact ow)) (fun q hq=>by simp (disch:=omega) only [Ac]; exact hfree q (by omega)) (Nat.le_add_right _ _) (fun res os2 hR hcl2 hlv2=>?_)
 obtain ⟨rfl,rfl⟩:=hR
 simp (disch:=(first | assumption | omega)) only [o1,Ac,amL,sF,↓reduceIte,reduceCtorEq]
 refine hK4 _ ?_
 refine T0 ?_
 have hI0:EnI b yv I n1 nw m (bd+2) (bd+3) (bd+4) (s,v0,true) (upd (osE os bd b yv) (bd+40) (some (.loop ⟨33,[10],A,B,.ready,none⟩ (tmE n1 (bd+2) (bd+3) (bd+4))))):=⟨hY.stable _ _ _ hI (fun q hq=>by have:=hF q hq; simp (disch:=omega) only [Ac]),by simp (disch:=omega) only [Ac]; exact o1,⟨by simp (disch:=omega) only [Ac]; exact ow,by simp (disch:=omega) only [Ac]; exact om⟩,by simp (disch:=omega) only [Ac,Bc],by simp (disch:=omega) only [Ac,Bc],by simp (disch:=omega) only [Ac,Bc],Ao0⟩
 have hnF:∀ k,k=36∨k=37→¬ (FE F n1 nw m (bd+2) (bd+3) (bd+4) (bd+k)∨bd+k=bd+40):=fun k hk h=>by
  rcases h with h | h
  ·unfold FE at h
   rcases h with h | h
   ·exact hFb k h
   ·omega
  ·omega
 have hc:=Blc hRd.yields rfl (Bnk hv) (by rw [Qp]; omega) (by rw [Qp]; omega) (nr:=bd+33+3) (nk:=bd+33+4) (s:=((s,v0,true),none)) (bd:=bd+41) (os:=upd (osE os bd b yv) (bd+40) (some (.loop ⟨33,[10],A,B,.ready,none⟩ (tmE n1 (bd+2) (bd+3) (bd+4))))) (hnF 36 (.inl rfl)) (hnF 37 (.inr rfl)) (by simp (disch:=omega) only [Ac,Bc]) (by simp (disch:=omega) only [Ac,Bc]) ⟨rfl,hg⟩ ⟨hI0,Bc⟩
 cases (show some (_,_)=some (A,B) from hcode)
 refine Mt (bd:=bd+40) (tm:=tmE n1 (bd+2) (bd+3) (bd+4)) rfl (fun q hq=>by simp (disch:=omega) only [Ac]; exact hfree q (by omega)) (by simp only []; omega) rfl (by kernel_rfl) (fun i=>Aaw (by simp (disch:=(first | assumption | omega)) only [amL,sF,↓reduceIte]) i) (Aw3 (by simp (disch:=(first | assumption | omega)) only [amL,sF,↓reduceIte])) hc (fun res os2 hR hcl2=>?_)
 obtain ⟨rfl,hI2,hfr2⟩:=hR
 obtain ⟨e1,e2⟩:=Bj1 (b:=b) (step:=step) (Bea (Fy b) []) s v0 true
 have hfin:∀ X,Acg Tryz.prog [] (fun res os'=>res=.tup []∧I (Gg step s (Bet b)).1 os'∧∀ n,¬ F n→os' n=os n) ⟨T (tmE n1 (bd+2) (bd+3) (bd+4)),upd os2 (bd+40) X⟩:=fun X=>by
  have hI3:=hI2.1.i
  rw [e1] at hI3
  have hd:=hY.drop (bd:=bd) hcl hfree hI hI3 (fun q hq1 hq2=>by
   by_cases c1:q=n1
   ·rw [c1,hI2.1.w1,o1]
   ·by_cases c2:q=nw
    ·rw [c2,hI2.1.wk.ow,ow]
    ·by_cases c3:q=m
     ·rw [c3,hI2.1.wk.om,om]
     ·rw [hfr2 q (fun h=>by
       rcases h with h | h
       ·unfold FE at h
        rcases h with h | h
        ·exact hq2 h
        ·omega
       ·omega)]
      simp (disch:=omega) only [Ac])
  exact A6 (res:=.tup []) (Dt bd os2) rfl (fun n=>by
   by_cases e:n=bd+40
   ·left; rw [e]; exact Sh (by omega)
   ·show Dt bd os2 n=none∨Dt bd os2 n=upd os2 (bd+40) X n
    rw [Ac e]; exact L0 bd os2 n) hd.1 (A9 _ rfl) ⟨rfl,hd.2.1,hd.2.2⟩
 rcases e2 with e2 | e2
 ·refine ⟨_,hI2.2,by rw [e2]; simp [],?_⟩
  rw [e2]
  exact hfin _
 ·refine ⟨_,hI2.2,by rw [e2]; simp [],?_⟩
  rw [e2]
  exact hfin _
theorem Boh {x:List Liq} {i:Nat} (h:i < x.length):(if 2≤(List.drop (i * 2) (cW x)).length then some (AV.agg (List.take 2 (List.drop (i * 2) (cW x)))) else none)=some (.agg [i64 (x.getD i default).g,i64 (x.getD i default).e]):=by
 rw [B9 h]; simp
theorem Bgn {b:Ed} {P:List Liq→Prop}:∀ (l:List (List Int)) (last:List Liq) (first:Bool),(∀ x ∈ l,Be4 b x=true→P (Bed b x))→∀ v ∈ Bft b last first l,P v
 | [],_,_,_,v,hv=>by cases hv
 | x :: l,last,first,h,v,hv=>by
  unfold Bft at hv
  split at hv
  ·exact Bgn l _ _ (fun y hy=>h y (by simp [hy])) v hv
  ·rename_i hC
   rcases List.mem_cons.1 hv with rfl | hv
   ·refine h x (by simp) ?_
    cases he:Be4 b x with
    | true=>rfl
    | false=>exact absurd (.inl he) hC
   ·exact Bgn l _ _ (fun y hy=>h y (by simp [hy])) v hv
theorem Bf1 {b:Ed} {x:List Int}:∀ (l:List (List Int)) (last:List Liq) (first:Bool),x ∈ l→Be4 b x=true→Bed b x ∈ Bft b last first l∨(first=false∧Bed b x=last)
 | [],_,_,h,_=>by cases h
 | y :: l,last,first,h,he=>by
  unfold Bft
  split
  ·rename_i hC
   rcases List.mem_cons.1 h with rfl | h
   ·rcases hC with hC | hC
    ·rw [he] at hC; cases hC
    ·exact .inr hC
   ·exact Bf1 l last first h he
  ·rcases List.mem_cons.1 h with rfl | h
   ·exact .inl (List.mem_cons_self ..)
   ·rcases Bf1 l (Bed b y) false h he with h1 | h1
    ·exact .inl (List.mem_cons_of_mem _ h1)
    ·left; rw [h1.2]; exact List.mem_cons_self ..
theorem Bor {x:List Liq} {i:Nat} (h:i < x.length):Ai true 2 (List.drop (i * 2) (cW x))=some (.agg [i64 (x.getD i default).g,i64 (x.getD i default).e]):=by
  rw [B9 h]; rfl
theorem Bmh (v:List Liq) (r:Rdg) (hv:OkV v) (h0:0≤r.v) (h1:r.v < 4):Bv Tryz.prog 77 [avW v,avD r] (bl (Bee v r)):=by
  refine Bo (v:=[]) (q:=[]) (N:=23) (rs:=[.tmp 4]) Tryz.func77 rfl rfl rfl (by show ((avW v).isP&&((avD r).isP&&true))=true; rw [Aql]; rfl) rfl ?_
  have hv4:=hv.len
  have hsm:=hv.small
  obtain ⟨i,hi⟩:∃ i:Nat,r.v=i:=⟨r.v.toNat,by omega⟩
  have hti:r.v.toNat=i:=by omega
  refine Ad fun K1 hK1=>?_
  simp (disch:=(first | assumption | omega)) only [hi,amL,sA,sB,sF,↓reduceIte,reduceCtorEq]
  refine hK1 _ ?_
  refine Ab fun K2 hK2=>?_
  refine Ch (by kernel_rfl) (by kernel_rfl) ?_
  simp (disch:=(first | assumption | omega)) only [Int.toNat_natCast,Jn,amL,amT,sA,sB,sE,sF,sH,↓reduceIte,reduceCtorEq]
  repeat' first | (refine Ey (fun h=>?_) (fun h=>?_) <;> simp (disch:=(first | assumption | omega)) only [h,hi,hti,Int.toNat_natCast,Bq,A0,Kl,Jn,Lx,Boh,Bor,Tr,amL,amT,sA,sB,sC,sD,sE,sF,sG,sH,sI,sJ,sK,sL,sM,sN,sO,↓reduceIte,reduceCtorEq]) | (refine C0 (fun h=>?_) (fun h=>?_) <;> simp (disch:=(first | assumption | omega)) only [h,Int.toNat_natCast,Boh,amL,amT,sA,sB,sF,sH,↓reduceIte,reduceCtorEq]) | (refine Ay (by kernel_rfl) rfl (Ag2 _ _) (by first | exact .inl rfl | exact .inr (.inl rfl)) ?_ ; simp (disch:=(first | assumption | omega)) only [amL,sA,sF,↓reduceIte]) | (refine Ay (by kernel_rfl) rfl (Yp _ (hsm i)) (by first | exact .inl rfl | exact .inr (.inl rfl)) ?_ ; simp (disch:=(first | assumption | omega)) only [amL,sA,sF,↓reduceIte])
  all_goals
   skip
   refine hK2 _ ?_
   refine Aj ?_
   try simp (disch:=(first | assumption | omega)) only [amL,↓reduceIte]
   all_goals first | (unfold Bee; rw [hti,show Jk r.g (v.getD i default).g=true by assumption,Bool.true_and]) | (unfold Bee; rw [hti,show Jk r.g (v.getD i default).g=false by assumption,Bool.false_and]) | trace_state
def Bf4 (x y:Int):Int:=if x < y then -1 else if y < x then 1 else 0
def Bgh:List Int→List Int→Int
  | [],[]=>0
  | [],_ :: _=>-1
  | _ :: _,[]=>1
  | x :: a,y :: b=>if Bf4 x y=0 then Bgh a b else Bf4 x y
theorem Bno (x:Int):Bv Tryz.prog 134 [i64 x] (bl false):=by
  refine Bo (v:=[]) (q:=[]) (N:=6) (rs:=[.tmp 2]) Tryz.func134 rfl rfl rfl rfl rfl ?_
  refine Ad fun K1 hK1=>?_
  simp (disch:=omega) only [decide_true,amL,sA]
  refine hK1 _ ?_
  refine Ad fun K2 hK2=>?_
  simp (disch:=omega) only [ne_eq,decide_false,decide_true,amL,amT,sA,sF,↓reduceIte,reduceCtorEq]
  refine hK2 _ ?_
  refine Aj ?_
  try simp (disch:=omega) only [amL,↓reduceIte]
  all_goals first | rfl | (simp; done) | trace_state
theorem Boj (x y:Int):Bv Tryz.prog 114 [i64 x,i64 y] (i64 (Bf4 x y)):=by
  refine Bo (v:=[]) (q:=[]) (N:=20) (rs:=[.tmp 4]) Tryz.func114 rfl rfl rfl rfl rfl ?_
  refine Ad fun K1 hK1=>?_
  simp (disch:=omega) only [amL,sA,sB]
  refine hK1 _ ?_
  refine Ad fun K2 hK2=>?_
  simp (disch:=omega) only [amL,sA,↓reduceIte,reduceCtorEq]
  repeat' first | (refine Ay (by kernel_rfl) rfl (Bno _) (by first | exact .inl rfl | exact .inr (.inl rfl)) ?_ ; simp (disch:=omega) only [amL,sA,↓reduceIte])
  refine hK2 _ ?_
  refine Ad fun K3 hK3=>?_
  simp (disch:=omega) only [amL,sA,sF,↓reduceIte,reduceCtorEq]
  repeat' first | (refine Ay (by kernel_rfl) rfl (Bno _) (by first | exact .inl rfl | exact .inr (.inl rfl)) ?_ ; simp (disch:=omega) only [amL,sA,↓reduceIte])
  refine hK3 _ ?_
  refine Ab fun K4 hK4=>?_
  refine Ad fun K5 hK5=>?_
  simp (disch:=omega) only [amL,sA,sF,↓reduceIte]
  refine hK5 _ ?_
  refine Al rfl (fun h=>MT.x ?_) (fun h=>ME.x ?_)
  all_goals
   first
   |refine MT.mk ?_
    first
    |exact Bool.noConfusion h
   |refine ME.mk ?_
    first
    |exact Bool.noConfusion h
    |skip
     try simp only [] at h
     refine Am ?_
     refine hK4 _ ?_
  all_goals
   skip
   refine Ab fun K6 hK6=>?_
   refine Ad fun K7 hK7=>?_
   simp (disch:=omega) only [amL,sA,sF,↓reduceIte]
   refine hK7 _ ?_
   refine Al rfl (fun h=>MT.x ?_) (fun h=>ME.x ?_)
   all_goals
    first
    |refine MT.mk ?_
     first
     |exact Bool.noConfusion h
    |refine ME.mk ?_
     first
     |exact Bool.noConfusion h
     |skip
      try simp only [] at h
      refine Am ?_
      refine hK6 _ ?_
   all_goals
    skip
    refine Ab fun K8 hK8=>?_
    refine Ad fun K9 hK9=>?_
    simp (disch:=omega) only [amL,amT,sA,sF,↓reduceIte,reduceCtorEq]
    refine hK9 _ ?_
    refine Al rfl (fun h=>MT.x ?_) (fun h=>ME.x ?_)
    all_goals
     first
     |refine MT.mk ?_
      first
      |exact Bool.noConfusion h
      |skip
       try simp only [nrm] at h
       refine Ad fun K10 hK10=>?_
       simp (disch:=omega) only [amL,sA,sM]
       refine hK10 _ ?_
       refine Aj ?_
       try simp (disch:=omega) only [amL,sM,↓reduceIte]
       all_goals first | (unfold Bf4; rw [if_pos (by omega)]; done) | (unfold Bf4; rw [if_neg (by omega),if_pos (by omega)]; done) | (unfold Bf4; rw [if_neg (by omega),if_neg (by omega)]; done) | trace_state
     |refine ME.mk ?_
      first
      |exact Bool.noConfusion h
      |skip
       try simp only [nrm] at h
       refine Am ?_
       refine hK8 _ ?_
    all_goals
     skip
     refine Ab fun K11 hK11=>?_
     refine Ad fun K12 hK12=>?_
     simp (disch:=omega) only [amL,amT,sA,sF,↓reduceIte,reduceCtorEq]
     refine hK12 _ ?_
     refine Al rfl (fun h=>MT.x ?_) (fun h=>ME.x ?_)
     all_goals
      first
      |refine MT.mk ?_
       first
       |exact Bool.noConfusion h
       |skip
        try simp only [nrm] at h
        refine Ad fun K13 hK13=>?_
        simp (disch:=omega) only [amL,sA]
        refine hK13 _ ?_
        refine Aj ?_
        try simp (disch:=omega) only [amL,↓reduceIte]
        all_goals first | (unfold Bf4; rw [if_pos (by omega)]; done) | (unfold Bf4; rw [if_neg (by omega),if_pos (by omega)]; done) | (unfold Bf4; rw [if_neg (by omega),if_neg (by omega)]; done) | trace_state
      |refine ME.mk ?_
       first
       |exact Bool.noConfusion h
       |skip
        try simp only [nrm] at h
        refine Am ?_
        refine hK11 _ ?_
     all_goals
      skip
      refine Ad fun K14 hK14=>?_
      simp (disch:=omega) only [amL,sA]
      refine hK14 _ ?_
      refine Aj ?_
      try simp (disch:=omega) only [amL,↓reduceIte]
      all_goals first | (unfold Bf4; rw [if_pos (by omega)]; done) | (unfold Bf4; rw [if_neg (by omega),if_pos (by omega)]; done) | (unfold Bf4; rw [if_neg (by omega),if_neg (by omega)]; done) | trace_state
theorem Bij {l:List Int} {k:Nat} (h:k < l.length):l.drop k=l.getD k 0 :: l.drop (k+1):=Bhd 0 h
theorem Bfw {a b:List Int} {k:Nat} (h1:k < a.length) (h2:k < b.length):Bgh (a.drop k) (b.drop k)=if Bf4 (a.getD k 0) (b.getD k 0)=0 then Bgh (a.drop (k+1)) (b.drop (k+1)) else Bf4 (a.getD k 0) (b.getD k 0):=by
  rw [Bij h1,Bij h2]; rfl
theorem Bgf {a b:List Int} {k:Nat} (h1:k < a.length) (h2:b.length≤k):Bgh (a.drop k) (b.drop k)=1:=by
  rw [Bij h1,List.drop_of_length_le h2]; rfl
theorem Bf0 {a b:List Int} {k:Nat} (h1:a.length≤k) (h2:k < b.length):Bgh (a.drop k) (b.drop k)=-1:=by
  rw [Bij h2,List.drop_of_length_le h1]; rfl
theorem Bgd {a b:List Int} {k:Nat} (h1:a.length≤k) (h2:b.length≤k):Bgh (a.drop k) (b.drop k)=0:=by
  rw [List.drop_of_length_le h1,List.drop_of_length_le h2]; rfl
theorem Bk5 (a b:List Int) (ha:a.length < 1000000) (_:b.length < 1000000):Bv Tryz.prog 78 [isl a,isl b] (i64 (Bgh a b)):=by
  refine Bo (v:=[]) (q:=[]) (N:=36) (rs:=[.tmp 4]) Tryz.func78 rfl rfl rfl rfl rfl ?_
  refine Ad fun K1 hK1=>?_
  simp (disch:=omega) only [amL,sA,sB]
  refine hK1 _ ?_
  refine Ab fun K2 hK2=>?_
  refine Ad fun K3 hK3=>?_
  simp (disch:=omega) only [amL,amT,sA,↓reduceIte,reduceCtorEq]
  refine hK3 _ ?_
  refine Aq ?_
  skip
  refine Bg (α:=Nat) (fun k=>⟨T [(0,isl a),(1,isl b),(9,isl a),(10,i64 a.length),(11,i64 (k:Int))],O []⟩) (fun k=>a.length - k) (fun k=>k≤a.length∧k≤b.length∧Bgh (a.drop k) (b.drop k)=Bgh a b) 0 ?_ ?_ (fun k hx4 K4 hK4=>?_)
  · exact ⟨Nat.zero_le _,Nat.zero_le _,rfl⟩
  · refine Df ?_ ?_ ?_ ?_ <;> (try simp (disch:=omega) only [amL,sF,↓reduceIte,reduceCtorEq]); all_goals first | rfl | trace_state
  obtain ⟨hk1,hk2,hk3⟩:=hx4
  refine Ad fun K5 hK5=>?_
  simp (disch:=omega) only [amL,amT,sA,sF,↓reduceIte,reduceCtorEq]
  refine hK5 _ ?_
  refine Ab fun K6 hK6=>?_
  refine Al rfl (fun h=>MT.x ?_) (fun h=>ME.x ?_)
  all_goals
   first
   |refine MT.mk ?_
    first
    |exact Bool.noConfusion h
    |skip
     try simp only [nrm] at h
     refine Am ?_
     refine hK6 _ ?_
   |refine ME.mk ?_
    first
    |exact Bool.noConfusion h
    |skip
     try simp only [nrm] at h
     refine Br ?_
     refine hK2 _ ?_
     refine Ab fun K7 hK7=>?_
     refine Ad fun K8 hK8=>?_
     simp (disch:=omega) only [amL,amT,sA,sF,↓reduceIte,reduceCtorEq]
     refine hK8 _ ?_
     refine Al rfl (fun h=>MT.x ?_) (fun h=>ME.x ?_)
     all_goals
      first
      |refine MT.mk ?_
       first
       |exact Bool.noConfusion h
       |skip
        try simp only [nrm] at h
        refine Ad fun K9 hK9=>?_
        simp (disch:=omega) only [amL,sA,sM]
        refine hK9 _ ?_
        refine Aj ?_
        try simp (disch:=omega) only [amL,sM,↓reduceIte]
        all_goals first | (rw [← hk3,Bgf (by omega) (by omega)]; done) | (rw [← hk3,Bf0 (by omega) (by omega)]; done) | (rw [← hk3,Bgd (by omega) (by omega)]; done) | (rw [← hk3,Bfw (k:=k) (by omega) (by omega),if_neg (by omega)]; done) | trace_state
      |refine ME.mk ?_
       first
       |exact Bool.noConfusion h
       |skip
        try simp only [nrm] at h
        refine Am ?_
        refine hK7 _ ?_
     all_goals
      skip
      refine Ad fun K10 hK10=>?_
      simp (disch:=omega) only [amL,sA]
      refine hK10 _ ?_
      refine Aj ?_
      try simp (disch:=omega) only [amL,↓reduceIte]
      all_goals first | (rw [← hk3,Bgf (by omega) (by omega)]; done) | (rw [← hk3,Bf0 (by omega) (by omega)]; done) | (rw [← hk3,Bgd (by omega) (by omega)]; done) | (rw [← hk3,Bfw (k:=k) (by omega) (by omega),if_neg (by omega)]; done) | trace_state
  all_goals
   skip
   refine Ab fun K11 hK11=>?_
   refine Aq ?_
   refine Ad fun K12 hK12=>?_
   simp (disch:=omega) only [Bm,amL,amT,sA,sF,↓reduceIte,reduceCtorEq]
   refine hK12 _ ?_
   refine Ab fun K13 hK13=>?_
   refine Ad fun K14 hK14=>?_
   simp (disch:=omega) only [amL,amT,sA,sF,↓reduceIte,reduceCtorEq]
   refine hK14 _ ?_
   refine Al rfl (fun h=>MT.x ?_) (fun h=>ME.x ?_)
   all_goals
    first
    |refine MT.mk ?_
     first
     |exact Bool.noConfusion h
     |skip
      try simp only [nrm] at h
      refine Ad fun K15 hK15=>?_
      simp (disch:=omega) only [amL,sA]
      refine hK15 _ ?_
      refine Aj ?_
      try simp (disch:=omega) only [amL,↓reduceIte]
      all_goals first | (rw [← hk3,Bgf (by omega) (by omega)]; done) | (rw [← hk3,Bf0 (by omega) (by omega)]; done) | (rw [← hk3,Bgd (by omega) (by omega)]; done) | (rw [← hk3,Bfw (k:=k) (by omega) (by omega),if_neg (by omega)]; done) | trace_state
    |refine ME.mk ?_
     first
     |exact Bool.noConfusion h
     |skip
      try simp only [nrm] at h
      refine Am ?_
      refine hK13 _ ?_
   all_goals
    skip
    refine Ad fun K16 hK16=>?_
    simp (disch:=omega) only [Bm,amL,amT,sA,sF,↓reduceIte,reduceCtorEq]
    refine hK16 _ ?_
    refine Ad fun K17 hK17=>?_
    simp (disch:=omega) only [amL,sA,sF,↓reduceIte]
    repeat' first | (refine Ay (by kernel_rfl) rfl (Boj _ _) (by first | exact .inl rfl | exact .inr (.inl rfl)) ?_ ; simp (disch:=omega) only [amL,sA,↓reduceIte])
    refine hK17 _ ?_
    refine Ad fun K18 hK18=>?_
    simp (disch:=omega) only [ne_eq,amL,amT,sA,↓reduceIte]
    refine hK18 _ ?_
    refine Al rfl (fun h=>MT.x ?_) (fun h=>ME.x ?_)
    all_goals
     first
     |refine MT.mk ?_
      first
      |exact Bool.noConfusion h
      |skip
       try simp only [nrm] at h
       refine Ad fun K19 hK19=>?_
       simp (disch:=omega) only [amL,sA,sF,↓reduceIte]
       refine hK19 _ ?_
       refine Aj ?_
       try simp (disch:=omega) only [amL,↓reduceIte]
       all_goals first | (rw [← hk3,Bgf (by omega) (by omega)]; done) | (rw [← hk3,Bf0 (by omega) (by omega)]; done) | (rw [← hk3,Bgd (by omega) (by omega)]; done) | (rw [← hk3,Bfw (k:=k) (by omega) (by omega),if_neg (by omega)]; done) | trace_state
     |refine ME.mk ?_
      first
      |exact Bool.noConfusion h
      |skip
       try simp only [nrm] at h
       refine Am ?_
       refine hK11 _ ?_
    all_goals
     skip
     refine Ah ?_
     simp (disch:=omega) only [amL,amT,sA,sF,↓reduceIte,reduceCtorEq]
     refine hK4 (k+1) _ ?_ ?_ (Df ?_ ?_ ?_ ?_)
     all_goals (try simp (disch:=omega) only [amL,sF,↓reduceIte,reduceCtorEq])
     all_goals first | omega | exact ⟨by omega,by omega,by rw [← hk3,Bfw (k:=k) (by omega) (by omega),if_pos (by omega)]⟩ | trace_state
theorem sfD:M7 Tryz.prog 66 103 144 3 4 133 112:=⟨⟨_,Tryz.func133,rfl,rfl,rfl,by kernel_rfl⟩,⟨_,Tryz.func112,rfl,rfl,rfl,by kernel_rfl⟩⟩
theorem afD:Aig Tryz.prog 66 103 144 4 112 113 76:=⟨⟨_,Tryz.func113,rfl,rfl,rfl,by kernel_rfl⟩,⟨_,Tryz.func76,rfl,rfl,rfl,by kernel_rfl⟩⟩
theorem Boa {b:Ed} {r:Rdg} {n2:Nat} {os:Nat→Option AO} {bd:Nat} (hb:b.vs.length < 1000000) (o2:os n2=some (.cells (cB b))) :
    Bh Tryz.prog bd (.fn (.func 74) [] [.ptr n2 0]) [avD r] os fun res os'=>res=bl (Bec b.vs.length r)∧os'=os:=by
  refine B2 (v:=[]) (q:=[]) (N:=29) (rs:=[.tmp 3]) Tryz.func74 rfl (by kernel_rfl) rfl rfl (fun hcl hfree=>?_)
  have hfr0:∀ k,os (bd+k)=none:=fun k=>hfree _ (by omega)
  have b2:=Ap hfree o2
  have hw:IntKind.i64.wrap ((b.vs.length:Int) - 1)=b.vs.length - 1:=Fc (by omega) (by omega)
  refine Ad fun K1 hK1=>?_
  simp (disch:=omega) only [hfr0,amL,sA,sB,↓reduceIte]
  refine hK1 _ ?_
  refine Ad fun K2 hK2=>?_
  simp (disch:=omega) only [o2,Ac,hw,amL,amT,sA,sF,↓reduceIte,reduceCtorEq]
  repeat' first | (refine Ey (fun h=>?_) (fun h=>?_) <;> simp (disch:=omega) only [h,amL,amT,sA,sB,sF,↓reduceIte,reduceCtorEq]) | (refine C0 (fun h=>?_) (fun h=>?_) <;> simp (disch:=omega) only [h,amL,amT,sA,sB,sF,↓reduceIte,reduceCtorEq]) | (refine Ay (by kernel_rfl) rfl (Kr _ _ _) (by first | exact .inl rfl | exact .inr (.inl rfl)) ?_ ; simp (disch:=omega) only [amL,sA,↓reduceIte])
  all_goals
   skip
   refine hK2 _ ?_
   refine Aj ?_
   try simp (disch:=omega) only [amL]
   first
     | (refine A6 (res:=bl (decide (r.d.lo≤r.d.hi))) os (by simp (disch:=omega) only [amL,↓reduceIte]; try rfl) (by first | ((repeat' first | exact Sub.refl _ | refine Sub.skip (by first | exact hfr0 _ | (simp (disch:=omega) only [Ac]; exact hfr0 _)) ?_ | refine Sub.both ?_); done) | fail) hcl (A9 _ rfl) ⟨?_,rfl⟩
        unfold Bec
        rw [show inB r.v 0 ((b.vs.length:Int) - 1)=true by assumption,show decide (r.g.lo≤r.g.hi)=true by (first | assumption | exact decide_eq_true (by assumption)),Bool.true_and,Bool.true_and])
     | (refine A6 (res:=bl false) os (by simp (disch:=omega) only [amL,↓reduceIte]; try rfl) (by first | ((repeat' first | exact Sub.refl _ | refine Sub.skip (by first | exact hfr0 _ | (simp (disch:=omega) only [Ac]; exact hfr0 _)) ?_ | refine Sub.both ?_); done) | fail) hcl (A9 _ rfl) ⟨?_,rfl⟩
        unfold Bec
        first
          | (rw [show inB r.v 0 ((b.vs.length:Int) - 1)=false by assumption,Bool.false_and]; done)
          | (rw [show decide (r.g.lo≤r.g.hi)=false by (first | assumption | exact decide_eq_false (by assumption)),Bool.false_and,Bool.and_false]; done))
     | trace_state
theorem Bns {b:Ed} {l:List Rdg} {n2:Nat} {os:Nat→Option AO} {bd:Nat} (hb:b.vs.length < 1000000) (hl:l.length < 1000000) (o2:os n2=some (.cells (cB b))) :
    Bh Tryz.prog bd (.fn (.func 76) [] []) [.p (.sl (l.map Axq)),.fn (.func 74) [] [.ptr n2 0]] os fun res os'=>res=bl (l.all (Bec b.vs.length))∧os'=os:=by
  have hT:G9 Tryz.prog (.fn (.func 74) [] [.ptr n2 0]) (fun q=>q=n2) avD l (fun (_:Unit) os=>os n2=some (.cells (cB b))) (fun _ r=>((),Bec b.vs.length r)):={
    live:=fun s os hI=>by rw [Ft]; simp only [Cr,Cm,C7,hI,Option.isSome_some,and_self]
    stable:=fun s os os' hI he=>(he n2 rfl).trans hI
    foot:=fun s os n hI hn=>by
      subst hn
      exact ⟨_,hI,fun m hm=>by simp [AO.clean,AV.clean,AV.clean.cleanL] at hm⟩
    call:=fun s x os bd hx hI hcl=>Bh.mono (Boa hb hI) (by
      rintro r os' ⟨rfl,rfl⟩
      exact ⟨rfl,hI,fun _ _=>rfl⟩) }
  refine Bh.mono (Azi elD sfD afD (by simp only [amT]; rfl) hl hT (fun m hm=>by simp [AV.clean,AV.clean.cleanL] at hm; omega) (s:=()) (bd:=bd) o2) ?_
  rintro r os' ⟨rfl,hI,hfr⟩
  refine ⟨by rw [Rm],funext fun n=>?_⟩
  by_cases e:n=n2
  · subst e; rw [hI,o2]
  · exact hfr n e
def Bgc:Code→Option (Code × Code)
  | .seq a b=>match Bgc a with | some x=>some x | none=>Bgc b
  | .block _ c=>Bgc c
  | .loop c=>Bgc c
  | .scope c=>Bgc c
  | .rangeFunc _ _ a b=>some (a,b)
  | _=>none
theorem Bgy {nl:Nat} {k:F4} {tm:List (Nat × AV)} {R:AV→(Nat→Option AO)→Prop} {i:Nat} {s:St}:Vz nl k tm R (.exit i) s=Pf nl k tm R (some (.exit i)) s:=rfl
theorem Bjs:∀ {a b:List Int},(Bgh a b < 0)=(Bd6 a b=true)
  | [],[]=>by simp [Bgh,Bd6]
  | [],_ :: _=>by simp [Bgh,Bd6]
  | _ :: _,[]=>by simp [Bgh,Bd6]
  | x :: a,y :: b=>by
    have ih:=Bjs (a:=a) (b:=b)
    simp only [Bgh,Bd6]
    by_cases e:x=y
    · subst e
      rw [if_pos (by unfold Bf4; simp),if_pos rfl]; exact ih
    · rw [if_neg e]
      unfold Bf4
      by_cases h:x < y
      · simp [h]
      · have:y < x:=by omega
        simp [h,this]
def Bfp (l:List Rdg) (s:List Int × Bool) (v:List Liq):(List Int × Bool) × Option Code:=(Bff l s v,if (Bff l s v).1.length=0 then some (.exit 1) else none)
abbrev tmL (n3 n8 n9:Nat):List (Nat × AV):=[(3,.ptr n3 0),(8,.ptr n8 0),(9,.ptr n9 0)]
def Bj3 (s:List Int × Bool):AV:=if s.2=true then isl s.1 else C4
structure LvI (l:List Rdg) (n3 n8 n9:Nat) (s:List Int × Bool) (os:Nat→Option AO):Prop where
  r:os n3=some (.cells [.p (.sl (l.map Axq))])
  b:os n8=some (.cells [Bj3 s])
  f:os n9=some (.cells [bl s.2])
  len:s.1.length≤l.length
  no:s.2=false→s.1=[]
theorem Bkp {v:List Liq} {l:List Rdg} {k:Nat} (h:Bee v (l.getD k default)=false):Be9 v l (k+1)=Be9 v l k++[(k:Int)]:=by
  show (if _ then _ else _)=_
  rw [if_neg (by rw [h]; decide)]
theorem Bi9 {v:List Liq} {l:List Rdg} {k:Nat} (h:Bee v (l.getD k default)=true):Be9 v l (k+1)=Be9 v l k:=if_pos h
theorem Bm0 {n:Nat} {r:Rdg} (h:Bec n r=true):0≤r.v∧r.v < n:=by
  simp only [Bec,inB,Bool.and_eq_true,decide_eq_true_eq] at h; omega
theorem Bkf {os:Nat→Option AO}:∀ l:List Int,G8 os (l.map i64)=some (l.map i64)
  | []=>rfl
  | x :: l=>by show (match Fb os (i64 x),G8 os (l.map i64) with | some y,some ys=>some (y :: ys) | _,_=>none)=_; rw [Bkf l]; rfl
theorem Bje {os:Nat→Option AO} (v:List Liq):G8 os (cW v)=some (cW v):=Bkf _
theorem Bka {o1 X:Nat→Option AO} {bdL b7 b8 bd:Nat} {LP:Option AO} {es:List (List PV)} {c:List AV} (h1:b7≠b8) (h2:b7≠bdL) (h3:b8≠bdL) (x7:X b7=some (.cells c)) (x8:X b8=some (.arr 1 es)) (xL:X bdL=LP) (hf:∀ q,bd≤q→o1 q=none) (hX:∀ q,q≠b7→q≠b8→q≠bdL→q < bd→X q=o1 q):Sub (upd (upd (upd o1 bdL LP) b7 (some (.cells c))) b8 (some (.arr 1 es))) X:=fun q=>by
  by_cases e8:q=b8
  · subst e8; right; rw [Bc,x8]
  · by_cases e7:q=b7
    · subst e7; right; rw [Ac e8,Bc,x7]
    · by_cases eL:q=bdL
      · subst eL; right; rw [Ac e8,Ac e7,Bc,xL]
      · rw [Ac e8,Ac e7,Ac eL]
        by_cases e13:bd≤q
        · exact .inl (hf q e13)
        · exact .inr (hX q e7 e8 eL (by omega)).symm
theorem Bmi {n m:Nat} {os:Nat→Option AO} {x:Option AO} (h:m≠n) (hx:x.map (AO.purge n)=x):pgO n (upd os m x)=upd (pgO n os) m x:=by
  cases x with
  | none=>
    funext q
    unfold pgO upd
    by_cases e:q=m
    · subst e; simp [h]
    · simp [e]
  | some o=>
    have hx:o.purge n=o:=by simpa using hx
    rw [Nq h,hx]
theorem Bi7 (s:List Int × Bool):(Bj3 s).isP=true:=by unfold Bj3; split <;> rfl
theorem Bj9 {l:List Rdg} {s:List Int × Bool} {v:List Liq} (h:Bgv s (Bfr v l)=true):Bff l s v=(Bfr v l,true):=if_pos h
theorem Bl1 {l:List Rdg} {s:List Int × Bool} {v:List Liq} (h:Bgv s (Bfr v l)=false):Bff l s v=s:=if_neg (by rw [h]; decide)
theorem Bmb {s:List Int} {o:List Int}:Bgv (s,false) o=true:=rfl
theorem Bmz {s:List Int} {o:List Int} (h:(o.length:Int) < s.length):Bgv (s,true) o=true:=by
  simp only [Bgv,Bd5,Bool.not_true,Bool.false_or,decide_eq_true (show o.length < s.length by omega),Bool.true_or]
theorem Blh {s:List Int} {o:List Int} (h:(o.length:Int)=s.length) (h2:Bd6 o s=true):Bgv (s,true) o=true:=by
  simp only [Bgv,Bd5,Bool.not_true,decide_eq_true (show o.length=s.length by omega),h2,Bool.true_and,Bool.or_true]
theorem Bl3 {s:List Int} {o:List Int} (h:¬ (o.length:Int) < s.length) (h2:¬ (o.length:Int)=s.length):Bgv (s,true) o=false:=by
  simp only [Bgv,Bd5,Bool.not_true,Bool.false_or,decide_eq_false (show ¬ o.length < s.length by omega),decide_eq_false (show ¬ o.length=s.length by omega),Bool.false_and]
theorem Bll {s:List Int} {o:List Int} (h:¬ (o.length:Int) < s.length) (h2:¬ Bd6 o s=true):Bgv (s,true) o=false:=by
  have h3:Bd6 o s=false:=by simpa using h2
  simp only [Bgv,Bd5,Bool.not_true,Bool.false_or,decide_eq_false (show ¬ o.length < s.length by omega),h3,Bool.and_false]
theorem Bmu {l:List Rdg} {s:List Int × Bool} {v:List Liq} (h:s.1.length≤l.length):(Bff l s v).1.length≤l.length:=by
  unfold Bff; split
  · exact Bit
  · exact h
theorem Bm8 {l:List Rdg} {s:List Int × Bool} {v:List Liq} (h:s.2=false→s.1=[]):(Bff l s v).2=false→(Bff l s v).1=[]:=by
  unfold Bff; split
  · intro h; cases h
  · exact h
theorem Bkg {l:List Rdg} {n3 n8 n9 bdL bd1:Nat} {s:List Int × Bool} {x:List Liq} {o1 X:Nat→Option AO} {K:F4} {tt:Nat→AV} {jump:Option Code} (t:List Int × Bool) (ht:Bff l s x=t) (hj:jump=if t.1.length=0 then some (.exit 1) else none)
    (hI:LvI l n3 n8 n9 s o1) (hcl:(Hp o1).closed) (d1:n3 < n8) (d2:n8 < n9) (d3:n9 < bdL) (d4:bdL < bd1) (hfree:∀ n,bd1≤n→o1 n=none)
    (x8:X n8=some (.cells [Bj3 t])) (x9:X n9=some (.cells [bl t.2])) (xL:X bdL=some (.loop { K with state:=.busy } (tmL n3 n8 n9))) (hX:∀ q,q≠n8→q≠n9→q≠bdL→q < bd1→X q=o1 q) :
    Pf bdL K (tmL n3 n8 n9) (fun res os'=>res=bl (Bfp l s x).2.isNone∧(LvI l n3 n8 n9 (Bfp l s x).1 os'∧os' bdL=some (.loop (Am8 K (Bfp l s x).2) (tmL n3 n8 n9)))∧∀ n,¬ ((n=n3∨n=n8∨n=n9)∨n=bdL)→os' n=o1 n) jump ⟨tt,X⟩:=by
  have hb:Bfp l s x=(t,jump):=by unfold Bfp; rw [ht,hj]
  rw [hb]
  have hlen:=Bmu (v:=x) hI.len
  have hno:=Bm8 (l:=l) (v:=x) hI.no
  rw [ht] at hlen hno
  refine Q4 (upd (upd (upd o1 n8 (some (.cells [Bj3 t]))) n9 (some (.cells [bl t.2]))) bdL (some (.loop (Am8 K jump) (tmL n3 n8 n9)))) xL (fun z=>?_) ?_ ⟨rfl,⟨⟨?_,?_,?_,hlen,hno⟩,Bc⟩,fun q hq=>?_⟩
  · show _∨_=upd X bdL _ z
    by_cases e1:z=bdL
    · subst e1; right; rw [Bc,Bc]
    · rw [Ac e1,Ac e1]
      by_cases e2:z=n9
      · subst e2; right; rw [Bc,x9]
      · rw [Ac e2]
        by_cases e3:z=n8
        · subst e3; right; rw [Bc,x8]
        · rw [Ac e3]
          by_cases e4:bd1≤z
          · exact .inl (hfree z e4)
          · exact .inr (hX z e3 e2 e1 (by omega)).symm
  · refine Ct (F3 (F3 hcl (by simp [Bi7])) (by simp [AV.isP])) fun q hq=>?_
    have e:q=n3∨q=n8∨q=n9:=by
      simp [AO.clean,AV.clean,AV.clean.cleanL] at hq; omega
    rcases e with rfl | rfl | rfl
    · rw [Ac (by omega),Ac (by omega),Ac (by omega),hI.r]; rfl
    · rw [Ac (by omega),Ac (by omega),Bc]; rfl
    · rw [Ac (by omega),Bc]; rfl
  · rw [Ac (by omega),Ac (by omega),Ac (by omega)]; exact hI.r
  · rw [Ac (by omega),Ac (by omega),Bc]
  · rw [Ac (by omega),Bc]
  · rw [Ac (fun e=>hq (.inr e)),Ac (fun e=>hq (.inl (.inr (.inr e)))),Ac (fun e=>hq (.inl (.inr (.inl e))))]
theorem Bmq {L:List (List Liq)} {l:List Rdg} {n n3 n8 n9 bdL:Nat} (hn:n≤4) (hll:l.length≤4) (hr:∀ r ∈ l,Bec n r=true) (hL:∀ v ∈ L,OkV v) (d1:n3 < n8) (d2:n8 < n9) (d3:n9 < bdL) {A B:Code} (hcode:(Tryz.f28.body.bind Bgc)=some (A,B)) :
    Aai Tryz.prog bdL ⟨78,[32],A,B,.ready,none⟩ (tmL n3 n8 n9) [] [] (fun q=>q=n3∨q=n8∨q=n9) avW L (LvI l n3 n8 n9) (Bfp l) where
  ready:=rfl
  lenp:=rfl
  psn q hq:=by
    simp only [List.mem_cons,List.not_mem_nil,or_false] at hq
    subst hq; exact (by decide:32 < 78)
  notF h:=by omega
  tmF q hq:=by
    simp [AO.clean,AV.clean,AV.clean.cleanL] at hq
    omega
  stable s o1 o2 hI he:=⟨(he n3 (by omega)).trans hI.r,(he n8 (by omega)).trans hI.b,(he n9 (by omega)).trans hI.f,hI.len,hI.no⟩
  foot s o1 q hI hq:=by
    rcases hq with rfl | rfl | rfl
    · exact ⟨_,hI.r,fun m hm=>by simp [AO.clean,AV.clean,AV.clean.cleanL] at hm⟩
    · exact ⟨_,hI.b,fun m hm=>by
        have e:(Bj3 s).clean m=true:=Ng (Bi7 s) m
        simp [AO.clean,AV.clean.cleanL,e] at hm⟩
    · exact ⟨_,hI.f,fun m hm=>by simp [AO.clean,AV.clean,AV.clean.cleanL] at hm⟩
  body s x o1 bd1 hx hI hl hcl1 hfree1 hb1 rl:=by
    have hI0:=hI
    obtain ⟨s1,f⟩:=s
    obtain ⟨a3,a8,a9,hlen,hno⟩:=hI
    dsimp only at a8 a9 hlen hno
    have hok:=hL x hx
    have hx4:=hok.len
    have hfr0:∀ k,o1 (bd1+k)=none:=fun k=>hfree1 _ (by omega)
    have b3:=Ap hfree1 a3
    have b8:=Ap hfree1 a8
    have b9:=Ap hfree1 a9
    obtain ⟨LP,hLP⟩:∃ LP:Option AO,LP=some (.loop ⟨78,[32],A,B,.busy,none⟩ (tmL n3 n8 n9)):=⟨_,rfl⟩
    have hclL:∀ {os:Nat→Option AO} {kk:F4},(Hp os).closed→(os n3).isSome=true→(os n8).isSome=true→(os n9).isSome=true→(Hp (upd os bdL (some (.loop kk (tmL n3 n8 n9))))).closed:=fun {os kk} hc h1 h2 h3=>Ct hc (fun q hq=>by
      have e:q=n3∨q=n8∨q=n9:=by
        simp [AO.clean,AV.clean,AV.clean.cleanL] at hq; omega
      unfold upd
      split
      · rfl
      · rcases e with e | e | e <;> rw [e] <;> assumption)
    have hcl2:(Hp (upd o1 bdL LP)).closed:=by rw [hLP]; exact hclL hcl1 (by rw [a3]; rfl) (by rw [a8]; rfl) (by rw [a9]; rfl)
    have hpg:∀ k,pgO (bd1+k) o1=o1:=fun k=>Ac9 hcl1 (hfr0 k)
    have hpgL:∀ k (os:Nat→Option AO),pgO (bd1+k) (upd os bdL LP)=upd (pgO (bd1+k) os) bdL LP:=fun k os=>Bmi (by omega) (by
      rw [hLP]
      show some (AO.loop _ (List.map _ _))=_
      congr 2
      simp (disch:=omega) only [tmL,List.map_cons,List.map_nil,Ys,if_neg])
    cases f
    all_goals
      first
        | (have a8:o1 n8=some (.cells [isl s1]):=a8)
        | (have a8:o1 n8=some (.cells [C4]):=a8)
      cases (show some (_,_)=some (A,B) from hcode)
      show AWP _ _ 78 _ ⟨T [(32,avW x),(3,.ptr n3 0),(8,.ptr n8 0),(9,.ptr n9 0)],o1⟩ _
      refine Ah ?_
      simp (disch:=(first | assumption | omega)) only [hl,hfr0,Ac,Bz,A0,Aj2,amL,amT,sA,sB,sF,↓reduceIte]
      try simp (disch:=(first | assumption | omega)) only [hl,hfr0,Ac,Bz,Bq,A0,Aj2,amL,amT,sA,sB,sC,sD,sE,sF,sG,sH,sI,sJ,sK,sL,sM,sN,sO,↓reduceIte,reduceCtorEq]
      skip
      refine Aq ?_
      refine Ad fun K1 hK1=>?_
      simp (disch:=(first | assumption | omega)) only [amL,sA]
      refine hK1 _ ?_
      refine Ab fun K2 hK2=>?_
      refine Ad fun K3 hK3=>?_
      simp (disch:=(first | assumption | omega)) only [a3,Ac,amL,amT,sA,sF,↓reduceIte]
      refine hK3 _ ?_
      refine Aq ?_
      rw [← hLP]
      refine Vu (bd1+47) 1 11 (by simp only []; omega) rfl (by simp (disch:=omega) only [Ac]; exact hfr0 47) ?_
      refine Bg (α:=Nat) (fun k=>⟨T [(3,.ptr n3 0),(8,.ptr n8 0),(9,.ptr n9 0),(10,.ptr (bd1+10) 0),(11,.own (bd1+47) (Be9 x l k).length),(33,.p (.sl (l.map Axq))),(34,i64 (l.length:Int)),(35,i64 (k:Int))],upd (upd (upd o1 bdL LP) (bd1+10) (some (.cells (cW x)))) (bd1+47) (some (.arr 1 ((Be9 x l k).map fun n=>[iv n])))⟩) (fun k=>l.length - k) (fun k=>k≤l.length) 0 ?_ ?_ (fun k hx4 K4 hK4=>?_)
      · exact Nat.zero_le _
      · refine He ?_ ?_ ?_ ?_ <;> (try simp (disch:=(first | assumption | omega)) only [a3,a8,a9,Ac,amL,sF,↓reduceIte]); all_goals first | rfl | exact Nj (D4 hcl2) | exact Bka (by omega) (by omega) (by omega) (by simp (disch:=omega) only [Ac,Bc]) (by simp (disch:=omega) only [Bc] ; first | done | rfl) (by simp (disch:=omega) only [Ac,Bc]) hfree1 (fun q h1 h2 h3 h4=>by simp (disch:=omega) only [Ac]) | trace_state
      have hk:=hx4; have hlk:=Bhi (v:=x) (l:=l) k
      refine Ad fun K5 hK5=>?_
      simp (disch:=(first | assumption | omega)) only [amL,amT,sA,sF,↓reduceIte]
      refine hK5 _ ?_
      refine Ab fun K6 hK6=>?_
      refine Al rfl (fun h=>MT.x ?_) (fun h=>ME.x ?_)
      all_goals
       first
       |refine MT.mk ?_
        first
        |exact Bool.noConfusion h
        |skip
         try simp only [nrm] at h
         refine Am ?_
         refine hK6 _ ?_
       |refine ME.mk ?_
        first
        |exact Bool.noConfusion h
        |skip
         try simp only [nrm] at h
         refine Br ?_
         refine hK2 _ ?_
         refine Ab fun K7 hK7=>?_
         refine Ab fun K8 hK8=>?_
         obtain rfl:k=l.length:=by omega
         refine Adb (D4 hcl2) (by simp (disch:=omega) only [Ac]; exact hfr0 47) ?_
         simp (disch:=omega) only [Wo,AV.frz,if_neg,if_true,List.length_map,Nat.le_refl]
         rw [List.take_of_length_le (by simp)]
         refine Ah ?_
         simp (disch:=(first | assumption | omega)) only [a8,a9,Ac,amL,amT,sA,sF,↓reduceIte]
         repeat' first | (refine Ey (fun h=>?_) (fun h=>?_) <;> simp (disch:=(first | assumption | omega)) only [h,a8,Ac,List.map_cons,List.map_nil,amL,amT,sA,sF,↓reduceIte]) | (refine C0 (fun h=>?_) (fun h=>?_) <;> simp (disch:=(first | assumption | omega)) only [h,a3,a8,a9,hl,hfr0,Ac,Bz,Bq,A0,Bje,Beb,Hu,Nq,Kg,hpg,hpgL,Kj,Er,Gi,List.map_cons,List.map_nil,L4,Wv,Ae7,Bgy,So,N1,Bjs,amL,amT,sA,sB,sC,sD,sE,sF,sG,sH,sI,sJ,sK,sL,sM,sN,sO,↓reduceIte,reduceCtorEq]) | (refine Ay (by kernel_rfl) rfl (Bk5 _ _ (by omega) (by omega)) (by first | exact .inl rfl | exact .inr (.inl rfl)) ?_ ; simp (disch:=(first | assumption | omega)) only [Bjs,amL,amT,sA,sF,↓reduceIte])
         all_goals
          skip
          refine hK8 _ ?_
          refine Al rfl (fun h=>MT.x ?_) (fun h=>ME.x ?_)
          all_goals
           first
           |refine MT.mk ?_
            first
            |exact Bool.noConfusion h
            |skip
             try simp only [nrm] at h
             refine Ah ?_
             simp (disch:=(first | assumption | omega)) only [a8,a9,Ac,amL,amT,sA,sF,↓reduceIte]
             refine hK7 _ ?_
           |refine ME.mk ?_
            first
            |exact Bool.noConfusion h
            |skip
             try simp only [nrm] at h
             refine Am ?_
             refine hK7 _ ?_
          all_goals
           skip
           refine Ad fun K9 hK9=>?_
           simp (disch:=(first | assumption | omega)) only [a8,Ac,amL,amT,sA,sF,↓reduceIte]
           refine hK9 _ ?_
           refine Al rfl (fun h=>?_) (fun h=>?_)
           ·first
            | exact Bool.noConfusion h
            |skip
             try simp only [nrm] at h
             refine Br ?_
             try simp (disch:=(first | assumption | omega)) only [Bgy,So,sF,↓reduceIte]
             first
               | (refine Bkg (Bfr x l,true) (Bj9 (by first | exact Bmb | exact Bmz (by assumption) | exact Blh (by assumption) (by assumption))) (by first | exact (if_neg (show ¬ (Be9 x l l.length).length=0 by omega)).symm | exact (if_pos (show (Be9 x l l.length).length=0 by omega)).symm) hI0 hcl1 d1 d2 d3 hb1 hfree1 ((Ac (by omega)).trans Bc) Bc (by simp (disch:=omega) only [Ac,Bc]; exact hLP) (fun q h1 h2 h3 h4=>by simp (disch:=omega) only [Ac]) ; done)
               | (refine Bkg (s1,true) (Bl1 (by first | exact Bl3 (by assumption) (by assumption) | exact Bll (by assumption) (by assumption))) (by first | exact (if_neg (show ¬ s1.length=0 by omega)).symm | exact (if_pos (show s1.length=0 by omega)).symm) hI0 hcl1 d1 d2 d3 hb1 hfree1 (by simp (disch:=omega) only [Ac]; exact a8) (by simp (disch:=omega) only [Ac]; exact a9) (by simp (disch:=omega) only [Ac,Bc]; exact hLP) (fun q h1 h2 h3 h4=>by simp (disch:=omega) only [Ac]) ; done)
               | trace_state
           ·first
            | exact Bool.noConfusion h
            |skip
             try simp only [nrm] at h
             refine Am ?_
             try simp (disch:=(first | assumption | omega)) only [Wv,N1]
             first
               | (refine Bkg (Bfr x l,true) (Bj9 (by first | exact Bmb | exact Bmz (by assumption) | exact Blh (by assumption) (by assumption))) (by first | exact (if_neg (show ¬ (Be9 x l l.length).length=0 by omega)).symm | exact (if_pos (show (Be9 x l l.length).length=0 by omega)).symm) hI0 hcl1 d1 d2 d3 hb1 hfree1 ((Ac (by omega)).trans Bc) Bc (by simp (disch:=omega) only [Ac,Bc]; exact hLP) (fun q h1 h2 h3 h4=>by simp (disch:=omega) only [Ac]) ; done)
               | (refine Bkg (s1,true) (Bl1 (by first | exact Bl3 (by assumption) (by assumption) | exact Bll (by assumption) (by assumption))) (by first | exact (if_neg (show ¬ s1.length=0 by omega)).symm | exact (if_pos (show s1.length=0 by omega)).symm) hI0 hcl1 d1 d2 d3 hb1 hfree1 (by simp (disch:=omega) only [Ac]; exact a8) (by simp (disch:=omega) only [Ac]; exact a9) (by simp (disch:=omega) only [Ac,Bc]; exact hLP) (fun q h1 h2 h3 h4=>by simp (disch:=omega) only [Ac]) ; done)
               | trace_state
      all_goals
       skip
       refine Ab fun K10 hK10=>?_
       refine Aq ?_
       refine Ad fun K11 hK11=>?_
       simp (disch:=(first | assumption | omega)) only [hfr0,Ac,Bz,Beb,List.map_cons,List.map_nil,amL,amT,sA,sB,sF,↓reduceIte]
       refine hK11 _ ?_
       refine Ad fun K12 hK12=>?_
       have hrk:=Bm0 (hr _ (Du default (show k < l.length by omega)))
       simp (disch:=(first | assumption | omega)) only [Ac,Bq,A0,Bje,List.map_cons,List.map_nil,amL,amT,sA,sB,sF,↓reduceIte]
       repeat' first | (refine Ay (by kernel_rfl) rfl (Bmh x (l.getD k default) hok (by omega) (by omega)) (by first | exact .inl rfl | exact .inr (.inl rfl)) ?_ ; simp (disch:=(first | assumption | omega)) only [amL,sA,↓reduceIte])
       refine hK12 _ ?_
       refine Al rfl (fun h=>MT.x ?_) (fun h=>ME.x ?_)
       all_goals
        first
        |refine MT.mk ?_
         first
         |exact Bool.noConfusion h
         |skip
          try simp only [nrm] at h
          refine Ah ?_
          simp (disch:=(first | assumption | omega)) only [hfr0,Ac,Hu,Nq,Kg,hpg,hpgL,Kj,Er,Gi,List.map_cons,List.map_nil,L4,N1,amL,amT,sA,sE,sF,↓reduceIte,reduceCtorEq]
          refine hK10 _ ?_
        |refine ME.mk ?_
         first
         |exact Bool.noConfusion h
         |skip
          try simp only [nrm] at h
          refine Am ?_
          refine hK10 _ ?_
       all_goals
        skip
        refine Ah ?_
        simp (disch:=(first | assumption | omega)) only [amL,amT,sA,sF,↓reduceIte]
        refine hK4 (k+1) _ ?_ ?_ (He ?_ ?_ ?_ ?_)
        all_goals (try simp (disch:=(first | assumption | omega)) only [a3,a8,a9,Ac,amL,sF,↓reduceIte])
        all_goals first | omega | (rw [Bkp (by assumption),List.length_append]; rfl) | (rw [Bi9 (by assumption)]; done) | (rw [Bkp (by assumption),List.map_append]; exact Bka (by omega) (by omega) (by omega) (by simp (disch:=omega) only [Ac,Bc]) (by simp (disch:=omega) only [Bc] ; first | done | rfl) (by simp (disch:=omega) only [Ac,Bc]) hfree1 (fun q h1 h2 h3 h4=>by simp (disch:=omega) only [Ac])) | (rw [Bi9 (by assumption)]; exact Bka (by omega) (by omega) (by omega) (by simp (disch:=omega) only [Ac,Bc]) (by simp (disch:=omega) only [Ac,Bc] ; first | done | rfl) (by simp (disch:=omega) only [Ac,Bc]) hfree1 (fun q h1 h2 h3 h4=>by simp (disch:=omega) only [Ac])) | exact Nj (D4 hcl2) | exact Bka (by omega) (by omega) (by omega) (by simp (disch:=omega) only [Ac,Bc]) (by simp (disch:=omega) only [Ac,Bc] ; first | done | rfl) (by simp (disch:=omega) only [Ac,Bc]) hfree1 (fun q h1 h2 h3 h4=>by simp (disch:=omega) only [Ac]) | trace_state
theorem Bj4 {l:List Rdg}:∀ (L:List (List Liq)) (s:List Int × Bool),(Gg (fun (s:(List Int × Bool) × Option Code) x=>(Bfp l s.1 x,(Bfp l s.1 x).2.isNone)) (s,none) L).1.1=Bey l s L ∧
    ((Gg (fun (s:(List Int × Bool) × Option Code) x=>(Bfp l s.1 x,(Bfp l s.1 x).2.isNone)) (s,none) L).1.2=none∨(Gg (fun (s:(List Int × Bool) × Option Code) x=>(Bfp l s.1 x,(Bfp l s.1 x).2.isNone)) (s,none) L).1.2=some (.exit 1))
  | [],s=>⟨rfl,.inl rfl⟩
  | x :: L,s=>by
    by_cases h:(Bff l s x).1.length=0
    · have hb:Bfp l s x=(Bff l s x,some (.exit 1)):=by unfold Bfp; rw [if_pos h]
      simp only [Gg,hb,Option.isNone_some,Bool.false_eq_true,if_false,Bey,if_pos h]
      exact ⟨trivial,.inr trivial⟩
    · have hb:Bfp l s x=(Bff l s x,none):=by unfold Bfp; rw [if_neg h]
      simp only [Gg,hb,Option.isNone_none,if_true,Bey,if_neg h]
      exact Bj4 L _
theorem Bm1 {jump:Option Code} {Q:AEx→St→Prop} {s:St} (h:Lq 1 Q .normal s) :
    (match jump with | none=>Lq 1 Q .normal s | some .ret=>Lq 1 Q .ret s | some (.exit i)=>Lq 1 Q (.exit i) s | _=>False)∨¬ (jump=none∨jump=some (.exit 1)):=by
  by_cases hj:jump=none∨jump=some (.exit 1)
  · left
    rcases hj with rfl | rfl
    · exact h
    · exact h
  · exact .inr hj
def Bd8 (b:Ed) (l:List Rdg):AV:=
  if B5 b=0 then
    if 4 < (l.length:Int) then .tup [C4,i64 3]
    else if l.all (Bec b.vs.length)=false then .tup [C4,i64 2]
    else if (Bey l ([],false) (Bet b)).2=true then .tup [isl (Bey l ([],false) (Bet b)).1,i64 0] else .tup [C4,i64 9]
  else .tup [C4,i64 (B5 b)]
theorem Bj0 (b:Ed) (l:List Rdg):(Bd8 b l).isP=true:=by
  unfold Bd8; split
  · split
    · rfl
    · split
      · rfl
      · split <;> rfl
  · rfl
theorem Bkk (b:Ed) (l:List Rdg) (hl:b.vs.length < 1000000) (hl2:b.ss.length < 1000000) (hll:l.length < 1000000):Bv Tryz.prog 28 [avB b,.p (.sl (l.map Axq))] (Bd8 b l):=by
  refine Ajf (v:=[60,71,76]) (q:=[]) (N:=78) (rs:=[.tmp 4,.tmp 5]) Tryz.func28 rfl rfl rfl rfl (Bj0 b l) ?_
  obtain ⟨A,B,hcode⟩:∃ A B,(Tryz.f28.body.bind Bgc)=some (A,B):=⟨_,_,rfl⟩
  refine Lm fun K1 hK1=>?_
  refine Ah ?_
  simp (disch:=(first | assumption | omega)) only [amL,sA,sB,sF,↓reduceIte,reduceCtorEq]
  refine hK1 _ ?_
  refine Afo ?_
  refine Lm fun K2 hK2=>?_
  refine Ad fun K3 hK3=>?_
  simp (disch:=(first | assumption | omega)) only [amL,amT,sA,sB,sF,sG,↓reduceIte]
  repeat' first | (refine Ay (by kernel_rfl) rfl (Ag0 b hl hl2) (by first | exact .inl rfl | exact .inr (.inl rfl)) ?_ ; simp (disch:=(first | assumption | omega)) only [amL,sA,↓reduceIte])
  refine hK3 _ ?_
  refine Ad fun K4 hK4=>?_
  simp (disch:=(first | assumption | omega)) only [ne_eq,amL,amT,sA,↓reduceIte]
  refine hK4 _ ?_
  refine Al rfl (fun h=>MT.x ?_) (fun h=>ME.x ?_)
  all_goals
   first
   |refine MT.mk ?_
    first
    |exact Bool.noConfusion h
    |skip
     try simp only [nrm] at h
     refine Ad fun K5 hK5=>?_
     simp (disch:=(first | assumption | omega)) only [amL,sA,sF,↓reduceIte]
     refine hK5 _ ?_
     refine Aj ?_
     try simp (disch:=(first | assumption | omega)) only [amL,sF,↓reduceIte]
     first
       | (unfold Bd8; rw [if_neg (by assumption)]; done)
       | (unfold Bd8; rw [if_pos (by omega),if_pos (by assumption)]; done)
       | (unfold Bd8; rw [if_pos (by omega),if_neg (by omega),if_pos (by assumption)]; done)
       | (unfold Bd8; rw [if_pos (by omega),if_neg (by omega),if_neg (by rw [hral]; decide),hb,if_neg (fun e=>Bool.noConfusion ((show f2=false by assumption).symm.trans e))]; done)
       | (unfold Bd8; rw [if_pos (by omega),if_neg (by omega),if_neg (by rw [hral]; decide),hb,if_pos (by assumption)]; done)
       | trace_state
   |refine ME.mk ?_
    first
    |exact Bool.noConfusion h
    |skip
     try simp only [nrm] at h
     refine Am ?_
     refine hK2 _ ?_
  all_goals
   skip
   refine Lm fun K6 hK6=>?_
   refine Ah ?_
   simp (disch:=(first | assumption | omega)) only [amL,sA,sF,↓reduceIte]
   refine hK6 _ ?_
   refine Lm fun K7 hK7=>?_
   refine Aq ?_
   refine Ad fun K8 hK8=>?_
   simp (disch:=(first | assumption | omega)) only [List.length_map,amL,amT,sA,sF,↓reduceIte]
   refine hK8 _ ?_
   refine Al rfl (fun h=>MT.x ?_) (fun h=>ME.x ?_)
   all_goals
    first
    |refine MT.mk ?_
     first
     |exact Bool.noConfusion h
     |skip
      try simp only [nrm] at h
      refine Ad fun K9 hK9=>?_
      simp (disch:=(first | assumption | omega)) only [amL,sA]
      refine hK9 _ ?_
      refine Aj ?_
      try simp (disch:=(first | assumption | omega)) only [amL,sF,↓reduceIte]
      first
        | (unfold Bd8; rw [if_neg (by assumption)]; done)
        | (unfold Bd8; rw [if_pos (by omega),if_pos (by assumption)]; done)
        | (unfold Bd8; rw [if_pos (by omega),if_neg (by omega),if_pos (by assumption)]; done)
        | (unfold Bd8; rw [if_pos (by omega),if_neg (by omega),if_neg (by rw [hral]; decide),hb,if_neg (fun e=>Bool.noConfusion ((show f2=false by assumption).symm.trans e))]; done)
        | (unfold Bd8; rw [if_pos (by omega),if_neg (by omega),if_neg (by rw [hral]; decide),hb,if_pos (by assumption)]; done)
        | trace_state
    |refine ME.mk ?_
     first
     |exact Bool.noConfusion h
     |skip
      try simp only [nrm] at h
      refine Ad fun K10 hK10=>?_
      simp (disch:=(first | assumption | omega)) only [amL,amT,sA,sF,sG,↓reduceIte]
      refine A2 [(2,.ptr 2 0),(3,.ptr 3 0),(7,.fn (.func 74) [] [.ptr 2 0])] (by decide) (Bns (b:=b) (l:=l) (n2:=2) (bd:=78) hl hll rfl) (L1 rfl) (by decide) (fun res os2 hR hcl2 hlv2=>?_)
      obtain ⟨rfl,rfl⟩:=hR
      simp (disch:=(first | assumption | omega)) only [amL,sA,sF,↓reduceIte]
      refine hK10 _ ?_
      refine Al rfl (fun h=>MT.x ?_) (fun h=>ME.x ?_)
      all_goals
       first
       |refine MT.mk ?_
        first
        |exact Bool.noConfusion h
        |skip
         try simp only [nrm] at h
         refine Ad fun K11 hK11=>?_
         simp (disch:=(first | assumption | omega)) only [amL,sA]
         refine hK11 _ ?_
         refine Aj ?_
         try simp (disch:=(first | assumption | omega)) only [amL,sF,↓reduceIte]
         first
           | (unfold Bd8; rw [if_neg (by assumption)]; done)
           | (unfold Bd8; rw [if_pos (by omega),if_pos (by assumption)]; done)
           | (unfold Bd8; rw [if_pos (by omega),if_neg (by omega),if_pos (by assumption)]; done)
           | (unfold Bd8; rw [if_pos (by omega),if_neg (by omega),if_neg (by rw [hral]; decide),hb,if_neg (fun e=>Bool.noConfusion ((show f2=false by assumption).symm.trans e))]; done)
           | (unfold Bd8; rw [if_pos (by omega),if_neg (by omega),if_neg (by rw [hral]; decide),hb,if_pos (by assumption)]; done)
           | trace_state
       |refine ME.mk ?_
        first
        |exact Bool.noConfusion h
        |skip
         try simp only [nrm] at h
         refine Am ?_
         refine hK7 _ ?_
   all_goals
    skip
    refine Lm fun K12 hK12=>?_
    refine Ah ?_
    have hf0:B5 b=0:=by omega
    have hval:=Abz hf0
    have hnv:=hval.nv
    have hral:l.all (Bec b.vs.length)=true:=by assumption
    have hr:∀ r ∈ l,Bec b.vs.length r=true:=List.all_eq_true.1 hral
    have hll4:l.length≤4:=by omega
    simp (disch:=(first | assumption | omega)) only [amL,amT,sA,sF,↓reduceIte]
    refine hK12 _ ?_
    refine Lm fun K13 hK13=>?_
    refine Ah ?_
    simp (disch:=(first | assumption | omega)) only [amL,amT,sA,sF,↓reduceIte]
    refine hK13 _ ?_
    refine Lm fun K14 hK14=>?_
    refine Zg ?_
    refine hK14 _ ?_
    refine Aet fun K15 hK15=>?_
    refine Lm fun K16 hK16=>?_
    refine Ah ?_
    simp (disch:=(first | assumption | omega)) only [amL,amT,sA,sB,sF,sG,↓reduceIte]
    refine A2 [(2,.ptr 2 0),(3,.ptr 3 0),(8,.ptr 8 0),(9,.ptr 9 0)] (by decide) (Dn (b:=b) (bd:=78)) (L1 rfl) (by decide) (fun res os2 hR hcl2 hlv2=>?_)
    obtain ⟨rfl,rfl⟩:=hR
    simp (disch:=(first | assumption | omega)) only [amL,sB,sF,sG,↓reduceIte]
    refine A2 [(2,.ptr 2 0),(3,.ptr 3 0),(8,.ptr 8 0),(9,.ptr 9 0)] (by decide) (Bn6 (nw:=84) (bd:=91) rfl) (L1 rfl) (by decide) (fun res os2 hR hcl3 hlv3=>?_)
    obtain ⟨rfl,rfl⟩:=hR
    simp (disch:=(first | assumption | omega)) only [amL,sB,sF,↓reduceIte]
    refine hK16 _ ?_
    refine T0 ?_
    have hLk:∀ v ∈ Bet b,OkV v:=Bgn (P:=OkV) _ _ _ (fun x hx he=>(Alw hval (Bfm hx)).2 he)
    have hRd:=Bmq (L:=Bet b) (l:=l) (n:=b.vs.length) (n3:=3) (n8:=8) (n9:=9) (bdL:=93) hnv hll4 hr hLk (by decide) (by decide) (by decide) hcode
    have hmem:∀ x ∈ Bea (Fy b) [],Be4 b x=true→Bed b x ∈ Bet b:=fun x hx he=>by
      rcases Bf1 (b:=b) _ v0 true hx he with h | h
      · exact h
      · exact absurd h.1 (by decide)
    cases (show some (_,_)=some (A,B) from hcode)
    refine Mt (bd:=93) (tm:=tmL 3 8 9) rfl (L1 rfl) (by decide) rfl (by kernel_rfl) (fun i=>Aaw (by simp (disch:=(first | assumption | omega)) only [amL,sF,↓reduceIte]) i) (Aw3 (by simp (disch:=(first | assumption | omega)) only [amL,sF,↓reduceIte])) (Bnj (b:=b) (F:=fun q=>(q=3∨q=8∨q=9)∨q=93) hRd.yields rfl hmem hval (fun q hq=>by
      simp only [AV.clean,bne_eq_false_iff_eq] at hq
      exact .inr hq.symm) (n1:=92) (nw:=84) (m:=82) (by decide) (by decide) (by decide) (s:=(([],false),none)) (bd:=94) rfl ⟨rfl,rfl⟩ rfl ⟨⟨rfl,rfl,rfl,Nat.zero_le _,fun _=>rfl⟩,rfl⟩) (fun res os2 hR hcl2=>?_)
    obtain ⟨rfl,hI2,hfr2⟩:=hR
    have hj:=(Bj4 (l:=l) (Bet b) ([],false)).2
    rw [(Bj4 (l:=l) (Bet b) ([],false)).1] at hI2
    generalize (Gg (fun (s:(List Int × Bool) × Option Code) x=>(Bfp l s.1 x,(Bfp l s.1 x).2.isNone)) (([],false),none) (Bet b)).1.2=jump at hj hI2
    generalize hb:Bey l ([],false) (Bet b)=bb at hI2
    obtain ⟨o2,f2⟩:=bb
    obtain ⟨⟨q3,q8,q9,qn,qo⟩,q7⟩:=hI2
    dsimp only at q3 q8 q9 qn qo q7
    refine ⟨_,q7,by rcases hj with rfl | rfl <;> simp [],(Bm1 ?_).resolve_right (fun e=>e hj)⟩
    simp only [N1,Q0]
    refine hK15 _ ?_
    refine Lm fun K17 hK17=>?_
    refine Ad fun K18 hK18=>?_
    simp (disch:=(first | assumption | omega)) only [q9,Ac,amL,amT,sA,sF,↓reduceIte]
    refine hK18 _ ?_
    refine Al rfl (fun h=>MT.x ?_) (fun h=>ME.x ?_)
    all_goals
     first
     |refine MT.mk ?_
      first
      |exact Bool.noConfusion h
      |skip
       try simp only [nrm] at h
       refine Ad fun K19 hK19=>?_
       simp (disch:=(first | assumption | omega)) only [amL,sA]
       refine hK19 _ ?_
       refine Aj ?_
       try simp (disch:=(first | assumption | omega)) only [amL,sF,↓reduceIte]
       first
         | (unfold Bd8; rw [if_neg (by assumption)]; done)
         | (unfold Bd8; rw [if_pos (by omega),if_pos (by assumption)]; done)
         | (unfold Bd8; rw [if_pos (by omega),if_neg (by omega),if_pos (by assumption)]; done)
         | (unfold Bd8; rw [if_pos (by omega),if_neg (by omega),if_neg (by rw [hral]; decide),hb,if_neg (fun e=>Bool.noConfusion ((show f2=false by assumption).symm.trans e))]; done)
         | (unfold Bd8; rw [if_pos (by omega),if_neg (by omega),if_neg (by rw [hral]; decide),hb,if_pos (by assumption)]; done)
         | trace_state
     |refine ME.mk ?_
      first
      |exact Bool.noConfusion h
      |skip
       try simp only [nrm] at h
       refine Am ?_
       refine hK17 _ ?_
    all_goals
     skip
     refine Lm fun K20 hK20=>?_
     refine Ah ?_
     have hbe:Bj3 (o2,f2)=isl o2:=if_pos (by assumption)
     simp (disch:=(first | assumption | omega)) only [q8,hbe,Ac,amL,amT,sA,sF,↓reduceIte]
     refine hK20 _ ?_
     refine Dz ?_
     refine Aj ?_
     try simp (disch:=(first | assumption | omega)) only [amL,sF,↓reduceIte]
     first
       | (unfold Bd8; rw [if_neg (by assumption)]; done)
       | (unfold Bd8; rw [if_pos (by omega),if_pos (by assumption)]; done)
       | (unfold Bd8; rw [if_pos (by omega),if_neg (by omega),if_pos (by assumption)]; done)
       | (unfold Bd8; rw [if_pos (by omega),if_neg (by omega),if_neg (by rw [hral]; decide),hb,if_neg (fun e=>Bool.noConfusion ((show f2=false by assumption).symm.trans e))]; done)
       | (unfold Bd8; rw [if_pos (by omega),if_neg (by omega),if_neg (by rw [hral]; decide),hb,if_pos (by assumption)]; done)
       | trace_state
theorem Bhy {b:Ed} {v:List Liq}:v ∈ Bet b↔∃ x ∈ Bea (Fy b) [],Be4 b x=true∧v=Bed b x:=by
  constructor
  · intro h
    exact Bgn (P:=fun v=>∃ x ∈ Bea (Fy b) [],Be4 b x=true∧v=Bed b x) _ _ _ (fun x hx he=>⟨x,hx,he,rfl⟩) v h
  · rintro ⟨x,h1,h2,rfl⟩
    rcases Bf1 (b:=b) _ v0 true h1 h2 with h | h
    · exact h
    · exact absurd h.1 (by decide)
theorem Bf2 {b:Ed} (hv:N8 b) {v:List Liq}:Bjk b v↔∃ w,w ∈ Bet b∧v=w.take b.vs.length:=by
  rw [Blj hv]
  constructor
  · rintro ⟨x,h1,h2,h3⟩; exact ⟨_,Bhy.2 ⟨x,h1,h2,rfl⟩,h3⟩
  · rintro ⟨w,h1,rfl⟩
    obtain ⟨x,h3,h4,rfl⟩:=Bhy.1 h1
    exact ⟨x,h3,h4,rfl⟩
theorem Bky {b:Ed} (hv:N8 b):(∀ w,¬ w ∈ Bet b)↔Bez b=[]:=by
  rw [List.eq_nil_iff_forall_not_mem]
  constructor
  · intro h v hv2
    obtain ⟨w,h1,_⟩:=(Bf2 hv).1 ((Bfv hv).1 hv2)
    exact h w h1
  · intro h w hw
    exact h _ ((Bfv hv).2 ((Bf2 hv).2 ⟨w,hw,rfl⟩))
def Bjl (b:Ed) (m:Int):Bool:=Bgl b ⟨[],[],[]⟩&&(decide (¬ B5 b=0)||decide (Bfb b≤m))
theorem Boe (b:Ed) (m:Int):Bv Tryz.prog 23 [avB b,i64 m] (bl (Bjl b m)):=by
  refine Bo (v:=[]) (q:=[]) (N:=19) (rs:=[.tmp 4]) Tryz.func23 rfl rfl rfl rfl rfl ?_
  cases hth:Bgl b ⟨[],[],[]⟩
  case' true=>by_cases hf:B5 b=0
  all_goals
    first | (have hf:=hf) | (have hf:=hth)
    refine Ad fun K1 hK1=>?_
    simp (disch:=omega) only [amL,sA,sB,↓reduceIte]
    refine hK1 _ ?_
    refine Ad fun K2 hK2=>?_
    simp (disch:=omega) only [amL,amT,sA,sB,sF,↓reduceIte]
    repeat' first | (refine Ey (fun h=>?_) (fun h=>?_) <;> simp (disch:=omega) only [h,hth,hf,ne_eq,amL,amT,sA,sB,sC,sD,sE,sF,sG,sH,sI,sJ,sK,sL,sM,sN,sO,↓reduceIte,reduceCtorEq]) | (refine C0 (fun h=>?_) (fun h=>?_) <;> simp (disch:=omega) only [h,hth,hf,ne_eq,amL,amT,sA,sB,sC,sD,sE,sF,sG,sH,sI,sJ,sK,sL,sM,sN,sO,↓reduceIte,reduceCtorEq]) | (refine Ay (by kernel_rfl) rfl (Bl4 b) (by first | exact .inl rfl | exact .inr (.inl rfl)) ?_ ; simp (disch:=omega) only [hth,amL,amT,sA,sB,sF,↓reduceIte]) | (refine Ay (by kernel_rfl) rfl (Biu b (Blo hth).1 (Blo hth).2) (by first | exact .inl rfl | exact .inr (.inl rfl)) ?_ ; simp (disch:=omega) only [hf,ne_eq,amL,amT,sA,sB,sF,↓reduceIte]) | (refine Ay (by kernel_rfl) rfl (Bii b (Abz hf)) (by first | exact .inl rfl | exact .inr (.inl rfl)) ?_ ; simp (disch:=omega) only [amL,amT,sA,sF,↓reduceIte,reduceCtorEq])
    all_goals
     skip
     refine hK2 _ ?_
     refine Aj ?_
     try simp (disch:=omega) only [amL,↓reduceIte]
     all_goals first | (unfold Bjl; rw [hth]; rfl) | (unfold Bjl; rw [hth,decide_eq_true hf]; rfl) | (simp only [Bjl,hth,hf,not_true_eq_false,decide_false,Bool.false_or,Bool.true_and]; done) | trace_state
theorem Bkz {b:Ed} (hv:N8 b):(Bez b).length < 100000000:=by
 have h1:=Bf6 (b:=b) (Bfb b).toNat
 have h2:=Bki hv
 unfold Bez; omega
theorem Bmt {b:Ed} {m:Int} (h:Bjl b m=true):Bgl b ⟨[],[],[]⟩=true:=by
 unfold Bjl at h; rw [Bool.and_eq_true] at h; exact h.1
theorem Bl9 {b:Ed} (h:¬ Bez b=[]):¬ (((Bez b).length:Nat):Int)=0:=fun e=>h (List.length_eq_zero_iff.1 (by omega))
theorem Blw {b:Ed} (hv:N8 b) {l:List Rdg} (hr:∀ r ∈ l,Bec b.vs.length r=true) (o:List Int):Bgt (· ∈ Bet b) l o↔Bgt (Bjk b) l o:=by
  constructor
  · rintro ⟨w,h1,rfl⟩
    exact ⟨w.take b.vs.length,(Bf2 hv).2 ⟨w,h1,rfl⟩,(Big hr).symm⟩
  · rintro ⟨v,h1,rfl⟩
    obtain ⟨w,h2,rfl⟩:=(Bf2 hv).1 h1
    exact ⟨w,h2,Big hr⟩
def Bfi (b:Ed) (l:List Rdg):Int:=if B5 b=0 then if 4 < (l.length:Int) then 3 else if l.all (Bec b.vs.length)=true then 0 else 2 else B5 b
def Beu (b:Ed) (l:List Rdg):Int:=if Bfi b l=0 then if Bez b=[] then 9 else 0 else Bfi b l
theorem Bgi {b:Ed} {l:List Rdg} (h:Bfi b l=0):B5 b=0∧l.length≤4∧l.all (Bec b.vs.length)=true:=by
  unfold Bfi at h
  split at h
  · rename_i hf
    split at h
    · cases h
    · rename_i h4
      split at h
      · rename_i ha; exact ⟨hf,by omega,ha⟩
      · cases h
  · rename_i hf; exact absurd h hf
theorem Bhm {b:Ed} (hv:N8 b):Bez b=[]↔Bet b=[]:=by
  rw [← Bky hv,List.eq_nil_iff_forall_not_mem]
theorem Bi2 {b:Ed} {l:List Rdg} (h:Beu b l=0):(Bey l ([],false) (Bet b)).2=true∧Bex (Bgt (Bjk b) l) (Bey l ([],false) (Bet b)).1:=by
  unfold Beu at h
  split at h
  · rename_i h0
    split at h
    · cases h
    · rename_i he
      obtain ⟨hf,h4,ha⟩:=Bgi h0
      have hv:=Abz hf
      obtain ⟨h1,h2⟩:=Bmn (l:=l) (fun e=>he ((Bhm hv).2 e))
      exact ⟨h1,h2.congr (Blw hv (List.all_eq_true.1 ha))⟩
  · rename_i h0; exact absurd h h0
def Bhb (b:Ed) (l:List Rdg):List Int:=(Bey l ([],false) (Bet b)).1
theorem Bi5 {b:Ed} {l:List Rdg} (h:Beu b l=0):Bex (Bgt (Bjk b) l) (Bhb b l):=(Bi2 h).2
theorem Bh9 (b:Ed) (l:List Rdg):Bd8 b l=if Beu b l=0 then .tup [isl (Bhb b l),i64 0] else .tup [C4,i64 (Beu b l)]:=by
  by_cases h:Beu b l=0
  · rw [if_pos h]
    have hb:=Bi2 h
    unfold Beu at h
    split at h
    · rename_i h0
      obtain ⟨hf,h4,ha⟩:=Bgi h0
      unfold Bd8
      rw [if_pos hf,if_neg (by omega),if_neg (by rw [ha]; decide),if_pos hb.1]; rfl
    · rename_i h0; exact absurd h h0
  · rw [if_neg h]
    unfold Bd8 Beu Bfi at *
    by_cases hf:B5 b=0
    · simp only [if_pos hf] at *
      by_cases h4:4 < (l.length:Int)
      · simp only [if_pos h4]; rfl
      · simp only [if_neg h4] at *
        cases ha:l.all (Bec b.vs.length) with
        | false=>simp
        | true=>
          simp only [ha,if_true] at h ⊢
          by_cases he:Bez b=[]
          · have e:Bet b=[]:=(Bhm (Abz hf)).1 he
            rw [e]; simp [Bey,he]
          · exact absurd (if_neg he) h
    · simp only [if_neg hf]
theorem Bop {b:Ed} {l:List Rdg} {w:Int} (hz:b.vs.length < 1000000∧b.ss.length < 1000000) (hl:l.length < 1000000) (h:Beu b l=w) (hw:¬ w=0):Bv Tryz.prog 28 [avB b,.p (.sl (l.map Axq))] (.tup [C4,i64 w]):=by
  have h2:=Bkk b l hz.1 hz.2 hl
  rwa [Bh9,h,if_neg hw] at h2
theorem Bok {b:Ed} {l:List Rdg} (hz:b.vs.length < 1000000∧b.ss.length < 1000000) (hl:l.length < 1000000) (h:Beu b l=0):Bv Tryz.prog 28 [avB b,.p (.sl (l.map Axq))] (.tup [isl (Bhb b l),i64 0]):=by
  have h2:=Bkk b l hz.1 hz.2 hl
  rwa [Bh9,if_pos h] at h2
def Bei (b:Ed) (l:List Rdg):Nat→Int
  | 0=>if B5 b=0 then if 4 < (l.length:Int) then 3 else 0 else B5 b
  | i+1=>if Bei b l i=0∧Bec b.vs.length (l.getD i default)=false then 2 else Bei b l i
theorem Bnt {b:Ed} {l:List Rdg} (h:B5 b=0) (h2:4 < (l.length:Int)):Bei b l 0=3:=by unfold Bei; rw [if_pos h,if_pos h2]
theorem Bnz {b:Ed} {l:List Rdg} (h:B5 b=0) (h2:¬ 4 < (l.length:Int)):Bei b l 0=0:=by unfold Bei; rw [if_pos h,if_neg h2]
theorem Bnx {b:Ed} {l:List Rdg} (h:¬ B5 b=0):Bei b l 0=B5 b:=by unfold Bei; rw [if_neg h]
theorem Biz {b:Ed} {l:List Rdg} {i:Nat} (h:Bei b l i=0) (h2:Bec b.vs.length (l.getD i default)=false):Bei b l (i+1)=2:=if_pos ⟨h,h2⟩
theorem Bke {b:Ed} {l:List Rdg} {i:Nat} (h2:Bec b.vs.length (l.getD i default)=true):Bei b l (i+1)=Bei b l i:=if_neg (fun e=>by rw [h2] at e; cases e.2)
theorem Biv {b:Ed} {l:List Rdg}:∀ i,i≤l.length→(Bei b l i=0∧B5 b=0∧l.length≤4∧∀ j,j < i→Bec b.vs.length (l.getD j default)=true)∨(Bei b l i≠0∧Bei b l i=Bfi b l)
  | 0,_=>by
    unfold Bei Bfi
    by_cases hf:B5 b=0
    · simp only [if_pos hf]
      by_cases h4:4 < (l.length:Int)
      · simp only [if_pos h4]; exact .inr ⟨by decide,trivial⟩
      · simp only [if_neg h4]; exact .inl ⟨trivial,hf,by omega,fun j hj=>by omega⟩
    · simp only [if_neg hf]; exact .inr ⟨hf,trivial⟩
  | i+1,h=>by
    rcases Biv (b:=b) (l:=l) i (by omega) with ⟨h1,h2,h3,h4⟩ | ⟨h1,h2⟩
    · cases hr:Bec b.vs.length (l.getD i default) with
      | true=>
        rw [Bke hr]
        exact .inl ⟨h1,h2,h3,fun j hj=>by
          by_cases e:j=i
          · rw [e]; exact hr
          · exact h4 j (by omega)⟩
      | false=>
        rw [Biz h1 hr]
        refine .inr ⟨by decide,?_⟩
        unfold Bfi
        have ha:¬ l.all (Bec b.vs.length)=true:=fun e=>by
          rw [List.all_eq_true.1 e _ (Du default (show i < l.length by omega))] at hr; cases hr
        rw [if_pos h2,if_neg (by omega),if_neg ha]
    · right
      have e:Bei b l (i+1)=Bei b l i:=if_neg (fun e=>h1 e.1)
      rw [e]; exact ⟨h1,h2⟩
theorem Bml {b:Ed} {l:List Rdg} {i:Nat} (hi:i≤l.length) (h:l.length≤i∨¬ Bei b l i=0):Bei b l i=Bfi b l:=by
  rcases Biv (b:=b) (l:=l) i hi with ⟨h1,h2,h3,h4⟩ | ⟨_,h2⟩
  · rcases h with h | h
    · rw [h1]
      unfold Bfi
      have ha:l.all (Bec b.vs.length)=true:=List.all_eq_true.2 fun r hr=>by
        obtain ⟨j,hj⟩:=List.mem_iff_getElem?.1 hr
        have hj2:j < l.length:=by
          rcases Nat.lt_or_ge j l.length with h | h
          · exact h
          · rw [List.getElem?_eq_none h] at hj; cases hj
        have:=h4 j (by omega)
        rwa [List.getD_eq_getElem?_getD,hj] at this
      rw [if_pos h2,if_neg (by omega),if_pos ha]
    · exact absurd h1 h
  · exact h2
theorem Bne {n:Nat} {r:Rdg} (h:(!inB r.v 0 ((n:Int) - 1))=true):Bec n r=false:=by
  have h:inB r.v 0 ((n:Int) - 1)=false:=by simpa using h
  unfold Bec; rw [h,Bool.false_and]
theorem Bnf {n:Nat} {r:Rdg} (h:r.g.hi < r.g.lo):Bec n r=false:=by
  unfold Bec; rw [decide_eq_false (show ¬ r.g.lo≤r.g.hi by omega),Bool.false_and,Bool.and_false]
theorem Bni {n:Nat} {r:Rdg} (h:r.d.hi < r.d.lo):Bec n r=false:=by
  unfold Bec; rw [decide_eq_false (show ¬ r.d.lo≤r.d.hi by omega),Bool.and_false,Bool.and_false]
theorem Bob {n:Nat} {r:Rdg} (h:(!inB r.v 0 ((n:Int) - 1))=false) (h2:¬ r.g.hi < r.g.lo) (h3:¬ r.d.hi < r.d.lo):Bec n r=true:=by
  have h:inB r.v 0 ((n:Int) - 1)=true:=by simpa using h
  unfold Bec; rw [h,decide_eq_true (show r.g.lo≤r.g.hi by omega),decide_eq_true (show r.d.lo≤r.d.hi by omega)]; rfl
theorem Bl2 {b:Ed} {l:List Rdg} (h:Beu b l=0) (hv:N8 b) (he:¬ Bez b=[]) (h4:l.length≤4):Bhb b l=lvZ (Bez b) l:=by
  refine (Bi5 h).unique ((Bol he (by omega)).congr fun o=>?_)
  exact ⟨fun ⟨v,h1,h2⟩=>⟨v,(Bfv hv).1 h1,h2⟩,fun ⟨v,h1,h2⟩=>⟨v,(Bfv hv).2 h1,h2⟩⟩
theorem Boo {b:Ed} {l:List Rdg} (hR:Bfi b l=0) (he:¬ Bez b=[]):Bv Tryz.prog 32 [.p (.sl ((Bez b).map Bfo)),.p (.sl (l.map Axq))] (isl (Bhb b l)):=by
  obtain ⟨hf,h4,ha⟩:=Bgi hR
  have hv:=Abz hf
  have hL:Beu b l=0:=by unfold Beu; rw [if_pos hR,if_neg he]
  rw [Bl2 hL hv he h4]
  exact Blp (Bez b) l b.vs.length (Bkz hv) h4 hv.nv (List.all_eq_true.1 ha) (fun v hv2=>(Bn1 hv ((Bfv hv).1 hv2)).len hv.nv)
theorem Bmw {P:List Liq→Prop} {l:List Rdg} {x:List Int} (h:Bex (Bgt P l) x):x.length≤l.length:=by
  obtain ⟨v,_,rfl⟩:=h.1
  exact Bit
theorem c_wortLeaves (b:Ed) (l:List Rdg) (_:Amx b) (_:∀ r ∈ l,Auc r):Bv Tryz.prog 5 [avB b,.p (.sl (l.map Axq))] (bl true):=by
  refine Bo (v:=[]) (q:=[]) (N:=119) (rs:=[.tmp 4]) Tryz.func5 rfl rfl rfl rfl rfl ?_
  cases hq:Bjl b 500
  case' true=>
    have hz:=Blo (Bmt hq)
    by_cases h7:7 < (l.length:Int)
    case' neg=>
      have hll:l.length < 1000000:=by omega
      by_cases hR:Bfi b l=0 <;> by_cases he:Bez b=[]
  all_goals
    first
    | (have hf:=(Bgi hR).1
       have hL:Beu b l=9:=by unfold Beu; rw [if_pos hR,if_pos he]
       have hl0:(Bez b).length=0:=by rw [he]; rfl
       have hlp:=hq)
    | (have hf:=(Bgi hR).1
       have hL:Beu b l=0:=by unfold Beu; rw [if_pos hR,if_neg he]
       have hlp:=Bl9 he
       have hbl:=Bmw (Bi5 hL)
       have hl0:=hq)
    | (have hL:Beu b l=Bfi b l:=by unfold Beu; rw [if_neg hR]
       have hlp:=hq; have hl0:=hq)
    | (have hlp:=hq; have hl0:=hq)
    first
    | (have hC:=Bok hz hll hL; obtain ⟨xA,hxA⟩:∃ x:AV,x=isl (Bhb b l):=⟨_,rfl⟩; obtain ⟨eA,heA⟩:∃ e:Int,e=0:=⟨_,rfl⟩; rw [← hxA,show i64 0=i64 eA by rw [heA]] at hC)
    | (have hC:=Bop hz hll hL (by first | decide | exact hR); obtain ⟨xA,hxA⟩:∃ x:AV,x=C4:=⟨_,rfl⟩; obtain ⟨eA,heA⟩:∃ e:Int,e=Beu b l:=⟨_,rfl⟩; rw [← hxA,← hL,← heA] at hC; rw [hL] at heA)
    | (have hC:=hq; have hxA:=hq; have heA:=hq)
    first | (have hnm:∀ ks,nm ks xA=true:=fun ks=>by rw [hxA]; rfl) | (have hnm:=hq)
    first | (have hR:=hR) | (have hR:=hq)
    first | (have h7:=h7) | (have h7:=hq)
    refine Ad fun K1 hK1=>?_
    simp (disch:=(first | assumption | omega)) only [eq_self,decide_true,amL,sA,sB,↓reduceIte]
    refine hK1 _ ?_
    refine Ab fun K2 hK2=>?_
    refine Ad fun K3 hK3=>?_
    simp (disch:=(first | assumption | omega)) only [eq_self,decide_true,amL,amT,sA,sB,sF,↓reduceIte]
    repeat' first | (refine Ey (fun h=>?_) (fun h=>?_) <;> simp (disch:=(first | assumption | omega)) only [h,hq,h7,hR,hnm,hlp,hl0,Beb,Di,ne_eq,eq_self,not_true_eq_false,decide_false,decide_true,List.length_map,amL,amT,sA,sB,sC,sD,sE,sF,sG,sH,sI,sJ,sK,sL,sM,sN,sO,↓reduceIte,reduceCtorEq]) | (refine C0 (fun h=>?_) (fun h=>?_) <;> simp (disch:=(first | assumption | omega)) only [h,hq,h7,hR,hnm,hlp,hl0,Beb,Di,ne_eq,eq_self,not_true_eq_false,decide_false,decide_true,List.length_map,amL,amT,sA,sB,sC,sD,sE,sF,sG,sH,sI,sJ,sK,sL,sM,sN,sO,↓reduceIte,reduceCtorEq]) | (refine Ay (by kernel_rfl) rfl (Boe b 500) (by first | exact .inl rfl | exact .inr (.inl rfl)) ?_ ; simp (disch:=(first | assumption | omega)) only [hq,h7,eq_self,decide_false,decide_true,List.length_map,amL,amT,sA,sF,↓reduceIte,reduceCtorEq])
    all_goals
     skip
     refine hK3 _ ?_
     refine Al rfl (fun h=>MT.x ?_) (fun h=>ME.x ?_)
     all_goals
      first
      |refine MT.mk ?_
       first
       |exact Bool.noConfusion h
       |((try simp only [] at h) ; exfalso ; omega)
       |skip
        try simp only [] at h
        refine Ad fun K4 hK4=>?_
        simp (disch:=(first | assumption | omega)) only [amL]
        repeat' first | (refine Ay (by kernel_rfl) rfl (Bdq) (by first | exact .inl rfl | exact .inr (.inl rfl)) ?_ ; simp (disch:=(first | assumption | omega)) only [eq_self,decide_true,amL,sA,↓reduceIte])
        refine hK4 _ ?_
        refine Aj ?_
        try simp (disch:=(first | assumption | omega)) only [eq_self,amL,↓reduceIte]
        all_goals first | rfl | trace_state
      |refine ME.mk ?_
       first
       |exact Bool.noConfusion h
       |((try simp only [] at h) ; exfalso ; omega)
       |skip
        try simp only [] at h
        refine Am ?_
        refine hK2 _ ?_
     all_goals
      skip
      refine Ad fun K5 hK5=>?_
      simp (disch:=(first | assumption | omega)) only [eq_self,decide_true,amL,amT,sA,sB,sF,↓reduceIte]
      repeat' first | (refine Ay (by kernel_rfl) rfl (Bm5 b hz.1 hz.2) (by first | exact .inl rfl | exact .inr (.inl rfl)) ?_ ; simp (disch:=(first | assumption | omega)) only [eq_self,decide_true,amL,sA,sF,↓reduceIte,reduceCtorEq]) | (refine Ay (by kernel_rfl) rfl (Bnh l hll) (by first | exact .inl rfl | exact .inr (.inl rfl)) ?_ ; simp (disch:=(first | assumption | omega)) only [eq_self,amL,sF,↓reduceIte]) | (refine Ay (by kernel_rfl) rfl (hC) (by first | exact .inl rfl | exact .inr (.inl rfl)) ?_ ; simp (disch:=(first | assumption | omega)) only [eq_self,decide_true,amL,sA,sF,↓reduceIte])
      refine hK5 _ ?_
      refine Ad fun K6 hK6=>?_
      simp (disch:=(first | assumption | omega)) only [eq_self,decide_true,amL,amT,sA,sB,sF,↓reduceIte]
      repeat' first | (refine Ay (by kernel_rfl) rfl (Blv b hz.1 hz.2) (by first | exact .inl rfl | exact .inr (.inl rfl)) ?_ ; simp (disch:=(first | assumption | omega)) only [eq_self,decide_true,amL,sA,↓reduceIte])
      refine hK6 _ ?_
      refine Ab fun K7 hK7=>?_
      refine Ad fun K8 hK8=>?_
      simp (disch:=(first | assumption | omega)) only [eq_self,decide_true,amL,amT,sA,↓reduceIte]
      repeat' first | (refine Ey (fun h=>?_) (fun h=>?_) <;> simp (disch:=(first | assumption | omega)) only [h,eq_self,decide_false,decide_true,List.length_map,amL,amT,sA,sF,↓reduceIte,reduceCtorEq]) | (refine C0 (fun h=>?_) (fun h=>?_) <;> simp (disch:=(first | assumption | omega)) only [h,hq,h7,hR,hnm,hlp,hl0,Beb,Di,ne_eq,eq_self,not_true_eq_false,decide_false,decide_true,List.length_map,amL,amT,sA,sB,sC,sD,sE,sF,sG,sH,sI,sJ,sK,sL,sM,sN,sO,↓reduceIte,reduceCtorEq])
      all_goals
       skip
       refine hK8 _ ?_
       refine Al rfl (fun h=>MT.x ?_) (fun h=>ME.x ?_)
       all_goals
        first
        |refine MT.mk ?_
         first
         |exact Bool.noConfusion h
         |((try simp only [nrm] at h) ; exfalso ; omega)
         |skip
          try simp only [nrm] at h
          refine Ah ?_
          simp (disch:=(first | assumption | omega)) only [eq_self,decide_true,amL,sA]
          refine hK7 _ ?_
        |refine ME.mk ?_
         first
         |exact Bool.noConfusion h
         |((try simp only [nrm] at h) ; exfalso ; omega)
         |skip
          try simp only [nrm] at h
          refine Am ?_
          refine hK7 _ ?_
       all_goals
        skip
        refine Ab fun K9 hK9=>?_
        refine Ad fun K10 hK10=>?_
        simp (disch:=(first | assumption | omega)) only [eq_self,decide_true,amL,sA]
        refine hK10 _ ?_
        refine Aq ?_
        skip
        refine Bg (α:=Nat) (fun i=>⟨T [(1,.p (.sl (l.map Axq))),(2,.ptr 2 0),(5,xA),(6,i64 eA),(7,i64 (Bei b l i)),(8,i64 (i:Int))],O [(2,.cells (cB b))]⟩) (fun i=>l.length - i) (fun i=>i≤l.length) 0 ?_ ?_ (fun i hx11 K11 hK11=>?_)
        · exact Nat.zero_le _
        · refine Df ?_ ?_ ?_ ?_ <;> (try simp (disch:=(first | assumption | omega)) only [hnm,eq_self,amL,sF,↓reduceIte,reduceCtorEq]); all_goals first | rfl | (rw [Bnt (by assumption) (by assumption)]; done) | (rw [Bnz (by assumption) (by assumption)]; done) | (rw [Bnx (by assumption)]; done) | trace_state
        have hk:=hx11
        refine Ab fun K12 hK12=>?_
        refine Ad fun K13 hK13=>?_
        simp (disch:=(first | assumption | omega)) only [eq_self,decide_true,List.length_map,amL,amT,sA,sF,↓reduceIte]
        repeat' first | (refine Ey (fun h=>?_) (fun h=>?_) <;> simp (disch:=(first | assumption | omega)) only [h,eq_self,decide_false,decide_true,amL,amT,sA,sF,↓reduceIte]) | (refine C0 (fun h=>?_) (fun h=>?_) <;> simp (disch:=(first | assumption | omega)) only [h,hq,h7,hR,hnm,hlp,hl0,Beb,Di,ne_eq,eq_self,not_true_eq_false,decide_false,decide_true,List.length_map,amL,amT,sA,sB,sC,sD,sE,sF,sG,sH,sI,sJ,sK,sL,sM,sN,sO,↓reduceIte,reduceCtorEq])
        all_goals
         skip
         refine hK13 _ ?_
         refine Al rfl (fun h=>MT.x ?_) (fun h=>ME.x ?_)
         all_goals
          first
          |refine MT.mk ?_
           first
           |exact Bool.noConfusion h
           |((try simp only [nrm] at h) ; exfalso ; omega)
           |skip
            try simp only [nrm] at h
            refine Am ?_
            refine hK12 _ ?_
          |refine ME.mk ?_
           first
           |exact Bool.noConfusion h
           |((try simp only [nrm] at h) ; exfalso ; omega)
           |skip
            try simp only [nrm] at h
            refine Br ?_
            refine hK9 _ ?_
            refine Ab fun K14 hK14=>?_
            rw [Bml (by omega) (by first | exact .inl (by omega) | exact .inr (by assumption))]
            refine Ah ?_
            simp (disch:=(first | assumption | omega)) only [hR,eq_self,decide_false,decide_true,amL,sA]
            refine hK14 _ ?_
            refine Ab fun K15 hK15=>?_
            refine Ad fun K16 hK16=>?_
            simp (disch:=(first | assumption | omega)) only [hR,eq_self,decide_false,decide_true,amL,amT,sA,sF,↓reduceIte]
            refine hK16 _ ?_
            refine Al rfl (fun h=>MT.x ?_) (fun h=>ME.x ?_)
            all_goals
             first
             |refine MT.mk ?_
              first
              |exact Bool.noConfusion h
              |((try simp only [] at h) ; exfalso ; omega)
              |skip
               try simp only [] at h
               refine Ad fun K17 hK17=>?_
               simp (disch:=(first | assumption | omega)) only [eq_self,decide_true,amL,amT,sA,sB,sF,↓reduceIte]
               repeat' first | (refine Ay (by kernel_rfl) rfl (Bm7 b (Abz (by first | exact hf | assumption))) (by first | exact .inl rfl | exact .inr (.inl rfl)) ?_ ; simp (disch:=(first | assumption | omega)) only [eq_self,decide_true,amL,sA,↓reduceIte])
               refine hK17 _ ?_
               refine Ad fun K18 hK18=>?_
               simp (disch:=(first | assumption | omega)) only [hlp,hl0,eq_self,decide_false,decide_true,List.length_map,amL,amT,sA,↓reduceIte]
               refine hK18 _ ?_
               refine Al rfl (fun h=>MT.x ?_) (fun h=>ME.x ?_)
               all_goals
                first
                |refine MT.mk ?_
                 first
                 |exact Bool.noConfusion h
                 |((try simp only [] at h) ; exfalso ; omega)
                 |skip
                  try simp only [] at h
                  refine Ah ?_
                  simp (disch:=(first | assumption | omega)) only [eq_self,decide_true,amL,sA]
                  refine hK15 _ ?_
                |refine ME.mk ?_
                 first
                 |exact Bool.noConfusion h
                 |((try simp only [] at h) ; exfalso ; omega)
                 |skip
                  try simp only [] at h
                  refine Am ?_
                  refine hK15 _ ?_
             |refine ME.mk ?_
              first
              |exact Bool.noConfusion h
              |((try simp only [] at h) ; exfalso ; omega)
              |skip
               try simp only [] at h
               refine Am ?_
               refine hK15 _ ?_
            all_goals
             skip
             refine Ab fun K19 hK19=>?_
             refine Ad fun K20 hK20=>?_
             simp (disch:=(first | assumption | omega)) only [hR,ne_eq,eq_self,not_true_eq_false,decide_false,decide_true,amL,amT,sA,sF,sO,↓reduceIte]
             refine hK20 _ ?_
             refine Al rfl (fun h=>MT.x ?_) (fun h=>ME.x ?_)
             all_goals
              first
              |refine MT.mk ?_
               first
               |exact Bool.noConfusion h
               |((try simp only [] at h) ; exfalso ; omega)
               |skip
                try simp only [] at h
                refine Ad fun K21 hK21=>?_
                simp (disch:=(first | assumption | omega)) only [hxA,heA,eq_self,decide_true,amL,amT,sA,sF,↓reduceIte]
                repeat' first | (refine Ey (fun h=>?_) (fun h=>?_) <;> simp (disch:=(first | assumption | omega)) only [h,hxA,heA,hq,h7,hR,hnm,hlp,hl0,Beb,Di,ne_eq,eq_self,not_true_eq_false,decide_false,decide_true,List.length_map,amL,amT,sA,sB,sC,sD,sE,sF,sG,sH,sI,sJ,sK,sL,sM,sN,sO,↓reduceIte,reduceCtorEq]) | (refine C0 (fun h=>?_) (fun h=>?_) <;> simp (disch:=(first | assumption | omega)) only [h,hxA,heA,hq,h7,hR,hnm,hlp,hl0,Beb,Di,ne_eq,eq_self,not_true_eq_false,decide_false,decide_true,List.length_map,amL,amT,sA,sB,sC,sD,sE,sF,sG,sH,sI,sJ,sK,sL,sM,sN,sO,↓reduceIte,reduceCtorEq]) | (refine Ay (by kernel_rfl) rfl (Bdq) (by first | exact .inl rfl | exact .inr (.inl rfl)) ?_ ; simp (disch:=(first | assumption | omega)) only [eq_self,decide_true,amL,sA,sF,↓reduceIte])
                all_goals
                 skip
                 refine hK21 _ ?_
                 refine Aj ?_
                 try simp (disch:=(first | assumption | omega)) only [eq_self,amL,↓reduceIte]
                 all_goals first | rfl | trace_state
              |refine ME.mk ?_
               first
               |exact Bool.noConfusion h
               |((try simp only [] at h) ; exfalso ; omega)
               |skip
                try simp only [] at h
                refine Am ?_
                refine hK19 _ ?_
             all_goals
              skip
              refine Ad fun K22 hK22=>?_
              simp (disch:=(first | assumption | omega)) only [hxA,heA,eq_self,decide_true,amL,amT,sA,sF,↓reduceIte]
              repeat' first | (refine Ey (fun h=>?_) (fun h=>?_) <;> simp (disch:=(first | assumption | omega)) only [h,hxA,heA,hq,h7,hR,hnm,hlp,hl0,Beb,Di,ne_eq,eq_self,not_true_eq_false,decide_false,decide_true,List.length_map,amL,amT,sA,sB,sC,sD,sE,sF,sG,sH,sI,sJ,sK,sL,sM,sN,sO,↓reduceIte,reduceCtorEq]) | (refine C0 (fun h=>?_) (fun h=>?_) <;> simp (disch:=(first | assumption | omega)) only [h,hxA,heA,hq,h7,hR,hnm,hlp,hl0,Beb,Di,ne_eq,eq_self,not_true_eq_false,decide_false,decide_true,List.length_map,amL,amT,sA,sB,sC,sD,sE,sF,sG,sH,sI,sJ,sK,sL,sM,sN,sO,↓reduceIte,reduceCtorEq]) | (refine Ay (by kernel_rfl) rfl (Boo hR he) (by first | exact .inl rfl | exact .inr (.inl rfl)) ?_ ; simp (disch:=(first | assumption | omega)) only [eq_self,decide_true,amL,sA,sF,↓reduceIte]) | (refine Ay (by kernel_rfl) rfl (Bmj (Bhb b l) (by omega)) (by first | exact .inl rfl | exact .inr (.inl rfl)) ?_ ; simp (disch:=(first | assumption | omega)) only [eq_self,decide_true,amL,sA,sF,↓reduceIte]) | (refine Ay (by kernel_rfl) rfl (Bdq) (by first | exact .inl rfl | exact .inr (.inl rfl)) ?_ ; simp (disch:=(first | assumption | omega)) only [eq_self,decide_true,amL,sA,sF,↓reduceIte])
              all_goals
               skip
               refine hK22 _ ?_
               refine Aj ?_
               try simp (disch:=(first | assumption | omega)) only [eq_self,amL,↓reduceIte]
               all_goals first | rfl | trace_state
         all_goals
          skip
          refine Ab fun K23 hK23=>?_
          refine Aq ?_
          refine Ab fun K24 hK24=>?_
          refine Ch (by kernel_rfl) (by kernel_rfl) ?_
          simp (disch:=(first | assumption | omega)) only [Beb,eq_self,decide_true,List.length_map,amL,amT,sA,sB,sF,↓reduceIte,reduceCtorEq]
          repeat' first | (refine Ey (fun h=>?_) (fun h=>?_) <;> simp (disch:=(first | assumption | omega)) only [h,Beb,eq_self,decide_false,decide_true,List.length_map,amL,amT,sA,sB,sF,↓reduceIte,reduceCtorEq]) | (refine C0 (fun h=>?_) (fun h=>?_) <;> simp (disch:=(first | assumption | omega)) only [h,Beb,eq_self,decide_true,List.length_map,amL,amT,sA,sB,sF,↓reduceIte,reduceCtorEq]) | (refine Ay (by kernel_rfl) rfl (Bjf _ _ _) (by first | exact .inl rfl | exact .inr (.inl rfl)) ?_ ; simp (disch:=(first | assumption | omega)) only [eq_self,decide_true,amL,sA,↓reduceIte])
          all_goals
           skip
           refine hK24 _ ?_
           refine Al rfl (fun h=>MT.x ?_) (fun h=>ME.x ?_)
           all_goals
            first
            |refine MT.mk ?_
             first
             |exact Bool.noConfusion h
             |((try simp only [nrm] at h) ; exfalso ; omega)
             |skip
              try simp only [nrm] at h
              refine Ah ?_
              simp (disch:=(first | assumption | omega)) only [eq_self,decide_true,amL,sA]
              refine hK23 _ ?_
            |refine ME.mk ?_
             first
             |exact Bool.noConfusion h
             |((try simp only [nrm] at h) ; exfalso ; omega)
             |skip
              try simp only [nrm] at h
              refine Am ?_
              refine hK23 _ ?_
           all_goals
            skip
            refine Ah ?_
            simp (disch:=(first | assumption | omega)) only [eq_self,decide_true,amL,amT,sA,sF,↓reduceIte]
            refine hK11 (i+1) _ ?_ ?_ (Df ?_ ?_ ?_ ?_)
            all_goals (try simp (disch:=(first | assumption | omega)) only [hnm,eq_self,amL,sF,↓reduceIte])
            all_goals first | omega | (rw [Biz (by assumption) (by first | exact Bne (by assumption) | exact Bnf (by assumption) | exact Bni (by assumption))]; done) | (rw [Bke (Bob (by assumption) (by assumption) (by assumption))]; done) | trace_state
end AM.Try
end
