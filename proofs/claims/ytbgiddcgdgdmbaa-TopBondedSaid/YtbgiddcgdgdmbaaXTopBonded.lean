/- Lemmas for the proof: more of the program's functions, walked on the abstract machine. -/
import Derived.Test.YtbgiddcgdgdmbaaQ5
/- The abstract machine, part 48: an array of one's own is written no more: what refers to it is a value from then on. -/
section
namespace AM
open Go Go.Proofs
section
variable {P:Program} {r:RB} {N B:Nat} {S:Nat→Prop} {θ:Nat→Loc} {M M2:Nat→Prop} {w:World} {st:St} {a:Act} {Q:AEx→St→Prop} {n:Nat} {es:List (List PV)}
def Bcg (n:Nat) (es:List (List PV)):List (Nat × AO)→List (Nat × AO)
 | []=>[]
 | (j,x) :: l=>if j=n then Bcg n es l else (j,x.frz n es) :: Bcg n es l
theorem Bct {l:List (Nat × AO)}:(fun m=>if m=n then none else (O l m).map (AO.frz n es))=O (Bcg n es l):=by
 funext m
 induction l with
 | nil=>simp [O,Bcg]
 | cons p l ih=>
  obtain ⟨j,x⟩:=p
  simp only [O,Bcg]
  by_cases e:m=n
  ·subst e
   simp only [if_true] at ih ⊢
   split
   ·exact ih
   ·simp only [O]
    rw [if_neg (fun h=>by omega)]; exact ih
  ·rw [if_neg e] at ih ⊢
   by_cases e2:m=j
   ·subst e2
    rw [if_neg e]
    simp [O]
   ·rw [if_neg e2]
    split
    ·exact ih
    ·simp only [O]; rw [if_neg e2]; exact ih
theorem Bcp {l:List (Nat × AV)} {m:List (Nat × AO)}:St.frz n es ⟨T l,O m⟩=⟨T (Ail n es l),O (Bcg n es m)⟩:=by
 unfold St.frz; rw [Aqy,Bct]
end
end AM
end
/- Rising lists, tables and stores: their errors, step by step. -/
section
namespace AM.Wort
open Go AM Go.Proofs
theorem Bcr {t:Tbl} (h:N4 t=true):(t.w.length≤8∧t.m.length≤8∧t.v.length≤8)∧∀ r ∈ t.v,r.length≤8:=by
 simp only [N4,Bool.and_eq_true,decide_eq_true_eq,List.all_eq_true] at h
 exact ⟨by omega,fun r hr=>by have:=h.2 r hr; omega⟩
theorem Bcn {s:Sto} (h:Aoj s=true):s.t.w.length < 1000000∧s.t.m.length < 1000000∧s.t.v.length < 1000000∧(∀ r ∈ s.t.v,r.length < 1000000)∧s.c.length < 1000000:=by
 simp only [Aoj,Bool.and_eq_true,decide_eq_true_eq] at h
 obtain ⟨⟨h1,h2,h3⟩,h4⟩:=Bcr h.1
 exact ⟨by omega,by omega,by omega,fun r hr=>by have:=h4 r hr; omega,by omega⟩
end AM.Wort
end
/- The abstract machine, part 49: an object gets another name, ahead of some code. -/
section
namespace AM
open Go Go.Proofs
section
variable {P:Program} {r:RB} {N:Nat} {st:St} {Q:AEx→St→Prop} {c m:Nat}
theorem Bcf {cd:Code} {l:List (Nat × AV)} {o:List (Nat × AO)} {k:Nat} (n:Nat) {es:List (List PV)} (hn:O o n=some (.arr k es)) (h:AWP P r N cd ⟨T (Ail n es l),O (Bcg n es o)⟩ Q):AWP P r N cd ⟨T l,O o⟩ Q:=
 Ana n hn (by rw [Bcp]; exact h)
end
end AM
end
/- Accounts of one day with charges alone: plain law. -/
section
namespace AM.Dty
open Go AM AM.Duty Go.Proofs
open Nat renaming reduceLT→sA,reduceAdd→sB,reduceMul→sC,reduceSub→sD,reduceLeDiff→sE,reduceEqDiff→sF,reduceBEq→sG
open Int renaming reduceAdd→sH,reduceSub→sI,reduceMul→sJ,reduceLT→sK,reduceLE→sL,reduceNeg→sM,reduceToNat→sN,reduceEq→sO
set_option maxHeartbeats 2000000
theorem ch_fault {b b' p:Int} {l:List (Int × Int)} (h:Aq (chA b p l)=0) (h1:0≤b') (h2:b'≤b):Aq (chA b' p l)=0:=by
 have hb:inB b 0 100000=true:=by
  obtain ⟨_,_,z3,_,_,_⟩:=Ez h
  simp only [Bool.and_eq_true] at z3
  exact z3.2.2.1
 have hb':inB b' 0 100000=true:=by
  simp only [inB,Bool.and_eq_true,decide_eq_true_eq] at hb ⊢; omega
 have e:∀ c,0≤c→inB c 0 100000=true→Aq (chA c p l)=if 4 < [(⟨0,p⟩:Fi)].length∨8 < (l.map chE).length then 3 else if Fh 0 (-1) [⟨0,p⟩]=false then 1 else if (l.map chE).all (Cb 0)=false then 1 else if 1000 < Lc (l.map chE) then 3 else 0:=fun c _ hc=>by
  unfold Aq
  dsimp only [chA]
  have e9:(inB 0 0 11&&(inB 0 0 200&&(inB c 0 100000&&inB 0 0 100000)))=true:=by rw [hc]; rfl
  simp only [e9,reduceCtorEq,if_false]
  first | rfl | congr
 have hb0:0≤b:=by omega
 rw [e b hb0 hb] at h
 rw [e b' h1 hb']; exact h
end AM.Dty
end
/- The top law: the duty on a store is the debt of an account: what is owed. -/
section
namespace AM.Try
open Go AM AM.Wort Go.Proofs
open Nat renaming reduceLT→sA,reduceAdd→sB,reduceMul→sC,reduceSub→sD,reduceLeDiff→sE,reduceEqDiff→sF,reduceBEq→sG
open Int renaming reduceAdd→sH,reduceSub→sI,reduceMul→sJ,reduceLT→sK,reduceLE→sL,reduceNeg→sM,reduceToNat→sN,reduceEq→sO
set_option maxHeartbeats 2000000
theorem Bch {s:Sto} {k:Nat} (h:k < s.c.length):(J8 s s.c.length).getD k default=D6 s (s.c.getD k default):=by
 unfold J8
 rw [List.take_length,E6 (D6 s) default default h]
theorem Bcl {s:Sto} {k:Nat} (h:k < s.c.length):(loX s).getD k 0=(D6 s (s.c.getD k default)).lo:=by
 show ((J8 s s.c.length).map (·.lo)).getD k 0=_
 rw [E6 (fun r:Rng=>r.lo) 0 default (by rw [D8]; exact h),Bch h]
theorem Bck {s:Sto} {k:Nat} (h:k < s.c.length):(hiX s).getD k 0=(D6 s (s.c.getD k default)).hi:=by
 show ((J8 s s.c.length).map (·.hi)).getD k 0=_
 rw [E6 (fun r:Rng=>r.hi) 0 default (by rw [D8]; exact h),Bch h]
theorem Bce {l:List Int} {k:Nat} {x:Int} (h:k < l.length) (e:l.getD k 0=x):((l.take k).map V3)++[[iv x]]=(l.take (k+1)).map V3:=by
 rw [List.take_add_one,List.map_append,← e]
 simp [h,List.getD]
theorem nlo {s:Sto} {k:Nat} (h:k < s.c.length):((loX s).take k).map V3++[[iv (D6 s (s.c.getD k default)).lo]]=((loX s).take (k+1)).map V3:=Bce (by rw [Amo]; exact h) (Bcl h)
theorem nhi {s:Sto} {k:Nat} (h:k < s.c.length):((hiX s).take k).map V3++[[iv (D6 s (s.c.getD k default)).hi]]=((hiX s).take (k+1)).map V3:=Bce (by rw [Al5]; exact h) (Bck h)
theorem Bci {s:Sto} (hS:Ku s):Axm s (loX s):=⟨Amo,fun i hi=>by
 rw [Bcl hi]
 have:=Al0 hS (Ee default hi)
 omega⟩
theorem Bcj {s:Sto} (hS:Ku s):Axm s (hiX s):=⟨Al5,fun i hi=>by
 rw [Bck hi]
 have:=Al0 hS (Ee default hi)
 omega⟩
theorem Bcd {s:Sto} (h:Ku s):∀ c ∈ s.c,0≤(D6 s c).lo∧(D6 s c).hi≤2000:=fun c hc=>by
 have:=Al0 h hc
 omega
theorem Bcc {s:Sto}:(chL s).length=s.c.length:=by simp [chL]
theorem Bcq {s:Sto} {i:Nat} (h:i < s.c.length):(chL s).getD i (0,0)=((tlX s).getD i 0,(thX s).getD i 0):=by
 unfold chL
 rw [E6 _ (0,0) 0 (by simpa using h)]
 simp [List.getD,h]
theorem Bcu {s:Sto} {i:Nat} (h:i < s.c.length):(((chL s).take i).map Dty.chE).map Duty.Lb++[[iv 0,iv 0,iv ((tlX s).getD i 0),iv ((thX s).getD i 0),iv 0]]=(((chL s).take (i+1)).map Dty.chE).map Duty.Lb:=by
 rw [List.take_add_one,List.map_append,List.map_append]
 have e:(chL s)[i]?=some ((tlX s).getD i 0,(thX s).getD i 0):=by
  rw [List.getElem?_eq_getElem (by rw [Bcc]; exact h),List.getElem_eq_getD (0,0),Bcq h]
 rw [e]; rfl
end AM.Try
end
/- The top law: the duty on a store is the debt of an account. -/
section
namespace AM.Try
open Go AM AM.Wort Go.Proofs
open Nat renaming reduceLT→sA,reduceAdd→sB,reduceMul→sC,reduceSub→sD,reduceLeDiff→sE,reduceEqDiff→sF,reduceBEq→sG
open Int renaming reduceAdd→sH,reduceSub→sI,reduceMul→sJ,reduceLT→sK,reduceLE→sL,reduceNeg→sM,reduceToNat→sN,reduceEq→sO
set_option maxRecDepth 100000
set_option maxHeartbeats 16000000
theorem neD {a b:Int} (ha:0≤a∧a≤300000) (hb:0≤b∧b≤300000):Gd Try.prog .neq 90 (some [a,b]) (some [a,b])=some (.pure (bl false)):=by
  have h:([a,b]:List Int).all inR=true:=by
    simp only [List.all_cons,List.all_nil,inR,Bool.and_true,Bool.and_eq_true,decide_eq_true_eq]; omega
  rw [Aev (a:=[a,b]) (b:=[a,b]) Dty.ints54 rfl h h,decide_eq_true rfl]; rfl
theorem Bcm {b p:Int} {l:List (Int × Int)}:[i64 0,i64 0,i64 b,i64 0,AV.p (.sl [[iv 0,iv p]]),.p (.sl ((l.map Dty.chE).map Duty.Lb))]=Dty.cA (Dty.chA b p l):=rfl
theorem Bcb {b p:Int} {l:List (Int × Int)}:(Dty.chA b p l).rates.length < 1000000:=by simp [Dty.chA]
theorem Bca {b p:Int} {l:List (Int × Int)} (h:l.length≤9):(Dty.chA b p l).entries.length < 1000000:=by simp [Dty.chA]; omega
theorem Bco {b p:Int} {l:List (Int × Int)} (hf:Dty.Aq (Dty.chA b p l)=0):∀ e ∈ (Dty.chA b p l).entries,inR e.lo=true∧inR e.hi=true:=fun e he=>by
  obtain ⟨x,hx,rfl⟩:=List.mem_map.1 he
  have h1:=(Dty.Vd hf).2.2 x hx
  show inR x.1=true∧inR x.2=true
  simp only [inR,Bool.and_eq_true,decide_eq_true_eq]; omega
theorem Bcs {b p:Int} {l:List (Int × Int)} (hf:Dty.Aq (Dty.chA b p l)=0) (hp:0≤p):p * Dty.sumI (l.map (·.1))≤p * Dty.sumI (l.map (·.2)):=
  Int.mul_le_mul_of_nonneg_left (Dty.Xt (Dty.Aeo fun x h=>((Dty.Vd hf).2.2 x h).2.1)).2 hp
theorem c_topD (s:Sto) (w:Int) (hw:0≤w∧w≤255):Bf Try.prog 4 [avO s,.p (.val (.int .u8 w))] (bl true):=by
  refine Au (v:=[]) (q:=[]) (N:=225) (rs:=[.tmp 4]) Try.func4 rfl rfl rfl rfl rfl ?_
  refine Af fun K1 hK1=>?_
  simp (disch:=omega) only [eq_self,amL,sA,sB,↓reduceIte]
  refine hK1 _ ?_
  refine Aa fun K2 hK2=>?_
  refine Af fun K3 hK3=>?_
  simp (disch:=omega) only [eq_self,amL,amT,sA,sB,sF,↓reduceIte]
  repeat' first | (refine B2 (fun h=>?_) (fun h=>?_) <;> simp (disch:=omega) only [h,ne_eq,eq_self,decide_false,amL,amT,sA,sF,sO,↓reduceIte,reduceCtorEq]) | (refine Ba (fun h=>?_) (fun h=>?_) <;> simp (disch:=omega) only [h,eq_self,amL,amT,sA,sB,sF,↓reduceIte]) | (refine Am (by kernel_rfl) rfl (Awg s) (by first | exact .inl rfl | exact .inr (.inl rfl)) ?_ ; simp (disch:=omega) only [eq_self,amL,sA,↓reduceIte]) | (refine Am (by kernel_rfl) rfl (by have q:=Bcn (s:=s) (by first | assumption | (simpa using (by assumption:(!Aoj s)=false))); exact Aqp s q.1 q.2.1 q.2.2.1 q.2.2.2.1 q.2.2.2.2) (by first | exact .inl rfl | exact .inr (.inl rfl)) ?_ ; simp (disch:=omega) only [ne_eq,eq_self,amL,amT,sA,sF,↓reduceIte])
  all_goals
   skip
   refine hK3 _ ?_
   refine Ag rfl (fun h=>MT.x ?_) (fun h=>ME.x ?_)
   all_goals
    first
    |refine MT.mk ?_
     first
     |exact Bool.noConfusion h
     |skip
      try simp only [nrm] at h
      refine Af fun K4 hK4=>?_
      simp (disch:=omega) only [amL]
      repeat' first | (refine Am (by kernel_rfl) rfl (Aqo) (by first | exact .inl rfl | exact .inr (.inl rfl)) ?_ ; simp (disch:=omega) only [eq_self,amL,sA,↓reduceIte])
      refine hK4 _ ?_
      refine Ae ?_
      try simp (disch:=omega) only [eq_self,amL,↓reduceIte]
      all_goals first | rfl | trace_state
    |refine ME.mk ?_
     first
     |exact Bool.noConfusion h
     |skip
      try simp only [nrm] at h
      refine Aj ?_
      refine hK2 _ ?_
   all_goals
    skip
    refine Aa fun K5 hK5=>?_
    have hth:Aoj s=true:=by first | assumption | (simpa using (by assumption:(!Aoj s)=false)) | (trace_state; fail)
    have hfa:J9 s=0:=by omega
    have hc0:0 < s.c.length:=by omega
    have hS:=At5 hfa
    have hrr:=hS.r
    simp only [inB,Bool.and_eq_true,decide_eq_true_eq] at hrr
    have htm:=Int.tmod_eq_emod_of_nonneg (b:=10) hrr.1
    have hr0:s.r % 10=0:=by omega
    have hls:=by have q:=Bcn hth; exact Aqt s q.1 q.2.1 q.2.2.1 q.2.2.2.1 q.2.2.2.2
    obtain ⟨p,dl,dh,hO⟩:=Bb9 hS hr0
    have hdt:=Agg hS (Yz hS)
    rw [hO.lo,hO.hi] at hdt
    have h6:=hS.n
    have hcl:(chL s).length≤9:=by rw [Bcc]; omega
    have hp0:=hO.p0
    have hwp:IntKind.i64.wrap p=p:=Gk (by have:=hO.p1; omega) (by have:=hO.p1; omega)
    refine Ac ?_
    simp (disch:=omega) only [eq_self,amL,amT,sA,sB,sF,↓reduceIte]
    repeat' first | (refine Am (by kernel_rfl) rfl (hls) (by first | exact .inl rfl | exact .inr (.inl rfl)) ?_ ; simp (disch:=omega) only [eq_self,amL,↓reduceIte]) | (refine Am (by kernel_rfl) rfl (Ama (by assumption)) (by first | exact .inl rfl | exact .inr (.inl rfl)) ?_ ; simp (disch:=omega) only [eq_self,amL,sA,sF,↓reduceIte])
    refine hK5 _ ?_
    refine Aa fun K6 hK6=>?_
    refine Af fun K7 hK7=>?_
    simp (disch:=omega) only [D8,ne_eq,eq_self,not_true_eq_false,decide_false,amL,amT,sA,sF,↓reduceIte,reduceCtorEq]
    repeat' first | (refine B2 (fun h=>?_) (fun h=>?_) <;> simp (disch:=omega) only [h,D8,E8,B1,ne_eq,eq_self,not_true_eq_false,decide_false,Aei,Aek,Yk,Aav,Aae,Adu,Un,Pm,Jp,amL,amT,sA,sB,sC,sD,sE,sF,sG,sH,sI,sJ,sK,sL,sM,sN,sO,↓reduceIte,reduceCtorEq]) | (refine Ba (fun h=>?_) (fun h=>?_) <;> simp (disch:=omega) only [h,D8,E8,B1,ne_eq,eq_self,not_true_eq_false,decide_false,Aei,Aek,Yk,Aav,Aae,Adu,Un,Pm,Jp,amL,amT,sA,sB,sC,sD,sE,sF,sG,sH,sI,sJ,sK,sL,sM,sN,sO,↓reduceIte,reduceCtorEq])
    all_goals
     skip
     refine hK7 _ ?_
     refine Ag rfl (fun h=>MT.x ?_) (fun h=>ME.x ?_)
     all_goals
      first
      |refine MT.mk ?_
       first
       |exact Bool.noConfusion h
       |skip
        try simp only [nrm] at h
        refine Af fun K8 hK8=>?_
        simp (disch:=omega) only [D8,E8,B1,ne_eq,eq_self,not_true_eq_false,decide_false,Aei,Aek,Yk,Aav,Aae,Adu,Un,Pm,Jp,amL,amT,sA,sB,sC,sD,sE,sF,sG,sH,sI,sJ,sK,sL,sM,sN,sO,↓reduceIte,reduceCtorEq]
        refine hK8 _ ?_
        refine Ae ?_
        try simp (disch:=omega) only [D8,E8,B1,ne_eq,eq_self,not_true_eq_false,decide_false,Aei,Aek,Yk,Aav,Aae,Adu,Un,Pm,Jp,amL,amT,sA,sB,sC,sD,sE,sF,sG,sH,sI,sJ,sK,sL,sM,sN,sO,↓reduceIte,reduceCtorEq]
        all_goals first | rfl | trace_state
      |refine ME.mk ?_
       first
       |exact Bool.noConfusion h
       |skip
        try simp only [] at h
        refine Aj ?_
        refine hK6 _ ?_
     all_goals
      skip
      refine Af fun K9 hK9=>?_
      simp (disch:=omega) only [eq_self,amL,sA]
      refine hK9 _ ?_
      refine Aa fun K10 hK10=>?_
      refine Af fun K11 hK11=>?_
      simp (disch:=omega) only [eq_self,amL,sA]
      refine hK11 _ ?_
      refine Ai ?_
      refine Acz 74 1 7 (by decide) rfl rfl ?_
      refine Acz 82 1 8 (by decide) rfl rfl ?_
      refine A7 (α:=Nat) (fun k=>⟨T [(1,.p (.val (.int .u8 w))),(2,.ptr 2 0),(5,.p (.sl ((J8 s s.c.length).map F2))),(7,.own 74 k),(8,.own 82 k),(9,i64 (k:Int))],O [(2,.cells (cO s)),(74,.arr 1 (((loX s).take k).map V3)),(82,.arr 1 (((hiX s).take k).map V3))]⟩) (fun k=>s.c.length - k) (fun k=>k≤s.c.length) 0 ?_ ?_ (fun k hx12 K12 hK12=>?_)
      · exact Nat.zero_le _
      · refine B7 ?_ ?_ ?_ ?_ <;> (try simp (disch:=omega) only [eq_self,amL,sF,sG,↓reduceIte,reduceCtorEq]); all_goals first | rfl | trace_state
      have hk:=hx12
      refine Aa fun K13 hK13=>?_
      refine Af fun K14 hK14=>?_
      simp (disch:=omega) only [D8,eq_self,amL,amT,sA,sF,↓reduceIte]
      refine hK14 _ ?_
      refine Ag rfl (fun h=>MT.x ?_) (fun h=>ME.x ?_)
      all_goals
       first
       |refine MT.mk ?_
        first
        |exact Bool.noConfusion h
        |skip
         try simp only [nrm] at h
         refine Aj ?_
         refine hK13 _ ?_
       |refine ME.mk ?_
        first
        |exact Bool.noConfusion h
        |skip
         try simp only [nrm] at h
         refine Bg ?_
         refine hK10 _ ?_
         refine Aa fun K15 hK15=>?_
         obtain rfl:k=s.c.length:=by omega
         rw [show (loX s).take s.c.length=loX s from List.take_of_length_le (by rw [Amo]; exact Nat.le_refl _),show (hiX s).take s.c.length=hiX s from List.take_of_length_le (by rw [Al5]; exact Nat.le_refl _)]
         have l1:((loX s).map V3).length=s.c.length:=by rw [List.length_map,Amo]
         have l2:((hiX s).map V3).length=s.c.length:=by rw [List.length_map,Al5]
         have t1:((loX s).map V3).take s.c.length=(loX s).map V3:=List.take_of_length_le (by rw [l1]; exact Nat.le_refl _)
         have t2:((hiX s).map V3).take s.c.length=(hiX s).map V3:=List.take_of_length_le (by rw [l2]; exact Nat.le_refl _)
         generalize h1:(loX s).map V3=A1 at l1 t1
         generalize h2:(hiX s).map V3=A2 at l2 t2
         refine Bcf 74 rfl ?_
         refine Bcf 82 rfl ?_
         simp only [Ail,Bcg,AV.frz,AO.frz,List.map_cons,List.map_nil,Nat.reduceEqDiff,if_false,if_true,Nat.le_refl,l1,l2,t1,t2]
         rw [← h1,← h2]
         refine Ac ?_
         simp (disch:=omega) only [eq_self,amL,amT,sA,sB,sF,↓reduceIte]
         repeat' first | (refine Am (by kernel_rfl) rfl (hls) (by first | exact .inl rfl | exact .inr (.inl rfl)) ?_ ; simp (disch:=omega) only [eq_self,amL,sA,sF,↓reduceIte]) | (refine Am (by kernel_rfl) rfl (by first | exact Aqs hS (Bci hS) (Bcd hS) | exact Aqs hS (Bcj hS) (Bcd hS)) (by first | exact .inl rfl | exact .inr (.inl rfl)) ?_ ; simp (disch:=omega) only [eq_self,amL,sA,sF,↓reduceIte])
         refine hK15 _ ?_
         refine Af fun K16 hK16=>?_
         simp (disch:=omega) only [eq_self,amL,amT,sA,sB,sF,↓reduceIte]
         repeat' first | (refine Am (by kernel_rfl) rfl (hls) (by first | exact .inl rfl | exact .inr (.inl rfl)) ?_ ; simp (disch:=omega) only [eq_self,amL,sA,sF,↓reduceIte]) | (refine Am (by kernel_rfl) rfl (by first | exact Aqs hS (Bci hS) (Bcd hS) | exact Aqs hS (Bcj hS) (Bcd hS)) (by first | exact .inl rfl | exact .inr (.inl rfl)) ?_ ; simp (disch:=omega) only [eq_self,amL,sA,sF,↓reduceIte])
         refine hK16 _ ?_
         refine Af fun K17 hK17=>?_
         simp (disch:=omega) only [eq_self,amL,amT,sA,sB,sF,↓reduceIte]
         repeat' first | (refine Am (by kernel_rfl) rfl (hls) (by first | exact .inl rfl | exact .inr (.inl rfl)) ?_ ; simp (disch:=omega) only [eq_self,amL,↓reduceIte]) | (refine Am (by kernel_rfl) rfl (hdt) (by first | exact .inl rfl | exact .inr (.inl rfl)) ?_ ; simp (disch:=omega) only [eq_self,amL,amT,sA,sB,sF,↓reduceIte])
         refine hK17 _ ?_
         refine Aa fun K18 hK18=>?_
         refine Af fun K19 hK19=>?_
         simp (disch:=omega) only [D8,E8,ne_eq,eq_self,not_true_eq_false,decide_false,amL,amT,sA,sF,↓reduceIte]
         repeat' first | (refine B2 (fun h=>?_) (fun h=>?_) <;> simp (disch:=omega) only [h,D8,E8,B1,ne_eq,eq_self,not_true_eq_false,decide_false,Aei,Aek,Yk,Aav,Aae,Adu,Un,Pm,Jp,amL,amT,sA,sB,sC,sD,sE,sF,sG,sH,sI,sJ,sK,sL,sM,sN,sO,↓reduceIte,reduceCtorEq]) | (refine Ba (fun h=>?_) (fun h=>?_) <;> simp (disch:=omega) only [h,D8,E8,B1,ne_eq,eq_self,not_true_eq_false,decide_false,Aei,Aek,Yk,Aav,Aae,Adu,Un,Pm,Jp,amL,amT,sA,sB,sC,sD,sE,sF,sG,sH,sI,sJ,sK,sL,sM,sN,sO,↓reduceIte,reduceCtorEq])
         all_goals
          skip
          refine hK19 _ ?_
          refine Ag rfl (fun h=>MT.x ?_) (fun h=>ME.x ?_)
          all_goals
           first
           |refine MT.mk ?_
            first
            |exact Bool.noConfusion h
            |skip
             try simp only [nrm] at h
             refine Af fun K20 hK20=>?_
             simp (disch:=omega) only [D8,E8,B1,ne_eq,eq_self,not_true_eq_false,decide_false,Aei,Aek,Yk,Aav,Aae,Adu,Un,Pm,Jp,amL,amT,sA,sB,sC,sD,sE,sF,sG,sH,sI,sJ,sK,sL,sM,sN,sO,↓reduceIte,reduceCtorEq]
             refine hK20 _ ?_
             refine Ae ?_
             try simp (disch:=omega) only [D8,E8,B1,ne_eq,eq_self,not_true_eq_false,decide_false,Aei,Aek,Yk,Aav,Aae,Adu,Un,Pm,Jp,amL,amT,sA,sB,sC,sD,sE,sF,sG,sH,sI,sJ,sK,sL,sM,sN,sO,↓reduceIte,reduceCtorEq]
             all_goals first | rfl | trace_state
           |refine ME.mk ?_
            first
            |exact Bool.noConfusion h
            |skip
             try simp only [] at h
             refine Aj ?_
             refine hK18 _ ?_
          all_goals
           skip
           refine Aa fun K21 hK21=>?_
           refine Rg [false,false,false,false,true] ?_
           simp (disch:=omega) only [hO.pr,hwp,eq_self,Aav,Aae,Adu,Un,Pm,Jp,amL,amT,sA,sB,sC,sE,sF,sO,↓reduceIte,reduceCtorEq]
           refine hK21 _ ?_
           refine Aa fun K22 hK22=>?_
           refine Af fun K23 hK23=>?_
           simp (disch:=omega) only [eq_self,amL,sA]
           refine hK23 _ ?_
           refine Ai ?_
           refine Jv 154 5 16 5 (by decide) rfl rfl rfl ?_
           refine A7 (α:=Nat) (fun i=>⟨T [(1,.p (.val (.int .u8 w))),(5,.p (.sl ((J8 s s.c.length).map F2))),(10,isl (Rz s (loX s) s.c.length)),(12,isl (Rz s (hiX s) s.c.length)),(14,.ptr 14 0),(16,.ptr 16 0),(17,i64 (i:Int))],O [(14,.cells [i64 dl,i64 dh]),(16,.cells [i64 0,i64 0,i64 dh,i64 0,.p (.sl [[iv 0,iv p]]),.own 154 i]),(154,.arr 5 ((((chL s).take i).map Dty.chE).map Duty.Lb))]⟩) (fun i=>s.c.length - i) (fun i=>i≤s.c.length) 0 ?_ ?_ (fun i hx24 K24 hK24=>?_)
           · exact Nat.zero_le _
           · refine B7 ?_ ?_ ?_ ?_ <;> (try simp (disch:=omega) only [eq_self,amL,sF,sG,↓reduceIte]); all_goals first | rfl | trace_state
           have hi:=hx24
           refine Aa fun K25 hK25=>?_
           refine Af fun K26 hK26=>?_
           simp (disch:=omega) only [D8,eq_self,amL,amT,sA,sF,↓reduceIte]
           refine hK26 _ ?_
           refine Ag rfl (fun h=>MT.x ?_) (fun h=>ME.x ?_)
           all_goals
            first
            |refine MT.mk ?_
             first
             |exact Bool.noConfusion h
             |skip
              try simp only [nrm] at h
              refine Aj ?_
              refine hK25 _ ?_
            |refine ME.mk ?_
             first
             |exact Bool.noConfusion h
             |skip
              try simp only [nrm] at h
              refine Bg ?_
              refine hK22 _ ?_
              refine Aa fun K27 hK27=>?_
              refine Aa fun K28 hK28=>?_
              obtain rfl:i=s.c.length:=by omega
              rw [show (chL s).take s.c.length=chL s from List.take_of_length_le (by rw [Bcc]; exact Nat.le_refl _)]
              have l1:(((chL s).map Dty.chE).map Duty.Lb).length=s.c.length:=by rw [List.length_map,List.length_map,Bcc]
              have t1:(((chL s).map Dty.chE).map Duty.Lb).take s.c.length=((chL s).map Dty.chE).map Duty.Lb:=List.take_of_length_le (by rw [l1]; exact Nat.le_refl _)
              generalize h1:((chL s).map Dty.chE).map Duty.Lb=A1 at l1 t1
              refine Bcf 154 rfl ?_
              simp only [Ail,Bcg,AV.frz,AO.frz,List.map_cons,List.map_nil,Nat.reduceEqDiff,if_false,if_true,Nat.le_refl,l1,t1]
              rw [← h1,Bcm]
              refine Ac ?_
              simp (disch:=omega) only [eq_self,amL,amT,sA,sB,sF,↓reduceIte]
              repeat' first | (refine Am (by kernel_rfl) rfl (Dty.c61 (Dty.chA dh p (chL s)) Bcb (Bca hcl)) (by first | exact .inl rfl | exact .inr (.inl rfl)) ?_ ; simp (disch:=omega) only [ne_eq,eq_self,amL,amT,sA,↓reduceIte])
              refine hK28 _ ?_
              refine Ag rfl (fun h=>MT.x ?_) (fun h=>ME.x ?_)
              all_goals
               first
               |refine MT.mk ?_
                first
                |exact Bool.noConfusion h
                |skip
                 try simp only [nrm] at h
                 refine Af fun K29 hK29=>?_
                 simp (disch:=omega) only [amL]
                 repeat' first | (refine Am (by kernel_rfl) rfl (Aqo) (by first | exact .inl rfl | exact .inr (.inl rfl)) ?_ ; simp (disch:=omega) only [eq_self,amL,sA,↓reduceIte])
                 refine hK29 _ ?_
                 refine Ae ?_
                 try simp (disch:=omega) only [eq_self,amL,↓reduceIte]
                 all_goals first | rfl | trace_state
               |refine ME.mk ?_
                first
                |exact Bool.noConfusion h
                |skip
                 try simp only [nrm] at h
                 refine Aj ?_
                 refine hK27 _ ?_
              all_goals
               skip
               refine Aa fun K30 hK30=>?_
               have hf:Dty.Aq (Dty.chA dh p (chL s))=0:=by omega
               have hbn:=Dty.c30 (Dty.chA dh p (chL s)) Bcb (Bca hcl) (Bco hf)
               rw [Dty.Aqr hf hp0,hO.slo,hO.shi] at hbn
               have hk1:=Dty.c31 (Dty.chA dh p (chL s)) Bcb (Bca hcl) (Bco hf)
               rw [Dty.Aqq hf hp0 (by rw [hO.shi]; exact Int.le_refl _)] at hk1
               have hne:=neD (a:=dl) (b:=dh) ⟨hO.l0,hO.l1⟩ ⟨hO.h0,hO.h1⟩
               have hl0:=hO.l0
               have hl1:=hO.l1
               refine Ac ?_
               simp (disch:=omega) only [eq_self,amL,amT,sA,sB,sF,↓reduceIte]
               repeat' first | (refine Am (by kernel_rfl) rfl (by first | exact Dty.c22 (Dty.chA dh p (chL s)) Bcb (Bca hcl) | exact Dty.c22 (Dty.chA (dl - 1 - w % 9) p (chL s)) Bcb (Bca hcl)) (by first | exact .inl rfl | exact .inr (.inl rfl)) ?_ ; simp (disch:=omega) only [eq_self,amL,↓reduceIte]) | (refine Am (by kernel_rfl) rfl (hbn) (by first | exact .inl rfl | exact .inr (.inl rfl)) ?_ ; simp (disch:=omega) only [eq_self,amL,sA,sF,↓reduceIte])
               refine hK30 _ ?_
               refine Af fun K31 hK31=>?_
               simp (disch:=omega) only [eq_self,amL,amT,sA,sB,sF,↓reduceIte]
               repeat' first | (refine Am (by kernel_rfl) rfl (by first | exact Dty.c22 (Dty.chA dh p (chL s)) Bcb (Bca hcl) | exact Dty.c22 (Dty.chA (dl - 1 - w % 9) p (chL s)) Bcb (Bca hcl)) (by first | exact .inl rfl | exact .inr (.inl rfl)) ?_ ; simp (disch:=omega) only [eq_self,amL,↓reduceIte]) | (refine Am (by kernel_rfl) rfl (by first | exact hk1 | exact hk2) (by first | exact .inl rfl | exact .inr (.inl rfl)) ?_ ; simp (disch:=omega) only [eq_self,amL,sA,sF,↓reduceIte])
               refine hK31 _ ?_
               refine Aa fun K32 hK32=>?_
               refine Aa fun K33 hK33=>?_
               refine Bk (by kernel_rfl) (by kernel_rfl) ?_
               simp (disch:=omega) only [hne,ne_eq,eq_self,not_true_eq_false,decide_false,amL,amT,sA,sB,sE,sF,sH,sK,sL,sN,↓reduceIte,reduceCtorEq]
               repeat' first | (refine B2 (fun h=>?_) (fun h=>?_) <;> simp (disch:=omega) only [h,hne,D8,E8,B1,ne_eq,eq_self,not_true_eq_false,decide_false,Aei,Aek,Yk,Aav,Aae,Adu,Un,Pm,Jp,amL,amT,sA,sB,sC,sD,sE,sF,sG,sH,sI,sJ,sK,sL,sM,sN,sO,↓reduceIte,reduceCtorEq]) | (refine Ba (fun h=>?_) (fun h=>?_) <;> simp (disch:=omega) only [h,hne,D8,E8,B1,ne_eq,eq_self,not_true_eq_false,decide_false,Aei,Aek,Yk,Aav,Aae,Adu,Un,Pm,Jp,amL,amT,sA,sB,sC,sD,sE,sF,sG,sH,sI,sJ,sK,sL,sM,sN,sO,↓reduceIte,reduceCtorEq])
               all_goals
                skip
                refine hK33 _ ?_
                refine Ag rfl (fun h=>MT.x ?_) (fun h=>ME.x ?_)
                all_goals
                 first
                 |refine MT.mk ?_
                  first
                  |exact Bool.noConfusion h
                  |skip
                   try simp only [nrm] at h
                   refine Af fun K34 hK34=>?_
                   simp (disch:=omega) only [D8,E8,B1,ne_eq,eq_self,not_true_eq_false,decide_false,Aei,Aek,Yk,Aav,Aae,Adu,Un,Pm,Jp,amL,amT,sA,sB,sC,sD,sE,sF,sG,sH,sI,sJ,sK,sL,sM,sN,sO,↓reduceIte,reduceCtorEq]
                   refine hK34 _ ?_
                   refine Ae ?_
                   try simp (disch:=omega) only [D8,E8,B1,ne_eq,eq_self,not_true_eq_false,decide_false,Aei,Aek,Yk,Aav,Aae,Adu,Un,Pm,Jp,amL,amT,sA,sB,sC,sD,sE,sF,sG,sH,sI,sJ,sK,sL,sM,sN,sO,↓reduceIte,reduceCtorEq]
                   all_goals first | rfl | trace_state
                 |refine ME.mk ?_
                  first
                  |exact Bool.noConfusion h
                  |skip
                   try simp only [] at h
                   refine Aj ?_
                   refine hK32 _ ?_
                all_goals
                 skip
                 refine Af fun K35 hK35=>?_
                 simp (disch:=omega) only [eq_self,amL,amT,sA,sB,sE,sF,sO,↓reduceIte,reduceCtorEq]
                 refine hK35 _ ?_
                 refine Aa fun K36 hK36=>?_
                 refine Af fun K37 hK37=>?_
                 simp (disch:=omega) only [eq_self,amL,amT,sA,sF,↓reduceIte,reduceCtorEq]
                 refine hK37 _ ?_
                 refine Ag rfl (fun h=>MT.x ?_) (fun h=>ME.x ?_)
                 all_goals
                  first
                  |refine MT.mk ?_
                   first
                   |exact Bool.noConfusion h
                   |skip
                    try simp only [nrm] at h
                    refine Af fun K38 hK38=>?_
                    simp (disch:=omega) only [amL]
                    repeat' first | (refine Am (by kernel_rfl) rfl (Aqo) (by first | exact .inl rfl | exact .inr (.inl rfl)) ?_ ; simp (disch:=omega) only [eq_self,amL,sA,↓reduceIte])
                    refine hK38 _ ?_
                    refine Ae ?_
                    try simp (disch:=omega) only [eq_self,amL,↓reduceIte]
                    all_goals first | rfl | trace_state
                  |refine ME.mk ?_
                   first
                   |exact Bool.noConfusion h
                   |skip
                    try simp only [nrm] at h
                    refine Aj ?_
                    refine hK36 _ ?_
                 all_goals
                  skip
                  refine Aa fun K39 hK39=>?_
                  have hle:=Bcs hf hp0
                  rw [hO.slo,hO.shi] at hle
                  have hf2:=Dty.ch_fault (b':=dl - 1 - w % 9) hf (by omega) (by omega)
                  have hk2:=Dty.c31 (Dty.chA (dl - 1 - w % 9) p (chL s)) Bcb (Bca hcl) (Bco hf2)
                  rw [Dty.Axj hf2 hp0 (by rw [hO.slo]; omega)] at hk2
                  refine Ac ?_
                  simp (disch:=omega) only [eq_self,amL,amT,sA,sB,sF,↓reduceIte]
                  repeat' first | (refine Am (by kernel_rfl) rfl (by first | exact Dty.c22 (Dty.chA dh p (chL s)) Bcb (Bca hcl) | exact Dty.c22 (Dty.chA (dl - 1 - w % 9) p (chL s)) Bcb (Bca hcl)) (by first | exact .inl rfl | exact .inr (.inl rfl)) ?_ ; simp (disch:=omega) only [eq_self,amL,↓reduceIte]) | (refine Am (by kernel_rfl) rfl (by first | exact hk1 | exact hk2) (by first | exact .inl rfl | exact .inr (.inl rfl)) ?_ ; simp (disch:=omega) only [eq_self,amL,sA,sF,↓reduceIte])
                  refine hK39 _ ?_
                  refine Af fun K40 hK40=>?_
                  simp (disch:=omega) only [eq_self,amL,amT,sA,sF,↓reduceIte]
                  repeat' first | (refine B2 (fun h=>?_) (fun h=>?_) <;> simp (disch:=omega) only [h,D8,E8,B1,ne_eq,eq_self,not_true_eq_false,decide_false,Aei,Aek,Yk,Aav,Aae,Adu,Un,Pm,Jp,amL,amT,sA,sB,sC,sD,sE,sF,sG,sH,sI,sJ,sK,sL,sM,sN,sO,↓reduceIte,reduceCtorEq]) | (refine Ba (fun h=>?_) (fun h=>?_) <;> simp (disch:=omega) only [h,D8,E8,B1,ne_eq,eq_self,not_true_eq_false,decide_false,Aei,Aek,Yk,Aav,Aae,Adu,Un,Pm,Jp,amL,amT,sA,sB,sC,sD,sE,sF,sG,sH,sI,sJ,sK,sL,sM,sN,sO,↓reduceIte,reduceCtorEq]) | (refine Am (by kernel_rfl) rfl (Aqo) (by first | exact .inl rfl | exact .inr (.inl rfl)) ?_ ; simp (disch:=omega) only [eq_self,amL,sA,sF,↓reduceIte])
                  all_goals
                   skip
                   refine hK40 _ ?_
                   refine Ae ?_
                   try simp (disch:=omega) only [eq_self,amL,↓reduceIte]
                   all_goals first | rfl | trace_state
           all_goals
            skip
            refine Aa fun K41 hK41=>?_
            refine Ai ?_
            refine Bk (by kernel_rfl) (by kernel_rfl) ?_
            have hi2:i < s.c.length:=by omega
            have hti:((chL s).take i).length=i:=by rw [List.length_take,Bcc]; omega
            have q1:((Rz s (loX s) s.c.length).map fun n=>[iv n]).getD i []=[iv ((Rz s (loX s) s.c.length).getD i 0)]:=B1 (by rw [E8]; exact hi2)
            have q2:((Rz s (hiX s) s.c.length).map fun n=>[iv n]).getD i []=[iv ((Rz s (hiX s) s.c.length).getD i 0)]:=B1 (by rw [E8]; exact hi2)
            simp (disch:=omega) only [q1,q2,hti,E8,eq_self,amL,amT,sA,sB,sC,sE,sF,↓reduceIte,reduceCtorEq]
            refine hK41 _ ?_
            refine Ac ?_
            simp (disch:=omega) only [eq_self,amL,amT,sA,sF,↓reduceIte]
            refine hK24 (i+1) _ ?_ ?_ (B7 ?_ ?_ ?_ ?_)
            all_goals (try simp (disch:=omega) only [eq_self,amL,sF,sG,↓reduceIte])
            all_goals first | omega | exact congrArg (AO.arr 5) (Bcu hi2) | trace_state
      all_goals
       skip
       refine Aa fun K42 hK42=>?_
       refine Ai ?_
       refine Xk [] [70,71,72,73,78,79,80,81] (by kernel_rfl) (by kernel_rfl) (by kernel_rfl) ⟨by rfl,by rfl,by rfl,by rfl,by rfl,by rfl,by rfl,by rfl,trivial⟩ ?_
       have hk2:k < s.c.length:=by omega
       have hkn:=Axw hk2
       have htl:((loX s).take k).length=k:=by rw [List.length_take,Amo]; omega
       have hth2:((hiX s).take k).length=k:=by rw [List.length_take,Al5]; omega
       simp (disch:=omega) only [hkn,htl,hth2,D8,eq_self,amL,amT,sA,sB,sE,sF,↓reduceIte,reduceCtorEq]
       refine hK42 _ ?_
       refine Ac ?_
       simp (disch:=omega) only [eq_self,amL,amT,sA,sF,↓reduceIte]
       refine hK12 (k+1) _ ?_ ?_ (B7 ?_ ?_ ?_ ?_)
       all_goals (try simp (disch:=omega) only [eq_self,amL,sF,sG,↓reduceIte])
       all_goals first | omega | exact ⟨congrArg (AO.arr 1) (nlo hk2),congrArg (AO.arr 1) (nhi hk2)⟩ | trace_state
theorem c_topBonded (s:Sto) (w:Nat) (_:True) (hw:w < 256):Bf Try.prog 4 [avO s,.p (.val (.int .u8 (w:Int)))] (bl true):=c_topD s w (by omega)
end AM.Try
end
