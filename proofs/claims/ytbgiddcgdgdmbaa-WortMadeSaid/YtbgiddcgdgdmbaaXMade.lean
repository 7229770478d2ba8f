/- Lemmas for the proof: more of the program's functions, walked on the abstract machine. -/
import Derived.Test.YtbgiddcgdgdmbaaQ6
/- The abstract machine, part 48: an array of one's own is written no more: what refers to it is a value from then on. -/
section
namespace AM
open Go Go.Proofs
section
variable {P:Program} {r:RB} {N B:Nat} {S:Nat→Prop} {θ:Nat→Loc} {M M2:Nat→Prop} {w:World} {st:St} {a:Act} {Q:AEx→St→Prop} {n:Nat} {es:List (List PV)}
def frzO (n:Nat) (es:List (List PV)):List (Nat × AO)→List (Nat × AO)
 | []=>[]
 | (j,x) :: l=>if j=n then frzO n es l else (j,x.frz n es) :: frzO n es l
theorem frz_O {l:List (Nat × AO)}:(fun m=>if m=n then none else (O l m).map (AO.frz n es))=O (frzO n es l):=by
 funext m
 induction l with
 | nil=>simp [O,frzO]
 | cons p l ih=>
  obtain ⟨j,x⟩:=p
  simp only [O,frzO]
  by_cases e:m=n
  ·subst e
   simp only [if_true] at ih ⊢
   split
   ·exact ih
   ·simp only [O]
    rw [if_neg (fun h=>by omega)]; exact ih
  ·rw [if_neg e] at ih ⊢
   by_cases e2:m=j
   ·subst e2
    rw [if_neg e]
    simp [O]
   ·rw [if_neg e2]
    split
    ·exact ih
    ·simp only [O]; rw [if_neg e2]; exact ih
theorem frz_mk {l:List (Nat × AV)} {m:List (Nat × AO)}:St.frz n es ⟨T l,O m⟩=⟨T (Xb n es l),O (frzO n es m)⟩:=by
 unfold St.frz; rw [Au1,frz_O]
end
section
variable {P:Program} {r:RB} {N:Nat} {st:St} {Q:AEx→St→Prop} {c m:Nat}
theorem awp_frz' {cd:Code} {l:List (Nat × AV)} {o:List (Nat × AO)} {k:Nat} (n:Nat) {es:List (List PV)} (hn:O o n=some (.arr k es)) (h:AWP P r N cd ⟨T (Xb n es l),O (frzO n es o)⟩ Q):AWP P r N cd ⟨T l,O o⟩ Q:=
 Aqh n hn (by rw [frz_mk]; exact h)
end
end AM
end
/- Beers: sums of losses, as the reference has them. -/
section
namespace AM.Wort
open Go AM Go.Proofs
theorem loss_first {l:List Int} (h:De l=0):l.getD 0 0=0:=by
 unfold De at h
 split at h
 ·cases h
 ·split at h
  ·cases h
  ·rename_i h1 h2
   by_cases e:l.getD 0 0=0
   ·exact e
   ·exact absurd (.inr (.inr e)) h2
def sumN (l:List Int):Nat→Int
 | 0=>0
 | s+1=>sumN l s+(l.getD (s / 10+1) 0 - l.getD (s / 10) 0)
theorem lostN_sum {l:List Int} (hl:Pu l) (h0:l.getD 0 0=0):∀ s:Nat,s≤10 * (l.length - 1)→V3 l (s:Int)=sumN l s
 | 0,_=>by
  have a1:=hl.len
  have hk:Cg l ((0:Nat):Int)=0:=by unfold Cg; omega
  unfold V3 sumN
  rw [hk,show ((0:Int)).toNat=0 from rfl,h0]
  simp
 | s+1,h=>by
  have a1:=hl.len
  have ih:=lostN_sum hl h0 s (by omega)
  unfold sumN
  rw [← ih]
  have hq:s / 10≤l.length - 2:=by omega
  have hk:Cg l (s:Int)=((s / 10:Nat):Int):=by unfold Cg; omega
  by_cases hr:s % 10=9
  ·by_cases hq2:s / 10+1≤l.length - 2
   ·have hk2:Cg l ((s+1:Nat):Int)=((s / 10+1:Nat):Int):=by unfold Cg; omega
    unfold V3
    rw [hk,hk2,Int.toNat_natCast,Int.toNat_natCast]
    have e1:((s+1:Nat):Int) - ((s / 10+1:Nat):Int) * 10=0:=by omega
    have e2:(s:Int) - ((s / 10:Nat):Int) * 10=9:=by omega
    rw [e1,e2]; omega
   ·have hk2:Cg l ((s+1:Nat):Int)=((s / 10:Nat):Int):=by unfold Cg; omega
    unfold V3
    rw [hk,hk2,Int.toNat_natCast]
    have e1:((s+1:Nat):Int) - ((s / 10:Nat):Int) * 10=10:=by omega
    have e2:(s:Int) - ((s / 10:Nat):Int) * 10=9:=by omega
    rw [e1,e2]; omega
  ·have hk2:Cg l ((s+1:Nat):Int)=((s / 10:Nat):Int):=by unfold Cg; omega
   unfold V3
   rw [hk,hk2,Int.toNat_natCast]
   have e1:((s+1:Nat):Int) - ((s / 10:Nat):Int) * 10=((s:Int) - ((s / 10:Nat):Int) * 10)+1:=by omega
   rw [e1]
   generalize (s:Int) - ((s / 10:Nat):Int) * 10=p
   generalize l.getD (s / 10) 0=a
   generalize l.getD (s / 10+1) 0=c
   rw [Int.mul_add,show a * (10 - (p+1))=a * (10 - p) - a by rw [show (10:Int) - (p+1)=10 - p - 1 by omega,Int.mul_sub a (10 - p) 1,Int.mul_one],Int.mul_one]
   omega
theorem lostF_sum {l:List Int} (hl:Pu l) (h0:l.getD 0 0=0) {s:Int} (h1:0≤s) (h2:s≤10 * ((l.length:Int) - 1)):Ma l s=(sumN l s.toNat+5) / 10:=by
 have a1:=hl.len
 obtain ⟨n,rfl⟩:∃ n:Nat,s=n:=⟨s.toNat,by omega⟩
 unfold Ma
 rw [lostN_sum hl h0 n (by omega),Int.toNat_natCast]
 omega
theorem orig_ok {l:List Int} (hl:De l=0) {g s:Int} (hg:0≤g∧g≤120) (hs:0≤s∧s≤10 * ((l.length:Int) - 1)):Qg l g s=(g+Ma l s,0):=by
 unfold Qg
 rw [if_neg (by omega),if_pos]
 simp only [inB,Bool.and_eq_true,decide_eq_true_eq]; omega
theorem mem_row {l:List Int} {lo s x:Int}:∀ {j:Nat},x ∈ Bb4 l lo s j↔∃ i:Nat,i < j∧x=lo+i+Ma l s
 | 0=>by simp [Bb4]
 | j+1=>by
  simp only [Bb4,List.mem_cons,mem_row (j:=j)]
  constructor
  ·rintro (rfl | ⟨i,hi,rfl⟩)
   ·exact ⟨j,by omega,rfl⟩
   ·exact ⟨i,by omega,rfl⟩
  ·rintro ⟨i,hi,rfl⟩
   by_cases e:i=j
   ·subst e; exact .inl rfl
   ·exact .inr ⟨i,by omega,rfl⟩
theorem mem_can {l:List Int} {g sp:Rng} {x:Int}:∀ {k:Nat},x ∈ Aqf l g sp k↔∃ i j:Nat,i < k∧j < Ri g∧x=g.lo+j+Ma l (sp.lo+i)
 | 0=>by simp [Aqf]
 | k+1=>by
  simp only [Aqf,List.mem_append,mem_can (k:=k),mem_row]
  constructor
  ·rintro (⟨j,hj,rfl⟩ | ⟨i,j,hi,hj,rfl⟩)
   ·exact ⟨k,j,by omega,hj,rfl⟩
   ·exact ⟨i,j,by omega,hj,rfl⟩
  ·rintro ⟨i,j,hi,hj,rfl⟩
   by_cases e:i=k
   ·subst e; exact .inl ⟨j,hj,rfl⟩
   ·exact .inr ⟨i,j,by omega,hj,rfl⟩
theorem can_any {l:List Int} {g sp r:Rng}:(N2 l g sp).any (Gb r)=true↔∃ a s:Int,(g.lo≤a∧a≤g.hi)∧(sp.lo≤s∧s≤sp.hi)∧r.lo≤a+Ma l s∧a+Ma l s≤r.hi:=by
 rw [List.any_eq_true]
 unfold N2
 constructor
 ·rintro ⟨x,hx,hr⟩
  obtain ⟨i,j,hi,hj,rfl⟩:=mem_can.1 hx
  simp only [Gb,inB,Bool.and_eq_true,decide_eq_true_eq] at hr
  unfold Ri at hi hj
  exact ⟨g.lo+j,sp.lo+i,⟨by omega,by omega⟩,⟨by omega,by omega⟩,hr⟩
 ·rintro ⟨a,s,h1,h2,h3⟩
  refine ⟨a+Ma l s,mem_can.2 ⟨(s - sp.lo).toNat,(a - g.lo).toNat,by unfold Ri; omega,by unfold Ri; omega,?_⟩,?_⟩
  ·rw [show g.lo+((a - g.lo).toNat:Int)=a by omega,show sp.lo+((s - sp.lo).toNat:Int)=s by omega]
  ·simp only [Gb,inB,Bool.and_eq_true,decide_eq_true_eq]; exact h3
def hitB (l:List Int) (r:Rng) (a s:Int):Bool:=inB (a+Ma l s) r.lo r.hi
def rowH (l:List Int) (r:Rng) (a lo:Int) (k:Nat):Bool:=(List.range k).any fun i=>hitB l r a (lo+i)
def allH (l:List Int) (r g sp:Rng) (j:Nat):Bool:=(List.range j).any fun i=>rowH l r (g.lo+i) sp.lo (Ri sp)
theorem rowH_succ {l:List Int} {r:Rng} {a lo:Int} {k:Nat}:rowH l r a lo (k+1)=(rowH l r a lo k||hitB l r a (lo+k)):=by
 unfold rowH; rw [List.range_succ,List.any_append]; simp
theorem allH_succ {l:List Int} {r g sp:Rng} {j:Nat}:allH l r g sp (j+1)=(allH l r g sp j||rowH l r (g.lo+j) sp.lo (Ri sp)):=by
 unfold allH; rw [List.range_succ,List.any_append]; simp
theorem allH_eq {l:List Int} {r g sp:Rng}:allH l r g sp (Ri g)=(N2 l g sp).any (Gb r):=by
 rw [Bool.eq_iff_iff,can_any]
 unfold allH rowH hitB
 simp only [List.any_eq_true,List.mem_range,inB,Bool.and_eq_true,decide_eq_true_eq]
 constructor
 ·rintro ⟨i,hi,k,hk,h1,h2⟩
  unfold Ri at hi hk
  exact ⟨g.lo+i,sp.lo+k,⟨by omega,by omega⟩,⟨by omega,by omega⟩,h1,h2⟩
 ·rintro ⟨a,s,ha,hs,h1,h2⟩
  refine ⟨(a - g.lo).toNat,by unfold Ri; omega,(s - sp.lo).toNat,by unfold Ri; omega,?_⟩
  rw [show g.lo+((a - g.lo).toNat:Int)=a by omega,show sp.lo+((s - sp.lo).toNat:Int)=s by omega]
  exact ⟨h1,h2⟩
theorem encK_isl (l:List Nat):(.p (.sl (l.map Arm)):AV)=isl (l.map fun k:Nat=>(k:Int)):=by
 show AV.p (.sl (l.map Arm))=AV.p (.sl ((l.map fun k:Nat=>(k:Int)).map fun n=>[iv n]))
 rw [List.map_map]; rfl
end AM.Wort
end
/- The reference: beers. -/
section
namespace AM.Try
open Go AM AM.Wort Go.Proofs
open Nat renaming reduceLT→sA,reduceAdd→sB,reduceMul→sC,reduceSub→sD,reduceLeDiff→sE,reduceEqDiff→sF,reduceBEq→sG
open Int renaming reduceAdd→sH,reduceSub→sI,reduceMul→sJ,reduceLT→sK,reduceLE→sL,reduceNeg→sM,reduceToNat→sN,reduceEq→sO
set_option maxRecDepth 100000
set_option maxHeartbeats 16000000
theorem c_rorig (l:List Int) (g s:Int) (hA:De l=0) (hg:-1000≤g∧g≤1000) (hs:0≤s∧s≤10 * ((l.length:Int) - 1)):Bo Try.prog 31 [isl l,i64 g,i64 s] (i64 (g+Ma l s)):=by
  have hok:=Al5 hA
  have h0:=loss_first hA
  have a1:=hok.len
  have a2:=hok.len2
  obtain ⟨n,rfl⟩:∃ n:Nat,s=n:=⟨s.toNat,by omega⟩
  have hfs:=lostF_sum hok h0 hs.1 hs.2
  rw [Int.toNat_natCast] at hfs
  have hb:∀ k:Nat,k≤n→0≤sumN l k∧sumN l k≤1200:=fun k hk=>by
    have e:=lostN_sum hok h0 k (by omega)
    have:=L5 hok (s:=(k:Int)) (by omega) (by omega)
    rw [e] at this; omega
  refine Bg (v:=[]) (q:=[]) (N:=33) (rs:=[.tmp 6]) Try.func31 rfl rfl rfl rfl rfl ?_
  refine Aa fun K1 hK1=>?_
  refine Ac ?_
  simp (disch:=omega) only [amL,sA,sB]
  refine hK1 _ ?_
  refine Aa fun K2 hK2=>?_
  refine Ac ?_
  simp (disch:=omega) only [amL,sA]
  refine hK2 _ ?_
  refine Aa fun K3 hK3=>?_
  refine Aa fun K4 hK4=>?_
  refine Ac ?_
  simp (disch:=omega) only [amL,sA]
  refine hK4 _ ?_
  refine Am ?_
  skip
  refine Bb (α:=Nat) (fun k=>⟨T [(0,isl l),(1,i64 g),(2,i64 (n:Int)),(7,i64 (sumN l k)),(8,i64 (k:Int))],O []⟩) (fun k=>n - k) (fun k=>k≤n) 0 ?_ ?_ (fun k hx5 K5 hK5=>?_)
  · exact Nat.zero_le _
  · refine C8 ?_ ?_ ?_ ?_ <;> (try simp (disch:=omega) only [amL,sF,↓reduceIte,reduceCtorEq]); all_goals first | rfl | trace_state
  have hk:=hx5
  refine Aa fun K6 hK6=>?_
  refine Aa fun K7 hK7=>?_
  refine Ac ?_
  simp (disch:=omega) only [amL,amT,sA,sF,↓reduceIte,reduceCtorEq]
  refine hK7 _ ?_
  refine Aj rfl (fun h=>?_) (fun h=>?_)
  ·first
   | exact Bool.noConfusion h
   |skip
    try simp only [decide_eq_true_eq] at h
    refine Ak ?_
    refine hK6 _ ?_
    refine Aa fun K8 hK8=>?_
    refine Am ?_
    refine Cb (by kernel_rfl) (by kernel_rfl) ?_
    have g1:=hb k (by omega)
    have g2:=hb (k+1) (by omega)
    have hsu:sumN l (k+1)=sumN l k+(l.getD (k / 10+1) 0 - l.getD (k / 10) 0):=rfl
    have hd:((k:Int)).tdiv 10=((k / 10:Nat):Int):=by rw [Int.tdiv_eq_ediv_of_nonneg (by omega)]; omega
    have hd1:(((k / 10:Nat):Int)+1).toNat=k / 10+1:=by omega
    have q1:=Ki hok (k / 10)
    have q2:=Ki hok (k / 10+1)
    simp (disch:=omega) only [hd,hd1,Int.toNat_natCast,Ba,amL,amT,sA,sF,sO,↓reduceIte,reduceCtorEq]
    refine hK8 _ ?_
    refine Ac ?_
    simp (disch:=omega) only [amL,amT,sA,sF,↓reduceIte,reduceCtorEq]
    refine hK5 (k+1) _ ?_ ?_ (C8 ?_ ?_ ?_ ?_)
    all_goals (try simp (disch:=omega) only [amL,sF,↓reduceIte,reduceCtorEq])
    all_goals first | omega | (rw [hsu]; done) | exact congrArg i64 (by rw [hsu]) | trace_state
  ·first
   | exact Bool.noConfusion h
   |skip
    try simp only [decide_eq_false_iff_not] at h
    refine Bn ?_
    refine hK3 _ ?_
    refine Aa fun K9 hK9=>?_
    refine Ac ?_
    have g1:=hb n (Nat.le_refl _)
    obtain rfl:k=n:=by omega
    have hd:(sumN l k+5).tdiv 10=(sumN l k+5) / 10:=Int.tdiv_eq_ediv_of_nonneg (by omega)
    simp (disch:=omega) only [hd,amL,amT,sA,sF,sO,↓reduceIte,reduceCtorEq]
    refine hK9 _ ?_
    refine Ah ?_
    try simp (disch:=omega) only [amL,↓reduceIte]
    rw [hfs]
def beerB (l:List Int) (g s:Int):Bool:=inB g 0 120&&inB s 0 (10 * ((l.length:Int) - 1))
theorem c_risbeer (l:List Int) (g s:Int) (hl:l.length < 1000000):Bo Try.prog 30 [isl l,i64 g,i64 s] (bl (beerB l g s)):=by
  refine Bg (v:=[]) (q:=[]) (N:=17) (rs:=[.tmp 6]) Try.func30 rfl rfl rfl rfl rfl ?_
  refine Aa fun K1 hK1=>?_
  refine Ac ?_
  simp (disch:=omega) only [amL,sA,sB]
  refine hK1 _ ?_
  refine Aa fun K2 hK2=>?_
  refine Ac ?_
  simp (disch:=omega) only [amL,sA,sF,↓reduceIte,reduceCtorEq]
  repeat' first | (refine Dp (fun h=>?_) (fun h=>?_) <;> simp (disch:=omega) only [h,amL,amT,sA,sB,sC,sD,sE,sF,sG,sH,sI,sJ,sK,sL,sM,sN,sO,↓reduceIte,reduceCtorEq]) | (refine B0 (fun h=>?_) (fun h=>?_) <;> simp (disch:=omega) only [h,amL,amT,sA,sF,↓reduceIte,reduceCtorEq]) | (refine Aq (by kernel_rfl) rfl (Bg4 _ _ _) (by first | exact .inl rfl | exact .inr (.inl rfl)) ?_ ; simp (disch:=omega) only [amL,sA,sF,↓reduceIte])
  all_goals
   skip
   refine hK2 _ ?_
   refine Ah ?_
   try simp (disch:=omega) only [amL,↓reduceIte]
   all_goals (simp_all [beerB]; done)
theorem c_rbefore (a:List Int) (hl:a.length < 1000000):Bo Try.prog 83 [isl a,isl a] (bl false):=by
  refine Bg (v:=[]) (q:=[]) (N:=41) (rs:=[.tmp 4]) Try.func83 rfl rfl rfl rfl rfl ?_
  refine Aa fun K1 hK1=>?_
  refine Ac ?_
  simp (disch:=omega) only [eq_self,amL,sA,sB]
  refine hK1 _ ?_
  refine Aa fun K2 hK2=>?_
  refine Aa fun K3 hK3=>?_
  refine Ac ?_
  simp (disch:=omega) only [eq_self,amL,sA]
  refine hK3 _ ?_
  refine Am ?_
  skip
  refine Bb (α:=Nat) (fun k=>⟨T [(0,isl a),(1,isl a),(5,i64 (k:Int))],O []⟩) (fun k=>a.length - k) (fun k=>k≤a.length) 0 ?_ ?_ (fun k hx4 K4 hK4=>?_)
  · exact Nat.zero_le _
  · refine C8 ?_ ?_ ?_ ?_ <;> (try simp (disch:=omega) only [eq_self,amL,sF,↓reduceIte,reduceCtorEq]); all_goals first | rfl | trace_state
  have hk:=hx4
  refine Aa fun K5 hK5=>?_
  refine Aa fun K6 hK6=>?_
  refine Ac ?_
  simp (disch:=omega) only [eq_self,amL,amT,sA,sF,↓reduceIte,reduceCtorEq]
  repeat' first | (refine Dp (fun h=>?_) (fun h=>?_) <;> simp (disch:=omega) only [h,eq_self,decide_false,amL,amT,sA,sF,↓reduceIte,reduceCtorEq]) | (refine B0 (fun h=>?_) (fun h=>?_) <;> simp (disch:=omega) only [h,Ba,ne_eq,eq_self,not_true_eq_false,decide_false,amL,amT,sA,sB,sC,sD,sE,sF,sG,sH,sI,sJ,sK,sL,sM,sN,sO,↓reduceIte,reduceCtorEq])
  all_goals
   skip
   refine hK6 _ ?_
   refine Aj rfl (fun h=>?_) (fun h=>?_)
   ·first
    | exact Bool.noConfusion h
    |skip
     try simp only [] at h
     refine Ak ?_
     refine hK5 _ ?_
     refine Aa fun K7 hK7=>?_
     refine Am ?_
     refine Aa fun K8 hK8=>?_
     refine Cb (by kernel_rfl) (by kernel_rfl) ?_
     simp (disch:=omega) only [Ba,ne_eq,eq_self,not_true_eq_false,decide_false,amL,amT,sA,sF,↓reduceIte,reduceCtorEq]
     refine hK8 _ ?_
     refine Aj rfl (fun h=>?_) (fun h=>?_)
     ·first
      | exact Bool.noConfusion h
      |skip
       try simp only [Bool.not_eq_true',decide_eq_true_eq,decide_eq_false_iff_not,Bool.and_eq_true,Bool.not_eq_false',Bool.not_not,decide_not,Bool.not_true,Bool.not_false] at h
       refine Aa fun K9 hK9=>?_
       refine Cb (by kernel_rfl) (by kernel_rfl) ?_
       simp (disch:=omega) only [Ba,ne_eq,eq_self,not_true_eq_false,decide_false,amL,amT,sA,sB,sC,sD,sE,sF,sG,sH,sI,sJ,sK,sL,sM,sN,sO,↓reduceIte,reduceCtorEq]
       refine hK9 _ ?_
       refine Ah ?_
       try simp (disch:=omega) only [Ba,ne_eq,eq_self,not_true_eq_false,decide_false,amL,amT,sA,sB,sC,sD,sE,sF,sG,sH,sI,sJ,sK,sL,sM,sN,sO,↓reduceIte,reduceCtorEq]
       all_goals first | rfl | (exfalso; simp at h; done) | (simp; done) | trace_state
     ·first
      | exact Bool.noConfusion h
      |skip
       try simp only [] at h
       refine Ak ?_
       refine hK7 _ ?_
       refine Ac ?_
       simp (disch:=omega) only [eq_self,amL,amT,sA,sF,↓reduceIte,reduceCtorEq]
       refine hK4 (k+1) _ ?_ ?_ (C8 ?_ ?_ ?_ ?_)
       all_goals (try simp (disch:=omega) only [eq_self,amL,sF,↓reduceIte,reduceCtorEq])
       all_goals first | omega | trace_state
   ·first
    | exact Bool.noConfusion h
    |skip
     try simp only [] at h
     refine Bn ?_
     refine hK2 _ ?_
     refine Aa fun K10 hK10=>?_
     refine Ac ?_
     simp (disch:=omega) only [eq_self,amL,amT,sA,sF,↓reduceIte,reduceCtorEq]
     refine hK10 _ ?_
     refine Ah ?_
     try simp (disch:=omega) only [eq_self,amL,↓reduceIte]
     all_goals first | rfl | (exfalso; simp at h; done) | (simp; done) | trace_state
theorem c_rsame (a:List Int) (hl:a.length < 1000000):Bo Try.prog 32 [isl a,isl a] (bl true):=by
  refine Bg (v:=[]) (q:=[]) (N:=22) (rs:=[.tmp 4]) Try.func32 rfl rfl rfl rfl rfl ?_
  refine Aa fun K1 hK1=>?_
  refine Ac ?_
  simp (disch:=omega) only [eq_self,decide_true,amL,sA,sB]
  refine hK1 _ ?_
  refine Aa fun K2 hK2=>?_
  refine Ac ?_
  simp (disch:=omega) only [eq_self,decide_true,amL,amT,sA,sF,↓reduceIte,reduceCtorEq]
  repeat' first | (refine Dp (fun h=>?_) (fun h=>?_) <;> simp (disch:=omega) only [h,eq_self,decide_true,amL,amT,sA,sB,sC,sD,sE,sF,sG,sH,sI,sJ,sK,sL,sM,sN,sO,↓reduceIte,reduceCtorEq]) | (refine B0 (fun h=>?_) (fun h=>?_) <;> simp (disch:=omega) only [h,eq_self,decide_true,amL,amT,sA,sB,sC,sD,sE,sF,sG,sH,sI,sJ,sK,sL,sM,sN,sO,↓reduceIte,reduceCtorEq]) | (refine Aq (by kernel_rfl) rfl (c_rbefore a hl) (by first | exact .inl rfl | exact .inr (.inl rfl)) ?_ ; simp (disch:=omega) only [eq_self,decide_true,amL,sA,sF,↓reduceIte,reduceCtorEq])
  all_goals
   skip
   refine hK2 _ ?_
   refine Ah ?_
   try simp (disch:=omega) only [eq_self,amL,↓reduceIte]
   all_goals first | rfl | trace_state
theorem c_rmade (l:List Int) (g sp:Rng) (b:List Rng) (hA:De l=0) (hb:b.length < 1000000) (hg:0≤g.lo∧g.lo≤g.hi∧g.hi≤120) (hs:0≤sp.lo∧sp.lo≤sp.hi∧sp.hi≤10 * ((l.length:Int) - 1)):Bo Try.prog 33 [isl l,avR g,avR sp,.p (.sl (b.map G6))] (.p (.sl ((Je (N2 l g sp) b b.length).map Arm))):=by
  refine Bg (v:=[]) (q:=[]) (N:=60) (rs:=[.tmp 8]) Try.func33 rfl rfl rfl rfl rfl ?_
  have hok:=Al5 hA
  have a1:=hok.len
  have a2:=hok.len2
  refine Aa fun K1 hK1=>?_
  refine Ac ?_
  simp (disch:=omega) only [amL,sA,sB,sF,↓reduceIte,reduceCtorEq]
  refine hK1 _ ?_
  refine Aa fun K2 hK2=>?_
  refine Ac ?_
  simp (disch:=omega) only [amL,sA]
  refine hK2 _ ?_
  refine Aa fun K3 hK3=>?_
  refine Aa fun K4 hK4=>?_
  refine Ac ?_
  simp (disch:=omega) only [amL,sA]
  refine hK4 _ ?_
  refine Am ?_
  refine Ps 58 1 9 (by decide) rfl rfl ?_
  refine Bb (α:=Nat) (fun i=>⟨T [(0,isl l),(3,.p (.sl (b.map G6))),(5,.ptr 5 0),(6,.ptr 6 0),(9,.own 58 (Je (N2 l g sp) b i).length),(10,i64 (i:Int))],O [(5,.cells [i64 g.lo,i64 g.hi]),(6,.cells [i64 sp.lo,i64 sp.hi]),(58,.arr 1 ((Je (N2 l g sp) b i).map Arm))]⟩) (fun i=>b.length - i) (fun i=>i≤b.length) 0 ?_ ?_ (fun i hx5 K5 hK5=>?_)
  · exact Nat.zero_le _
  · refine C8 ?_ ?_ ?_ ?_ <;> (try simp (disch:=omega) only [amL,sF,sG,↓reduceIte,reduceCtorEq]); all_goals first | rfl | trace_state
  have hi:=hx5
  refine Aa fun K6 hK6=>?_
  refine Aa fun K7 hK7=>?_
  refine Ac ?_
  simp (disch:=omega) only [amL,amT,sA,sF,↓reduceIte,reduceCtorEq]
  refine hK7 _ ?_
  refine Aj rfl (fun h=>?_) (fun h=>?_)
  ·first
   | exact Bool.noConfusion h
   |skip
    try simp only [decide_eq_true_eq] at h
    refine Ak ?_
    refine hK6 _ ?_
    refine Aa fun K8 hK8=>?_
    refine Am ?_
    refine Aa fun K9 hK9=>?_
    refine Ac ?_
    simp (disch:=omega) only [amL,sA]
    refine hK9 _ ?_
    refine Aa fun K10 hK10=>?_
    refine Aa fun K11 hK11=>?_
    refine Ac ?_
    simp (disch:=omega) only [amL,amT,sA,sF,↓reduceIte,reduceCtorEq]
    refine hK11 _ ?_
    refine Am ?_
    skip
    refine Bb (α:=Nat) (fun j=>⟨T [(0,isl l),(3,.p (.sl (b.map G6))),(5,.ptr 5 0),(6,.ptr 6 0),(9,.own 58 (Je (N2 l g sp) b i).length),(10,i64 (i:Int)),(11,bl (allH l (b.getD i default) g sp j)),(12,i64 (g.lo+j))],O [(5,.cells [i64 g.lo,i64 g.hi]),(6,.cells [i64 sp.lo,i64 sp.hi]),(58,.arr 1 ((Je (N2 l g sp) b i).map Arm))]⟩) (fun j=>Ri g - j) (fun j=>j≤Ri g) 0 ?_ ?_ (fun j hx12 K12 hK12=>?_)
    · exact Nat.zero_le _
    · refine C8 ?_ ?_ ?_ ?_ <;> (try simp (disch:=omega) only [amL,sF,sG,↓reduceIte,reduceCtorEq]); all_goals first | rfl | (simp; done) | trace_state
    have hj:=hx12
    refine Aa fun K13 hK13=>?_
    refine Aa fun K14 hK14=>?_
    refine Ac ?_
    simp (disch:=omega) only [amL,amT,sA,sF,↓reduceIte,reduceCtorEq]
    refine hK14 _ ?_
    refine Aj rfl (fun h=>?_) (fun h=>?_)
    ·first
     | exact Bool.noConfusion h
     |skip
      try simp only [decide_eq_true_eq] at h
      refine Ak ?_
      refine hK13 _ ?_
      refine Aa fun K15 hK15=>?_
      refine Am ?_
      refine Aa fun K16 hK16=>?_
      refine Ac ?_
      simp (disch:=omega) only [amL,amT,sA,sF,↓reduceIte,reduceCtorEq]
      refine hK16 _ ?_
      refine Am ?_
      skip
      refine Bb (α:=Nat) (fun k=>⟨T [(0,isl l),(3,.p (.sl (b.map G6))),(5,.ptr 5 0),(6,.ptr 6 0),(9,.own 58 (Je (N2 l g sp) b i).length),(10,i64 (i:Int)),(11,bl (allH l (b.getD i default) g sp j||rowH l (b.getD i default) (g.lo+j) sp.lo k)),(12,i64 (g.lo+j)),(13,i64 (sp.lo+k))],O [(5,.cells [i64 g.lo,i64 g.hi]),(6,.cells [i64 sp.lo,i64 sp.hi]),(58,.arr 1 ((Je (N2 l g sp) b i).map Arm))]⟩) (fun k=>Ri sp - k) (fun k=>k≤Ri sp) 0 ?_ ?_ (fun k hx17 K17 hK17=>?_)
      · exact Nat.zero_le _
      · refine C8 ?_ ?_ ?_ ?_ <;> (try simp (disch:=omega) only [amL,sF,sG,↓reduceIte,reduceCtorEq]); all_goals first | rfl | (simp [rowH]; done) | trace_state
      have hk:=hx17
      refine Aa fun K18 hK18=>?_
      refine Aa fun K19 hK19=>?_
      refine Ac ?_
      simp (disch:=omega) only [amL,amT,sA,sF,↓reduceIte,reduceCtorEq]
      refine hK19 _ ?_
      refine Aj rfl (fun h=>?_) (fun h=>?_)
      ·first
       | exact Bool.noConfusion h
       |skip
        try simp only [decide_eq_true_eq] at h
        refine Ak ?_
        refine hK18 _ ?_
        refine Aa fun K20 hK20=>?_
        refine Am ?_
        refine Cb (by kernel_rfl) (by kernel_rfl) ?_
        have hls:=L5 hok (s:=sp.lo+k) (by omega) (by omega)
        simp (disch:=omega) only [amL,sA,sF,↓reduceIte,reduceCtorEq]
        repeat' first | (refine Dp (fun h=>?_) (fun h=>?_) <;> simp (disch:=omega) only [h,Bj,amL,amT,sA,sB,sC,sD,sE,sF,sG,sH,sI,sJ,sK,sL,sM,sN,sO,↓reduceIte,reduceCtorEq]) | (refine B0 (fun h=>?_) (fun h=>?_) <;> simp (disch:=omega) only [h,amL,sA,sF,↓reduceIte,reduceCtorEq]) | (refine Aq (by kernel_rfl) rfl (c_rorig l (g.lo+j) (sp.lo+k) hA (by omega) (by omega)) (by first | exact .inl rfl | exact .inr (.inl rfl)) ?_ ; simp (disch:=omega) only [Bj,amL,amT,sA,sB,sF,↓reduceIte,reduceCtorEq]) | (refine Aq (by kernel_rfl) rfl (Bg4 _ _ _) (by first | exact .inl rfl | exact .inr (.inl rfl)) ?_ ; simp (disch:=omega) only [amL,sA,sF,↓reduceIte])
        all_goals
         skip
         refine hK20 _ ?_
         refine Ac ?_
         simp (disch:=omega) only [amL,amT,sA,sF,↓reduceIte,reduceCtorEq]
         refine hK17 (k+1) _ ?_ ?_ (C8 ?_ ?_ ?_ ?_)
         all_goals (try simp (disch:=omega) only [amL,sF,sG,↓reduceIte,reduceCtorEq])
         all_goals first | (unfold Ri at *; omega) | exact congrArg i64 (by omega) | (refine ⟨?_,congrArg i64 (by omega)⟩ ; rw [rowH_succ,← Bool.or_assoc] ; first | (rw [show (allH l (b.getD i default) g sp j||rowH l (b.getD i default) (g.lo+j) sp.lo k)=true by assumption]; rfl) | (rw [show (allH l (b.getD i default) g sp j||rowH l (b.getD i default) (g.lo+j) sp.lo k)=false by assumption]; rfl)) | trace_state
      ·first
       | exact Bool.noConfusion h
       |skip
        try simp only [decide_eq_false_iff_not] at h
        refine Bn ?_
        refine hK15 _ ?_
        refine Ac ?_
        simp (disch:=omega) only [amL,amT,sA,sF,↓reduceIte,reduceCtorEq]
        refine hK12 (j+1) _ ?_ ?_ (C8 ?_ ?_ ?_ ?_)
        all_goals (try simp (disch:=omega) only [amL,sF,sG,↓reduceIte,reduceCtorEq])
        all_goals first | (unfold Ri at *; omega) | (have hk9:k=Ri sp:=by unfold Ri at *; omega) ; subst hk9 ; exact ⟨by rw [allH_succ],congrArg i64 (by omega)⟩ | exact congrArg i64 (by omega) | trace_state
    ·first
     | exact Bool.noConfusion h
     |skip
      try simp only [decide_eq_false_iff_not] at h
      refine Bn ?_
      refine hK10 _ ?_
      refine Aa fun K21 hK21=>?_
      refine Ac ?_
      simp (disch:=omega) only [amL,sA,sF,↓reduceIte,reduceCtorEq]
      refine hK21 _ ?_
      refine Aj rfl (fun h=>?_) (fun h=>?_)
      ·first
       | exact Bool.noConfusion h
       |skip
        try simp only [Bool.not_eq_true',decide_eq_true_eq,decide_eq_false_iff_not,Bool.and_eq_true,Bool.not_eq_false',Bool.not_not,decide_not,Bool.not_true,Bool.not_false] at h
        refine Ac ?_
        have hol:=Anc (S:=N2 l g sp) (b:=b) (k:=i)
        simp (disch:=omega) only [amL,amT,sA,sE,sF,↓reduceIte,reduceCtorEq]
        refine hK8 _ ?_
        refine Ac ?_
        simp (disch:=omega) only [amL,amT,sA,sF,↓reduceIte,reduceCtorEq]
        refine hK5 (i+1) _ ?_ ?_ (C8 ?_ ?_ ?_ ?_)
        all_goals (try simp (disch:=omega) only [amL,sF,sG,↓reduceIte,reduceCtorEq])
        all_goals first | omega | (have hj9:j=Ri g:=by unfold Ri at *; omega) ; subst hj9 ; first | (rw [Agn (by rw [← allH_eq]; assumption)]; done) | (rw [Ab3 (by rw [← allH_eq]; assumption)]; first | (rw [List.length_append]; rfl) | (rw [List.map_append]; rfl)) | trace_state
      ·first
       | exact Bool.noConfusion h
       |skip
        try simp only [Bool.not_eq_true',decide_eq_true_eq,decide_eq_false_iff_not,Bool.and_eq_true,Bool.not_eq_false',Bool.not_not,decide_not,Bool.not_true,Bool.not_false] at h
        refine Ak ?_
        refine hK8 _ ?_
        refine Ac ?_
        simp (disch:=omega) only [amL,amT,sA,sF,↓reduceIte,reduceCtorEq]
        refine hK5 (i+1) _ ?_ ?_ (C8 ?_ ?_ ?_ ?_)
        all_goals (try simp (disch:=omega) only [amL,sF,sG,↓reduceIte,reduceCtorEq])
        all_goals first | omega | (have hj9:j=Ri g:=by unfold Ri at *; omega) ; subst hj9 ; first | (rw [Agn (by rw [← allH_eq]; assumption)]; done) | (rw [Ab3 (by rw [← allH_eq]; assumption)]; first | (rw [List.length_append]; rfl) | (rw [List.map_append]; rfl)) | trace_state
  ·first
   | exact Bool.noConfusion h
   |skip
    try simp only [decide_eq_false_iff_not] at h
    refine Bn ?_
    refine hK3 _ ?_
    refine Aa fun K22 hK22=>?_
    refine Ac ?_
    simp (disch:=omega) only [amL,sA,sF,↓reduceIte,reduceCtorEq]
    refine hK22 _ ?_
    refine Ah ?_
    try simp (disch:=omega) only [amL,sF,↓reduceIte]
    (obtain rfl:i=b.length:=by omega) ; rw [List.take_of_length_le (by simp)]
abbrev risR (r:Rng):Bool:=decide (r.lo≤r.hi)
theorem beer_parts {l:List Int} {g s:Int} (h:beerB l g s=true):(0≤g∧g≤120)∧0≤s∧s≤10 * ((l.length:Int) - 1):=by
  simpa only [beerB,inB,Bool.and_eq_true,decide_eq_true_eq] using h
theorem beer_mk {l:List Int} {g s:Int} (h:(0≤g∧g≤120)∧0≤s∧s≤10 * ((l.length:Int) - 1)):beerB l g s=true:=by
  simpa only [beerB,inB,Bool.and_eq_true,decide_eq_true_eq] using h
theorem orig_no {l:List Int} (hl:De l=0) {g s:Int} (h:beerB l g s=false):Qg l g s=(0,2):=by
  unfold beerB at h
  unfold Qg
  rw [if_neg (by omega),if_neg (by rw [h]; decide)]
theorem orig_bad {l:List Int} (hl:¬ De l=0) {g s:Int}:Qg l g s=(0,De l):=by unfold Qg; rw [if_pos hl]
theorem madeA_bad {l:List Int} (hl:¬ De l=0) {g sp:Rng} {b:List Rng}:Kw l g sp b=.tup [C3,i64 (De l)]:=by unfold Kw; rw [if_pos hl]
theorem madeA_yes {l:List Int} (hl:De l=0) {g sp:Rng} {b:List Rng} (h1:g.lo≤g.hi) (h2:sp.lo≤sp.hi) (h3:b.all risR=true) (h4:beerB l g.lo sp.lo=true) (h5:beerB l g.hi sp.hi=true):Kw l g sp b=.tup [.p (.sl ((Je (N2 l g sp) b b.length).map Arm)),i64 0]:=by
  have e1:=beer_parts h4
  have e2:=beer_parts h5
  unfold Kw
  rw [if_neg (by omega),if_pos]
  unfold Sn J2 Gb inB
  simp only [Bool.and_eq_true,decide_eq_true_eq]
  exact ⟨⟨h1,by omega,by omega⟩,⟨h2,by omega,by omega⟩,h3⟩
theorem madeA_no {l:List Int} (hl:De l=0) {g sp:Rng} {b:List Rng} (h:¬ (g.lo≤g.hi∧sp.lo≤sp.hi∧b.all risR=true∧beerB l g.lo sp.lo=true∧beerB l g.hi sp.hi=true)):Kw l g sp b=.tup [C3,i64 2]:=by
  unfold Kw
  rw [if_neg (by omega),if_neg]
  intro e
  unfold Sn J2 Gb inB at e
  simp only [Bool.and_eq_true,decide_eq_true_eq] at e
  exact h ⟨e.1.1,e.2.1.1,e.2.2,beer_mk (by omega),beer_mk (by omega)⟩
theorem all_snoc {b:List Rng} {k:Nat} (h:k < b.length):(b.take (k+1)).all risR=((b.take k).all risR&&risR (b.getD k default)):=by
  rw [List.take_add_one,List.getElem?_eq_getElem h,List.all_append]
  simp [List.getD,h]
theorem c_wortMade (l:List Int) (g sp:Rng) (b:List Rng) (_:∀ m ∈ l,inR m=true) (_:Apr g) (_:Apr sp) (_:∀ r ∈ b,Apr r):Bo Try.prog 5 [isl l,avR g,avR sp,.p (.sl (b.map G6))] (bl true):=by
  refine Bg (v:=[]) (q:=[]) (N:=180) (rs:=[.tmp 8]) Try.func5 rfl rfl rfl rfl rfl ?_
  by_cases hA:De l=0
  have hok:=Al5 hA
  have a2:=hok.len2
  by_cases e1:g.lo≤g.hi
  by_cases e2:sp.lo≤sp.hi
  cases ha:b.all risR
  have hMd:=madeA_no hA (g:=g) (sp:=sp) (b:=b) (fun q=>by rw [q.2.2.1] at ha; cases ha)
  cases hB1:beerB l g.lo sp.hi
  have hO:=orig_no hA hB1
  rotate_left
  have y1:=beer_parts hB1
  have hO:=orig_ok hA (g:=g.lo) (s:=sp.hi) y1.1 y1.2
  rotate_left
  cases hb1:beerB l g.lo sp.lo
  have hMd:=madeA_no hA (g:=g) (sp:=sp) (b:=b) (fun q=>by rw [q.2.2.2.1] at hb1; cases hb1)
  cases hB1:beerB l g.lo sp.hi
  have hO:=orig_no hA hB1
  rotate_left
  have y1:=beer_parts hB1
  have hO:=orig_ok hA (g:=g.lo) (s:=sp.hi) y1.1 y1.2
  rotate_left
  cases hb2:beerB l g.hi sp.hi
  have hMd:=madeA_no hA (g:=g) (sp:=sp) (b:=b) (fun q=>by rw [q.2.2.2.2] at hb2; cases hb2)
  cases hB1:beerB l g.lo sp.hi
  have hO:=orig_no hA hB1
  rotate_left
  have y1:=beer_parts hB1
  have hO:=orig_ok hA (g:=g.lo) (s:=sp.hi) y1.1 y1.2
  rotate_left
  have hMd:=madeA_yes hA e1 e2 ha hb1 hb2
  have y0:=beer_parts hb1
  have y2:=beer_parts hb2
  have y1:(0≤g.lo∧g.lo≤120)∧0≤sp.hi∧sp.hi≤10 * ((l.length:Int) - 1):=by omega
  have hB1:beerB l g.lo sp.hi=true:=beer_mk y1
  have hO:=orig_ok hA (g:=g.lo) (s:=sp.hi) y1.1 y1.2
  rotate_left
  have hMd:=madeA_no hA (g:=g) (sp:=sp) (b:=b) (fun q=>e2 q.2.1)
  cases hB1:beerB l g.lo sp.hi
  have hO:=orig_no hA hB1
  rotate_left
  have y1:=beer_parts hB1
  have hO:=orig_ok hA (g:=g.lo) (s:=sp.hi) y1.1 y1.2
  rotate_left
  have hMd:=madeA_no hA (g:=g) (sp:=sp) (b:=b) (fun q=>e1 q.1)
  cases hB1:beerB l g.lo sp.hi
  have hO:=orig_no hA hB1
  rotate_left
  have y1:=beer_parts hB1
  have hO:=orig_ok hA (g:=g.lo) (s:=sp.hi) y1.1 y1.2
  rotate_left
  have hO:=orig_bad hA (g:=g.lo) (s:=sp.hi)
  have hMd:=madeA_bad hA (g:=g) (sp:=sp) (b:=b)
  by_cases e1:g.lo≤g.hi
  by_cases e2:sp.lo≤sp.hi
  rotate_left
  rotate_left
  rotate_left
  all_goals
    have hO:=hO
    have hMd:=hMd
    have hA:=hA
    first | (have e2:=e2) | (have e2:=e1)
    first | (have hB1:=hB1) | (have hB1:=hA)
    first | (have ha:=ha) | (have ha:=hA)
    first | (have hb1:=hb1) | (have hb1:=hA)
    first | (have hb2:=hb2) | (have hb2:=hA)
    refine Aa fun K1 hK1=>?_
    refine Ac ?_
    simp (disch:=omega) only [decide_true,amL,sA,sB,sF,↓reduceIte,reduceCtorEq]
    refine hK1 _ ?_
    refine Aa fun K2 hK2=>?_
    refine Aa fun K3 hK3=>?_
    refine Ac ?_
    simp (disch:=omega) only [decide_true,amL,amT,sA,↓reduceIte,reduceCtorEq]
    repeat' first | (refine Dp (fun h=>?_) (fun h=>?_) <;> simp (disch:=omega) only [h,decide_true,decide_false,amL,amT,sA,sF,↓reduceIte,reduceCtorEq]) | (refine B0 (fun h=>?_) (fun h=>?_) <;> simp (disch:=omega) only [h,hA,hO,hMd,e1,e2,ha,hB1,hb1,hb2,Bj,ne_eq,Bool.and_true,Bool.true_and,Bool.false_and,Bool.and_false,decide_true,decide_false,amL,amT,sA,sB,sC,sD,sE,sF,sG,sH,sI,sJ,sK,sL,sM,sN,sO,↓reduceIte,reduceCtorEq])
    all_goals
     skip
     refine hK3 _ ?_
     refine Aj rfl (fun h=>?_) (fun h=>?_)
     ·first
      | exact Bool.noConfusion h
      | ((try simp only [decide_eq_true_eq] at h) ; exfalso ; omega)
      |skip
       try simp only [decide_eq_true_eq] at h
       refine Aa fun K4 hK4=>?_
       refine Ac ?_
       simp (disch:=omega) only [amL]
       repeat' first | (refine Aq (by kernel_rfl) rfl (Bgm) (by first | exact .inl rfl | exact .inr (.inl rfl)) ?_ ; simp (disch:=omega) only [decide_true,amL,sA,↓reduceIte])
       refine hK4 _ ?_
       refine Ah ?_
       try simp (disch:=omega) only [amL,↓reduceIte]
       all_goals first | rfl | trace_state
     ·first
      | exact Bool.noConfusion h
      | ((try simp only [decide_eq_false_iff_not] at h) ; exfalso ; omega)
      |skip
       try simp only [decide_eq_false_iff_not] at h
       refine Ak ?_
       refine hK2 _ ?_
       refine Aa fun K5 hK5=>?_
       refine Ac ?_
       simp (disch:=omega) only [decide_true,amL,sA]
       refine hK5 _ ?_
       refine Aa fun K6 hK6=>?_
       refine Ac ?_
       simp (disch:=omega) only [e1,e2,decide_true,decide_false,amL,amT,sA,sF,↓reduceIte,reduceCtorEq]
       repeat' first | (refine Dp (fun h=>?_) (fun h=>?_) <;> simp (disch:=omega) only [h,hA,hO,hMd,e1,e2,ha,hB1,hb1,hb2,Bj,ne_eq,Bool.and_true,Bool.true_and,Bool.false_and,Bool.and_false,decide_true,decide_false,amL,amT,sA,sB,sC,sD,sE,sF,sG,sH,sI,sJ,sK,sL,sM,sN,sO,↓reduceIte,reduceCtorEq]) | (refine B0 (fun h=>?_) (fun h=>?_) <;> simp (disch:=omega) only [h,hA,hO,hMd,e1,e2,ha,hB1,hb1,hb2,Bj,ne_eq,Bool.and_true,Bool.true_and,Bool.false_and,Bool.and_false,decide_true,decide_false,amL,amT,sA,sB,sC,sD,sE,sF,sG,sH,sI,sJ,sK,sL,sM,sN,sO,↓reduceIte,reduceCtorEq])
       all_goals
        skip
        refine hK6 _ ?_
        refine Aa fun K7 hK7=>?_
        refine Aa fun K8 hK8=>?_
        refine Ac ?_
        simp (disch:=omega) only [decide_true,amL,sA]
        refine hK8 _ ?_
        refine Am ?_
        refine Ps 51 2 9 (by decide) rfl rfl ?_
        refine Bb (α:=Nat) (fun k=>⟨T [(0,isl l),(3,.p (.sl (b.map G6))),(5,.ptr 5 0),(6,.ptr 6 0),(8,bl false),(9,.own 51 k),(10,bl (decide (g.lo≤g.hi)&&(decide (sp.lo≤sp.hi)&&(b.take k).all risR))),(11,i64 (k:Int))],O [(5,.cells [i64 g.lo,i64 g.hi]),(6,.cells [i64 sp.lo,i64 sp.hi]),(51,.arr 2 ((b.take k).map G6))]⟩) (fun k=>b.length - k) (fun k=>k≤b.length) 0 ?_ ?_ (fun k hx9 K9 hK9=>?_)
        · exact Nat.zero_le _
        · refine C8 ?_ ?_ ?_ ?_ <;> (try simp (disch:=omega) only [e1,e2,Bool.and_true,Bool.false_and,Bool.and_false,decide_true,decide_false,amL,sF,sG,↓reduceIte,reduceCtorEq]); all_goals first | rfl | (simp_all; done) | trace_state
        have hk:=hx9
        refine Aa fun K10 hK10=>?_
        refine Aa fun K11 hK11=>?_
        refine Ac ?_
        simp (disch:=omega) only [e1,e2,Bool.true_and,Bool.false_and,Bool.and_false,decide_true,decide_false,amL,amT,sA,sF,↓reduceIte,reduceCtorEq]
        refine hK11 _ ?_
        refine Aj rfl (fun h=>?_) (fun h=>?_)
        ·first
         | exact Bool.noConfusion h
         | ((try simp only [decide_eq_true_eq] at h) ; exfalso ; omega)
         |skip
          try simp only [decide_eq_true_eq] at h
          refine Ak ?_
          refine hK10 _ ?_
          refine Aa fun K12 hK12=>?_
          refine Am ?_
          refine Aa fun K13 hK13=>?_
          refine Ac ?_
          simp (disch:=omega) only [Bj,decide_true,amL,amT,sA,sB,sF,↓reduceIte,reduceCtorEq]
          repeat' first | (refine Aq (by kernel_rfl) rfl (by first | exact Bg2 (b.getD k default) | exact Bg2 g | exact Bg2 sp) (by first | exact .inl rfl | exact .inr (.inl rfl)) ?_ ; simp (disch:=omega) only [decide_true,amL,amT,sA,sB,sC,sE,sF,↓reduceIte,reduceCtorEq])
          refine hK13 _ ?_
          refine Cb (by kernel_rfl) (by kernel_rfl) ?_
          simp (disch:=omega) only [decide_true,amL,sA,sF,↓reduceIte,reduceCtorEq]
          repeat' first | (refine Dp (fun h=>?_) (fun h=>?_) <;> simp (disch:=omega) only [h,hA,hO,hMd,e1,e2,ha,hB1,hb1,hb2,Bj,ne_eq,Bool.and_true,Bool.true_and,Bool.false_and,Bool.and_false,decide_true,decide_false,amL,amT,sA,sB,sC,sD,sE,sF,sG,sH,sI,sJ,sK,sL,sM,sN,sO,↓reduceIte,reduceCtorEq]) | (refine B0 (fun h=>?_) (fun h=>?_) <;> simp (disch:=omega) only [h,Bj,decide_true,amL,amT,sA,sB,sF,↓reduceIte,reduceCtorEq])
          all_goals
           skip
           refine hK12 _ ?_
           refine Ac ?_
           simp (disch:=omega) only [decide_true,amL,amT,sA,sF,↓reduceIte,reduceCtorEq]
           refine hK9 (k+1) _ ?_ ?_ (C8 ?_ ?_ ?_ ?_)
           all_goals (try simp (disch:=omega) only [e1,e2,Bool.true_and,Bool.false_and,Bool.and_false,decide_true,decide_false,amL,sF,sG,↓reduceIte,reduceCtorEq])
           all_goals first | omega | exact (congrArg (AO.arr 2) (Aca default (by omega))).symm | (rw [all_snoc (by omega),show (b.take k).all risR=true by assumption,Bool.true_and]; done) | (rw [all_snoc (by omega),show (b.take k).all risR=false by assumption,Bool.false_and]; done) | trace_state
        ·first
         | exact Bool.noConfusion h
         | ((try simp only [decide_eq_false_iff_not] at h) ; exfalso ; omega)
         |skip
          try simp only [decide_eq_false_iff_not] at h
          refine Bn ?_
          refine hK7 _ ?_
          refine Aa fun K14 hK14=>?_
          obtain rfl:k=b.length:=by omega
          refine awp_frz' 51 rfl ?_
          simp only [Xb,frzO,AV.frz,AO.frz,List.map_cons,List.map_nil,Nat.reduceEqDiff,if_false,if_true,Nat.le_refl,List.length_map,List.take_length]
          rw [List.take_of_length_le (by simp)]
          refine Cb (by kernel_rfl) (by kernel_rfl) ?_
          simp (disch:=omega) only [ha,decide_true,amL,sA,↓reduceIte,reduceCtorEq]
          repeat' first | (refine Aq (by kernel_rfl) rfl (Bgn l (by omega)) (by first | exact .inl rfl | exact .inr (.inl rfl)) ?_ ; simp (disch:=omega) only [decide_true,amL,amT,sA,sF,↓reduceIte,reduceCtorEq]) | (refine Aq (by kernel_rfl) rfl (Az5 l g.lo sp.hi (by omega)) (by first | exact .inl rfl | exact .inr (.inl rfl)) ?_ ; simp (disch:=omega) only [hO,decide_true,amL,sA,sF,↓reduceIte])
          refine hK14 _ ?_
          refine Aa fun K15 hK15=>?_
          refine Cb (by kernel_rfl) (by kernel_rfl) ?_
          simp (disch:=omega) only [decide_true,amL,sA,↓reduceIte,reduceCtorEq]
          repeat' first | (refine Aq (by kernel_rfl) rfl (Bgn l (by omega)) (by first | exact .inl rfl | exact .inr (.inl rfl)) ?_ ; simp (disch:=omega) only [decide_true,amL,amT,sA,sB,sF,↓reduceIte,reduceCtorEq]) | (refine Aq (by kernel_rfl) rfl (by first | exact Bg2 (b.getD k default) | exact Bg2 g | exact Bg2 sp) (by first | exact .inl rfl | exact .inr (.inl rfl)) ?_ ; simp (disch:=omega) only [decide_true,amL,amT,sA,sB,sF,↓reduceIte,reduceCtorEq]) | (refine Aq (by kernel_rfl) rfl (Baq l g sp b (by omega) (by omega)) (by first | exact .inl rfl | exact .inr (.inl rfl)) ?_ ; simp (disch:=omega) only [hMd,decide_true,amL,sA,sF,↓reduceIte])
          refine hK15 _ ?_
          refine Aa fun K16 hK16=>?_
          refine Aa fun K17 hK17=>?_
          refine Ac ?_
          simp (disch:=omega) only [decide_true,amL,sA,↓reduceIte,reduceCtorEq]
          repeat' first | (refine Aq (by kernel_rfl) rfl (Bgo l (by omega)) (by first | exact .inl rfl | exact .inr (.inl rfl)) ?_ ; simp (disch:=omega) only [hA,decide_true,amL,sA,↓reduceIte])
          refine hK17 _ ?_
          refine Aa fun K18 hK18=>?_
          refine Ac ?_
          simp (disch:=omega) only [hA,ne_eq,decide_true,decide_false,amL,amT,sA,↓reduceIte]
          refine hK18 _ ?_
          refine Aj rfl (fun h=>?_) (fun h=>?_)
          ·first
           | exact Bool.noConfusion h
           | ((try simp only [] at h) ; exfalso ; omega)
           |skip
            try simp only [] at h
            refine Aa fun K19 hK19=>?_
            refine Ac ?_
            simp (disch:=omega) only [decide_true,amL,amT,sA,sF,↓reduceIte]
            repeat' first | (refine Dp (fun h=>?_) (fun h=>?_) <;> simp (disch:=omega) only [h,hA,hO,hMd,e1,e2,ha,hB1,hb1,hb2,Bj,ne_eq,Bool.and_true,Bool.true_and,Bool.false_and,Bool.and_false,decide_true,decide_false,amL,amT,sA,sB,sC,sD,sE,sF,sG,sH,sI,sJ,sK,sL,sM,sN,sO,↓reduceIte,reduceCtorEq]) | (refine B0 (fun h=>?_) (fun h=>?_) <;> simp (disch:=omega) only [h,hA,hO,hMd,e1,e2,ha,hB1,hb1,hb2,Bj,ne_eq,Bool.and_true,Bool.true_and,Bool.false_and,Bool.and_false,decide_true,decide_false,amL,amT,sA,sB,sC,sD,sE,sF,sG,sH,sI,sJ,sK,sL,sM,sN,sO,↓reduceIte,reduceCtorEq]) | (refine Aq (by kernel_rfl) rfl (Bgm) (by first | exact .inl rfl | exact .inr (.inl rfl)) ?_ ; simp (disch:=omega) only [decide_true,amL,sA,sF,↓reduceIte])
            all_goals
             skip
             refine hK19 _ ?_
             refine Ah ?_
             try simp (disch:=omega) only [amL,↓reduceIte]
             all_goals first | rfl | trace_state
          ·first
           | exact Bool.noConfusion h
           | ((try simp only [] at h) ; exfalso ; omega)
           |skip
            try simp only [] at h
            refine Ak ?_
            refine hK16 _ ?_
            refine Aa fun K20 hK20=>?_
            refine Aa fun K21 hK21=>?_
            refine Ac ?_
            simp (disch:=omega) only [decide_true,amL,amT,sA,sF,↓reduceIte,reduceCtorEq]
            repeat' first | (refine Aq (by kernel_rfl) rfl (c_risbeer l _ _ (by omega)) (by first | exact .inl rfl | exact .inr (.inl rfl)) ?_ ; simp (disch:=omega) only [hB1,decide_true,amL,sA,↓reduceIte])
            refine hK21 _ ?_
            refine Aj rfl (fun h=>?_) (fun h=>?_)
            ·first
             | exact Bool.noConfusion h
             | ((try simp only [] at h) ; exfalso ; omega)
             |skip
              try simp only [] at h
              refine Aa fun K22 hK22=>?_
              refine Ac ?_
              simp (disch:=omega) only [ne_eq,decide_true,decide_false,amL,amT,sA,sF,↓reduceIte]
              repeat' first | (refine Dp (fun h=>?_) (fun h=>?_) <;> simp (disch:=omega) only [h,hA,hO,hMd,e1,e2,ha,hB1,hb1,hb2,Bj,ne_eq,Bool.and_true,Bool.true_and,Bool.false_and,Bool.and_false,decide_true,decide_false,amL,amT,sA,sB,sC,sD,sE,sF,sG,sH,sI,sJ,sK,sL,sM,sN,sO,↓reduceIte,reduceCtorEq]) | (refine B0 (fun h=>?_) (fun h=>?_) <;> simp (disch:=omega) only [h,hA,hO,hMd,e1,e2,ha,hB1,hb1,hb2,Bj,ne_eq,Bool.and_true,Bool.true_and,Bool.false_and,Bool.and_false,decide_true,decide_false,amL,amT,sA,sB,sC,sD,sE,sF,sG,sH,sI,sJ,sK,sL,sM,sN,sO,↓reduceIte,reduceCtorEq])
              all_goals
               skip
               refine hK22 _ ?_
               refine Aj rfl (fun h=>?_) (fun h=>?_)
               ·first
                | exact Bool.noConfusion h
                | ((try simp only [Bool.not_eq_true',decide_eq_true_eq,decide_eq_false_iff_not,Bool.and_eq_true,Bool.not_eq_false',Bool.not_not,decide_not,Bool.not_true,Bool.not_false] at h) ; exfalso ; omega)
                |skip
                 try simp only [Bool.not_eq_true',decide_eq_true_eq,decide_eq_false_iff_not,Bool.and_eq_true,Bool.not_eq_false',Bool.not_not,decide_not,Bool.not_true,Bool.not_false] at h
                 refine Aa fun K23 hK23=>?_
                 refine Ac ?_
                 simp (disch:=omega) only [hA,hO,hMd,e1,e2,ha,hB1,hb1,hb2,Bj,ne_eq,Bool.and_true,Bool.true_and,Bool.false_and,Bool.and_false,decide_true,decide_false,amL,amT,sA,sB,sC,sD,sE,sF,sG,sH,sI,sJ,sK,sL,sM,sN,sO,↓reduceIte,reduceCtorEq]
                 refine hK23 _ ?_
                 refine Ah ?_
                 try simp (disch:=omega) only [hA,hO,hMd,e1,e2,ha,hB1,hb1,hb2,Bj,ne_eq,Bool.and_true,Bool.true_and,Bool.false_and,Bool.and_false,decide_true,decide_false,amL,amT,sA,sB,sC,sD,sE,sF,sG,sH,sI,sJ,sK,sL,sM,sN,sO,↓reduceIte,reduceCtorEq]
                 all_goals first | rfl | trace_state
               ·first
                | exact Bool.noConfusion h
                | ((try simp only [] at h) ; exfalso ; omega)
                |skip
                 try simp only [] at h
                 refine Ak ?_
                 refine hK20 _ ?_
                 refine Aa fun K24 hK24=>?_
                 refine Aa fun K25 hK25=>?_
                 refine Ac ?_
                 simp (disch:=omega) only [decide_true,amL,amT,sA,sF,↓reduceIte,reduceCtorEq]
                 repeat' first | (refine Dp (fun h=>?_) (fun h=>?_) <;> simp (disch:=omega) only [h,hA,hO,hMd,e1,e2,ha,hB1,hb1,hb2,Bj,ne_eq,Bool.and_true,Bool.true_and,Bool.false_and,Bool.and_false,decide_true,decide_false,amL,amT,sA,sB,sC,sD,sE,sF,sG,sH,sI,sJ,sK,sL,sM,sN,sO,↓reduceIte,reduceCtorEq]) | (refine B0 (fun h=>?_) (fun h=>?_) <;> simp (disch:=omega) only [h,hA,hO,hMd,e1,e2,ha,hB1,hb1,hb2,Bj,ne_eq,Bool.and_true,Bool.true_and,Bool.false_and,Bool.and_false,decide_true,decide_false,amL,amT,sA,sB,sC,sD,sE,sF,sG,sH,sI,sJ,sK,sL,sM,sN,sO,↓reduceIte,reduceCtorEq]) | (refine Aq (by kernel_rfl) rfl (c_risbeer l _ _ (by omega)) (by first | exact .inl rfl | exact .inr (.inl rfl)) ?_ ; simp (disch:=omega) only [hb1,hb2,decide_true,amL,amT,sA,sF,↓reduceIte,reduceCtorEq])
                 all_goals
                  skip
                  refine hK25 _ ?_
                  refine Aj rfl (fun h=>?_) (fun h=>?_)
                  ·first
                   | exact Bool.noConfusion h
                   | ((try simp only [] at h) ; exfalso ; omega)
                   |skip
                    try simp only [] at h
                    refine Aa fun K26 hK26=>?_
                    refine Ac ?_
                    simp (disch:=omega) only [decide_true,amL,amT,sA,sF,↓reduceIte]
                    repeat' first | (refine Dp (fun h=>?_) (fun h=>?_) <;> simp (disch:=omega) only [h,hA,hO,hMd,e1,e2,ha,hB1,hb1,hb2,Bj,ne_eq,Bool.and_true,Bool.true_and,Bool.false_and,Bool.and_false,decide_true,decide_false,amL,amT,sA,sB,sC,sD,sE,sF,sG,sH,sI,sJ,sK,sL,sM,sN,sO,↓reduceIte,reduceCtorEq]) | (refine B0 (fun h=>?_) (fun h=>?_) <;> simp (disch:=omega) only [h,hA,hO,hMd,e1,e2,ha,hB1,hb1,hb2,Bj,ne_eq,Bool.and_true,Bool.true_and,Bool.false_and,Bool.and_false,decide_true,decide_false,amL,amT,sA,sB,sC,sD,sE,sF,sG,sH,sI,sJ,sK,sL,sM,sN,sO,↓reduceIte,reduceCtorEq]) | (refine Aq (by kernel_rfl) rfl (Bgm) (by first | exact .inl rfl | exact .inr (.inl rfl)) ?_ ; simp (disch:=omega) only [decide_true,amL,sA,sF,↓reduceIte])
                    all_goals
                     skip
                     refine hK26 _ ?_
                     refine Ah ?_
                     try simp (disch:=omega) only [amL,↓reduceIte]
                     all_goals first | rfl | trace_state
                  ·first
                   | exact Bool.noConfusion h
                   | ((try simp only [Bool.not_eq_true',decide_eq_true_eq,decide_eq_false_iff_not,Bool.and_eq_true,Bool.not_eq_false',Bool.not_not,decide_not,Bool.not_true,Bool.not_false] at h) ; exfalso ; omega)
                   |skip
                    try simp only [Bool.not_eq_true',decide_eq_true_eq,decide_eq_false_iff_not,Bool.and_eq_true,Bool.not_eq_false',Bool.not_not,decide_not,Bool.not_true,Bool.not_false] at h
                    refine Ak ?_
                    refine hK24 _ ?_
                    refine Aa fun K27 hK27=>?_
                    refine Ac ?_
                    simp (disch:=omega) only [hA,hO,hMd,e1,e2,ha,hB1,hb1,hb2,Bj,ne_eq,Bool.and_true,Bool.true_and,Bool.false_and,Bool.and_false,decide_true,decide_false,amL,amT,sA,sB,sC,sD,sE,sF,sG,sH,sI,sJ,sK,sL,sM,sN,sO,↓reduceIte,reduceCtorEq]
                    repeat' first | (refine Dp (fun h=>?_) (fun h=>?_) <;> simp (disch:=omega) only [h,hA,hO,hMd,e1,e2,ha,hB1,hb1,hb2,Bj,ne_eq,Bool.and_true,Bool.true_and,Bool.false_and,Bool.and_false,decide_true,decide_false,amL,amT,sA,sB,sC,sD,sE,sF,sG,sH,sI,sJ,sK,sL,sM,sN,sO,↓reduceIte,reduceCtorEq]) | (refine B0 (fun h=>?_) (fun h=>?_) <;> simp (disch:=omega) only [h,hA,hO,hMd,e1,e2,ha,hB1,hb1,hb2,Bj,ne_eq,Bool.and_true,Bool.true_and,Bool.false_and,Bool.and_false,decide_true,decide_false,amL,amT,sA,sB,sC,sD,sE,sF,sG,sH,sI,sJ,sK,sL,sM,sN,sO,↓reduceIte,reduceCtorEq]) | (refine Aq (by kernel_rfl) rfl (c_rmade l g sp b hA (by omega) (by omega) (by omega)) (by first | exact .inl rfl | exact .inr (.inl rfl)) ?_ ; simp (disch:=omega) only [hA,hO,hMd,e1,e2,ha,hB1,hb1,hb2,Bj,ne_eq,Bool.and_true,Bool.true_and,Bool.false_and,Bool.and_false,decide_true,decide_false,amL,amT,sA,sB,sC,sD,sE,sF,sG,sH,sI,sJ,sK,sL,sM,sN,sO,↓reduceIte,reduceCtorEq]) | (refine Aq (by kernel_rfl) rfl ((by rw [encK_isl]; exact c_rsame _ (by rw [List.length_map]; have:=Anc (S:=N2 l g sp) (b:=b) (k:=b.length); omega))) (by first | exact .inl rfl | exact .inr (.inl rfl)) ?_ ; simp (disch:=omega) only [hA,hO,hMd,e1,e2,ha,hB1,hb1,hb2,Bj,ne_eq,Bool.and_true,Bool.true_and,Bool.false_and,Bool.and_false,decide_true,decide_false,amL,amT,sA,sB,sC,sD,sE,sF,sG,sH,sI,sJ,sK,sL,sM,sN,sO,↓reduceIte,reduceCtorEq]) | (refine Aq (by kernel_rfl) rfl (Bgm) (by first | exact .inl rfl | exact .inr (.inl rfl)) ?_ ; simp (disch:=omega) only [hA,hO,hMd,e1,e2,ha,hB1,hb1,hb2,Bj,ne_eq,Bool.and_true,Bool.true_and,Bool.false_and,Bool.and_false,decide_true,decide_false,amL,amT,sA,sB,sC,sD,sE,sF,sG,sH,sI,sJ,sK,sL,sM,sN,sO,↓reduceIte,reduceCtorEq])
                    all_goals
                     skip
                     refine hK27 _ ?_
                     refine Ah ?_
                     try simp (disch:=omega) only [hA,hO,hMd,e1,e2,ha,hB1,hb1,hb2,Bj,ne_eq,Bool.and_true,Bool.true_and,Bool.false_and,Bool.and_false,decide_true,decide_false,amL,amT,sA,sB,sC,sD,sE,sF,sG,sH,sI,sJ,sK,sL,sM,sN,sO,↓reduceIte,reduceCtorEq]
                     all_goals first | rfl | trace_state
            ·first
             | exact Bool.noConfusion h
             | ((try simp only [] at h) ; exfalso ; omega)
             |skip
              try simp only [] at h
              refine Aa fun K28 hK28=>?_
              refine Ac ?_
              simp (disch:=omega) only [ne_eq,decide_true,decide_false,amL,amT,sA,sF,↓reduceIte,reduceCtorEq]
              repeat' first | (refine Dp (fun h=>?_) (fun h=>?_) <;> simp (disch:=omega) only [h,hA,hO,hMd,e1,e2,ha,hB1,hb1,hb2,Bj,ne_eq,Bool.and_true,Bool.true_and,Bool.false_and,Bool.and_false,decide_true,decide_false,amL,amT,sA,sB,sC,sD,sE,sF,sG,sH,sI,sJ,sK,sL,sM,sN,sO,↓reduceIte,reduceCtorEq]) | (refine B0 (fun h=>?_) (fun h=>?_) <;> simp (disch:=omega) only [h,hA,hO,hMd,e1,e2,ha,hB1,hb1,hb2,Bj,ne_eq,Bool.and_true,Bool.true_and,Bool.false_and,Bool.and_false,decide_true,decide_false,amL,amT,sA,sB,sC,sD,sE,sF,sG,sH,sI,sJ,sK,sL,sM,sN,sO,↓reduceIte,reduceCtorEq]) | (refine Aq (by kernel_rfl) rfl (c_rorig l g.lo sp.hi hA (by omega) y1.2) (by first | exact .inl rfl | exact .inr (.inl rfl)) ?_ ; simp (disch:=omega) only [ne_eq,decide_true,decide_false,amL,amT,sA,sF,↓reduceIte])
              all_goals
               skip
               refine hK28 _ ?_
               refine Aj rfl (fun h=>?_) (fun h=>?_)
               ·first
                | exact Bool.noConfusion h
                | ((try simp only [Bool.not_eq_true',decide_eq_true_eq,decide_eq_false_iff_not,Bool.and_eq_true,Bool.not_eq_false',Bool.not_not,decide_not,Bool.not_true,Bool.not_false] at h) ; exfalso ; omega)
                |skip
                 try simp only [Bool.not_eq_true',decide_eq_true_eq,decide_eq_false_iff_not,Bool.and_eq_true,Bool.not_eq_false',Bool.not_not,decide_not,Bool.not_true,Bool.not_false] at h
                 refine Aa fun K29 hK29=>?_
                 refine Ac ?_
                 simp (disch:=omega) only [hA,hO,hMd,e1,e2,ha,hB1,hb1,hb2,Bj,ne_eq,Bool.and_true,Bool.true_and,Bool.false_and,Bool.and_false,decide_true,decide_false,amL,amT,sA,sB,sC,sD,sE,sF,sG,sH,sI,sJ,sK,sL,sM,sN,sO,↓reduceIte,reduceCtorEq]
                 refine hK29 _ ?_
                 refine Ah ?_
                 try simp (disch:=omega) only [hA,hO,hMd,e1,e2,ha,hB1,hb1,hb2,Bj,ne_eq,Bool.and_true,Bool.true_and,Bool.false_and,Bool.and_false,decide_true,decide_false,amL,amT,sA,sB,sC,sD,sE,sF,sG,sH,sI,sJ,sK,sL,sM,sN,sO,↓reduceIte,reduceCtorEq]
                 all_goals first | rfl | trace_state
               ·first
                | exact Bool.noConfusion h
                | ((try simp only [] at h) ; exfalso ; omega)
                |skip
                 try simp only [] at h
                 refine Ak ?_
                 refine hK20 _ ?_
                 refine Aa fun K30 hK30=>?_
                 refine Aa fun K31 hK31=>?_
                 refine Ac ?_
                 simp (disch:=omega) only [decide_true,amL,amT,sA,sF,↓reduceIte,reduceCtorEq]
                 repeat' first | (refine Dp (fun h=>?_) (fun h=>?_) <;> simp (disch:=omega) only [h,hA,hO,hMd,e1,e2,ha,hB1,hb1,hb2,Bj,ne_eq,Bool.and_true,Bool.true_and,Bool.false_and,Bool.and_false,decide_true,decide_false,amL,amT,sA,sB,sC,sD,sE,sF,sG,sH,sI,sJ,sK,sL,sM,sN,sO,↓reduceIte,reduceCtorEq]) | (refine B0 (fun h=>?_) (fun h=>?_) <;> simp (disch:=omega) only [h,hA,hO,hMd,e1,e2,ha,hB1,hb1,hb2,Bj,ne_eq,Bool.and_true,Bool.true_and,Bool.false_and,Bool.and_false,decide_true,decide_false,amL,amT,sA,sB,sC,sD,sE,sF,sG,sH,sI,sJ,sK,sL,sM,sN,sO,↓reduceIte,reduceCtorEq]) | (refine Aq (by kernel_rfl) rfl (c_risbeer l _ _ (by omega)) (by first | exact .inl rfl | exact .inr (.inl rfl)) ?_ ; simp (disch:=omega) only [hb1,hb2,decide_true,amL,amT,sA,sF,↓reduceIte,reduceCtorEq])
                 all_goals
                  skip
                  refine hK31 _ ?_
                  refine Aj rfl (fun h=>?_) (fun h=>?_)
                  ·first
                   | exact Bool.noConfusion h
                   | ((try simp only [] at h) ; exfalso ; omega)
                   |skip
                    try simp only [] at h
                    refine Aa fun K32 hK32=>?_
                    refine Ac ?_
                    simp (disch:=omega) only [decide_true,amL,amT,sA,sF,↓reduceIte]
                    repeat' first | (refine Dp (fun h=>?_) (fun h=>?_) <;> simp (disch:=omega) only [h,hA,hO,hMd,e1,e2,ha,hB1,hb1,hb2,Bj,ne_eq,Bool.and_true,Bool.true_and,Bool.false_and,Bool.and_false,decide_true,decide_false,amL,amT,sA,sB,sC,sD,sE,sF,sG,sH,sI,sJ,sK,sL,sM,sN,sO,↓reduceIte,reduceCtorEq]) | (refine B0 (fun h=>?_) (fun h=>?_) <;> simp (disch:=omega) only [h,hA,hO,hMd,e1,e2,ha,hB1,hb1,hb2,Bj,ne_eq,Bool.and_true,Bool.true_and,Bool.false_and,Bool.and_false,decide_true,decide_false,amL,amT,sA,sB,sC,sD,sE,sF,sG,sH,sI,sJ,sK,sL,sM,sN,sO,↓reduceIte,reduceCtorEq]) | (refine Aq (by kernel_rfl) rfl (Bgm) (by first | exact .inl rfl | exact .inr (.inl rfl)) ?_ ; simp (disch:=omega) only [decide_true,amL,sA,sF,↓reduceIte])
                    all_goals
                     skip
                     refine hK32 _ ?_
                     refine Ah ?_
                     try simp (disch:=omega) only [amL,↓reduceIte]
                     all_goals first | rfl | trace_state
                  ·first
                   | exact Bool.noConfusion h
                   | ((try simp only [] at h) ; exfalso ; omega)
                   |skip
                    try simp only [] at h
                    refine Ak ?_
                    refine hK30 _ ?_
                    refine Aa fun K33 hK33=>?_
                    refine Ac ?_
                    simp (disch:=omega) only [decide_true,amL,amT,sA,sB,sF,↓reduceIte,reduceCtorEq]
                    repeat' first | (refine Dp (fun h=>?_) (fun h=>?_) <;> simp (disch:=omega) only [h,hA,hO,hMd,e1,e2,ha,hB1,hb1,hb2,Bj,ne_eq,Bool.and_true,Bool.true_and,Bool.false_and,Bool.and_false,decide_true,decide_false,amL,amT,sA,sB,sC,sD,sE,sF,sG,sH,sI,sJ,sK,sL,sM,sN,sO,↓reduceIte,reduceCtorEq]) | (refine B0 (fun h=>?_) (fun h=>?_) <;> simp (disch:=omega) only [h,hA,hO,hMd,e1,e2,ha,hB1,hb1,hb2,Bj,ne_eq,Bool.and_true,Bool.true_and,Bool.false_and,Bool.and_false,decide_true,decide_false,amL,amT,sA,sB,sC,sD,sE,sF,sG,sH,sI,sJ,sK,sL,sM,sN,sO,↓reduceIte,reduceCtorEq]) | (refine Aq (by kernel_rfl) rfl (c_rmade l g sp b hA (by omega) (by omega) (by omega)) (by first | exact .inl rfl | exact .inr (.inl rfl)) ?_ ; simp (disch:=omega) only [decide_true,amL,sA,sF,↓reduceIte]) | (refine Aq (by kernel_rfl) rfl ((by rw [encK_isl]; exact c_rsame _ (by rw [List.length_map]; have:=Anc (S:=N2 l g sp) (b:=b) (k:=b.length); omega))) (by first | exact .inl rfl | exact .inr (.inl rfl)) ?_ ; simp (disch:=omega) only [decide_true,amL,sA,sF,↓reduceIte]) | (refine Aq (by kernel_rfl) rfl (Bgm) (by first | exact .inl rfl | exact .inr (.inl rfl)) ?_ ; simp (disch:=omega) only [decide_true,amL,sA,sF,↓reduceIte])
                    all_goals
                     skip
                     refine hK33 _ ?_
                     refine Ah ?_
                     try simp (disch:=omega) only [amL,↓reduceIte]
                     all_goals first | rfl | trace_state
end AM.Try
end
