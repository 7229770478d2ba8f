/- Lemmas for the proof: an abstract machine over the program's form in Lean, and the program's functions walked on it. -/
import Derived.Test.YtbgiddcgdgdmbaaQ4
/- The program: Go's slices.Clone; an account's debts. -/
section
namespace AM.Dty
open Go AM AM.Duty AM.Try Go.Proofs
open Nat renaming reduceLT→sA,reduceAdd→sB,reduceMul→sC,reduceSub→sD,reduceLeDiff→sE,reduceEqDiff→sF,reduceBEq→sG
open Int renaming reduceAdd→sH,reduceSub→sI,reduceMul→sJ,reduceLT→sK,reduceLE→sL,reduceNeg→sM,reduceToNat→sN,reduceEq→sO
set_option maxRecDepth 100000
set_option maxHeartbeats 8000000
theorem Acy {r:RB} {N:Nat} {s:St} {K:St→Prop} {dst:Option Nat} {ty:TypeId} {pos:String} {after:Array Edge} {g:Option (Nat × Bool)} {x:Operand} {lo hi:Option Operand}:EO Try.prog r N ⟨dst,.slice 181 x lo hi none,ty,pos,after,g⟩ s K=EOp r.b N dst s K (Ao4 (fun e=>(Ab Try.prog e).sz) (fun e=>(Ab Try.prog e).agg) 12 3 (ev s.t x) (Bv (ev s.t) 0 lo) (Bv (ev s.t) 12 hi)):=Agq (by rw [Aoi])
theorem Aby {last p:Int} {l:List Fi} (h:Fh last p l=true):∀ (d q:Int),0≤q∧q≤100→0≤B5 d l q∧B5 d l q≤100:=by
 induction l generalizing p with
 | nil=>intro d q hq; exact hq
 | cons r l ih=>
  intro d q hq
  simp only [Fh,Bool.and_eq_true,inB,decide_eq_true_eq] at h
  simp only [B5]
  refine ih h.2.2.2 d _ ?_
  split
  ·omega
  ·exact hq
def Cu:List Bo→List Int→Bool
 | [],[]=>true
 | e :: es,u :: us=>inB u e.lo e.hi&&Cu es us
 | _,_=>false
theorem H4:∀ {es:List Bo} {t:List Int},Cu es t=true→t.length=es.length
 | [],[],_=>rfl
 | [],_ :: _,h=>by cases h
 | _ :: _,[],h=>by cases h
 | e :: es,u :: us,h=>by
  simp only [Cu,Bool.and_eq_true] at h
  simp [H4 h.2]
theorem Ul:∀ {es:List Bo} {t:List Int},Cu es t=true→∀ j,j < es.length→inB (t.getD j 0) (A9 es j).lo (A9 es j).hi=true
 | [],[],_,j,h=>by simp at h
 | [],_ :: _,h,_,_=>by cases h
 | _ :: _,[],h,_,_=>by cases h
 | e :: es,u :: us,h,0,_=>by
  simp only [Cu,Bool.and_eq_true] at h
  exact h.1
 | e :: es,u :: us,h,j+1,hj=>by
  simp only [Cu,Bool.and_eq_true] at h
  exact Ul h.2 j (by simpa using hj)
theorem V1 {last:Int} {e:Bo} (h:Cb last e=true):(0≤e.kind∧e.kind≤3)∧(0≤e.day∧e.day≤last):=by
 unfold Cb at h
 simp only [Bool.and_eq_true] at h
 obtain ⟨h0,h⟩:=h
 simp only [inB,Bool.and_eq_true,decide_eq_true_eq] at h0
 refine ⟨?_,h0⟩
 split at h
 ·omega
 ·split at h
  ·omega
  ·split at h
   ·omega
   ·split at h
    ·omega
    ·cases h
theorem Tg {last:Int} {l:List Bo} {j:Nat} (h:l.all (Cb last)=true) (hj:j < l.length):Cb last (A9 l j)=true:=by
 rw [List.all_eq_true] at h
 exact h _ (Ee default hj)
theorem Ad7 {a:Acc} {t:List Int} (h:Aq a=0) (hl:Cu a.entries t=true):Akl a t:=by
 obtain ⟨h1,h2,h3,h4,h5,_⟩:=Ez h
 simp only [inB,Bool.and_eq_true,decide_eq_true_eq] at h3
 refine ⟨by omega,by omega,by omega,by omega,by omega,by omega,H4 hl,h2,by omega,fun x=>Aby h4 x 0 (by omega),fun j hj=>?_,fun j hj=>?_⟩
 ·rw [H4 hl] at hj
  have e:=Tg h5 hj
  have:=Gs e
  have hb:=Ul hl j hj
  simp only [inB,Bool.and_eq_true,decide_eq_true_eq] at hb
  omega
 ·have e:=Tg h5 hj
  have e1:=V1 e
  have e2:=Gs e
  have e3:=V5 e
  omega
theorem Z1 {a:Acc} {t paid:List Int} {ask:Bool}:∀ {c day:Nat} {w:Int × Int},(D4 a t paid ask c day w).1.length≤c
 | 0,_,_=>by simp [D4]
 | c+1,day,w=>by
  rw [Jc]
  split
  ·simp
  ·simp only [List.length_cons]
   have:=Z1 (a:=a) (t:=t) (paid:=paid) (ask:=ask) (c:=c) (day:=day+1) (w:=Fg a paid day (by assumption))
   omega
theorem Ke {a:Acc} {t paid:List Int} {ask:Bool} (h1:a.last≤11):(Bq a t paid ask).1.length≤12:=by
 have:=Z1 (a:=a) (t:=t) (paid:=paid) (ask:=ask) (c:=(a.last+1).toNat) (day:=0) (w:=(0,0))
 unfold Bq; omega
def F4 (F mv:Nat→Prop) (os:Nat→Option AO):Prop:=∀ n o,¬ F n→os n=some o→∀ m,mv m→o.clean m=true
theorem F4.of {F F' mv:Nat→Prop} {os os':Nat→Option AO} (h:F4 F mv os) (h':∀ n o,¬ F' n→os' n=some o→(¬ F n∧os n=some o)∨∀ m,mv m→o.clean m=true):F4 F' mv os':=fun n o hn ho=>by
  rcases h' n o hn ho with h1 | h1
  · exact h n o h1.1 h1.2
  · exact h1
theorem F4.none {F:Nat→Prop} {os:Nat→Option AO}:F4 F (fun _=>False) os:=fun _ _ _ _ _ h=>h.elim
theorem F4.upd {F mv:Nat→Prop} {os:Nat→Option AO} {n:Nat} {o:AO} (h:F4 F mv os) (ho:∀ m,mv m→o.clean m=true):F4 F mv (upd os n (some o)):=fun k x hk hx=>by
  by_cases e:k=n
  · subst e; rw [Ak] at hx; cases hx; exact ho
  · rw [Ad e] at hx; exact h k x hk hx
theorem Jq {cs:List AV} {mv:Nat→Prop} (h:∀ x ∈ cs,x.stays mv) (m:Nat) (hm:mv m):(AO.cells cs).clean m=true:=(B0 m cs).2 fun _ x hx=>h x (List.mem_of_getElem? hx) m hm
theorem Acg {l:List Int} {m:Nat}:(AO.cells (l.map i64)).clean m=true:=(B0 m _).2 fun i x hx=>by
  rw [List.getElem?_map,Option.map_eq_some_iff] at hx
  obtain ⟨y,_,rfl⟩:=hx
  rfl
theorem Ahr {mv:Nat→Prop} {f:Fn} {fs cs:List AV} (h1:∀ x ∈ fs,x.stays mv) (h2:∀ x ∈ cs,x.stays mv):(AV.fn f fs cs).stays mv:=fun m hm=>by
  simp only [AV.clean,Bool.and_eq_true,B0]
  exact ⟨fun i x hx=>h1 x (List.mem_of_getElem? hx) m hm,fun i x hx=>h2 x (List.mem_of_getElem? hx) m hm⟩
theorem Af6 {mv:Nat→Prop} {n len:Nat} (h:¬ mv n):(AV.own n len).stays mv:=fun m hm=>by
  simp only [AV.clean,bne_iff_ne]; intro e; exact h (e ▸ hm)
theorem Afo {mv:Nat→Prop} {n:Nat} (h:¬ mv n):(AV.yld n).stays mv:=fun m hm=>by
  simp only [AV.clean,bne_iff_ne]; intro e; exact h (e ▸ hm)
structure Jd (yv:AV) (F mv:Nat→Prop) (ex:List Int→List AV) (ok:List Int→Prop) {σ:Type} (go:Nat→σ→Prop) (I:σ→(Nat→Option AO)→Prop) (step:σ→List Int→σ × Bool):Prop where
  mvF:∀ n,mv n→F n
  stays:yv.stays mv
  live:∀ s os,I s os→yv.lives os
  own:∀ m,yv.clean m=false→F m
  stable:∀ s os os',I s os→(∀ n,F n→os' n=os n)→I s os'
  foot:∀ s os n,I s os→F n→∃ o,os n=some o∧∀ m,o.clean m=false→F m
  mono:∀ r s,go (r+1) s→go r s
  next:∀ r s x,ok x→go (r+1) s→(step s x).2=true→go r (step s x).1
  call:∀ r s x os bd na,ok x→go (r+1) s→I s os→F4 F mv os→¬ F na→os na=some (.arr 1 (x.map Hh)) →
    Eo Try.prog mv bd yv (.own na x.length :: ex x) os fun res os'=>res=bl (step s x).2∧I (step s x).1 os'∧∀ n,¬ F n→os' n=os n
theorem Hd {bd:Nat} {os os2:Nat→Option AO} (hcl:(Hp os).closed) (hcl2:(Hp os2).closed) (hfree:∀ n,bd≤n→os n=none) (h:∀ n,n < bd→os2 n=os n∨∀ o m,os2 n=some o→o.clean m=false→m < bd):(Hp (Ap bd os2)).closed:=by
  refine ⟨fun _=>AV.lives_undef _,fun n o hn m hm=>?_⟩
  have hn:Ap bd os2 n=some o:=hn
  by_cases hb:n < bd
  · rw [Bj hb] at hn
    have hm2:(os2 m).isSome=true:=hcl2.2 n o hn m hm
    have hmb:m < bd:=by
      rcases h n hb with h | h
      · rw [h] at hn
        have:(os m).isSome=true:=hcl.2 n o hn m hm
        cases Nat.lt_or_ge m bd with
        | inl h=>exact h
        | inr h'=>rw [hfree m h'] at this; cases this
      · exact h o m hn hm
    show (Ap bd os2 m).isSome=true
    rw [Bj hmb]; exact hm2
  · rw [De (by omega)] at hn; cases hn
def Ff (f:Int→List (List Int)):Nat→Int→List (List Int)
  | 0,_=>[]
  | c+1,n=>f n++Ff f c (n+1)
def Cj:List Bo→List Int→List (List Int)
  | [],p=>[p]
  | e :: es,p=>Ff (fun n=>Cj es (p++[n])) (e.hi - e.lo+1).toNat e.lo
theorem Gx {σ α:Type} {step:σ→α→σ × Bool}:∀ (l1 l2:List α) (s:σ),Ca step s (l1++l2)=if (Ca step s l1).2=true then Ca step (Ca step s l1).1 l2 else Ca step s l1
  | [],l2,s=>rfl
  | x :: l1,l2,s=>by
    simp only [List.cons_append,Ca]
    split
    · rw [Gx l1 l2]
    · rename_i h; simp
theorem Ads {yv:AV} {F mv:Nat→Prop} {ex:List Int→List AV} {ok:List Int→Prop} {σ:Type} {go:Nat→σ→Prop} {I:σ→(Nat→Option AO)→Prop} {step:σ→List Int→σ × Bool} (hY:Jd yv F mv ex ok go I step) {r:Nat}:∀ (l:List (List Int)) (s:σ),(∀ x ∈ l,ok x)→go (l.length+r) s→(Ca step s l).2=true→go r (Ca step s l).1
  | [],s,_,hg,_=>by
    rw [List.length_nil,Nat.zero_add] at hg; exact hg
  | x :: l,s,ho,hg,h=>by
    simp only [Ca] at h ⊢
    rw [List.length_cons,show l.length+1+r=(l.length+r)+1 by omega] at hg
    split at h
    · rename_i h1
      rw [if_pos h1]
      exact Ads hY l _ (fun y hy=>ho y (by simp [hy])) (hY.next _ s x (ho x (by simp)) hg h1) h
    · cases h
theorem Vc {f:Int→List (List Int)} {x:List Int}:∀ (c:Nat) (n:Int) (k:Nat),k < c→x ∈ f (n+k)→x ∈ Ff f c n
  | 0,_,k,hk,_=>by omega
  | c+1,n,0,_,h=>by
    simp only [Ff,List.mem_append]
    left; simpa using h
  | c+1,n,k+1,hk,h=>by
    simp only [Ff,List.mem_append]
    right
    refine Vc c (n+1) k (by omega) ?_
    rw [show n+1+(k:Int)=n+((k+1:Nat):Int) by omega]; exact h
structure Ch (a:Acc) (no ny nA nc na:Nat) (yv:AV) (cur:List Int) (os:Nat→Option AO):Prop where
  o1:os no=some (.cells [.own na cur.length])
  o2:os ny=some (.cells [yv])
  o3:os nA=some (.cells (cA a))
  o4:os nc=some (.cells [.fn (.func 169) [] [.ptr no 0,.ptr ny 0,.ptr nA 0,.ptr nc 0]])
  o5:os na=some (.arr 1 (cur.map Hh))
  len:cur.length=a.entries.length
theorem Ko {σ α:Type} {step:σ→α→σ × Bool} {s:σ} {x:α}:Ca step s [x]=step s x:=by
  simp only [Ca]
  split
  · rename_i h; exact Prod.ext rfl h.symm
  · rename_i h; exact Prod.ext rfl (Bool.eq_false_iff.2 h).symm
theorem Jd.fin {yv:AV} {F mv:Nat→Prop} {ex:List Int→List AV} {ok:List Int→Prop} {σ:Type} {go:Nat→σ→Prop} {I:σ→(Nat→Option AO)→Prop} {step:σ→List Int→σ × Bool} (hY:Jd yv F mv ex ok go I step) {os os2:Nat→Option AO} {bd na:Nat} {l:List (List PV)} (hcl:(Hp os).closed) (hcl2:(Hp os2).closed) (hfree:∀ n,bd≤n→os n=none) {s s':σ} (hI:I s os) (hI2:I s' os2) (b5:na < bd) (hna:os2 na=some (.arr 1 l))
    (hfr:∀ n,n < bd→¬ F n→n≠na→os2 n=os n):(Hp (Ap bd os2)).closed∧I s' (Ap bd os2)∧Ap bd os2 na=some (.arr 1 l)∧∀ n,¬ F n→n≠na→Ap bd os2 n=os n:=by
  have hF:∀ n,F n→n < bd:=fun n hn=>by obtain ⟨o,h,_⟩:=hY.foot s os n hI hn; exact Al hfree h
  refine ⟨Hd hcl hcl2 hfree fun n hn=>?_,hY.stable s' os2 _ hI2 (fun n hn=>Bj (hF n hn)),(Bj b5).trans hna,fun n h1 h2=>?_⟩
  · by_cases h1:F n
    · right
      intro o m h2 h3
      obtain ⟨o',h4,h5⟩:=hY.foot s' os2 n hI2 h1
      rw [h4] at h2; cases h2
      exact hF m (h5 m h3)
    · by_cases h2:n=na
      · right
        intro o m h3 h4
        subst h2
        rw [hna] at h3; cases h3
        simp [AO.clean] at h4
      · exact .inl (hfr n hn h1 h2)
  · by_cases hb:n < bd
    · rw [Bj hb]; exact hfr n hb h1 h2
    · rw [De (by omega),hfree n (by omega)]
theorem Ks {l:List Int} {i:Nat} {v:Int}:(l.map Hh).set i [iv v]=(l.set i v).map Hh:=List.map_set.symm
theorem Ahg {l:List Int} {i:Nat} {v:Int} (h:i < l.length):(l.set i v).take (i+1)=l.take i++[v]:=by
  rw [List.take_succ_eq_append_getElem (by simpa using h)]; simp [List.take_set_of_le]
theorem Ajd {l p:List Int} {v:Int} {i:Nat} (h:l.take (i+1)=p++[v]) (hp:p.length=i):l.take i=p:=by
  have:=congrArg (List.take i) h
  rw [List.take_take,Nat.min_eq_left (by omega),List.take_append_of_le_length (Nat.le_of_eq hp.symm),List.take_of_length_le (Nat.le_of_eq hp)] at this
  exact this
theorem Abh {a:Acc} {cur:List Int} {i:Nat} (h:i < a.entries.length):Cj (a.entries.drop i) (cur.take i)=Ff (fun n=>Cj (a.entries.drop (i+1)) (cur.take i++[n])) ((A9 a.entries i).hi - (A9 a.entries i).lo+1).toNat (A9 a.entries i).lo:=by
  rw [Gi (d:=default) h]; rfl
theorem Af2 {a:Acc} {cur:List Int} {i:Nat} (h:a.entries.length≤i) (hl:cur.length=a.entries.length):Cj (a.entries.drop i) (cur.take i)=[cur]:=by
  rw [List.drop_of_length_le h,List.take_of_length_le (by omega)]; rfl
theorem Gy {f:Int→List (List Int)} {sz n:Nat} {lo:Int} (h:n < sz):Ff f (sz - n) (lo+n)=f (lo+n)++Ff f (sz - (n+1)) (lo+(n+1:Nat)):=by
  rw [show sz - n=(sz - (n+1))+1 by omega,show lo+((n+1:Nat):Int)=lo+n+1 by omega]; rfl
theorem Pw {f:Int→List (List Int)} {sz n:Nat} {lo:Int} (h:sz≤n):Ff f (sz - n) lo=[]:=by
  rw [show sz - n=0 by omega]; rfl
theorem Bbj {a:Acc} {yv:AV} {F mv:Nat→Prop} {ok:List Int→Prop} {σ:Type} {go:Nat→σ→Prop} {I:σ→(Nat→Option AO)→Prop} {step:σ→List Int→σ × Bool} (hY:Jd yv F mv (fun _=>[]) ok go I step) (hsm:Rv a.entries) {no ny nA nc na:Nat} (f1:¬ F no) (f2:¬ F ny) (f3:¬ F nA) (f4:¬ F nc) (f5:¬ F na) :
    ∀ (m i:Nat),a.entries.length - i=m→i≤a.entries.length→∀ (r:Nat) (cur:List Int) (s:σ) (os:Nat→Option AO) (bd:Nat),Ch a no ny nA nc na yv cur os→go ((Cj (a.entries.drop i) (cur.take i)).length+r) s→I s os→F4 F mv os→(∀ x ∈ Cj (a.entries.drop i) (cur.take i),ok x) →
    Eo Try.prog mv bd (.fn (.func 169) [] [.ptr no 0,.ptr ny 0,.ptr nA 0,.ptr nc 0]) [i64 i] os fun res os'=>res=bl (Ca step s (Cj (a.entries.drop i) (cur.take i))).2∧I (Ca step s (Cj (a.entries.drop i) (cur.take i))).1 os' ∧
      (∃ cur':List Int,cur'.length=cur.length∧cur'.take i=cur.take i∧os' na=some (.arr 1 (cur'.map Hh)))∧∀ n,¬ F n→n≠na→os' n=os n:=by
  intro m
  induction m using Nat.strongRecOn with
  | ind m ih=>
  intro i hm hi r cur s os bd hch hg hI hap hok
  refine Bn (v:=[]) (q:=[]) (N:=40) (rs:=[.tmp 6]) Try.func169 rfl (by kernel_rfl) rfl rfl (fun hcl hfree=>?_)
  obtain ⟨o1,o2,o3,o4,o5,hlen⟩:=hch
  have hfr0:∀ k,os (bd+k)=none:=fun k=>hfree _ (by omega)
  have b1:=Al hfree o1
  have b2:=Al hfree o2
  have b3:=Al hfree o3
  have b4:=Al hfree o4
  have b5:=Al hfree o5
  have hF:∀ n,F n→n < bd:=fun n hn=>by obtain ⟨o,h,_⟩:=hY.foot s os n hI hn; exact Al hfree h
  have hF7:¬ F (bd+7):=fun h=>by have:=hF _ h; omega
  have d1:na≠no:=fun e=>by subst e; rw [o1] at o5; cases o5
  have d2:na≠ny:=fun e=>by subst e; rw [o2] at o5; cases o5
  have d3:na≠nA:=fun e=>by subst e; rw [o3] at o5; cases o5
  have d4:na≠nc:=fun e=>by subst e; rw [o4] at o5; cases o5
  have hlv:=hY.live _ _ hI
  have hsmall:=hsm.1
  refine Aa fun K1 hK1=>?_
  refine Ac ?_
  simp (disch:=omega) only [amL,sA,sB]
  refine hK1 _ ?_
  refine Aa fun K2 hK2=>?_
  refine Aa fun K3 hK3=>?_
  refine Ac ?_
  simp (disch:=omega) only [o1,amL,amT,sA,sF,↓reduceIte,reduceCtorEq]
  refine hK3 _ ?_
  refine Ag rfl (fun h=>?_) (fun h=>?_)
  ·first
   | exact Bool.noConfusion h
   |skip
    try simp only [decide_eq_true_eq] at h
    refine Aa fun K4 hK4=>?_
    refine Ac ?_
    have hone:=Af2 (a:=a) (cur:=cur) (i:=i) (by omega) hlen
    rw [hone] at hok hg
    simp (disch:=omega) only [o1,o2,amL,amT,sA,sF,↓reduceIte,reduceCtorEq]
    refine Nw [] (by decide) (hY.call r s cur os (bd+40) na (hok cur (by simp)) (by rw [List.length_cons,List.length_nil,show 0+1+r=r+1 by omega] at hg; exact hg) hI hap f5 o5) (fun _ h=>.inl h) trivial (fun n hn=>hfree n (by omega)) (by simp only []; omega) (fun res os2 hR hcl2 hlv2=>?_)
    obtain ⟨rfl,hI2,hfr2⟩:=hR
    simp (disch:=omega) only [amL,sA,↓reduceIte]
    refine hK4 _ ?_
    refine Ae ?_
    try simp (disch:=omega) only [amL]
    first | (obtain ⟨g1,g2,g3,g4⟩:=hY.fin hcl hcl2 hfree hI hI2 b5 ((hfr2 na f5).trans o5) (fun q _ hq _=>hfr2 q hq); refine Az (res:=bl _) (Ap bd os2) (by simp (disch:=omega) only [amL,↓reduceIte]; try rfl) (Bh _ _) g1 (AV.lives_p _ _) ⟨by rw [hone,Ko],by rw [hone,Ko]; exact g2,⟨cur,rfl,rfl,g3⟩,g4⟩) | (rw [Gy hn2,Gx,if_neg (by rw [h]; simp)] at hall; obtain ⟨g1,g2,g3,g4⟩:=hY.fin hcl hcl2 hfree hI hI2 b5 k3 (fun q hq h1 h2=>(hfr2 q h1 h2).trans ((Ad h2).trans (hfr1 q h1 h2 (by omega)))); refine Az (res:=bl _) (Ap bd os2) (by simp (disch:=omega) only [o1,o2,o3,o4,o5,hfr0,Ad,B9,C8,Ks,hlv,amL,amT,sA,sB,sC,sD,sE,sF,sG,sH,sI,sJ,sK,sL,sM,sN,sO,↓reduceIte,reduceCtorEq]; try rfl) (Bh _ _) g1 (AV.lives_p _ _) ⟨by rw [← hall,h],by rw [← hall]; exact g2,⟨cur3,k1,k2,g3⟩,g4⟩) | (rw [Pw (by omega)] at hall; obtain ⟨g1,g2,g3,g4⟩:=hY.fin hcl hcl1 hfree hI hI1 b5 p5 (fun q hq h1 h2=>hfr1 q h1 h2 (by omega)); refine Az (res:=bl _) (Ap bd os1) (by simp (disch:=omega) only [o1,o2,o3,o4,o5,hfr0,Ad,B9,C8,Ks,hlv,amL,amT,sA,sB,sC,sD,sE,sF,sG,sH,sI,sJ,sK,sL,sM,sN,sO,↓reduceIte,reduceCtorEq]; try rfl) (Bh _ _) g1 (AV.lives_p _ _) ⟨by rw [← hall]; rfl,by rw [← hall]; exact g2,⟨cur1,hc1,hc2,g3⟩,g4⟩) | (omega)
  ·first
   | exact Bool.noConfusion h
   |skip
    try simp only [decide_eq_false_iff_not] at h
    refine Aj ?_
    refine hK2 _ ?_
    refine Aa fun K5 hK5=>?_
    refine Ac ?_
    have hi2:i < a.entries.length:=by omega
    obtain ⟨q1,q2,q3⟩:=hsm.2 i hi2
    have hhere:=Abh (a:=a) (cur:=cur) hi2
    simp (disch:=omega) only [o3,hfr0,B9,amL,amT,sA,sB,sE,sF,↓reduceIte,reduceCtorEq]
    refine hK5 _ ?_
    refine Aa fun K6 hK6=>?_
    refine Aa fun K7 hK7=>?_
    refine Ac ?_
    have hcl7:(Hp (upd os (bd+7) (some (.cells [i64 (A9 a.entries i).lo,i64 (A9 a.entries i).hi])))).closed:=Bc hcl (by rw [Bp]; simp only [A8,Ax,Da,and_self])
    simp (disch:=omega) only [amL,amT,sA,sB,↓reduceIte]
    repeat' first | (refine Am (by kernel_rfl) rfl (c66 _ _ (by omega) (by omega)) (by first | exact .inl rfl | exact .inr (.inl rfl)) ?_ ; simp (disch:=omega) only [amL,sA])
    refine hK7 _ ?_
    refine Ai ?_
    skip
    refine A7 (α:=Nat × σ × List Int × (Nat→Option AO)) (fun x=>⟨T [(0,i64 i),(1,.ptr no 0),(2,.ptr ny 0),(3,.ptr nA 0),(4,.ptr nc 0),(7,.ptr (bd+7) 0),(23,i64 ((A9 a.entries i).hi - (A9 a.entries i).lo+1)),(24,i64 x.1)],x.2.2.2⟩) (fun x=>((A9 a.entries i).hi - (A9 a.entries i).lo+1).toNat - x.1) (fun x=>x.1≤((A9 a.entries i).hi - (A9 a.entries i).lo+1).toNat∧x.2.2.1.length=cur.length∧x.2.2.1.take i=cur.take i∧go ((Ff (fun n=>Cj (a.entries.drop (i+1)) (cur.take i++[n])) (((A9 a.entries i).hi - (A9 a.entries i).lo+1).toNat - x.1) ((A9 a.entries i).lo+x.1)).length+r) x.2.1∧I x.2.1 x.2.2.2∧x.2.2.2 na=some (.arr 1 (x.2.2.1.map Hh))∧x.2.2.2 (bd+7)=some (.cells [i64 (A9 a.entries i).lo,i64 (A9 a.entries i).hi])∧(∀ q,¬ F q→q≠na→q≠bd+7→x.2.2.2 q=os q)∧(Hp x.2.2.2).closed∧Ca step x.2.1 (Ff (fun n=>Cj (a.entries.drop (i+1)) (cur.take i++[n])) (((A9 a.entries i).hi - (A9 a.entries i).lo+1).toNat - x.1) ((A9 a.entries i).lo+x.1))=Ca step s (Cj (a.entries.drop i) (cur.take i))) (0,s,cur,upd os (bd+7) (some (.cells [i64 (A9 a.entries i).lo,i64 (A9 a.entries i).hi]))) ?_ ?_ (fun x hx8 K8 hK8=>?_)
    · exact ⟨Nat.zero_le _,rfl,rfl,by rw [hhere] at hg; simpa using hg,hY.stable _ _ _ hI (fun q hq=>Ad (by have:=hF q hq; omega)),(Ad (by omega)).trans o5,Ak,fun q _ _ h=>Ad h,hcl7,by rw [hhere]; simp⟩
    · refine Dz ?_ ?_ ?_ ?_ <;> (try simp (disch:=omega) only [o1,o2,o3,o4,Ad,amL,sF,↓reduceIte,reduceCtorEq]); all_goals first | exact hcl7 | exact Sub.refl _ | (rw [C1]; exact Sub.refl _)
    obtain ⟨n,s1,cur1,os1⟩:=x; dsimp only at hx8 ⊢; obtain ⟨hn,hc1,hc2,hg1,hI1,p5,p7,hfr1,hcl1,hall⟩:=hx8
    refine Aa fun K9 hK9=>?_
    refine Ac ?_
    simp (disch:=omega) only [amL,amT,sA,sF,↓reduceIte,reduceCtorEq]
    refine hK9 _ ?_
    refine Aa fun K10 hK10=>?_
    refine Ag rfl (fun h=>?_) (fun h=>?_)
    ·first
     | exact Bool.noConfusion h
     |skip
      try simp only [decide_eq_true_eq] at h
      refine Aj ?_
      refine hK10 _ ?_
      refine Aa fun K11 hK11=>?_
      refine Ai ?_
      refine Aa fun K12 hK12=>?_
      refine Ac ?_
      simp (disch:=omega) only [amL,sA,sF,↓reduceIte,reduceCtorEq]
      refine hK12 _ ?_
      refine Aa fun K13 hK13=>?_
      refine Ac ?_
      have p1:=(hfr1 no f1 (Ne.symm d1) (by omega)).trans o1
      have p2:=(hfr1 ny f2 (Ne.symm d2) (by omega)).trans o2
      have p3:=(hfr1 nA f3 (Ne.symm d3) (by omega)).trans o3
      have p4:=(hfr1 nc f4 (Ne.symm d4) (by omega)).trans o4
      have hn2:n < ((A9 a.entries i).hi - (A9 a.entries i).lo+1).toNat:=by omega
      simp (disch:=omega) only [p1,p5,p7,C8,Ks,amL,amT,sA,sF,↓reduceIte,reduceCtorEq]
      refine hK13 _ ?_
      refine Aa fun K14 hK14=>?_
      refine Ac ?_
      have hg2:=hg1
      rw [Gy hn2,List.length_append,Nat.add_assoc] at hg2
      have hclN:(Hp (upd os1 na (some (.arr 1 (List.map Hh (cur1.set i ((A9 a.entries i).lo+n))))))).closed:=Bc hcl1 (by rw [Gc]; trivial)
      have hIN:I s1 (upd os1 na (some (.arr 1 (List.map Hh (cur1.set i ((A9 a.entries i).lo+n)))))):=hY.stable _ _ _ hI1 (fun q hq=>Ad (fun e=>f5 (e ▸ hq)))
      have hchN:Ch a no ny nA nc na yv (cur1.set i ((A9 a.entries i).lo+n)) (upd os1 na (some (.arr 1 (List.map Hh (cur1.set i ((A9 a.entries i).lo+n)))))):=⟨(Ad (Ne.symm d1)).trans (by rw [p1,List.length_set,hc1]),(Ad (Ne.symm d2)).trans p2,(Ad (Ne.symm d3)).trans p3,(Ad (Ne.symm d4)).trans p4,Ak,by rw [List.length_set,hc1,hlen]⟩
      have htk:(cur1.set i ((A9 a.entries i).lo+n)).take (i+1)=cur.take i++[(A9 a.entries i).lo+n]:=by rw [Ahg (by omega),hc2]
      have hokN:∀ x ∈ Cj (a.entries.drop (i+1)) (cur.take i++[(A9 a.entries i).lo+n]),ok x:=fun x hx=>hok x (by rw [hhere]; exact Vc _ _ n hn2 hx)
      have hapN:F4 F mv (upd os1 na (some (.arr 1 (List.map Hh (cur1.set i ((A9 a.entries i).lo+n)))))):=(hap.of (F':=F) (fun q o hq ho=>by
        by_cases e1:q=na
        · subst e1; rw [p5] at ho; cases ho; exact .inr fun _ _=>rfl
        · by_cases e2:q=bd+7
          · subst e2; rw [p7] at ho; cases ho; exact .inr fun _ _=>rfl
          · rw [hfr1 q hq e1 e2] at ho; exact .inl ⟨hq,ho⟩)).upd (fun _ _=>rfl)
      have hih:=ih _ (by omega) (i+1) rfl (by omega) _ (cur1.set i ((A9 a.entries i).lo+n)) s1 _ (bd+40) hchN (by rw [htk]; exact hg2) hIN hapN (by rw [htk]; exact hokN)
      rw [htk] at hih
      have hfree1:∀ q,bd+40≤q→upd os1 na (some (.arr 1 (List.map Hh (cur1.set i ((A9 a.entries i).lo+n))))) q=none:=fun q hq=>by
        rw [Ad (by omega),hfr1 q (fun h=>by have:=hF q h; omega) (by omega) (by omega)]; exact hfree q (by omega)
      simp (disch:=omega) only [p4,Ad,amL,amT,sA,sF,↓reduceIte,reduceCtorEq]
      refine Nw [(0,i64 i),(1,.ptr no 0),(2,.ptr ny 0),(3,.ptr nA 0),(4,.ptr nc 0),(7,.ptr (bd+7) 0),(23,i64 ((A9 a.entries i).hi - (A9 a.entries i).lo+1)),(24,i64 n)] (by decide) hih (fun _ h=>.inl h) ⟨Qy,Df (fun h=>f1 (hY.mvF _ h)),Df (fun h=>f2 (hY.mvF _ h)),Df (fun h=>f3 (hY.mvF _ h)),Df (fun h=>f4 (hY.mvF _ h)),Df (fun h=>hF7 (hY.mvF _ h)),Qy,Qy,trivial⟩ hfree1 (by simp only []; omega) (fun res os2 hR hcl2 hlv2=>?_)
      obtain ⟨rfl,hI2,⟨cur3,k1,k2,k3⟩,hfr2⟩:=hR
      rw [List.length_set,hc1] at k1
      replace k2:cur3.take i=cur.take i:=Ajd k2 (by rw [List.length_take]; omega)
      have r1:=(hfr2 no f1 (Ne.symm d1)).trans ((Ad (Ne.symm d1)).trans p1)
      have r2:=(hfr2 ny f2 (Ne.symm d2)).trans ((Ad (Ne.symm d2)).trans p2)
      have r3:=(hfr2 nA f3 (Ne.symm d3)).trans ((Ad (Ne.symm d3)).trans p3)
      have r4:=(hfr2 nc f4 (Ne.symm d4)).trans ((Ad (Ne.symm d4)).trans p4)
      have r7:=(hfr2 (bd+7) hF7 (by omega)).trans ((Ad (by omega)).trans p7)
      simp (disch:=omega) only [amL,sA,sF,↓reduceIte,reduceCtorEq]
      simp only [r1,r2,r3,r4,r7,Option.isSome_some,true_and]
      refine hK14 _ ?_
      refine Ag rfl (fun h=>?_) (fun h=>?_)
      ·first
       | exact Bool.noConfusion h
       |skip
        try simp only [Bool.not_eq_true'] at h
        refine Aa fun K15 hK15=>?_
        refine Ac ?_
        simp (disch:=omega) only [amL,sA]
        refine hK15 _ ?_
        refine Ae ?_
        try simp (disch:=omega) only [amL]
        first | (obtain ⟨g1,g2,g3,g4⟩:=hY.fin hcl hcl2 hfree hI hI2 b5 ((hfr2 na f5).trans o5) (fun q _ hq _=>hfr2 q hq); refine Az (res:=bl _) (Ap bd os2) (by simp (disch:=omega) only [amL,↓reduceIte]; try rfl) (Bh _ _) g1 (AV.lives_p _ _) ⟨by rw [hone,Ko],by rw [hone,Ko]; exact g2,⟨cur,rfl,rfl,g3⟩,g4⟩) | (rw [Gy hn2,Gx,if_neg (by rw [h]; simp)] at hall; obtain ⟨g1,g2,g3,g4⟩:=hY.fin hcl hcl2 hfree hI hI2 b5 k3 (fun q hq h1 h2=>(hfr2 q h1 h2).trans ((Ad h2).trans (hfr1 q h1 h2 (by omega)))); refine Az (res:=bl _) (Ap bd os2) (by simp (disch:=omega) only [amL,↓reduceIte]; try rfl) (Bh _ _) g1 (AV.lives_p _ _) ⟨by rw [← hall,h],by rw [← hall]; exact g2,⟨cur3,k1,k2,g3⟩,g4⟩) | (rw [Pw (by omega)] at hall; obtain ⟨g1,g2,g3,g4⟩:=hY.fin hcl hcl1 hfree hI hI1 b5 p5 (fun q hq h1 h2=>hfr1 q h1 h2 (by omega)); refine Az (res:=bl _) (Ap bd os1) (by simp (disch:=omega) only [o1,o2,o3,o4,o5,hfr0,Ad,B9,C8,Ks,hlv,amL,amT,sA,sB,sC,sD,sE,sF,sG,sH,sI,sJ,sK,sL,sM,sN,sO,↓reduceIte,reduceCtorEq]; try rfl) (Bh _ _) g1 (AV.lives_p _ _) ⟨by rw [← hall]; rfl,by rw [← hall]; exact g2,⟨cur1,hc1,hc2,g3⟩,g4⟩) | (omega)
      ·first
       | exact Bool.noConfusion h
       |skip
        try simp only [Bool.not_eq_false'] at h
        refine Aj ?_
        refine hK11 _ ?_
        refine Ac ?_
        simp (disch:=omega) only [amL,amT,sA,sF,↓reduceIte,reduceCtorEq]
        refine hK8 (n+1,(Ca step s1 (Cj (a.entries.drop (i+1)) (cur.take i++[(A9 a.entries i).lo+n]))).1,cur3,os2) _ ?_ ?_ (Dz ?_ ?_ ?_ ?_)
        all_goals (try simp (disch:=omega) only [amL,sF,↓reduceIte,reduceCtorEq])
        all_goals first | omega | exact hcl2 | exact Sub.refl _ | exact ⟨hn2,k1,k2,Ads hY _ _ hokN hg2 h,hI2,k3,r7,fun q h1 h2 h3=>(hfr2 q h1 h2).trans ((Ad h2).trans (hfr1 q h1 h2 h3)),hcl2,by rw [← hall,Gy hn2,Gx,if_pos h]; rfl⟩ | (rw [r1,r2,r3,r4,r7]; exact ⟨rfl,rfl,rfl,rfl,rfl⟩) | (rw [r1]; rfl) | (rw [r2]; rfl) | (rw [r3]; rfl) | (rw [r4]; rfl) | (rw [r7]; rfl) | (omega)
    ·first
     | exact Bool.noConfusion h
     |skip
      try simp only [decide_eq_false_iff_not] at h
      refine Bg ?_
      refine hK6 _ ?_
      refine Aa fun K16 hK16=>?_
      refine Ac ?_
      simp (disch:=omega) only [amL,sA]
      refine hK16 _ ?_
      refine Ae ?_
      try simp (disch:=omega) only [amL]
      first | (obtain ⟨g1,g2,g3,g4⟩:=hY.fin hcl hcl2 hfree hI hI2 b5 ((hfr2 na f5).trans o5) (fun q _ hq _=>hfr2 q hq); refine Az (res:=bl _) (Ap bd os2) (by simp (disch:=omega) only [o1,o2,o3,o4,o5,hfr0,Ad,B9,C8,Ks,hlv,amL,amT,sA,sB,sC,sD,sE,sF,sG,sH,sI,sJ,sK,sL,sM,sN,sO,↓reduceIte,reduceCtorEq]; try rfl) (Bh _ _) g1 (AV.lives_p _ _) ⟨by rw [hone,Ko],by rw [hone,Ko]; exact g2,⟨cur,rfl,rfl,g3⟩,g4⟩) | (rw [Gy hn2,Gx,if_neg (by rw [h]; simp)] at hall; obtain ⟨g1,g2,g3,g4⟩:=hY.fin hcl hcl2 hfree hI hI2 b5 k3 (fun q hq h1 h2=>(hfr2 q h1 h2).trans ((Ad h2).trans (hfr1 q h1 h2 (by omega)))); refine Az (res:=bl _) (Ap bd os2) (by simp (disch:=omega) only [o1,o2,o3,o4,o5,hfr0,Ad,B9,C8,Ks,hlv,amL,amT,sA,sB,sC,sD,sE,sF,sG,sH,sI,sJ,sK,sL,sM,sN,sO,↓reduceIte,reduceCtorEq]; try rfl) (Bh _ _) g1 (AV.lives_p _ _) ⟨by rw [← hall,h],by rw [← hall]; exact g2,⟨cur3,k1,k2,g3⟩,g4⟩) | (rw [Pw (by omega)] at hall; obtain ⟨g1,g2,g3,g4⟩:=hY.fin hcl hcl1 hfree hI hI1 b5 p5 (fun q hq h1 h2=>hfr1 q h1 h2 (by omega)); refine Az (res:=bl _) (Ap bd os1) (by simp (disch:=omega) only [amL,↓reduceIte]; try rfl) (Bh _ _) g1 (AV.lives_p _ _) ⟨by rw [← hall]; rfl,by rw [← hall]; exact g2,⟨cur1,hc1,hc2,g3⟩,g4⟩) | (omega)
theorem Aet {r:RB} {N:Nat} {s:St} {K:St→Prop} {d:Nat} {ty:TypeId} {pos:String} {after:Array Edge} {g:Option (Nat × Bool)} {l c:Operand}:EO Try.prog r N ⟨some d,.makeSlice 22 l c,ty,pos,after,g⟩ s K=EOp r.b N (some d) s K (fMk 1 8 [iv 0] (r.b+d) (ev s.t l) (ev s.t c)):=
 An8 (e:=3) (z:=[.int .i64 0]) (by rw [Aq0]) (by rw [ty3]) (by rw [ty3]) (by rw [ty3]) (by decide) rfl (by decide) (by rw [ty3]; rfl)
theorem Jd.fin0 {yv:AV} {F mv:Nat→Prop} {ex:List Int→List AV} {ok:List Int→Prop} {σ:Type} {go:Nat→σ→Prop} {I:σ→(Nat→Option AO)→Prop} {step:σ→List Int→σ × Bool} (hY:Jd yv F mv ex ok go I step) {os os2:Nat→Option AO} {bd:Nat} (hcl:(Hp os).closed) (hcl2:(Hp os2).closed) (hfree:∀ n,bd≤n→os n=none) {s s':σ} (hI:I s os) (hI2:I s' os2)
  (hfr:∀ n,n < bd→¬ F n→os2 n=os n):(Hp (Ap bd os2)).closed∧I s' (Ap bd os2)∧∀ n,¬ F n→Ap bd os2 n=os n:=by
 have hF:∀ n,F n→n < bd:=fun n hn=>by obtain ⟨o,h,_⟩:=hY.foot s os n hI hn; exact Al hfree h
 refine ⟨Hd hcl hcl2 hfree fun n hn=>?_,hY.stable s' os2 _ hI2 (fun n hn=>Bj (hF n hn)),fun n h1=>?_⟩
 ·by_cases h1:F n
  ·right
   intro o m h2 h3
   obtain ⟨o',h4,h5⟩:=hY.foot s' os2 n hI2 h1
   rw [h4] at h2; cases h2
   exact hF m (h5 m h3)
  ·exact .inl (hfr n hn h1)
 ·by_cases hb:n < bd
  ·rw [Bj hb]; exact hfr n hb h1
  ·rw [De (by omega),hfree n (by omega)]
theorem W6 (n:Nat):List.replicate n [iv 0]=(List.replicate n 0).map Hh:=by rw [List.map_replicate]
theorem Baf {a:Acc} {yv:AV} {F mv:Nat→Prop} {ok:List Int→Prop} {σ:Type} {go:Nat→σ→Prop} {I:σ→(Nat→Option AO)→Prop} {step:σ→List Int→σ × Bool} (hY:Jd yv F mv (fun _=>[]) ok go I step) (hcs:yv.cs?=some [yv]) (hsm:Rv a.entries) {nA:Nat} (fA:¬ F nA) {s:σ} {os:Nat→Option AO} {bd:Nat} (oA:os nA=some (.cells (cA a))) {rr:Nat} (hg:go ((Cj a.entries []).length+rr) s) (hI:I s os) (hap:F4 F mv os) (hok:∀ x ∈ Cj a.entries [],ok x) :
  Eo Try.prog mv bd (.fn (.func 168) [] [.ptr nA 0]) [yv] os fun res os'=>res=.tup []∧I (Ca step s (Cj a.entries [])).1 os'∧∀ n,¬ F n→os' n=os n:=by
 refine Bn (v:=[]) (q:=[]) (N:=12) (rs:=[]) Try.func168 rfl (by kernel_rfl) rfl rfl (fun hcl hfree=>?_)
 have hfr0:∀ k,os (bd+k)=none:=fun k=>hfree _ (by omega)
 have bA:=Al hfree oA
 have hF:∀ n,F n→n < bd:=fun n hn=>by obtain ⟨o,h,_⟩:=hY.foot s os n hI hn; exact Al hfree h
 have hFb:∀ k,¬ F (bd+k):=fun k h=>by have:=hF _ h; omega
 have hlv:=hY.live _ _ hI
 have hsmall:=hsm.1
 refine Aa fun K1 hK1=>?_
 refine Ac ?_
 simp (disch:=omega) only [hfr0,hcs,amL,sA,sB,↓reduceIte]
 refine hK1 _ ?_
 refine Aa fun K2 hK2=>?_
 refine Ac ?_
 simp (disch:=omega) only [oA,hfr0,Ad,Aet,Xv,W6,amL,amT,sA,sF,sH,↓reduceIte,reduceCtorEq]
 refine hK2 _ ?_
 refine Aa fun K3 hK3=>?_
 refine Ac ?_
 simp (disch:=omega) only [hfr0,Ad,amL,amT,sA,↓reduceIte]
 refine hK3 _ ?_
 refine Aa fun K4 hK4=>?_
 refine Ac ?_
 simp (disch:=omega) only [amL,amT,sA,sF,↓reduceIte,reduceCtorEq]
 refine hK4 _ ?_
 refine Ac ?_
 have hmA:¬ mv nA:=fun h=>fA (hY.mvF _ h)
 have hmb:∀ k,¬ mv (bd+k):=fun k h=>hFb k (hY.mvF _ h)
 have c1:∀ x ∈ [yv],x.stays mv:=fun x hx=>by simp at hx; subst hx; exact hY.stays
 have c2:∀ x ∈ [AV.own (bd+8) a.entries.length],x.stays mv:=fun x hx=>by simp at hx; subst hx; exact Af6 (hmb 8)
 have c3:∀ x ∈ [AV.fn (Fn.func 169) [] [AV.ptr (bd+3) 0,AV.ptr (bd+2) 0,AV.ptr nA 0,AV.ptr (bd+4) 0]],x.stays mv:=fun x hx=>by
  simp only [List.mem_singleton] at hx; subst hx
  refine Ahr (fun y hy=>by cases hy) (fun y hy=>?_)
  simp only [List.mem_cons,List.not_mem_nil,or_false] at hy
  rcases hy with rfl | rfl | rfl | rfl
  ·exact Df (hmb 3)
  ·exact Df (hmb 2)
  ·exact Df hmA
  ·exact Df (hmb 4)
 simp (disch:=omega) only [amL,amT,sA,sF,↓reduceIte]
 refine Nw [] (by decide) (Bbj hY hsm (no:=bd+3) (ny:=bd+2) (nA:=nA) (nc:=bd+4) (na:=bd+8) (hFb 3) (hFb 2) fA (hFb 4) (hFb 8) _ 0 rfl (Nat.zero_le _) rr (List.replicate a.entries.length 0) s _ (bd+12) ⟨by simp (disch:=omega) only [Ad,Ak,List.length_replicate],by simp (disch:=omega) only [Ad,Ak],by simp (disch:=omega) only [Ad]; exact oA,by simp (disch:=omega) only [Ak],by simp (disch:=omega) only [Ad,Ak],List.length_replicate ..⟩ hg (hY.stable _ _ _ hI (fun q hq=>by have:=hF q hq; simp (disch:=omega) only [Ad])) ((((((hap.upd (Jq c1)).upd (fun _ _=>rfl)).upd (fun _ _=>rfl)).upd (Jq c2)).upd (fun _ _=>rfl)).upd (Jq c3)) hok) (fun _ h=>.inl h) trivial (fun q hq=>by simp (disch:=omega) only [Ad]; exact hfree q (by omega)) (by simp only []; omega) (fun res os2 hR hcl2 hlv2=>?_)
 obtain ⟨rfl,hI2,_,hfr2⟩:=hR
 simp (disch:=omega) only [amL]
 try simp (disch:=omega) only [oA,hfr0,Ad,hcs,Aet,Xv,W6,amL,amT,sA,sB,sC,sD,sE,sF,sG,sH,sI,sJ,sK,sL,sM,sN,sO,↓reduceIte,reduceCtorEq]
 obtain ⟨g1,g2,g4⟩:=hY.fin0 hcl hcl2 hfree hI hI2 (fun q hq h1=>(hfr2 q h1 (by omega)).trans (by simp (disch:=omega) only [Ad]))
 refine Az (res:=.tup []) (Ap bd os2) rfl (Bh _ _) g1 (Cy _ rfl) ⟨rfl,g2,g4⟩
theorem c91 {a:Acc} {os:Nat→Option AO} {bd:Nat}:Bm Try.prog bd (.fn (.func 124) [] []) [avA a] os fun res os'=>res=.fn (.func 168) [] [.ptr (bd+1) 0]∧os'=upd os (bd+1) (some (.cells (cA a))):=by
 refine Bn (v:=[]) (q:=[]) (N:=4) (rs:=[.tmp 2]) Try.func124 rfl (by kernel_rfl) rfl rfl (fun hcl hfree=>?_)
 have hfr0:∀ k,os (bd+k)=none:=fun k=>hfree _ (by omega)
 refine Aa fun K1 hK1=>?_
 refine Ac ?_
 simp (disch:=omega) only [hfr0,amL,sA,↓reduceIte]
 refine hK1 _ ?_
 refine Aa fun K2 hK2=>?_
 refine Ac ?_
 simp (disch:=omega) only [amL,sA,sF,↓reduceIte]
 refine hK2 _ ?_
 refine Ae ?_
 try simp (disch:=omega) only [amL]
 refine Az (res:=.fn (.func 168) [] [.ptr (bd+1) 0]) (upd os (bd+1) (some (.cells (cA a)))) (by simp (disch:=omega) only [amL,↓reduceIte]; try rfl) (Sub.refl _) (Bc hcl (by rw [Bp]; simp only [A8,Ax,Da,and_self])) ?_ ⟨rfl,rfl⟩
 rw [Cl]; simp only [A8,Ax,Bz,Ak,Option.isSome_some,and_self]
theorem c70 {a:Acc} {os:Nat→Option AO} {bd:Nat}:Bm Try.prog bd (.fn (.func 71) [] []) [avA a] os fun res os'=>res=.fn (.func 123) [] [.ptr (bd+1) 0]∧os'=upd os (bd+1) (some (.cells (cA a))):=by
 refine Bn (v:=[]) (q:=[]) (N:=4) (rs:=[.tmp 2]) Try.func71 rfl (by kernel_rfl) rfl rfl (fun hcl hfree=>?_)
 have hfr0:∀ k,os (bd+k)=none:=fun k=>hfree _ (by omega)
 refine Aa fun K1 hK1=>?_
 refine Ac ?_
 simp (disch:=omega) only [hfr0,amL,sA,↓reduceIte]
 refine hK1 _ ?_
 refine Aa fun K2 hK2=>?_
 refine Ac ?_
 simp (disch:=omega) only [amL,sA,sF,↓reduceIte]
 refine hK2 _ ?_
 refine Ae ?_
 try simp (disch:=omega) only [amL]
 refine Az (res:=.fn (.func 123) [] [.ptr (bd+1) 0]) (upd os (bd+1) (some (.cells (cA a)))) (by simp (disch:=omega) only [amL,↓reduceIte]; try rfl) (Sub.refl _) (Bc hcl (by rw [Bp]; simp only [A8,Ax,Da,and_self])) ?_ ⟨rfl,rfl⟩
 rw [Cl]; simp only [A8,Ax,Bz,Ak,Option.isSome_some,and_self]
abbrev stK (k:D3) (j:Option Code):D3:={ k with state:=if j.isNone then .ready else .done,pending:=j }
structure Uf (bdL:Nat) (k:D3) (tm:List (Nat × AV)) (v q:List Nat) (F mv:Nat→Prop) (ex:List Int→List AV) (ok:List Int→Prop) {σ:Type} (go:Nat→σ→Prop) (I:σ→(Nat→Option AO)→Prop) (bst:σ→List Int→σ × Option Code):Prop where
  mvF:∀ n,mv n→F n
  ready:k=stK k none
  lenp:∀ x,(ex x).length+1=k.ps.length
  psn:∀ p ∈ k.ps,p < k.n
  notF:¬ F bdL
  tmF:∀ m,(AO.loop k tm).clean m=false→F m
  stable:∀ s os os',I s os→(∀ n,F n→os' n=os n)→I s os'
  foot:∀ s os n,I s os→F n→∃ o,os n=some o∧∀ m,o.clean m=false→F m
  mono:∀ r s,go (r+1) s→go r s
  next:∀ r s x,ok x→go (r+1) s→(bst s x).2=none→go r (bst s x).1
  body:∀ r s x os bd na,ok x→go (r+1) s→I s os→F4 (fun n=>F n∨n=bdL) mv os→¬ F na→na≠bdL→os na=some (.arr 1 (x.map Hh))→os bdL=some (.loop k tm)→(Hp os).closed→(∀ n,bd≤n→os n=none)→bdL < bd →
    ∀ l,AWP Try.prog ⟨⟨some l,mv⟩,bd,v,q⟩ k.n k.assign ⟨Pt k.ps (.own na x.length :: ex x) (T tm),os⟩ (H7 (fun s1=>s1.o bdL=some (.loop k tm)∧AWP Try.prog ⟨⟨some l,mv⟩,bd,v,q⟩ k.n k.body ⟨s1.t,upd s1.o bdL (some (.loop { k with state:=.busy } tm))⟩
      (Rl bdL k tm fun res os'=>res=bl (bst s x).2.isNone∧(I (bst s x).1 os'∧os' bdL=some (.loop (stK k (bst s x).2) tm))∧∀ n,¬ (F n∨n=bdL)→os' n=os n)) (fun _ _=>False))
theorem Uf.yields {bdL:Nat} {k:D3} {tm:List (Nat × AV)} {v q:List Nat} {F mv:Nat→Prop} {ex:List Int→List AV} {ok:List Int→Prop} {σ:Type} {go:Nat→σ→Prop} {I:σ→(Nat→Option AO)→Prop} {bst:σ→List Int→σ × Option Code} (h:Uf bdL k tm v q F mv ex ok go I bst) :
    Jd (.yld bdL) (fun n=>F n∨n=bdL) mv ex ok (fun r (s:σ × Option Code)=>go r s.1∧s.2=none) (fun s os=>I s.1 os∧os bdL=some (.loop (stK k s.2) tm)) (fun s x=>(bst s.1 x,(bst s.1 x).2.isNone)) where
  mvF n hn:=.inl (h.mvF n hn)
  stays:=Afo (fun hm=>h.notF (h.mvF _ hm))
  live s os hI:=by rw [Ll,hI.2]; rfl
  own m hm:=by
    simp only [AV.clean,bne_eq_false_iff_eq] at hm
    exact .inr hm.symm
  stable s os os' hI he:=⟨h.stable s.1 os os' hI.1 (fun n hn=>he n (.inl hn)),(he bdL (.inr rfl)).trans hI.2⟩
  foot s os n hI hn:=by
    rcases hn with hn | rfl
    · obtain ⟨o,h1,h2⟩:=h.foot s.1 os n hI.1 hn
      exact ⟨o,h1,fun m hm=>.inl (h2 m hm)⟩
    · exact ⟨_,hI.2,fun m hm=>.inl (h.tmF m hm)⟩
  mono r s hg:=⟨h.mono r s.1 hg.1,hg.2⟩
  next r s x ho hg hs:=by
    have h1:(bst s.1 x).2=none:=Option.isNone_iff_eq_none.1 hs
    exact ⟨h.next r s.1 x ho hg.1 h1,h1⟩
  call r s x os bd na ho hg hI hap hF ha:=by
    have hloop:os bdL=some (.loop k tm):=by
      have:=hI.2
      rw [hg.2,← h.ready] at this
      exact this
    intro hfree
    have hb:=Al hfree hloop
    refine R5 (fun hm=>h.notF (h.mvF _ hm)) (k:=k) (tm:=tm) (v:=v) (q:=q) hloop (by rw [h.ready]; rfl) (by have:=h.lenp x; simp; omega) h.psn (fun hcl _ l=>?_) hfree
    exact h.body r s.1 x os bd na ho hg.1 hI.1 hap (fun hh=>hF (.inl hh)) (fun hh=>hF (.inr hh)) ha hloop hcl hfree hb l
theorem Nt {yv:AV} {F mv:Nat→Prop} {ex:List Int→List AV} {ok:List Int→Prop} {σ:Type} {go:Nat→σ→Prop} {I:σ→(Nat→Option AO)→Prop} {step:σ→List Int→σ × Bool} (hY:Jd yv F mv ex ok go I step) {os os2:Nat→Option AO} {bd bdL:Nat} {k k':D3} {tm:List (Nat × AV)} (fL:¬ F bdL) (hcl:(Hp os).closed) (hcl2:(Hp os2).closed) (hfree:∀ n,bd≤n→os n=none) {s s':σ} (hI:I s os) (hI2:I s' os2) (hl:os bdL=some (.loop k tm)) (hl2:os2 bdL=some (.loop k' tm))
    (hfr:∀ n,n < bd→¬ F n→n≠bdL→os2 n=os n) (j:Option Code) :
    Sub (upd (Ap bd os2) bdL (some (.loop (stK k j) tm))) (upd os2 bdL (some (.loop (stK k j) tm)))∧(Hp (upd (Ap bd os2) bdL (some (.loop (stK k j) tm)))).closed∧I s' (upd (Ap bd os2) bdL (some (.loop (stK k j) tm)))∧∀ n,¬ F n→n≠bdL→upd (Ap bd os2) bdL (some (.loop (stK k j) tm)) n=os n:=by
  have hF:∀ n,F n→n < bd:=fun n hn=>by obtain ⟨o,h,_⟩:=hY.foot s os n hI hn; exact Al hfree h
  have hb:=Al hfree hl
  have hnm:∀ m,(AO.loop k tm).clean m=false→m < bd:=fun m hm=>by
    have:(os m).isSome=true:=hcl.2 bdL _ hl m hm
    cases Nat.lt_or_ge m bd with
    | inl h=>exact h
    | inr h'=>rw [hfree m h'] at this; cases this
  refine ⟨fun n=>?_,Bc (Hd hcl hcl2 hfree fun n hn=>?_) fun m hm=>?_,hY.stable s' os2 _ hI2 fun n hn=>?_,fun n h1 h2=>?_⟩
  · by_cases e:n=bdL
    · subst e; right; rw [Ak,Ak]
    · rw [Ad e,Ad e]; exact Bh bd os2 n
  · by_cases h1:F n
    · right
      intro o m h2 h3
      obtain ⟨o',h4,h5⟩:=hY.foot s' os2 n hI2 h1
      rw [h4] at h2; cases h2
      exact hF m (h5 m h3)
    · by_cases h2:n=bdL
      · right
        intro o m h3 h4
        subst h2
        rw [hl2] at h3; cases h3
        exact hnm m h4
      · exact .inl (hfr n hn h1 h2)
  · have hmb:=hnm m hm
    have h3:(os2 m).isSome=true:=hcl2.2 bdL _ hl2 m hm
    show (upd (Ap bd os2) bdL _ m).isSome=true
    by_cases e:m=bdL
    · subst e; rw [Ak]; rfl
    · rw [Ad e,Bj hmb]; exact h3
  · have e:n≠bdL:=fun e=>fL (by rw [← e]; exact hn)
    rw [Ad e,Bj (hF n hn)]
  · rw [Ad h2]
    by_cases hn:n < bd
    · rw [Bj hn]; exact hfr n hn h1 h2
    · rw [De (by omega),hfree n (by omega)]
def Dq {σ:Type} (a:Acc) (step:σ→List Int→σ × Bool) (s:σ) (x:List Int):σ × Option Code:=
  if (Bq a x [] true).2=true then ((step s x).1,if (step s x).2=true then none else some .ret) else (s,none)
abbrev exA (a:Acc) (x:List Int):List AV:=[.agg ((pad (Bq a x [] true).1).map i64)]
theorem Ag4 (l:List Int):(AV.agg (l.map i64)).scal=true:=by
  show AV.scal.scalL (l.map i64)=true
  induction l with
  | nil=>rfl
  | cons x l ih=>show (true&&AV.scal.scalL (l.map i64))=true; rw [ih]; rfl
theorem Ah4 (l:List Int) (b:Bool):(AV.tup [.agg (l.map i64),bl b]).scal=true:=by
  show ((AV.agg (l.map i64)).scal&&(true&&true))=true
  rw [Ag4]; rfl
theorem Zi {l:List Int}:(List.map Hh l).take l.length=List.map Hh l:=List.take_of_length_le (by simp)
theorem Anh {a:Acc} {F mv:Nat→Prop} {os:Nat→Option AO} {nA nb bdL b4:Nat} {yv:AV} {k:D3} {X:Option AO} {l:List Int} (hap:F4 (fun n=>(F n∨n=nA∨n=nb)∨n=bdL) mv os) (hs:yv.stays mv) (oA:os nA=some (.cells (cA a))) (ob:os nb=some (.cells [yv])) (hmA:¬ mv nA) (hmb:¬ mv nb) :
    F4 F mv (upd (upd (upd os bdL (some (.loop k [(1,.ptr nA 0),(2,.ptr nb 0)]))) b4 X) b4 (some (.cells (l.map i64)))):=hap.of fun q o hq ho=>by
  by_cases e4:q=b4
  · subst e4; rw [Ak] at ho; cases ho; exact .inr fun m _=>Acg
  · rw [Ad e4,Ad e4] at ho
    by_cases eL:q=bdL
    · subst eL; rw [Ak] at ho; cases ho
      refine .inr fun m hm=>?_
      have h1:=Df (off:=0) hmA m hm
      have h2:=Df (off:=0) hmb m hm
      simp only [AO.clean,List.map_cons,List.map_nil,AV.clean.cleanL,h1,h2,Bool.and_self]
    · rw [Ad eL] at ho
      by_cases eA:q=nA
      · subst eA; rw [oA] at ho; cases ho; exact .inr fun m _=>H8
      · by_cases eb:q=nb
        · subst eb; rw [ob] at ho; cases ho
          exact .inr (Jq fun x hx=>by simp at hx; subst hx; exact hs)
        · exact .inl ⟨fun h=>h.elim (fun h=>h.elim hq (fun h=>h.elim eA eb)) eL,ho⟩
theorem Ajc {a:Acc} {yv:AV} {F mv:Nat→Prop} {ok:List Int→Prop} {σ:Type} {go:Nat→σ→Prop} {I:σ→(Nat→Option AO)→Prop} {step:σ→List Int→σ × Bool} (hY:Jd yv F mv (exA a) ok go I step) (_:yv.cs?=some [yv]) (hf:Aq a=0) {nA nb bdL:Nat} (fA:¬ F nA) (fb:¬ F nb) (fL:¬ F bdL) (hAb:nA≠nb) (hAL:nA≠bdL) (hbL:nb≠bdL)
    {A B:Code} (hcode:(Try.f123.body.bind Fs)=some (A,B)) :
    Uf bdL ⟨23,[8],A,B,.ready,none⟩ [(1,.ptr nA 0),(2,.ptr nb 0)] [124] [] (fun n=>F n∨n=nA∨n=nb) mv (fun _=>[]) (fun x=>Cu a.entries x=true∧((Bq a x [] true).2=true→ok x)) go (fun s os=>I s os∧os nA=some (.cells (cA a))∧os nb=some (.cells [yv])) (Dq a step) where
  mvF n hn:=.inl (hY.mvF n hn)
  ready:=rfl
  lenp _:=rfl
  psn p hp:=by simp at hp; subst hp; exact (by decide:8 < 23)
  notF h:=h.elim fL (fun h=>h.elim (fun h=>hAL h.symm) (fun h=>hbL h.symm))
  tmF m hm:=by
    right
    by_cases e1:m=nA
    · exact .inl e1
    · by_cases e2:m=nb
      · exact .inr e2
      · simp [AO.clean,AV.clean,AV.clean.cleanL,Ne.symm e1,Ne.symm e2] at hm
  stable s os os' hI he:=⟨hY.stable s os os' hI.1 (fun n hn=>he n (.inl hn)),(he nA (.inr (.inl rfl))).trans hI.2.1,(he nb (.inr (.inr rfl))).trans hI.2.2⟩
  foot s os n hI hn:=by
    rcases hn with hn | rfl | rfl
    · obtain ⟨o,h1,h2⟩:=hY.foot s os n hI.1 hn
      exact ⟨o,h1,fun m hm=>.inl (h2 m hm)⟩
    · exact ⟨_,hI.2.1,fun m hm=>by rw [H8] at hm; cases hm⟩
    · refine ⟨_,hI.2.2,fun m hm=>.inl (hY.own m ?_)⟩
      simpa [AO.clean,AV.clean.cleanL] using hm
  mono:=hY.mono
  next r s x ho hg h:=by
    unfold Dq at h ⊢
    split at h
    · rename_i hp
      rw [if_pos hp]
      split at h
      · rename_i h2
        exact hY.next r s x (ho.2 hp) hg h2
      · cases h
    · rename_i hp; rw [if_neg hp]; exact hY.mono r s hg
  body r s x os bd na ho hg hI hap hF hne ha hl hcl hfree hb l:=by
    obtain ⟨hI,oA,ob⟩:=hI
    obtain ⟨hol,hok⟩:=ho
    have hF1:¬ F na:=fun h=>hF (.inl h)
    have hfr0:∀ k,os (bd+k)=none:=fun k=>hfree _ (by omega)
    have hlv:=hY.live _ _ hI
    have bA:=Al hfree oA
    have bb:=Al hfree ob
    have bna:=Al hfree ha
    have hFlt:∀ n,F n→n < bd:=fun n hn=>by obtain ⟨o,h,_⟩:=hY.foot s os n hI hn; exact Al hfree h
    have hfit:=Ad7 hf hol
    have hpl:=Fa (Ke (t:=x) (paid:=[]) (ask:=true) hfit.last1)
    have hpc:=Dn (vs:=List.map i64 (pad (Bq a x [] true).1)) (l:=[i64 0,i64 0,i64 0,i64 0,i64 0,i64 0,i64 0,i64 0,i64 0,i64 0,i64 0,i64 0]) (by rw [List.length_map,hpl]; rfl)
    have htk:=Mo (acc:=(Bq a x [] true).1) (Ke (t:=x) (paid:=[]) (ask:=true) hfit.last1)
    cases (show some (_,_)=some (A,B) from hcode)
    show AWP _ _ 23 _ ⟨T [(8,.own na x.length),(1,.ptr nA 0),(2,.ptr nb 0)],os⟩ _
    refine Ac ?_
    simp (disch:=omega) only [hl,amL,sA,↓reduceIte]
    try simp (disch:=omega) only [hl,amL,amT,sA,sB,sC,sD,sE,sF,sG,sH,sI,sJ,sK,sL,sM,sN,sO,↓reduceIte,reduceCtorEq]
    skip
    refine Ai ?_
    refine Aa fun K1 hK1=>?_
    refine Ac ?_
    simp (disch:=omega) only [oA,ha,Ad,Zi,Xx,amL,amT,sA,sB,sF,sG,↓reduceIte]
    repeat' first | (refine Am (by kernel_rfl) rfl (Bf.of_nil 2 rfl (c59 a x [] true hfit (by simp))) (.inl (Ah4 _ _)) ?_ ; simp (disch:=omega) only [hfr0,Ad,Ak,hpl,hpc,amL,amT,sA,sB,sF,↓reduceIte])
    refine hK1 _ ?_
    refine Aa fun K2 hK2=>?_
    refine Ac ?_
    simp (disch:=omega) only [amL,sA,↓reduceIte]
    repeat' first | (refine B2 (fun h=>?_) (fun h=>?_) <;> simp (disch:=omega) only [h,oA,ob,ha,hcs,hl,hfr0,Ad,Ak,hlv,hpl,htk,hpc,Zi,Ci,Fv,Xx,amL,amT,sA,sB,sC,sD,sE,sF,sG,sH,sI,sJ,sK,sL,sM,sN,sO,↓reduceIte,reduceCtorEq]) | (refine Ba (fun h=>?_) (fun h=>?_) <;> simp (disch:=omega) only [h,ob,Ad,Ak,hpl,htk,amL,amT,sA,sF,↓reduceIte])
    all_goals first
      | (refine Nw [(15,bl true),(16,bl true)] (by decide) (hY.call r s x _ (bd+23) na (hok (by assumption)) hg (hY.stable _ _ _ hI (fun q hq=>by have e1:=hFlt q hq; have e2:q≠bdL:=fun e=>fL (e ▸ hq); simp (disch:=omega) only [Ad])) (Anh hap hY.stays oA ob (fun h=>fA (hY.mvF _ h)) (fun h=>fb (hY.mvF _ h))) hF1 (by simp (disch:=omega) only [Ad]; exact ha)) (fun _ h=>.inl h) ⟨Qy,Qy,trivial⟩ (fun q hq=>by simp (disch:=omega) only [Ad]; exact hfree q (by omega)) (by simp only []; omega) (fun res os2 hR hcl2 hlv2=>?_); obtain ⟨rfl,hI2,hfr2⟩:=hR; simp (disch:=omega) only [amL,sA,sF,↓reduceIte])
      | skip
    all_goals
     skip
     refine hK2 _ ?_
     refine Ag rfl (fun h=>?_) (fun h=>?_)
     ·first
      | exact Bool.noConfusion h
      |skip
       try simp only [Bool.not_eq_true'] at h
       refine Ae ?_
       try simp (disch:=omega) only [Fv,amL]
       first
         | (have hp0:(Bq a x [] true).2=false:=by assumption
            refine F9 os (by simp (disch:=omega) only [Ad,Ak]) (fun q=>?_) hcl ⟨?_,⟨?_,?_⟩,fun _ _=>rfl⟩
            · by_cases e1:q=bdL
              · subst e1; right; rw [Ak]; exact hl
              · by_cases e2:q=bd+4
                · left; rw [e2]; exact hfr0 4
                · right; simp (disch:=omega) only [Ad]
            · rw [Dq,if_neg (by rw [hp0]; simp)]
            · rw [Dq,if_neg (by rw [hp0]; simp)]; exact ⟨hI,oA,ob⟩
            · rw [Dq,if_neg (by rw [hp0]; simp)]; exact hl)
         | (have hp:(Bq a x [] true).2=true:=by assumption
            have hs:(step s x).2=false:=by assumption
            have hl2:=(hfr2 bdL fL).trans (by simp (disch:=omega) only [Ad]; exact Ak)
            obtain ⟨g1,g2,g3,g4⟩:=Nt hY fL hcl hcl2 hfree hI hI2 hl hl2 (fun q hq h1 h2=>(hfr2 q h1).trans (by simp (disch:=omega) only [Ad])) (some .ret)
            have hb9:Dq a step s x=((step s x).1,some .ret):=by rw [Dq,if_pos hp,hs]; rfl
            refine F9 _ hl2 g1 g2 ?_
            rw [hb9]
            exact ⟨rfl,⟨⟨g3,(g4 nA fA hAL).trans oA,(g4 nb fb hbL).trans ob⟩,Ak⟩,fun n hn=>g4 n (fun h=>hn (.inl (.inl h))) (fun h=>hn (.inr h))⟩)
         | (have hp:(Bq a x [] true).2=true:=by assumption
            have hs:(step s x).2=true:=by assumption
            have hl2:=(hfr2 bdL fL).trans (by simp (disch:=omega) only [Ad]; exact Ak)
            obtain ⟨g1,g2,g3,g4⟩:=Nt hY fL hcl hcl2 hfree hI hI2 hl hl2 (fun q hq h1 h2=>(hfr2 q h1).trans (by simp (disch:=omega) only [Ad])) (none)
            have hb9:Dq a step s x=((step s x).1,none):=by rw [Dq,if_pos hp,hs]; rfl
            refine F9 _ hl2 g1 g2 ?_
            rw [hb9]
            exact ⟨rfl,⟨⟨g3,(g4 nA fA hAL).trans oA,(g4 nb fb hbL).trans ob⟩,Ak⟩,fun n hn=>g4 n (fun h=>hn (.inl (.inl h))) (fun h=>hn (.inr h))⟩)
         | (omega)
     ·first
      | exact Bool.noConfusion h
      |skip
       try simp only [Bool.not_eq_false'] at h
       refine Aj ?_
       try simp (disch:=omega) only [Ci,amL]
       first
         | (have hp0:(Bq a x [] true).2=false:=by assumption
            refine F9 os (by simp (disch:=omega) only [Ad,Ak]) (fun q=>?_) hcl ⟨?_,⟨?_,?_⟩,fun _ _=>rfl⟩
            · by_cases e1:q=bdL
              · subst e1; right; rw [Ak]; exact hl
              · by_cases e2:q=bd+4
                · left; rw [e2]; exact hfr0 4
                · right; simp (disch:=omega) only [Ad]
            · rw [Dq,if_neg (by rw [hp0]; simp)]
            · rw [Dq,if_neg (by rw [hp0]; simp)]; exact ⟨hI,oA,ob⟩
            · rw [Dq,if_neg (by rw [hp0]; simp)]; exact hl)
         | (have hp:(Bq a x [] true).2=true:=by assumption
            have hs:(step s x).2=false:=by assumption
            have hl2:=(hfr2 bdL fL).trans (by simp (disch:=omega) only [Ad]; exact Ak)
            obtain ⟨g1,g2,g3,g4⟩:=Nt hY fL hcl hcl2 hfree hI hI2 hl hl2 (fun q hq h1 h2=>(hfr2 q h1).trans (by simp (disch:=omega) only [Ad])) (some .ret)
            have hb9:Dq a step s x=((step s x).1,some .ret):=by rw [Dq,if_pos hp,hs]; rfl
            refine F9 _ hl2 g1 g2 ?_
            rw [hb9]
            exact ⟨rfl,⟨⟨g3,(g4 nA fA hAL).trans oA,(g4 nb fb hbL).trans ob⟩,Ak⟩,fun n hn=>g4 n (fun h=>hn (.inl (.inl h))) (fun h=>hn (.inr h))⟩)
         | (have hp:(Bq a x [] true).2=true:=by assumption
            have hs:(step s x).2=true:=by assumption
            have hl2:=(hfr2 bdL fL).trans (by simp (disch:=omega) only [Ad]; exact Ak)
            obtain ⟨g1,g2,g3,g4⟩:=Nt hY fL hcl hcl2 hfree hI hI2 hl hl2 (fun q hq h1 h2=>(hfr2 q h1).trans (by simp (disch:=omega) only [Ad])) (none)
            have hb9:Dq a step s x=((step s x).1,none):=by rw [Dq,if_pos hp,hs]; rfl
            refine F9 _ hl2 g1 g2 ?_
            rw [hb9]
            exact ⟨rfl,⟨⟨g3,(g4 nA fA hAL).trans oA,(g4 nb fb hbL).trans ob⟩,Ak⟩,fun n hn=>g4 n (fun h=>hn (.inl (.inl h))) (fun h=>hn (.inr h))⟩)
         | (omega)
theorem Vb {f:Int→List (List Int)} {x:List Int}:∀ (c:Nat) (n:Int),x ∈ Ff f c n→∃ k:Nat,k < c∧x ∈ f (n+k)
  | 0,_,h=>by cases h
  | c+1,n,h=>by
    simp only [Ff,List.mem_append] at h
    rcases h with h | h
    · exact ⟨0,by omega,by simpa using h⟩
    · obtain ⟨k,h1,h2⟩:=Vb c (n+1) h
      exact ⟨k+1,by omega,by rw [show n+((k+1:Nat):Int)=n+1+k by omega]; exact h2⟩
theorem Ly:∀ (es:List Bo) (p x:List Int),x ∈ Cj es p→∃ y,x=p++y∧Cu es y=true
  | [],p,x,h=>by
    simp only [Cj,List.mem_singleton] at h
    exact ⟨[],by simpa using h,rfl⟩
  | e :: es,p,x,h=>by
    obtain ⟨k,h1,h2⟩:=Vb _ _ h
    obtain ⟨y,rfl,hy⟩:=Ly es _ x h2
    refine ⟨(e.lo+k) :: y,by simp,?_⟩
    simp only [Cu,hy,Bool.and_true,inB,Bool.and_eq_true,decide_eq_true_eq]
    omega
def C0 (a:Acc):List (List Int):=(Cj a.entries []).filter fun x=>(Bq a x [] true).2
theorem X4 {σ:Type} {a:Acc} {step:σ→List Int→σ × Bool}:∀ (l:List (List Int)) (s:σ),(Ca (fun (s:σ × Option Code) x=>(Dq a step s.1 x,(Dq a step s.1 x).2.isNone)) (s,none) l).1.1=(Ca step s (l.filter fun x=>(Bq a x [] true).2)).1 ∧
    ((Ca (fun (s:σ × Option Code) x=>(Dq a step s.1 x,(Dq a step s.1 x).2.isNone)) (s,none) l).1.2=none∨(Ca (fun (s:σ × Option Code) x=>(Dq a step s.1 x,(Dq a step s.1 x).2.isNone)) (s,none) l).1.2=some .ret)
  | [],s=>⟨rfl,.inl rfl⟩
  | x :: l,s=>by
    cases hp:(Bq a x [] true).2 with
    | false=>
      have hb:Dq a step s x=(s,none):=by rw [Dq,if_neg (by rw [hp]; simp)]
      simp only [Ca,hb,Option.isNone_none,if_true,List.filter_cons,hp,Bool.false_eq_true,if_false]
      exact X4 l s
    | true=>
      cases hs:(step s x).2 with
      | true=>
        have hb:Dq a step s x=((step s x).1,none):=by rw [Dq,if_pos hp,hs]; rfl
        simp only [Ca,hb,Option.isNone_none,if_true,List.filter_cons,hp,hs]
        exact X4 l _
      | false=>
        have hb:Dq a step s x=((step s x).1,some .ret):=by rw [Dq,if_pos hp,hs]; rfl
        simp only [Ca,hb,Option.isNone_some,Bool.false_eq_true,if_false,List.filter_cons,hp,hs,if_true]
        exact ⟨trivial,.inr trivial⟩
theorem Ace {t:Nat→AV} {tm:List (Nat × AV)} (h:leT t tm):∀ (j:Nat) (p:Nat × AV),tm[j]?=some p→p.2=.undef∨p.2=t p.1:=by
  induction tm with
  | nil=>intro j p hp; simp at hp
  | cons x r ih=>
    obtain ⟨i,v⟩:=x
    rw [Qd] at h
    intro j p hp
    cases j with
    | zero=>simp at hp; subst hp; exact .inr h.1.symm
    | succ j=>exact ih h.2 j p (by simpa using hp)
theorem c90 {a:Acc} {yv:AV} {F mv:Nat→Prop} {ok:List Int→Prop} {σ:Type} {go:Nat→σ→Prop} {I:σ→(Nat→Option AO)→Prop} {step:σ→List Int→σ × Bool} (hY:Jd yv F mv (exA a) ok go I step) (hcs:yv.cs?=some [yv]) (hf:Aq a=0) {nA:Nat} (fA:¬ F nA) {s:σ} {os:Nat→Option AO} {bd:Nat} (oA:os nA=some (.cells (cA a))) {rr:Nat} (hg:go ((Cj a.entries []).length+rr) s) (hI:I s os) (hap:F4 F mv os) (hok:∀ x ∈ C0 a,ok x) :
    Eo Try.prog mv bd (.fn (.func 123) [] [.ptr nA 0]) [yv] os fun res os'=>res=.tup []∧I (Ca step s (C0 a)).1 os'∧∀ n,¬ F n→os' n=os n:=by
  refine Afg (v:=[124]) (q:=[]) (N:=23) (rs:=[]) Try.func123 rfl (by kernel_rfl) rfl rfl (fun hcl hfree=>?_)
  have hfr0:∀ k,os (bd+k)=none:=fun k=>hfree _ (by omega)
  have bA:=Al hfree oA
  have hF:∀ n,F n→n < bd:=fun n hn=>by obtain ⟨o,h,_⟩:=hY.foot s os n hI hn; exact Al hfree h
  have hFb:∀ k,¬ F (bd+k):=fun k h=>by have:=hF _ h; omega
  have hlv:=hY.live _ _ hI
  obtain ⟨z1,z2,z3,z4,z5,z6⟩:=Ez hf
  have hsm:=Lh (by omega) z5
  obtain ⟨A,B,hcode⟩:∃ A B,(Try.f123.body.bind Fs)=some (A,B):=⟨_,_,rfl⟩
  have hRd:=Ajc (bdL:=bd+30) (nA:=nA) (nb:=bd+2) hY hcs hf fA (hFb 2) (hFb 30) (by omega) (by omega) (by omega) hcode
  refine Br fun K1 hK1=>?_
  refine Ac ?_
  simp (disch:=omega) only [hfr0,hcs,amL,sA,sB,↓reduceIte]
  refine hK1 _ ?_
  refine Br fun K2 hK2=>?_
  refine Ac ?_
  simp (disch:=omega) only [oA,Ad,amL,amT,sA,sB,sF,↓reduceIte,reduceCtorEq]
  refine Be [(1,.ptr nA 0),(2,.ptr (bd+2) 0)] (by decide) (c91 (bd:=bd+23)) (fun q hq=>by simp (disch:=omega) only [Ad]; exact hfree q (by omega)) (by simp only []; omega) (fun res os2 hR hcl2 hlv2=>?_)
  obtain ⟨rfl,rfl⟩:=hR
  simp (disch:=omega) only [oA,Ad,amL,sF,↓reduceIte,reduceCtorEq]
  refine hK2 _ ?_
  refine Lq ?_
  have hap9:F4 (fun n=>(F n∨n=nA∨n=bd+2)∨n=bd+30) mv (upd (upd (upd os (bd+2) (some (.cells [yv]))) (bd+23+1) (some (.cells (cA a)))) (bd+30) (some (.loop (stK ⟨23,[8],A,B,.ready,none⟩ none) [(1,.ptr nA 0),(2,.ptr (bd+2) 0)]))):=hap.of fun q o hq ho=>by
    rw [Ad (fun e=>hq (.inr e))] at ho
    by_cases e1:q=bd+23+1
    · subst e1; rw [Ak] at ho; cases ho; exact .inr fun m _=>H8
    · rw [Ad e1,Ad (fun e=>hq (.inl (.inr (.inr e))))] at ho
      exact .inl ⟨fun h=>hq (.inl (.inl h)),ho⟩
  have hI0:I s (upd (upd (upd os (bd+2) (some (.cells [yv]))) (bd+23+1) (some (.cells (cA a)))) (bd+30) (some (.loop (stK ⟨23,[8],A,B,.ready,none⟩ none) [(1,.ptr nA 0),(2,.ptr (bd+2) 0)]))):=hY.stable _ _ _ hI (fun q hq=>by have:=hF q hq; simp (disch:=omega) only [Ad])
  have hc:=Baf hRd.yields rfl hsm (nA:=bd+23+1) (s:=(s,none)) (bd:=bd+31) (os:=upd (upd (upd os (bd+2) (some (.cells [yv]))) (bd+23+1) (some (.cells (cA a)))) (bd+30) (some (.loop (stK ⟨23,[8],A,B,.ready,none⟩ none) [(1,.ptr nA 0),(2,.ptr (bd+2) 0)]))) (fun h=>by
    rcases h with (h | h | h) | h
    · exact hFb 24 h
    · omega
    · omega
    · omega) (by simp (disch:=omega) only [Ad,Ak]) ⟨hg,rfl⟩ ⟨⟨hI0,by simp (disch:=omega) only [Ad]; exact oA,by simp (disch:=omega) only [Ad,Ak]⟩,Ak⟩ hap9 (fun x hx=>by
    obtain ⟨y,e,hy⟩:=Ly _ _ _ hx
    rw [List.nil_append] at e
    subst e
    exact ⟨hy,fun hp=>hok _ (List.mem_filter.2 ⟨hx,hp⟩)⟩)
  cases (show some (_,_)=some (A,B) from hcode)
  refine Mg (mv:=mv) (fun _ h=>.inl h) (fun h=>hFb 30 (hY.mvF _ h)) (bd:=bd+30) (tm:=[(1,.ptr nA 0),(2,.ptr (bd+2) 0)]) rfl (fun q hq=>by simp (disch:=omega) only [Ad]; exact hfree q (by omega)) (by simp only []; omega) rfl (by kernel_rfl) (fun i=>Lr (by simp (disch:=omega) only [amL,sF,↓reduceIte]) i) (Ace (by simp (disch:=omega) only [amL,sF,↓reduceIte])) (Ud ⟨Df (fun h=>fA (hY.mvF _ h)),Df (fun h=>hFb 2 (hY.mvF _ h)),trivial⟩) hc (fun res os2 hR hcl2=>?_)
  obtain ⟨rfl,hI2,hfr2⟩:=hR
  obtain ⟨e1,e2⟩:=X4 (a:=a) (step:=step) (Cj a.entries []) s
  have hfin:∀ X,Zf Try.prog [] (fun res os'=>res=.tup []∧I (Ca step s (C0 a)).1 os'∧∀ n,¬ F n→os' n=os n) ⟨T [(1,.ptr nA 0),(2,.ptr (bd+2) 0)],upd os2 (bd+30) X⟩:=fun X=>by
    have hI3:=hI2.1.1
    rw [e1] at hI3
    obtain ⟨g1,g2,g4⟩:=hY.fin0 hcl hcl2 hfree hI hI3 (fun q hq h1=>by
      by_cases e:q=nA
      · subst e; rw [hI2.1.2.1,oA]
      · rw [hfr2 q (fun h=>by
                                rcases h with (h | h | h) | h
                                · exact h1 h
                                · exact e h
                                · omega
                                · omega)]
        simp (disch:=omega) only [Ad])
    exact Az (res:=.tup []) (Ap bd os2) rfl (fun n=>by
      by_cases e:n=bd+30
      · left; rw [e]; exact De (by omega)
      · show Ap bd os2 n=none∨Ap bd os2 n=upd os2 (bd+30) X n
        rw [Ad e]; exact Bh bd os2 n) g1 (Cy _ rfl) ⟨rfl,g2,g4⟩
  rcases e2 with e2 | e2
  · refine ⟨_,hI2.2,by rw [e2]; simp [],?_⟩
    rw [e2]
    exact hfin _
  · refine ⟨_,hI2.2,by rw [e2]; simp [],?_⟩
    rw [e2]
    exact hfin _
theorem Aql {m n:Nat} (h:(AV.ptr n 0).clean m=false):m=n:=by
 simp only [AV.clean,bne_eq_false_iff_eq] at h; exact h.symm
end AM.Dty
end
/- Go's slices.IndexFunc, slices.ContainsFunc and the program's all, over a part of an array. -/
section
namespace AM.Dty
open Go AM AM.Duty AM.Try Go.Proofs
open Nat renaming reduceLT→sA,reduceAdd→sB,reduceMul→sC,reduceSub→sD,reduceLeDiff→sE,reduceEqDiff→sF,reduceBEq→sG
open Int renaming reduceAdd→sH,reduceSub→sI,reduceMul→sJ,reduceLT→sK,reduceLE→sL,reduceNeg→sM,reduceToNat→sN,reduceEq→sO
set_option maxHeartbeats 8000000
theorem H0 {ds:List Int} {len k:Nat} (h:k < len) (hl:len≤ds.length):(ds.map i64).drop k=i64 ((ds.take len).getD k 0) :: (ds.map i64).drop (k+1):=by
  rw [List.drop_eq_getElem_cons (by simp; omega)]
  simp [List.getD,h,show k < ds.length by omega]
theorem Axk {σ:Type} {fv:AV} {F:Nat→Prop} {ds:List Int} {len:Nat} {I:σ→(Nat→Option AO)→Prop} {step:σ→Int→σ × Bool} (hl:ds.length < 1000000) (hlen:len≤ds.length) (hT:Cv fv F i64 (ds.take len) I step) {m:Nat} (fm:¬ F m) {s:σ} {os:Nat→Option AO} {bd:Nat} (hI:I s os) (om:os m=some (.cells (ds.map i64))) :
    Bm Try.prog bd (.fn (.func 193) [] []) [.csl m 0 1 len,fv] os fun res os'=>res=i64 (Dk step s (ds.take len) 0).2∧I (Dk step s (ds.take len) 0).1 os'∧∀ n,¬ F n→os' n=os n:=by
  refine Bn (v:=[]) (q:=[]) (N:=19) (rs:=[.tmp 4]) Try.func193 rfl (by kernel_rfl) rfl rfl (fun hcl hfree=>?_)
  have hfreeI:∀ (s1:σ) os1,I s1 os1→(∀ n,¬ F n→os1 n=os n)→∀ n,bd≤n→os1 n=none:=fun s1 os1 h1 h2 n hn=>by
    by_cases hFn:F n
    · obtain ⟨o,h3,_⟩:=hT.foot s os n hI hFn
      have:=Al hfree h3; omega
    · rw [h2 n hFn]; exact hfree n hn
  have hll:(ds.take len).length=len:=by rw [List.length_take]; omega
  refine Aa fun K1 hK1=>?_
  refine Ac ?_
  simp (disch:=omega) only [amL,sA,sB]
  refine hK1 _ ?_
  refine Aa fun K2 hK2=>?_
  refine Aa fun K3 hK3=>?_
  refine Ac ?_
  simp (disch:=omega) only [amL,amT,sA,↓reduceIte,reduceCtorEq]
  refine hK3 _ ?_
  refine Ai ?_
  skip
  refine A7 (α:=Nat × σ × (Nat→Option AO)) (fun x=>⟨T [(0,.csl m 0 1 len),(1,fv),(8,i64 x.1),(7,i64 len)],x.2.2⟩) (fun x=>len - x.1) (fun x=>x.1≤len∧I x.2.1 x.2.2∧(Hp x.2.2).closed∧(∀ n,¬ F n→x.2.2 n=os n)∧Dk step x.2.1 ((ds.take len).drop x.1) x.1=Dk step s (ds.take len) 0) (0,s,os) ?_ ?_ (fun x hx4 K4 hK4=>?_)
  · exact ⟨by simp,hI,hcl,fun _ _=>rfl,by simp⟩
  · refine Dz ?_ ?_ ?_ ?_ <;> (try simp (disch:=omega) only [amL,sF,↓reduceIte,reduceCtorEq]); all_goals first | exact hcl | exact Sub.refl _ | exact hT.live _ _ hI | (rw [om]; rfl) | exact ⟨by rw [om]; rfl,hT.live _ _ hI⟩
  obtain ⟨k,s1,os1⟩:=x; dsimp only at hx4 ⊢; obtain ⟨hk,hI1,hcl1,hfr1,hsc⟩:=hx4; have om1:=(hfr1 m fm).trans om
  refine Aa fun K5 hK5=>?_
  refine Ac ?_
  simp (disch:=omega) only [amL,amT,sA,sF,↓reduceIte,reduceCtorEq]
  refine hK5 _ ?_
  refine Aa fun K6 hK6=>?_
  refine Ag rfl (fun h=>?_) (fun h=>?_)
  ·first
   | exact Bool.noConfusion h
   |skip
    try simp only [decide_eq_true_eq] at h
    refine Aj ?_
    refine hK6 _ ?_
    refine Aa fun K7 hK7=>?_
    refine Ai ?_
    refine Aa fun K8 hK8=>?_
    refine Ac ?_
    simp (disch:=omega) only [amL,sA,sF,↓reduceIte,reduceCtorEq]
    refine hK8 _ ?_
    refine Aa fun K9 hK9=>?_
    refine Ac ?_
    have hdk:=H0 (ds:=ds) (len:=len) (k:=k) (by omega) hlen
    simp (disch:=omega) only [hdk,om1,amL,amT,sA,sF,↓reduceIte,reduceCtorEq]
    refine Be [(0,.csl m 0 1 len),(1,fv),(5,i64 k),(8,i64 k),(7,i64 len)] (by decide) (hT.call s1 ((ds.take len).getD k 0) os1 bd (Ee 0 (by omega)) hI1 hcl1) (hfreeI _ _ hI1 hfr1) (Nat.le_refl _) (fun res os2 hR hcl2 hlv2=>?_)
    obtain ⟨rfl,hI2,hfr2⟩:=hR
    have hv2:=hT.live _ _ hI2
    have om2:=(hfr2 m fm).trans om1
    simp (disch:=omega) only [amL,sF,↓reduceIte,reduceCtorEq]
    refine ⟨⟨by rw [om2]; rfl,hv2⟩,?_⟩
    refine hK9 _ ?_
    refine Ag rfl (fun h=>?_) (fun h=>?_)
    ·first
     | exact Bool.noConfusion h
     |skip
      try simp only [Bool.not_eq_true',decide_eq_true_eq,decide_eq_false_iff_not,Bool.and_eq_true,Bool.not_eq_false',Bool.not_not,decide_not,Bool.not_true,Bool.not_false] at h
      refine Aa fun K10 hK10=>?_
      refine Ac ?_
      simp (disch:=omega) only [amL,sA,sF,↓reduceIte,reduceCtorEq]
      refine hK10 _ ?_
      refine Ae ?_
      try simp (disch:=omega) only [amL]
      first | (refine Az (res:=i64 _) os1 (by simp (disch:=omega) only [amL,↓reduceIte]; try rfl) (Sub.refl _) hcl1 (AV.lives_p _ _) ?_ ; rw [E9 (by omega) hsc]; exact ⟨rfl,hI1,hfr1⟩) | (refine Az (res:=i64 _) os2 (by simp (disch:=omega) only [amL,↓reduceIte]; try rfl) (Sub.refl _) hcl2 (AV.lives_p _ _) ?_ ; rw [D9 0 (by omega) h hsc]; exact ⟨rfl,hI2,fun n hn=>(hfr2 n hn).trans (hfr1 n hn)⟩)
    ·first
     | exact Bool.noConfusion h
     |skip
      try simp only [Bool.not_eq_true',decide_eq_true_eq,decide_eq_false_iff_not,Bool.and_eq_true,Bool.not_eq_false',Bool.not_not,decide_not,Bool.not_true,Bool.not_false] at h
      refine Aj ?_
      refine hK7 _ ?_
      refine Ac ?_
      simp (disch:=omega) only [amL,amT,sA,sF,↓reduceIte,reduceCtorEq]
      refine hK4 (k+1,(step s1 ((ds.take len).getD k 0)).1,os2) _ ?_ ?_ (Dz ?_ ?_ ?_ ?_)
      all_goals (try simp (disch:=omega) only [amL,sF,↓reduceIte,reduceCtorEq])
      all_goals first | exact ⟨by omega,hI2,hcl2,fun n hn=>(hfr2 n hn).trans (hfr1 n hn),Kx 0 (by omega) h hsc⟩ | omega | exact hcl2 | exact Sub.refl _ | exact hv2 | (rw [om2]; rfl) | exact ⟨by rw [om2]; rfl,hv2⟩
  ·first
   | exact Bool.noConfusion h
   |skip
    try simp only [decide_eq_false_iff_not] at h
    refine Bg ?_
    refine hK2 _ ?_
    refine Aa fun K11 hK11=>?_
    refine Ac ?_
    simp (disch:=omega) only [amL,sA,sM]
    refine hK11 _ ?_
    refine Ae ?_
    try simp (disch:=omega) only [amL,sM]
    first | (refine Az (res:=i64 _) os1 (by simp (disch:=omega) only [amL,sM,↓reduceIte]; try rfl) (Sub.refl _) hcl1 (AV.lives_p _ _) ?_ ; rw [E9 (by omega) hsc]; exact ⟨rfl,hI1,hfr1⟩) | (refine Az (res:=i64 _) os2 (by simp (disch:=omega) only [amL,amT,sA,sB,sC,sD,sE,sF,sG,sH,sI,sJ,sK,sL,sM,sN,sO,↓reduceIte,reduceCtorEq]; try rfl) (Sub.refl _) hcl2 (AV.lives_p _ _) ?_ ; rw [D9 0 (by omega) h hsc]; exact ⟨rfl,hI2,fun n hn=>(hfr2 n hn).trans (hfr1 n hn)⟩)
theorem Asz {σ:Type} {fv:AV} {F:Nat→Prop} {ds:List Int} {len:Nat} {I:σ→(Nat→Option AO)→Prop} {step:σ→Int→σ × Bool} (hl:ds.length < 1000000) (hlen:len≤ds.length) (hT:Cv fv F i64 (ds.take len) I step) {m:Nat} (fm:¬ F m) {s:σ} {os:Nat→Option AO} {bd:Nat} (hI:I s os) (om:os m=some (.cells (ds.map i64))) :
    Bm Try.prog bd (.fn (.func 159) [] []) [.csl m 0 1 len,fv] os fun res os'=>res=bl (decide (0≤(Dk step s (ds.take len) 0).2))∧I (Dk step s (ds.take len) 0).1 os'∧∀ n,¬ F n→os' n=os n:=by
  refine Bn (v:=[193]) (q:=[]) (N:=9) (rs:=[.tmp 4]) Try.func159 rfl (by kernel_rfl) rfl rfl (fun hcl hfree=>?_)
  refine Aa fun K1 hK1=>?_
  refine Ac ?_
  simp (disch:=omega) only [amL,sA,sB]
  refine hK1 _ ?_
  refine Aa fun K2 hK2=>?_
  refine Ac ?_
  simp (disch:=omega) only [amL,sA,sF,↓reduceIte,reduceCtorEq]
  refine Be [] (by decide) (Axk hl hlen hT fm hI om) hfree (Nat.le_refl _) (fun res os2 hR hcl2 hlv2=>?_)
  obtain ⟨rfl,hI2,hfr2⟩:=hR
  simp (disch:=omega) only [amL,amT,sA,↓reduceIte]
  refine hK2 _ ?_
  refine Ae ?_
  try simp (disch:=omega) only [amL]
  refine Az (res:=bl _) os2 (by simp (disch:=omega) only [amL,↓reduceIte]; try rfl) (Sub.refl _) hcl2 (AV.lives_p _ _) ⟨rfl,hI2,hfr2⟩
theorem Bah {σ:Type} {ff:Fn} {fs cs:List AV} {F:Nat→Prop} {ds:List Int} {len:Nat} {I:σ→(Nat→Option AO)→Prop} {step:σ→Int→σ × Bool} (hl:ds.length < 1000000) (hlen:len≤ds.length) (hT:Cv (.fn ff fs cs) F i64 (ds.take len) I step) (hfv:∀ m,(AV.fn ff fs cs).clean m=false→F m) {m:Nat} (fm:¬ F m) {s:σ} {os:Nat→Option AO} {bd:Nat} (hI:I s os) (om:os m=some (.cells (ds.map i64))) :
    Bm Try.prog bd (.fn (.func 127) [] []) [.csl m 0 1 len,.fn ff fs cs] os fun res os'=>res=bl (Ca step s (ds.take len)).2∧I (Ca step s (ds.take len)).1 os'∧∀ n,¬ F n→os' n=os n:=by
  refine Bn (v:=[159]) (q:=[]) (N:=9) (rs:=[.tmp 4]) Try.func127 rfl (by kernel_rfl) rfl rfl (fun hcl hfree=>?_)
  have hfr0:∀ k,os (bd+k)=none:=fun k=>hfree _ (by omega)
  have hF:∀ n,F n→n < bd:=fun n hn=>by obtain ⟨o,h,_⟩:=hT.foot s os n hI hn; exact Al hfree h
  have hmb:=Al hfree om
  have hlv:=hT.live _ _ hI
  have hcl0:(Hp (upd os (bd+3) (some (.cells [.fn ff fs cs])))).closed:=Bc hcl (by
    rw [Bp,Ax,A8]
    exact ⟨AV.lives_mono (fun n hn=>by
                                         by_cases e:n=bd+3; · subst e; rw [Ak]; rfl
                                         · rw [Ad e]; exact hn) hlv,trivial⟩)
  have hI0:I s (upd os (bd+3) (some (.cells [.fn ff fs cs]))):=hT.stable s os _ hI (fun n hn=>Ad (by have:=hF n hn; omega))
  have ht:=Bb1 hT (nb:=bd+3) (fun h=>by have:=hF _ h; omega) hfv
  obtain ⟨sa1,sa2⟩:=H3 (step:=step) (ds.take len) s 0
  refine Aa fun K1 hK1=>?_
  refine Ac ?_
  simp (disch:=omega) only [hfr0,amL,sA,sB,↓reduceIte,reduceCtorEq]
  refine hK1 _ ?_
  refine Aa fun K2 hK2=>?_
  refine Ac ?_
  simp (disch:=omega) only [amL,sA,sF,↓reduceIte,reduceCtorEq]
  refine Be [] (by decide) (Asz (bd:=bd+9) hl hlen ht (m:=m) (fun h=>h.elim fm (fun e=>by omega)) ⟨hI0,Ak⟩ ((Ad (by omega)).trans om)) (fun n hn=>by first | exact hfree n (by omega) | (rw [Ad (by omega)]; exact hfree n (by omega))) (Nat.le_add_right bd 9) (fun res os2 hR hcl2 hlv2=>?_)
  obtain ⟨rfl,⟨hI2,_⟩,hfr2⟩:=hR
  simp (disch:=omega) only [amL,sA,↓reduceIte]
  refine hK2 _ ?_
  refine Ae ?_
  try simp (disch:=omega) only [amL]
  rw [sa1] at hI2
  obtain ⟨g1,g2,g3⟩:=hT.drop hcl hfree hI hI2 (fun n hn hF=>by rw [hfr2 n (fun h=>h.elim hF (fun e=>by omega)),Ad (by omega)])
  refine Az (res:=bl _) (Ap bd os2) (by simp (disch:=omega) only [amL,↓reduceIte]; try rfl) (Bh _ _) g1 (AV.lives_p _ _) ⟨by rw [sa2],g2,g3⟩
theorem c94 {a:Acc} {nA:Nat} {n:Int} {os:Nat→Option AO} {bd:Nat} (oA:os nA=some (.cells (cA a))):Bm Try.prog bd (.fn (.func 128) [] [.ptr nA 0]) [i64 n] os fun res os'=>res=bl (decide (n≤a.bond))∧os'=os:=by
  refine Bn (v:=[]) (q:=[]) (N:=8) (rs:=[.tmp 3]) Try.func128 rfl (by kernel_rfl) rfl rfl (fun hcl hfree=>?_)
  refine Aa fun K1 hK1=>?_
  refine Ac ?_
  simp (disch:=omega) only [amL,sA,sB]
  refine hK1 _ ?_
  refine Aa fun K2 hK2=>?_
  refine Ac ?_
  simp (disch:=omega) only [oA,amL,amT,sA,sF,↓reduceIte,reduceCtorEq]
  refine hK2 _ ?_
  refine Ae ?_
  try simp (disch:=omega) only [amL]
  refine Az (res:=bl _) os (by simp (disch:=omega) only [amL,↓reduceIte]; try rfl) (Sub.refl _) hcl (AV.lives_p _ _) ⟨rfl,rfl⟩
theorem t94 {a:Acc} {nA:Nat} {l:List Int}:Cv (.fn (.func 128) [] [.ptr nA 0]) (fun n=>n=nA) i64 l (fun (_:Unit) os=>os nA=some (.cells (cA a))) (fun _ n=>((),decide (n≤a.bond))) where
  live s os h:=by rw [Cl,A8,Ax,A8,Bz,h]; exact ⟨trivial,rfl,trivial⟩
  stable s os os' h he:=(he nA rfl).trans h
  foot s os n h hn:=by subst hn; exact ⟨_,h,fun m hm=>by rw [H8] at hm; cases hm⟩
  call s x os bd hx h hcl:=by
    refine Bm.mono (c94 h) ?_
    rintro r os' ⟨rfl,rfl⟩
    exact ⟨rfl,h,fun _ _=>rfl⟩
def Lg (a:Acc) (ds:List Int):Bool:=(ds.take (a.last+1).toNat).all fun n=>decide (n≤a.bond)
theorem c72 (a:Acc) (ds:List Int) (h0:0≤a.last) (h1:a.last≤11) (hd:ds.length=12):Bf Try.prog 74 [avA a,.agg (ds.map i64)] (bl (Lg a ds)):=by
  refine Au (v:=[127]) (q:=[]) (N:=11) (rs:=[.tmp 4]) Try.func74 rfl rfl rfl (by simp only [List.all_cons,Zp]; rfl) rfl ?_
  refine Aa fun K1 hK1=>?_
  refine Ac ?_
  simp (disch:=omega) only [amL,sA,sB,sF,↓reduceIte,reduceCtorEq]
  refine hK1 _ ?_
  refine Aa fun K2 hK2=>?_
  refine Ac ?_
  simp (disch:=omega) only [Int.sub_zero,Acy,Aki,Acb,Ab6,Ai1,amL,amT,sA,sF,sH,sK,sL,sN,↓reduceIte,reduceCtorEq]
  refine Be [] (by decide) (Bah (bd:=11) (ds:=ds) (len:=(a.last+1).toNat) (m:=3) (by omega) (by omega) (t94 (a:=a) (nA:=2)) (fun m hm=>Aql (by simpa [AV.clean,AV.clean.cleanL] using hm)) (by decide) (s:=()) rfl rfl) (Dj rfl) (by decide) (fun res os2 hR hcl2 hlv2=>?_)
  obtain ⟨rfl,hI2,hfr2⟩:=hR
  simp (disch:=omega) only [amL,sA,↓reduceIte]
  refine hK2 _ ?_
  refine Ae ?_
  try simp (disch:=omega) only [amL,↓reduceIte]
  rw [Dy]; rfl
end AM.Dty
end
/- The program: whether the bond is kept. -/
section
namespace AM.Dty
open Go AM AM.Duty AM.Try Go.Proofs
open Nat renaming reduceLT→sA,reduceAdd→sB,reduceMul→sC,reduceSub→sD,reduceLeDiff→sE,reduceEqDiff→sF,reduceBEq→sG
open Int renaming reduceAdd→sH,reduceSub→sI,reduceMul→sJ,reduceLT→sK,reduceLE→sL,reduceNeg→sM,reduceToNat→sN,reduceEq→sO
set_option maxRecDepth 100000
set_option maxHeartbeats 8000000
def Md (a:Acc) (s:Bool × Bool) (x:List Int):(Bool × Bool) × Option Code:=((s.1||Lg a (pad (Bq a x [] true).1),s.2||!Lg a (pad (Bq a x [] true).1)),none)
theorem Ac3 {f g:Nat→Option AO} {n:Nat} {x:Option AO} (h:∀ q,q≠n→f q=none∨f q=g q):Sub (upd f n x) (upd g n x):=fun q=>by
  by_cases e:q=n
  · subst e; right; rw [Ak,Ak]
  · rw [Ad e,Ad e]; exact h q e
theorem Ak0 {a:Acc} (hf:Aq a=0) {n1 n5 n6 bdL:Nat} (h1:n1 < n5) (h2:n5 < n6) (h3:n6 < bdL) {A B:Code} (hcode:(Try.f23.body.bind Fs)=some (A,B)) :
    Uf bdL ⟨40,[17,18],A,B,.ready,none⟩ [(1,.ptr n1 0),(5,.ptr n5 0),(6,.ptr n6 0)] [71] [] (fun n=>n=n1∨n=n5∨n=n6) (fun _=>False) (exA a) (fun _=>True) (fun _ _=>True) (fun (s:Bool × Bool) os=>os n1=some (.cells (cA a))∧os n5=some (.cells [bl s.1])∧os n6=some (.cells [bl s.2])) (Md a) where
  mvF _ h:=h.elim
  ready:=rfl
  lenp _:=rfl
  psn p hp:=by
    simp only [List.mem_cons,List.not_mem_nil,or_false] at hp
    rcases hp with rfl | rfl
    · exact (by decide:17 < 40)
    · exact (by decide:18 < 40)
  notF h:=by omega
  tmF m hm:=by
    by_cases e1:m=n1
    · exact .inl e1
    · by_cases e2:m=n5
      · exact .inr (.inl e2)
      · by_cases e3:m=n6
        · exact .inr (.inr e3)
        · simp [AO.clean,AV.clean,AV.clean.cleanL,Ne.symm e1,Ne.symm e2,Ne.symm e3] at hm
  stable s os os' hI he:=⟨(he n1 (.inl rfl)).trans hI.1,(he n5 (.inr (.inl rfl))).trans hI.2.1,(he n6 (.inr (.inr rfl))).trans hI.2.2⟩
  foot s os n hI hn:=by
    rcases hn with rfl | rfl | rfl
    · exact ⟨_,hI.1,fun m hm=>by rw [H8] at hm; cases hm⟩
    · exact ⟨_,hI.2.1,fun m hm=>by simp [AO.clean,AV.clean,AV.clean.cleanL] at hm⟩
    · exact ⟨_,hI.2.2,fun m hm=>by simp [AO.clean,AV.clean,AV.clean.cleanL] at hm⟩
  mono _ _ h:=h
  next r s x ho hg h:=trivial
  body r s x os bd na ho hg hI hap hF hne ha hl hcl hfree hb l:=by
    obtain ⟨o1,o5,o6⟩:=hI
    have hfr0:∀ k,os (bd+k)=none:=fun k=>hfree _ (by omega)
    obtain ⟨_,_,z3,_,_,_⟩:=Ez hf
    simp only [inB,Bool.and_eq_true,decide_eq_true_eq] at z3
    have hle:=Ke (a:=a) (t:=x) (paid:=[]) (ask:=true) (by omega)
    have hpl:=Fa hle
    have hpc:=Dn (vs:=List.map i64 (pad (Bq a x [] true).1)) (l:=[i64 0,i64 0,i64 0,i64 0,i64 0,i64 0,i64 0,i64 0,i64 0,i64 0,i64 0,i64 0]) (by rw [List.length_map,hpl]; rfl)
    have htk:=Mo (acc:=(Bq a x [] true).1) hle
    cases (show some (_,_)=some (A,B) from hcode)
    show AWP _ _ 40 _ ⟨T [(18,.agg ((pad (Bq a x [] true).1).map i64)),(17,.own na x.length),(1,.ptr n1 0),(5,.ptr n5 0),(6,.ptr n6 0)],os⟩ _
    refine Ac ?_
    simp (disch:=omega) only [hl,hfr0,Ad,hpl,hpc,amL,amT,sA,sB,sF,↓reduceIte]
    try simp (disch:=omega) only [hl,hfr0,Ad,hpl,hpc,htk,amL,amT,sA,sB,sC,sD,sE,sF,sG,sH,sI,sJ,sK,sL,sM,sN,sO,↓reduceIte,reduceCtorEq]
    skip
    refine Ai ?_
    refine Aa fun K1 hK1=>?_
    refine Ac ?_
    simp (disch:=omega) only [o1,Ad,Ak,hpl,htk,Dg,amL,amT,sA,sB,sF,sG,↓reduceIte]
    repeat' first | (refine Am (by kernel_rfl) rfl (c72 a _ (by omega) (by omega) hpl) (by first | exact .inl rfl | exact .inr (.inl rfl)) ?_ ; simp (disch:=omega) only [amL,sA,↓reduceIte])
    refine hK1 _ ?_
    refine Ac ?_
    simp (disch:=omega) only [o5,Ad,amL,amT,sA,sF,↓reduceIte]
    repeat' first | (refine B2 (fun h=>?_) (fun h=>?_) <;> simp (disch:=omega) only [h,o1,o5,o6,hl,hfr0,Ad,Ak,hpl,htk,Dg,Ci,Fv,amL,amT,sA,sB,sC,sD,sE,sF,sG,sH,sI,sJ,sK,sL,sM,sN,sO,↓reduceIte,reduceCtorEq]) | (refine Ba (fun h=>?_) (fun h=>?_) <;> simp (disch:=omega) only [h,o5,o6,Ad,Ci,amL,amT,sA,sF,↓reduceIte])
    all_goals
     skip
     try simp (disch:=omega) only [o1,o5,o6,hl,hfr0,Ad,Ak,hpl,htk,Dg,Ci,Fv,amL,amT,sA,sB,sC,sD,sE,sF,sG,sH,sI,sJ,sK,sL,sM,sN,sO,↓reduceIte,reduceCtorEq]
     refine F9 (upd (upd (upd os n5 (some (.cells [bl (Md a s x).1.1]))) n6 (some (.cells [bl (Md a s x).1.2]))) bdL (some (.loop (stK _ none) [(1,.ptr n1 0),(5,.ptr n5 0),(6,.ptr n6 0)]))) (by simp (disch:=omega) only [Ad,Ak]) (Ac3 fun q hq=>?_) ?_ ⟨rfl,⟨⟨by simp (disch:=omega) only [Ad]; exact o1,by simp (disch:=omega) only [Ad,Ak],by simp (disch:=omega) only [Ad,Ak]⟩,Ak⟩,fun n hn=>by simp (disch:=omega) only [Ad]⟩
     · by_cases e6:q=n6
       · subst e6; right; rw [Ak]
         show some (AO.cells [bl (s.2||_)])=upd _ _ _ _
         rw [Ak]
         first | (rw [show s.2=true by assumption]; rfl) | (rw [show s.2=false by assumption]; rfl)
       · by_cases e5:q=n5
         · subst e5; right; rw [Ad (by omega),Ak]
           show some (AO.cells [bl (s.1||_)])=upd _ _ _ _
           rw [Ad (by omega),Ak]
           first | (rw [show s.1=true by assumption]; rfl) | (rw [show s.1=false by assumption]; rfl)
         · by_cases e8:q=bd+8
           · left; subst e8; simp (disch:=omega) only [Ad]; exact hfr0 8
           · right; simp (disch:=omega) only [Ad]
     · refine Bc (Bc (Bc hcl (by rw [Bp]; simp only [A8,Ax,Da,and_self])) (by rw [Bp]; simp only [A8,Ax,Da,and_self])) fun m hm=>?_
       by_cases e1:m=n1
       · subst e1; simp (disch:=omega) only [Ad]; rw [o1]; rfl
       · by_cases e2:m=n5
         · subst e2; simp (disch:=omega) only [Ad,Ak]; rfl
         · by_cases e3:m=n6
           · subst e3; simp (disch:=omega) only [Ad,Ak]; rfl
           · simp [AO.clean,AV.clean,AV.clean.cleanL,Ne.symm e1,Ne.symm e2,Ne.symm e3] at hm
def M8 (a:Acc) (s:Bool × Bool) (l:List (List Int)):Bool × Bool:=l.foldl (fun s x=>(Md a s x).1) s
theorem Aea {a:Acc}:∀ (l:List (List Int)) (s:Bool × Bool),(Ca (fun (s:(Bool × Bool) × Option Code) x=>(Md a s.1 x,(Md a s.1 x).2.isNone)) (s,none) l).1=(M8 a s l,none)
  | [],s=>rfl
  | x :: l,s=>by
    show (if (Md a s x).2.isNone=true then Ca _ (Md a s x) l else _).1=_
    rw [if_pos (show (Md a s x).2.isNone=true from rfl)]
    exact Aea l (Md a s x).1
def G3 (a:Acc):AV:=
  if Aq a=0 then match M8 a (false,false) (C0 a) with
    | (true,true)=>.tup [i64 3,i64 0]
    | (true,false)=>.tup [i64 1,i64 0]
    | (false,true)=>.tup [i64 2,i64 0]
    | (false,false)=>.tup [i64 0,i64 9]
  else .tup [i64 0,i64 (Aq a)]
theorem Afp (a:Acc):(G3 a).isP=true:=by
  unfold G3; split
  · split <;> rfl
  · rfl
theorem c31 (a:Acc) (hl1:a.rates.length < 1000000) (hl2:a.entries.length < 1000000) (hin:∀ e ∈ a.entries,inR e.lo=true∧inR e.hi=true):Bf Try.prog 23 [avA a] (G3 a):=by
  refine Ro (v:=[71]) (q:=[]) (N:=40) (rs:=[.tmp 2,.tmp 3]) Try.func23 rfl rfl rfl rfl (Afp a) ?_
  obtain ⟨A,B,hcode⟩:∃ A B,(Try.f23.body.bind Fs)=some (A,B):=⟨_,_,rfl⟩
  refine Br fun K1 hK1=>?_
  refine Ac ?_
  simp (disch:=omega) only [amL,sA,↓reduceIte]
  refine hK1 _ ?_
  refine Br fun K2 hK2=>?_
  refine Aa fun K3 hK3=>?_
  refine Ac ?_
  simp (disch:=omega) only [amL,amT,sA,sB,sF,sG,↓reduceIte]
  repeat' first | (refine Am (by kernel_rfl) rfl (c25 a hl1 hl2 hin) (by first | exact .inl rfl | exact .inr (.inl rfl)) ?_ ; simp (disch:=omega) only [amL,sA,↓reduceIte])
  refine hK3 _ ?_
  refine Aa fun K4 hK4=>?_
  refine Ac ?_
  simp (disch:=omega) only [ne_eq,amL,amT,sA,↓reduceIte]
  refine hK4 _ ?_
  refine Ag rfl (fun h=>?_) (fun h=>?_)
  ·first
   | exact Bool.noConfusion h
   |skip
    try simp only [Bool.not_eq_true',decide_eq_false_iff_not,decide_not] at h
    refine Aa fun K5 hK5=>?_
    refine Ac ?_
    simp (disch:=omega) only [amL,sA,sF,↓reduceIte]
    refine hK5 _ ?_
    refine Ae ?_
    try simp (disch:=omega) only [amL,sF,↓reduceIte]
    first | (rw [G3,if_neg (by assumption)]; done) | (rw [G3,if_pos (by omega),hb]; obtain ⟨b1,b2⟩:=b; dsimp only at *; simp_all; done) | (omega)
  ·first
   | exact Bool.noConfusion h
   |skip
    try simp only [decide_eq_true_eq,Bool.not_eq_false',decide_not] at h
    refine Aj ?_
    refine hK2 _ ?_
    refine Br fun K6 hK6=>?_
    refine Ac ?_
    simp (disch:=omega) only [amL,amT,sA,sF,↓reduceIte]
    refine hK6 _ ?_
    refine Pc fun K7 hK7=>?_
    refine Br fun K8 hK8=>?_
    refine Ac ?_
    simp (disch:=omega) only [amL,amT,sA,sB,sF,↓reduceIte]
    refine Be [(1,.ptr 1 0),(5,.ptr 5 0),(6,.ptr 6 0)] (by decide) (c70 (bd:=40)) (Dj rfl) (by decide) (fun res os2 hR hcl2 hlv2=>?_)
    obtain ⟨rfl,rfl⟩:=hR
    simp (disch:=omega) only [amL,sB,sF,↓reduceIte]
    refine hK8 _ ?_
    refine Lq ?_
    have hf:Aq a=0:=by omega
    have hRd:=Ak0 hf (n1:=1) (n5:=5) (n6:=6) (bdL:=42) (by decide) (by decide) (by decide) hcode
    have hc:=c90 (rr:=0) hRd.yields rfl hf (nA:=41) (s:=((false,false),none)) (bd:=43) (os:=O [(42,.loop (stK ⟨40,[17,18],A,B,.ready,none⟩ none) [(1,.ptr 1 0),(5,.ptr 5 0),(6,.ptr 6 0)]),(41,.cells (cA a)),(6,.cells [bl false]),(5,.cells [bl false]),(6,.cells [bl false]),(5,.cells [bl false]),(1,.cells (cA a))]) (by decide) rfl ⟨trivial,rfl⟩ ⟨⟨rfl,rfl,rfl⟩,rfl⟩ F4.none (fun _ _=>trivial)
    cases (show some (_,_)=some (A,B) from hcode)
    refine H6 (bd:=42) (tm:=[(1,.ptr 1 0),(5,.ptr 5 0),(6,.ptr 6 0)]) rfl (Dj rfl) (by decide) rfl (by kernel_rfl) (fun i=>Lr (by simp (disch:=omega) only [amL,sF,↓reduceIte]) i) (Ace (by simp (disch:=omega) only [amL,sF,↓reduceIte])) hc (fun res os2 hR hcl2=>?_)
    obtain ⟨rfl,hI2,hfr2⟩:=hR
    rw [Aea] at hI2
    generalize hb:M8 a (false,false) (C0 a)=b at hI2
    obtain ⟨⟨_,q5,q6⟩,q7⟩:=hI2
    dsimp only at q5 q6 q7
    refine ⟨_,q7,by simp [],?_⟩
    show Jl 0 _ .normal _
    simp only [Ei,Hm]
    refine hK7 _ ?_
    refine Br fun K9 hK9=>?_
    refine Ai ?_
    refine Aa fun K10 hK10=>?_
    refine Ac ?_
    simp (disch:=omega) only [q5,Ad,amL,amT,sA,sF,↓reduceIte]
    repeat' first | (refine B2 (fun h=>?_) (fun h=>?_) <;> simp (disch:=omega) only [h,q5,q6,ne_eq,Ad,amL,amT,sA,sB,sC,sD,sE,sF,sG,sH,sI,sJ,sK,sL,sM,sN,sO,↓reduceIte,reduceCtorEq]) | (refine Ba (fun h=>?_) (fun h=>?_) <;> simp (disch:=omega) only [h,q6,Ad,amL,amT,sA,sF,↓reduceIte])
    all_goals
     skip
     refine hK10 _ ?_
     refine Ag rfl (fun h=>?_) (fun h=>?_)
     ·first
      | exact Bool.noConfusion h
      |skip
       try simp only [Bool.not_eq_true',decide_eq_true_eq,decide_eq_false_iff_not,Bool.and_eq_true,Bool.not_eq_false',Bool.not_not,decide_not,Bool.not_true,Bool.not_false] at h
       refine Aa fun K11 hK11=>?_
       refine Ac ?_
       simp (disch:=omega) only [amL,sA]
       refine hK11 _ ?_
       refine Ae ?_
       try simp (disch:=omega) only [amL,sF,↓reduceIte]
       first | (rw [G3,if_neg (by assumption)]; done) | (rw [G3,if_pos (by omega),hb]; obtain ⟨b1,b2⟩:=b; dsimp only at *; simp_all; done) | (omega)
     ·first
      | exact Bool.noConfusion h
      |skip
       try simp only [] at h
       refine Aa fun K12 hK12=>?_
       refine Ac ?_
       simp (disch:=omega) only [q5,Ad,amL,amT,sA,sF,↓reduceIte]
       refine hK12 _ ?_
       refine Ag rfl (fun h=>?_) (fun h=>?_)
       ·first
        | exact Bool.noConfusion h
        |skip
         try simp only [Bool.not_eq_true',decide_eq_true_eq,decide_eq_false_iff_not,Bool.and_eq_true,Bool.not_eq_false',Bool.not_not,decide_not,Bool.not_true,Bool.not_false] at h
         refine Aa fun K13 hK13=>?_
         refine Ac ?_
         simp (disch:=omega) only [amL,sA]
         refine hK13 _ ?_
         refine Ae ?_
         try simp (disch:=omega) only [amL,sF,↓reduceIte]
         first | (rw [G3,if_neg (by assumption)]; done) | (rw [G3,if_pos (by omega),hb]; obtain ⟨b1,b2⟩:=b; dsimp only at *; simp_all; done) | (omega)
       ·first
        | exact Bool.noConfusion h
        |skip
         try simp only [Bool.not_eq_true',decide_eq_true_eq,decide_eq_false_iff_not,Bool.and_eq_true,Bool.not_eq_false',Bool.not_not,decide_not,Bool.not_true,Bool.not_false] at h
         refine Aa fun K14 hK14=>?_
         refine Ac ?_
         simp (disch:=omega) only [q6,Ad,amL,amT,sA,sF,↓reduceIte]
         refine hK14 _ ?_
         refine Ag rfl (fun h=>?_) (fun h=>?_)
         ·first
          | exact Bool.noConfusion h
          |skip
           try simp only [Bool.not_eq_true',decide_eq_true_eq,decide_eq_false_iff_not,Bool.and_eq_true,Bool.not_eq_false',Bool.not_not,decide_not,Bool.not_true,Bool.not_false] at h
           refine Aa fun K15 hK15=>?_
           refine Ac ?_
           simp (disch:=omega) only [amL,sA]
           refine hK15 _ ?_
           refine Ae ?_
           try simp (disch:=omega) only [amL,sF,↓reduceIte]
           first | (rw [G3,if_neg (by assumption)]; done) | (rw [G3,if_pos (by omega),hb]; obtain ⟨b1,b2⟩:=b; dsimp only at *; simp_all; done) | (omega)
         ·first
          | exact Bool.noConfusion h
          |skip
           try simp only [Bool.not_eq_true',decide_eq_true_eq,decide_eq_false_iff_not,Bool.and_eq_true,Bool.not_eq_false',Bool.not_not,decide_not,Bool.not_true,Bool.not_false] at h
           refine Aj ?_
           refine hK9 _ ?_
           refine Br fun K16 hK16=>?_
           refine Ac ?_
           simp (disch:=omega) only [amL,sA]
           refine hK16 _ ?_
           refine Js ?_
           refine Ae ?_
           try simp (disch:=omega) only [amL,sF,↓reduceIte]
           first | (rw [G3,if_neg (by assumption)]; done) | (rw [G3,if_pos (by omega),hb]; obtain ⟨b1,b2⟩:=b; dsimp only at *; simp_all; done) | (omega)
def V9 (m:Int):List Int→Int
  | []=>m
  | x :: l=>V9 (min m x) l
theorem Afd {l:List Int} {k:Nat} {m:Int} (h:k < l.length):V9 m (l.drop k)=V9 (min m (l.getD k 0)) (l.drop (k+1)):=by
  rw [Gi (d:=0) h]; rfl
theorem Ako {l:List Int} {k:Nat} {m:Int} (h:l.length≤k):V9 m (l.drop k)=m:=by rw [List.drop_of_length_le h]; rfl
theorem c92 (l:List Int) (hl:l.length < 1000000) (h0:0 < l.length):Bf Try.prog 126 [isl l] (i64 (V9 (l.getD 0 0) (l.drop 1))):=by
  refine Au (v:=[]) (q:=[]) (N:=25) (rs:=[.tmp 2]) Try.func126 rfl rfl rfl rfl rfl ?_
  refine Aa fun K1 hK1=>?_
  refine Ac ?_
  simp (disch:=omega) only [amL,sA]
  refine hK1 _ ?_
  refine Aa fun K2 hK2=>?_
  refine Aa fun K3 hK3=>?_
  refine Ac ?_
  simp (disch:=omega) only [amL,amT,sA,↓reduceIte,reduceCtorEq]
  refine hK3 _ ?_
  refine Ag rfl (fun h=>?_) (fun h=>?_)
  ·first
   | exact Bool.noConfusion h
   |skip
    try simp only [decide_eq_true_eq] at h
    exact absurd h (by omega)
  ·first
   | exact Bool.noConfusion h
   |skip
    try simp only [decide_eq_false_iff_not] at h
    refine Aj ?_
    refine hK2 _ ?_
    refine Aa fun K4 hK4=>?_
    refine Ac ?_
    simp (disch:=omega) only [amL,amT,sA,sL,sN,↓reduceIte,reduceCtorEq]
    refine hK4 _ ?_
    refine Aa fun K5 hK5=>?_
    refine Aa fun K6 hK6=>?_
    refine Ac ?_
    simp (disch:=omega) only [amL,sA]
    refine hK6 _ ?_
    refine Ai ?_
    skip
    refine A7 (α:=Nat × Int) (fun x=>⟨T [(0,isl l),(4,i64 x.1),(3,i64 x.2)],O []⟩) (fun x=>l.length - x.1) (fun x=>1≤x.1∧x.1≤l.length∧V9 x.2 (l.drop x.1)=V9 (l.getD 0 0) (l.drop 1)) (1,l.getD 0 0) ?_ ?_ (fun x hx7 K7 hK7=>?_)
    · exact ⟨by simp,by omega,rfl⟩
    · refine B7 ?_ ?_ ?_ ?_ <;> (try simp (disch:=omega) only [amL,sF,sH,↓reduceIte,reduceCtorEq])
    obtain ⟨k,m⟩:=x; dsimp only at hx7 ⊢; obtain ⟨hk1,hk,hn⟩:=hx7
    refine Aa fun K8 hK8=>?_
    refine Aa fun K9 hK9=>?_
    refine Ac ?_
    simp (disch:=omega) only [amL,amT,sA,sF,↓reduceIte,reduceCtorEq]
    refine hK9 _ ?_
    refine Ag rfl (fun h=>?_) (fun h=>?_)
    ·first
     | exact Bool.noConfusion h
     |skip
      try simp only [decide_eq_true_eq] at h
      refine Aj ?_
      refine hK8 _ ?_
      refine Aa fun K10 hK10=>?_
      refine Ai ?_
      refine Ac ?_
      simp (disch:=omega) only [amL,amT,sA,sF,↓reduceIte,reduceCtorEq]
      refine hK10 _ ?_
      refine Ac ?_
      simp (disch:=omega) only [amL,amT,sA,sF,↓reduceIte,reduceCtorEq]
      refine hK7 (k+1,min m (l.getD k 0)) _ ?_ ?_ (B7 ?_ ?_ ?_ ?_)
      all_goals (try simp (disch:=omega) only [amL,sE,sF,↓reduceIte,reduceCtorEq])
      all_goals first | omega | exact ⟨by omega,by rw [Afd (by omega)] at hn; exact hn⟩ | ((have e:(if l.getD k 0 < m then l.getD k 0 else m)=min m (l.getD k 0):=by rw [Int.min_def]; split <;> split <;> omega); rw [e]; done) | (omega)
    ·first
     | exact Bool.noConfusion h
     |skip
      try simp only [decide_eq_false_iff_not] at h
      refine Bg ?_
      refine hK5 _ ?_
      refine Aa fun K11 hK11=>?_
      refine Ac ?_
      simp (disch:=omega) only [amL,sA,sF,↓reduceIte,reduceCtorEq]
      refine hK11 _ ?_
      refine Ae ?_
      try simp (disch:=omega) only [amL,↓reduceIte]
      first | (rw [Ako (by omega)] at hn; rw [hn]; done) | (omega)
theorem c71 (l:List Int) (hl:l.length < 1000000) (h0:0 < l.length):Bf Try.prog 72 [isl l] (i64 (V9 (l.getD 0 0) (l.drop 1))):=by
  refine Au (v:=[]) (q:=[]) (N:=5) (rs:=[.tmp 2]) Try.func72 rfl rfl rfl rfl rfl ?_
  refine Aa fun K1 hK1=>?_
  refine Ac ?_
  simp (disch:=omega) only [amL,sA]
  refine hK1 _ ?_
  refine Aa fun K2 hK2=>?_
  refine Ac ?_
  simp (disch:=omega) only [amL,sA,↓reduceIte,reduceCtorEq]
  repeat' first | (refine Am (by kernel_rfl) rfl (c92 l hl h0) (by first | exact .inl rfl | exact .inr (.inl rfl)) ?_ ; simp (disch:=omega) only [amL,sA,↓reduceIte])
  refine hK2 _ ?_
  refine Ae ?_
  try simp (disch:=omega) only [amL,↓reduceIte]
  skip
theorem Eb {K:St→Prop} {Q:AEx→St→Prop} {i:Nat} {s:St}:H7 K Q (.exit i) s=Q (.exit i) s:=rfl
theorem Vh {Q:AEx→St→Prop} {i:Nat} {s:St}:Jl i Q (.exit i) s=Q .normal s:=if_pos rfl
theorem Wz {esz:Nat→Nat} {ea:Nat→Option Bool} {l:List Int} {k:Nat} (hz:esz 3=1) (he:ea 3=some false) (hl:l.length=12) (hk:k < 12):R0 esz ea (.agg (l.map i64)) (.arr 12 3) (i64 (k:Int))=some (.pure (i64 (l.getD k 0))):=by
  simp only [R0,he,hz]
  rw [if_pos ⟨by omega,by omega,by simp; omega⟩]
  have hd:(l.map i64).drop ((k:Int).toNat * 1)=i64 (l.getD k 0) :: (l.map i64).drop (k+1):=by
    rw [Int.toNat_natCast,Nat.mul_one,List.drop_eq_getElem_cons (by simp; omega)]
    simp [List.getD,show k < l.length by omega]
  rw [hd]; rfl
def Gw (f:Int→Int→Int) (lo d:List Int) (k:Nat):List Int:=(List.zipWith f lo d).take k++lo.drop k
theorem Sy {f:Int→Int→Int} {lo d:List Int} {k:Nat} (h:lo.length=12) (hd:d.length=12):(Gw f lo d k).length=12:=by simp [Gw,h,hd]; omega
theorem S8 {f:Int→Int→Int} {lo d:List Int} {k:Nat} (h:lo.length=12) (hd:d.length=12) (hk:k < 12):(Gw f lo d k).getD k 0=lo.getD k 0:=by
  simp [Gw,List.getD,List.getElem?_append_right,h,hd,Nat.min_eq_left (Nat.le_of_lt hk)]
theorem S4 {f:Int→Int→Int} {lo d:List Int} {k:Nat} (h:lo.length=12) (hd:d.length=12) (hk:k < 12):(Gw f lo d k).set k (f (lo.getD k 0) (d.getD k 0))=Gw f lo d (k+1):=by
  unfold Gw
  rw [List.set_append_right _ _ (by simp [h,hd]; omega)]
  have e:((List.zipWith f lo d).take k).length=k:=by simp [h,hd]; omega
  rw [e,Nat.sub_self,List.drop_eq_getElem_cons (i:=k) (by omega),List.set_cons_zero,List.take_succ_eq_append_getElem (i:=k) (by simp [h,hd]; omega)]
  simp [List.getD,h,hd,hk]
theorem Se {f:Int→Int→Int} {lo d:List Int}:Gw f lo d 0=lo:=rfl
theorem X1 {f:Int→Int→Int} {lo d:List Int} (h:lo.length=12) (hd:d.length=12):Gw f lo d 12=List.zipWith f lo d:=by
  unfold Gw
  rw [List.take_of_length_le (by simp [h,hd]),List.drop_of_length_le (by omega),List.append_nil]
structure B30 where
  first:Bool
  lo:List Int
  hi:List Int
def Gg (s:B30) (d:List Int):B30:=⟨false,List.zipWith min (if s.first then d else s.lo) d,List.zipWith max (if s.first then d else s.hi) d⟩
def Hc (a:Acc) (s:B30) (x:List Int):B30 × Option Code:=(Gg s (pad (Bq a x [] true).1),none)
abbrev Wb (n1 n5 n6 n7:Nat):List (Nat × AV):=[(1,.ptr n1 0),(5,.ptr n5 0),(6,.ptr n6 0),(7,.ptr n7 0)]
abbrev F30 (os:Nat→Option AO) (n5 n6 n7 bdL:Nat) (lb:AO) (lo hi:List Int):Nat→Option AO:=upd (upd (upd (upd os bdL (some lb)) n5 (some (.cells (lo.map i64)))) n6 (some (.cells (hi.map i64)))) n7 (some (.cells [bl false]))
theorem Aeb {l:List Int} {k:Nat} {v:Int}:(l.map i64).set k (i64 v)=(l.set k v).map i64:=List.map_set.symm
theorem Mu {os:Nat→Option AO} {n1 n5 n6 n7 bdL:Nat} {lo hi:List Int} {k:D3} (hcl:(Hp os).closed) (o1:(os n1).isSome=true) (o5:(os n5).isSome=true) (o6:(os n6).isSome=true) (o7:(os n7).isSome=true) (g0:n1 < n5) (g1:n5 < n6) (g2:n6 < n7) (g3:n7 < bdL):(Hp (F30 os n5 n6 n7 bdL (.loop k (Wb n1 n5 n6 n7)) lo hi)).closed:=by
  have hc:∀ (os':Nat→Option AO) (l:List Int),(AO.cells (l.map i64)).lives os':=fun os' l=>by
    rw [AO.lives_cells]; intro i x hx
    rw [List.getElem?_map,Option.map_eq_some_iff] at hx
    obtain ⟨y,_,rfl⟩:=hx
    exact AV.lives_p _ _
  refine Bc (Bc (Bc (Bc hcl ?_) (hc _ _)) (hc _ _)) ?_
  · rw [N3]
    simp (disch:=omega) only [G0,Pq,Bz,Ad,o1,o5,o6,o7,and_self]
  · rw [Bp]; simp only [A8,Ax,Da,and_self]
theorem E3 {os:Nat→Option AO} {l:List Int}:He os (l.map i64):=by
  induction l with
  | nil=>trivial
  | cons x l ih=>exact ⟨AV.lives_p _ _,ih⟩
theorem Aj0 {os f:Nat→Option AO} {n5 n6 n7 bdL bd:Nat} {lb:AO} {lo hi:List Int} (g1:n5 < n6) (g2:n6 < n7) (g3:n7 < bdL) (hb:bdL < bd) (h5:f n5=some (.cells (lo.map i64))) (h6:f n6=some (.cells (hi.map i64))) (h7:f n7=some (.cells [bl false])) (hL:f bdL=some lb)
    (h:∀ q,q≠n5→q≠n6→q≠n7→q≠bdL→os q=none∨os q=f q):Sub (F30 os n5 n6 n7 bdL lb lo hi) f:=fun q=>by
  unfold F30
  by_cases e7:q=n7
  · subst e7; right; rw [Ak,h7]
  · rw [Ad e7]
    by_cases e6:q=n6
    · subst e6; right; rw [Ak,h6]
    · rw [Ad e6]
      by_cases e5:q=n5
      · subst e5; right; rw [Ak,h5]
      · rw [Ad e5]
        by_cases eL:q=bdL
        · subst eL; right; rw [Ak,hL]
        · rw [Ad eL]; exact h q e5 e6 e7 eL
theorem Anb {c:Bool} {x y z:List Int} (h:(if c=true then x else y)=z) (hc:c=true):z=x:=by rw [← h,if_pos hc]
theorem Al6 {c:Bool} {x y z:List Int} (h:(if c=true then x else y)=z) (hc:c=false):z=y:=by rw [← h,if_neg (by rw [hc]; simp)]
theorem Adt {os:Nat→Option AO} {n5 n6 n7 bdL bd:Nat} {lb:AO} {lo hi:List Int} {X Y:Option AO} (g1:n5 < n6) (g2:n6 < n7) (g3:n7 < bdL) (hb:bdL < bd) (h9:os (bd+9)=none) :
    Sub (F30 os n5 n6 n7 bdL lb lo hi) (upd (upd (upd (upd (upd (upd os (bd+9) X) (bd+9) Y) bdL (some lb)) n5 (some (.cells (lo.map i64)))) n6 (some (.cells (hi.map i64)))) n7 (some (.cells [bl false]))):=by
  refine Aj0 g1 g2 g3 hb ?_ ?_ ?_ ?_ fun q e5 e6 e7 eL=>?_
  any_goals (simp (disch:=omega) only [Ad,Ak])
  by_cases e9:q=bd+9
  · left; rw [e9]; exact h9
  · right; simp (disch:=omega) only [Ad]
theorem Ai9 {os:Nat→Option AO} {n5 n6 n7 bdL bd:Nat} {lb:AO} {lo hi:List Int} {X Y:Option AO} (g1:n5 < n6) (g2:n6 < n7) (g3:n7 < bdL) (hb:bdL < bd) (o5:os n5=some (.cells (lo.map i64))) (o6:os n6=some (.cells (hi.map i64))) (o7:os n7=some (.cells [bl false])) (h9:os (bd+9)=none) :
    Sub (F30 os n5 n6 n7 bdL lb lo hi) (upd (upd (upd os (bd+9) X) (bd+9) Y) bdL (some lb)):=by
  refine Aj0 g1 g2 g3 hb ?_ ?_ ?_ ?_ fun q e5 e6 e7 eL=>?_
  any_goals (simp (disch:=omega) only [Ad,Ak,o5,o6,o7]; done)
  by_cases e9:q=bd+9
  · left; rw [e9]; exact h9
  · right; simp (disch:=omega) only [Ad]
theorem Akb {os:Nat→Option AO} {n5 n6 n7 bdL bd:Nat} {lb:AO} {lo hi lo2 hi2:List Int} {X:Option AO} (g1:n5 < n6) (g2:n6 < n7) (g3:n7 < bdL) (hb:bdL < bd) (h9:os (bd+37)=none) :
    Sub (F30 os n5 n6 n7 bdL lb lo2 hi2) (upd (upd (upd (F30 os n5 n6 n7 bdL lb lo hi) (bd+37) X) n5 (some (.cells (lo2.map i64)))) n6 (some (.cells (hi2.map i64)))):=by
  refine Aj0 g1 g2 g3 hb ?_ ?_ ?_ ?_ fun q e5 e6 e7 eL=>?_
  any_goals (simp (disch:=omega) only [F30,Ad,Ak]; done)
  by_cases e9:q=bd+37
  · left; rw [e9]; exact h9
  · right; simp (disch:=omega) only [F30,Ad]
theorem Aoe {a:Acc} {os:Nat→Option AO} {t:Nat→AV} {n1 n5 n6 n7 bdL:Nat} {kb k:D3} {lo hi:List Int} (hkb:kb={ k with state:=.busy }) (hcl:(Hp os).closed) (r1:os n1=some (.cells (cA a))) (o5:(os n5).isSome=true) (o6:(os n6).isSome=true) (o7:(os n7).isSome=true) (g0:n1 < n5) (g1:n5 < n6) (g2:n6 < n7) (g3:n7 < bdL) :
    Ml bdL k (Wb n1 n5 n6 n7) (fun res os'=>res=bl true∧((os' n1=some (.cells (cA a))∧os' n5=some (.cells (lo.map i64))∧os' n6=some (.cells (hi.map i64))∧os' n7=some (.cells [bl false]))∧os' bdL=some (.loop (stK k none) (Wb n1 n5 n6 n7)))∧∀ n,¬ ((n=n1∨n=n5∨n=n6∨n=n7)∨n=bdL)→os' n=os n) none ⟨t,F30 os n5 n6 n7 bdL (.loop kb (Wb n1 n5 n6 n7)) lo hi⟩:=by
  have o1:(os n1).isSome=true:=by rw [r1]; rfl
  refine F9 (F30 os n5 n6 n7 bdL (.loop (stK k none) (Wb n1 n5 n6 n7)) lo hi) ?_ ?_ (Mu hcl o1 o5 o6 o7 g0 g1 g2 g3) ⟨rfl,⟨⟨?_,?_,?_,?_⟩,?_⟩,fun n hn=>?_⟩
  · simp (disch:=omega) only [F30,Ad,Ak,hkb]
  · refine fun q=>.inr ?_
    by_cases eL:q=bdL
    · subst eL; simp (disch:=omega) only [F30,Ad,Ak]
    · rw [Ad eL]; simp only [F30]
      by_cases e7:q=n7
      · subst e7; rw [Ak,Ak]
      · rw [Ad e7,Ad e7]
        by_cases e6:q=n6
        · subst e6; rw [Ak,Ak]
        · rw [Ad e6,Ad e6]
          by_cases e5:q=n5
          · subst e5; rw [Ak,Ak]
          · rw [Ad e5,Ad e5,Ad eL,Ad eL]
  all_goals (simp (disch:=omega) only [F30,Ad,Ak,r1])
theorem Aif {a:Acc} (hf:Aq a=0) {n1 n5 n6 n7 bdL:Nat} (g0:n1 < n5) (g1:n5 < n6) (g2:n6 < n7) (g3:n7 < bdL) {A B:Code} (hcode:(Try.f21.body.bind Fs)=some (A,B)) :
    Uf bdL ⟨79,[21,22],A,B,.ready,none⟩ (Wb n1 n5 n6 n7) [71] [] (fun n=>n=n1∨n=n5∨n=n6∨n=n7) (fun _=>False) (exA a) (fun _=>True) (fun _ s=>s.lo.length=12∧s.hi.length=12) (fun (s:B30) os=>os n1=some (.cells (cA a))∧os n5=some (.cells (s.lo.map i64))∧os n6=some (.cells (s.hi.map i64))∧os n7=some (.cells [bl s.first])) (Hc a) where
  mvF _ h:=h.elim
  ready:=rfl
  lenp _:=rfl
  psn p hp:=by
    simp only [List.mem_cons,List.not_mem_nil,or_false] at hp
    rcases hp with rfl | rfl
    · exact (by decide:21 < 79)
    · exact (by decide:22 < 79)
  notF h:=by omega
  tmF m hm:=by
    by_cases e0:m=n1
    · exact .inl e0
    · by_cases e1:m=n5
      · exact .inr (.inl e1)
      · by_cases e2:m=n6
        · exact .inr (.inr (.inl e2))
        · by_cases e3:m=n7
          · exact .inr (.inr (.inr e3))
          · simp [AO.clean,AV.clean,AV.clean.cleanL,Ne.symm e0,Ne.symm e1,Ne.symm e2,Ne.symm e3] at hm
  stable s os os' hI he:=⟨(he n1 (.inl rfl)).trans hI.1,(he n5 (.inr (.inl rfl))).trans hI.2.1,(he n6 (.inr (.inr (.inl rfl)))).trans hI.2.2.1,(he n7 (.inr (.inr (.inr rfl)))).trans hI.2.2.2⟩
  foot s os n hI hn:=by
    have hc:∀ (l:List Int) m,(AO.cells (l.map i64)).clean m=true:=fun l m=>(B0 m _).2 fun i x hx=>by
      rw [List.getElem?_map,Option.map_eq_some_iff] at hx
      obtain ⟨y,_,rfl⟩:=hx
      rfl
    rcases hn with rfl | rfl | rfl | rfl
    · exact ⟨_,hI.1,fun m hm=>by rw [H8] at hm; cases hm⟩
    · exact ⟨_,hI.2.1,fun m hm=>by rw [hc] at hm; cases hm⟩
    · exact ⟨_,hI.2.2.1,fun m hm=>by rw [hc] at hm; cases hm⟩
    · exact ⟨_,hI.2.2.2,fun m hm=>by simp [AO.clean,AV.clean,AV.clean.cleanL] at hm⟩
  mono _ _ h:=h
  next r s x ho hg h:=by
    obtain ⟨_,_,z3,_,_,_⟩:=Ez hf
    simp only [inB,Bool.and_eq_true,decide_eq_true_eq] at z3
    have hpl:=Fa (Ke (a:=a) (t:=x) (paid:=[]) (ask:=true) (by omega))
    refine ⟨?_,?_⟩ <;> (simp only [Hc,Gg]; split <;> simp [hpl,hg.1,hg.2])
  body r s x os bd na ho hg hI hap hF hne ha hl hcl hfree hb l:=by
    obtain ⟨o1,o5,o6,o7⟩:=hI
    obtain ⟨h5,h6⟩:=hg
    have hfr0:∀ k,os (bd+k)=none:=fun k=>hfree _ (by omega)
    obtain ⟨_,_,z3,_,_,_⟩:=Ez hf
    simp only [inB,Bool.and_eq_true,decide_eq_true_eq] at z3
    have hle:=Ke (a:=a) (t:=x) (paid:=[]) (ask:=true) (by omega)
    have hpl0:=Fa hle
    have hpc0:=Dn (vs:=List.map i64 (pad (Bq a x [] true).1)) (l:=[i64 0,i64 0,i64 0,i64 0,i64 0,i64 0,i64 0,i64 0,i64 0,i64 0,i64 0,i64 0]) (by rw [List.length_map,hpl0]; rfl)
    obtain ⟨d,hd⟩:∃ d,d=pad (Bq a x [] true).1:=⟨_,rfl⟩
    have hex:exA a x=[.agg (d.map i64)]:=by rw [hd]
    rw [← hd] at hpl0 hpc0
    rw [hex]
    obtain ⟨fst,lo,hi⟩:=s
    dsimp only at o5 o6 o7 h5 h6
    have htk:List.take 12 (List.map i64 d)=List.map i64 d:=List.take_of_length_le (by simp; omega)
    have hpc5:=Dn (vs:=List.map i64 d) (l:=List.map i64 lo) (by simp; omega)
    have hpc6:=Dn (vs:=List.map i64 d) (l:=List.map i64 hi) (by simp; omega)
    generalize hlo:(if fst=true then d else lo)=lo'
    generalize hhi:(if fst=true then d else hi)=hi'
    have h5':lo'.length=12:=by rw [← hlo]; split <;> assumption
    have h6':hi'.length=12:=by rw [← hhi]; split <;> assumption
    obtain ⟨kb,hkb⟩:∃ kb:D3,kb=⟨79,[21,22],A,B,.busy,none⟩:=⟨_,rfl⟩
    cases (show some (_,_)=some (A,B) from hcode)
    show AWP _ _ 79 _ ⟨T [(22,.agg (d.map i64)),(21,.own na x.length),(1,.ptr n1 0),(5,.ptr n5 0),(6,.ptr n6 0),(7,.ptr n7 0)],os⟩ _
    refine Ac ?_
    simp (disch:=omega) only [hl,hfr0,Ad,hpl0,hpc0,amL,amT,sA,sB,sF,↓reduceIte]
    try simp (disch:=omega) only [hl,hfr0,Ad,hpl0,hpc0,htk,amL,amT,sA,sB,sC,sD,sE,sF,sG,sH,sI,sJ,sK,sL,sM,sN,sO,↓reduceIte,reduceCtorEq]
    skip
    refine Ai ?_
    refine Aa fun K1 hK1=>?_
    refine Aa fun K2 hK2=>?_
    refine Ac ?_
    rw [← hkb]
    simp (disch:=omega) only [o7,Ad,amL,amT,sA,sF,↓reduceIte]
    refine hK2 _ ?_
    refine Ag rfl (fun h=>?_) (fun h=>?_)
    ·first
     | exact Bool.noConfusion h
     |skip
      try simp only [Bool.not_eq_true',decide_eq_true_eq,decide_eq_false_iff_not,Bool.and_eq_true,Bool.not_eq_false',Bool.not_not,decide_not,Bool.not_true,Bool.not_false] at h
      refine Ka [.sto [9] 5] (by kernel_rfl) (by kernel_rfl) ?_
      simp (disch:=omega) only [o5,o6,o7,Ad,Ak,hpl0,h5,h6,htk,hpc5,hpc6,amL,amT,sA,sF,↓reduceIte]
      have hz9:(bd+9 != n5)=true:=by simp; omega
      refine ⟨by simp [Cf.ok,Lj,AV.known,AV.clean,T]; omega,?_⟩
      all_goals
       skip
       refine hK1 _ ?_
       refine Aa fun K3 hK3=>?_
       refine Ac ?_
       simp (disch:=omega) only [Ad,Ak,hpl0,htk,amL,amT,sA,sF,↓reduceIte]
       refine hK3 _ ?_
       refine Ai ?_
       skip
       refine A7 (α:=Nat) (fun k=>⟨T [(1,.ptr n1 0),(5,.ptr n5 0),(6,.ptr n6 0),(7,.ptr n7 0),(26,.agg (d.map i64)),(27,i64 k)],F30 os n5 n6 n7 bdL (.loop kb (Wb n1 n5 n6 n7)) (Gw min lo' d k) (Gw max hi' d k)⟩) (fun k=>12 - k) (fun k=>k≤12) 0 ?_ ?_ (fun k hx4 K4 hK4=>?_)
       · simp
       · refine Dz ?_ ?_ ?_ ?_ <;> (try simp (disch:=omega) only [Ad,Ak,amL,sF,↓reduceIte]); all_goals first | exact Mu hcl (by rw [o1]; rfl) (by rw [o5]; rfl) (by rw [o6]; rfl) (by rw [o7]; rfl) g0 g1 g2 g3 | (refine ⟨?_,?_,?_,?_⟩ <;> simp (disch:=omega) only [Ad,Ak,o1,Option.isSome_some]; done) | (refine ⟨?_,?_,?_,?_,?_⟩ <;> simp (disch:=omega) only [Ad,Ak,o1,Option.isSome_some]; done) | exact E3 | exact ⟨by rw [o1]; rfl,E3⟩ | (rw [Se,Se]; have e1:=Anb hlo (by assumption); have e2:=Anb hhi (by assumption); rw [e1,e2]; exact Adt g1 g2 g3 hb (hfr0 9)) | (rw [Se,Se]; have e0:fst=false:=(by assumption); have e1:=Al6 hlo e0; have e2:=Al6 hhi e0; rw [e1,e2]; exact Ai9 g1 g2 g3 hb o5 o6 (by rw [o7,e0]) (hfr0 9)) | (omega)
       skip
       refine Aa fun K5 hK5=>?_
       refine Ac ?_
       simp (disch:=omega) only [amL,amT,sA,sF,↓reduceIte]
       refine hK5 _ ?_
       refine Aa fun K6 hK6=>?_
       refine Ag rfl (fun h=>?_) (fun h=>?_)
       ·first
        | exact Bool.noConfusion h
        |skip
         try simp only [decide_eq_true_eq] at h
         refine Aj ?_
         refine hK6 _ ?_
         refine Aa fun K7 hK7=>?_
         refine Ai ?_
         refine Aa fun K8 hK8=>?_
         refine Ac ?_
         have hk:k < 12:=by omega
         have hix:R0 (fun e=>(Ab Try.prog e).sz) (fun e=>(Ab Try.prog e).agg) (.agg (d.map i64)) (.arr 12 3) (i64 (k:Int))=some (.pure (i64 (d.getD k 0))):=Wz (by simp only [ty3]) (by simp only [ty3]; rfl) hpl0 hk
         simp (disch:=omega) only [hix,G1,amL,amT,sA,sF,↓reduceIte]
         refine hK8 _ ?_
         refine Ka [.sto [6,39] 44,.sto [40] 44,.sto [41,42] 44] (by kernel_rfl) (by kernel_rfl) ?_
         have hs5:(Gw min lo' d k).set k (V9 (lo'.getD k 0) [d.getD k 0])=Gw min lo' d (k+1):=S4 (f:=min) h5' hpl0 hk
         have hs6:(Gw max hi' d k).set k (if hi'.getD k 0 < d.getD k 0 then d.getD k 0 else hi'.getD k 0)=Gw max hi' d (k+1):=by
           rw [← S4 (f:=max) h6' hpl0 hk]; congr 1; rw [Int.max_def]; split <;> split <;> omega
         have m5:=Sy (f:=min) (k:=k) h5' hpl0
         have m6:=Sy (f:=max) (k:=k) h6' hpl0
         have dk5:=H0 (ds:=Gw min lo' d k) (len:=12) (k:=k) hk (by omega)
         have dk6:=H0 (ds:=Gw max hi' d k) (len:=12) (k:=k) hk (by omega)
         rw [List.take_of_length_le (by omega),S8 h5' hpl0 hk] at dk5
         rw [List.take_of_length_le (by omega),S8 h6' hpl0 hk] at dk6
         simp (disch:=omega) only [dk5,hfr0,Ad,Ak,amL,amT,sA,sB,sE,sF,sG,sH,↓reduceIte,reduceCtorEq]
         repeat' first | (refine Am (by kernel_rfl) rfl (c71 [_,_] (by simp) (by simp)) (by first | exact .inl rfl | exact .inr (.inl rfl)) ?_ ; simp (disch:=omega) only [m5,m6,dk6,Aeb,Ad,Ak,amL,amT,sA,sE,sF,sH,↓reduceIte])
         refine ⟨by simp [Cf.ok,Lj,AV.known,AV.clean,T]; omega,?_⟩
         all_goals
          skip
          refine hK7 _ ?_
          refine Ac ?_
          simp (disch:=omega) only [amL,amT,sA,sF,↓reduceIte]
          refine hK4 (k+1) _ ?_ ?_ (Dz ?_ ?_ ?_ ?_)
          all_goals (try simp (disch:=omega) only [Ad,Ak,amL,sE,sF,↓reduceIte])
          all_goals first | omega | exact Mu hcl (by rw [o1]; rfl) (by rw [o5]; rfl) (by rw [o6]; rfl) (by rw [o7]; rfl) g0 g1 g2 g3 | exact E3 | exact ⟨by rw [o1]; rfl,E3⟩ | (rw [hs5,hs6]; exact Akb g1 g2 g3 hb (hfr0 37)) | (omega)
       ·first
        | exact Bool.noConfusion h
        |skip
         try simp only [decide_eq_false_iff_not] at h
         refine Bg ?_
         try simp (disch:=omega) only [o5,o6,o7,hl,hfr0,Ad,Ak,hpl0,h5,h6,htk,hpc5,hpc6,Dg,G1,Ci,Fv,amL,amT,sA,sB,sC,sD,sE,sF,sG,sH,sI,sJ,sK,sL,sM,sN,sO,↓reduceIte,reduceCtorEq]
         rw [Eb,Eb,Vh,Ei,Ci]
         have e12:k=12:=by omega
         subst e12
         rw [X1 h5' hpl0,X1 h6' hpl0]
         have eb:Hc a ⟨fst,lo,hi⟩ x=(⟨false,List.zipWith min lo' d,List.zipWith max hi' d⟩,none):=by rw [Hc,← hd,Gg]; dsimp only; rw [hlo,hhi]
         rw [eb]
         exact Aoe (by rw [hkb]) hcl o1 (by rw [o5]; rfl) (by rw [o6]; rfl) (by rw [o7]; rfl) g0 g1 g2 g3
    ·first
     | exact Bool.noConfusion h
     |skip
      try simp only [Bool.not_eq_true',decide_eq_true_eq,decide_eq_false_iff_not,Bool.and_eq_true,Bool.not_eq_false',Bool.not_not,decide_not,Bool.not_true,Bool.not_false] at h
      refine Aj ?_
      refine hK1 _ ?_
      refine Aa fun K9 hK9=>?_
      refine Ac ?_
      simp (disch:=omega) only [Ad,Ak,hpl0,htk,amL,amT,sA,sF,↓reduceIte]
      refine hK9 _ ?_
      refine Ai ?_
      skip
      refine A7 (α:=Nat) (fun k=>⟨T [(1,.ptr n1 0),(5,.ptr n5 0),(6,.ptr n6 0),(7,.ptr n7 0),(26,.agg (d.map i64)),(27,i64 k)],F30 os n5 n6 n7 bdL (.loop kb (Wb n1 n5 n6 n7)) (Gw min lo' d k) (Gw max hi' d k)⟩) (fun k=>12 - k) (fun k=>k≤12) 0 ?_ ?_ (fun k hx10 K10 hK10=>?_)
      · simp
      · refine Dz ?_ ?_ ?_ ?_ <;> (try simp (disch:=omega) only [Ad,Ak,amL,sF,↓reduceIte]); all_goals first | exact Mu hcl (by rw [o1]; rfl) (by rw [o5]; rfl) (by rw [o6]; rfl) (by rw [o7]; rfl) g0 g1 g2 g3 | (refine ⟨?_,?_,?_,?_⟩ <;> simp (disch:=omega) only [Ad,Ak,o1,Option.isSome_some]; done) | (refine ⟨?_,?_,?_,?_,?_⟩ <;> simp (disch:=omega) only [Ad,Ak,o1,Option.isSome_some]; done) | exact E3 | exact ⟨by rw [o1]; rfl,E3⟩ | (rw [Se,Se]; have e1:=Anb hlo (by assumption); have e2:=Anb hhi (by assumption); rw [e1,e2]; exact Adt g1 g2 g3 hb (hfr0 9)) | (rw [Se,Se]; have e0:fst=false:=(by assumption); have e1:=Al6 hlo e0; have e2:=Al6 hhi e0; rw [e1,e2]; exact Ai9 g1 g2 g3 hb o5 o6 (by rw [o7,e0]) (hfr0 9)) | (omega)
      skip
      refine Aa fun K11 hK11=>?_
      refine Ac ?_
      simp (disch:=omega) only [amL,amT,sA,sF,↓reduceIte]
      refine hK11 _ ?_
      refine Aa fun K12 hK12=>?_
      refine Ag rfl (fun h=>?_) (fun h=>?_)
      ·first
       | exact Bool.noConfusion h
       |skip
        try simp only [decide_eq_true_eq] at h
        refine Aj ?_
        refine hK12 _ ?_
        refine Aa fun K13 hK13=>?_
        refine Ai ?_
        refine Aa fun K14 hK14=>?_
        refine Ac ?_
        have hk:k < 12:=by omega
        have hix:R0 (fun e=>(Ab Try.prog e).sz) (fun e=>(Ab Try.prog e).agg) (.agg (d.map i64)) (.arr 12 3) (i64 (k:Int))=some (.pure (i64 (d.getD k 0))):=Wz (by simp only [ty3]) (by simp only [ty3]; rfl) hpl0 hk
        simp (disch:=omega) only [hix,G1,amL,amT,sA,sF,↓reduceIte]
        refine hK14 _ ?_
        refine Ka [.sto [6,39] 44,.sto [40] 44,.sto [41,42] 44] (by kernel_rfl) (by kernel_rfl) ?_
        have hs5:(Gw min lo' d k).set k (V9 (lo'.getD k 0) [d.getD k 0])=Gw min lo' d (k+1):=S4 (f:=min) h5' hpl0 hk
        have hs6:(Gw max hi' d k).set k (if hi'.getD k 0 < d.getD k 0 then d.getD k 0 else hi'.getD k 0)=Gw max hi' d (k+1):=by
          rw [← S4 (f:=max) h6' hpl0 hk]; congr 1; rw [Int.max_def]; split <;> split <;> omega
        have m5:=Sy (f:=min) (k:=k) h5' hpl0
        have m6:=Sy (f:=max) (k:=k) h6' hpl0
        have dk5:=H0 (ds:=Gw min lo' d k) (len:=12) (k:=k) hk (by omega)
        have dk6:=H0 (ds:=Gw max hi' d k) (len:=12) (k:=k) hk (by omega)
        rw [List.take_of_length_le (by omega),S8 h5' hpl0 hk] at dk5
        rw [List.take_of_length_le (by omega),S8 h6' hpl0 hk] at dk6
        simp (disch:=omega) only [dk5,hfr0,Ad,Ak,amL,amT,sA,sB,sE,sF,sG,sH,↓reduceIte,reduceCtorEq]
        repeat' first | (refine Am (by kernel_rfl) rfl (c71 [_,_] (by simp) (by simp)) (by first | exact .inl rfl | exact .inr (.inl rfl)) ?_ ; simp (disch:=omega) only [m5,m6,dk6,Aeb,Ad,Ak,amL,amT,sA,sE,sF,sH,↓reduceIte])
        refine ⟨by simp [Cf.ok,Lj,AV.known,AV.clean,T]; omega,?_⟩
        all_goals
         skip
         refine hK13 _ ?_
         refine Ac ?_
         simp (disch:=omega) only [amL,amT,sA,sF,↓reduceIte]
         refine hK10 (k+1) _ ?_ ?_ (Dz ?_ ?_ ?_ ?_)
         all_goals (try simp (disch:=omega) only [Ad,Ak,amL,sE,sF,↓reduceIte])
         all_goals first | omega | exact Mu hcl (by rw [o1]; rfl) (by rw [o5]; rfl) (by rw [o6]; rfl) (by rw [o7]; rfl) g0 g1 g2 g3 | exact E3 | exact ⟨by rw [o1]; rfl,E3⟩ | (rw [hs5,hs6]; exact Akb g1 g2 g3 hb (hfr0 37)) | (omega)
      ·first
       | exact Bool.noConfusion h
       |skip
        try simp only [decide_eq_false_iff_not] at h
        refine Bg ?_
        try simp (disch:=omega) only [o5,o6,o7,hl,hfr0,Ad,Ak,hpl0,h5,h6,htk,hpc5,hpc6,Dg,G1,Ci,Fv,amL,amT,sA,sB,sC,sD,sE,sF,sG,sH,sI,sJ,sK,sL,sM,sN,sO,↓reduceIte,reduceCtorEq]
        rw [Eb,Eb,Vh,Ei,Ci]
        have e12:k=12:=by omega
        subst e12
        rw [X1 h5' hpl0,X1 h6' hpl0]
        have eb:Hc a ⟨fst,lo,hi⟩ x=(⟨false,List.zipWith min lo' d,List.zipWith max hi' d⟩,none):=by rw [Hc,← hd,Gg]; dsimp only; rw [hlo,hhi]
        rw [eb]
        exact Aoe (by rw [hkb]) hcl o1 (by rw [o5]; rfl) (by rw [o6]; rfl) (by rw [o7]; rfl) g0 g1 g2 g3
end AM.Dty
end
/- The program: the bounds of debts, told. -/
section
namespace AM.Dty
open Go AM AM.Duty AM.Try Go.Proofs
open Nat renaming reduceLT→sA,reduceAdd→sB,reduceMul→sC,reduceSub→sD,reduceLeDiff→sE,reduceEqDiff→sF,reduceBEq→sG
open Int renaming reduceAdd→sH,reduceSub→sI,reduceMul→sJ,reduceLT→sK,reduceLE→sL,reduceNeg→sM,reduceToNat→sN,reduceEq→sO
set_option maxRecDepth 100000
set_option maxHeartbeats 8000000
theorem Aec {ask:Bool} {rate day:Int} (hr:0≤rate∧rate≤100):∀ (es:List Bo) (t:List Int) (w v:Int × Int) (b c:Int),(∀ e ∈ es,-100000≤e.pence∧e.pence≤100000)→(∀ u ∈ t,0≤u∧u≤50)→0≤b→0≤c→Hk ask rate day es t w=some v→inP b c w→inP (b+100000 * (es.length:Int)) (c+50 * (es.length:Int)) v
  | [],t,w,v,b,c,_,_,hb,hc,h,hw=>by
    cases t <;> (simp only [Hk,Option.some.injEq] at h; subst h; simpa using hw)
  | e :: es,[],w,v,b,c,_,_,hb,hc,h,hw=>by
    simp only [Hk,Option.some.injEq] at h; subst h
    exact F5 hw (by omega) (by omega)
  | e :: es,u :: t,w,v,b,c,he,hu,hb,hc,h,hw=>by
    simp only [Hk] at h
    split at h
    · have hu1:=hu u (by simp)
      have h1:=Z5 (ask:=ask) (day:=day) hw (Jx hu1.1 hu1.2 hr.1 hr.2) hu1 (he e (by simp))
      have h2:=Aec hr es t _ v _ _ (fun x hx=>he x (by simp [hx])) (fun x hx=>hu x (by simp [hx])) (by omega) (by omega) h h1
      refine F5 h2 ?_ ?_ <;> simp only [List.length_cons] <;> omega
    · cases h
theorem Akt {t:List Int} {lo hi:Int} (h:∀ j,j < t.length→lo≤t.getD j 0∧t.getD j 0≤hi):∀ u ∈ t,lo≤u∧u≤hi:=fun u hu=>by
  obtain ⟨j,hj,rfl⟩:=List.getElem_of_mem hu
  have:=h j hj
  simpa [List.getD,hj] using this
theorem Zs {a:Acc} {t paid:List Int} {ask:Bool} (hf:Akl a t):∀ (c day:Nat) (w:Int × Int),c+day≤12→inP (bnd day) (600 * (day:Int)) w→∀ n ∈ (D4 a t paid ask c day w).1,-100000000000≤n∧n≤100000000000
  | 0,day,w,hc,hw,n,hn=>by simp [D4] at hn
  | c+1,day,w,hc,hw,n,hn=>by
    rw [Jc] at hn
    have hb:=Ack day
    cases hd:Hk ask (B5 day a.rates 0) day a.entries t (N1 a w) with
    | none=>rw [hd] at hn; cases hn
    | some v=>
      rw [hd] at hn
      have hl:=hf.lenE
      have he:∀ e ∈ a.entries,-100000≤e.pence∧e.pence≤100000:=fun e he=>by
        obtain ⟨j,hj,rfl⟩:=List.getElem_of_mem he
        have:=(hf.ent j hj).2.1
        simpa [A9,List.getD,hj] using this
      have h1:=Aec (hf.rate day) a.entries t _ v _ _ he (Akt hf.unit) (by omega) (by omega) hd (Acr hf.int0 hf.int1 hw)
      have h2:=Ajl (paid:=paid) (day:=day) hf.purse0 hf.purse1 h1
      have h3:inP (bnd (day+1)) (600 * ((day+1:Nat):Int)) (Fg a paid day v):=F5 h2 (by simp only [bnd]; omega) (by omega)
      simp only [List.mem_cons] at hn
      rcases hn with rfl | hn
      · have:=Aj3 (d:=day+1) (by omega)
        unfold inP at h3; omega
      · exact Zs hf c (day+1) _ (by omega) h3 n hn
theorem Alb {a:Acc} {t paid:List Int} {ask:Bool} (hf:Akl a t):∀ n ∈ (Bq a t paid ask).1,-100000000000≤n∧n≤100000000000:=
  Zs hf _ 0 (0,0) (by have:=hf.last1; omega) (by simp [inP,bnd])
def N7 (l:List Int):Prop:=l.length=12∧∀ n ∈ l,-100000000000≤n∧n≤100000000000
theorem Agy {l:List Int} (hl:l.length≤12) (h:∀ n ∈ l,-100000000000≤n∧n≤100000000000):N7 (pad l):=by
  refine ⟨Fa hl,fun n hn=>?_⟩
  simp only [pad,List.mem_append] at hn
  rcases hn with hn | hn
  · exact h n hn
  · have:=List.eq_of_mem_replicate hn; omega
theorem Y8 {l:List Int} (h:N7 l):l.all inR=true:=by
  rw [List.all_eq_true]
  intro n hn
  have:=h.2 n hn
  simp only [inR,Bool.and_eq_true,decide_eq_true_eq]; omega
theorem Af4 {f:Int→Int→Int} (hf:∀ x y,f x y=x∨f x y=y) {l m:List Int} (hl:N7 l) (hm:N7 m):N7 (List.zipWith f l m):=by
  refine ⟨by simp [hl.1,hm.1],fun n hn=>?_⟩
  obtain ⟨i,hi,rfl⟩:=List.getElem_of_mem hn
  simp only [List.getElem_zipWith]
  simp only [List.length_zipWith] at hi
  rcases hf (l[i]'(by omega)) (m[i]'(by omega)) with h | h <;> rw [h]
  · exact hl.2 _ (List.getElem_mem _)
  · exact hm.2 _ (List.getElem_mem _)
def Dv (a:Acc) (s:B30) (l:List (List Int)):B30:=l.foldl (fun s x=>Gg s (pad (Bq a x [] true).1)) s
theorem Ui {a:Acc}:∀ (l:List (List Int)) (s:B30),(∀ x ∈ l,N7 (pad (Bq a x [] true).1))→N7 s.lo→N7 s.hi→N7 (Dv a s l).lo∧N7 (Dv a s l).hi
  | [],s,_,h1,h2=>⟨h1,h2⟩
  | x :: l,s,h,h1,h2=>by
    have hx:=h x (by simp)
    refine Ui l (Gg s (pad (Bq a x [] true).1)) (fun y hy=>h y (by simp [hy])) ?_ ?_ <;> (simp only [Gg]; refine Af4 (fun x y=>?_) ?_ hx)
    · rw [Int.min_def]; split <;> simp
    · split <;> assumption
    · rw [Int.max_def]; split <;> simp
    · split <;> assumption
theorem Uq {a:Acc}:∀ (l:List (List Int)) (s:B30),(Dv a s l).first=(s.first&&l.isEmpty)
  | [],s=>by simp [Dv]
  | x :: l,s=>by
    show (Dv a (Gg s _) l).first=_
    rw [Uq l]; simp [Gg]
theorem Adw {a:Acc}:∀ (l:List (List Int)) (s:B30),(Ca (fun (s:B30 × Option Code) x=>(Hc a s.1 x,(Hc a s.1 x).2.isNone)) (s,none) l).1=(Dv a s l,none)
  | [],s=>rfl
  | x :: l,s=>by
    show (if (Hc a s x).2.isNone=true then Ca _ (Hc a s x) l else _).1=_
    rw [if_pos (show (Hc a s x).2.isNone=true from rfl)]
    exact Adw l (Hc a s x).1
theorem W7 {a:Acc} (hf:Aq a=0) {x:List Int} (hx:x ∈ C0 a):Akl a x:=by
  obtain ⟨y,e,hy⟩:=Ly _ _ _ (List.mem_filter.1 hx).1
  rw [List.nil_append] at e
  subst e
  exact Ad7 hf hy
def z12:List Int:=[0,0,0,0,0,0,0,0,0,0,0,0]
def Ta (a:Acc):List (Int × Int):=(List.range (a.last+1).toNat).map fun k=>(((Dv a ⟨true,z12,z12⟩ (C0 a)).lo).getD k 0,((Dv a ⟨true,z12,z12⟩ (C0 a)).hi).getD k 0)
def boundsA (a:Acc):AV:=
  if Aq a=0 then if (C0 a).isEmpty=true then .tup [.p (.val (.slice none 0 0)),i64 9] else .tup [.p (.sl ((Ta a).map fun p=>[iv p.1,iv p.2])),i64 0]
  else .tup [.p (.val (.slice none 0 0)),i64 (Aq a)]
theorem Ze (a:Acc):(boundsA a).isP=true:=by
  unfold boundsA; split
  · split <;> rfl
  · rfl
theorem Apc:Nf Try.prog 181 12:=Nn (by kernel_rfl)
theorem Aqk {K:St→Prop} {t:Nat→AV} {os:Nat→Option AO} {n:Nat} {X:Option AO} (h:∀ os3,os3=upd os n X→K ⟨t,os3⟩):K ⟨t,upd os n X⟩:=h _ rfl
def U1 (lo hi:List Int) (n:Nat):List (List PV):=(List.range n).map fun k=>[iv (lo.getD k 0),iv (hi.getD k 0)]
def Jg (lo hi:List Int) (n k:Nat):List (List PV):=(U1 lo hi n).take k++List.replicate (n - k) [iv 0,iv 0]
theorem Amz {r:RB} {N:Nat} {s:St} {K:St→Prop} {d:Nat} {ty:TypeId} {pos:String} {after:Array Edge} {g:Option (Nat × Bool)} {l c:Operand}:EO Try.prog r N ⟨some d,.makeSlice 80 l c,ty,pos,after,g⟩ s K=EOp r.b N (some d) s K (fMk 2 16 [iv 0,iv 0] (r.b+d) (ev s.t l) (ev s.t c)):=
  An8 (e:=90) (z:=[.int .i64 0,.int .i64 0]) (by rw [Avd]) (by rw [Aje]) (by rw [Aje]) (by rw [Aje]) (by decide) rfl (by decide) (by rw [Aje]; rfl)
theorem E4 {lo hi:List Int} {n:Nat}:(U1 lo hi n).length=n:=by simp [U1]
theorem M5 {lo hi:List Int} {n k:Nat} (h:k≤n):(Jg lo hi n k).length=n:=by simp [Jg,E4]; omega
theorem Aiw {lo hi:List Int} {n k:Nat} (h:k < n):(Jg lo hi n k).getD k []=[iv 0,iv 0]:=by
  have e:((U1 lo hi n).take k).length=k:=by rw [List.length_take,E4]; omega
  simp only [Jg,List.getD]
  rw [List.getElem?_append_right (by omega),e,Nat.sub_self]
  simp [show 0 < n - k by omega]
theorem Mr {lo hi:List Int} {n k:Nat} (h:k < n):(Jg lo hi n k).set k [iv (lo.getD k 0),iv (hi.getD k 0)]=Jg lo hi n (k+1):=by
  have e:((U1 lo hi n).take k).length=k:=by rw [List.length_take,E4]; omega
  unfold Jg
  rw [List.set_append_right _ _ (by omega),e,Nat.sub_self,show n - k=(n - (k+1))+1 by omega,List.replicate_succ,List.set_cons_zero,List.take_succ_eq_append_getElem (by rw [E4]; exact h)]
  simp [U1]
theorem Ahc {lo hi:List Int} {n k:Nat} (h:k < n):(Jg lo hi n (k+1)).getD k []=[iv (lo.getD k 0),iv (hi.getD k 0)]:=by
  rw [← Mr h,List.getD,List.getElem?_set_self (by rw [M5 (by omega)]; exact h)]; rfl
theorem W4 {lo hi:List Int} {n k:Nat} (h:k < n) (e:lo=hi):(Jg lo hi n (k+1)).set k [iv (lo.getD k 0),iv (lo.getD k 0)]=Jg lo hi n (k+1):=by
  subst e
  rw [← Mr h,List.set_set]
theorem Aqm {lo hi:List Int} {n:Nat}:Jg lo hi n 0=List.replicate n [iv 0,iv 0]:=by simp [Jg]
theorem Abt {lo hi:List Int} {n:Nat}:Jg lo hi n n=U1 lo hi n:=by
  unfold Jg; rw [List.take_of_length_le (by rw [E4]; exact Nat.le_refl _)]; simp
theorem L3:∀ l:List Int,Ck (l.map i64)=some l
  | []=>rfl
  | x :: l=>by show (Ck (l.map i64)).map (x :: ·)=_; rw [L3 l]; rfl
theorem c30 (a:Acc) (hl1:a.rates.length < 1000000) (hl2:a.entries.length < 1000000) (hin:∀ e ∈ a.entries,inR e.lo=true∧inR e.hi=true):Bf Try.prog 21 [avA a] (boundsA a):=by
  refine Ro (v:=[71]) (q:=[]) (N:=79) (rs:=[.tmp 2,.tmp 3]) Try.func21 rfl rfl rfl rfl (Ze a) ?_
  obtain ⟨A,B,hcode⟩:∃ A B,(Try.f21.body.bind Fs)=some (A,B):=⟨_,_,rfl⟩
  refine Br fun K1 hK1=>?_
  refine Ac ?_
  simp (disch:=omega) only [amL,sA,↓reduceIte]
  refine hK1 _ ?_
  refine Br fun K2 hK2=>?_
  refine Aa fun K3 hK3=>?_
  refine Ac ?_
  simp (disch:=omega) only [amL,amT,sA,sB,sF,sG,↓reduceIte]
  repeat' first | (refine Am (by kernel_rfl) rfl (c25 a hl1 hl2 hin) (by first | exact .inl rfl | exact .inr (.inl rfl)) ?_ ; simp (disch:=omega) only [amL,sA,↓reduceIte])
  refine hK3 _ ?_
  refine Aa fun K4 hK4=>?_
  refine Ac ?_
  simp (disch:=omega) only [ne_eq,amL,amT,sA,↓reduceIte]
  refine hK4 _ ?_
  refine Ag rfl (fun h=>?_) (fun h=>?_)
  ·first
   | exact Bool.noConfusion h
   |skip
    try simp only [Bool.not_eq_true',decide_eq_false_iff_not,decide_not] at h
    refine Aa fun K5 hK5=>?_
    refine Ac ?_
    simp (disch:=omega) only [amL,sA,sF,↓reduceIte]
    refine hK5 _ ?_
    refine Ae ?_
    try simp (disch:=omega) only [amL,sF,↓reduceIte]
    first | (rw [boundsA,if_neg (by assumption)]; done) | (have hb0:b0=true:=(by assumption); rw [boundsA,if_pos hf,if_pos (by rw [hb0] at hfi; simpa using hfi.symm)]; done) | (have ek:k=(a.last+1).toNat:=(by omega); have hb0:b0=false:=(by assumption); rw [ek,Abt,if_pos (by rw [E4]; exact Nat.le_refl _),List.take_of_length_le (by rw [E4]; exact Nat.le_refl _),boundsA,if_pos hf,if_neg (by rw [hb0] at hfi; simpa using hfi),hbl,List.map_map]; rfl) | (omega)
  ·first
   | exact Bool.noConfusion h
   |skip
    try simp only [decide_eq_true_eq,Bool.not_eq_false',decide_not] at h
    refine Aj ?_
    refine hK2 _ ?_
    refine Br fun K6 hK6=>?_
    refine Ac ?_
    simp (disch:=omega) only [amL,amT,sA,sB,sF,↓reduceIte]
    refine hK6 _ ?_
    refine Br fun K7 hK7=>?_
    refine Ac ?_
    simp (disch:=omega) only [amL,amT,sA,sF,↓reduceIte]
    refine hK7 _ ?_
    refine Pc fun K8 hK8=>?_
    refine Br fun K9 hK9=>?_
    refine Ac ?_
    simp (disch:=omega) only [amL,amT,sA,sB,sF,↓reduceIte]
    refine Be [(1,.ptr 1 0),(5,.ptr 5 0),(6,.ptr 6 0),(7,.ptr 7 0)] (by decide) (c70 (bd:=79)) (Dj rfl) (by decide) (fun res os2 hR hcl2 hlv2=>?_)
    obtain ⟨rfl,rfl⟩:=hR
    simp (disch:=omega) only [amL,sB,sF,↓reduceIte]
    refine hK9 _ ?_
    refine Lq ?_
    have hf:Aq a=0:=by omega
    have hRd:=Aif hf (n1:=1) (n5:=5) (n6:=6) (n7:=7) (bdL:=81) (by decide) (by decide) (by decide) (by decide) hcode
    have hc:=c90 (rr:=0) hRd.yields rfl hf (nA:=80) (s:=(⟨true,z12,z12⟩,none)) (bd:=82) (os:=O [(81,.loop (stK ⟨79,[21,22],A,B,.ready,none⟩ none) (Wb 1 5 6 7)),(80,.cells (cA a)),(7,.cells [bl true]),(7,.cells [bl false]),(6,.cells (z12.map i64)),(5,.cells (z12.map i64)),(1,.cells (cA a))]) (by decide) rfl ⟨⟨rfl,rfl⟩,rfl⟩ ⟨⟨rfl,rfl,rfl,rfl⟩,rfl⟩ F4.none (fun _ _=>trivial)
    cases (show some (_,_)=some (A,B) from hcode)
    refine H6 (bd:=81) (tm:=Wb 1 5 6 7) rfl (Dj rfl) (by decide) rfl (by kernel_rfl) (fun i=>Lr (by simp (disch:=omega) only [amL,sF,↓reduceIte]) i) (Ace (by simp (disch:=omega) only [amL,sF,↓reduceIte])) hc (fun res os2 hR hcl2=>?_)
    obtain ⟨rfl,hI2,hfr2⟩:=hR
    rw [Adw] at hI2
    have hsm:=Ui (a:=a) (C0 a) ⟨true,z12,z12⟩ (fun x hx=>Agy (Ke (W7 hf hx).last1) (Alb (W7 hf hx))) ⟨rfl,by decide⟩ ⟨rfl,by decide⟩
    have hfi:=Uq (a:=a) (C0 a) ⟨true,z12,z12⟩
    have hbl:Ta a=(List.range (a.last+1).toNat).map fun k=>(((Dv a ⟨true,z12,z12⟩ (C0 a)).lo).getD k 0,((Dv a ⟨true,z12,z12⟩ (C0 a)).hi).getD k 0):=rfl
    generalize hb:Dv a ⟨true,z12,z12⟩ (C0 a)=b at hI2 hsm hfi hbl
    obtain ⟨b0,lo,hi⟩:=b
    obtain ⟨⟨q1,q5,q6,q7⟩,q8⟩:=hI2
    dsimp only at q5 q6 q7 hsm hfi hbl
    have q51:os2 51=none:=hfr2 51 (by decide)
    refine ⟨_,q8,by simp [],?_⟩
    show Jl 0 _ .normal _
    simp only [Ei,Hm]
    refine Aqk fun os3 h3=>?_
    have hcl3:(Hp os3).closed:=by
      rw [h3]; refine Bc hcl2 ?_
      rw [N3]; simp (disch:=omega) only [G0,Pq,Bz,Ad,q1,q5,q6,q7,Option.isSome_some,and_self]
    have r1:os3 1=some (.cells (cA a)):=by rw [h3,Ad (by decide),q1]
    have r5:os3 5=some (.cells (lo.map i64)):=by rw [h3,Ad (by decide),q5]
    have r6:os3 6=some (.cells (hi.map i64)):=by rw [h3,Ad (by decide),q6]
    have r7:os3 7=some (.cells [bl b0]):=by rw [h3,Ad (by decide),q7]
    have r51:os3 51=none:=by rw [h3,Ad (by decide),q51]
    clear h3
    refine hK8 _ ?_
    refine Br fun K10 hK10=>?_
    refine Aa fun K11 hK11=>?_
    refine Ac ?_
    simp (disch:=omega) only [r7,amL,amT,sA,sF,↓reduceIte]
    refine hK11 _ ?_
    refine Ag rfl (fun h=>?_) (fun h=>?_)
    ·first
     | exact Bool.noConfusion h
     |skip
      try simp only [Bool.not_eq_true',decide_eq_true_eq,decide_eq_false_iff_not,Bool.and_eq_true,Bool.not_eq_false',Bool.not_not,decide_not,Bool.not_true,Bool.not_false] at h
      refine Aa fun K12 hK12=>?_
      refine Ac ?_
      simp (disch:=omega) only [amL,sA]
      refine hK12 _ ?_
      refine Ae ?_
      try simp (disch:=omega) only [amL,sF,↓reduceIte]
      first | (rw [boundsA,if_neg (by assumption)]; done) | (have hb0:b0=true:=(by assumption); rw [boundsA,if_pos hf,if_pos (by rw [hb0] at hfi; simpa using hfi.symm)]; done) | (have ek:k=(a.last+1).toNat:=(by omega); have hb0:b0=false:=(by assumption); rw [ek,Abt,if_pos (by rw [E4]; exact Nat.le_refl _),List.take_of_length_le (by rw [E4]; exact Nat.le_refl _),boundsA,if_pos hf,if_neg (by rw [hb0] at hfi; simpa using hfi),hbl,List.map_map]; rfl) | (omega)
    ·first
     | exact Bool.noConfusion h
     |skip
      try simp only [Bool.not_eq_true',decide_eq_true_eq,decide_eq_false_iff_not,Bool.and_eq_true,Bool.not_eq_false',Bool.not_not,decide_not,Bool.not_true,Bool.not_false] at h
      refine Aj ?_
      refine hK10 _ ?_
      refine Br fun K13 hK13=>?_
      refine Ac ?_
      obtain ⟨_,_,z3,_,_,_⟩:=Ez hf
      simp only [inB,Bool.and_eq_true,decide_eq_true_eq] at z3
      simp (disch:=omega) only [r1,r51,Amz,Xv,amL,amT,sA,sF,sH,↓reduceIte,reduceCtorEq]
      refine hK13 _ ?_
      refine Br fun K14 hK14=>?_
      refine Aa fun K15 hK15=>?_
      refine Ac ?_
      simp (disch:=omega) only [amL,amT,sA,↓reduceIte]
      refine hK15 _ ?_
      refine Ai ?_
      skip
      refine A7 (α:=Nat) (fun k=>⟨T [(1,.ptr 1 0),(5,.ptr 5 0),(6,.ptr 6 0),(7,.ptr 7 0),(12,.own 51 (a.last+1).toNat),(53,i64 ((a.last+1).toNat:Int)),(54,i64 k)],upd os3 51 (some (.arr 2 (Jg lo hi (a.last+1).toNat k)))⟩) (fun k=>(a.last+1).toNat - k) (fun k=>k≤(a.last+1).toNat) 0 ?_ ?_ (fun k hx16 K16 hK16=>?_)
      · simp
      · refine Dz ?_ ?_ ?_ ?_ <;> (try simp (disch:=omega) only [Ad,amL,sF,↓reduceIte]); all_goals first | (rw [Aqm]; exact Sub.refl _) | (rw [r1,r5,r6,r7]; exact ⟨rfl,rfl,rfl,rfl⟩) | exact Bc hcl3 (by rw [Gc]; trivial) | (omega)
      skip
      refine Aa fun K17 hK17=>?_
      refine Ac ?_
      simp (disch:=omega) only [amL,amT,sA,sF,↓reduceIte]
      refine hK17 _ ?_
      refine Aa fun K18 hK18=>?_
      refine Ag rfl (fun h=>?_) (fun h=>?_)
      ·first
       | exact Bool.noConfusion h
       |skip
        try simp only [decide_eq_true_eq] at h
        refine Aj ?_
        refine hK18 _ ?_
        refine Aa fun K19 hK19=>?_
        refine Ai ?_
        refine Aa fun K20 hK20=>?_
        refine Ac ?_
        simp (disch:=omega) only [amL,sA,sF,↓reduceIte]
        refine hK20 _ ?_
        refine Aa fun K21 hK21=>?_
        refine Bk (by kernel_rfl) (by kernel_rfl) ?_
        have hk:k < (a.last+1).toNat:=by omega
        obtain ⟨_,_,z3,_,_,_⟩:=Ez hf
        simp only [inB,Bool.and_eq_true,decide_eq_true_eq] at z3
        have hl5:=hsm.1.1
        have hl6:=hsm.2.1
        have hfl:=M5 (lo:=lo) (hi:=hi) (n:=(a.last+1).toNat) (k:=k) (by omega)
        have hfg:=Aiw (lo:=lo) (hi:=hi) hk
        have dk5:=H0 (ds:=lo) (len:=12) (k:=k) (by omega) (by omega)
        have dk6:=H0 (ds:=hi) (len:=12) (k:=k) (by omega) (by omega)
        rw [List.take_of_length_le (by omega)] at dk5 dk6
        have tk5:List.take 12 (List.map i64 lo)=List.map i64 lo:=List.take_of_length_le (by simp; omega)
        have tk6:List.take 12 (List.map i64 hi)=List.map i64 hi:=List.take_of_length_le (by simp; omega)
        simp (disch:=omega) only [r5,r6,dk5,dk6,hfl,hfg,Ad,amL,amT,sA,sB,sE,sF,sH,↓reduceIte]
        refine hK21 _ ?_
        refine Aa fun K22 hK22=>?_
        refine Ac ?_
        have hcmp:Gd Try.prog .eql 181 (some lo) (some hi)=some (.pure (bl (decide (lo=hi)))):=Ht (by rw [hl5]; exact Apc) (by omega) (Y8 hsm.1) (Y8 hsm.2)
        simp (disch:=omega) only [r5,r6,L3,tk5,tk6,hcmp,Mr,Ad,amL,amT,sA,sF,↓reduceIte]
        refine hK22 _ ?_
        refine Ag rfl (fun h=>?_) (fun h=>?_)
        ·first
         | exact Bool.noConfusion h
         |skip
          try simp only [decide_eq_true_eq] at h
          refine Ac ?_
          have hfg2:=Ahc (lo:=lo) (hi:=hi) hk
          simp (disch:=omega) only [r5,dk5,M5,hfg2,Ad,amL,amT,sA,sB,sF,sH,↓reduceIte,reduceCtorEq]
          refine hK19 _ ?_
          refine Ac ?_
          simp (disch:=omega) only [amL,amT,sA,sF,↓reduceIte]
          refine hK16 (k+1) _ ?_ ?_ (Dz ?_ ?_ ?_ ?_)
          all_goals (try simp (disch:=omega) only [Ad,amL,sF,↓reduceIte])
          all_goals first | omega | (rw [C1]; exact Sub.refl _) | (rw [C1,Mr (by omega)]; exact Sub.refl _) | (rw [C1,C1,W4 (by omega) (by assumption)]; exact Sub.refl _) | (rw [r1,r5,r6,r7]; exact ⟨rfl,rfl,rfl,rfl⟩) | exact Bc hcl3 (by rw [Gc]; trivial) | (omega)
        ·first
         | exact Bool.noConfusion h
         |skip
          try simp only [decide_eq_false_iff_not] at h
          refine Aj ?_
          refine hK19 _ ?_
          refine Ac ?_
          simp (disch:=omega) only [amL,amT,sA,sF,↓reduceIte]
          refine hK16 (k+1) _ ?_ ?_ (Dz ?_ ?_ ?_ ?_)
          all_goals (try simp (disch:=omega) only [Ad,amL,sF,↓reduceIte])
          all_goals first | omega | (rw [C1]; exact Sub.refl _) | (rw [C1,Mr (by omega)]; exact Sub.refl _) | (rw [C1,C1,W4 (by omega) (by assumption)]; exact Sub.refl _) | (rw [r1,r5,r6,r7]; exact ⟨rfl,rfl,rfl,rfl⟩) | exact Bc hcl3 (by rw [Gc]; trivial) | (omega)
      ·first
       | exact Bool.noConfusion h
       |skip
        try simp only [decide_eq_false_iff_not] at h
        refine Bg ?_
        refine hK14 _ ?_
        refine Br fun K23 hK23=>?_
        refine Ac ?_
        simp (disch:=omega) only [amL,sA,sF,↓reduceIte]
        refine hK23 _ ?_
        refine Js ?_
        refine Ae ?_
        try simp (disch:=omega) only [amL,sF,↓reduceIte]
        first | (rw [boundsA,if_neg (by assumption)]; done) | (have hb0:b0=true:=(by assumption); rw [boundsA,if_pos hf,if_pos (by rw [hb0] at hfi; simpa using hfi.symm)]; done) | (have ek:k=(a.last+1).toNat:=(by omega); have hb0:b0=false:=(by assumption); rw [ek,Abt,if_pos (by rw [E4]; exact Nat.le_refl _),List.take_of_length_le (by rw [E4]; exact Nat.le_refl _),boundsA,if_pos hf,if_neg (by rw [hb0] at hfi; simpa using hfi),hbl,List.map_map]; rfl) | (omega)
end AM.Dty
end
/- Accounts of one day with charges alone: plain law. -/
section
namespace AM.Dty
open Go AM AM.Duty Go.Proofs
open Nat renaming reduceLT→sA,reduceAdd→sB,reduceMul→sC,reduceSub→sD,reduceLeDiff→sE,reduceEqDiff→sF,reduceBEq→sG
open Int renaming reduceAdd→sH,reduceSub→sI,reduceMul→sJ,reduceLT→sK,reduceLE→sL,reduceNeg→sM,reduceToNat→sN,reduceEq→sO
set_option maxHeartbeats 2000000
def chE (x:Int × Int):Bo:=⟨0,0,x.1,x.2,0⟩
def chA (bond p:Int) (l:List (Int × Int)):Acc:=⟨0,0,bond,0,[⟨0,p⟩],l.map chE⟩
def sumI:List Int→Int
 | []=>0
 | x :: l=>x+sumI l
theorem sumI_snoc:∀ (l:List Int) (x:Int),sumI (l++[x])=sumI l+x
 | [],x=>by simp [sumI]
 | y :: l,x=>by rw [List.cons_append,sumI,sumI,sumI_snoc l x]; omega
theorem Aiz {r:Int}:∀ (l:List (Int × Int)) (t:List Int) (w:Int × Int),t.length=l.length→Hk true r ((0:Nat):Int) (l.map chE) t w=some (w.1+r * sumI t,w.2+sumI t)
 | [],[],w,_=>by simp [Hk,sumI]
 | x :: l,u :: t,w,h=>by
  have e:Er true r ((0:Nat):Int) (chE x) u w=((w.1+u * r,w.2+u),true):=by
   unfold Er Nz chE; simp
  rw [List.map_cons,Hk,e,if_pos rfl,Aiz l t _ (by simpa using h),sumI,Int.mul_add,Int.mul_comm r u]
  simp only [Option.some.injEq,Prod.mk.injEq]; omega
 | [],_ :: _,_,h=>by simp at h
 | _ :: _,[],_,h=>by simp at h
theorem Yl {b p:Int} {l:List (Int × Int)} {t:List Int} (h:t.length=l.length):Bq (chA b p l) t [] true=([p * sumI t],true):=by
 have e1:B5 ((0:Nat):Int) (chA b p l).rates 0=p:=rfl
 have e2:N1 (chA b p l) (0,0)=(0,0):=rfl
 have e3:(chA b p l).entries=l.map chE:=rfl
 show D4 (chA b p l) t [] true 1 0 (0,0)=_
 rw [Jc,e1,e2,e3,Aiz l t _ h]
 simp [Fg,D4]
theorem Uo {f:Int→List (List Int)} {x:List Int}:∀ {c:Nat} {n:Int},x ∈ Ff f c n↔∃ k:Nat,k < c∧x ∈ f (n+k)
 | 0,n=>by simp [Ff]
 | c+1,n=>by
  simp only [Ff,List.mem_append,Uo (c:=c)]
  constructor
  ·rintro (h | ⟨k,h1,h2⟩)
   ·exact ⟨0,by omega,by simpa using h⟩
   ·exact ⟨k+1,by omega,by rw [show n+((k+1:Nat):Int)=n+1+k by omega]; exact h2⟩
  ·rintro ⟨k,h1,h2⟩
   cases k with
   | zero=>left; simpa using h2
   | succ k=>right; exact ⟨k,by omega,by rw [show n+1+(k:Int)=n+((k+1:Nat):Int) by omega]; exact h2⟩
theorem Xm:∀ {es:List Bo} {p x:List Int},x ∈ Cj es p↔∃ y,x=p++y∧Cu es y=true
 | [],p,x=>by
  simp only [Cj,List.mem_singleton]
  constructor
  ·rintro rfl; exact ⟨[],by simp,rfl⟩
  ·rintro ⟨y,rfl,h⟩
   cases y with
   | nil=>simp
   | cons u us=>cases h
 | e :: es,p,x=>by
  simp only [Cj,Uo,Xm (es:=es)]
  constructor
  ·rintro ⟨k,h1,y,rfl,h2⟩
   refine ⟨(e.lo+k) :: y,by simp,?_⟩
   simp only [Cu,inB,h2,Bool.and_true,Bool.and_eq_true,decide_eq_true_eq]
   omega
  ·rintro ⟨y,rfl,h⟩
   cases y with
   | nil=>cases h
   | cons u us=>
    simp only [Cu,inB,Bool.and_eq_true,decide_eq_true_eq] at h
    refine ⟨(u - e.lo).toNat,by omega,us,?_,h.2⟩
    rw [show e.lo+((u - e.lo).toNat:Int)=u by omega]
    simp
theorem L7 {l:List (Int × Int)} {x:List Int}:x ∈ Cj (l.map chE) []↔Cu (l.map chE) x=true:=by
 rw [Xm]; constructor
 ·rintro ⟨y,rfl,h⟩; simpa using h
 ·intro h; exact ⟨x,by simp,h⟩
theorem Ac4 {l:List (Int × Int)} {x:List Int} (h:Cu (l.map chE) x=true):x.length=l.length:=by
 have:=H4 h; simpa using this
theorem Nx {b p:Int} {l:List (Int × Int)}:C0 (chA b p l)=Cj (l.map chE) []:=by
 unfold C0
 refine List.filter_eq_self.2 fun x hx=>?_
 rw [Yl (Ac4 (L7.1 hx))]
theorem Aeo:∀ {l:List (Int × Int)},(∀ x ∈ l,x.1≤x.2)→Cu (l.map chE) (l.map (·.1))=true
 | [],_=>rfl
 | x :: l,h=>by
  have:=h x (by simp)
  simp only [List.map_cons,Cu,chE,inB,Bool.and_eq_true,decide_eq_true_eq]
  exact ⟨⟨Int.le_refl _,this⟩,Aeo fun y hy=>h y (by simp [hy])⟩
theorem Aoa:∀ {l:List (Int × Int)},(∀ x ∈ l,x.1≤x.2)→Cu (l.map chE) (l.map (·.2))=true
 | [],_=>rfl
 | x :: l,h=>by
  have:=h x (by simp)
  simp only [List.map_cons,Cu,chE,inB,Bool.and_eq_true,decide_eq_true_eq]
  exact ⟨⟨this,Int.le_refl _⟩,Aoa fun y hy=>h y (by simp [hy])⟩
theorem Xt:∀ {l:List (Int × Int)} {t:List Int},Cu (l.map chE) t=true→sumI (l.map (·.1))≤sumI t∧sumI t≤sumI (l.map (·.2))
 | [],[],_=>⟨Int.le_refl _,Int.le_refl _⟩
 | [],_ :: _,h=>by cases h
 | _ :: _,[],h=>by cases h
 | x :: l,u :: t,h=>by
  simp only [List.map_cons,Cu,chE,inB,Bool.and_eq_true,decide_eq_true_eq] at h
  have:=Xt (l:=l) h.2
  simp only [List.map_cons,sumI]; omega
theorem Vd {b p:Int} {l:List (Int × Int)} (h:Aq (chA b p l)=0):l.length≤8∧(0≤b∧b≤100000)∧∀ x ∈ l,0≤x.1∧x.1≤x.2∧x.2≤50:=by
 obtain ⟨_,z2,z3,_,z5,_⟩:=Ez h
 refine ⟨by simpa [chA] using z2,?_,fun x hx=>?_⟩
 ·simp only [Bool.and_eq_true] at z3
  have:=z3.2.2.1
  simp only [inB,Bool.and_eq_true,decide_eq_true_eq] at this
  exact this
 ·exact Gs (List.all_eq_true.1 z5 (chE x) (List.mem_map_of_mem hx))
theorem Aa5:∀ (ds:List Int) (x:Int),(ds.foldl min x=x∨ds.foldl min x ∈ ds)∧ds.foldl min x≤x∧∀ d ∈ ds,ds.foldl min x≤d
 | [],x=>⟨.inl rfl,Int.le_refl _,fun d h=>by cases h⟩
 | d :: ds,x=>by
  obtain ⟨h1,h2,h3⟩:=Aa5 ds (min x d)
  simp only [List.foldl_cons]
  generalize ds.foldl min (min x d)=m at *
  refine ⟨?_,by omega,fun y hy=>?_⟩
  ·rcases h1 with h | h
   ·by_cases e:x≤d
    ·left; omega
    ·right; rw [h,show min x d=d by omega]; simp
   ·right; simp [h]
  ·rcases List.mem_cons.1 hy with rfl | hy
   ·omega
   ·exact h3 y hy
theorem Aa4:∀ (ds:List Int) (x:Int),(ds.foldl max x=x∨ds.foldl max x ∈ ds)∧x≤ds.foldl max x∧∀ d ∈ ds,d≤ds.foldl max x
 | [],x=>⟨.inl rfl,Int.le_refl _,fun d h=>by cases h⟩
 | d :: ds,x=>by
  obtain ⟨h1,h2,h3⟩:=Aa4 ds (max x d)
  simp only [List.foldl_cons]
  generalize ds.foldl max (max x d)=m at *
  refine ⟨?_,by omega,fun y hy=>?_⟩
  ·rcases h1 with h | h
   ·by_cases e:d≤x
    ·left; omega
    ·right; rw [h,show max x d=d by omega]; simp
   ·right; simp [h]
  ·rcases List.mem_cons.1 hy with rfl | hy
   ·omega
   ·exact h3 y hy
theorem Aar {f:Int→Int→Int} {x y:List Int} {k:Nat} (hx:k < x.length) (hy:k < y.length):(List.zipWith f x y).getD k 0=f (x.getD k 0) (y.getD k 0):=by
 simp only [List.getD_eq_getElem?_getD,List.getElem?_zipWith,List.getElem?_eq_getElem hx,List.getElem?_eq_getElem hy,Option.getD_some]
theorem Aee {a:Acc} {k:Nat} (hk:k < 12) (g:List Int→Int):∀ (l:List (List Int)) (s:B30),s.first=false→s.lo.length=12→s.hi.length=12→(∀ t ∈ l,(pad (Bq a t [] true).1).length=12∧(pad (Bq a t [] true).1).getD k 0=g t) →
  ((Dv a s l).lo.getD k 0,(Dv a s l).hi.getD k 0)=((l.map g).foldl min (s.lo.getD k 0),(l.map g).foldl max (s.hi.getD k 0))
 | [],s,_,_,_,_=>rfl
 | t :: l,s,hf,h1,h2,h=>by
  obtain ⟨h3,h4⟩:=h t (by simp)
  show ((Dv a (Gg s (pad (Bq a t [] true).1)) l).lo.getD k 0,(Dv a (Gg s (pad (Bq a t [] true).1)) l).hi.getD k 0)=_
  have e1:(Gg s (pad (Bq a t [] true).1)).lo=List.zipWith min s.lo (pad (Bq a t [] true).1):=by simp [Gg,hf]
  have e2:(Gg s (pad (Bq a t [] true).1)).hi=List.zipWith max s.hi (pad (Bq a t [] true).1):=by simp [Gg,hf]
  have:=Aee hk g l (Gg s (pad (Bq a t [] true).1)) rfl (by rw [e1]; simp [h1,h3]) (by rw [e2]; simp [h2,h3]) fun x hx=>h x (by simp [hx])
  rw [e1,e2,Aar (by omega) (by omega),Aar (by omega) (by omega),h4] at this
  simpa using this
theorem Aqr {b p:Int} {l:List (Int × Int)} (hf:Aq (chA b p l)=0) (hp:0≤p):boundsA (chA b p l)=.tup [.p (.sl [[iv (p * sumI (l.map (·.1))),iv (p * sumI (l.map (·.2)))]]),i64 0]:=by
 obtain ⟨_,_,hx⟩:=Vd hf
 have hxx:∀ x ∈ l,x.1≤x.2:=fun x h=>(hx x h).2.1
 have hlo:=L7.2 (Aeo hxx)
 have hhi:=L7.2 (Aoa hxx)
 have hpd:∀ t ∈ Cj (l.map chE) [],(pad (Bq (chA b p l) t [] true).1).length=12∧(pad (Bq (chA b p l) t [] true).1).getD 0 0=p * sumI t:=fun t ht=>by
  rw [Yl (Ac4 (L7.1 ht))]; exact ⟨rfl,rfl⟩
 have hbd:∀ t ∈ Cj (l.map chE) [],p * sumI (l.map (·.1))≤p * sumI t∧p * sumI t≤p * sumI (l.map (·.2)):=fun t ht=>by
  obtain ⟨h1,h2⟩:=Xt (L7.1 ht)
  exact ⟨Int.mul_le_mul_of_nonneg_left h1 hp,Int.mul_le_mul_of_nonneg_left h2 hp⟩
 have hne:(C0 (chA b p l)).isEmpty=false:=by
  rw [Nx,List.isEmpty_eq_false_iff]; exact List.ne_nil_of_mem hlo
 have key:((Dv (chA b p l) ⟨true,z12,z12⟩ (C0 (chA b p l))).lo.getD 0 0,(Dv (chA b p l) ⟨true,z12,z12⟩ (C0 (chA b p l))).hi.getD 0 0)=(p * sumI (l.map (·.1)),p * sumI (l.map (·.2))):=by
  rw [Nx]
  generalize hL:Cj (l.map chE) []=L at *
  cases L with
  | nil=>cases hlo
  | cons t ls=>
   obtain ⟨h3,h4⟩:=hpd t (by simp)
   have e0:Dv (chA b p l) ⟨true,z12,z12⟩ (t :: ls)=Dv (chA b p l) ⟨false,pad (Bq (chA b p l) t [] true).1,pad (Bq (chA b p l) t [] true).1⟩ ls:=by
    show Dv _ (Gg ⟨true,z12,z12⟩ (pad (Bq (chA b p l) t [] true).1)) ls=_
    congr 1
    simp only [Gg,if_true,B30.mk.injEq,true_and]
    refine ⟨?_,?_⟩ <;> (refine List.ext_getElem? fun i=>?_; rw [List.getElem?_zipWith]; cases (pad (Bq (chA b p l) t [] true).1)[i]? <;> simp)
   rw [e0,Aee (by omega) (fun t=>p * sumI t) ls _ rfl h3 h3 (fun x hx=>hpd x (by simp [hx])),h4]
   obtain ⟨a1,a2,a3⟩:=Aa5 (ls.map fun t=>p * sumI t) (p * sumI t)
   obtain ⟨b1,b2,b3⟩:=Aa4 (ls.map fun t=>p * sumI t) (p * sumI t)
   generalize (ls.map fun t=>p * sumI t).foldl min (p * sumI t)=m1 at *
   generalize (ls.map fun t=>p * sumI t).foldl max (p * sumI t)=m2 at *
   have k1:∀ m,(m=p * sumI t∨m ∈ ls.map fun t=>p * sumI t)→p * sumI (l.map (·.1))≤m∧m≤p * sumI (l.map (·.2)):=fun m hm=>by
    rcases hm with rfl | hm
    ·exact hbd t (by simp)
    ·obtain ⟨y,hy,rfl⟩:=List.mem_map.1 hm
     exact hbd y (by simp [hy])
   have k2:∀ x ∈ t :: ls,m1≤p * sumI x∧p * sumI x≤m2:=fun x hx=>by
    rcases List.mem_cons.1 hx with rfl | hx
    ·exact ⟨a2,b2⟩
    ·exact ⟨a3 _ (List.mem_map.2 ⟨x,hx,rfl⟩),b3 _ (List.mem_map.2 ⟨x,hx,rfl⟩)⟩
   have g1:=k1 m1 a1
   have g2:=k1 m2 b1
   have g3:=k2 _ hlo
   have g4:=k2 _ hhi
   simp only [Prod.mk.injEq]; omega
 unfold boundsA
 rw [if_pos hf,if_neg (by rw [hne]; simp)]
 have e:Ta (chA b p l)=[(p * sumI (l.map (·.1)),p * sumI (l.map (·.2)))]:=by
  unfold Ta
  show [_]=_
  exact congrArg (fun x=>[x]) key
 rw [e]; rfl
theorem P2 {a:Acc}:∀ (L:List (List Int)) (s:Bool × Bool),M8 a s L=(s.1||L.any fun x=>Lg a (pad (Bq a x [] true).1),s.2||L.any fun x=>!Lg a (pad (Bq a x [] true).1))
 | [],s=>by simp [M8]
 | x :: L,s=>by
  show M8 a (Md a s x).1 L=_
  rw [P2 L]
  simp [Md,Bool.or_assoc]
theorem Zd {b p:Int} {l:List (Int × Int)} {x:List Int} (h:Cu (l.map chE) x=true):Lg (chA b p l) (pad (Bq (chA b p l) x [] true).1)=decide (p * sumI x≤b):=by
 rw [Yl (Ac4 h)]
 unfold Lg
 show ([p * sumI x].all fun n=>decide (n≤b))=_
 simp
theorem Aqq {b p:Int} {l:List (Int × Int)} (hf:Aq (chA b p l)=0) (hp:0≤p) (hb:p * sumI (l.map (·.2))≤b):G3 (chA b p l)=.tup [i64 1,i64 0]:=by
 obtain ⟨_,_,hx⟩:=Vd hf
 have hlo:=L7.2 (Aeo fun x h=>(hx x h).2.1)
 have h1:∀ x ∈ Cj (l.map chE) [],Lg (chA b p l) (pad (Bq (chA b p l) x [] true).1)=true:=fun x hx=>by
  have h:=L7.1 hx
  rw [Zd h,decide_eq_true_eq]
  have:=Int.mul_le_mul_of_nonneg_left (Xt h).2 hp
  omega
 have e:M8 (chA b p l) (false,false) (C0 (chA b p l))=(true,false):=by
  rw [P2,Nx]
  simp only [Bool.false_or,Prod.mk.injEq,List.any_eq_true,List.any_eq_false]
  exact ⟨⟨_,hlo,h1 _ hlo⟩,fun x hx=>by rw [h1 x hx]; simp⟩
 unfold G3
 rw [if_pos hf,e]
theorem Axj {b p:Int} {l:List (Int × Int)} (hf:Aq (chA b p l)=0) (hp:0≤p) (hb:b < p * sumI (l.map (·.1))):G3 (chA b p l)=.tup [i64 2,i64 0]:=by
 obtain ⟨_,_,hx⟩:=Vd hf
 have hlo:=L7.2 (Aeo fun x h=>(hx x h).2.1)
 have h1:∀ x ∈ Cj (l.map chE) [],Lg (chA b p l) (pad (Bq (chA b p l) x [] true).1)=false:=fun x hx=>by
  have h:=L7.1 hx
  rw [Zd h,decide_eq_false_iff_not]
  have:=Int.mul_le_mul_of_nonneg_left (Xt h).1 hp
  omega
 have e:M8 (chA b p l) (false,false) (C0 (chA b p l))=(false,true):=by
  rw [P2,Nx]
  simp only [Bool.false_or,Prod.mk.injEq,List.any_eq_true,List.any_eq_false]
  exact ⟨fun x hx=>by rw [h1 x hx]; simp,⟨_,hlo,by rw [h1 _ hlo]; rfl⟩⟩
 unfold G3
 rw [if_pos hf,e]
end AM.Dty
end
/- The law's example of a bond. -/
section
namespace AM.Try
open Go AM AM.Wort Go.Proofs
open Nat renaming reduceLT→sA,reduceAdd→sB,reduceMul→sC,reduceSub→sD,reduceLeDiff→sE,reduceEqDiff→sF,reduceBEq→sG
open Int renaming reduceAdd→sH,reduceSub→sI,reduceMul→sJ,reduceLT→sK,reduceLE→sL,reduceNeg→sM,reduceToNat→sN,reduceEq→sO
set_option maxRecDepth 100000
set_option maxHeartbeats 8000000
def exD:Sto:=⟨⟨[0,1],[0,60],[[1200,1200],[1200,1200]]⟩,20,[⟨1,⟨0,0⟩,⟨0,0⟩⟩]⟩
def exA:Duty.Acc:=⟨0,0,0,0,[⟨0,2⟩],[⟨0,0,12,12,0⟩]⟩
theorem Air:Ku exD:=At5 (by kernel_rfl)
theorem Yz {s:Sto} (h:Ku s):∀ c ∈ s.c,(0≤(D6 s c).lo∧(D6 s c).lo≤2000)∧0≤(D6 s c).hi∧(D6 s c).hi≤2000:=fun c hc=>by
  have:=Al0 h hc
  omega
theorem Ak6:Bf Try.prog 19 [avO exD] (.tup [avR ⟨24,24⟩,i64 0]):=by
  have h:=Agg Air (Yz Air)
  have e:(K0 exD (loL exD exD.c.length) exD.c.length,K0 exD (hiL exD exD.c.length) exD.c.length)=((24,24):Int × Int):=by kernel_rfl
  have e1:=congrArg (·.1) e
  have e2:=congrArg (·.2) e
  dsimp only at e1 e2
  rw [e1,e2] at h; exact h
theorem Ak1:Bf Try.prog 21 [Duty.avA exA] (.tup [.p (.sl [[iv 24,iv 24]]),i64 0]):=by
  have h:=Dty.c30 exA (by decide) (by decide) (by decide)
  have e:Dty.boundsA exA=.tup [.p (.sl [[iv 24,iv 24]]),i64 0]:=by kernel_rfl
  rw [e] at h; exact h
theorem Apg:Nf Try.prog 52 2:=Nn (by kernel_rfl)
theorem eqP {a b c d:Int} (h:([a,b]:List Int).all inR=true) (h2:([c,d]:List Int).all inR=true):Gd Try.prog .eql 52 (some [a,b]) (some [c,d])=some (.pure (bl (decide (([a,b]:List Int)=[c,d])))):=by
  rw [Ht (a:=[a,b]) (b:=[c,d]) Apg rfl h h2]
theorem eqD {a b c d:Int} (h:([a,b]:List Int).all inR=true) (h2:([c,d]:List Int).all inR=true):Gd Try.prog .eql 90 (some [a,b]) (some [c,d])=some (.pure (bl (decide (([a,b]:List Int)=[c,d])))):=by
  rw [Ht (a:=[a,b]) (b:=[c,d]) Dty.ints54 rfl h h2]
theorem dq1:Gd Try.prog .eql 52 (some [24,24]) (some [24,24])=some (.pure (bl true)):=by rw [eqP (by decide) (by decide),decide_eq_true rfl]
theorem dq2:Gd Try.prog .eql 90 (some [24,24]) (some [24,24])=some (.pure (bl true)):=by rw [eqD (by decide) (by decide),decide_eq_true rfl]
theorem Aqo:Bf Try.prog 17 [] (bl true):=by
  refine Au (v:=[]) (q:=[]) (N:=53) (rs:=[.tmp 0]) Try.func17 rfl rfl rfl rfl rfl ?_
  refine Af fun K1 hK1=>?_
  simp (disch:=omega) only [amL,sA]
  refine hK1 _ ?_
  refine Aa fun K2 hK2=>?_
  refine Rg [true,true,true,true,true] ?_
  simp (disch:=omega) only [Aav,Aae,Un,Pm,Jp,amL,amT,sA,sB,sE,sF,↓reduceIte,reduceCtorEq]
  refine hK2 _ ?_
  refine Aa fun K3 hK3=>?_
  refine Rg [false,false,true] ?_
  simp (disch:=omega) only [Aav,Aae,Adu,Un,Pm,Jp,amL,amT,sA,sB,sC,sE,sF,↓reduceIte,reduceCtorEq]
  repeat' first | (refine Am (by kernel_rfl) rfl (Ak6) (by first | exact .inl rfl | exact .inr (.inl rfl)) ?_ ; simp (disch:=omega) only [amL,amT,sA,sB,sF,↓reduceIte])
  refine hK3 _ ?_
  refine Aa fun K4 hK4=>?_
  refine Rg [false,true,false,false,true] ?_
  simp (disch:=omega) only [Aav,Aae,Adu,Un,Pm,Jp,amL,amT,sA,sB,sC,sE,sF,↓reduceIte,reduceCtorEq]
  repeat' first | (refine Am (by kernel_rfl) rfl (Ak1) (by first | exact .inl rfl | exact .inr (.inl rfl)) ?_ ; simp (disch:=omega) only [amL,sA,sF,↓reduceIte])
  refine hK4 _ ?_
  refine Af fun K5 hK5=>?_
  simp (disch:=omega) only [dq1,dq2,amL,amT,sA,sB,sE,sF,sH,sK,sL,sN,↓reduceIte]
  repeat' first | (refine B2 (fun h=>?_) (fun h=>?_) <;> simp (disch:=omega) only [h,Aei,Aek,Yk,Aav,Aae,Adu,Un,Pm,Jp,dq1,dq2,amL,amT,sA,sB,sC,sD,sE,sF,sG,sH,sI,sJ,sK,sL,sM,sN,sO,↓reduceIte,reduceCtorEq]) | (refine Ba (fun h=>?_) (fun h=>?_) <;> simp (disch:=omega) only [h,Aei,Aek,Yk,Aav,Aae,Adu,Un,Pm,Jp,dq1,dq2,amL,amT,sA,sB,sC,sD,sE,sF,sG,sH,sI,sJ,sK,sL,sM,sN,sO,↓reduceIte,reduceCtorEq])
  all_goals
   skip
   refine hK5 _ ?_
   refine Ae ?_
   try simp (disch:=omega) only [amL,↓reduceIte]
   all_goals first | rfl | trace_state
end AM.Try
end
/- The top law: the duty on a store is the debt of an account: what is owed. -/
section
namespace AM.Try
open Go AM AM.Wort Go.Proofs
open Nat renaming reduceLT→sA,reduceAdd→sB,reduceMul→sC,reduceSub→sD,reduceLeDiff→sE,reduceEqDiff→sF,reduceBEq→sG
open Int renaming reduceAdd→sH,reduceSub→sI,reduceMul→sJ,reduceLT→sK,reduceLE→sL,reduceNeg→sM,reduceToNat→sN,reduceEq→sO
set_option maxHeartbeats 2000000
abbrev loX (s:Sto):List Int:=(J8 s s.c.length).map (·.lo)
abbrev hiX (s:Sto):List Int:=(J8 s s.c.length).map (·.hi)
theorem Amo {s:Sto}:(loX s).length=s.c.length:=by rw [List.length_map,D8]
theorem Al5 {s:Sto}:(hiX s).length=s.c.length:=by rw [List.length_map,D8]
abbrev tlX (s:Sto):List Int:=Rz s (loX s) s.c.length
abbrev thX (s:Sto):List Int:=Rz s (hiX s) s.c.length
def chL (s:Sto):List (Int × Int):=(List.range s.c.length).map fun i=>((tlX s).getD i 0,(thX s).getD i 0)
theorem Na {l:List Int} {n:Nat} (h:l.length=n):((List.range n).map fun i=>l.getD i 0)=l:=by
 subst h
 apply List.ext_getElem?
 intro i
 by_cases hi:i < l.length
 ·rw [List.getElem?_map,List.getElem?_range hi,List.getElem?_eq_getElem hi,Option.map_some,← List.getElem_eq_getD (h:=hi)]
 ·rw [List.getElem?_eq_none (by simpa using hi),List.getElem?_eq_none (by omega)]
theorem Apt {s:Sto}:(chL s).map (·.1)=tlX s:=by
 unfold chL; rw [List.map_map]; exact Na E8
theorem App {s:Sto}:(chL s).map (·.2)=thX s:=by
 unfold chL; rw [List.map_map]; exact Na E8
theorem Aox {s:Sto} {p n:Int} (h:s.r=10 * p):owX s n=p * n:=by
 have e:n * s.r=10 * (p * n):=by rw [h,Int.mul_comm n,Int.mul_assoc]
 unfold owX; rw [e]; omega
theorem Xu {s:Sto} {lv l:List Int} {p:Int} (h:s.r=10 * p):∀ k,(∀ i,i < k→lv.getD i 0=l.getD i 0)→K0 s lv k=p * Dty.sumI (Rz s l k)
 | 0,_=>by simp [K0,Rz,Dty.sumI]
 | k+1,e=>by
  rw [Abd,Xq,Dty.sumI_snoc,Int.mul_add,Xu h k fun i hi=>e i (by omega),Aox h,e k (by omega)]
theorem Xi {l m:List Int} {i:Nat} (h:i < l.length):(l++m).getD i 0=l.getD i 0:=by
 rw [List.getD_eq_getElem?_getD,List.getElem?_append_left h,List.getD_eq_getElem?_getD]
theorem Aop {s:Sto} {p:Int} (h:s.r=10 * p):K0 s (loL s s.c.length) s.c.length=p * Dty.sumI ((chL s).map (·.1)):=by
 rw [Apt]; exact Xu h _ fun i hi=>Xi (by rw [Amo]; exact hi)
theorem Apo {s:Sto} {p:Int} (h:s.r=10 * p):K0 s (hiL s s.c.length) s.c.length=p * Dty.sumI ((chL s).map (·.2)):=by
 rw [App]; exact Xu h _ fun i hi=>Xi (by rw [Al5]; exact hi)
theorem W3 {s:Sto} (hS:Ku s) {lv:List Int} (hl:∀ k,0≤lv.getD k 0∧lv.getD k 0≤2000):0≤K0 s lv s.c.length∧K0 s lv s.c.length≤300000:=by
 have h6:=hS.n
 have hrr:=hS.r
 simp only [inB,Bool.and_eq_true,decide_eq_true_eq] at hrr
 have hg:∀ k,k < s.c.length→0≤(s.c.getD k default).g∧(s.c.getD k default).g≤99:=fun k hk=>by
  have:=List.all_eq_true.1 hS.c _ (Ee default hk)
  simp only [okC,inB,Bool.and_eq_true,decide_eq_true_eq] at this
  omega
 have:=Ya hrr hg hl s.c.length (Nat.le_refl _)
 omega
structure Azt (s:Sto) (p dl dh:Int):Prop where
 lo:K0 s (loL s s.c.length) s.c.length=dl
 hi:K0 s (hiL s s.c.length) s.c.length=dh
 slo:p * Dty.sumI ((chL s).map (·.1))=dl
 shi:p * Dty.sumI ((chL s).map (·.2))=dh
 l0:0≤dl
 l1:dl≤300000
 h0:0≤dh
 h1:dh≤300000
 p0:0≤p
 p1:p≤20
 pr:s.r / 10=p
theorem Bb9 {s:Sto} (hS:Ku s) (hr:s.r % 10=0):∃ p dl dh,Azt s p dl dh:=by
 have hrr:=hS.r
 simp only [inB,Bool.and_eq_true,decide_eq_true_eq] at hrr
 have h:s.r=10 * (s.r / 10):=by omega
 have b1:=W3 hS (Aoc hS.n (Yz hS))
 have b2:=W3 hS (An9 hS.n (Yz hS))
 exact ⟨s.r / 10,_,_,rfl,rfl,(Aop h).symm,(Apo h).symm,b1.1,b1.2,b2.1,b2.2,by omega,by omega,rfl⟩
end AM.Try
end
/- The reference's tables and stores: their errors. -/
section
namespace AM.Try
open Go AM AM.Wort Go.Proofs
open Nat renaming reduceLT→sA,reduceAdd→sB,reduceMul→sC,reduceSub→sD,reduceLeDiff→sE,reduceEqDiff→sF,reduceBEq→sG
open Int renaming reduceAdd→sH,reduceSub→sI,reduceMul→sJ,reduceLT→sK,reduceLE→sL,reduceNeg→sM,reduceToNat→sN,reduceEq→sO
set_option maxRecDepth 100000
set_option maxHeartbeats 8000000
theorem Y5 (n lo hi:Int):Bf Try.prog 50 [i64 n,i64 lo,i64 hi] (bl (inB n lo hi)):=by
  refine Au (v:=[]) (q:=[]) (N:=15) (rs:=[.tmp 6]) Try.func50 rfl rfl rfl rfl rfl ?_
  refine Af fun K1 hK1=>?_
  simp (disch:=omega) only [amL,sA,sB]
  refine hK1 _ ?_
  refine Af fun K2 hK2=>?_
  simp (disch:=omega) only [amL,amT,sA,sF,↓reduceIte,reduceCtorEq]
  repeat' first | (refine B2 (fun h=>?_) (fun h=>?_) <;> simp (disch:=omega) only [h,amL,amT,sA,sF,↓reduceIte,reduceCtorEq]) | (refine Ba (fun h=>?_) (fun h=>?_) <;> simp (disch:=omega) only [h,amL,amT,sA,sB,sC,sD,sE,sF,sG,sH,sI,sJ,sK,sL,sM,sN,sO,↓reduceIte,reduceCtorEq])
  all_goals
   skip
   refine hK2 _ ?_
   refine Ae ?_
   try simp (disch:=omega) only [amL,↓reduceIte]
   simp [inB,h]
theorem Zm (l:List Int) (most:Int) (hl:l.length < 1000000):Bf Try.prog 107 [isl l,i64 most] (bl (C4 most (-1) l)):=by
  refine Au (v:=[]) (q:=[]) (N:=35) (rs:=[.tmp 4]) Try.func107 rfl rfl rfl rfl rfl ?_
  refine Af fun K1 hK1=>?_
  simp (disch:=omega) only [amL,sA,sB]
  refine hK1 _ ?_
  refine Aa fun K2 hK2=>?_
  refine Af fun K3 hK3=>?_
  simp (disch:=omega) only [amL,sA]
  refine hK3 _ ?_
  refine Ai ?_
  skip
  refine A7 (α:=Nat) (fun k=>⟨T [(0,isl l),(1,i64 most),(5,i64 (k:Int))],O []⟩) (fun k=>l.length - k) (fun k=>k≤l.length∧C4 most (-1) (l.take k)=true) 0 ?_ ?_ (fun k hx4 K4 hK4=>?_)
  · exact ⟨Nat.zero_le _,rfl⟩
  · refine B7 ?_ ?_ ?_ ?_ <;> (try simp (disch:=omega) only [amL,sF,↓reduceIte,reduceCtorEq]); all_goals first | rfl | trace_state
  obtain ⟨hk,hpre⟩:=hx4
  refine Aa fun K5 hK5=>?_
  refine Af fun K6 hK6=>?_
  simp (disch:=omega) only [amL,amT,sA,sF,↓reduceIte,reduceCtorEq]
  refine hK6 _ ?_
  refine Ag rfl (fun h=>MT.x ?_) (fun h=>ME.x ?_)
  all_goals
   first
   |refine MT.mk ?_
    first
    |exact Bool.noConfusion h
    |skip
     try simp only [nrm] at h
     refine Aj ?_
     refine hK5 _ ?_
   |refine ME.mk ?_
    first
    |exact Bool.noConfusion h
    |skip
     try simp only [nrm] at h
     refine Bg ?_
     refine hK2 _ ?_
     refine Af fun K7 hK7=>?_
     simp (disch:=omega) only [amL,sA]
     refine hK7 _ ?_
     refine Ae ?_
     try simp (disch:=omega) only [amL,sM,↓reduceIte]
     all_goals first | (rw [Aem (k:=k) (by omega) (by first | exact .inl (by first | assumption | fail) | exact .inr (by first | omega | fail) | exact .inl (by first | (simp_all; done) | fail) | exact .inr (by first | (simp_all; done) | (simp_all; omega) | fail))]; done) | (rw [← List.take_of_length_le (show l.length≤k by omega),hpre]; done) | trace_state
  all_goals
   skip
   refine Aa fun K8 hK8=>?_
   refine Ai ?_
   refine Aa fun K9 hK9=>?_
   refine Bk (by kernel_rfl) (by kernel_rfl) ?_
   have hk0:((k:Int) - 1).toNat=k - 1:=by omega
   simp (disch:=omega) only [B1,amL,amT,sA,sF,sM,↓reduceIte,reduceCtorEq]
   repeat' first | (refine B2 (fun h=>?_) (fun h=>?_) <;> simp (disch:=omega) only [h,hk0,B1,amL,amT,sA,sF,sM,↓reduceIte,reduceCtorEq]) | (refine Ba (fun h=>?_) (fun h=>?_) <;> simp (disch:=omega) only [h,amL,amT,sA,sF,sM,↓reduceIte,reduceCtorEq]) | (refine Am (by kernel_rfl) rfl (Y5 _ _ _) (by first | exact .inl rfl | exact .inr (.inl rfl)) ?_ ; simp (disch:=omega) only [amL,sA,sM,↓reduceIte])
   all_goals
    skip
    refine hK9 _ ?_
    refine Ag rfl (fun h=>MT.x ?_) (fun h=>ME.x ?_)
    all_goals
     first
     |refine MT.mk ?_
      first
      |exact Bool.noConfusion h
      |skip
       try simp only [nrm] at h
       refine Af fun K10 hK10=>?_
       simp (disch:=omega) only [amL,sA]
       refine hK10 _ ?_
       refine Ae ?_
       try simp (disch:=omega) only [amL,sM,↓reduceIte]
       all_goals first | (rw [Aem (k:=k) (by omega) (by first | exact .inl (by first | assumption | fail) | exact .inr (by first | omega | fail) | exact .inl (by first | (simp_all; done) | fail) | exact .inr (by first | (simp_all; done) | (simp_all; omega) | fail))]; done) | (rw [← List.take_of_length_le (show l.length≤k by omega),hpre]; done) | trace_state
     |refine ME.mk ?_
      first
      |exact Bool.noConfusion h
      |skip
       try simp only [nrm] at h
       refine Aj ?_
       refine hK8 _ ?_
    all_goals
     skip
     refine Ac ?_
     simp (disch:=omega) only [amL,amT,sA,sF,sM,↓reduceIte,reduceCtorEq]
     refine hK4 (k+1) _ ?_ ?_ (B7 ?_ ?_ ?_ ?_)
     all_goals (try simp (disch:=omega) only [amL,sF,↓reduceIte,reduceCtorEq])
     all_goals first | omega | exact ⟨by omega,An5 (by omega) hpre (by first | assumption | (simp_all; done) | fail) (by first | omega | (simp_all; done) | (simp_all; omega) | fail)⟩ | trace_state
theorem Aii (l:List Int) (hl:0 < l.length) (hl2:l.length < 1000000):Bf Try.prog 108 [isl l] (i64 (Hg l)):=by
  refine Au (v:=[]) (q:=[]) (N:=9) (rs:=[.tmp 2]) Try.func108 rfl rfl rfl rfl rfl ?_
  have e:((l.length:Int) - 1).toNat=l.length - 1:=by omega
  refine Af fun K1 hK1=>?_
  simp (disch:=omega) only [amL,sA]
  refine hK1 _ ?_
  refine Af fun K2 hK2=>?_
  simp (disch:=omega) only [B1,amL,amT,sA,sF,↓reduceIte,reduceCtorEq]
  refine hK2 _ ?_
  refine Ae ?_
  try simp (disch:=omega) only [amL,↓reduceIte]
  all_goals first | (simp only [Hg,e]; done) | trace_state
theorem W8 (l:List Int) (r:Rng) (hl:0 < l.length) (hl2:l.length < 1000000):Bf Try.prog 51 [isl l,avR r] (bl (En l r)):=by
  refine Au (v:=[]) (q:=[]) (N:=25) (rs:=[.tmp 4]) Try.func51 rfl rfl rfl rfl rfl ?_
  refine Af fun K1 hK1=>?_
  simp (disch:=omega) only [amL,sA,sB,↓reduceIte,reduceCtorEq]
  refine hK1 _ ?_
  refine Aa fun K2 hK2=>?_
  refine Bk (by kernel_rfl) (by kernel_rfl) ?_
  simp (disch:=omega) only [amL,amT,sA,sF,↓reduceIte,reduceCtorEq]
  repeat' first | (refine B2 (fun h=>?_) (fun h=>?_) <;> simp (disch:=omega) only [h,B1,amL,amT,sA,sF,sL,sN,↓reduceIte,reduceCtorEq]) | (refine Ba (fun h=>?_) (fun h=>?_) <;> simp (disch:=omega) only [h,B1,amL,amT,sA,sB,sC,sD,sE,sF,sG,sH,sI,sJ,sK,sL,sM,sN,sO,↓reduceIte,reduceCtorEq]) | (refine Am (by kernel_rfl) rfl (Aii l hl hl2) (by first | exact .inl rfl | exact .inr (.inl rfl)) ?_ ; simp (disch:=omega) only [amL,amT,sA,sF,↓reduceIte])
  all_goals
   skip
   refine hK2 _ ?_
   refine Ae ?_
   try simp (disch:=omega) only [amL,↓reduceIte]
   all_goals first | (simp_all [En]; done) | (simp_all [En]; omega) | (simp_all [En]; intros; omega) | trace_state
theorem Ag0 (t:Tbl) (h1:t.w.length < 1000000) (h2:t.m.length < 1000000) (h3:t.v.length < 1000000) (h4:∀ r ∈ t.v,r.length < 1000000):Bf Try.prog 49 [avQ t] (i64 (Fu t)):=by
  refine Au (v:=[]) (q:=[]) (N:=86) (rs:=[.tmp 2]) Try.func49 rfl rfl rfl rfl rfl ?_
  have hr:∀ k,k < t.v.length→(t.v.getD k []).length < 1000000:=fun k hk=>h4 _ (Xa [] hk)
  refine Af fun K1 hK1=>?_
  simp (disch:=omega) only [amL,sA,↓reduceIte]
  refine hK1 _ ?_
  refine Aa fun K2 hK2=>?_
  refine Af fun K3 hK3=>?_
  simp (disch:=omega) only [amL,amT,sA,sF,↓reduceIte,reduceCtorEq]
  repeat' first | (refine B2 (fun h=>?_) (fun h=>?_) <;> simp (disch:=omega) only [h,amL,amT,sA,sF,↓reduceIte,reduceCtorEq]) | (refine Ba (fun h=>?_) (fun h=>?_) <;> simp (disch:=omega) only [h,C8,B1,ne_eq,amL,amT,sA,sB,sC,sD,sE,sF,sG,sH,sI,sJ,sK,sL,sM,sN,sO,↓reduceIte,reduceCtorEq])
  all_goals
   skip
   refine hK3 _ ?_
   refine Ag rfl (fun h=>MT.x ?_) (fun h=>ME.x ?_)
   all_goals
    first
    |refine MT.mk ?_
     first
     |exact Bool.noConfusion h
     |skip
      try simp only [nrm] at h
      refine Af fun K4 hK4=>?_
      simp (disch:=omega) only [amL,sA]
      refine hK4 _ ?_
      refine Ae ?_
      try simp (disch:=omega) only [amL,↓reduceIte]
      all_goals first | (rw [Mk (by omega)]; done) | (rw [Bl (by omega) (.inl (by omega))]; done) | (rw [Bl (by omega) (.inr (.inl (by omega)))]; done) | (rw [Bl (by omega) (.inr (.inr (.inr (.inr (.inl (by omega))))))]; done) | (rw [Bl (by omega) (.inr (.inr (.inl (by first | assumption | (simp_all; done) | fail))))]; done) | (rw [Bl (by omega) (.inr (.inr (.inr (.inl (by first | assumption | (simp_all; done) | fail)))))]; done) | (rw [Bl (by omega) (.inr (.inr (.inr (.inr (.inr (B3 (d:=[]) (k:=k) (by omega) (Q4 (by omega))))))))]; done) | (rw [Bl (by omega) (.inr (.inr (.inr (.inr (.inr (B3 (d:=[]) (k:=k) (by omega) (Tm (B3 (d:=0) (k:=j) (by omega) (by first | assumption | (simp_all; done) | fail)))))))))]; done) | (rw [Mw (by omega) (by omega) (by omega) (by first | assumption | (simp_all; done) | fail) (by first | assumption | (simp_all; done) | fail) (by omega) (C7 (by omega) hpre)]; done) | trace_state
    |refine ME.mk ?_
     first
     |exact Bool.noConfusion h
     |skip
      try simp only [nrm] at h
      refine Aj ?_
      refine hK2 _ ?_
   all_goals
    skip
    refine Aa fun K5 hK5=>?_
    refine Af fun K6 hK6=>?_
    simp (disch:=omega) only [amL,amT,sA,sF,↓reduceIte,reduceCtorEq]
    repeat' first | (refine B2 (fun h=>?_) (fun h=>?_) <;> simp (disch:=omega) only [h,amL,amT,sA,sF,↓reduceIte,reduceCtorEq]) | (refine Ba (fun h=>?_) (fun h=>?_) <;> simp (disch:=omega) only [h,ne_eq,amL,amT,sA,sF,sM,↓reduceIte,reduceCtorEq]) | (refine Am (by kernel_rfl) rfl (by first | exact Zm t.w _ h1 | exact Zm t.m _ h2) (by first | exact .inl rfl | exact .inr (.inl rfl)) ?_ ; simp (disch:=omega) only [amL,sA,sF,sM,↓reduceIte])
    all_goals
     skip
     refine hK6 _ ?_
     refine Ag rfl (fun h=>MT.x ?_) (fun h=>ME.x ?_)
     all_goals
      first
      |refine MT.mk ?_
       first
       |exact Bool.noConfusion h
       |skip
        try simp only [nrm] at h
        refine Af fun K7 hK7=>?_
        simp (disch:=omega) only [amL,sA,sM]
        refine hK7 _ ?_
        refine Ae ?_
        try simp (disch:=omega) only [amL,sM,↓reduceIte]
        all_goals first | (rw [Mk (by omega)]; done) | (rw [Bl (by omega) (.inl (by omega))]; done) | (rw [Bl (by omega) (.inr (.inl (by omega)))]; done) | (rw [Bl (by omega) (.inr (.inr (.inr (.inr (.inl (by omega))))))]; done) | (rw [Bl (by omega) (.inr (.inr (.inl (by first | assumption | (simp_all; done) | fail))))]; done) | (rw [Bl (by omega) (.inr (.inr (.inr (.inl (by first | assumption | (simp_all; done) | fail)))))]; done) | (rw [Bl (by omega) (.inr (.inr (.inr (.inr (.inr (B3 (d:=[]) (k:=k) (by omega) (Q4 (by omega))))))))]; done) | (rw [Bl (by omega) (.inr (.inr (.inr (.inr (.inr (B3 (d:=[]) (k:=k) (by omega) (Tm (B3 (d:=0) (k:=j) (by omega) (by first | assumption | (simp_all; done) | fail)))))))))]; done) | (rw [Mw (by omega) (by omega) (by omega) (by first | assumption | (simp_all; done) | fail) (by first | assumption | (simp_all; done) | fail) (by omega) (C7 (by omega) hpre)]; done) | trace_state
      |refine ME.mk ?_
       first
       |exact Bool.noConfusion h
       |skip
        try simp only [nrm] at h
        refine Aj ?_
        refine hK5 _ ?_
     all_goals
      skip
      refine Aa fun K8 hK8=>?_
      refine Af fun K9 hK9=>?_
      simp (disch:=omega) only [amL,sA,sM]
      refine hK9 _ ?_
      refine Ai ?_
      skip
      refine A7 (α:=Nat) (fun k=>⟨T [(1,.ptr 1 0),(3,i64 (k:Int))],O [(1,.cells (cQ t))]⟩) (fun k=>t.v.length - k) (fun k=>k≤t.v.length∧(t.v.take k).all (N0 t.m.length)=true) 0 ?_ ?_ (fun k hx10 K10 hK10=>?_)
      · exact ⟨Nat.zero_le _,rfl⟩
      · refine B7 ?_ ?_ ?_ ?_ <;> (try simp (disch:=omega) only [amL,sF,sM,↓reduceIte]); all_goals rfl
      obtain ⟨hk,hpre⟩:=hx10
      refine Aa fun K11 hK11=>?_
      refine Af fun K12 hK12=>?_
      simp (disch:=omega) only [amL,amT,sA,sF,↓reduceIte,reduceCtorEq]
      refine hK12 _ ?_
      refine Ag rfl (fun h=>MT.x ?_) (fun h=>ME.x ?_)
      all_goals
       first
       |refine MT.mk ?_
        first
        |exact Bool.noConfusion h
        |skip
         try simp only [nrm] at h
         refine Aj ?_
         refine hK11 _ ?_
       |refine ME.mk ?_
        first
        |exact Bool.noConfusion h
        |skip
         try simp only [nrm] at h
         refine Bg ?_
         refine hK8 _ ?_
         refine Af fun K13 hK13=>?_
         simp (disch:=omega) only [amL,sA]
         refine hK13 _ ?_
         refine Ae ?_
         try simp (disch:=omega) only [amL,↓reduceIte]
         all_goals first | (rw [Mk (by omega)]; done) | (rw [Bl (by omega) (.inl (by omega))]; done) | (rw [Bl (by omega) (.inr (.inl (by omega)))]; done) | (rw [Bl (by omega) (.inr (.inr (.inr (.inr (.inl (by omega))))))]; done) | (rw [Bl (by omega) (.inr (.inr (.inl (by first | assumption | (simp_all; done) | fail))))]; done) | (rw [Bl (by omega) (.inr (.inr (.inr (.inl (by first | assumption | (simp_all; done) | fail)))))]; done) | (rw [Bl (by omega) (.inr (.inr (.inr (.inr (.inr (B3 (d:=[]) (k:=k) (by omega) (Q4 (by omega))))))))]; done) | (rw [Bl (by omega) (.inr (.inr (.inr (.inr (.inr (B3 (d:=[]) (k:=k) (by omega) (Tm (B3 (d:=0) (k:=j) (by omega) (by first | assumption | (simp_all; done) | fail)))))))))]; done) | (rw [Mw (by omega) (by omega) (by omega) (by first | assumption | (simp_all; done) | fail) (by first | assumption | (simp_all; done) | fail) (by omega) (C7 (by omega) hpre)]; done) | trace_state
      all_goals
       skip
       refine Aa fun K14 hK14=>?_
       refine Ai ?_
       refine Aa fun K15 hK15=>?_
       refine Aa fun K16 hK16=>?_
       refine Bk (by kernel_rfl) (by kernel_rfl) ?_
       have hrl:=hr k (by omega)
       simp (disch:=omega) only [C8,ne_eq,amL,amT,sA,sF,↓reduceIte,reduceCtorEq]
       refine hK16 _ ?_
       refine Ag rfl (fun h=>MT.x ?_) (fun h=>ME.x ?_)
       all_goals
        first
        |refine MT.mk ?_
         first
         |exact Bool.noConfusion h
         |skip
          try simp only [nrm] at h
          refine Af fun K17 hK17=>?_
          simp (disch:=omega) only [amL,sA]
          refine hK17 _ ?_
          refine Ae ?_
          try simp (disch:=omega) only [amL,↓reduceIte]
          all_goals first | (rw [Mk (by omega)]; done) | (rw [Bl (by omega) (.inl (by omega))]; done) | (rw [Bl (by omega) (.inr (.inl (by omega)))]; done) | (rw [Bl (by omega) (.inr (.inr (.inr (.inr (.inl (by omega))))))]; done) | (rw [Bl (by omega) (.inr (.inr (.inl (by first | assumption | (simp_all; done) | fail))))]; done) | (rw [Bl (by omega) (.inr (.inr (.inr (.inl (by first | assumption | (simp_all; done) | fail)))))]; done) | (rw [Bl (by omega) (.inr (.inr (.inr (.inr (.inr (B3 (d:=[]) (k:=k) (by omega) (Q4 (by omega))))))))]; done) | (rw [Bl (by omega) (.inr (.inr (.inr (.inr (.inr (B3 (d:=[]) (k:=k) (by omega) (Tm (B3 (d:=0) (k:=j) (by omega) (by first | assumption | (simp_all; done) | fail)))))))))]; done) | (rw [Mw (by omega) (by omega) (by omega) (by first | assumption | (simp_all; done) | fail) (by first | assumption | (simp_all; done) | fail) (by omega) (C7 (by omega) hpre)]; done) | trace_state
        |refine ME.mk ?_
         first
         |exact Bool.noConfusion h
         |skip
          try simp only [nrm] at h
          refine Aj ?_
          refine hK15 _ ?_
       all_goals
        skip
        refine Af fun K18 hK18=>?_
        simp (disch:=omega) only [amL,sA]
        refine hK18 _ ?_
        refine Ai ?_
        skip
        refine A7 (α:=Nat) (fun j=>⟨T [(1,.ptr 1 0),(3,i64 (k:Int)),(4,i64 (j:Int))],O [(1,.cells (cQ t))]⟩) (fun j=>t.m.length - j) (fun j=>j≤t.m.length∧((t.v.getD k []).take j).all (fun x=>inB x 0 2000)=true) 0 ?_ ?_ (fun j hx19 K19 hK19=>?_)
        · exact ⟨Nat.zero_le _,rfl⟩
        · refine B7 ?_ ?_ ?_ ?_ <;> (try simp (disch:=omega) only [amL,sF,↓reduceIte]); all_goals rfl
        obtain ⟨hj,hpre2⟩:=hx19
        refine Aa fun K20 hK20=>?_
        refine Af fun K21 hK21=>?_
        simp (disch:=omega) only [amL,amT,sA,sF,↓reduceIte,reduceCtorEq]
        refine hK21 _ ?_
        refine Ag rfl (fun h=>MT.x ?_) (fun h=>ME.x ?_)
        all_goals
         first
         |refine MT.mk ?_
          first
          |exact Bool.noConfusion h
          |skip
           try simp only [nrm] at h
           refine Aj ?_
           refine hK20 _ ?_
         |refine ME.mk ?_
          first
          |exact Bool.noConfusion h
          |skip
           try simp only [nrm] at h
           refine Bg ?_
           refine hK14 _ ?_
           refine Ac ?_
           simp (disch:=omega) only [amL,amT,sA,sF,↓reduceIte]
           refine hK10 (k+1) _ ?_ ?_ (B7 ?_ ?_ ?_ ?_)
           all_goals (try simp (disch:=omega) only [amL,sF,↓reduceIte])
           all_goals first | omega | exact ⟨by omega,Nq (d:=[]) (by omega) hpre (Aow (by first | omega | (simp_all; done) | (simp_all; omega) | fail) (C7 (by first | omega | (simp_all; done) | (simp_all; omega) | fail) hpre2))⟩ | trace_state
        all_goals
         skip
         refine Aa fun K22 hK22=>?_
         refine Ai ?_
         refine Af fun K23 hK23=>?_
         have hrl:=hr k (by omega)
         simp (disch:=omega) only [C8,B1,amL,amT,sA,sF,↓reduceIte,reduceCtorEq]
         repeat' first | (refine Am (by kernel_rfl) rfl (Y5 _ _ _) (by first | exact .inl rfl | exact .inr (.inl rfl)) ?_ ; simp (disch:=omega) only [amL,↓reduceIte])
         refine hK23 _ ?_
         refine Ag rfl (fun h=>MT.x ?_) (fun h=>ME.x ?_)
         all_goals
          first
          |refine MT.mk ?_
           first
           |exact Bool.noConfusion h
           |skip
            try simp only [nrm] at h
            refine Af fun K24 hK24=>?_
            simp (disch:=omega) only [amL,sA]
            refine hK24 _ ?_
            refine Ae ?_
            try simp (disch:=omega) only [amL,↓reduceIte]
            all_goals first | (rw [Mk (by omega)]; done) | (rw [Bl (by omega) (.inl (by omega))]; done) | (rw [Bl (by omega) (.inr (.inl (by omega)))]; done) | (rw [Bl (by omega) (.inr (.inr (.inr (.inr (.inl (by omega))))))]; done) | (rw [Bl (by omega) (.inr (.inr (.inl (by first | assumption | (simp_all; done) | fail))))]; done) | (rw [Bl (by omega) (.inr (.inr (.inr (.inl (by first | assumption | (simp_all; done) | fail)))))]; done) | (rw [Bl (by omega) (.inr (.inr (.inr (.inr (.inr (B3 (d:=[]) (k:=k) (by omega) (Q4 (by omega))))))))]; done) | (rw [Bl (by omega) (.inr (.inr (.inr (.inr (.inr (B3 (d:=[]) (k:=k) (by omega) (Tm (B3 (d:=0) (k:=j) (by omega) (by first | assumption | (simp_all; done) | fail)))))))))]; done) | (rw [Mw (by omega) (by omega) (by omega) (by first | assumption | (simp_all; done) | fail) (by first | assumption | (simp_all; done) | fail) (by omega) (C7 (by omega) hpre)]; done) | trace_state
          |refine ME.mk ?_
           first
           |exact Bool.noConfusion h
           |skip
            try simp only [nrm] at h
            refine Aj ?_
            refine hK22 _ ?_
         all_goals
          skip
          refine Ac ?_
          simp (disch:=omega) only [amL,amT,sA,sF,↓reduceIte]
          refine hK19 (j+1) _ ?_ ?_ (B7 ?_ ?_ ?_ ?_)
          all_goals (try simp (disch:=omega) only [amL,sF,↓reduceIte])
          all_goals first | omega | exact ⟨by omega,Nq (d:=0) (by first | omega | (simp_all; done) | (simp_all; omega) | fail) hpre2 (by first | assumption | (simp_all; done) | fail)⟩ | trace_state
theorem Aqp (s:Sto) (h1:s.t.w.length < 1000000) (h2:s.t.m.length < 1000000) (h3:s.t.v.length < 1000000) (h4:∀ r ∈ s.t.v,r.length < 1000000) (h5:s.c.length < 1000000):Bf Try.prog 10 [avO s] (i64 (J9 s)):=by
  refine Au (v:=[]) (q:=[]) (N:=54) (rs:=[.tmp 2]) Try.func10 rfl rfl rfl rfl rfl ?_
  refine Af fun K1 hK1=>?_
  simp (disch:=omega) only [amL,sA,↓reduceIte]
  refine hK1 _ ?_
  refine Aa fun K2 hK2=>?_
  refine Af fun K3 hK3=>?_
  simp (disch:=omega) only [amL,amT,sA,sB,sE,sF,↓reduceIte,reduceCtorEq]
  repeat' first | (refine Am (by kernel_rfl) rfl (Ag0 s.t h1 h2 h3 h4) (by first | exact .inl rfl | exact .inr (.inl rfl)) ?_ ; simp (disch:=omega) only [amL,sA,↓reduceIte])
  refine hK3 _ ?_
  refine Af fun K4 hK4=>?_
  simp (disch:=omega) only [ne_eq,amL,amT,sA,↓reduceIte]
  refine hK4 _ ?_
  refine Ag rfl (fun h=>MT.x ?_) (fun h=>ME.x ?_)
  all_goals
   first
   |refine MT.mk ?_
    first
    |exact Bool.noConfusion h
    |skip
     try simp only [nrm] at h
     refine Af fun K5 hK5=>?_
     simp (disch:=omega) only [amL,sA,sF,↓reduceIte]
     refine hK5 _ ?_
     refine Ae ?_
     try simp (disch:=omega) only [amL,↓reduceIte]
     all_goals first | (rw [Mv (by omega)]; done) | (rw [Ng (by omega) (by omega)]; done) | (rw [Mp (by omega) (by omega) (by first | assumption | (simp_all; done) | fail) (C7 (by omega) hpre)]; done) | (rw [Fm (by omega) (by omega) (.inl (by first | assumption | (simp_all; done) | fail))]; done) | (rw [Fm (by omega) (by omega) (.inr (B3 (d:=default) (k:=k) (by omega) (by first | (simp_all [okC]; done) | fail)))]; done) | trace_state
   |refine ME.mk ?_
    first
    |exact Bool.noConfusion h
    |skip
     try simp only [nrm] at h
     refine Aj ?_
     refine hK2 _ ?_
  all_goals
   skip
   refine Aa fun K6 hK6=>?_
   refine Af fun K7 hK7=>?_
   simp (disch:=omega) only [amL,amT,sA,sF,↓reduceIte,reduceCtorEq]
   refine hK7 _ ?_
   refine Ag rfl (fun h=>MT.x ?_) (fun h=>ME.x ?_)
   all_goals
    first
    |refine MT.mk ?_
     first
     |exact Bool.noConfusion h
     |skip
      try simp only [nrm] at h
      refine Af fun K8 hK8=>?_
      simp (disch:=omega) only [amL,sA]
      refine hK8 _ ?_
      refine Ae ?_
      try simp (disch:=omega) only [amL,↓reduceIte]
      all_goals first | (rw [Mv (by omega)]; done) | (rw [Ng (by omega) (by omega)]; done) | (rw [Mp (by omega) (by omega) (by first | assumption | (simp_all; done) | fail) (C7 (by omega) hpre)]; done) | (rw [Fm (by omega) (by omega) (.inl (by first | assumption | (simp_all; done) | fail))]; done) | (rw [Fm (by omega) (by omega) (.inr (B3 (d:=default) (k:=k) (by omega) (by first | (simp_all [okC]; done) | fail)))]; done) | trace_state
    |refine ME.mk ?_
     first
     |exact Bool.noConfusion h
     |skip
      try simp only [nrm] at h
      refine Aj ?_
      refine hK6 _ ?_
   all_goals
    skip
    refine Aa fun K9 hK9=>?_
    refine Af fun K10 hK10=>?_
    simp (disch:=omega) only [amL,amT,sA,sF,↓reduceIte,reduceCtorEq]
    repeat' first | (refine Am (by kernel_rfl) rfl (Y5 _ _ _) (by first | exact .inl rfl | exact .inr (.inl rfl)) ?_ ; simp (disch:=omega) only [amL,sA,↓reduceIte])
    refine hK10 _ ?_
    refine Ag rfl (fun h=>MT.x ?_) (fun h=>ME.x ?_)
    all_goals
     first
     |refine MT.mk ?_
      first
      |exact Bool.noConfusion h
      |skip
       try simp only [nrm] at h
       refine Af fun K11 hK11=>?_
       simp (disch:=omega) only [amL,sA]
       refine hK11 _ ?_
       refine Ae ?_
       try simp (disch:=omega) only [amL,↓reduceIte]
       all_goals first | (rw [Mv (by omega)]; done) | (rw [Ng (by omega) (by omega)]; done) | (rw [Mp (by omega) (by omega) (by first | assumption | (simp_all; done) | fail) (C7 (by omega) hpre)]; done) | (rw [Fm (by omega) (by omega) (.inl (by first | assumption | (simp_all; done) | fail))]; done) | (rw [Fm (by omega) (by omega) (.inr (B3 (d:=default) (k:=k) (by omega) (by first | (simp_all [okC]; done) | fail)))]; done) | trace_state
     |refine ME.mk ?_
      first
      |exact Bool.noConfusion h
      |skip
       try simp only [nrm] at h
       refine Aj ?_
       refine hK9 _ ?_
    all_goals
     skip
     refine Aa fun K12 hK12=>?_
     refine Af fun K13 hK13=>?_
     simp (disch:=omega) only [amL,sA]
     refine hK13 _ ?_
     refine Ai ?_
     have ht:=Aod (t:=s.t) (by omega)
     have hw0:0 < s.t.w.length:=by have:=ht.nw; omega
     have hm0:0 < s.t.m.length:=by have:=ht.nm; omega
     refine A7 (α:=Nat) (fun k=>⟨T [(1,.ptr 1 0),(4,i64 (k:Int))],O [(1,.cells (cO s))]⟩) (fun k=>s.c.length - k) (fun k=>k≤s.c.length∧(s.c.take k).all (okC s.t)=true) 0 ?_ ?_ (fun k hx14 K14 hK14=>?_)
     · exact ⟨Nat.zero_le _,rfl⟩
     · refine B7 ?_ ?_ ?_ ?_ <;> (try simp (disch:=omega) only [amL,sF,↓reduceIte]); all_goals rfl
     obtain ⟨hk,hpre⟩:=hx14
     refine Aa fun K15 hK15=>?_
     refine Af fun K16 hK16=>?_
     simp (disch:=omega) only [amL,amT,sA,sF,↓reduceIte,reduceCtorEq]
     refine hK16 _ ?_
     refine Ag rfl (fun h=>MT.x ?_) (fun h=>ME.x ?_)
     all_goals
      first
      |refine MT.mk ?_
       first
       |exact Bool.noConfusion h
       |skip
        try simp only [nrm] at h
        refine Aj ?_
        refine hK15 _ ?_
      |refine ME.mk ?_
       first
       |exact Bool.noConfusion h
       |skip
        try simp only [nrm] at h
        refine Bg ?_
        refine hK12 _ ?_
        refine Af fun K17 hK17=>?_
        simp (disch:=omega) only [amL,sA]
        refine hK17 _ ?_
        refine Ae ?_
        try simp (disch:=omega) only [amL,↓reduceIte]
        all_goals first | (rw [Mv (by omega)]; done) | (rw [Ng (by omega) (by omega)]; done) | (rw [Mp (by omega) (by omega) (by first | assumption | (simp_all; done) | fail) (C7 (by omega) hpre)]; done) | (rw [Fm (by omega) (by omega) (.inl (by first | assumption | (simp_all; done) | fail))]; done) | (rw [Fm (by omega) (by omega) (.inr (B3 (d:=default) (k:=k) (by omega) (by first | (simp_all [okC]; done) | fail)))]; done) | trace_state
     all_goals
      skip
      refine Aa fun K18 hK18=>?_
      refine Ai ?_
      refine Af fun K19 hK19=>?_
      simp (disch:=omega) only [C5,amL,amT,sA,sB,sF,↓reduceIte,reduceCtorEq]
      refine hK19 _ ?_
      refine Af fun K20 hK20=>?_
      simp (disch:=omega) only [amL,amT,sA,↓reduceIte,reduceCtorEq]
      repeat' first | (refine B2 (fun h=>?_) (fun h=>?_) <;> simp (disch:=omega) only [h,C5,ne_eq,amL,amT,sA,sB,sC,sD,sE,sF,sG,sH,sI,sJ,sK,sL,sM,sN,sO,↓reduceIte,reduceCtorEq]) | (refine Ba (fun h=>?_) (fun h=>?_) <;> simp (disch:=omega) only [h,amL,amT,sA,sB,sE,sF,↓reduceIte,reduceCtorEq]) | (refine Am (by kernel_rfl) rfl (Y5 _ _ _) (by first | exact .inl rfl | exact .inr (.inl rfl)) ?_ ; simp (disch:=omega) only [amL,sA,↓reduceIte]) | (refine Am (by kernel_rfl) rfl (by first | exact W8 s.t.w (s.c.getD k default).t hw0 h1 | exact W8 s.t.m (s.c.getD k default).k hm0 h2) (by first | exact .inl rfl | exact .inr (.inl rfl)) ?_ ; simp (disch:=omega) only [amL,sA,sF,↓reduceIte])
      all_goals
       skip
       refine hK20 _ ?_
       refine Ag rfl (fun h=>MT.x ?_) (fun h=>ME.x ?_)
       all_goals
        first
        |refine MT.mk ?_
         first
         |exact Bool.noConfusion h
         |skip
          try simp only [nrm] at h
          refine Af fun K21 hK21=>?_
          simp (disch:=omega) only [amL,sA]
          refine hK21 _ ?_
          refine Ae ?_
          try simp (disch:=omega) only [amL,↓reduceIte]
          all_goals first | (rw [Mv (by omega)]; done) | (rw [Ng (by omega) (by omega)]; done) | (rw [Mp (by omega) (by omega) (by first | assumption | (simp_all; done) | fail) (C7 (by omega) hpre)]; done) | (rw [Fm (by omega) (by omega) (.inl (by first | assumption | (simp_all; done) | fail))]; done) | (rw [Fm (by omega) (by omega) (.inr (B3 (d:=default) (k:=k) (by omega) (by first | (simp_all [okC]; done) | fail)))]; done) | trace_state
        |refine ME.mk ?_
         first
         |exact Bool.noConfusion h
         |skip
          try simp only [nrm] at h
          refine Aj ?_
          refine hK18 _ ?_
       all_goals
        skip
        refine Ac ?_
        simp (disch:=omega) only [amL,amT,sA,sF,↓reduceIte]
        refine hK14 (k+1) _ ?_ ?_ (B7 ?_ ?_ ?_ ?_)
        all_goals (try simp (disch:=omega) only [amL,sF,↓reduceIte])
        all_goals first | omega | exact ⟨by omega,Nq (d:=default) (by omega) hpre (by first | (simp_all [okC]; done) | fail)⟩ | trace_state
theorem Akf (t:Tbl):Bf Try.prog 48 [avQ t] (bl (N4 t)):=by
  refine Au (v:=[]) (q:=[]) (N:=34) (rs:=[.tmp 2]) Try.func48 rfl rfl rfl rfl rfl ?_
  refine Af fun K1 hK1=>?_
  simp (disch:=omega) only [amL,sA,↓reduceIte]
  refine hK1 _ ?_
  refine Aa fun K2 hK2=>?_
  refine Af fun K3 hK3=>?_
  simp (disch:=omega) only [amL,amT,sA,sF,↓reduceIte,reduceCtorEq]
  repeat' first | (refine B2 (fun h=>?_) (fun h=>?_) <;> simp (disch:=omega) only [h,amL,amT,sA,sF,↓reduceIte,reduceCtorEq]) | (refine Ba (fun h=>?_) (fun h=>?_) <;> simp (disch:=omega) only [h,C8,B1,amL,amT,sA,sB,sC,sD,sE,sF,sG,sH,sI,sJ,sK,sL,sM,sN,sO,↓reduceIte,reduceCtorEq])
  all_goals
   skip
   refine hK3 _ ?_
   refine Ag rfl (fun h=>MT.x ?_) (fun h=>ME.x ?_)
   all_goals
    first
    |refine MT.mk ?_
     first
     |exact Bool.noConfusion h
     |skip
      try simp only [nrm] at h
      refine Af fun K4 hK4=>?_
      simp (disch:=omega) only [amL,sA]
      refine hK4 _ ?_
      refine Ae ?_
      try simp (disch:=omega) only [amL,↓reduceIte]
      all_goals first | (rw [Q5 (by omega) (by omega) (by omega) (C7 (by omega) hpre)]; done) | (rw [N4,B3 (d:=[]) (k:=k) (by omega) (decide_eq_false (by omega)),Bool.and_false]; done) | (rw [Tn (by omega)]; done) | trace_state
    |refine ME.mk ?_
     first
     |exact Bool.noConfusion h
     |skip
      try simp only [nrm] at h
      refine Aj ?_
      refine hK2 _ ?_
   all_goals
    skip
    refine Aa fun K5 hK5=>?_
    refine Af fun K6 hK6=>?_
    simp (disch:=omega) only [amL,sA]
    refine hK6 _ ?_
    refine Ai ?_
    have h3:(t.v.length:Int)≤8:=by omega
    refine A7 (α:=Nat) (fun k=>⟨T [(1,.ptr 1 0),(3,i64 (k:Int))],O [(1,.cells (cQ t))]⟩) (fun k=>t.v.length - k) (fun k=>k≤t.v.length∧(t.v.take k).all (fun r=>decide ((r.length:Int)≤8))=true) 0 ?_ ?_ (fun k hx7 K7 hK7=>?_)
    · exact ⟨Nat.zero_le _,rfl⟩
    · refine B7 ?_ ?_ ?_ ?_ <;> (try simp (disch:=omega) only [amL,sF,↓reduceIte]); all_goals rfl
    obtain ⟨hk,hpre⟩:=hx7
    refine Aa fun K8 hK8=>?_
    refine Af fun K9 hK9=>?_
    simp (disch:=omega) only [amL,amT,sA,sF,↓reduceIte,reduceCtorEq]
    refine hK9 _ ?_
    refine Ag rfl (fun h=>MT.x ?_) (fun h=>ME.x ?_)
    all_goals
     first
     |refine MT.mk ?_
      first
      |exact Bool.noConfusion h
      |skip
       try simp only [nrm] at h
       refine Aj ?_
       refine hK8 _ ?_
     |refine ME.mk ?_
      first
      |exact Bool.noConfusion h
      |skip
       try simp only [nrm] at h
       refine Bg ?_
       refine hK5 _ ?_
       refine Af fun K10 hK10=>?_
       simp (disch:=omega) only [amL,sA]
       refine hK10 _ ?_
       refine Ae ?_
       try simp (disch:=omega) only [amL,↓reduceIte]
       all_goals first | (rw [Q5 (by omega) (by omega) (by omega) (C7 (by omega) hpre)]; done) | (rw [N4,B3 (d:=[]) (k:=k) (by omega) (decide_eq_false (by omega)),Bool.and_false]; done) | (rw [Tn (by omega)]; done) | trace_state
    all_goals
     skip
     refine Aa fun K11 hK11=>?_
     refine Ai ?_
     refine Af fun K12 hK12=>?_
     simp (disch:=omega) only [C8,amL,amT,sA,sF,↓reduceIte,reduceCtorEq]
     refine hK12 _ ?_
     refine Ag rfl (fun h=>MT.x ?_) (fun h=>ME.x ?_)
     all_goals
      first
      |refine MT.mk ?_
       first
       |exact Bool.noConfusion h
       |skip
        try simp only [nrm] at h
        refine Af fun K13 hK13=>?_
        simp (disch:=omega) only [amL,sA]
        refine hK13 _ ?_
        refine Ae ?_
        try simp (disch:=omega) only [amL,↓reduceIte]
        all_goals first | (rw [Q5 (by omega) (by omega) (by omega) (C7 (by omega) hpre)]; done) | (rw [N4,B3 (d:=[]) (k:=k) (by omega) (decide_eq_false (by omega)),Bool.and_false]; done) | (rw [Tn (by omega)]; done) | trace_state
      |refine ME.mk ?_
       first
       |exact Bool.noConfusion h
       |skip
        try simp only [nrm] at h
        refine Aj ?_
        refine hK11 _ ?_
     all_goals
      skip
      refine Ac ?_
      simp (disch:=omega) only [amL,amT,sA,sF,↓reduceIte]
      refine hK7 (k+1) _ ?_ ?_ (B7 ?_ ?_ ?_ ?_)
      all_goals (try simp (disch:=omega) only [amL,sF,↓reduceIte])
      all_goals first | omega | exact ⟨by omega,Nq (d:=[]) (by omega) hpre (decide_eq_true (by omega))⟩ | trace_state
theorem Ajz (l:List Int):((l.map fun n=>[iv n]).all fun c=>decide (c.length=1))=true:=by simp
theorem Nm (l:List Int) (hl:l.length < 1000000):Bf Try.prog 111 [isl l] (isl l):=by
  refine Au (v:=[]) (q:=[]) (N:=6) (rs:=[.tmp 2]) Try.func111 rfl rfl rfl rfl rfl ?_
  refine Af fun K1 hK1=>?_
  simp (disch:=omega) only [amL,sA]
  refine hK1 _ ?_
  refine Af fun K2 hK2=>?_
  simp (disch:=omega) only [Ajz,amL,amT,sA,sF,↓reduceIte,reduceCtorEq]
  refine hK2 _ ?_
  refine Ae ?_
  try simp (disch:=omega) only [amL,↓reduceIte]
  rw [show l.length=(l.map fun n=>[iv n]).length by simp,List.take_length]
theorem Agx (t:Tbl) (h1:t.w.length < 1000000) (h2:t.m.length < 1000000) (h3:t.v.length < 1000000) (h4:∀ r ∈ t.v,r.length < 1000000):Bf Try.prog 53 [avQ t] (avQ t):=by
  refine Au (v:=[]) (q:=[]) (N:=31) (rs:=[.cell 2 41]) Try.func53 rfl rfl rfl rfl rfl ?_
  have hr:∀ k,k < t.v.length→(t.v.getD k []).length < 1000000:=fun k hk=>h4 _ (Xa [] hk)
  refine Af fun K1 hK1=>?_
  simp (disch:=omega) only [amL,amT,sA,sB,sF,↓reduceIte]
  refine hK1 _ ?_
  refine Aa fun K2 hK2=>?_
  refine Bk (by kernel_rfl) (by kernel_rfl) ?_
  simp (disch:=omega) only [amL,amT,sA,sF,↓reduceIte,reduceCtorEq]
  repeat' first | (refine Am (by kernel_rfl) rfl (by first | exact Nm t.w h1 | exact Nm t.m h2 | exact Nm (t.v.getD k []) (hr k (by omega))) (by first | exact .inl rfl | exact .inr (.inl rfl)) ?_ ; simp (disch:=omega) only [amL,amT,sA,sB,sE,sF,↓reduceIte,reduceCtorEq])
  refine hK2 _ ?_
  refine Aa fun K3 hK3=>?_
  refine Af fun K4 hK4=>?_
  simp (disch:=omega) only [amL,sA]
  refine hK4 _ ?_
  refine Ai ?_
  refine Jv 28 1 3 2 (by decide) rfl rfl rfl ?_
  refine A7 (α:=Nat) (fun k=>⟨T [(1,.ptr 1 0),(2,.ptr 2 0),(3,.ptr 3 0),(4,i64 (k:Int))],O [(1,.cells (cQ t)),(2,.cells [Zu,Zu,Zu]),(3,.cells [isl t.w,isl t.m,.own 28 k]),(28,.arr 1 ((t.v.take k).map Hh))]⟩) (fun k=>t.v.length - k) (fun k=>k≤t.v.length) 0 ?_ ?_ (fun k hx5 K5 hK5=>?_)
  · exact Nat.zero_le _
  · refine B7 ?_ ?_ ?_ ?_ <;> (try simp (disch:=omega) only [amL,sF,sG,↓reduceIte]); all_goals first | rfl | trace_state
  have hk:=hx5
  refine Aa fun K6 hK6=>?_
  refine Af fun K7 hK7=>?_
  simp (disch:=omega) only [amL,amT,sA,sF,↓reduceIte,reduceCtorEq]
  refine hK7 _ ?_
  refine Ag rfl (fun h=>MT.x ?_) (fun h=>ME.x ?_)
  all_goals
   first
   |refine MT.mk ?_
    first
    |exact Bool.noConfusion h
    |skip
     try simp only [nrm] at h
     refine Aj ?_
     refine hK6 _ ?_
   |refine ME.mk ?_
    first
    |exact Bool.noConfusion h
    |skip
     try simp only [nrm] at h
     refine Bg ?_
     refine hK3 _ ?_
     refine Af fun K8 hK8=>?_
     simp (disch:=omega) only [amL,amT,sB,sF,↓reduceIte]
     refine hK8 _ ?_
     refine Ae ?_
     try simp (disch:=omega) only [amL,amT,sB,sF,↓reduceIte]
     all_goals first | (rw [List.take_of_length_le (by simp; omega),List.take_of_length_le (by omega)]; done) | trace_state
  all_goals
   skip
   refine Aa fun K9 hK9=>?_
   refine Ai ?_
   refine Bk (by kernel_rfl) (by kernel_rfl) ?_
   simp (disch:=omega) only [C8,amL,amT,sA,sF,↓reduceIte,reduceCtorEq]
   repeat' first | (refine Am (by kernel_rfl) rfl (by first | exact Nm t.w h1 | exact Nm t.m h2 | exact Nm (t.v.getD k []) (hr k (by omega))) (by first | exact .inl rfl | exact .inr (.inl rfl)) ?_ ; simp (disch:=omega) only [amL,amT,sA,sB,sE,sF,↓reduceIte,reduceCtorEq])
   refine hK9 _ ?_
   refine Ac ?_
   simp (disch:=omega) only [amL,amT,sA,sF,↓reduceIte]
   refine hK5 (k+1) _ ?_ ?_ (B7 ?_ ?_ ?_ ?_)
   all_goals (try simp (disch:=omega) only [amL,sF,sG,↓reduceIte])
   all_goals first | omega | exact (congrArg (AO.arr 1) (Ad6 [] (by omega))).symm | trace_state
theorem Awg (s:Sto):Bf Try.prog 9 [avO s] (bl (Aoj s)):=by
  refine Au (v:=[]) (q:=[]) (N:=12) (rs:=[.tmp 2]) Try.func9 rfl rfl rfl rfl rfl ?_
  refine Af fun K1 hK1=>?_
  simp (disch:=omega) only [amL,sA,↓reduceIte]
  refine hK1 _ ?_
  refine Af fun K2 hK2=>?_
  simp (disch:=omega) only [amL,amT,sA,sB,sE,sF,↓reduceIte,reduceCtorEq]
  repeat' first | (refine B2 (fun h=>?_) (fun h=>?_) <;> simp (disch:=omega) only [h,amL,amT,sA,sB,sC,sD,sE,sF,sG,sH,sI,sJ,sK,sL,sM,sN,sO,↓reduceIte,reduceCtorEq]) | (refine Ba (fun h=>?_) (fun h=>?_) <;> simp (disch:=omega) only [h,amL,amT,sA,sF,↓reduceIte,reduceCtorEq]) | (refine Am (by kernel_rfl) rfl (Akf s.t) (by first | exact .inl rfl | exact .inr (.inl rfl)) ?_ ; simp (disch:=omega) only [amL,sA,↓reduceIte])
  all_goals
   skip
   refine hK2 _ ?_
   refine Ae ?_
   try simp (disch:=omega) only [amL,↓reduceIte]
   all_goals first | (simp_all [Aoj]; done) | trace_state
theorem Apd (r:Rng):Bf Try.prog 54 [avR r] (avR r):=by
  refine Au (v:=[]) (q:=[]) (N:=8) (rs:=[.cell 2 52]) Try.func54 rfl rfl rfl rfl rfl ?_
  refine Af fun K1 hK1=>?_
  simp (disch:=omega) only [amL,amT,sA,sB,sF,↓reduceIte]
  refine hK1 _ ?_
  refine Af fun K2 hK2=>?_
  simp (disch:=omega) only [amL,amT,sA,sB,sE,sF,↓reduceIte,reduceCtorEq]
  refine hK2 _ ?_
  refine Ae ?_
  try simp (disch:=omega) only [amL,amT,sB,sF,↓reduceIte]
  all_goals rfl
theorem Aqt (s:Sto) (h1:s.t.w.length < 1000000) (h2:s.t.m.length < 1000000) (h3:s.t.v.length < 1000000) (h4:∀ r ∈ s.t.v,r.length < 1000000) (h5:s.c.length < 1000000):Bf Try.prog 13 [avO s] (avO s):=by
  refine Au (v:=[]) (q:=[]) (N:=39) (rs:=[.cell 2 44]) Try.func13 rfl rfl rfl rfl rfl ?_
  refine Af fun K1 hK1=>?_
  simp (disch:=omega) only [amL,amT,sA,sB,sF,↓reduceIte]
  refine hK1 _ ?_
  refine Aa fun K2 hK2=>?_
  refine Bk (by kernel_rfl) (by kernel_rfl) ?_
  simp (disch:=omega) only [amL,amT,sA,sB,sE,sF,↓reduceIte,reduceCtorEq]
  repeat' first | (refine Am (by kernel_rfl) rfl (Agx s.t h1 h2 h3 h4) (by first | exact .inl rfl | exact .inr (.inl rfl)) ?_ ; simp (disch:=omega) only [amL,amT,sA,sB,sE,sF,↓reduceIte,reduceCtorEq])
  refine hK2 _ ?_
  refine Aa fun K3 hK3=>?_
  refine Af fun K4 hK4=>?_
  simp (disch:=omega) only [amL,sA]
  refine hK4 _ ?_
  refine Ai ?_
  refine Jv 36 5 3 4 (by decide) rfl rfl rfl ?_
  refine A7 (α:=Nat) (fun k=>⟨T [(1,.ptr 1 0),(2,.ptr 2 0),(3,.ptr 3 0),(4,i64 (k:Int))],O [(1,.cells (cO s)),(2,.cells [Zu,Zu,Zu,i64 0,Zu]),(3,.cells [isl s.t.w,isl s.t.m,.p (slI s.t.v),i64 s.r,.own 36 k]),(36,.arr 5 ((s.c.take k).map Zk))]⟩) (fun k=>s.c.length - k) (fun k=>k≤s.c.length) 0 ?_ ?_ (fun k hx5 K5 hK5=>?_)
  · exact Nat.zero_le _
  · refine B7 ?_ ?_ ?_ ?_ <;> (try simp (disch:=omega) only [amL,sF,sG,↓reduceIte]); all_goals first | rfl | trace_state
  have hk:=hx5
  refine Aa fun K6 hK6=>?_
  refine Af fun K7 hK7=>?_
  simp (disch:=omega) only [amL,amT,sA,sF,↓reduceIte,reduceCtorEq]
  refine hK7 _ ?_
  refine Ag rfl (fun h=>MT.x ?_) (fun h=>ME.x ?_)
  all_goals
   first
   |refine MT.mk ?_
    first
    |exact Bool.noConfusion h
    |skip
     try simp only [nrm] at h
     refine Aj ?_
     refine hK6 _ ?_
   |refine ME.mk ?_
    first
    |exact Bool.noConfusion h
    |skip
     try simp only [nrm] at h
     refine Bg ?_
     refine hK3 _ ?_
     refine Af fun K8 hK8=>?_
     simp (disch:=omega) only [amL,amT,sB,sF,↓reduceIte]
     refine hK8 _ ?_
     refine Ae ?_
     try simp (disch:=omega) only [amL,amT,sB,sF,↓reduceIte]
     all_goals first | (rw [List.take_of_length_le (by simp; omega),List.take_of_length_le (by omega)]; done) | trace_state
  all_goals
   skip
   refine Aa fun K9 hK9=>?_
   refine Ai ?_
   refine Af fun K10 hK10=>?_
   simp (disch:=omega) only [C5,amL,amT,sA,sB,sF,↓reduceIte,reduceCtorEq]
   refine hK10 _ ?_
   refine Bk (by kernel_rfl) (by kernel_rfl) ?_
   simp (disch:=omega) only [amL,amT,sA,sB,sE,sF,↓reduceIte,reduceCtorEq]
   repeat' first | (refine Am (by kernel_rfl) rfl (Apd ⟨_,_⟩) (by first | exact .inl rfl | exact .inr (.inl rfl)) ?_ ; simp (disch:=omega) only [amL,amT,sA,sB,sC,sE,sF,↓reduceIte,reduceCtorEq])
   refine hK9 _ ?_
   refine Ac ?_
   simp (disch:=omega) only [amL,amT,sA,sF,↓reduceIte]
   refine hK5 (k+1) _ ?_ ?_ (B7 ?_ ?_ ?_ ?_)
   all_goals (try simp (disch:=omega) only [amL,sF,sG,↓reduceIte])
   all_goals first | omega | exact (congrArg (AO.arr 5) (Ad6 default (by omega))).symm | trace_state
end AM.Try
end
/- The statements: brewhouses, truths, readings that are read. -/
section
namespace AM.Try
open Go AM AM.Wort Go.ChangeShapes Go.WideShapes Go.ChangeAt Go.RowKit Go.Proofs
open Nat renaming reduceLT→sA,reduceAdd→sB,reduceMul→sC,reduceSub→sD,reduceLeDiff→sE,reduceEqDiff→sF,reduceBEq→sG
open Int renaming reduceAdd→sH,reduceSub→sI,reduceMul→sJ,reduceLT→sK,reduceLE→sL,reduceNeg→sM,reduceToNat→sN,reduceEq→sO
set_option maxRecDepth 100000
theorem Anz:laidOutB Try.prog=true:=by kernel_rfl
theorem Anj:mapsRowed Try.prog=true:=by kernel_rfl
theorem brP:BrP Try.prog:=⟨kids_rows Anz Anj,slices_full_of Try.prog (by kernel_rfl),Try.underlying4⟩
theorem tp_own:ownKnob Try.prog.godebug=none:=by kernel_rfl
theorem flN:Tx Try.prog 3 1:=Akx Try.underlying3
theorem Bbr:Tx Try.prog 34 2:=Sb Try.underlying34 (by kernel_rfl) (fun f hf=>by simp at hf; rcases hf with rfl | rfl <;> exact ⟨_,flN⟩) (by kernel_rfl)
theorem Ba4:Tx Try.prog 36 5:=Sb Try.underlying36 (by kernel_rfl) (fun f hf=>by simp at hf; rcases hf with rfl | rfl | rfl <;> first | exact ⟨_,flN⟩ | exact ⟨_,Bbr⟩) (by kernel_rfl)
theorem opI:Adc Try.prog 22 1 (fun ps=>∃ rows:List (List PV),(∀ r ∈ rows,r.length=1∧∃ ms:List Int,ms.length=1∧r=ms.map iv)∧ps=[.sl rows]):=Abk Try.underlying22 (by kernel_rfl) (by decide) (Tl flN)
theorem Azb:Adc Try.prog 23 1 (fun ps=>∃ rows:List (List PV),(∀ r ∈ rows,r.length=1∧∃ rs:List (List PV),(∀ r ∈ rs,r.length=1∧∃ ms:List Int,ms.length=1∧r=ms.map iv)∧r=[.sl rs])∧ps=[.sl rows]):=Abk Try.underlying23 (by kernel_rfl) (by decide) opI
theorem Bau:Adc Try.prog 26 1 (fun ps=>∃ rows:List (List PV),(∀ r ∈ rows,r.length=5∧∃ ms:List Int,ms.length=5∧r=ms.map iv)∧ps=[.sl rows]):=Abk Try.underlying26 (by kernel_rfl) (by decide) (Tl Ba4)
def Axy:List PV→Csk
 | [.val (.int .i64 a),.val (.int .i64 b),.val (.int .i64 c),.val (.int .i64 d),.val (.int .i64 e)]=>⟨a,⟨b,c⟩,⟨d,e⟩⟩
 | _=>default
def Ahj:List PV→Int
 | [.val (.int .i64 a)]=>a
 | _=>0
theorem Akn {rows:List (List PV)} (h:∀ r ∈ rows,r.length=1∧∃ ms:List Int,ms.length=1∧r=ms.map iv):rows=(rows.map Ahj).map V3:=by
 rw [List.map_map]
 refine ((List.map_congr_left fun r hr=>?_).trans (List.map_id rows)).symm
 obtain ⟨_,ms,h1,rfl⟩:=h r hr
 match ms,h1 with
 | [a],_=>rfl
theorem Ate {rows:List (List PV)} (h:∀ r ∈ rows,r.length=5∧∃ ms:List Int,ms.length=5∧r=ms.map iv):rows=(rows.map Axy).map Zk:=by
 rw [List.map_map]
 refine ((List.map_congr_left fun r hr=>?_).trans (List.map_id rows)).symm
 obtain ⟨_,ms,h1,rfl⟩:=h r hr
 match ms,h1 with
 | [a,b,c,d,e],_=>rfl
def Asy:List PV→List Int
 | [.sl rows]=>rows.map Ahj
 | _=>[]
theorem Aoz {rows:List (List PV)} (h:∀ r ∈ rows,r.length=1∧∃ rs:List (List PV),(∀ r ∈ rs,r.length=1∧∃ ms:List Int,ms.length=1∧r=ms.map iv)∧r=[.sl rs]):rows=(rows.map Asy).map Hh:=by
 rw [List.map_map]
 refine ((List.map_congr_left fun r hr=>?_).trans (List.map_id rows)).symm
 obtain ⟨_,rs,h1,rfl⟩:=h r hr
 show [PV.sl ((rs.map Ahj).map V3)]=[.sl rs]
 rw [← Akn h1]
section
variable {H:Type} {enc:TypeId × Value→H} {W:World} {base:Nat} {v:Value} {d:DataW H} {p:List MemPlace}
theorem Azv {l:List Value} (h:l.length=5):∃ a b c d e,l=[a,b,c,d,e]:=by
 match l,h with
 | [a,b,c,d,e],_=>exact ⟨a,b,c,d,e,rfl⟩
theorem open_sto (hv:Value.okWide Try.prog W .any base 28 v) (h:DataW.Trod enc Try.prog W 0 (fun _=>true) true 28 v d p):∃ s:Sto,True∧∀ θ,Ar θ (fun _=>False) W (avO s) v:=by
 simp only [Value.okWide,Try.underlying28] at hv
 obtain ⟨cs,rfl,_⟩:=hv
 obtain ⟨n,hn⟩:=h
 obtain ⟨l⟩:=cs
 obtain ⟨xs,n',_,_,hl,hxs,hg⟩:=DataW.trod_struct Try.underlying28 hn
 have hl5:l.length=5:=hl.trans (by kernel_rfl)
 obtain ⟨v0,v1,v2,v3,v4,rfl⟩:=Azv hl5
 have c25:Try.prog.cellsOf 25=3:=by kernel_rfl
 have c22:Try.prog.cellsOf 22=1:=by kernel_rfl
 have c23:Try.prog.cellsOf 23=1:=by kernel_rfl
 have c3:Try.prog.cellsOf 3=1:=by kernel_rfl
 have c26:Try.prog.cellsOf 26=1:=by kernel_rfl
 have hx3:xs.length=3:=hxs
 have g0:DataW.trod enc Try.prog W 0 (fun _=>true) true n' 25 (List.take (Try.prog.cellsOf 25) (List.drop 0 [v0,v1,v2,v3,v4]))=xs[0]?:=hg 0 _ rfl
 have g1:DataW.trod enc Try.prog W 0 (fun _=>true) true n' 3 (List.take (Try.prog.cellsOf 3) (List.drop 3 [v0,v1,v2,v3,v4]))=xs[1]?:=hg 1 _ rfl
 have g2:DataW.trod enc Try.prog W 0 (fun _=>true) true n' 26 (List.take (Try.prog.cellsOf 26) (List.drop 4 [v0,v1,v2,v3,v4]))=xs[2]?:=hg 2 _ rfl
 try dsimp only at g0 g1 g2
 rw [c25] at g0
 rw [c3] at g1
 rw [c26] at g2
 obtain ⟨x0,g0⟩:=Kc g0 (by omega)
 obtain ⟨x1,g1⟩:=Kc g1 (by omega)
 obtain ⟨x2,g2⟩:=Kc g2 (by omega)
 obtain ⟨ys,n2,_,_,_,hys,hh⟩:=DataW.trod_struct Try.underlying25 g0
 have hy3:ys.length=3:=hys
 have k0:DataW.trod enc Try.prog W 0 (fun _=>true) true n2 22 (List.take (Try.prog.cellsOf 22) (List.drop 0 [v0,v1,v2]))=ys[0]?:=hh 0 _ rfl
 have k1:DataW.trod enc Try.prog W 0 (fun _=>true) true n2 22 (List.take (Try.prog.cellsOf 22) (List.drop 1 [v0,v1,v2]))=ys[1]?:=hh 1 _ rfl
 have k2:DataW.trod enc Try.prog W 0 (fun _=>true) true n2 23 (List.take (Try.prog.cellsOf 23) (List.drop 2 [v0,v1,v2]))=ys[2]?:=hh 2 _ rfl
 try dsimp only at k0 k1 k2
 rw [c22] at k0 k1
 rw [c23] at k2
 obtain ⟨z0,k0⟩:=Kc k0 (by omega)
 obtain ⟨z1,k1⟩:=Kc k1 (by omega)
 obtain ⟨z2,k2⟩:=Kc k2 (by omega)
 obtain ⟨p0,⟨r0,e0,q0⟩,u0⟩:=Qg (v:=v0) opI k0
 obtain ⟨p1,⟨r1,e1,q1⟩,u1⟩:=Qg (v:=v1) opI k1
 obtain ⟨p2,⟨r2,e2,q2⟩,u2⟩:=Qg (v:=v2) Azb k2
 obtain ⟨p3,⟨r3,e3,q3⟩,u3⟩:=Qg (v:=v3) (Tl flN) g1
 obtain ⟨p4,⟨r4,e4,q4⟩,u4⟩:=Qg (v:=v4) Bau g2
 cases q0; cases q1; cases q2; cases q4
 obtain ⟨m,rfl⟩:∃ m:Int,p3=iv m:=by
  match r3,e3,q3 with
  | [m],_,q3=>exact ⟨m,by simpa using q3⟩
 rw [Akn e0] at u0
 rw [Akn e1] at u1
 rw [Aoz e2] at u2
 rw [Ate e4] at u4
 refine ⟨⟨⟨r0.map Ahj,r1.map Ahj,r2.map Asy⟩,m,r4.map Axy⟩,trivial,fun θ=>.agg _ _ rfl (fun i hi=>?_) (fun i x hx=>?_)⟩
 ·match i,hi with
  | 0,_=>exact u0.oneCell
  | 1,_=>exact u1.oneCell
  | 2,_=>exact u2.oneCell
  | 3,_=>exact u3.oneCell
  | 4,_=>exact u4.oneCell
  | i+5,hi=>exact absurd hi (by simp)
 ·match i,hx with
  | 0,hx=>cases hx; exact .p _ _ u0
  | 1,hx=>cases hx; exact .p _ _ u1
  | 2,hx=>cases hx; exact .p _ _ u2
  | 3,hx=>cases hx; exact .p _ _ u3
  | 4,hx=>cases hx; exact .p _ _ u4
  | i+5,hx=>simp at hx
end
end AM.Try
end
