/- Lemmas for the proof: more of the program's functions, walked on the abstract machine. -/
import Derived.Test.YtbgiddcgdgdmbaaQ6
/- Beers: sums of losses, as the reference has them. -/
section
namespace AM.Wort
open Go AM Go.Proofs
theorem loss_first {l:List Int} (h:De l=0):l.getD 0 0=0:=by
 unfold De at h
 split at h
 ·cases h
 ·split at h
  ·cases h
  ·rename_i h1 h2
   by_cases e:l.getD 0 0=0
   ·exact e
   ·exact absurd (.inr (.inr e)) h2
def sumN (l:List Int):Nat→Int
 | 0=>0
 | s+1=>sumN l s+(l.getD (s / 10+1) 0 - l.getD (s / 10) 0)
theorem lostN_sum {l:List Int} (hl:Pu l) (h0:l.getD 0 0=0):∀ s:Nat,s≤10 * (l.length - 1)→V3 l (s:Int)=sumN l s
 | 0,_=>by
  have a1:=hl.len
  have hk:Cg l ((0:Nat):Int)=0:=by unfold Cg; omega
  unfold V3 sumN
  rw [hk,show ((0:Int)).toNat=0 from rfl,h0]
  simp
 | s+1,h=>by
  have a1:=hl.len
  have ih:=lostN_sum hl h0 s (by omega)
  unfold sumN
  rw [← ih]
  have hq:s / 10≤l.length - 2:=by omega
  have hk:Cg l (s:Int)=((s / 10:Nat):Int):=by unfold Cg; omega
  by_cases hr:s % 10=9
  ·by_cases hq2:s / 10+1≤l.length - 2
   ·have hk2:Cg l ((s+1:Nat):Int)=((s / 10+1:Nat):Int):=by unfold Cg; omega
    unfold V3
    rw [hk,hk2,Int.toNat_natCast,Int.toNat_natCast]
    have e1:((s+1:Nat):Int) - ((s / 10+1:Nat):Int) * 10=0:=by omega
    have e2:(s:Int) - ((s / 10:Nat):Int) * 10=9:=by omega
    rw [e1,e2]; omega
   ·have hk2:Cg l ((s+1:Nat):Int)=((s / 10:Nat):Int):=by unfold Cg; omega
    unfold V3
    rw [hk,hk2,Int.toNat_natCast]
    have e1:((s+1:Nat):Int) - ((s / 10:Nat):Int) * 10=10:=by omega
    have e2:(s:Int) - ((s / 10:Nat):Int) * 10=9:=by omega
    rw [e1,e2]; omega
  ·have hk2:Cg l ((s+1:Nat):Int)=((s / 10:Nat):Int):=by unfold Cg; omega
   unfold V3
   rw [hk,hk2,Int.toNat_natCast]
   have e1:((s+1:Nat):Int) - ((s / 10:Nat):Int) * 10=((s:Int) - ((s / 10:Nat):Int) * 10)+1:=by omega
   rw [e1]
   generalize (s:Int) - ((s / 10:Nat):Int) * 10=p
   generalize l.getD (s / 10) 0=a
   generalize l.getD (s / 10+1) 0=c
   rw [Int.mul_add,show a * (10 - (p+1))=a * (10 - p) - a by rw [show (10:Int) - (p+1)=10 - p - 1 by omega,Int.mul_sub a (10 - p) 1,Int.mul_one],Int.mul_one]
   omega
theorem sumN_mono {l:List Int} (hl:Pu l) {s:Nat}:∀ d:Nat,s+d≤10 * (l.length - 1)→sumN l s≤sumN l (s+d)
 | 0,_=>Int.le_refl _
 | d+1,h=>by
  have a1:=hl.len
  have ih:=sumN_mono hl (s:=s) d (by omega)
  have:=Amd hl.srt (j:=(s+d) / 10+1) (by omega) (by omega)
  rw [Nat.add_sub_cancel] at this
  show sumN l s≤sumN l (s+d)+(l.getD ((s+d) / 10+1) 0 - l.getD ((s+d) / 10) 0)
  omega
theorem lostF_sum {l:List Int} (hl:Pu l) (h0:l.getD 0 0=0) {s:Int} (h1:0≤s) (h2:s≤10 * ((l.length:Int) - 1)):Ma l s=(sumN l s.toNat+5) / 10:=by
 have a1:=hl.len
 obtain ⟨n,rfl⟩:∃ n:Nat,s=n:=⟨s.toNat,by omega⟩
 unfold Ma
 rw [lostN_sum hl h0 n (by omega),Int.toNat_natCast]
 omega
theorem lostF_mono {l:List Int} (hl:Pu l) (h0:l.getD 0 0=0) {s u:Int} (h1:0≤s) (hsu:s≤u) (h2:u≤10 * ((l.length:Int) - 1)):Ma l s≤Ma l u:=by
 have a1:=hl.len
 rw [lostF_sum hl h0 h1 (by omega),lostF_sum hl h0 (by omega) h2]
 have:=sumN_mono hl (s:=s.toNat) (u.toNat - s.toNat) (by omega)
 rw [show s.toNat+(u.toNat - s.toNat)=u.toNat by omega] at this
 omega
theorem lostF_zero {l:List Int} (hl:Pu l) (h0:l.getD 0 0=0):Ma l 0=0:=by
 have a1:=hl.len
 rw [lostF_sum hl h0 (by omega) (by omega)]
 rfl
theorem lostF_last {l:List Int} (hl:Pu l) (h0:l.getD 0 0=0) {s:Int} (h1:0≤s) (h2:s≤10 * ((l.length:Int) - 1)):Ma l s≤l.getD (l.length - 1) 0:=by
 have a1:=hl.len
 refine Int.le_trans (lostF_mono hl h0 h1 h2 (Int.le_refl _)) ?_
 have hk:Cg l (10 * ((l.length:Int) - 1))=(l.length:Int) - 2:=by unfold Cg; omega
 have hN:V3 l (10 * ((l.length:Int) - 1))=l.getD (l.length - 1) 0 * 10:=by
  unfold V3
  rw [hk]
  have e1:10 * ((l.length:Int) - 1) - ((l.length:Int) - 2) * 10=10:=by omega
  rw [e1,show ((l.length:Int) - 2).toNat+1=l.length - 1 by omega]
  simp
 unfold Ma; rw [hN]; omega
theorem orig_ok {l:List Int} (hl:De l=0) {g s:Int} (hg:0≤g∧g≤120) (hs:0≤s∧s≤10 * ((l.length:Int) - 1)):Qg l g s=(g+Ma l s,0):=by
 unfold Qg
 rw [if_neg (by omega),if_pos]
 simp only [inB,Bool.and_eq_true,decide_eq_true_eq]; omega
theorem mem_row {l:List Int} {lo s x:Int}:∀ {j:Nat},x ∈ Bb4 l lo s j↔∃ i:Nat,i < j∧x=lo+i+Ma l s
 | 0=>by simp [Bb4]
 | j+1=>by
  simp only [Bb4,List.mem_cons,mem_row (j:=j)]
  constructor
  ·rintro (rfl | ⟨i,hi,rfl⟩)
   ·exact ⟨j,by omega,rfl⟩
   ·exact ⟨i,by omega,rfl⟩
  ·rintro ⟨i,hi,rfl⟩
   by_cases e:i=j
   ·subst e; exact .inl rfl
   ·exact .inr ⟨i,by omega,rfl⟩
theorem mem_can {l:List Int} {g sp:Rng} {x:Int}:∀ {k:Nat},x ∈ Aqf l g sp k↔∃ i j:Nat,i < k∧j < Ri g∧x=g.lo+j+Ma l (sp.lo+i)
 | 0=>by simp [Aqf]
 | k+1=>by
  simp only [Aqf,List.mem_append,mem_can (k:=k),mem_row]
  constructor
  ·rintro (⟨j,hj,rfl⟩ | ⟨i,j,hi,hj,rfl⟩)
   ·exact ⟨k,j,by omega,hj,rfl⟩
   ·exact ⟨i,j,by omega,hj,rfl⟩
  ·rintro ⟨i,j,hi,hj,rfl⟩
   by_cases e:i=k
   ·subst e; exact .inl ⟨j,hj,rfl⟩
   ·exact .inr ⟨i,j,by omega,hj,rfl⟩
theorem can_any {l:List Int} {g sp r:Rng}:(N2 l g sp).any (Gb r)=true↔∃ a s:Int,(g.lo≤a∧a≤g.hi)∧(sp.lo≤s∧s≤sp.hi)∧r.lo≤a+Ma l s∧a+Ma l s≤r.hi:=by
 rw [List.any_eq_true]
 unfold N2
 constructor
 ·rintro ⟨x,hx,hr⟩
  obtain ⟨i,j,hi,hj,rfl⟩:=mem_can.1 hx
  simp only [Gb,inB,Bool.and_eq_true,decide_eq_true_eq] at hr
  unfold Ri at hi hj
  exact ⟨g.lo+j,sp.lo+i,⟨by omega,by omega⟩,⟨by omega,by omega⟩,hr⟩
 ·rintro ⟨a,s,h1,h2,h3⟩
  refine ⟨a+Ma l s,mem_can.2 ⟨(s - sp.lo).toNat,(a - g.lo).toNat,by unfold Ri; omega,by unfold Ri; omega,?_⟩,?_⟩
  ·rw [show g.lo+((a - g.lo).toNat:Int)=a by omega,show sp.lo+((s - sp.lo).toNat:Int)=s by omega]
  ·simp only [Gb,inB,Bool.and_eq_true,decide_eq_true_eq]; exact h3
theorem beer_made {l:List Int} (hA:De l=0) {g s h u n m q:Int} (hg:0≤g∧g≤h∧h≤120) (hs:0≤s∧s≤u∧u≤10 * ((l.length:Int) - 1)) (hn:n=g+Ma l s) (hm:m=h+Ma l u) (hq:(n=0∧q=1)∨(0 < n∧q=0)) :
  Kw l ⟨g,h⟩ ⟨s,u⟩ [⟨n,n⟩,⟨m,m⟩,⟨m+1,m+99⟩,⟨0,n - 1+q⟩]=.tup [.p (.sl (if n=0 then [[iv 0],[iv 1],[iv 3]] else [[iv 0],[iv 1]])),i64 0]:=by
 have hok:=Al5 hA
 have h0:=loss_first hA
 have a1:=hok.len
 have hmo:=lostF_mono hok h0 hs.1 hs.2.1 hs.2.2
 have hb:=L5 hok (s:=s) hs.1 (by omega)
 have hB:Sn l ⟨g,h⟩ ⟨s,u⟩ [⟨n,n⟩,⟨m,m⟩,⟨m+1,m+99⟩,⟨0,n - 1+q⟩]=true:=by
  unfold Sn J2 Gb inB
  simp only [Bool.and_eq_true,decide_eq_true_eq,List.all_cons,List.all_nil]
  refine ⟨⟨by omega,⟨by omega,by omega⟩,by omega,by omega⟩,⟨by omega,⟨by omega,by omega⟩,by omega,by omega⟩,by omega,by omega,by omega,by omega,trivial⟩
 have mono:∀ a t:Int,(g≤a∧a≤h)→(s≤t∧t≤u)→n≤a+Ma l t∧a+Ma l t≤m:=fun a t ha ht=>by
  have e1:=lostF_mono hok h0 hs.1 ht.1 (by omega)
  have e2:=lostF_mono hok h0 (s:=t) (u:=u) (by omega) ht.2 hs.2.2
  omega
 have c0:(N2 l ⟨g,h⟩ ⟨s,u⟩).any (Gb ⟨n,n⟩)=true:=can_any.2 ⟨g,s,⟨Int.le_refl _,hg.2.1⟩,⟨Int.le_refl _,hs.2.1⟩,by show n≤_; omega,by show _≤n; omega⟩
 have c1:(N2 l ⟨g,h⟩ ⟨s,u⟩).any (Gb ⟨m,m⟩)=true:=can_any.2 ⟨h,u,⟨hg.2.1,Int.le_refl _⟩,⟨hs.2.1,Int.le_refl _⟩,by show m≤_; omega,by show _≤m; omega⟩
 have c2:(N2 l ⟨g,h⟩ ⟨s,u⟩).any (Gb ⟨m+1,m+99⟩)=false:=by
  rw [Bool.eq_false_iff]
  intro e
  obtain ⟨a,t,ha,ht,e1,_⟩:=can_any.1 e
  have:=mono a t ha ht
  have e1:m+1≤a+Ma l t:=e1
  omega
 have c3:(N2 l ⟨g,h⟩ ⟨s,u⟩).any (Gb ⟨0,n - 1+q⟩)=decide (n=0):=by
  by_cases hn0:n=0
  ·rw [decide_eq_true hn0]
   exact can_any.2 ⟨g,s,⟨Int.le_refl _,hg.2.1⟩,⟨Int.le_refl _,hs.2.1⟩,by show 0≤_; omega,by show _≤n - 1+q; omega⟩
  ·rw [decide_eq_false hn0,Bool.eq_false_iff]
   intro e
   obtain ⟨a,t,ha,ht,_,e2⟩:=can_any.1 e
   have:=mono a t ha ht
   have e2:a+Ma l t≤n - 1+q:=e2
   omega
 unfold Kw
 rw [if_neg (by omega),if_pos hB]
 have hO:Je (N2 l ⟨g,h⟩ ⟨s,u⟩) [⟨n,n⟩,⟨m,m⟩,⟨m+1,m+99⟩,⟨0,n - 1+q⟩] 4=if n=0 then [0,1,3] else [0,1]:=by
  rw [show (4:Nat)=3+1 from rfl]
  by_cases hn0:n=0
  ·rw [Ab3 (k:=3) (by show _=true; rw [show ([⟨n,n⟩,⟨m,m⟩,⟨m+1,m+99⟩,⟨0,n - 1+q⟩]:List Rng).getD 3 default=⟨0,n - 1+q⟩ from rfl,c3]; exact decide_eq_true hn0),
    show (3:Nat)=2+1 from rfl,Agn (k:=2) c2,show (2:Nat)=1+1 from rfl,Ab3 (k:=1) c1,show (1:Nat)=0+1 from rfl,Ab3 (k:=0) c0,if_pos hn0]
   rfl
  ·rw [Agn (k:=3) (by rw [show ([⟨n,n⟩,⟨m,m⟩,⟨m+1,m+99⟩,⟨0,n - 1+q⟩]:List Rng).getD 3 default=⟨0,n - 1+q⟩ from rfl,c3]; exact decide_eq_false hn0),
    show (3:Nat)=2+1 from rfl,Agn (k:=2) c2,show (2:Nat)=1+1 from rfl,Ab3 (k:=1) c1,show (1:Nat)=0+1 from rfl,Ab3 (k:=0) c0,if_neg hn0]
   rfl
 show AV.tup [.p (.sl ((Je _ _ 4).map Arm)),i64 0]=_
 rw [hO]
 split <;> rfl
end AM.Wort
end
/- The law of beers. -/
section
namespace AM.Try
open Go AM AM.Wort Go.Proofs
open Nat renaming reduceLT→sA,reduceAdd→sB,reduceMul→sC,reduceSub→sD,reduceLeDiff→sE,reduceEqDiff→sF,reduceBEq→sG
open Int renaming reduceAdd→sH,reduceSub→sI,reduceMul→sJ,reduceLT→sK,reduceLE→sL,reduceNeg→sM,reduceToNat→sN,reduceEq→sO
set_option maxRecDepth 100000
set_option maxHeartbeats 16000000
theorem c_wortBeer (l:List Int) (g0 s0 m0:Nat) (_:∀ m ∈ l,inR m=true) (k1:g0 < 256) (k2:s0 < 256) (k3:m0 < 256):Bo Try.prog 7 [isl l,.p (.val (.int .u8 g0)),.p (.val (.int .u8 s0)),.p (.val (.int .u8 m0))] (bl true):=by
  refine Bg (v:=[]) (q:=[]) (N:=185) (rs:=[.tmp 8]) Try.func7 rfl rfl rfl rfl rfl ?_
  by_cases hA:De l=0
  case' pos=>
    have hok:=Al5 hA
    have h0:=loss_first hA
    have a1:=hok.len
    have a2:=hok.len2
    obtain ⟨g,hg⟩:∃ g,g=(g0:Int) % 121:=⟨_,rfl⟩
    obtain ⟨s,hs⟩:∃ s,s=(s0:Int) % (10 * ((l.length:Int) - 1)+1):=⟨_,rfl⟩
    have hgt:(g0:Int).tmod 121=g:=by rw [hg]; exact Int.tmod_eq_emod_of_nonneg (by omega)
    have hst:(s0:Int).tmod (10 * ((l.length:Int) - 1)+1)=s:=by rw [hs]; exact Int.tmod_eq_emod_of_nonneg (by omega)
    have hgb:0≤g∧g≤120:=by omega
    have hsb:0≤s∧s≤10 * ((l.length:Int) - 1):=by
      have e1:=Int.emod_nonneg (s0:Int) (show 10 * ((l.length:Int) - 1)+1≠0 by omega)
      have e2:=Int.emod_lt_of_pos (s0:Int) (show 0 < 10 * ((l.length:Int) - 1)+1 by omega)
      omega
    have hc1:(m0:Int).tmod 9=(m0:Int) % 9:=Int.tmod_eq_emod_of_nonneg (by omega)
    have hc2:(m0:Int).tdiv 9=(m0:Int) / 9:=Int.tdiv_eq_ediv_of_nonneg (by omega)
    have hc3:((m0:Int) / 9).tmod 9=(m0:Int) / 9 % 9:=Int.tmod_eq_emod_of_nonneg (by omega)
    obtain ⟨h',hh⟩:∃ x,(if g+(m0:Int) % 9 < 120 then g+(m0:Int) % 9 else 120)=x:=⟨_,rfl⟩
    obtain ⟨u,hu⟩:∃ x,(if s+(m0:Int) / 9 % 9 < 10 * ((l.length:Int) - 1) then s+(m0:Int) / 9 % 9 else 10 * ((l.length:Int) - 1))=x:=⟨_,rfl⟩
    have hhb:g≤h'∧h'≤120:=by rw [← hh]; split <;> omega
    have hub:s≤u∧u≤10 * ((l.length:Int) - 1):=by rw [← hu]; split <;> omega
    obtain ⟨n,hn⟩:∃ n,n=g+Ma l s:=⟨_,rfl⟩
    obtain ⟨m,hm⟩:∃ m,m=h'+Ma l u:=⟨_,rfl⟩
    have b1:=L5 hok (s:=s) hsb.1 hsb.2
    have b2:=L5 hok (s:=u) (by omega) hub.2
    have b3:=lostF_mono hok h0 hsb.1 hub.1 hub.2
    have b4:=lostF_last hok h0 hsb.1 hsb.2
    have htn:((l.length:Int) - 1).toNat=l.length - 1:=by omega
    obtain ⟨p,hp⟩:∃ x,(if 0 < 1 - n then 1 - n else 0)=x:=⟨_,rfl⟩
    obtain ⟨q,hq⟩:∃ x,(if p < 1 then p else 1)=x:=⟨_,rfl⟩
    have hqb:(n=0∧q=1)∨(0 < n∧q=0):=by rw [← hq,← hp]; split <;> split <;> omega
    have o1:Bo Try.prog 26 [isl l,i64 g,i64 s] (.tup [i64 n,i64 0]):=by
      have:=Az5 l g s (by omega); rw [orig_ok hA hgb hsb,← hn] at this; exact this
    have o2:Bo Try.prog 26 [isl l,i64 h',i64 u] (.tup [i64 m,i64 0]):=by
      have:=Az5 l h' u (by omega); rw [orig_ok hA (by omega) (by omega),← hm] at this; exact this
    have o3:Bo Try.prog 26 [isl l,i64 g,i64 0] (.tup [i64 g,i64 0]):=by
      have:=Az5 l g 0 (by omega); rw [orig_ok hA hgb (by omega),lostF_zero hok h0,Int.add_zero] at this; exact this
    have o4:=Baq l ⟨g,h'⟩ ⟨s,u⟩ [⟨n,n⟩,⟨m,m⟩,⟨m+1,m+99⟩,⟨0,n - 1+q⟩] (by omega) (by simp)
    rw [beer_made hA ⟨hgb.1,hhb.1,hhb.2⟩ ⟨hsb.1,hub.1,hub.2⟩ hn hm hqb] at o4
    by_cases hn0:n=0
    case' pos=>rw [if_pos hn0] at o4
    case' neg=>rw [if_neg hn0] at o4
  all_goals
    first
    | (have e:=o4)
    | (have htn:=hA; have hgt:=hA; have hst:=hA; have hc1:=hA; have hc2:=hA; have hc3:=hA; have hh:=hA; have hu:=hA; have hp:=hA; have hq:=hA)
    refine Aa fun K1 hK1=>?_
    refine Ac ?_
    simp (disch:=omega) only [amL,sA,sB]
    refine hK1 _ ?_
    refine Aa fun K2 hK2=>?_
    refine Aa fun K3 hK3=>?_
    refine Ac ?_
    simp (disch:=omega) only [amL,amT,sA,↓reduceIte,reduceCtorEq]
    repeat' first | (refine Dp (fun h=>?_) (fun h=>?_) <;> simp (disch:=omega) only [h,amL,sA,sF,↓reduceIte,reduceCtorEq]) | (refine B0 (fun h=>?_) (fun h=>?_) <;> simp (disch:=omega) only [h,Sh,N8,Lk,Jj,Fl,htn,hgt,hst,hc1,hc2,hc3,hh,hu,hp,hq,Ba,ne_eq,amL,amT,sA,sB,sC,sD,sE,sF,sG,sH,sI,sJ,sK,sL,sM,sN,sO,↓reduceIte,reduceCtorEq]) | (refine Aq (by kernel_rfl) rfl (Bgo l (by omega)) (by first | exact .inl rfl | exact .inr (.inl rfl)) ?_ ; simp (disch:=omega) only [htn,ne_eq,amL,amT,sA,sF,↓reduceIte])
    all_goals
     skip
     refine hK3 _ ?_
     refine Aj rfl (fun h=>?_) (fun h=>?_)
     ·first
      | exact Bool.noConfusion h
      | ((try simp only [Bool.not_eq_true',decide_eq_false_iff_not,decide_not] at h) ; exfalso ; omega)
      |skip
       try simp only [] at h
       refine Aa fun K4 hK4=>?_
       refine Ac ?_
       simp (disch:=omega) only [amL]
       repeat' first | (refine Aq (by kernel_rfl) rfl (Bgm) (by first | exact .inl rfl | exact .inr (.inl rfl)) ?_ ; simp (disch:=omega) only [amL,sA,↓reduceIte])
       refine hK4 _ ?_
       refine Ah ?_
       try simp (disch:=omega) only [amL,↓reduceIte]
       all_goals first | rfl | (exfalso; omega) | trace_state
     ·first
      | exact Bool.noConfusion h
      | ((try simp only [decide_eq_true_eq,Bool.not_eq_false',decide_not] at h) ; exfalso ; omega)
      |skip
       try simp only [decide_eq_true_eq,Bool.not_eq_false',decide_not] at h
       refine Ak ?_
       refine hK2 _ ?_
       refine Aa fun K5 hK5=>?_
       refine Ac ?_
       simp (disch:=omega) only [amL,amT,sA,↓reduceIte,reduceCtorEq]
       refine hK5 _ ?_
       refine Aa fun K6 hK6=>?_
       refine Cb (by kernel_rfl) (by kernel_rfl) ?_
       simp (disch:=omega) only [hgt,hst,amL,amT,sA,sF,sO,↓reduceIte,reduceCtorEq]
       refine hK6 _ ?_
       refine Aa fun K7 hK7=>?_
       refine Ac ?_
       simp (disch:=omega) only [hc1,hc2,hc3,hh,hu,amL,amT,sA,sF,sO,↓reduceIte,reduceCtorEq]
       refine hK7 _ ?_
       refine Aa fun K8 hK8=>?_
       refine Ac ?_
       simp (disch:=omega) only [amL,sA,↓reduceIte,reduceCtorEq]
       repeat' first | (refine Aq (by kernel_rfl) rfl (Bgn l (by omega)) (by first | exact .inl rfl | exact .inr (.inl rfl)) ?_ ; simp (disch:=omega) only [amL,sA,sF,↓reduceIte]) | (refine Aq (by kernel_rfl) rfl (by first | exact o1 | exact o2 | exact o3) (by first | exact .inl rfl | exact .inr (.inl rfl)) ?_ ; simp (disch:=omega) only [amL,sA,sF,↓reduceIte])
       refine hK8 _ ?_
       refine Aa fun K9 hK9=>?_
       refine Ac ?_
       simp (disch:=omega) only [amL,sA,↓reduceIte,reduceCtorEq]
       repeat' first | (refine Aq (by kernel_rfl) rfl (Bgn l (by omega)) (by first | exact .inl rfl | exact .inr (.inl rfl)) ?_ ; simp (disch:=omega) only [amL,sA,sF,↓reduceIte]) | (refine Aq (by kernel_rfl) rfl (by first | exact o1 | exact o2 | exact o3) (by first | exact .inl rfl | exact .inr (.inl rfl)) ?_ ; simp (disch:=omega) only [amL,sA,sF,↓reduceIte])
       refine hK9 _ ?_
       refine Aa fun K10 hK10=>?_
       refine Ac ?_
       simp (disch:=omega) only [amL,sA,↓reduceIte,reduceCtorEq]
       repeat' first | (refine Aq (by kernel_rfl) rfl (Bgn l (by omega)) (by first | exact .inl rfl | exact .inr (.inl rfl)) ?_ ; simp (disch:=omega) only [amL,sA,sF,↓reduceIte]) | (refine Aq (by kernel_rfl) rfl (by first | exact o1 | exact o2 | exact o3) (by first | exact .inl rfl | exact .inr (.inl rfl)) ?_ ; simp (disch:=omega) only [amL,sA,sF,↓reduceIte])
       refine hK10 _ ?_
       refine Aa fun K11 hK11=>?_
       refine My 27 ?_
       simp (disch:=omega) only [N8,Lk,amL,sA,↓reduceIte,reduceCtorEq]
       repeat' first | (refine Aq (by kernel_rfl) rfl (Bgn l (by omega)) (by first | exact .inl rfl | exact .inr (.inl rfl)) ?_ ; simp (disch:=omega) only [N8,Lk,amL,sA,sF,↓reduceIte]) | (refine Aq (by kernel_rfl) rfl (Nq _ _) (by first | exact .inl rfl | exact .inr (.inl rfl)) ?_ ; simp (disch:=omega) only [Sh,N8,Lk,Jj,Fl,hp,hq,amL,amT,sA,sB,sC,sE,sF,↓reduceIte,reduceCtorEq]) | (refine Aq (by kernel_rfl) rfl (o4) (by first | exact .inl rfl | exact .inr (.inl rfl)) ?_ ; simp (disch:=omega) only [amL,sA,sF,↓reduceIte])
       refine hK11 _ ?_
       refine Aa fun K12 hK12=>?_
       refine Aa fun K13 hK13=>?_
       refine Ac ?_
       simp (disch:=omega) only [ne_eq,amL,amT,sA,sF,↓reduceIte]
       repeat' first | (refine Dp (fun h=>?_) (fun h=>?_) <;> simp (disch:=omega) only [h,htn,Ba,ne_eq,amL,amT,sA,sF,↓reduceIte,reduceCtorEq]) | (refine B0 (fun h=>?_) (fun h=>?_) <;> simp (disch:=omega) only [h,Sh,N8,Lk,Jj,Fl,htn,hgt,hst,hc1,hc2,hc3,hh,hu,hp,hq,Ba,ne_eq,amL,amT,sA,sB,sC,sD,sE,sF,sG,sH,sI,sJ,sK,sL,sM,sN,sO,↓reduceIte,reduceCtorEq])
       all_goals
        skip
        refine hK13 _ ?_
        refine Aj rfl (fun h=>?_) (fun h=>?_)
        ·first
         | exact Bool.noConfusion h
         | ((try simp only [decide_eq_true_eq] at h) ; exfalso ; omega)
         |skip
          try simp only [Bool.not_eq_true',decide_eq_true_eq,decide_eq_false_iff_not,Bool.and_eq_true,Bool.not_eq_false',Bool.not_not,decide_not,Bool.not_true,Bool.not_false] at h
          refine Aa fun K14 hK14=>?_
          refine Ac ?_
          simp (disch:=omega) only [Sh,N8,Lk,Jj,Fl,htn,hgt,hst,hc1,hc2,hc3,hh,hu,hp,hq,Ba,ne_eq,amL,amT,sA,sB,sC,sD,sE,sF,sG,sH,sI,sJ,sK,sL,sM,sN,sO,↓reduceIte,reduceCtorEq]
          refine hK14 _ ?_
          refine Ah ?_
          try simp (disch:=omega) only [Sh,N8,Lk,Jj,Fl,htn,hgt,hst,hc1,hc2,hc3,hh,hu,hp,hq,Ba,ne_eq,amL,amT,sA,sB,sC,sD,sE,sF,sG,sH,sI,sJ,sK,sL,sM,sN,sO,↓reduceIte,reduceCtorEq]
          all_goals first | rfl | (exfalso; omega) | trace_state
        ·first
         | exact Bool.noConfusion h
         | ((try simp only [decide_eq_false_iff_not] at h) ; exfalso ; omega)
         |skip
          try simp only [decide_eq_false_iff_not] at h
          refine Ak ?_
          refine hK12 _ ?_
          refine Aa fun K15 hK15=>?_
          refine Ac ?_
          simp (disch:=omega) only [amL,amT,sA,sB,sF,sH,sK,sL,sN,sO,↓reduceIte]
          repeat' first | (refine Dp (fun h=>?_) (fun h=>?_) <;> simp (disch:=omega) only [h,amL,sA,sF,sI,sM,↓reduceIte]) | (refine B0 (fun h=>?_) (fun h=>?_) <;> simp (disch:=omega) only [h,Sh,N8,Lk,Jj,Fl,htn,hgt,hst,hc1,hc2,hc3,hh,hu,hp,hq,Ba,ne_eq,amL,amT,sA,sB,sC,sD,sE,sF,sG,sH,sI,sJ,sK,sL,sM,sN,sO,↓reduceIte,reduceCtorEq]) | (refine Aq (by kernel_rfl) rfl (Bgm) (by first | exact .inl rfl | exact .inr (.inl rfl)) ?_ ; simp (disch:=omega) only [amL,sA,sF,sM,↓reduceIte])
          all_goals
           skip
           refine hK15 _ ?_
           refine Ah ?_
           try simp (disch:=omega) only [amL,sM,↓reduceIte]
           all_goals first | rfl | (exfalso; omega) | trace_state
end AM.Try
end
