/- Lemmas for the proof: an abstract machine over the program's form in Lean, and the program's functions walked on it. -/
import Derived.Test.YtbgiddcgdgdmbaaQ5
import Derived.KernelRfl
/- Closed runs: the bounds, the readings that are left out, an original gravity, a plan: the document's examples. -/
section
namespace AM.Try
open Go AM AM.Wort Go.Proofs
open Nat renaming reduceLT→sA,reduceAdd→sB,reduceMul→sC,reduceSub→sD,reduceLeDiff→sE,reduceEqDiff→sF,reduceBEq→sG
open Int renaming reduceAdd→sH,reduceSub→sI,reduceMul→sJ,reduceLT→sK,reduceLE→sL,reduceNeg→sM,reduceToNat→sN,reduceEq→sO
set_option maxRecDepth 100000
set_option maxHeartbeats 16000000
def two (most:Int):Ed:=⟨[⟨⟨10,most⟩,⟨60,60⟩,20⟩,⟨⟨5,5⟩,⟨30,30⟩,12⟩],[⟨0,0,1,⟨4,4⟩⟩,⟨2,1,1,⟨1,2⟩⟩,⟨1,0,0,⟨2,2⟩⟩]⟩
theorem Afx:Bv Try.prog 26 [.p (.sl [[iv 0],[iv 4],[iv 9],[iv 14]]),i64 10,i64 15] (.tup [i64 17,i64 0]):=Hn Ru 10000 (by kernel_rfl)
theorem Apm:Bv Try.prog 41 [avB (two 11)] (.tup [.p (.sl [[iv 8,iv 9,iv 360,iv 420,iv 45,iv 47],[iv 7,iv 8,iv 390,iv 390,iv 49,iv 56]]),i64 0]):=Hn Ru 10000 (by kernel_rfl)
theorem Aqd:Bv Try.prog 36 [avB (two 11),.p (.sl [[iv 1,iv 7,iv 7,iv 40,iv 50],[iv 0,iv 9,iv 9,iv 0,iv 99]])] (.tup [.p (.sl [[iv 0]]),i64 0]):=Hn Ru 10000 (by kernel_rfl)
theorem Ap3:Bv Try.prog 37 [avB (two 10),.p (.sl [[iv 0,iv 0,iv 1,iv 4,iv 4],[iv 1,iv 0,iv 0,iv 2,iv 2]]),i64 8,i64 45,i64 2] (bl true):=Hn Ru 10000 (by kernel_rfl)
theorem Bae (a b:Int):Bv Try.prog 126 [.p (.sl [[iv a],[iv b]])] (i64 (min a b)):=by
  refine Bo (v:=[]) (q:=[]) (N:=25) (rs:=[.tmp 2]) Try.func126 rfl rfl rfl rfl rfl ?_
  refine Ad fun K1 hK1=>?_
  simp (disch:=omega) only [amL,sA]
  refine hK1 _ ?_
  refine Ab fun K2 hK2=>?_
  refine Ad fun K3 hK3=>?_
  simp (disch:=omega) only [amL,amT,sA,sB,sH,sK,↓reduceIte,reduceCtorEq]
  refine hK3 _ ?_
  refine Al rfl (fun h=>MT.x ?_) (fun h=>ME.x ?_)
  all_goals
   first
   |refine MT.mk ?_
    first
    |exact Bool.noConfusion h
    |skip
     try simp only [nrm] at h
     exfalso; omega
   |refine ME.mk ?_
    first
    |exact Bool.noConfusion h
    |skip
     try simp only [] at h
     refine Am ?_
     refine hK2 _ ?_
  all_goals
   skip
   refine Ad fun K4 hK4=>?_
   simp (disch:=omega) only [amL,amT,sA,sB,sH,sK,sL,sN,↓reduceIte,reduceCtorEq]
   refine hK4 _ ?_
   refine Ab fun K5 hK5=>?_
   refine Ad fun K6 hK6=>?_
   simp (disch:=omega) only [amL,sA]
   refine hK6 _ ?_
   refine Ar ?_
   skip
   refine Bg (α:=Nat) (fun k=>⟨T [(0,.p (.sl [[iv a],[iv b]])),(3,i64 (if k=0 then a else min a b)),(4,i64 ((k:Int)+1))],O []⟩) (fun k=>1 - k) (fun k=>k≤1) 0 ?_ ?_ (fun k hx7 K7 hK7=>?_)
   · simp
   · refine Df ?_ ?_ ?_ ?_ <;> (try simp (disch:=omega) only [amL,sF,sH,↓reduceIte,reduceCtorEq]); all_goals rfl
   have hk:=hx7
   refine Ab fun K8 hK8=>?_
   refine Ad fun K9 hK9=>?_
   simp (disch:=omega) only [amL,amT,sA,sB,sF,sH,↓reduceIte,reduceCtorEq]
   refine hK9 _ ?_
   refine Al rfl (fun h=>MT.x ?_) (fun h=>ME.x ?_)
   all_goals
    first
    |refine MT.mk ?_
     first
     |exact Bool.noConfusion h
     |skip
      try simp only [nrm] at h
      refine Am ?_
      refine hK8 _ ?_
    |refine ME.mk ?_
     first
     |exact Bool.noConfusion h
     |skip
      try simp only [nrm] at h
      refine Bq ?_
      refine hK5 _ ?_
      refine Ad fun K10 hK10=>?_
      simp (disch:=omega) only [amL,sA,sF,↓reduceIte,reduceCtorEq]
      refine hK10 _ ?_
      refine Aj ?_
      try simp (disch:=omega) only [amL,↓reduceIte]
      all_goals first | rfl | trace_state
   all_goals
    skip
    refine Ab fun K11 hK11=>?_
    refine Ar ?_
    refine Ah ?_
    obtain rfl:k=0:=by omega
    simp (disch:=omega) only [amL,amT,sA,sB,sF,sH,sK,sL,sN,↓reduceIte,reduceCtorEq]
    refine hK11 _ ?_
    refine Ah ?_
    simp (disch:=omega) only [amL,amT,sA,sF,sH,↓reduceIte,reduceCtorEq]
    refine hK7 1 _ ?_ ?_ (Df ?_ ?_ ?_ ?_)
    all_goals (try simp (disch:=omega) only [amL,sD,sF,sH,↓reduceIte,reduceCtorEq])
    all_goals first | omega | exact congrArg i64 (by split <;> omega) | trace_state
theorem Y1 (a b:Int):Bv Try.prog 131 [.p (.sl [[iv a],[iv b]])] (i64 (min a b)):=by
  refine Bo (v:=[]) (q:=[]) (N:=5) (rs:=[.tmp 2]) Try.func131 rfl rfl rfl rfl rfl ?_
  refine Ad fun K1 hK1=>?_
  simp (disch:=omega) only [amL,sA]
  refine hK1 _ ?_
  refine Ad fun K2 hK2=>?_
  simp (disch:=omega) only [amL,sA,↓reduceIte,reduceCtorEq]
  repeat' first | (refine Ax (by kernel_rfl) rfl (Bae a b) (by first | exact .inl rfl | exact .inr (.inl rfl)) ?_ ; simp (disch:=omega) only [amL,sA,↓reduceIte])
  refine hK2 _ ?_
  refine Aj ?_
  try simp (disch:=omega) only [amL,↓reduceIte]
  all_goals rfl
theorem Ahg:Bv Try.prog 76 [] (avR ⟨0,120⟩):=by
  refine Bo (v:=[]) (q:=[]) (N:=2) (rs:=[.cell 0 53]) Try.func76 rfl rfl rfl rfl rfl ?_
  refine Ad fun K1 hK1=>?_
  simp (disch:=omega) only [amL,amT,sA,sB,↓reduceIte]
  refine hK1 _ ?_
  refine Ad fun K2 hK2=>?_
  simp (disch:=omega) only [amL,amT,sA,sB,sE,↓reduceIte,reduceCtorEq]
  refine hK2 _ ?_
  refine Aj ?_
  try simp (disch:=omega) only [amL,amT,sB,↓reduceIte,reduceCtorEq]
  all_goals rfl
theorem Ah4 (l:List Int) (hl:l.length < 1000000):Bv Try.prog 77 [.p (.sl (l.map H8))] (avR ⟨0,10 * ((l.length:Int) - 1)⟩):=by
  refine Bo (v:=[]) (q:=[]) (N:=8) (rs:=[.cell 2 53]) Try.func77 rfl rfl rfl rfl rfl ?_
  refine Ad fun K1 hK1=>?_
  simp (disch:=omega) only [amL,amT,sA,sB,↓reduceIte]
  refine hK1 _ ?_
  refine Ad fun K2 hK2=>?_
  simp (disch:=omega) only [amL,amT,sA,sB,sE,sF,↓reduceIte,reduceCtorEq]
  refine hK2 _ ?_
  refine Aj ?_
  try simp (disch:=omega) only [amL,amT,sB,sF,↓reduceIte]
  all_goals rfl
theorem Arf (r o:Rng):Bv Try.prog 79 [avR r,avR o] (bl (J2 r o)):=by
  refine Bo (v:=[]) (q:=[]) (N:=22) (rs:=[.tmp 4]) Try.func79 rfl rfl rfl rfl rfl ?_
  refine Ad fun K1 hK1=>?_
  simp (disch:=omega) only [amL,sA,sB,sF,↓reduceIte,reduceCtorEq]
  refine hK1 _ ?_
  refine Ad fun K2 hK2=>?_
  simp (disch:=omega) only [amL,amT,sA,sF,↓reduceIte,reduceCtorEq]
  repeat' first | (refine Eo (fun h=>?_) (fun h=>?_) <;> simp (disch:=omega) only [h,amL,amT,sA,sB,sF,↓reduceIte,reduceCtorEq]) | (refine Cy (fun h=>?_) (fun h=>?_) <;> simp (disch:=omega) only [h,amL,amT,sA,sB,sF,↓reduceIte,reduceCtorEq]) | (refine Ax (by kernel_rfl) rfl (Agh _ _) (by first | exact .inl rfl | exact .inr (.inl rfl)) ?_ ; simp (disch:=omega) only [amL,sA,sF,↓reduceIte])
  all_goals
   skip
   refine hK2 _ ?_
   refine Aj ?_
   try simp (disch:=omega) only [amL,↓reduceIte]
   all_goals first | (simp_all [J2]; done) | (simp_all [J2]; intros; omega)
theorem sfN:Ms Try.prog 22 3 162 3 4 193 159:=⟨⟨_,Try.func193,rfl,rfl,rfl,by kernel_rfl⟩,⟨_,Try.func159,rfl,rfl,rfl,by kernel_rfl⟩⟩
theorem afN:Bak Try.prog 22 3 162 4 159 173 129:=⟨⟨_,Try.func173,rfl,rfl,rfl,by kernel_rfl⟩,⟨_,Try.func129,rfl,rfl,rfl,by kernel_rfl⟩⟩
theorem sfR:Ms Try.prog 93 53 192 3 4 174 132:=⟨⟨_,Try.func174,rfl,rfl,rfl,by kernel_rfl⟩,⟨_,Try.func132,rfl,rfl,rfl,by kernel_rfl⟩⟩
theorem afR:Ak5 Try.prog 93 53 192 4 132 133 80:=⟨⟨_,Try.func133,rfl,rfl,rfl,by kernel_rfl⟩,⟨_,Try.func80,rfl,rfl,rfl,by kernel_rfl⟩⟩
theorem Al4 {last n:Int} {nl:Nat} {os:Nat→Option AO} {bd:Nat} (hn:os nl=some (.cells [i64 last])) :
    Bh Try.prog bd (.fn (.func 130) [] [.ptr nl 0]) [i64 n] os fun res os'=>res=bl (Ko last n).2∧os'=upd os nl (some (.cells [i64 n])):=by
  refine B3 (v:=[]) (q:=[]) (N:=11) (rs:=[.tmp 3]) Try.func130 rfl (by kernel_rfl) rfl rfl (fun hcl hfree=>?_)
  refine Ad fun K1 hK1=>?_
  simp (disch:=omega) only [amL,sA,sB]
  refine hK1 _ ?_
  refine Ad fun K2 hK2=>?_
  simp (disch:=omega) only [hn,amL,amT,sA,sF,↓reduceIte,reduceCtorEq]
  repeat' first | (refine Ax (by kernel_rfl) rfl (Kh _ _ _) (by first | exact .inl rfl | exact .inr (.inl rfl)) ?_ ; simp (disch:=omega) only [amL,sA,↓reduceIte])
  refine hK2 _ ?_
  refine Ad fun K3 hK3=>?_
  simp (disch:=omega) only [hn,amL,amT,sA,sF,↓reduceIte,reduceCtorEq]
  refine hK3 _ ?_
  refine Ad fun K4 hK4=>?_
  simp (disch:=omega) only [amL,sA,sF,↓reduceIte]
  refine hK4 _ ?_
  refine Aj ?_
  try simp (disch:=omega) only [amL]
  refine A6 (res:=bl _) (upd os nl (some (.cells [i64 n]))) (by simp (disch:=omega) only [amL,↓reduceIte]; try rfl) (Sub.refl _) (Cr hcl (by rw [Dt,Cm,Cs]; exact ⟨AV.lives_p _ _,trivial⟩)) (AV.lives_p _ _) ⟨rfl,rfl⟩
theorem Ao7 {l:List Int} {nl:Nat}:Hb Try.prog (.fn (.func 130) [] [.ptr nl 0]) (fun n=>n=nl) i64 l (fun last os=>os nl=some (.cells [i64 last])) Ko where
  live s os h:=by rw [Fu,Cs,Cm,Cs,C6,h]; exact ⟨trivial,rfl,trivial⟩
  stable s os os' h h2:=(h2 nl rfl).trans h
  foot s os n h hn:=by
    subst hn
    refine ⟨_,h,fun m hm=>?_⟩
    simp [AO.clean,AV.clean,AV.clean.cleanL] at hm
  call s x os bd _ h _:=by
    refine Bh.mono (Al4 h) ?_
    rintro r os' ⟨rfl,rfl⟩
    exact ⟨rfl,Bc,fun n hn=>Ac hn⟩
theorem Al2 {l:List Int} {nl:Nat} {os:Nat→Option AO} {bd:Nat} (hl:l.length < 1000000) (h:os nl=some (.cells [i64 (-1)])) :
    Bh Try.prog bd (.fn (.func 129) [] []) [.p (.sl (l.map H8)),.fn (.func 130) [] [.ptr nl 0]] os fun res os'=>res=bl (Aal l)∧(∃ z,os' nl=some (.cells [i64 z]))∧∀ n,n≠nl→os' n=os n:=by
  refine Bh.mono (Azy elN sfN afN (by simp only [amT]; rfl) hl (Ao7 (nl:=nl)) (fun m hm=>?_) (s:=-1) (bd:=bd) h) ?_
  · have:nl=m:=by simpa [AV.clean,AV.clean.cleanL] using hm
    exact this.symm
  · rintro r os' ⟨h1,h2,h3⟩
    exact ⟨h1,⟨_,h2⟩,h3⟩
theorem Arh (l:List Int) (hl:l.length < 1000000):Bv Try.prog 75 [.p (.sl (l.map H8))] (i64 (H4 l)):=by
  refine Bo (v:=[129]) (q:=[]) (N:=24) (rs:=[.tmp 2]) Try.func75 rfl rfl rfl rfl rfl ?_
  refine Ad fun K1 hK1=>?_
  simp (disch:=omega) only [amL,sA]
  refine hK1 _ ?_
  refine Ab fun K2 hK2=>?_
  refine Ad fun K3 hK3=>?_
  simp (disch:=omega) only [amL,amT,sA,↓reduceIte,reduceCtorEq]
  refine hK3 _ ?_
  refine Al rfl (fun h=>MT.x ?_) (fun h=>ME.x ?_)
  all_goals
   first
   |refine MT.mk ?_
    first
    |exact Bool.noConfusion h
    |skip
     try simp only [nrm] at h
     refine Ad fun K4 hK4=>?_
     simp (disch:=omega) only [amL,sA]
     refine hK4 _ ?_
     refine Aj ?_
     try simp (disch:=omega) only [amL,↓reduceIte]
     all_goals first | (simp_all [H4]; done) | (simp_all [H4]; omega) | trace_state
   |refine ME.mk ?_
    first
    |exact Bool.noConfusion h
    |skip
     try simp only [nrm] at h
     refine Am ?_
     refine hK2 _ ?_
  all_goals
   skip
   refine Ad fun K5 hK5=>?_
   simp (disch:=omega) only [amL,amT,sA,sM,↓reduceIte]
   refine hK5 _ ?_
   refine Ad fun K6 hK6=>?_
   simp (disch:=omega) only [amL,sA,sF,sM,↓reduceIte,reduceCtorEq]
   refine A2 [(0,.p (.sl (l.map H8)))] (by decide) (Al2 (l:=l) (nl:=3) (bd:=24) hl rfl) (Lg rfl) (by decide) (fun res os2 hR hcl2 hlv2=>?_)
   obtain ⟨rfl,⟨z,hz⟩,hfr2⟩:=hR
   simp (disch:=omega) only [amL,sA,↓reduceIte,reduceCtorEq]
   refine hK6 _ ?_
   refine Ab fun K7 hK7=>?_
   refine Ad fun K8 hK8=>?_
   simp (disch:=omega) only [amL,amT,sA,↓reduceIte,reduceCtorEq]
   repeat' first | (refine Eo (fun h=>?_) (fun h=>?_) <;> simp (disch:=omega) only [h,amL,sA,sF,↓reduceIte]) | (refine Cy (fun h=>?_) (fun h=>?_) <;> simp (disch:=omega) only [h,Bm,amL,amT,sA,sF,sL,sN,↓reduceIte,reduceCtorEq])
   all_goals
    skip
    refine hK8 _ ?_
    refine Al rfl (fun h=>MT.x ?_) (fun h=>ME.x ?_)
    all_goals
     first
     |refine MT.mk ?_
      first
      |exact Bool.noConfusion h
      |skip
       try simp only [nrm] at h
       refine Ad fun K9 hK9=>?_
       simp (disch:=omega) only [amL,sA]
       refine hK9 _ ?_
       refine Aj ?_
       try simp (disch:=omega) only [amL,↓reduceIte]
       all_goals first | (simp_all [H4]; done) | (simp_all [H4]; omega) | trace_state
     |refine ME.mk ?_
      first
      |exact Bool.noConfusion h
      |skip
       try simp only [nrm] at h
       refine Am ?_
       refine hK7 _ ?_
    all_goals
     skip
     refine Ad fun K10 hK10=>?_
     simp (disch:=omega) only [amL,sA]
     refine hK10 _ ?_
     refine Aj ?_
     try simp (disch:=omega) only [amL,↓reduceIte]
     all_goals first | (simp_all [H4]; done) | (simp_all [H4]; omega) | trace_state
theorem Bbe {l:List Int} (hl:Rp l) {s:Int} (h1:0≤s) (h2:s≤10 * ((l.length:Int) - 1)):Bv Try.prog 78 [.p (.sl (l.map H8)),i64 s] (i64 (Q5 l s)):=by
  obtain ⟨k1,k2,k3,k4,n1,n2,f1,f2⟩:=Pj hl h1 h2
  have g1:=J3 hl (Ce l s).toNat
  have g2:=J3 hl ((Ce l s).toNat+1)
  have a1:=hl.len
  have a2:=hl.len2
  refine Bo (v:=[]) (q:=[]) (N:=38) (rs:=[.tmp 4]) Try.func78 rfl rfl rfl rfl rfl ?_
  refine Ad fun K1 hK1=>?_
  simp (disch:=omega) only [amL,sA,sB]
  refine hK1 _ ?_
  refine Ab fun K2 hK2=>?_
  refine M7 5 ?_
  simp (disch:=omega) only [So,N6,Lu,Hx,Fh,amL,amT,sA,sB,sE,sF,sO,↓reduceIte,reduceCtorEq]
  repeat' first | (refine Ax (by kernel_rfl) rfl (Y1 _ _) (by first | exact .inl rfl | exact .inr (.inl rfl)) ?_ ; simp (disch:=omega) only [amL,sA,↓reduceIte])
  refine hK2 _ ?_
  refine Ad fun K3 hK3=>?_
  simp (disch:=omega) only [amL,amT,sA,sF,↓reduceIte,reduceCtorEq]
  refine hK3 _ ?_
  refine Ab fun K4 hK4=>?_
  refine Ch (by kernel_rfl) (by kernel_rfl) ?_
  simp (disch:=omega) only [Bm,amL,amT,sA,sF,↓reduceIte,reduceCtorEq]
  refine hK4 _ ?_
  refine Ad fun K5 hK5=>?_
  simp (disch:=omega) only [amL,amT,sA,sO,↓reduceIte]
  refine hK5 _ ?_
  refine Aj ?_
  try simp (disch:=omega) only [amL,↓reduceIte]
  exact congrArg i64 (Aon hl h1 h2)
theorem Aqw (r:Rng):Bv Try.prog 81 [avR r] (bl (decide (r.lo≤r.hi))):=by
  refine Bo (v:=[]) (q:=[]) (N:=8) (rs:=[.tmp 2]) Try.func81 rfl rfl rfl rfl rfl ?_
  refine Ad fun K1 hK1=>?_
  simp (disch:=omega) only [amL,sA,↓reduceIte]
  refine hK1 _ ?_
  refine Ad fun K2 hK2=>?_
  simp (disch:=omega) only [amL,amT,sA,sF,↓reduceIte,reduceCtorEq]
  refine hK2 _ ?_
  refine Aj ?_
  try simp (disch:=omega) only [amL,↓reduceIte]
  all_goals rfl
theorem Bbc (l:List Rng) (hl:l.length < 1000000):Bv Try.prog 80 [.p (.sl (l.map Hy)),.fn (.func 81) [] []] (bl (l.all fun r=>decide (r.lo≤r.hi))):=by
  refine Bo (v:=[132]) (q:=[]) (N:=9) (rs:=[.tmp 4]) Try.func80 rfl rfl rfl rfl rfl ?_
  have hT:=Aoa (P:=Try.prog) (l:=l) (arg:=avR) (f:=81) (fs:=[]) (g:=fun r=>decide (r.lo≤r.hi)) (by kernel_rfl) rfl (fun x _=>Aqw x)
  have hfvT:(Aa Try.prog 192).agg=some false:=by simp only [amT]; rfl
  have ht:=Awc (nb:=3) (fun nb hnb s x os bd hx hI h=>At0 elR afR hfvT hT hnb (s:=s) hx hI h) hT (fun h=>h) (fun m hm=>by cases hm)
  have cC:=Au1 elR sfR (bd:=9) hl ht (s:=()) (os:=O [(3,.cells [.fn (.func 81) [] []])]) ⟨trivial,rfl⟩
  obtain ⟨sa1,sa2⟩:=T2 (step:=fun (_:Unit) (x:Rng)=>((),decide (x.lo≤x.hi))) l () 0
  refine Ad fun K1 hK1=>?_
  simp (disch:=omega) only [amL,sA,sB,↓reduceIte,reduceCtorEq]
  refine hK1 _ ?_
  refine Ad fun K2 hK2=>?_
  simp (disch:=omega) only [amL,sA,sF,↓reduceIte,reduceCtorEq]
  refine A2 [] (by decide) cC (Lg rfl) (by decide) (fun res os2 hR hcl2 hlv2=>?_)
  obtain ⟨rfl,_,hfr2⟩:=hR
  simp (disch:=omega) only [amL,sA,↓reduceIte]
  refine hK2 _ ?_
  refine Aj ?_
  try simp (disch:=omega) only [amL,↓reduceIte]
  rw [sa2,R5]
theorem Avy:(Aa Try.prog 194).k=.mp 3 4:=by kernel_rfl
theorem Aov {l:List Int} {g sp:Rng} {b:List Rng} (_:Rp l) (h:Sk l g sp b=true):0≤g.lo∧g.lo≤g.hi∧g.hi≤120∧0≤sp.lo∧sp.lo≤sp.hi∧sp.hi≤10 * ((l.length:Int) - 1):=by
  simp only [Sk,J2,Jm,inB,Bool.and_eq_true,decide_eq_true_eq] at h
  omega
theorem Ah3 {l:List Int} {g sp:Rng} {b:List Rng} (h1:(!J2 ⟨0,120⟩ ⟨g.lo,g.hi⟩)=false) (h2:(!J2 ⟨0,10 * ((l.length:Int) - 1)⟩ ⟨sp.lo,sp.hi⟩)=false) (h3:(b.all fun r=>decide (r.lo≤r.hi))=true):Sk l g sp b=true:=by
  unfold Sk; simp only [Bool.not_eq_false'] at h1 h2; rw [h1,h2,h3]; rfl
theorem Qa {l:List Int} {g sp:Rng} {b:List Rng} (h:(!J2 ⟨0,120⟩ ⟨g.lo,g.hi⟩)=true∨(!J2 ⟨0,10 * ((l.length:Int) - 1)⟩ ⟨sp.lo,sp.hi⟩)=true∨(b.all fun r=>decide (r.lo≤r.hi))=false):¬ Sk l g sp b=true:=fun e=>by
  simp only [Sk,Bool.and_eq_true] at e
  obtain ⟨e1,e2,e3⟩:=e
  rcases h with h | h | h
  · rw [e1] at h; cases h
  · rw [e2] at h; cases h
  · rw [e3] at h; cases h
theorem Aju (l:List Int) (g sp:Rng) (b:List Rng):(J6 l g sp b).isP=true:=by
  unfold J6; split
  · rfl
  · split <;> rfl
theorem Bbq (l:List Int) (g sp:Rng) (b:List Rng) (hl:l.length < 1000000) (hb:b.length < 1000000):Bv Try.prog 28 [.p (.sl (l.map H8)),avR g,avR sp,.p (.sl (b.map Hy))] (J6 l g sp b):=by
  refine Bo (v:=[]) (q:=[]) (N:=84) (rs:=[.tmp 8,.tmp 9]) Try.func28 rfl rfl rfl rfl (Aju l g sp b) ?_
  refine Ab fun K1 hK1=>?_
  refine Ah ?_
  simp (disch:=omega) only [amL,sA,sB,sF,↓reduceIte,reduceCtorEq]
  refine hK1 _ ?_
  refine Ab fun K2 hK2=>?_
  refine Ab fun K3 hK3=>?_
  refine Ah ?_
  simp (disch:=omega) only [amL,sA,↓reduceIte,reduceCtorEq]
  repeat' first | (refine Ax (by kernel_rfl) rfl (Arh l hl) (by first | exact .inl rfl | exact .inr (.inl rfl)) ?_ ; simp (disch:=omega) only [amL,sA,↓reduceIte])
  refine hK3 _ ?_
  refine Ab fun K4 hK4=>?_
  refine Ah ?_
  simp (disch:=omega) only [amL,amT,sA,↓reduceIte]
  refine hK4 _ ?_
  refine Al rfl (fun h=>?_) (fun h=>?_)
  ·first
   | exact Bool.noConfusion h
   |skip
    try simp only [Bool.not_eq_true',decide_eq_false_iff_not,decide_not] at h
    refine Ab fun K5 hK5=>?_
    refine Ah ?_
    simp (disch:=omega) only [amL,sA,sF,↓reduceIte]
    refine hK5 _ ?_
    refine Aj ?_
    try simp (disch:=omega) only [amL,sF,↓reduceIte]
    all_goals first | (rw [J6,if_pos (by assumption)]; done) | (rw [J6,if_neg (by omega),if_neg (Qa (by first | exact .inl (by assumption) | exact .inr (.inl (by assumption)) | exact .inr (.inr (by assumption))))]; done) | ((obtain rfl:i=b.length:=by omega) ; rw [J6,if_neg (by omega),if_pos hmb,List.take_of_length_le (by simp)]; done) | trace_state
  ·first
   | exact Bool.noConfusion h
   |skip
    try simp only [decide_eq_true_eq,Bool.not_eq_false',decide_not] at h
    refine Am ?_
    refine hK2 _ ?_
    refine Ab fun K6 hK6=>?_
    refine Ab fun K7 hK7=>?_
    refine Ch (by kernel_rfl) (by kernel_rfl) ?_
    have hok:=Bad (l:=l) (by omega)
    simp (disch:=omega) only [amL]
    repeat' first | (refine Eo (fun h=>?_) (fun h=>?_) <;> simp (disch:=omega) only [h,Bi,amL,amT,sA,sB,sC,sD,sE,sF,sG,sH,sI,sJ,sK,sL,sM,sN,sO,↓reduceIte,reduceCtorEq]) | (refine Cy (fun h=>?_) (fun h=>?_) <;> simp (disch:=omega) only [h,amL,sA,sF,↓reduceIte,reduceCtorEq]) | (refine Ax (by kernel_rfl) rfl (Ahg) (by first | exact .inl rfl | exact .inr (.inl rfl)) ?_ ; simp (disch:=omega) only [amL,amT,sA,sB,sF,↓reduceIte]) | (refine Ax (by kernel_rfl) rfl (Arf ⟨_,_⟩ ⟨_,_⟩) (by first | exact .inl rfl | exact .inr (.inl rfl)) ?_ ; simp (disch:=omega) only [amL,sA,sF,↓reduceIte]) | (refine Ax (by kernel_rfl) rfl (Ah4 l hl) (by first | exact .inl rfl | exact .inr (.inl rfl)) ?_ ; simp (disch:=omega) only [amL,amT,sA,sB,sF,↓reduceIte]) | (refine Ax (by kernel_rfl) rfl (Bbc b hb) (by first | exact .inl rfl | exact .inr (.inl rfl)) ?_ ; simp (disch:=omega) only [amL,sA,sF,↓reduceIte])
    all_goals
     skip
     refine hK7 _ ?_
     refine Al rfl (fun h=>?_) (fun h=>?_)
     ·first
      | exact Bool.noConfusion h
      |skip
       try simp only [Bool.not_eq_true'] at h
       refine Ab fun K8 hK8=>?_
       refine Ah ?_
       simp (disch:=omega) only [amL,sA]
       refine hK8 _ ?_
       refine Aj ?_
       try simp (disch:=omega) only [amL,sF,↓reduceIte]
       all_goals first | (rw [J6,if_pos (by assumption)]; done) | (rw [J6,if_neg (by omega),if_neg (Qa (by first | exact .inl (by assumption) | exact .inr (.inl (by assumption)) | exact .inr (.inr (by assumption))))]; done) | ((obtain rfl:i=b.length:=by omega) ; rw [J6,if_neg (by omega),if_pos hmb,List.take_of_length_le (by simp)]; done) | trace_state
     ·first
      | exact Bool.noConfusion h
      |skip
       try simp only [Bool.not_eq_false'] at h
       refine Am ?_
       refine hK6 _ ?_
       refine Ab fun K9 hK9=>?_
       have hmb:Sk l g sp b=true:=Ah3 (by assumption) (by assumption) (by assumption)
       obtain ⟨q1,q2,q3,q4,q5,q6⟩:=Aov hok hmb
       refine C1 ?_
       refine AL.step (Wy (dd:=39) rfl rfl (by decide) rfl ?_)
       refine Dd ?_
       simp (disch:=omega) only [amL,sA,↓reduceIte]
       refine hK9 _ ?_
       refine Ab fun K10 hK10=>?_
       refine Ab fun K11 hK11=>?_
       refine Ah ?_
       simp (disch:=omega) only [amL,amT,sA,sF,↓reduceIte,reduceCtorEq]
       refine hK11 _ ?_
       refine Ar ?_
       skip
       refine Bg (α:=Nat) (fun k=>⟨T [(0,.p (.sl (l.map H8))),(3,.p (.sl (b.map Hy))),(5,.ptr 5 0),(6,.ptr 6 0),(11,.mp 39),(12,i64 (sp.lo+k))],O [(5,.cells [i64 g.lo,i64 g.hi]),(6,.cells [i64 sp.lo,i64 sp.hi]),(39,.obj (Z5 (Aq1 l g sp k)))]⟩) (fun k=>Rl sp - k) (fun k=>k≤Rl sp) 0 ?_ ?_ (fun k hx12 K12 hK12=>?_)
       · exact Nat.zero_le _
       · refine Df ?_ ?_ ?_ ?_ <;> (try simp (disch:=omega) only [amL,sF,sG,↓reduceIte,reduceCtorEq]); all_goals first | rfl | trace_state
       have hk:=hx12
       refine Ab fun K13 hK13=>?_
       refine Ab fun K14 hK14=>?_
       refine Ah ?_
       simp (disch:=omega) only [amL,amT,sA,sF,↓reduceIte,reduceCtorEq]
       refine hK14 _ ?_
       refine Al rfl (fun h=>?_) (fun h=>?_)
       ·first
        | exact Bool.noConfusion h
        |skip
         try simp only [decide_eq_true_eq] at h
         refine Am ?_
         refine hK13 _ ?_
         refine Ab fun K15 hK15=>?_
         refine Ar ?_
         refine Ab fun K16 hK16=>?_
         refine Ah ?_
         simp (disch:=omega) only [amL,amT,sA,sF,↓reduceIte,reduceCtorEq]
         refine hK16 _ ?_
         refine Ar ?_
         skip
         refine Bg (α:=Nat) (fun j=>⟨T [(0,.p (.sl (l.map H8))),(3,.p (.sl (b.map Hy))),(5,.ptr 5 0),(6,.ptr 6 0),(11,.mp 39),(12,i64 (sp.lo+k)),(13,i64 (g.lo+j))],O [(5,.cells [i64 g.lo,i64 g.hi]),(6,.cells [i64 sp.lo,i64 sp.hi]),(39,.obj (Z5 (Azt l g.lo (sp.lo+k) j++Aq1 l g sp k)))]⟩) (fun j=>Rl g - j) (fun j=>j≤Rl g) 0 ?_ ?_ (fun j hx17 K17 hK17=>?_)
         · exact Nat.zero_le _
         · refine Df ?_ ?_ ?_ ?_ <;> (try simp (disch:=omega) only [amL,sF,sG,↓reduceIte,reduceCtorEq]); all_goals first | rfl | trace_state
         have hj:=hx17
         refine Ab fun K18 hK18=>?_
         refine Ab fun K19 hK19=>?_
         refine Ah ?_
         simp (disch:=omega) only [amL,amT,sA,sF,↓reduceIte,reduceCtorEq]
         refine hK19 _ ?_
         refine Al rfl (fun h=>?_) (fun h=>?_)
         ·first
          | exact Bool.noConfusion h
          |skip
           try simp only [decide_eq_true_eq] at h
           refine Am ?_
           refine hK18 _ ?_
           refine Ab fun K20 hK20=>?_
           refine Ar ?_
           have hj2:(j:Int) < 121:=by unfold Rl at hj; omega
           have hb1:=Pj hok (s:=sp.lo+k) (by omega) (by omega)
           refine C1 ?_
           refine Js ?_
           simp (disch:=omega) only [amL,sA,sF,↓reduceIte,reduceCtorEq]
           refine Js ?_
           simp (disch:=omega) only [amL,sA,sF,↓reduceIte,reduceCtorEq]
           refine Js ?_
           simp (disch:=omega) only [amL,sA,↓reduceIte,reduceCtorEq]
           refine Js ?_
           simp (disch:=omega) only [amL,sA,sF,↓reduceIte,reduceCtorEq]
           refine Js ?_
           simp (disch:=omega) only [amL,sF,↓reduceIte]
           refine Ax (by kernel_rfl) rfl (Bbe hok (s:=sp.lo+k) (by omega) (by omega)) (by first | exact .inl rfl | exact .inr (.inl rfl)) ?_
           simp (disch:=omega) only [amL]
           refine Js ?_
           simp (disch:=omega) only [amL,amT,sA,sF,↓reduceIte]
           refine AL.step (Aaw (k:=3) (e:=4) (m:=39) (n:=g.lo+j+Q5 l (sp.lo+k)) rfl rfl Avy (by kernel_rfl) rfl rfl rfl (by simp [inR]; omega) rfl ?_)
           refine Dd ?_
           simp (disch:=omega) only [amL]
           refine hK20 _ ?_
           refine Ah ?_
           simp (disch:=omega) only [amL,amT,sA,sF,↓reduceIte,reduceCtorEq]
           refine hK17 (j+1) _ ?_ ?_ (Df ?_ ?_ ?_ ?_)
           all_goals (try simp (disch:=omega) only [amL,sF,sG,↓reduceIte,reduceCtorEq])
           all_goals first | rfl | (unfold Rl at *; omega) | exact congrArg i64 (by omega) | trace_state
         ·first
          | exact Bool.noConfusion h
          |skip
           try simp only [decide_eq_false_iff_not] at h
           refine Bq ?_
           refine hK15 _ ?_
           refine Ah ?_
           simp (disch:=omega) only [amL,amT,sA,sF,↓reduceIte,reduceCtorEq]
           refine hK12 (k+1) _ ?_ ?_ (Df ?_ ?_ ?_ ?_)
           all_goals (try simp (disch:=omega) only [amL,sF,sG,↓reduceIte,reduceCtorEq])
           all_goals first | (unfold Rl at *; omega) | ((obtain rfl:j=Rl g:=by unfold Rl at *; omega) ; rfl) | exact congrArg i64 (by omega) | trace_state
       ·first
        | exact Bool.noConfusion h
        |skip
         try simp only [decide_eq_false_iff_not] at h
         refine Bq ?_
         refine hK10 _ ?_
         refine Ab fun K21 hK21=>?_
         refine Ah ?_
         obtain rfl:k=Rl sp:=by unfold Rl at *; omega
         simp (disch:=omega) only [amL,sA]
         refine hK21 _ ?_
         refine Ab fun K22 hK22=>?_
         refine Ab fun K23 hK23=>?_
         refine Ah ?_
         simp (disch:=omega) only [amL,amT,sA,sF,↓reduceIte,reduceCtorEq]
         refine hK23 _ ?_
         refine Ar ?_
         refine Akz 39 rfl (fun ob hob=>?_)
         obtain ⟨es,clock,rfl,hE⟩:=Ash hob
         refine Pw 81 1 14 (by decide) rfl rfl ?_
         refine Bg (α:=Nat) (fun i=>⟨T [(11,.mp 39),(14,.own 81 (Jg (N1 l g sp) b i).length),(62,.p (.sl (b.map Hy))),(63,i64 b.length),(64,i64 (i:Int))],O [(39,.obj (Yd es clock)),(81,.arr 1 ((Jg (N1 l g sp) b i).map Asc))]⟩) (fun i=>b.length - i) (fun i=>i≤b.length) 0 ?_ ?_ (fun i hx24 K24 hK24=>?_)
         · exact Nat.zero_le _
         · refine Df ?_ ?_ ?_ ?_ <;> (try simp (disch:=omega) only [amL,sF,sG,↓reduceIte,reduceCtorEq]); all_goals first | rfl | exact ⟨rfl,rfl⟩ | trace_state
         have hi:=hx24
         refine Ab fun K25 hK25=>?_
         refine Ah ?_
         simp (disch:=omega) only [amL,amT,sA,sF,↓reduceIte]
         refine hK25 _ ?_
         refine Ab fun K26 hK26=>?_
         refine Al rfl (fun h=>?_) (fun h=>?_)
         ·first
          | exact Bool.noConfusion h
          |skip
           try simp only [decide_eq_true_eq] at h
           refine Am ?_
           refine hK26 _ ?_
           refine Ab fun K27 hK27=>?_
           refine Ar ?_
           refine Ab fun K28 hK28=>?_
           refine Ah ?_
           simp (disch:=omega) only [Bi,amL,amT,sA,sB,sF,↓reduceIte]
           refine hK28 _ ?_
           refine Ab fun K29 hK29=>?_
           refine C1 ?_
           refine Js ?_
           simp (disch:=omega) only [amL,sA,sF,↓reduceIte]
           refine AL.step (Adk (k:=3) (e:=4) (dd:=70) rfl rfl (by decide) rfl Avy rfl rfl ?_)
           refine Dd ?_
           simp (disch:=omega) only [amL]
           refine hK29 _ ?_
           refine Ar ?_
           skip
           refine Bg (α:=Array Nat × Nat) (fun x=>⟨T [(11,.mp 39),(14,.own 81 (Jg (N1 l g sp) b i).length),(15,i64 (i:Int)),(16,.ptr 16 0),(62,.p (.sl (b.map Hy))),(63,i64 b.length),(64,i64 (i:Int)),(70,.ptr 70 0)],O [(16,.cells [i64 (b.getD i default).lo,i64 (b.getD i default).hi]),(39,.obj (Yd es clock)),(81,.arr 1 ((Jg (N1 l g sp) b i).map Asc)),(70,.it 39 (Sy clock x.1 x.2))]⟩) (fun x=>(Fe es x.1).size) (fun x=>clock≤x.2∧U6 (Jm (b.getD i default)) es x.1) (#[],clock) ?_ ?_ (fun x hx30 K30 hK30=>?_)
           · exact ⟨Nat.le_refl _,Ad6⟩
           · refine Df ?_ ?_ ?_ ?_ <;> (try simp (disch:=omega) only [amL,sF,sG,↓reduceIte]); all_goals first | rfl | trace_state
           obtain ⟨seen,last⟩:=x; dsimp only at hx30 ⊢; obtain ⟨hcl0,hns⟩:=hx30
           refine Ab fun K31 hK31=>?_
           refine Afy (ι:=Bool × Array Nat × Nat) (fun z=>[(11,.mp 39),(14,.own 81 (Jg (N1 l g sp) b i).length),(15,i64 (i:Int)),(16,.ptr 16 0),(62,.p (.sl (b.map Hy))),(63,i64 b.length),(64,i64 (i:Int)),(70,.ptr 70 0),(72,bl z.1)]) (fun z=>[(16,.cells [i64 (b.getD i default).lo,i64 (b.getD i default).hi]),(39,.obj (Yd es clock)),(81,.arr 1 ((Jg (N1 l g sp) b i).map Asc)),(70,.it 39 (Sy clock z.2.1 z.2.2))]) (fun z=>(z.1=false∧(Fe es seen).size=0)∨(z.1=true∧∃ e ∈ (Fe es seen).toList,z.2.1=seen.push e.born∧z.2.2=clock)) hK31 (fun _=>rfl) (fun _=>rfl) ?_ (fun z hz K31 hK31=>?_)
           · refine C1 ?_
             refine AL.step (Aep (m:=39) (ri:=70) rfl (fun k hk=>by cases hk; decide) rfl rfl rfl hE.old hcl0 (fun e he=>by obtain ⟨h1,k,h2,_⟩:=hE.key e he; rw [h1,h2]; exact ⟨rfl,rfl⟩) (fun h0=>?_) (fun e he=>?_))
             · refine Dd ?_
               simp (disch:=omega) only [amL,sA,↓reduceIte]
               refine ⟨(false,seen,last),.inl ⟨rfl,h0⟩,rfl,⟨rfl,rfl,rfl,rfl,rfl,rfl,rfl,rfl,rfl,trivial⟩,⟨rfl,rfl,rfl,rfl,trivial⟩⟩
             · refine Dd ?_
               simp (disch:=omega) only [amL,sA,↓reduceIte]
               refine ⟨(true,seen.push e.born,clock),.inr ⟨rfl,e,he,rfl,rfl⟩,rfl,⟨rfl,rfl,rfl,rfl,rfl,rfl,rfl,rfl,rfl,trivial⟩,⟨rfl,rfl,rfl,rfl,trivial⟩⟩
           obtain ⟨zb,seen2,last2⟩:=z
           dsimp only at hz ⊢
           refine hK31 _ ?_
           refine Ab fun K32 hK32=>?_
           refine Al rfl (fun h=>?_) (fun h=>?_)
           ·first
            | exact Bool.noConfusion h
            |skip
             try simp only [Bool.not_eq_true',decide_eq_true_eq,decide_eq_false_iff_not,Bool.and_eq_true,Bool.not_eq_false',Bool.not_not,decide_not,Bool.not_true,Bool.not_false] at h
             refine Am ?_
             refine hK32 _ ?_
             refine Ar ?_
             refine Ab fun K33 hK33=>?_
             obtain ⟨hz0,e,he,rfl,rfl⟩:zb=true∧∃ e ∈ (Fe es seen).toList,seen2=seen.push e.born∧clock=last2:=by
               rcases hz with hz | ⟨hz,e,he,h1,h2⟩
               · rw [hz.1] at h; cases h
               · exact ⟨hz,e,he,h1,h2.symm⟩
             obtain ⟨g1,n,g2,g3,g4⟩:=hE.key e (Va he).1
             refine C1 ?_
             refine AL.step (Acn (m:=39) (ri:=70) (e:=e) rfl (fun k hk=>by cases hk; decide) rfl rfl rfl (Va he).1 hE.nd (by rw [g2]; rfl) (by rw [g1]; rfl) ?_)
             rw [g2]
             refine Dd ?_
             simp (disch:=omega) only [amL,sA,↓reduceIte]
             refine hK33 _ ?_
             refine Ab fun K34 hK34=>?_
             refine Ah ?_
             simp (disch:=omega) only [amL,amT,sA,sB,sF,↓reduceIte]
             repeat' first | (refine Ax (by kernel_rfl) rfl (Agh (b.getD i default) n) (by first | exact .inl rfl | exact .inr (.inl rfl)) ?_ ; simp (disch:=omega) only [amL])
             refine hK34 _ ?_
             refine Al rfl (fun h=>?_) (fun h=>?_)
             ·first
              | exact Bool.noConfusion h
              |skip
               try simp only [Bool.not_eq_true',decide_eq_true_eq,decide_eq_false_iff_not,Bool.and_eq_true,Bool.not_eq_false',Bool.not_not,decide_not,Bool.not_true,Bool.not_false] at h
               refine Ab fun K35 hK35=>?_
               refine Ah ?_
               have hol:=Ape (S:=N1 l g sp) (b:=b) (k:=i)
               simp (disch:=omega) only [amL,amT,sA,sE,sF,↓reduceIte,reduceCtorEq]
               refine hK35 _ ?_
               refine Bq ?_
               refine hK27 _ ?_
               refine Ah ?_
               simp (disch:=omega) only [amL,amT,sA,sF,↓reduceIte]
               refine hK24 (i+1) _ ?_ ?_ (Df ?_ ?_ ?_ ?_)
               all_goals (try simp (disch:=omega) only [amL,sF,sG,↓reduceIte])
               all_goals first | omega | (have e9:Jg (N1 l g sp) b (i+1)=Jg (N1 l g sp) b i:=Ahk (b:=b) (k:=i) (V3 hE hns (hz.elim (fun q=>q.2) (fun q=>by rw [q.1] at h; cases h))) ; rw [e9]; done) | (have e9:Jg (N1 l g sp) b (i+1)=Jg (N1 l g sp) b i++[i]:=Aca (List.any_eq_true.2 ⟨n,g3,h⟩) ; rw [e9] ; first | (rw [List.length_append]; rfl) | (rw [List.length_append]; exact ⟨rfl,rfl⟩) | (rw [List.map_append]; exact ⟨rfl,rfl⟩)) | trace_state
             ·first
              | exact Bool.noConfusion h
              |skip
               try simp only [Bool.not_eq_true',decide_eq_true_eq,decide_eq_false_iff_not,Bool.and_eq_true,Bool.not_eq_false',Bool.not_not,decide_not,Bool.not_true,Bool.not_false] at h
               refine Am ?_
               refine hK30 (seen.push e.born,clock) _ ?_ ?_ (Df ?_ ?_ ?_ ?_)
               all_goals (try simp (disch:=omega) only [amL,sF,sG,↓reduceIte])
               all_goals first | exact Ad1 hE hns (Va he).1 g2 (by assumption) | exact Akl he | trace_state
           ·first
            | exact Bool.noConfusion h
            |skip
             try simp only [Bool.not_eq_true',decide_eq_true_eq,decide_eq_false_iff_not,Bool.and_eq_true,Bool.not_eq_false',Bool.not_not,decide_not,Bool.not_true,Bool.not_false] at h
             refine Bq ?_
             refine hK27 _ ?_
             refine Ah ?_
             simp (disch:=omega) only [amL,amT,sA,sF,↓reduceIte]
             refine hK24 (i+1) _ ?_ ?_ (Df ?_ ?_ ?_ ?_)
             all_goals (try simp (disch:=omega) only [amL,sF,sG,↓reduceIte])
             all_goals first | omega | (have e9:Jg (N1 l g sp) b (i+1)=Jg (N1 l g sp) b i:=Ahk (b:=b) (k:=i) (V3 hE hns (hz.elim (fun q=>q.2) (fun q=>by rw [q.1] at h; cases h))) ; rw [e9]; done) | (have e9:Jg (N1 l g sp) b (i+1)=Jg (N1 l g sp) b i++[i]:=Aca (List.any_eq_true.2 ⟨n,g3,h⟩) ; rw [e9] ; first | (rw [List.length_append]; rfl) | (rw [List.length_append]; exact ⟨rfl,rfl⟩) | (rw [List.map_append]; exact ⟨rfl,rfl⟩)) | trace_state
         ·first
          | exact Bool.noConfusion h
          |skip
           try simp only [decide_eq_false_iff_not] at h
           refine Bq ?_
           refine hK22 _ ?_
           refine Ab fun K36 hK36=>?_
           refine Ah ?_
           simp (disch:=omega) only [amL,sA,sF,↓reduceIte]
           refine hK36 _ ?_
           refine Aj ?_
           try simp (disch:=omega) only [amL,sF,↓reduceIte]
           all_goals first | (rw [J6,if_pos (by assumption)]; done) | (rw [J6,if_neg (by omega),if_neg (Qa (by first | exact .inl (by assumption) | exact .inr (.inl (by assumption)) | exact .inr (.inr (by assumption))))]; done) | ((obtain rfl:i=b.length:=by omega) ; rw [J6,if_neg (by omega),if_pos hmb,List.take_of_length_le (by simp)]; done) | trace_state
theorem c_wort (g k:Int):Bv Try.prog 85 [i64 g,i64 k] (bl (Mi g k)):=by
  refine Bo (v:=[]) (q:=[]) (N:=12) (rs:=[.tmp 4]) Try.func85 rfl rfl rfl rfl rfl ?_
  refine Ad fun K1 hK1=>?_
  simp (disch:=omega) only [amL,sA,sB]
  refine hK1 _ ?_
  refine Ad fun K2 hK2=>?_
  simp (disch:=omega) only [amL,sA,↓reduceIte,reduceCtorEq]
  repeat' first | (refine Eo (fun h=>?_) (fun h=>?_) <;> simp (disch:=omega) only [h,amL,amT,sA,sB,sC,sD,sE,sF,sG,sH,sI,sJ,sK,sL,sM,sN,sO,↓reduceIte,reduceCtorEq]) | (refine Cy (fun h=>?_) (fun h=>?_) <;> simp (disch:=omega) only [h,amL,sA,sF,↓reduceIte]) | (refine Ax (by kernel_rfl) rfl (Kh _ _ _) (by first | exact .inl rfl | exact .inr (.inl rfl)) ?_ ; simp (disch:=omega) only [amL,sA,↓reduceIte]) | (refine Ax (by kernel_rfl) rfl (Ahg) (by first | exact .inl rfl | exact .inr (.inl rfl)) ?_ ; simp (disch:=omega) only [amL,sA,sF,↓reduceIte,reduceCtorEq]) | (refine Ax (by kernel_rfl) rfl (Agh ⟨_,_⟩ _) (by first | exact .inl rfl | exact .inr (.inl rfl)) ?_ ; simp (disch:=omega) only [amL,sA,sF,↓reduceIte])
  all_goals
   skip
   refine hK2 _ ?_
   refine Aj ?_
   try simp (disch:=omega) only [amL,↓reduceIte]
   all_goals simp_all [Mi,Jm]
theorem Aqk {g k:Int} {l:Liq} {n1 n2:Nat} {os:Nat→Option AO} {bd:Nat} (hl:Rj l) (h1:os n1=some (.cells [i64 g])) (h2:os n2=some (.cells [i64 k])) :
    Bh Try.prog bd (.fn (.func 135) [] [.ptr n1 0,.ptr n2 0]) [avL l] os fun res os'=>res=bl (decide (l.g=g)&&decide (Q7 l=k))∧os'=os:=by
  refine B3 (v:=[]) (q:=[]) (N:=15) (rs:=[.tmp 4]) Try.func135 rfl (by kernel_rfl) rfl rfl (fun hcl hfree=>?_)
  have hfr0:∀ k,os (bd+k)=none:=fun k=>hfree _ (by omega)
  have b1:=Ap hfree h1
  have b2:=Ap hfree h2
  refine Ad fun K1 hK1=>?_
  simp (disch:=omega) only [hfr0,amL,sA,sB,↓reduceIte]
  refine hK1 _ ?_
  refine Ab fun K2 hK2=>?_
  refine Ch (by kernel_rfl) (by kernel_rfl) ?_
  simp (disch:=omega) only [h1,Ac,amL,amT,sA,sF,↓reduceIte,reduceCtorEq]
  repeat' first | (refine Eo (fun h=>?_) (fun h=>?_) <;> simp (disch:=omega) only [h,amL,amT,sA,sB,sF,↓reduceIte]) | (refine Cy (fun h=>?_) (fun h=>?_) <;> simp (disch:=omega) only [h,h1,h2,hfr0,Ac,amL,amT,sA,sB,sC,sD,sE,sF,sG,sH,sI,sJ,sK,sL,sM,sN,sO,↓reduceIte,reduceCtorEq]) | (refine Ax (by kernel_rfl) rfl (Yw ⟨g,l.e⟩ (by rw [← h]; exact hl)) (by first | exact .inl rfl | exact .inr (.inl rfl)) ?_ ; simp (disch:=omega) only [h2,Ac,amL,amT,sA,sF,↓reduceIte,reduceCtorEq])
  all_goals
   skip
   refine hK2 _ ?_
   refine Aj ?_
   try simp (disch:=omega) only [amL]
   all_goals (refine A6 (res:=bl _) os (by simp (disch:=omega) only [amL,↓reduceIte]; try rfl) (by first | ((repeat' first | exact Sub.refl _ | refine Sub.skip (by first | exact hfr0 _ | (simp (disch:=omega) only [Ac]; exact hfr0 _)) ?_ | refine Sub.both ?_); done) | fail) hcl (AV.lives_p _ _) ⟨?_,rfl⟩ ; first | (subst h ; simp; done) | (simp [h]; done) | trace_state)
theorem sfL:Ms Try.prog 171 164 249 3 4 175 134:=⟨⟨_,Try.func175,rfl,rfl,rfl,by kernel_rfl⟩,⟨_,Try.func134,rfl,rfl,rfl,by kernel_rfl⟩⟩
theorem Bbm {g k:Int} {l:List Liq} {n1 n2:Nat} (hl:∀ x ∈ l,Rj x):Hb Try.prog (.fn (.func 135) [] [.ptr n1 0,.ptr n2 0]) (fun n=>n=n1∨n=n2) avL l (fun (_:Unit) os=>os n1=some (.cells [i64 g])∧os n2=some (.cells [i64 k])) (fun _ x=>((),decide (x.g=g)&&decide (Q7 x=k))) where
  live s os h:=by rw [Fu,Cs,Cm,Cm,Cs,C6,C6,h.1,h.2]; exact ⟨trivial,rfl,rfl,trivial⟩
  stable s os os' h h2:=⟨(h2 n1 (.inl rfl)).trans h.1,(h2 n2 (.inr rfl)).trans h.2⟩
  foot s os n h hn:=by
    rcases hn with rfl | rfl
    · exact ⟨_,h.1,fun m hm=>by simp [AO.clean,AV.clean,AV.clean.cleanL] at hm⟩
    · exact ⟨_,h.2,fun m hm=>by simp [AO.clean,AV.clean,AV.clean.cleanL] at hm⟩
  call s x os bd hx h _:=by
    refine Bh.mono (Aqk (hl x hx) h.1 h.2) ?_
    rintro r os' ⟨rfl,rfl⟩
    exact ⟨rfl,h,fun _ _=>rfl⟩
theorem Asf {v:List Liq} {n:Nat} {g k:Int} {n0 n1 n2:Nat} {os:Nat→Option AO} {bd:Nat} (hw:G1 v) (hv4:v.length=4) (hn:n≤4) (h0:os n0=some (.cells (cW v))) (h1:os n1=some (.cells [i64 g])) (h2:os n2=some (.cells [i64 k])) (d1:n0≠n1) (d2:n0≠n2) :
    Bh Try.prog bd (.fn (.func 134) [] []) [.csl n0 0 2 n,.fn (.func 135) [] [.ptr n1 0,.ptr n2 0]] os fun res os'=>res=bl (Un n v g k)∧os'=os:=by
  have hlen:(v.take n).length=n:=by rw [List.length_take]; omega
  have hgd:∀ i,i < n→(v.take n).getD i default=v.getD i default:=fun i hi=>by
    simp only [List.getD]; rw [List.getElem?_take,if_pos hi]
  have ht:=Bbm (g:=g) (k:=k) (l:=v.take n) (n1:=n1) (n2:=n2) (fun x hx=>by
    obtain ⟨i,hi,rfl⟩:=List.getElem_of_mem hx
    rw [List.getElem_eq_getD (fallback:=default),hgd i (by omega)]; exact hw i)
  have hc:=Az1 (tS:=171) (sz:=2) (bd:=bd) (s:=()) (os:=os) (nb:=n0) (cs:=cW v) (by simp only [amT]) (by simp only [amT]; rfl) (by simp only [amT]) sfL (by omega) ht ⟨h1,h2⟩ h0 (fun h=>h.elim d1 d2) (fun i hi=>by rw [hgd i (by omega)]; exact Ka (by omega))
  rw [hlen] at hc
  refine Bh.mono hc ?_
  rintro r os' ⟨h1',h2',h3'⟩
  rw [Acf] at h1'
  refine ⟨h1',funext fun q=>?_⟩
  by_cases e1:q=n1
  · subst e1; rw [h2'.1,h1]
  · by_cases e2:q=n2
    · subst e2; rw [h2'.2,h2]
    · exact h3' q (fun h=>h.elim e1 e2)
theorem Ajq {r:RB} {N:Nat} {s:St} {K:St→Prop} {dst:Option Nat} {ty:TypeId} {pos:String} {after:Array Edge} {g:Option (Nat × Bool)} {x:Operand} {lo hi:Option Operand}:EO Try.prog r N ⟨dst,.slice 166 x lo hi none,ty,pos,after,g⟩ s K=EOp r.b N dst s K (Ap8 (fun e=>(Aa Try.prog e).sz) (fun e=>(Aa Try.prog e).agg) 4 164 (ev s.t x) (Ba (ev s.t) 0 lo) (Ba (ev s.t) 4 hi)):=Xl (by rw [Ag3])
theorem Aqz {vs:List Ves} {ss:List Stp} {v:List Liq} {g k:Int} {nw m:Nat} {os:Nat→Option AO} {bd:Nat} (ow:os nw=some (.cells [.p (slV vs),.p (slS ss),.mp m])) (hvs:vs.length≤4) (hw:G1 v) (hv4:v.length=4) :
    Bh Try.prog bd (.fn (.func 87) [] []) [.ptr nw 0,avW v,i64 g,i64 k] os fun res os'=>res=bl (Un vs.length v g k)∧os'=os:=by
  refine B3 (v:=[134]) (q:=[]) (N:=18) (rs:=[.tmp 8]) Try.func87 rfl (by kernel_rfl) rfl rfl (fun hcl hfree=>?_)
  have hfr0:∀ k,os (bd+k)=none:=fun k=>hfree _ (by omega)
  have hlw:=Ap hfree ow
  refine Ad fun K1 hK1=>?_
  simp (disch:=omega) only [hfr0,Ac,amL,sA,sB,sF,↓reduceIte,reduceCtorEq]
  refine hK1 _ ?_
  refine Ad fun K2 hK2=>?_
  simp (disch:=omega) only [ow,Ac,Ajq,B1,Bl,Bk,B4,Int.sub_zero,Int.toNat_natCast,amL,amT,sA,sF,sH,sK,sL,sN,↓reduceIte,reduceCtorEq]
  refine A2 [] (by decide) (Asf (v:=v) (n:=vs.length) (g:=g) (k:=k) (bd:=bd+18) hw hv4 hvs (by simp (disch:=omega) only [Ac,amL]) (by simp (disch:=omega) only [Ac,amL]) (by simp (disch:=omega) only [amL]) (by omega) (by omega)) (fun q hq=>by simp (disch:=omega) only [Ac]; exact hfree q (by omega)) (Nat.le_add_right _ _) (fun res os2 hR hcl2 hlv2=>?_)
  obtain ⟨rfl,rfl⟩:=hR
  simp (disch:=omega) only [amL,sA,↓reduceIte]
  refine hK2 _ ?_
  refine Aj ?_
  try simp (disch:=omega) only [amL]
  refine A6 (res:=bl _) os (by simp (disch:=omega) only [amL,↓reduceIte]; try rfl) (by first | ((repeat' first | exact Sub.refl _ | refine Sub.skip (by first | exact hfr0 _ | (simp (disch:=omega) only [Ac]; exact hfr0 _)) ?_ | refine Sub.both ?_); done) | fail) hcl (AV.lives_p _ _) ⟨rfl,rfl⟩
theorem Asl {v:List Liq} {nw:Nat} {os:Nat→Option AO} {bd:Nat} (hw:(os nw).isSome=true) :
    Bh Try.prog bd (.fn (.func 88) [] []) [.ptr nw 0,avW v] os fun res os'=>res=.fn (.func 136) [] [.ptr (bd+2) 0,.ptr (bd+3) 0]∧os'=upd (upd os (bd+2) (some (.cells [.ptr nw 0]))) (bd+3) (some (.cells (cW v))):=by
  refine B3 (v:=[]) (q:=[]) (N:=6) (rs:=[.tmp 4]) Try.func88 rfl (by kernel_rfl) rfl rfl (fun hcl hfree=>?_)
  have hfr0:∀ k,os (bd+k)=none:=fun k=>hfree _ (by omega)
  have hb:nw < bd:=by
    cases Nat.lt_or_ge nw bd with
    | inl h=>exact h
    | inr h=>rw [hfree nw h] at hw; cases hw
  refine Ad fun K1 hK1=>?_
  simp (disch:=omega) only [hfr0,Ac,amL,sA,sB,sF,↓reduceIte,reduceCtorEq]
  refine hK1 _ ?_
  refine Ad fun K2 hK2=>?_
  simp (disch:=omega) only [amL,sA,sF,↓reduceIte]
  refine hK2 _ ?_
  refine Aj ?_
  try simp (disch:=omega) only [amL]
  refine A6 (res:=.fn (.func 136) [] [.ptr (bd+2) 0,.ptr (bd+3) 0]) (upd (upd os (bd+2) (some (.cells [.ptr nw 0]))) (bd+3) (some (.cells (cW v)))) (by simp (disch:=omega) only [amL,↓reduceIte]; try rfl) (Sub.refl _) (Ec (Cr hcl ?_)) ?_ ⟨rfl,rfl⟩
  · rw [Dt]; simp (disch:=omega) only [Cs,Cm,C6,Ac,hw,and_self]
  · rw [Fu]; simp (disch:=omega) only [Cs,Cm,C6,Ac,Bc,Option.isSome_some,and_self]
theorem Pu {f t n:Nat} {c:Nat} (h:n < c):Qf f t (c - n) n=Cx f t n :: Qf f t (c - (n+1)) (n+1):=by
  rw [show c - n=(c - (n+1))+1 by omega]; rfl
theorem Akq {f t n:Nat} {c:Nat} (h:c≤n):Qf f t (c - n) n=[]:=by rw [show c - n=0 by omega]; rfl
theorem Aeo {vs:List Ves} {v:List Liq} {f t:Nat} {c:Nat} (h:t < c):N7 vs v f (c - t) t=Qf f t ((Fw vs v f t).toNat - 0) 0++N7 vs v f (c - (t+1)) (t+1):=by
  rw [show c - t=(c - (t+1))+1 by omega]; rfl
theorem Akx {vs:List Ves} {v:List Liq} {f t:Nat} {c:Nat} (h:c≤t):N7 vs v f (c - t) t=[]:=by rw [show c - t=0 by omega]; rfl
theorem Ad9 {vs:List Ves} {v:List Liq} {f:Nat} {c:Nat} (h:f < c):N3 vs v (c - f) f=N7 vs v f (vs.length - 0) 0++N3 vs v (c - (f+1)) (f+1):=by
  rw [show c - f=(c - (f+1))+1 by omega]; rfl
theorem Yb {vs:List Ves} {v:List Liq} {f:Nat} {c:Nat} (h:c≤f):N3 vs v (c - f) f=[]:=by rw [show c - f=0 by omega]; rfl
theorem Aog {vs:List Ves} {ss:List Stp} {v:List Liq} {n1 n2 nw m:Nat} {yv:AV} {F:Nat→Prop} {σ:Type} {go:σ→Prop} {I:σ→(Nat→Option AO)→Prop} {step:σ→Stp→σ × Bool} (hY:Ahe Try.prog yv F avS (Gp vs v) go I step) (hst:∀ s os,I s os→os n1=some (.cells [.ptr nw 0])∧os n2=some (.cells (cW v))∧os nw=some (.cells [.p (slV vs),.p (slS ss),.mp m])) (hv:OkV v) (hvs:vs.length≤4) (hva:vs.all Eu=true) {s:σ} {os:Nat→Option AO} {bd:Nat} (hg:go s) (hI:I s os) :
    Bh Try.prog bd (.fn (.func 136) [] [.ptr n1 0,.ptr n2 0]) [yv] os fun res os'=>res=.tup []∧I (Gb step s (Gp vs v)).1 os'∧∀ n,¬ F n→os' n=os n:=by
  refine B3 (v:=[]) (q:=[]) (N:=66) (rs:=[]) Try.func136 rfl (by kernel_rfl) rfl rfl (fun hcl hfree=>?_)
  have hF:∀ n,F n→n < bd:=fun n hn=>by obtain ⟨o,h,_⟩:=hY.foot s os n hI hn; exact Ap hfree h
  have hfreeI:∀ (os1:Nat→Option AO),(∀ n,¬ F n→os1 n=os n)→∀ n,bd≤n→os1 n=none:=fun os1 h2 n hn=>by
    rw [h2 n (fun h=>by have:=hF n h; omega)]; exact hfree n hn
  have hl4:=hv.len
  have hlv:=hY.live _ _ hI
  obtain ⟨z1,z2,zw⟩:=hst _ _ hI
  have b1:=Ap hfree z1
  have b2:=Ap hfree z2
  have bw:=Ap hfree zw
  refine Ad fun K1 hK1=>?_
  simp (disch:=omega) only [z1,zw,amL,amT,sA,sB,↓reduceIte,reduceCtorEq]
  refine hK1 _ ?_
  refine Ar ?_
  skip
  refine Bg (α:=Nat × σ × (Nat→Option AO)) (fun x=>⟨T [(0,yv),(1,.ptr n1 0),(2,.ptr n2 0),(15,i64 vs.length),(16,i64 (x.1:Int))],x.2.2⟩) (fun x=>vs.length - x.1) (fun x=>x.1≤vs.length∧go x.2.1∧I x.2.1 x.2.2∧(Hp x.2.2).closed∧(∀ n,¬ F n→x.2.2 n=os n)∧Gb step x.2.1 (N3 vs v (vs.length - x.1) x.1)=Gb step s (Gp vs v)) (0,s,os) ?_ ?_ (fun x hx2 K2 hK2=>?_)
  · exact ⟨by simp,hg,hI,hcl,fun _ _=>rfl,rfl⟩
  · refine Hd ?_ ?_ ?_ ?_ <;> (try simp (disch:=omega) only [amL,sF,↓reduceIte,reduceCtorEq]); all_goals first | exact Sub.refl _ | exact hcl | exact ⟨hlv,by rw [z1]; rfl,by rw [z2]; rfl⟩ | trace_state
  obtain ⟨f,s1,os1⟩:=x; dsimp only at hx2 ⊢; obtain ⟨hk,hg1,hI1,hcl1,hfrm1,hall⟩:=hx2; obtain ⟨o1,o2,ow⟩:=hst _ _ hI1; have hlv1:=hY.live _ _ hI1
  refine Ad fun K3 hK3=>?_
  simp (disch:=omega) only [amL,amT,sA,sF,↓reduceIte,reduceCtorEq]
  refine hK3 _ ?_
  refine Ab fun K4 hK4=>?_
  refine Al rfl (fun h=>MT.x ?_) (fun h=>ME.x ?_)
  all_goals
   first
   |refine MT.mk ?_
    first
    |exact Bool.noConfusion h
    |skip
     try simp only [nrm] at h
     refine Am ?_
     refine hK4 _ ?_
   |refine ME.mk ?_
    first
    |exact Bool.noConfusion h
    |skip
     try simp only [nrm] at h
     refine Bq ?_
     try simp (disch:=omega) only [Ac,Di,Jo,A0,So,N6,Lu,Hx,Fh,amL,amT,sA,sB,sC,sD,sE,sF,sG,sH,sI,sJ,sK,sL,sM,sN,sO,↓reduceIte,reduceCtorEq]
     first | (refine A6 (res:=.tup []) os4 rfl (Sub.refl _) hcl4 (A9 _ rfl) ⟨rfl,?_,fun q hq=>(hfr4 q hq).trans (hfrm3 q hq)⟩ ; rw [← hall3,Pu (by omega),List.cons_append] ; simp only [Gb] ; rw [if_neg (by rw [h]; decide)] ; exact hI4) | (refine A6 (res:=.tup []) os1 rfl (Sub.refl _) hcl1 (A9 _ rfl) ⟨rfl,?_,hfrm1⟩ ; rw [← hall,Yb (by omega)] ; exact hI1) | trace_state
  all_goals
   skip
   refine Ab fun K5 hK5=>?_
   refine Ar ?_
   refine Ad fun K6 hK6=>?_
   simp (disch:=omega) only [amL,sA,sF,↓reduceIte,reduceCtorEq]
   refine hK6 _ ?_
   refine Ad fun K7 hK7=>?_
   simp (disch:=omega) only [o1,ow,amL,amT,sA,sF,↓reduceIte,reduceCtorEq]
   refine hK7 _ ?_
   refine Ar ?_
   skip
   refine Bg (α:=Nat × σ × (Nat→Option AO)) (fun x=>⟨T [(0,yv),(1,.ptr n1 0),(2,.ptr n2 0),(15,i64 vs.length),(16,i64 (f:Int)),(4,i64 (f:Int)),(23,.p (slV vs)),(24,i64 vs.length),(25,i64 (x.1:Int))],x.2.2⟩) (fun x=>vs.length - x.1) (fun x=>x.1≤vs.length∧go x.2.1∧I x.2.1 x.2.2∧(Hp x.2.2).closed∧(∀ n,¬ F n→x.2.2 n=os n)∧Gb step x.2.1 (N7 vs v f (vs.length - x.1) x.1++N3 vs v (vs.length - (f+1)) (f+1))=Gb step s (Gp vs v)) (0,s1,os1) ?_ ?_ (fun x hx8 K8 hK8=>?_)
   · exact ⟨Nat.zero_le _,hg1,hI1,hcl1,hfrm1,by have e:=hall; rw [Ad9 (by omega)] at e; exact e⟩
   · refine Hd ?_ ?_ ?_ ?_ <;> (try simp (disch:=omega) only [amL,sF,↓reduceIte,reduceCtorEq]); all_goals first | exact Sub.refl _ | exact hcl1 | exact ⟨hlv1,by rw [o1]; rfl,by rw [o2]; rfl⟩ | trace_state
   obtain ⟨t,s2,os2⟩:=x; dsimp only at hx8 ⊢; obtain ⟨hk2,hg2,hI2,hcl2,hfrm2,hall2⟩:=hx8; obtain ⟨o1,o2,ow⟩:=hst _ _ hI2; have hfr0:∀ k,os2 (bd+k)=none:=fun k=>hfreeI os2 hfrm2 _ (by omega); have hlv2:=hY.live _ _ hI2
   refine Ad fun K9 hK9=>?_
   simp (disch:=omega) only [amL,amT,sA,sF,↓reduceIte,reduceCtorEq]
   refine hK9 _ ?_
   refine Ab fun K10 hK10=>?_
   refine Al rfl (fun h=>MT.x ?_) (fun h=>ME.x ?_)
   all_goals
    first
    |refine MT.mk ?_
     first
     |exact Bool.noConfusion h
     |skip
      try simp only [nrm] at h
      refine Am ?_
      refine hK10 _ ?_
    |refine ME.mk ?_
     first
     |exact Bool.noConfusion h
     |skip
      try simp only [nrm] at h
      refine Bq ?_
      refine hK5 _ ?_
      refine Ah ?_
      simp (disch:=omega) only [amL,amT,sA,sF,↓reduceIte,reduceCtorEq]
      refine hK2 (f+1,s2,os2) _ ?_ ?_ (Hd ?_ ?_ ?_ ?_)
      all_goals (try simp (disch:=omega) only [amL,sF,↓reduceIte,reduceCtorEq])
      all_goals first | omega | exact Sub.refl _ | exact hcl2 | exact ⟨hlv2,by rw [o1]; rfl,by rw [o2]; rfl⟩ | exact ⟨by omega,hg2,hI2,hcl2,hfrm2,by have e:=hall2; rw [Akx (by omega)] at e; exact e⟩ | trace_state
   all_goals
    skip
    refine Ab fun K11 hK11=>?_
    refine Ar ?_
    refine Ad fun K12 hK12=>?_
    simp (disch:=omega) only [hfr0,Di,amL,amT,sA,sB,sF,↓reduceIte,reduceCtorEq]
    refine hK12 _ ?_
    refine Ab fun K13 hK13=>?_
    refine Ch (by kernel_rfl) (by kernel_rfl) ?_
    have hrm:=Agc hva (k:=t) (by omega)
    have hr0:=Aq0 hva (k:=t) (by omega)
    have g1:=hv.g f
    have g2:=hv.g t
    have hmo:Fw vs v f t≤60:=by unfold Fw B6; split <;> omega
    simp (disch:=omega) only [o2,Ac,Jo,amL,amT,sA,sF,sH,↓reduceIte,reduceCtorEq]
    refine hK13 _ ?_
    refine Ab fun K14 hK14=>?_
    refine Ad fun K15 hK15=>?_
    simp (disch:=omega) only [amL,amT,sA,sF,↓reduceIte,reduceCtorEq]
    refine hK15 _ ?_
    refine Al rfl (fun h=>MT.x ?_) (fun h=>ME.x ?_)
    all_goals
     first
     |refine MT.mk ?_
      first
      |exact Bool.noConfusion h
      |skip
       try simp only [nrm] at h
       refine M7 5 ?_
       simp (disch:=omega) only [o2,Ac,Jo,So,N6,Lu,Hx,Fh,amL,amT,sA,sB,sE,sF,sH,↓reduceIte,reduceCtorEq]
       repeat' first | (refine Ax (by kernel_rfl) rfl (Y1 _ _) (by first | exact .inl rfl | exact .inr (.inl rfl)) ?_ ; simp (disch:=omega) only [amL,sA,↓reduceIte])
       refine hK14 _ ?_
     |refine ME.mk ?_
      first
      |exact Bool.noConfusion h
      |skip
       try simp only [nrm] at h
       refine Am ?_
       refine hK14 _ ?_
    all_goals
     skip
     refine Ad fun K16 hK16=>?_
     simp (disch:=omega) only [amL,sA,sF,↓reduceIte]
     refine hK16 _ ?_
     refine Ar ?_
     skip
     refine Bg (α:=Nat × σ × (Nat→Option AO)) (fun x=>⟨T [(0,yv),(1,.ptr n1 0),(2,.ptr n2 0),(15,i64 vs.length),(16,i64 (f:Int)),(4,i64 (f:Int)),(23,.p (slV vs)),(24,i64 vs.length),(25,i64 (t:Int)),(5,i64 (t:Int)),(8,i64 (if f≠t then 0 else 1)),(47,i64 (Fw vs v f t)),(48,i64 (x.1:Int))],x.2.2⟩) (fun x=>(Fw vs v f t).toNat - x.1) (fun x=>x.1≤(Fw vs v f t).toNat∧go x.2.1∧I x.2.1 x.2.2∧(Hp x.2.2).closed∧(∀ n,¬ F n→x.2.2 n=os n)∧Gb step x.2.1 (Qf f t ((Fw vs v f t).toNat - x.1) x.1++(N7 vs v f (vs.length - (t+1)) (t+1)++N3 vs v (vs.length - (f+1)) (f+1)))=Gb step s (Gp vs v)) (0,s2,os2) ?_ ?_ (fun x hx17 K17 hK17=>?_)
     · exact ⟨Nat.zero_le _,hg2,hI2,hcl2,hfrm2,by have e:=hall2; rw [Aeo (by omega),List.append_assoc] at e; exact e⟩
     · refine Hd ?_ ?_ ?_ ?_ <;> (try simp (disch:=omega) only [amL,sF,↓reduceIte,reduceCtorEq]); all_goals first | exact (by first | ((repeat' first | exact Sub.refl _ | refine Sub.skip (by first | exact hfr0 _ | (simp (disch:=omega) only [Ac]; exact hfr0 _)) ?_ | refine Sub.both ?_); done) | fail) | exact Sub.refl _ | exact hcl2 | exact ⟨hlv2,by rw [o1]; rfl,by rw [o2]; rfl⟩ | exact congrArg i64 (by unfold Fw B6; rw [if_pos (by omega)]) | exact congrArg i64 (by unfold Fw B6; rw [if_neg (by omega)]) | trace_state
     obtain ⟨n,s3,os3⟩:=x; dsimp only at hx17 ⊢; obtain ⟨hk3,hg3,hI3,hcl3,hfrm3,hall3⟩:=hx17; obtain ⟨o1,o2,ow⟩:=hst _ _ hI3; have hfr0:∀ k,os3 (bd+k)=none:=fun k=>hfreeI os3 hfrm3 _ (by omega); have hlv3:=hY.live _ _ hI3
     refine Ad fun K18 hK18=>?_
     simp (disch:=omega) only [amL,amT,sA,sF,↓reduceIte,reduceCtorEq]
     refine hK18 _ ?_
     refine Ab fun K19 hK19=>?_
     refine Al rfl (fun h=>MT.x ?_) (fun h=>ME.x ?_)
     all_goals
      first
      |refine MT.mk ?_
       first
       |exact Bool.noConfusion h
       |skip
        try simp only [nrm] at h
        refine Am ?_
        refine hK19 _ ?_
      |refine ME.mk ?_
       first
       |exact Bool.noConfusion h
       |skip
        try simp only [nrm] at h
        refine Bq ?_
        refine hK11 _ ?_
        refine Ah ?_
        simp (disch:=omega) only [amL,amT,sA,sF,↓reduceIte,reduceCtorEq]
        refine hK8 (t+1,s3,os3) _ ?_ ?_ (Hd ?_ ?_ ?_ ?_)
        all_goals (try simp (disch:=omega) only [amL,sF,↓reduceIte,reduceCtorEq])
        all_goals first | omega | exact Sub.refl _ | exact hcl3 | exact ⟨hlv3,by rw [o1]; rfl,by rw [o2]; rfl⟩ | exact ⟨by omega,hg3,hI3,hcl3,hfrm3,by have e:=hall3; rw [Akq (by omega)] at e; exact e⟩ | trace_state
     all_goals
      skip
      refine Ab fun K20 hK20=>?_
      refine Ar ?_
      refine Ad fun K21 hK21=>?_
      simp (disch:=omega) only [amL,sA,sF,↓reduceIte,reduceCtorEq]
      refine hK21 _ ?_
      refine Ad fun K22 hK22=>?_
      simp (disch:=omega) only [amL,amT,sA,sB,sE,sF,↓reduceIte,reduceCtorEq]
      have hx:Cx f t n ∈ Gp vs v:=Aoz (by omega) (by omega) (by omega)
      have hcall:=hY.call s3 (Cx f t n) os3 bd hx hg3 hI3 hcl3
      first
        | (rw [Ak9 (by omega)] at hcall ; refine A2 [(0,yv),(1,.ptr n1 0),(2,.ptr n2 0),(15,i64 vs.length),(16,i64 (f:Int)),(4,i64 (f:Int)),(23,.p (slV vs)),(24,i64 vs.length),(25,i64 (t:Int)),(5,i64 (t:Int)),(8,i64 0),(47,i64 (Fw vs v f t)),(48,i64 (n:Int))] (by decide) hcall (hfreeI os3 hfrm3) (Nat.le_refl _) (fun res os4 hR hcl4 hlvr=>?_))
        | (rw [Akj (by omega)] at hcall ; refine A2 [(0,yv),(1,.ptr n1 0),(2,.ptr n2 0),(15,i64 vs.length),(16,i64 (f:Int)),(4,i64 (f:Int)),(23,.p (slV vs)),(24,i64 vs.length),(25,i64 (t:Int)),(5,i64 (t:Int)),(8,i64 1),(47,i64 (Fw vs v f t)),(48,i64 (n:Int))] (by decide) hcall (hfreeI os3 hfrm3) (Nat.le_refl _) (fun res os4 hR hcl4 hlvr=>?_))
      obtain ⟨rfl,hI4,hfr4⟩:=hR
      have hlv4:=hY.live _ _ hI4
      obtain ⟨p1,p2,pw⟩:=hst _ _ hI4
      simp (disch:=omega) only [amL,sA,sF,↓reduceIte,reduceCtorEq]
      refine ⟨⟨hlv4,by rw [p1]; rfl,by rw [p2]; rfl⟩,?_⟩
      refine hK22 _ ?_
      refine Al rfl (fun h=>MT.x ?_) (fun h=>ME.x ?_)
      all_goals
       first
       |refine MT.mk ?_
        first
        |exact Bool.noConfusion h
        |skip
         try simp only [nrm] at h
         refine Aj ?_
         try simp (disch:=omega) only [amL]
         first | (refine A6 (res:=.tup []) os4 rfl (Sub.refl _) hcl4 (A9 _ rfl) ⟨rfl,?_,fun q hq=>(hfr4 q hq).trans (hfrm3 q hq)⟩ ; rw [← hall3,Pu (by omega),List.cons_append] ; simp only [Gb] ; rw [if_neg (by rw [h]; decide)] ; exact hI4) | (refine A6 (res:=.tup []) os1 rfl (Sub.refl _) hcl1 (A9 _ rfl) ⟨rfl,?_,hfrm1⟩ ; rw [← hall,Yb (by omega)] ; exact hI1) | trace_state
       |refine ME.mk ?_
        first
        |exact Bool.noConfusion h
        |skip
         try simp only [nrm] at h
         refine Am ?_
         refine hK20 _ ?_
      all_goals
       skip
       refine Ah ?_
       simp (disch:=omega) only [amL,amT,sA,sF,↓reduceIte,reduceCtorEq]
       refine hK17 (n+1,(step s3 (Cx f t n)).1,os4) _ ?_ ?_ (Hd ?_ ?_ ?_ ?_)
       all_goals (try simp (disch:=omega) only [amL,sF,↓reduceIte,reduceCtorEq])
       all_goals first | omega | exact Sub.refl _ | exact hcl4 | exact ⟨hlv4,by rw [p1]; rfl,by rw [p2]; rfl⟩ | exact ⟨by omega,hY.next _ _ hx hg3 h,hI4,hcl4,fun q hq=>(hfr4 q hq).trans (hfrm3 q hq),by have e:=hall3; rw [Pu (by omega),List.cons_append] at e; simp only [Gb] at e; rwa [if_pos h] at e⟩ | trace_state
theorem Nc {os:Nat→Option AO} {n k:Nat} {es:List (List PV)} (hcl:(Hp os).closed):(Hp (upd os n (some (.arr k es)))).closed:=Cr hcl (AO.lives_arr _ _ _)
theorem Zh {vs:List Ves} {k:Nat} (h:k < vs.length) (hb:1 < Fb (vs.getD k default).g∨1 < Fb (vs.getD k default).d):Km vs=false:=by
  unfold Km
  rw [List.all_eq_false]
  refine ⟨vs.getD k default,Dv default h,?_⟩
  rcases hb with hb | hb <;> simp only [hb,decide_true,Bool.true_or,Bool.or_true,Bool.not_true] <;> decide
theorem X2 {vs:List Ves} (hva:vs.all Eu=true) (k:Nat):(0≤(vs.map (·.g.lo)).getD k 0∧(vs.map (·.g.lo)).getD k 0≤100000)∧(0≤(vs.map (·.d.lo)).getD k 0∧(vs.map (·.d.lo)).getD k 0≤100000):=by
  by_cases hk:k < vs.length
  · have hb:=Da (List.all_eq_true.1 hva _ (Dv default hk))
    have h1:=C9 hb.1
    have h2:=C9 hb.2.1
    rw [Cp (·.g.lo) 0 default hk,Cp (·.d.lo) 0 default hk]
    constructor <;> constructor <;> first | exact h1.1 | exact h2.1 | (show _≤_; omega)
  · have e1:(vs.map (·.g.lo)).getD k 0=0:=by simp [List.getD,List.getElem?_eq_none (show vs.length≤k by omega)]
    have e2:(vs.map (·.d.lo)).getD k 0=0:=by simp [List.getD,List.getElem?_eq_none (show vs.length≤k by omega)]
    rw [e1,e2]; omega
def Ad8 (vs:List Ves):AV:=if Km vs=true then .tup [avW (C2 vs).1,bl true,bl (C2 vs).2] else .tup [avW v0,bl false,bl false]
theorem Aho {α:Type} {l:List α} {f:α→Int}:isl (l.map f)=.p (.sl (l.map fun x=>H8 (f x))):=by
  show AV.p (.sl ((l.map f).map _))=_
  rw [List.map_map]; rfl
theorem R7:∀ {vs:List Ves} {gs ds:List Int} {i:Nat} {v:List Liq},(Gg vs gs ds i v).1.length=v.length
  | [],_,_,_,_=>rfl
  | x :: vs,gs,ds,i,v=>by
    unfold Gg
    split
    · rfl
    · rw [R7,List.length_set]
theorem Jx {P:Program} {s:St} {i j k n off:Nat} {ty:TypeId} {g:Bool} {cs:List AV} {x:AV} (h1:s.t i=.ptr n off) (h2:(Aa P ty).agg=some g) (h3:s.o n=some (.cells cs)) (h4:Ai g (Aa P ty).sz (cs.drop off)=some x):(Cw P s [.cell i ty,.tmp j,.tmp k]).map Dg=some (.tup [x,s.t j,s.t k]):=by
  simp only [Cw,F2,h1,h2,h3,h4,Option.map_some]; rfl
theorem J9 {n:Nat} (v:List Liq):(cW v).map (AV.purge n)=cW v:=Lk ((Be n _).2 fun _ _ hx=>Nt (Pz hx) n)
theorem V1 (v:List Liq) (b c:Bool):(AV.tup [avW v,bl b,bl c]).isP=true:=by
  have h:AV.isP.isPL (cW v)=true:=(Je _).2 fun i x hx=>Pz hx
  simp only [AV.isP,AV.isP.isPL,h,Bool.and_self]
theorem Adj {vs:List Ves} (h:∀ j,j < vs.length→¬ 1 < Fb (vs.getD j default).g∧¬ 1 < Fb (vs.getD j default).d):Km vs=true:=by
  unfold Km
  rw [List.all_eq_true]
  intro x hx
  obtain ⟨j,hj,rfl⟩:=List.getElem_of_mem hx
  have:=h j hj
  rw [← List.getElem_eq_getD (h:=hj)] at this
  simp [this.1,this.2]
theorem Ara {vs:List Ves} {ss:List Stp} {nw m:Nat} {os:Nat→Option AO} {bd:Nat} (hW:Wk vs ss nw m os) (hvs:vs.length≤4) (hva:vs.all Eu=true) :
    Bh Try.prog bd (.fn (.func 84) [] []) [.ptr nw 0] os fun res os'=>res=Ad8 vs∧os'=os:=by
  refine B3 (v:=[116]) (q:=[]) (N:=52) (rs:=[.cell 2 166,.tmp 3,.tmp 4]) Try.func84 rfl (by kernel_rfl) rfl rfl (fun hcl hfree=>?_)
  have hfr0:∀ k,os (bd+k)=none:=fun k=>hfree _ (by omega)
  have ow:=hW.ow
  have hpg:∀ k,pgO (bd+k) os=os:=fun k=>Ady hcl (hfr0 k)
  have hv0t:(cW v0).take 8=cW v0:=rfl
  have hlw:=Ap hfree ow
  refine Ad fun K1 hK1=>?_
  simp (disch:=(first | assumption | omega)) only [hfr0,amL,amT,sA,sB,↓reduceIte]
  refine hK1 _ ?_
  refine Ad fun K2 hK2=>?_
  simp (disch:=(first | assumption | omega)) only [amL,sA]
  refine hK2 _ ?_
  refine Ab fun K3 hK3=>?_
  refine Ad fun K4 hK4=>?_
  simp (disch:=(first | assumption | omega)) only [ow,Ac,amL,amT,sA,↓reduceIte,reduceCtorEq]
  refine hK4 _ ?_
  refine Ar ?_
  refine Wh (bd+35) 1 5 (by simp only []; omega) rfl (by simp (disch:=omega) only [Ac]; exact hfr0 _) ?_
  refine Wh (bd+41) 1 6 (by simp only []; omega) rfl (by simp (disch:=omega) only [Ac]; exact hfr0 _) ?_
  refine Bg (α:=Nat) (fun k=>⟨T [(0,.ptr nw 0),(2,.ptr (bd+2) 0),(5,.own (bd+35) k),(6,.own (bd+41) k),(13,.p (slV vs)),(14,i64 vs.length),(15,i64 (k:Int))],upd (upd (upd os (bd+2) (some (.cells (cW v0)))) (bd+35) (some (.arr 1 ((vs.take k).map fun x=>H8 x.g.lo)))) (bd+41) (some (.arr 1 ((vs.take k).map fun x=>H8 x.d.lo)))⟩) (fun k=>vs.length - k) (fun k=>k≤vs.length∧∀ j,j < k→¬ 1 < Fb (vs.getD j default).g∧¬ 1 < Fb (vs.getD j default).d) 0 ?_ ?_ (fun k hx5 K5 hK5=>?_)
  · exact ⟨Nat.zero_le _,fun j hj=>absurd hj (Nat.not_lt_zero _)⟩
  · refine Hd ?_ ?_ ?_ ?_ <;> (try simp (disch:=(first | assumption | omega)) only [ow,Ac,List.map_nil,amL,sF,↓reduceIte,reduceCtorEq]); all_goals first | exact Sub.refl _ | exact Nc (Nc (Ec hcl)) | trace_state
  obtain ⟨hk,hone⟩:=hx5
  refine Ad fun K6 hK6=>?_
  simp (disch:=(first | assumption | omega)) only [amL,amT,sA,sF,↓reduceIte,reduceCtorEq]
  refine hK6 _ ?_
  refine Ab fun K7 hK7=>?_
  refine Al rfl (fun h=>MT.x ?_) (fun h=>ME.x ?_)
  all_goals
   first
   |refine MT.mk ?_
    first
    |exact Bool.noConfusion h
    |skip
     try simp only [nrm] at h
     refine Am ?_
     refine hK7 _ ?_
   |refine ME.mk ?_
    first
    |exact Bool.noConfusion h
    |skip
     try simp only [nrm] at h
     refine Bq ?_
     refine hK3 _ ?_
     refine Ab fun K8 hK8=>?_
     obtain rfl:k=vs.length:=by omega
     rw [List.take_length]
     have d1:(nw=bd+41)=False:=eq_false (by omega)
     have d2:(nw=bd+35)=False:=eq_false (by omega)
     have hcb:=Ag0 (bd:=bd+52) (os:=upd os (bd+2) (some (.cells (cW v0)))) (gs:=vs.map (·.g.lo)) (ds:=vs.map (·.d.lo)) ⟨(Ac (by omega)).trans hW.ow,(Ac (by have:=Ap hfree hW.om; omega)).trans hW.om⟩ hvs (List.length_map _) (List.length_map _) (fun k=>(X2 hva k).1) (fun k=>(X2 hva k).2)
     rw [Aho,Aho] at hcb
     have hl4:(Na vs (vs.map (·.g.lo)) (vs.map (·.d.lo))).1.length=4:=R7
     refine Acm (Nc (Ec hcl)) (by simp (disch:=omega) only [Ac]; exact hfr0 _) ?_
     simp only [W2,AV.frz,d1,Nat.add_left_cancel_iff,Nat.reduceEqDiff,if_false,List.length_map,Nat.le_refl,if_true]
     refine Acm (Ec hcl) (by simp (disch:=omega) only [Ac]; exact hfr0 _) ?_
     simp only [W2,AV.frz,d2,Nat.add_left_cancel_iff,Nat.reduceEqDiff,if_false,List.length_map,Nat.le_refl,if_true]
     rw [List.take_of_length_le (Nat.le_of_eq (List.length_map _)),List.take_of_length_le (Nat.le_of_eq (List.length_map _))]
     refine Ah ?_
     simp (disch:=(first | assumption | omega)) only [List.map_cons,List.map_nil,amL,sA,sF,↓reduceIte,reduceCtorEq]
     refine A2 [(2,.ptr (bd+2) 0)] (by decide) hcb (fun q hq=>by simp (disch:=omega) only [Ac]; exact hfree q (by omega)) (Nat.le_add_right _ _) (fun res os2 hR hcl2 hlv2=>?_)
     obtain ⟨rfl,rfl⟩:=hR
     simp (disch:=(first | assumption | omega)) only [Bz,B7,A0,amL,amT,sA,sB,sC,sF,↓reduceIte,reduceCtorEq]
     refine hK8 _ ?_
     refine Ad fun K9 hK9=>?_
     simp (disch:=(first | assumption | omega)) only [Bz,B7,A0,Br,amL,amT,sA,sF,↓reduceIte]
     refine hK9 _ ?_
     refine Aj ?_
     try simp (disch:=(first | assumption | omega)) only [amL]
     all_goals first
       | (refine A6 (res:=.tup [avW v0,bl false,bl false]) os ?_ (by first | ((repeat' first | exact Sub.refl _ | refine Sub.skip (by first | exact hfr0 _ | (simp (disch:=omega) only [Ac]; exact hfr0 _)) ?_ | refine Sub.both ?_); done) | fail) hcl (A9 _ (V1 _ _ _)) ⟨?_,rfl⟩
          · refine (Jx (n:=bd+2) (off:=0) (g:=true) (cs:=cW v0) (x:=avW v0) (by simp (disch:=(first | assumption | omega)) only [amL,sF,↓reduceIte]) (by simp only [amT]; rfl) (by simp (disch:=(first | assumption | omega)) only [amL]; try rfl) (by simp only [amT,List.drop_zero]; exact Aae rfl)).trans ?_
            simp (disch:=(first | assumption | omega)) only [amL,sF,↓reduceIte]
          · unfold Ad8; rw [if_neg (by rw [Zh (k:=k) (by omega) (by first | exact .inl (by assumption) | exact .inr (by simpa using h))]; simp)])
       | (refine A6 (res:=.tup [avW (C2 vs).1,bl true,bl (C2 vs).2]) os ?_ (by first | ((repeat' first | exact Sub.refl _ | refine Sub.skip (by first | exact hfr0 _ | (simp (disch:=omega) only [Ac]; exact hfr0 _)) ?_ | refine Sub.both ?_); done) | fail) hcl (A9 _ (V1 _ _ _)) ⟨?_,rfl⟩
          · refine (Jx (n:=bd+2) (off:=0) (g:=true) (cs:=cW (C2 vs).1) (x:=avW (C2 vs).1) (by simp (disch:=(first | assumption | omega)) only [amL,sF,↓reduceIte]) (by simp only [amT]; rfl) (by simp (disch:=(first | assumption | omega)) only [amL]; try rfl) (by simp only [amT,List.drop_zero]; exact Aae hl4)).trans ?_
            simp (disch:=(first | assumption | omega)) only [amL,sF,↓reduceIte]
            try rfl
          · unfold Ad8; rw [if_pos (Adj hone)])
       | trace_state
  all_goals
   skip
   refine Ab fun K10 hK10=>?_
   refine Ar ?_
   refine Ad fun K11 hK11=>?_
   simp (disch:=(first | assumption | omega)) only [hfr0,Ac,Bz,Di,List.map_cons,List.map_nil,amL,amT,sA,sB,sF,↓reduceIte,reduceCtorEq]
   refine hK11 _ ?_
   refine Ab fun K12 hK12=>?_
   refine Ad fun K13 hK13=>?_
   have hb:=Da (List.all_eq_true.1 hva _ (Dv default (show k < vs.length by omega)))
   have hr1:=C9 hb.1
   have hr2:=C9 hb.2.1
   simp (disch:=(first | assumption | omega)) only [List.map_cons,List.map_nil,amL,amT,sA,sB,sE,sG,↓reduceIte,reduceCtorEq]
   repeat' first | (refine Eo (fun h=>?_) (fun h=>?_) <;> simp (disch:=(first | assumption | omega)) only [h,List.map_cons,List.map_nil,amL,amT,sA,sB,sE,sF,sG,↓reduceIte,reduceCtorEq]) | (refine Cy (fun h=>?_) (fun h=>?_) <;> simp (disch:=(first | assumption | omega)) only [h,ow,hfr0,Ac,Bz,Di,B7,A0,hv0t,Br,Hm,Ns,Lb,hpg,J9,Ep,Gl,List.map_cons,List.map_nil,Lz,amL,amT,sA,sB,sC,sD,sE,sF,sG,sH,sI,sJ,sK,sL,sM,sN,sO,↓reduceIte,reduceCtorEq]) | (refine Ax (by kernel_rfl) rfl (Afo (vs.getD k default).g (by omega) (by omega)) (by first | exact .inl rfl | exact .inr (.inl rfl)) ?_ ; simp (disch:=(first | assumption | omega)) only [amL,amT,sA,↓reduceIte]) | (refine Ax (by kernel_rfl) rfl (Afo (vs.getD k default).d (by omega) (by omega)) (by first | exact .inl rfl | exact .inr (.inl rfl)) ?_ ; simp (disch:=(first | assumption | omega)) only [amL,amT,sA,sF,↓reduceIte])
   all_goals
    skip
    refine hK13 _ ?_
    refine Al rfl (fun h=>MT.x ?_) (fun h=>ME.x ?_)
    all_goals
     first
     |refine MT.mk ?_
      first
      |exact Bool.noConfusion h
      |skip
       try simp only [nrm] at h
       refine Ad fun K14 hK14=>?_
       simp (disch:=(first | assumption | omega)) only [Ac,B7,A0,hv0t,amL,amT,sA,sB,sC,sF,↓reduceIte,reduceCtorEq]
       refine hK14 _ ?_
       refine Aj ?_
       try simp (disch:=(first | assumption | omega)) only [amL]
       all_goals first
         | (refine A6 (res:=.tup [avW v0,bl false,bl false]) os ?_ (by first | ((repeat' first | exact Sub.refl _ | refine Sub.skip (by first | exact hfr0 _ | (simp (disch:=omega) only [Ac]; exact hfr0 _)) ?_ | refine Sub.both ?_); done) | fail) hcl (A9 _ (V1 _ _ _)) ⟨?_,rfl⟩
            · refine (Jx (n:=bd+2) (off:=0) (g:=true) (cs:=cW v0) (x:=avW v0) (by simp (disch:=(first | assumption | omega)) only [amL,sF,↓reduceIte,reduceCtorEq]) (by simp only [amT]; rfl) (by simp (disch:=(first | assumption | omega)) only [amL]; try rfl) (by simp only [amT,List.drop_zero]; exact Aae rfl)).trans ?_
              simp (disch:=(first | assumption | omega)) only [amL,sF,↓reduceIte]
            · unfold Ad8; rw [if_neg (by rw [Zh (k:=k) (by omega) (by first | exact .inl (by assumption) | exact .inr (by simpa using h))]; simp)])
         | (refine A6 (res:=.tup [avW (C2 vs).1,bl true,bl (C2 vs).2]) os ?_ (by first | ((repeat' first | exact Sub.refl _ | refine Sub.skip (by first | exact hfr0 _ | (simp (disch:=omega) only [Ac]; exact hfr0 _)) ?_ | refine Sub.both ?_); done) | fail) hcl (A9 _ (V1 _ _ _)) ⟨?_,rfl⟩
            · refine (Jx (n:=bd+2) (off:=0) (g:=true) (cs:=cW (C2 vs).1) (x:=avW (C2 vs).1) (by simp (disch:=(first | assumption | omega)) only [ow,hfr0,Ac,Bz,Di,B7,A0,hv0t,Br,Hm,Ns,Lb,hpg,J9,Ep,Gl,List.map_cons,List.map_nil,Lz,amL,amT,sA,sB,sC,sD,sE,sF,sG,sH,sI,sJ,sK,sL,sM,sN,sO,↓reduceIte,reduceCtorEq]) (by simp only [amT]; rfl) (by simp (disch:=(first | assumption | omega)) only [ow,hfr0,Ac,Bz,Di,B7,A0,hv0t,Br,Hm,Ns,Lb,hpg,J9,Ep,Gl,List.map_cons,List.map_nil,Lz,amL,amT,sA,sB,sC,sD,sE,sF,sG,sH,sI,sJ,sK,sL,sM,sN,sO,↓reduceIte,reduceCtorEq]; try rfl) (by simp only [amT,List.drop_zero]; exact Aae hl4)).trans ?_
              simp (disch:=(first | assumption | omega)) only [ow,hfr0,Ac,Bz,Di,B7,A0,hv0t,Br,Hm,Ns,Lb,hpg,J9,Ep,Gl,List.map_cons,List.map_nil,Lz,amL,amT,sA,sB,sC,sD,sE,sF,sG,sH,sI,sJ,sK,sL,sM,sN,sO,↓reduceIte,reduceCtorEq]
              try rfl
            · unfold Ad8; rw [if_pos (Adj hone)])
         | trace_state
     |refine ME.mk ?_
      first
      |exact Bool.noConfusion h
      |skip
       try simp only [nrm] at h
       refine Am ?_
       refine hK12 _ ?_
    all_goals
     skip
     refine Ah6 [] [31,32,33,34,37,38,39,40] (by kernel_rfl) (by kernel_rfl) (by kernel_rfl) ⟨(by simp (disch:=omega) only [Ac]; exact hfr0 _),(by simp (disch:=omega) only [Ac]; exact hfr0 _),(by simp (disch:=omega) only [Ac]; exact hfr0 _),(by simp (disch:=omega) only [Ac]; exact hfr0 _),(by simp (disch:=omega) only [Ac]; exact hfr0 _),(by simp (disch:=omega) only [Ac]; exact hfr0 _),(by simp (disch:=omega) only [Ac]; exact hfr0 _),(by simp (disch:=omega) only [Ac]; exact hfr0 _),trivial⟩ ?_
     simp (disch:=(first | assumption | omega)) only [hfr0,Ac,Hm,Ns,Lb,hpg,J9,Ep,Gl,List.map_cons,List.map_nil,Lz,amL,amT,sA,sE,sF,↓reduceIte,reduceCtorEq]
     refine hK10 _ ?_
     refine Ah ?_
     simp (disch:=(first | assumption | omega)) only [amL,amT,sA,sF,↓reduceIte,reduceCtorEq]
     refine hK5 (k+1) _ ?_ ?_ (Hd ?_ ?_ ?_ ?_)
     all_goals (try simp (disch:=(first | assumption | omega)) only [ow,Ac,amL,sF,↓reduceIte,reduceCtorEq])
     all_goals first | omega | exact Nc (Nc (Ec hcl)) | exact ⟨by omega,fun j hj=>by
       by_cases e:j=k
       · subst e; exact ⟨by assumption,by simpa using h⟩
       · exact hone j (by omega)⟩ | (rw [Ac6 default (show k < vs.length by omega),Ac6 default (show k < vs.length by omega)] ; exact (by first | ((repeat' first | exact Sub.refl _ | refine Sub.skip (by first | exact hfr0 _ | (simp (disch:=omega) only [Ac]; exact hfr0 _)) ?_ | refine Sub.both ?_); done) | fail)) | trace_state
structure Aqp (vs:List Ves) (ss:List Stp) (g k:Int) (nB mB nw ng nk ns:Nat) (os:Nat→Option AO):Prop where
  w:os nw=some (.cells [.ptr nB 0])
  b:os nB=some (.cells [.p (slV vs),.p (slS ss),.mp mB])
  g:os ng=some (.cells [i64 g])
  k:os nk=some (.cells [i64 k])
  s:os ns=some (.cells [.fn (.func 86) [] [.ptr nw 0,.ptr ng 0,.ptr nk 0,.ptr ns 0]])
def SrR (o:Option (List Stp)) (os:Nat→Option AO) (res:AV) (os':Nat→Option AO):Prop:=(∃ x:AV,res=.tup [x,bl o.isSome]∧x.isP=true∧∀ q,o=some q→x=.p (slS q))∧os'=os
def oS (os:Nat→Option AO) (bd:Nat) (v:List Liq) (p:List Stp) (many:Int) (nB:Nat) (x f:AV):Nat→Option AO:=
  upd (upd (upd (upd (upd (upd (upd os (bd+7) (some (.cells (cW v)))) (bd+8) (some (.cells [.p (slS p)]))) (bd+9) (some (.cells [i64 many]))) (bd+10) (some (.cells [x]))) (bd+11) (some (.cells [f]))) (bd+54+2) (some (.cells [.ptr nB 0]))) (bd+54+3) (some (.cells (cW v)))
theorem Ao8 {os:Nat→Option AO} {bd:Nat} {v:List Liq} {p:List Stp} {many:Int} {nB q:Nat} {x f:AV} (h:q≠bd+7∧q≠bd+8∧q≠bd+9∧q≠bd+10∧q≠bd+11∧q≠bd+54+2∧q≠bd+54+3):oS os bd v p many nB x f q=os q:=by
  unfold oS; simp (disch:=omega) only [Ac]
theorem F8 {os:Nat→Option AO} {bd:Nat} {v:List Liq} {p:List Stp} {many:Int} {nB q:Nat} {x f:AV} (h:q < bd):oS os bd v p many nB x f q=os q:=Ao8 (by omega)
theorem Bbx {os:Nat→Option AO} {bd:Nat} {v:List Liq} {p:List Stp} {many:Int} {nB:Nat} {x f:AV}:oS os bd v p many nB x f (bd+7)=some (.cells (cW v)):=by unfold oS; simp (disch:=omega) only [Ac,Bc]
theorem Azu {os:Nat→Option AO} {bd:Nat} {v:List Liq} {p:List Stp} {many:Int} {nB:Nat} {x f:AV}:oS os bd v p many nB x f (bd+8)=some (.cells [.p (slS p)]):=by unfold oS; simp (disch:=omega) only [Ac,Bc]
theorem Bam {os:Nat→Option AO} {bd:Nat} {v:List Liq} {p:List Stp} {many:Int} {nB:Nat} {x f:AV}:oS os bd v p many nB x f (bd+9)=some (.cells [i64 many]):=by unfold oS; simp (disch:=omega) only [Ac,Bc]
theorem Kz {os:Nat→Option AO} {bd:Nat} {v:List Liq} {p:List Stp} {many:Int} {nB:Nat} {x f:AV}:oS os bd v p many nB x f (bd+10)=some (.cells [x]):=by unfold oS; simp (disch:=omega) only [Ac,Bc]
theorem Kj {os:Nat→Option AO} {bd:Nat} {v:List Liq} {p:List Stp} {many:Int} {nB:Nat} {x f:AV}:oS os bd v p many nB x f (bd+11)=some (.cells [f]):=by unfold oS; simp (disch:=omega) only [Ac,Bc]
theorem At5 {os:Nat→Option AO} {bd:Nat} {v:List Liq} {p:List Stp} {many:Int} {nB:Nat} {x f:AV}:oS os bd v p many nB x f (bd+54+2)=some (.cells [.ptr nB 0]):=by unfold oS; simp (disch:=omega) only [Ac,Bc]
theorem Ax1 {os:Nat→Option AO} {bd:Nat} {v:List Liq} {p:List Stp} {many:Int} {nB:Nat} {x f:AV}:oS os bd v p many nB x f (bd+54+3)=some (.cells (cW v)):=by unfold oS; simp (disch:=omega) only [Bc]
theorem Alx {os:Nat→Option AO} {bd:Nat} {v:List Liq} {p:List Stp} {many:Int} {nB q:Nat} {x f x' f':AV} (h1:q≠bd+10) (h2:q≠bd+11):oS os bd v p many nB x f q=oS os bd v p many nB x' f' q:=by
  unfold oS upd
  split
  · rfl
  · split
    · rfl
    · rfl
theorem Agq {os:Nat→Option AO} {bd:Nat} {v:List Liq} {p:List Stp} {many:Int} {nB q:Nat} {x f x' f':AV}:(oS os bd v p many nB x f q).isSome=(oS os bd v p many nB x' f' q).isSome:=by
  by_cases h1:q=bd+10
  · subst h1; rw [Kz,Kz]; rfl
  · by_cases h2:q=bd+11
    · subst h2; rw [Kj,Kj]; rfl
    · rw [Alx h1 h2]
theorem Aiq {os:Nat→Option AO} {bd:Nat} {v:List Liq} {p:List Stp} {many:Int} {nB:Nat} {x f:AV} (hcl:(Hp os).closed) (hB:(os nB).isSome=true) (hb:nB < bd) (hx:x.isP=true) (hf:f.isP=true):(Hp (oS os bd v p many nB x f)).closed:=by
  refine Ec (Cr (F7 (F7 (F7 (F7 (Ec hcl) ?_) ?_) ?_) ?_) ?_)
  · intro y hy; simp only [List.mem_singleton] at hy; subst hy; rfl
  · intro y hy; simp only [List.mem_singleton] at hy; subst hy; rfl
  · intro y hy; simp only [List.mem_singleton] at hy; subst hy; exact hx
  · intro y hy; simp only [List.mem_singleton] at hy; subst hy; exact hf
  · rw [Dt]; simp (disch:=omega) only [Cs,Cm,C6,Ac,hB,and_self]
def Z9:Option (List Stp)→AV
  | none=>C4
  | some q=>.p (slS q)
def Ph (vs:List Ves) (g k:Int) (m:Nat) (v:List Liq) (p:List Stp) (s:Option (List Stp)) (x:Stp):Option (List Stp) × Option Code:=match Co vs g k m (Gx v x x.g.lo).1 (p++[x]) with
  | some q=>(some q,some .ret)
  | none=>(s,none)
theorem Abn {vs:List Ves} {g k:Int} {m:Nat} {v:List Liq} {p:List Stp}:∀ (l:List Stp),(Gb (fun (s:Option (List Stp) × Option Code) x=>(Ph vs g k m v p s.1 x,(Ph vs g k m v p s.1 x).2.isNone)) (none,none) l).1=match l.findSome? fun x=>Co vs g k m (Gx v x x.g.lo).1 (p++[x]) with
    | some q=>(some q,some .ret)
    | none=>(none,none)
  | []=>rfl
  | x :: l=>by
    simp only [Gb,List.findSome?_cons]
    cases h:Co vs g k m (Gx v x x.g.lo).1 (p++[x]) with
    | none=>
      have e:Ph vs g k m v p none x=(none,none):=by unfold Ph; rw [h]
      rw [e]; simp only [Option.isNone_none,if_true]; exact Abn l
    | some q=>
      have e:Ph vs g k m v p none x=(some q,some .ret):=by unfold Ph; rw [h]
      rw [e]; simp
theorem H2 {P:Program} {s:St} {i j n m:Nat} {ty ty2:TypeId} {x y:AV} (h1:s.t i=.ptr n 0) (h2:(Aa P ty).agg=some false) (h3:s.o n=some (.cells [x])) (h4:s.t j=.ptr m 0) (h5:(Aa P ty2).agg=some false) (h6:s.o m=some (.cells [y])):(Cw P s [.cell i ty,.cell j ty2]).map Dg=some (.tup [x,y]):=by
  simp only [Cw,F2,h1,h2,h3,h4,h5,h6,List.drop_zero,Ai,List.head?_cons]; rfl
theorem An7 (p:List Stp):((p.map P7).all fun c=>decide (c.length=5))=true:=by
  rw [List.all_eq_true]; intro c hc; obtain ⟨z,-,rfl⟩:=List.mem_map.1 hc; rfl
theorem Af8 (p:List Stp):((p.map P7).all fun e=>e.all PV.isVal)=true:=by
  rw [List.all_eq_true]; intro c hc; obtain ⟨z,-,rfl⟩:=List.mem_map.1 hc; rfl
theorem Arv {n:Nat} {es:List (List PV)} {x:AV} (h:x.isP=true):x.frz n es=x:=frz_id _ (Nt h n)
theorem Asa (v:List Liq):(avW v).isP=true:=(Je _).2 fun _ _ hx=>Pz hx
theorem Anr {n:Nat} {v:List Liq}:AV.clean.cleanL n (cW v)=true:=(Be n _).2 fun _ _ hx=>Nt (Pz hx) n
theorem Bbh {bd:Nat} {fv a c:AV} {p:List Stp} {x:Stp} {os:Nat→Option AO} {R:AV→(Nat→Option AO)→Prop} (h:Bh Try.prog bd fv [a,.p (slS (p++[x])),c] os R):Bh Try.prog bd fv [a,.p (.sl (p.map P7++[P7 x])),c] os R:=by
  rw [show slS (p++[x])=PV.sl (p.map P7++[P7 x]) from by simp [List.map_append]] at h; exact h
theorem Apf {n nw ng nk ns:Nat} {es:List (List PV)} (h1:nw≠n) (h2:ng≠n) (h3:nk≠n) (h4:ns≠n):(AV.fn (.func 86) [] [.ptr nw 0,.ptr ng 0,.ptr nk 0,.ptr ns 0]).frz n es=.fn (.func 86) [] [.ptr nw 0,.ptr ng 0,.ptr nk 0,.ptr ns 0]:=by
  simp only [AV.frz,AV.frz.frzL,h1,h2,h3,h4,if_false]
theorem Alv {n len:Nat} {es:List (List PV)} {w:List Liq} {m:Int} (h:len=es.length):[avW w,.own n len,i64 m].map (AV.frz n es)=[avW w,.p (.sl es),i64 m]:=by
  subst h
  show [(avW w).frz n es,(AV.own n es.length).frz n es,i64 m]=_
  rw [Arv (Asa w)]
  simp only [AV.frz,if_true,Nat.le_refl,List.take_length]
theorem Bf5 {v:List Liq} {s:Stp} {n:Int} {nv:Nat} {os:Nat→Option AO} {bd:Nat} (hk:0≤s.kind∧s.kind≤2) (hw:G1 v) (hs:0≤s.frm∧s.frm.toNat < v.length∧s.frm < 4) (ht:0≤s.to∧s.to.toNat < v.length∧s.to < 4) (hn:0≤n∧n≤1000000) (ov:os nv=some (.cells (cW v))) :
    Bh Try.prog bd (Ajc s.kind) [.ptr nv 0,avS s,i64 n] os fun res os'=>res=bl (Gx v s n).2∧os'=upd os nv (some (.cells (cW (Gx v s n).1))):=by
  have h:=Bd8 (tl:=[]) (bd:=bd) hk hw hs ht hn (by rw [List.append_nil]; exact ov)
  simpa only [List.append_nil] using h
abbrev tmS (bd nw ng nk ns:Nat):List (Nat × AV):=[(3,.ptr nw 0),(4,.ptr ng 0),(5,.ptr nk 0),(6,.ptr ns 0),(7,.ptr (bd+7) 0),(8,.ptr (bd+8) 0),(9,.ptr (bd+9) 0),(10,.ptr (bd+10) 0),(11,.ptr (bd+11) 0)]
theorem Acg {bd nw ng nk ns m:Nat} {k:F1} (h:(AO.loop k (tmS bd nw ng nk ns)).clean m=false):m=nw∨m=ng∨m=nk∨m=ns∨m=bd+7∨m=bd+8∨m=bd+9∨m=bd+10∨m=bd+11:=by
  simp [AO.clean,AV.clean,AV.clean.cleanL] at h
  omega
theorem Aof {vs:List Ves} {ss:List Stp} {g k:Int} {nB mB nw ng nk ns m:Nat} {v:List Liq} {p:List Stp} {os:Nat→Option AO} {bd bdL:Nat} (hvs:vs.length≤4) (hva:vs.all Eu=true) (hv:OkV v) (hp:p.length≤1000) (hso:Aqp vs ss g k nB mB nw ng nk ns os) (hcl:(Hp os).closed) (hfree:∀ n,bd≤n→os n=none) (hbL:bdL=bd+60)
    (hih:∀ (v':List Liq) (p':List Stp) (os':Nat→Option AO) (bd':Nat),OkV v'→p'.length≤p.length+1→Aqp vs ss g k nB mB nw ng nk ns os'→Bh Try.prog bd' (.fn (.func 86) [] [.ptr nw 0,.ptr ng 0,.ptr nk 0,.ptr ns 0]) [avW v',.p (slS p'),i64 (m:Int)] os' (SrR (Co vs g k m v' p') os'))
    (hm:m≤10) {A B:Code} (hcode:(Try.f86.body.bind Nl)=some (A,B)) :
    Zu Try.prog bdL ⟨54,[27],A,B,.ready,none⟩ (tmS bd nw ng nk ns) [] [] (fun n=>(oS os bd v p ((m:Int)+1) nB C4 (bl false) n).isSome=true) avS (Gp vs v) (fun s os'=>∀ n,(oS os bd v p ((m:Int)+1) nB C4 (bl false) n).isSome=true→os' n=oS os bd v p ((m:Int)+1) nB (Z9 s) (bl s.isSome) n) (Ph vs g k m v p) where
  ready:=rfl
  lenp:=rfl
  psn q hq:=by
    simp only [List.mem_cons,List.not_mem_nil,or_false] at hq
    subst hq; exact (by decide:27 < 54)
  notF h:=by
    rw [Ao8 (by omega),hfree _ (by omega)] at h; cases h
  tmF q hq:=by
    have b1:=Ap hfree hso.w
    have b2:=Ap hfree hso.g
    have b3:=Ap hfree hso.k
    have b4:=Ap hfree hso.s
    rcases Acg hq with rfl | rfl | rfl | rfl | rfl | rfl | rfl | rfl | rfl
    · rw [F8 b1,hso.w]; rfl
    · rw [F8 b2,hso.g]; rfl
    · rw [F8 b3,hso.k]; rfl
    · rw [F8 b4,hso.s]; rfl
    · rw [Bbx]; rfl
    · rw [Azu]; rfl
    · rw [Bam]; rfl
    · rw [Kz]; rfl
    · rw [Kj]; rfl
  stable s o1 o2 hI he n hn:=(he n hn).trans (hI n hn)
  foot s o1 n hI hn:=by
    have hn2:(oS os bd v p ((m:Int)+1) nB (Z9 s) (bl s.isSome) n).isSome=true:=by rw [Agq (x':=C4) (f':=bl false)]; exact hn
    obtain ⟨o,ho⟩:=Option.isSome_iff_exists.1 hn2
    refine ⟨o,(hI n hn).trans ho,fun q hq=>?_⟩
    have hc:=Aiq (v:=v) (p:=p) (many:=(m:Int)+1) hcl (by rw [hso.b]; rfl) (Ap hfree hso.b) (x:=Z9 s) (f:=bl s.isSome) (by cases s <;> rfl) rfl
    have:(oS os bd v p ((m:Int)+1) nB (Z9 s) (bl s.isSome) q).isSome=true:=hc.2 n o ho q hq
    rwa [Agq (x':=C4) (f':=bl false)] at this
  body s x o1 bd1 hx hI hl hcl1 hfree1 hb1 rl:=by
    have b1:=Ap hfree hso.w
    have b2:=Ap hfree hso.g
    have b3:=Ap hfree hso.k
    have b4:=Ap hfree hso.s
    have b5:=Ap hfree hso.b
    have a1:o1 nw=_:=(hI nw (by rw [F8 b1,hso.w]; rfl)).trans ((F8 b1).trans hso.w)
    have a2:o1 ng=_:=(hI ng (by rw [F8 b2,hso.g]; rfl)).trans ((F8 b2).trans hso.g)
    have a3:o1 nk=_:=(hI nk (by rw [F8 b3,hso.k]; rfl)).trans ((F8 b3).trans hso.k)
    have a4:o1 ns=_:=(hI ns (by rw [F8 b4,hso.s]; rfl)).trans ((F8 b4).trans hso.s)
    have a5:o1 nB=_:=(hI nB (by rw [F8 b5,hso.b]; rfl)).trans ((F8 b5).trans hso.b)
    have a7:o1 (bd+7)=_:=(hI (bd+7) (by rw [Bbx]; rfl)).trans Bbx
    have a8:o1 (bd+8)=_:=(hI (bd+8) (by rw [Azu]; rfl)).trans Azu
    have a9:o1 (bd+9)=_:=(hI (bd+9) (by rw [Bam]; rfl)).trans Bam
    have a10:o1 (bd+10)=_:=(hI (bd+10) (by rw [Kz]; rfl)).trans Kz
    have a11:o1 (bd+11)=_:=(hI (bd+11) (by rw [Kj]; rfl)).trans Kj
    have hfr0:∀ k,o1 (bd1+k)=none:=fun k=>hfree1 _ (by omega)
    have hpg:∀ k,pgO (bd1+k) o1=o1:=fun k=>Ady hcl1 (hfr0 k)
    obtain ⟨x1,x2,x3,x4,x5,x6⟩:=Ano hv hvs hva hx
    obtain ⟨y1,y2,y3,y4,y5⟩:=Fq x1
    have hsm:=hv.small
    have hl4:=hv.len
    have hix:Ae0 (fun e=>(Aa Try.prog e).sz) (fun e=>(Aa Try.prog e).agg) (.agg Aha) (.arr 3 204) (i64 x.kind)=some (.pure (.agg [Ajc x.kind])):=Ye (by simp only [amT]) (by simp only [amT]; rfl) y1.1 y1.2
    have la4:(Gx v x x.g.lo).1.length=4:=by rw [Zw,hl4]
    have hv0t:(cW v0).take 8=cW v0:=rfl
    have hm1:IntKind.i64.wrap ((m:Int)+1 - 1)=m:=by rw [Fc (by omega) (by omega)]; omega
    have hpf:∀ j,AV.purge (bd1+j) (.fn (.func 86) [] [.ptr nw 0,.ptr ng 0,.ptr nk 0,.ptr ns 0])=.fn (.func 86) [] [.ptr nw 0,.ptr ng 0,.ptr nk 0,.ptr ns 0]:=fun j=>by
      unfold AV.purge
      refine if_pos ?_
      simp [AV.clean,AV.clean.cleanL]; omega
    have hpl:∀ j (kk:F1),AO.purge (bd1+j) (.loop kk (tmS bd nw ng nk ns))=.loop kk (tmS bd nw ng nk ns):=fun j kk=>by
      show AO.loop kk (List.map _ _)=_
      congr 1
      simp (disch:=omega) only [tmS,List.map_cons,List.map_nil,X0,if_neg]
    have hlq:∀ {q:Nat} {kk:F1},(AO.loop kk (tmS bd nw ng nk ns)).clean q=false→(o1 q).isSome=true∧q < bd1∧q≠bdL:=fun {q kk} hq=>by
      rcases Acg hq with e | e | e | e | e | e | e | e | e <;> (refine ⟨?_,by omega,by omega⟩ ; rw [e] ; first | (rw [a1]; rfl) | (rw [a2]; rfl) | (rw [a3]; rfl) | (rw [a4]; rfl) | (rw [a7]; rfl) | (rw [a8]; rfl) | (rw [a9]; rfl) | (rw [a10]; rfl) | (rw [a11]; rfl))
    have hclB:∀ {os:Nat→Option AO} {n k:Nat} {es:List (List PV)},(Hp os).closed→(Hp (upd os n (some (.arr k es)))).closed:=fun h=>Nc h
    have hsoB:∀ {os:Nat→Option AO},(∀ q,q < bd→os q=o1 q)→Aqp vs ss g k nB mB nw ng nk ns os:=fun h=>⟨(h _ b1).trans a1,(h _ b5).trans a5,(h _ b2).trans a2,(h _ b3).trans a3,(h _ b4).trans a4⟩
    cases (show some (_,_)=some (A,B) from hcode)
    show AWP _ _ 54 _ ⟨T [(27,avS x),(3,.ptr nw 0),(4,.ptr ng 0),(5,.ptr nk 0),(6,.ptr ns 0),(7,.ptr (bd+7) 0),(8,.ptr (bd+8) 0),(9,.ptr (bd+9) 0),(10,.ptr (bd+10) 0),(11,.ptr (bd+11) 0)],o1⟩ _
    refine Ah ?_
    simp (disch:=omega) only [hl,hfr0,Ac,Bz,amL,amT,sA,sB,sF,↓reduceIte]
    try simp (disch:=omega) only [hl,hfr0,Ac,Bz,amL,amT,sA,sB,sC,sD,sE,sF,sG,sH,sI,sJ,sK,sL,sM,sN,sO,↓reduceIte,reduceCtorEq]
    skip
    refine Ar ?_
    refine Ad fun K1 hK1=>?_
    simp (disch:=(first | assumption | omega)) only [a7,hfr0,Ac,Bz,Br,A0,Aio,amL,amT,sA,sB,sF,↓reduceIte]
    refine hK1 _ ?_
    refine Ab fun K2 hK2=>?_
    refine Ch (by kernel_rfl) (by kernel_rfl) ?_
    simp (disch:=(first | assumption | omega)) only [List.map_nil,amL]
    repeat' first | (refine Ax (by kernel_rfl) rfl (Am5) (by first | exact .inl rfl | exact .inr (.inl rfl)) ?_ ; simp (disch:=(first | assumption | omega)) only [Ac,Vg,hix,List.map_cons,List.map_nil,amL,amT,sA,sB,sF,↓reduceIte,reduceCtorEq]) | (refine A2 [(12,.ptr (bd1+12) 0),(13,.ptr (bd1+13) 0),(3,.ptr nw 0),(4,.ptr ng 0),(5,.ptr nk 0),(6,.ptr ns 0),(7,.ptr (bd+7) 0),(8,.ptr (bd+8) 0),(9,.ptr (bd+9) 0),(10,.ptr (bd+10) 0),(11,.ptr (bd+11) 0)] (by decide) (Bf5 (v:=v) (s:=x) (n:=x.g.lo) (nv:=bd1+13) (bd:=bd1+54) y1 hsm ⟨by omega,by omega,by omega⟩ ⟨by omega,by omega,by omega⟩ ⟨by omega,by omega⟩ (by first | (simp (disch:=(first | assumption | omega)) only [amL]; done) | fail)) (fun q hq=>by simp (disch:=omega) only [Ac]; exact hfree1 q (by omega)) (Nat.le_add_right _ _) (fun res os2 hR hcl2 hlv2=>?_) ; obtain ⟨rfl,rfl⟩:=hR ; simp (disch:=(first | assumption | omega)) only [a1,a2,a3,a4,a7,a8,a9,a10,a11,Ac,Bz,amL,sF,↓reduceIte])
    refine hK2 _ ?_
    refine Ab fun K3 hK3=>?_
    refine T4 9 [.app [6],.app [13,41]] (by kernel_rfl) (by kernel_rfl) ?_
    simp only [List.take_succ_cons,List.take_zero,List.drop_succ_cons,List.drop_zero]
    simp (disch:=(first | assumption | omega)) only [a4,a8,Ac,Br,A0,List.map_cons,List.map_nil,amL,amT,sA,sF,↓reduceIte]
    refine Ui (by kernel_rfl) (by decide) (Ade (p.map P7) (An7 p) (Af8 p) (by rw [List.length_map]; omega)) (by simp (disch:=(first | assumption | omega)) only [hfr0,Ac]) ?_
    simp (disch:=(first | assumption | omega)) only [a9,hm1,hfr0,Ac,hpf,hpl,Anr,Hm,Ns,Lb,hpg,J9,Ep,Gl,List.map_cons,List.map_nil,Lz,amL,amT,sA,sB,sC,sE,sF,↓reduceIte,reduceCtorEq]
    refine ⟨rfl,?_⟩
    refine Aes (bd:=bd1+54) (bd1+46) Bc _ [(3,.ptr nw 0),(4,.ptr ng 0),(5,.ptr nk 0),(6,.ptr ns 0),(7,.ptr (bd+7) 0),(8,.ptr (bd+8) 0),(9,.ptr (bd+9) 0),(10,.ptr (bd+10) 0),(11,.ptr (bd+11) 0)] ((Abp (hclB (Ec (Cr (F7 hcl1 (by simp [AV.isP])) (fun q hq=>?_)))) (by simp (disch:=omega) only [Ac]; exact hfr0 _)).trans rfl) (by decide) (by
      rw [Apf (by omega) (by omega) (by omega) (by omega),Alv (by simp)]
      exact Bbh (hih (Gx v x x.g.lo).1 (p++[x]) _ (bd1+54) x5 (by simp) (hsoB fun q hq=>by simp (disch:=omega) only [Ac]))) (fun q hq=>by simp (disch:=omega) only [Ac]; exact hfree1 q (by omega)) (Nat.le_add_right _ _) (fun res os2 hR hcl2 hlv2=>?_)
    · obtain ⟨hq1,hq2,hq3⟩:=hlq hq
      simp (disch:=omega) only [Ac]; exact hq1
    obtain ⟨⟨y,rfl,hyp,hyq⟩,rfl⟩:=hR
    simp (disch:=omega) only [W2,AV.frz,if_neg]
    simp (disch:=(first | assumption | omega)) only [a1,a2,a3,a4,a7,a8,a9,a10,a11,Ac,amL,sA,sF,↓reduceIte]
    trace_state
    refine hK3 _ ?_
    refine Ad fun K4 hK4=>?_
    simp (disch:=(first | assumption | omega)) only [amL,sA,↓reduceIte]
    refine hK4 _ ?_
    refine Al rfl (fun h=>?_) (fun h=>?_)
    ·first
     | exact Bool.noConfusion h
     |skip
      try simp only [nrm] at h
      refine Ad fun K5 hK5=>?_
      obtain ⟨q,hq⟩:=Option.isSome_iff_exists.1 h
      have hy:=hyq q hq
      subst hy
      simp (disch:=(first | assumption | omega)) only [a10,a11,Ac,amL,amT,sF,↓reduceIte]
      refine hK5 _ ?_
      refine Aj ?_
      try simp (disch:=(first | assumption | omega)) only [Af7,amL]
      first
        | (have hb:Ph vs g k m v p s x=(some q,some .ret):=by unfold Ph; rw [hq]
           refine Qb (upd (upd (upd o1 (bd+10) (some (.cells [.p (slS q)]))) (bd+11) (some (.cells [bl true]))) bdL (some (.loop (Al1 _ (some .ret)) (tmS bd nw ng nk ns)))) (by simp (disch:=omega) only [Ac,Bc]) (fun z=>?_) ?_ ⟨by rw [hb] ; first | done | rfl,⟨fun n hn=>?_,by rw [Bc,hb]⟩,fun n hn=>?_⟩
           · by_cases e1:z=bdL
             · subst e1; right; rw [Bc,Bc] ; first | done | rfl
             · by_cases e2:z=bd+11
               · subst e2; right; simp (disch:=omega) only [Ac,Bc]
               · by_cases e3:z=bd+10
                 · subst e3; right; simp (disch:=omega) only [Ac,Bc]
                 · by_cases e4:bd1≤z
                   · left; simp (disch:=omega) only [Ac]; exact hfree1 z e4
                   · right; simp (disch:=omega) only [Ac]
           · refine Cr (F7 (F7 hcl1 (by simp [AV.isP])) (by simp [AV.isP])) (fun z hz=>?_)
             obtain ⟨z1,z2,z3⟩:=hlq hz
             by_cases e2:z=bd+11
             · subst e2; simp (disch:=omega) only [Ac,Bc,Option.isSome_some]
             · by_cases e3:z=bd+10
               · subst e3; simp (disch:=omega) only [Ac,Bc,Option.isSome_some]
               · simp (disch:=omega) only [Ac]; exact z1
           · rw [hb]
             have hnL:n≠bdL:=fun e=>by subst e; rw [Ao8 (by omega),hfree _ (by omega)] at hn; cases hn
             by_cases e2:n=bd+11
             · subst e2; rw [Kj]; simp (disch:=omega) only [Ac,Bc,Option.isSome_some]
             · by_cases e3:n=bd+10
               · subst e3; rw [Kz]; simp (disch:=omega) only [Ac,Bc,Z9]
               · simp (disch:=omega) only [Ac]
                 exact (hI n hn).trans (Alx e3 e2)
           · have h1:n≠bdL:=fun e=>hn (.inr e)
             have h2:n≠bd+11:=fun e=>hn (.inl (by rw [e,Kj]; rfl))
             have h3:n≠bd+10:=fun e=>hn (.inl (by rw [e,Kz]; rfl))
             simp (disch:=omega) only [Ac])
        | (have hb:Ph vs g k m v p s x=(s,none):=by
             unfold Ph; cases hr:Co vs g k m (Gx v x x.g.lo).1 (p++[x]) with
             | none=>rfl
             | some q=>rw [hr] at h; cases h
           refine Qb o1 (by simp (disch:=omega) only [Ac,Bc]) (fun z=>?_) hcl1 ⟨by rw [hb] ; first | done | rfl,⟨fun n hn=>by rw [hb]; exact hI n hn,by rw [hb]; exact hl⟩,fun _ _=>rfl⟩
           by_cases e1:z=bdL
           · subst e1; right; rw [Bc]; exact hl
           · by_cases e4:bd1≤z
             · left; exact hfree1 z e4
             · right; simp (disch:=omega) only [Ac])
        | trace_state
    ·first
     | exact Bool.noConfusion h
     |skip
      try simp only [nrm] at h
      refine Am ?_
      try simp (disch:=(first | assumption | omega)) only [Wq,amL]
      first
        | (have hb:Ph vs g k m v p s x=(some q,some .ret):=by unfold Ph; rw [hq]
           refine Qb (upd (upd (upd o1 (bd+10) (some (.cells [.p (slS q)]))) (bd+11) (some (.cells [bl true]))) bdL (some (.loop (Al1 _ (some .ret)) (tmS bd nw ng nk ns)))) (by simp (disch:=omega) only [Ac,Bc]) (fun z=>?_) ?_ ⟨by rw [hb] ; first | done | rfl,⟨fun n hn=>?_,by rw [Bc,hb]⟩,fun n hn=>?_⟩
           · by_cases e1:z=bdL
             · subst e1; right; rw [Bc,Bc] ; first | done | rfl
             · by_cases e2:z=bd+11
               · subst e2; right; simp (disch:=omega) only [Ac,Bc]
               · by_cases e3:z=bd+10
                 · subst e3; right; simp (disch:=omega) only [Ac,Bc]
                 · by_cases e4:bd1≤z
                   · left; simp (disch:=omega) only [Ac]; exact hfree1 z e4
                   · right; simp (disch:=omega) only [Ac]
           · refine Cr (F7 (F7 hcl1 (by simp [AV.isP])) (by simp [AV.isP])) (fun z hz=>?_)
             obtain ⟨z1,z2,z3⟩:=hlq hz
             by_cases e2:z=bd+11
             · subst e2; simp (disch:=omega) only [Ac,Bc,Option.isSome_some]
             · by_cases e3:z=bd+10
               · subst e3; simp (disch:=omega) only [Ac,Bc,Option.isSome_some]
               · simp (disch:=omega) only [Ac]; exact z1
           · rw [hb]
             have hnL:n≠bdL:=fun e=>by subst e; rw [Ao8 (by omega),hfree _ (by omega)] at hn; cases hn
             by_cases e2:n=bd+11
             · subst e2; rw [Kj]; simp (disch:=omega) only [Ac,Bc,Option.isSome_some]
             · by_cases e3:n=bd+10
               · subst e3; rw [Kz]; simp (disch:=omega) only [Ac,Bc,Z9]
               · simp (disch:=omega) only [Ac]
                 exact (hI n hn).trans (Alx e3 e2)
           · have h1:n≠bdL:=fun e=>hn (.inr e)
             have h2:n≠bd+11:=fun e=>hn (.inl (by rw [e,Kj]; rfl))
             have h3:n≠bd+10:=fun e=>hn (.inl (by rw [e,Kz]; rfl))
             simp (disch:=omega) only [Ac])
        | (have hb:Ph vs g k m v p s x=(s,none):=by
             unfold Ph; cases hr:Co vs g k m (Gx v x x.g.lo).1 (p++[x]) with
             | none=>rfl
             | some q=>rw [hr] at h; cases h
           refine Qb o1 (by simp (disch:=omega) only [Ac,Bc]) (fun z=>?_) hcl1 ⟨by rw [hb] ; first | done | rfl,⟨fun n hn=>by rw [hb]; exact hI n hn,by rw [hb]; exact hl⟩,fun _ _=>rfl⟩
           by_cases e1:z=bdL
           · subst e1; right; rw [Bc]; exact hl
           · by_cases e4:bd1≤z
             · left; exact hfree1 z e4
             · right; simp (disch:=omega) only [Ac])
        | trace_state
theorem Acs {vs:List Ves} {g k:Int} {v:List Liq} {p:List Stp}:(Co vs g k 0 v p).isSome=Un vs.length v g k∧∀ q,Co vs g k 0 v p=some q→q=p:=by
  unfold Co
  cases h:Un vs.length v g k with
  | true=>exact ⟨rfl,fun q hq=>by cases hq; rfl⟩
  | false=>exact ⟨rfl,fun q hq=>by cases hq⟩
theorem Bbt {t:Nat→AV} {tm:List (Nat × AV)} (h:leT t tm):∀ (j:Nat) (p:Nat × AV),tm[j]?=some p→p.2=.undef∨p.2=t p.1:=by
  induction tm with
  | nil=>intro j p hp; simp at hp
  | cons x r ih=>
    obtain ⟨i,v⟩:=x
    rw [Aw] at h
    intro j p hp
    cases j with
    | zero=>simp at hp; subst hp; exact .inr h.1.symm
    | succ j=>exact ih h.2 j p (by simpa using hp)
theorem Alh {vs:List Ves} {ss:List Stp} {g k:Int} {nB mB nw ng nk ns:Nat} (hvs:vs.length≤4) (hva:vs.all Eu=true) (m:Nat):m≤10→∀ (v:List Liq) (p:List Stp) (os:Nat→Option AO) (bd:Nat),OkV v→p.length+m≤900→Aqp vs ss g k nB mB nw ng nk ns os →
    Bh Try.prog bd (.fn (.func 86) [] [.ptr nw 0,.ptr ng 0,.ptr nk 0,.ptr ns 0]) [avW v,.p (slS p),i64 (m:Int)] os (SrR (Co vs g k m v p) os):=by
  induction m using Nat.strongRecOn with
  | ind m ih=>
  intro hm v p os bd hv hp hso
  refine X4 (v:=[87,88]) (q:=[87]) (N:=54) (rs:=[.cell 10 47,.cell 11 4]) Try.func86 rfl (by kernel_rfl) rfl rfl (fun hcl hfree=>?_)
  have hfr0:∀ k,os (bd+k)=none:=fun k=>hfree _ (by omega)
  have hw:=hso.w
  have hg:=hso.g
  have hk:=hso.k
  have hB:=hso.b
  have hS:=hso.s
  have b1:=Ap hfree hso.w
  have b2:=Ap hfree hso.g
  have b3:=Ap hfree hso.k
  have b4:=Ap hfree hso.s
  have b5:=Ap hfree hso.b
  have hl4:=hv.len
  have hsB:(os nB).isSome=true:=by rw [hB]; rfl
  obtain ⟨A,B,hcode⟩:∃ A B,(Try.f86.body.bind Nl)=some (A,B):=⟨_,_,rfl⟩
  refine Lj fun K1 hK1=>?_
  refine Ah ?_
  simp (disch:=(first | assumption | omega)) only [hfr0,Ac,amL,amT,sA,sB,sF,↓reduceIte,reduceCtorEq]
  refine hK1 _ ?_
  refine Lj fun K2 hK2=>?_
  refine Ad fun K3 hK3=>?_
  simp (disch:=(first | assumption | omega)) only [Ac,amL,amT,sA,sF,↓reduceIte]
  refine hK3 _ ?_
  refine Al rfl (fun h=>MT.x ?_) (fun h=>ME.x ?_)
  all_goals
   first
   |refine MT.mk ?_
    first
    |exact Bool.noConfusion h
    |skip
     try simp only [nrm] at h
     refine Ab fun K4 hK4=>?_
     obtain rfl:m=0:=by omega
     refine T4 8 [] (by kernel_rfl) (by kernel_rfl) ?_
     simp only [List.take_succ_cons,List.take_zero,List.drop_succ_cons,List.drop_zero]
     simp (disch:=(first | assumption | omega)) only [hw,hg,hk,Ac,Br,A0,amL,amT,sA,sF,sG,↓reduceIte,reduceCtorEq]
     refine Anv (bd:=bd+54) (by decide) (Aqz (ss:=ss) (m:=mB) (by simp (disch:=omega) only [Ac]; exact hB) hvs hv.small hl4) (fun q hq=>by simp (disch:=omega) only [Ac]; exact hfree q (by omega)) (Nat.le_add_right _ _) rfl ?_
     simp (disch:=(first | assumption | omega)) only [Ac,amL,amT,sF,↓reduceIte]
     refine hK4 _ ?_
     refine Aj ?_
     try simp (disch:=(first | assumption | omega)) only [amL]
     first
       | (obtain ⟨s1,s2⟩:=Acs (vs:=vs) (g:=g) (k:=k) (v:=v) (p:=p)
          refine A6 (res:=.tup [.p (slS p),bl (Un vs.length v g k)]) os (H2 (n:=bd+10) (m:=bd+11) (by simp (disch:=(first | assumption | omega)) only [amL,sF,↓reduceIte]) (by simp only [amT]; rfl) (by simp (disch:=(first | assumption | omega)) only [Ac,amL]) (by simp (disch:=(first | assumption | omega)) only [amL,sF,↓reduceIte]) (by simp only [amT]; rfl) (by simp (disch:=(first | assumption | omega)) only [amL])) (by first | ((repeat' first | exact Sub.refl _ | refine Sub.skip (by first | exact hfr0 _ | (simp (disch:=omega) only [Ac]; exact hfr0 _)) ?_ | refine Sub.both ?_); done) | fail) hcl (A9 _ rfl) ⟨⟨_,by rw [s1],rfl,fun q hq=>by rw [s2 q hq]⟩,rfl⟩)
       | (refine A6 (res:=.tup [C4,bl false]) os (H2 (n:=bd+10) (m:=bd+11) (by simp (disch:=(first | assumption | omega)) only [hw,hg,hk,hB,hS,hfr0,Ac,Bz,Br,A0,amL,amT,sA,sB,sC,sD,sE,sF,sG,sH,sI,sJ,sK,sL,sM,sN,sO,↓reduceIte,reduceCtorEq]) (by simp only [amT]; rfl) (by simp (disch:=(first | assumption | omega)) only [hw,hg,hk,hB,hS,hfr0,Ac,Bz,Br,A0,amL,amT,sA,sB,sC,sD,sE,sF,sG,sH,sI,sJ,sK,sL,sM,sN,sO,↓reduceIte,reduceCtorEq]) (by simp (disch:=(first | assumption | omega)) only [hw,hg,hk,hB,hS,hfr0,Ac,Bz,Br,A0,amL,amT,sA,sB,sC,sD,sE,sF,sG,sH,sI,sJ,sK,sL,sM,sN,sO,↓reduceIte,reduceCtorEq]) (by simp only [amT]; rfl) (by simp (disch:=(first | assumption | omega)) only [hw,hg,hk,hB,hS,hfr0,Ac,Bz,Br,A0,amL,amT,sA,sB,sC,sD,sE,sF,sG,sH,sI,sJ,sK,sL,sM,sN,sO,↓reduceIte,reduceCtorEq])) (fun z=>?_) hcl (A9 _ rfl) ⟨⟨_,by rw [hr]; rfl,rfl,fun q hq=>by rw [hr] at hq; cases hq⟩,rfl⟩
          cases hz:os z with
          | none=>exact .inl rfl
          | some o=>
            have hz1:=Ap hfree hz
            obtain ⟨g1,g2⟩:=hlt z hz1 (by rw [hz]; rfl) (Z9 none) (bl false)
            right; simp (disch:=omega) only [Ac]; rw [hI3 z g1]; exact (g2.trans hz).symm)
       | trace_state
   |refine ME.mk ?_
    first
    |exact Bool.noConfusion h
    |skip
     try simp only [nrm] at h
     refine Am ?_
     refine hK2 _ ?_
  all_goals
   skip
   refine Aer fun K5 hK5=>?_
   refine Lj fun K6 hK6=>?_
   refine Ah ?_
   obtain ⟨m,rfl⟩:∃ j,m=j+1:=⟨m - 1,by omega⟩
   simp (disch:=(first | assumption | omega)) only [hw,Ac,Br,A0,amL,amT,sA,sF,sG,↓reduceIte,reduceCtorEq]
   refine A2 [(3,.ptr nw 0),(4,.ptr ng 0),(5,.ptr nk 0),(6,.ptr ns 0),(7,.ptr (bd+7) 0),(8,.ptr (bd+8) 0),(9,.ptr (bd+9) 0),(10,.ptr (bd+10) 0),(11,.ptr (bd+11) 0)] (by decide) (Asl (v:=v) (nw:=nB) (bd:=bd+54) (by simp (disch:=omega) only [Ac]; exact hsB)) (fun q hq=>by simp (disch:=omega) only [Ac]; exact hfree q (by omega)) (Nat.le_add_right _ _) (fun res os2 hR hcl2 hlv2=>?_)
   obtain ⟨rfl,rfl⟩:=hR
   simp (disch:=(first | assumption | omega)) only [hw,hg,hk,hS,Ac,amL,sF,↓reduceIte,reduceCtorEq]
   refine hK6 _ ?_
   refine Vi ?_
   have hRd:=Aof (v:=v) (p:=p) (bdL:=bd+60) (m:=m) hvs hva hv (by omega) hso hcl hfree rfl (fun v' p' os' bd' h1 h2 h3=>ih m (by omega) (by omega) v' p' os' bd' h1 (by omega) h3) (by omega) hcode
   have hc:=Aog (n1:=bd+54+2) (n2:=bd+54+3) (nw:=nB) (ss:=ss) (m:=mB) hRd.yields (fun s os' hI=>⟨(hI.1 _ (by rw [At5]; rfl)).trans At5,(hI.1 _ (by rw [Ax1]; rfl)).trans Ax1,(hI.1 nB (by rw [F8 b5,hso.b]; rfl)).trans ((F8 b5).trans hso.b)⟩) hv hvs hva (s:=(none,none)) (os:=upd (oS os bd v p ((m:Int)+1) nB C4 (bl false)) (bd+60) (some (.loop ⟨54,[27],A,B,.ready,none⟩ (tmS bd nw ng nk ns)))) (bd:=bd+61) rfl ⟨fun n hn=>(Ac (fun e=>by subst e; rw [Ao8 (by omega),hfree _ (by omega)] at hn; cases hn)),Bc⟩
   cases (show some (_,_)=some (A,B) from hcode)
   refine Mg (bd:=bd+60) (tm:=tmS bd nw ng nk ns) rfl (fun q hq=>by simp (disch:=omega) only [Ac]; exact hfree q (by omega)) (by simp only []; omega) rfl (by kernel_rfl) (fun i=>Aau (by simp (disch:=(first | assumption | omega)) only [amL,sF,↓reduceIte]) i) (Bbt (by simp (disch:=(first | assumption | omega)) only [amL,sF,↓reduceIte])) hc (fun res os2 hR hcl2=>?_)
   obtain ⟨rfl,hI2,hfr2⟩:=hR
   have hI2:=hI2
   rw [Abn] at hI2
   have hlt:∀ q,q < bd→(os q).isSome=true→∀ x f,(oS os bd v p ((m:Int)+1) nB C4 (bl false) q).isSome=true∧oS os bd v p ((m:Int)+1) nB x f q=os q:=fun q h1 h2 x f=>⟨by rw [F8 h1]; exact h2,F8 h1⟩
   cases hr:Co vs g k (m+1) v p with
   | some q=>
     rw [show ((Gp vs v).findSome? fun x=>Co vs g k m (Gx v x x.g.lo).1 (p++[x]))=some q from hr] at hI2
     obtain ⟨hI3,hI4⟩:=hI2
     dsimp only at hI3 hI4
     have p10:os2 (bd+10)=_:=(hI3 (bd+10) (by rw [Kz]; rfl)).trans Kz
     have p11:os2 (bd+11)=_:=(hI3 (bd+11) (by rw [Kj]; rfl)).trans Kj
     refine ⟨_,hI4,by simp [],?_⟩
     show Lf 0 _ .ret _
     simp (disch:=omega) only [Tu,Yn,Abs]
     refine A6 (res:=.tup [.p (slS q),bl true]) os (H2 (n:=bd+10) (m:=bd+11) (by simp (disch:=(first | assumption | omega)) only [amL,sF,↓reduceIte]) (by simp only [amT]; rfl) ((Ac (by omega)).trans p10) (by simp (disch:=(first | assumption | omega)) only [amL,sF,↓reduceIte]) (by simp only [amT]; rfl) ((Ac (by omega)).trans p11)) (fun z=>?_) hcl (A9 _ rfl) ⟨⟨_,rfl,rfl,fun q' hq'=>by cases hq'; rfl⟩,rfl⟩
     cases hz:os z with
     | none=>exact .inl rfl
     | some o=>
       have hz1:=Ap hfree hz
       obtain ⟨g1,g2⟩:=hlt z hz1 (by rw [hz]; rfl) (Z9 (some q)) (bl true)
       right; exact ((Ac (by omega)).trans ((hI3 z g1).trans (g2.trans hz))).symm
   | none=>
   rw [show ((Gp vs v).findSome? fun x=>Co vs g k m (Gx v x x.g.lo).1 (p++[x]))=none from hr] at hI2
   obtain ⟨hI3,hI4⟩:=hI2
   dsimp only at hI3 hI4
   have p10:os2 (bd+10)=_:=(hI3 (bd+10) (by rw [Kz]; rfl)).trans Kz
   have p11:os2 (bd+11)=_:=(hI3 (bd+11) (by rw [Kj]; rfl)).trans Kj
   refine ⟨_,hI4,by simp [],?_⟩
   show Lf 0 _ .normal _
   simp only [Pa,Qq]
   refine hK5 _ ?_
   refine Lj fun K7 hK7=>?_
   refine Ah ?_
   simp (disch:=(first | assumption | omega)) only [p10,p11,Ac,amL,amT,sF,↓reduceIte]
   refine hK7 _ ?_
   refine Dz ?_
   refine Aj ?_
   try simp (disch:=(first | assumption | omega)) only [amL]
   first
     | (obtain ⟨s1,s2⟩:=Acs (vs:=vs) (g:=g) (k:=k) (v:=v) (p:=p)
        refine A6 (res:=.tup [.p (slS p),bl (Un vs.length v g k)]) os (H2 (n:=bd+10) (m:=bd+11) (by simp (disch:=(first | assumption | omega)) only [amL,sF,↓reduceIte]) (by simp only [amT]; rfl) (by simp (disch:=(first | assumption | omega)) only [Ac,amL]) (by simp (disch:=(first | assumption | omega)) only [amL,sF,↓reduceIte]) (by simp only [amT]; rfl) (by simp (disch:=(first | assumption | omega)) only [amL])) (by first | ((repeat' first | exact Sub.refl _ | refine Sub.skip (by first | exact hfr0 _ | (simp (disch:=omega) only [Ac]; exact hfr0 _)) ?_ | refine Sub.both ?_); done) | fail) hcl (A9 _ rfl) ⟨⟨_,by rw [s1],rfl,fun q hq=>by rw [s2 q hq]⟩,rfl⟩)
     | (refine A6 (res:=.tup [C4,bl false]) os (H2 (n:=bd+10) (m:=bd+11) (by simp (disch:=(first | assumption | omega)) only [amL,sF,↓reduceIte]) (by simp only [amT]; rfl) (by simp (disch:=(first | assumption | omega)) only [Ac,amL]) (by simp (disch:=(first | assumption | omega)) only [amL,sF,↓reduceIte]) (by simp only [amT]; rfl) (by simp (disch:=(first | assumption | omega)) only [amL])) (fun z=>?_) hcl (A9 _ rfl) ⟨⟨_,by rw [hr]; rfl,rfl,fun q hq=>by rw [hr] at hq; cases hq⟩,rfl⟩
        cases hz:os z with
        | none=>exact .inl rfl
        | some o=>
          have hz1:=Ap hfree hz
          obtain ⟨g1,g2⟩:=hlt z hz1 (by rw [hz]; rfl) (Z9 none) (bl false)
          right; simp (disch:=omega) only [Ac]; rw [hI3 z g1]; exact (g2.trans hz).symm)
     | trace_state
theorem Bh.of_nil1 {P:Program} {bd:Nat} {fv a c:AV} {os:Nat→Option AO} {R:AV→(Nat→Option AO)→Prop} (h:Bh P bd fv [a,.p (.sl []),c] os R):Bh P bd fv [a,C4,c] os R:=by
  intro hfree S θ M w vf vs h1 h2 h3 h4 h5 h6
  refine h hfree S θ M w vf vs h1 h2 h3 (fun i x hx=>?_) h5 (fun i x hx=>?_)
  · match i,hx with
    | 0,hx=>exact h4 0 x hx
    | 1,hx=>
      cases hx
      have:=Ql (h4 1 C4 rfl)
      rw [this]; exact .p _ _ .nil
    | 2,hx=>exact h4 2 x hx
  · match i,hx with
    | 0,hx=>exact h6 0 x hx
    | 1,hx=>cases hx; exact AV.lives_p _ _
    | 2,hx=>exact h6 2 x hx
def J0 (vs:List Ves):List Liq:=if Km vs=true then (C2 vs).1 else v0
theorem Azw (vs:List Ves):Ad8 vs=.tup [avW (J0 vs),bl (Km vs),bl (Km vs&&(C2 vs).2)]:=by
  unfold Ad8 J0
  cases Km vs with
  | true=>simp
  | false=>simp
theorem M3 {vs:List Ves} {g k:Int} {v:List Liq} {j:Nat} {q:List Stp} (h:∀ i,i < j→Co vs g k i v []=none) (hj:j < 3) (hq:Co vs g k j v []=some q):An3 vs g k v=some q:=by
  unfold An3
  match j,hj with
  | 0,_=>rw [hq]; rfl
  | 1,_=>rw [h 0 (by omega),hq]; rfl
  | 2,_=>rw [h 0 (by omega),h 1 (by omega),hq]; rfl
theorem Md {vs:List Ves} {g k:Int} {v:List Liq} {j:Nat} (h:∀ i,i < j→Co vs g k i v []=none) (hj:3≤j):An3 vs g k v=none:=by
  unfold An3; rw [h 0 (by omega),h 1 (by omega),h 2 (by omega)]; rfl
theorem Am9 (b:Ed) (g k:Int):(Hj b g k).isP=true:=by
  unfold Hj
  split
  · rfl
  · split
    · rfl
    · split
      · rfl
      · split <;> rfl
theorem Apr {vs:List Ves} (hvs:vs.length≤4) (hva:vs.all Eu=true):OkV (C2 vs).1:=by
  have hb:∀ k,(0≤(vs.map (·.g.lo)).getD k 0∧(vs.map (·.g.lo)).getD k 0≤60)∧(0≤(vs.map (·.d.lo)).getD k 0∧(vs.map (·.d.lo)).getD k 0≤120):=fun k=>by
    by_cases hk:k < vs.length
    · have hb:=Da (List.all_eq_true.1 hva _ (Dv default hk))
      have h1:=C9 hb.1
      have h2:=C9 hb.2.1
      rw [Cp (·.g.lo) 0 default hk,Cp (·.d.lo) 0 default hk]
      constructor <;> constructor <;> first | exact h1.1 | exact h2.1 | (show _≤_; omega)
    · have e1:(vs.map (·.g.lo)).getD k 0=0:=by simp [List.getD,List.getElem?_eq_none (show vs.length≤k by omega)]
      have e2:(vs.map (·.d.lo)).getD k 0=0:=by simp [List.getD,List.getElem?_eq_none (show vs.length≤k by omega)]
      rw [e1,e2]; omega
  refine Tw (by omega) (fun k=>(hb k).1) (fun k=>(hb k).2) Amr (by decide) fun k _=>?_
  match k with
  | 0=>rfl
  | 1=>rfl
  | 2=>rfl
  | 3=>rfl
  | k+4=>rfl
theorem Aoc {ks:List Nat} (v:List Liq):nmL ks (cW v)=true:=by
  unfold cW
  generalize wI v=l
  induction l with
  | nil=>rfl
  | cons x l ih=>simp only [List.map_cons,nmL,nm,ih,Bool.and_self]
theorem Ar5 {vs:List Ves} (hvs:vs.length≤4) (hva:vs.all Eu=true):OkV (J0 vs):=by
  unfold J0; split
  · exact Apr hvs hva
  · exact Amr
theorem Ala (b:Ed) (g k:Int) (hl:b.vs.length < 1000000) (hl2:b.ss.length < 1000000):Bv Try.prog 34 [avB b,i64 g,i64 k] (Hj b g k):=by
  refine Bo (v:=[61,84]) (q:=[]) (N:=54) (rs:=[.tmp 6,.tmp 7]) Try.func34 rfl rfl rfl rfl (Am9 b g k) ?_
  have hfx:=Azw b.vs
  have hw4:(J0 b.vs).length=4:=by unfold J0; split; exact R7; rfl
  refine Ad fun K1 hK1=>?_
  simp (disch:=(first | assumption | omega)) only [amL,sA,sB,sF,↓reduceIte,reduceCtorEq]
  refine hK1 _ ?_
  refine Ab fun K2 hK2=>?_
  refine Ad fun K3 hK3=>?_
  simp (disch:=(first | assumption | omega)) only [amL,amT,sA,sB,sF,sG,↓reduceIte]
  repeat' first | (refine Ax (by kernel_rfl) rfl (Agg b hl hl2) (by first | exact .inl rfl | exact .inr (.inl rfl)) ?_ ; simp (disch:=(first | assumption | omega)) only [amL,sA,↓reduceIte])
  refine hK3 _ ?_
  refine Ad fun K4 hK4=>?_
  simp (disch:=(first | assumption | omega)) only [amL,amT,sA,↓reduceIte]
  refine hK4 _ ?_
  refine Al rfl (fun h=>MT.x ?_) (fun h=>ME.x ?_)
  all_goals
   first
   |refine MT.mk ?_
    first
    |exact Bool.noConfusion h
    |skip
     try simp only [nrm] at h
     refine Ad fun K5 hK5=>?_
     simp (disch:=(first | assumption | omega)) only [amL,sA,sF,↓reduceIte]
     refine hK5 _ ?_
     refine Aj ?_
     try simp (disch:=(first | assumption | omega)) only [amL,sF,↓reduceIte]
     all_goals first
       | (unfold Hj; rw [if_pos (by assumption)]; done)
       | (unfold Hj; rw [if_neg (by omega),if_pos (by first | (simp_all; done) | fail)]; done)
       | (unfold Hj; rw [if_neg (by omega),if_neg (by first | (simp_all; done) | fail),if_pos (by first | (simp_all; done) | fail)]; done)
       | (have h1:(Km b.vs&&Mi g k)=true:=by first | (simp_all; done) | fail
          have h2:(C2 b.vs).2=true:=by first | (simp_all; done) | fail
          have h3:Km b.vs=true:=by first | (simp_all; done) | fail
          have h4:J0 b.vs=(C2 b.vs).1:=by unfold J0; rw [if_pos h3]
          unfold Hj; rw [if_neg (by omega),if_neg (by rw [h1]; decide),if_neg (by rw [h2]; decide),← h4]
          first | (rw [M3 hno (by omega) hq]; done) | (rw [Md hno (by omega)]; done))
       | trace_state
   |refine ME.mk ?_
    first
    |exact Bool.noConfusion h
    |skip
     try simp only [nrm] at h
     refine Am ?_
     refine hK2 _ ?_
  all_goals
   skip
   refine Ad fun K6 hK6=>?_
   have hf0:B5 b=0:=by omega
   have hval:=Aa9 hf0
   simp (disch:=(first | assumption | omega)) only [amL,amT,sA,sB,sF,sG,↓reduceIte]
   refine A2 [(3,.ptr 3 0),(4,.ptr 4 0),(5,.ptr 5 0),(6,C4),(7,i64 0)] (by decide) (Dp (b:=b) (bd:=54)) (Lg rfl) (by decide) (fun res os2 hR hcl2 hlv2=>?_)
   obtain ⟨rfl,rfl⟩:=hR
   simp (disch:=(first | assumption | omega)) only [amL,amT,sA,sB,sF,↓reduceIte]
   refine hK6 _ ?_
   refine Ad fun K7 hK7=>?_
   simp (disch:=(first | assumption | omega)) only [amL,amT,sA,sG,↓reduceIte]
   refine Cc (bd:=100) (by decide) (Ara (ss:=b.ss) (m:=58) ⟨by simp (disch:=(first | assumption | omega)) only [amL,sF,↓reduceIte],by simp (disch:=(first | assumption | omega)) only [amL,sF,↓reduceIte]⟩ hval.nv hval.v) (fun q hq=>by first | exact Lg rfl q (by omega) | (simp (disch:=omega) only [Ac]; exact Lg rfl q (by omega))) (by decide) (by rw [hfx]; exact V1 _ _ _) ?_
   simp (disch:=(first | assumption | omega)) only [hfx,Aio,A0,amL,amT,sA,sB,sF,↓reduceIte]
   refine hK7 _ ?_
   refine Ab fun K8 hK8=>?_
   refine Ad fun K9 hK9=>?_
   simp (disch:=(first | assumption | omega)) only [amL,sA,sF,↓reduceIte]
   repeat' first | (refine Eo (fun h=>?_) (fun h=>?_) <;> simp (disch:=(first | assumption | omega)) only [h,hfx,Aio,Br,A0,amL,amT,sA,sB,sC,sD,sE,sF,sG,sH,sI,sJ,sK,sL,sM,sN,sO,↓reduceIte,reduceCtorEq]) | (refine Cy (fun h=>?_) (fun h=>?_) <;> simp (disch:=(first | assumption | omega)) only [h,amL,amT,sA,sF,sG,↓reduceIte]) | (refine Ax (by kernel_rfl) rfl (c_wort g k) (by first | exact .inl rfl | exact .inr (.inl rfl)) ?_ ; simp (disch:=(first | assumption | omega)) only [amL,sA,sF,↓reduceIte])
   all_goals
    skip
    refine hK9 _ ?_
    refine Al rfl (fun h=>MT.x ?_) (fun h=>ME.x ?_)
    all_goals
     first
     |refine MT.mk ?_
      first
      |exact Bool.noConfusion h
      |skip
       try simp only [nrm] at h
       refine Ad fun K10 hK10=>?_
       simp (disch:=(first | assumption | omega)) only [amL,sA]
       refine hK10 _ ?_
       refine Aj ?_
       try simp (disch:=(first | assumption | omega)) only [amL,sF,↓reduceIte]
       all_goals first
         | (unfold Hj; rw [if_pos (by assumption)]; done)
         | (unfold Hj; rw [if_neg (by omega),if_pos (by first | (simp_all; done) | fail)]; done)
         | (unfold Hj; rw [if_neg (by omega),if_neg (by first | (simp_all; done) | fail),if_pos (by first | (simp_all; done) | fail)]; done)
         | (have h1:(Km b.vs&&Mi g k)=true:=by first | (simp_all; done) | fail
            have h2:(C2 b.vs).2=true:=by first | (simp_all; done) | fail
            have h3:Km b.vs=true:=by first | (simp_all; done) | fail
            have h4:J0 b.vs=(C2 b.vs).1:=by unfold J0; rw [if_pos h3]
            unfold Hj; rw [if_neg (by omega),if_neg (by rw [h1]; decide),if_neg (by rw [h2]; decide),← h4]
            first | (rw [M3 hno (by omega) hq]; done) | (rw [Md hno (by omega)]; done))
         | trace_state
     |refine ME.mk ?_
      first
      |exact Bool.noConfusion h
      |skip
       try simp only [nrm] at h
       refine Am ?_
       refine hK8 _ ?_
    all_goals
     skip
     refine Ab fun K11 hK11=>?_
     refine Ad fun K12 hK12=>?_
     simp (disch:=(first | assumption | omega)) only [amL,sA,sF,↓reduceIte]
     refine hK12 _ ?_
     refine Al rfl (fun h=>MT.x ?_) (fun h=>ME.x ?_)
     all_goals
      first
      |refine MT.mk ?_
       first
       |exact Bool.noConfusion h
       |skip
        try simp only [nrm] at h
        refine Ad fun K13 hK13=>?_
        simp (disch:=(first | assumption | omega)) only [amL,sA]
        refine hK13 _ ?_
        refine Aj ?_
        try simp (disch:=(first | assumption | omega)) only [amL,sF,↓reduceIte]
        all_goals first
          | (unfold Hj; rw [if_pos (by assumption)]; done)
          | (unfold Hj; rw [if_neg (by omega),if_pos (by first | (simp_all; done) | fail)]; done)
          | (unfold Hj; rw [if_neg (by omega),if_neg (by first | (simp_all; done) | fail),if_pos (by first | (simp_all; done) | fail)]; done)
          | (have h1:(Km b.vs&&Mi g k)=true:=by first | (simp_all; done) | fail
             have h2:(C2 b.vs).2=true:=by first | (simp_all; done) | fail
             have h3:Km b.vs=true:=by first | (simp_all; done) | fail
             have h4:J0 b.vs=(C2 b.vs).1:=by unfold J0; rw [if_pos h3]
             unfold Hj; rw [if_neg (by omega),if_neg (by rw [h1]; decide),if_neg (by rw [h2]; decide),← h4]
             first | (rw [M3 hno (by omega) hq]; done) | (rw [Md hno (by omega)]; done))
          | trace_state
      |refine ME.mk ?_
       first
       |exact Bool.noConfusion h
       |skip
        try simp only [nrm] at h
        refine Am ?_
        refine hK11 _ ?_
     all_goals
      skip
      refine Ad fun K14 hK14=>?_
      simp (disch:=(first | assumption | omega)) only [amL,amT,sA,sF,↓reduceIte]
      refine hK14 _ ?_
      refine Ad fun K15 hK15=>?_
      simp (disch:=(first | assumption | omega)) only [amL,amT,sA,sF,↓reduceIte]
      refine hK15 _ ?_
      refine Ab fun K16 hK16=>?_
      refine Ad fun K17 hK17=>?_
      simp (disch:=(first | assumption | omega)) only [amL,sA]
      refine hK17 _ ?_
      refine Ar ?_
      skip
      refine Bg (α:=Nat) (fun j=>⟨T [(4,.ptr 4 0),(5,.ptr 5 0),(9,.ptr 9 0),(10,.ptr 10 0),(13,.ptr 13 0),(41,i64 (j:Int))],O [(4,.cells [i64 g]),(5,.cells [i64 k]),(9,.cells [.ptr 60 0]),(10,.cells (cW (J0 b.vs))),(13,.cells [.fn (.func 86) [] [.ptr 9 0,.ptr 4 0,.ptr 5 0,.ptr 13 0]]),(58,.obj (F9 14 (Sx b.vs))),(60,.cells [.p (slV b.vs),.p (slS b.ss),.mp 58])]⟩) (fun j=>3 - j) (fun j=>j≤3∧∀ i,i < j→Co b.vs g k i (J0 b.vs) []=none) 0 ?_ ?_ (fun j hx18 K18 hK18=>?_)
      · exact ⟨by omega,fun i hi=>absurd hi (Nat.not_lt_zero _)⟩
      · refine Df ?_ ?_ ?_ ?_ <;> (try simp (disch:=(first | assumption | omega)) only [amL,sF,sG,↓reduceIte]); all_goals first | exact Aoc _ | trace_state
      obtain ⟨hj,hno⟩:=hx18
      refine Ad fun K19 hK19=>?_
      simp (disch:=(first | assumption | omega)) only [amL,amT,sA,sF,↓reduceIte]
      refine hK19 _ ?_
      refine Ab fun K20 hK20=>?_
      refine Al rfl (fun h=>MT.x ?_) (fun h=>ME.x ?_)
      all_goals
       first
       |refine MT.mk ?_
        first
        |exact Bool.noConfusion h
        |skip
         try simp only [nrm] at h
         refine Am ?_
         refine hK20 _ ?_
       |refine ME.mk ?_
        first
        |exact Bool.noConfusion h
        |skip
         try simp only [nrm] at h
         refine Bq ?_
         refine hK16 _ ?_
         refine Ad fun K21 hK21=>?_
         simp (disch:=(first | assumption | omega)) only [amL,sA]
         refine hK21 _ ?_
         refine Aj ?_
         try simp (disch:=(first | assumption | omega)) only [amL,sF,↓reduceIte]
         all_goals first
           | (unfold Hj; rw [if_pos (by assumption)]; done)
           | (unfold Hj; rw [if_neg (by omega),if_pos (by first | (simp_all; done) | fail)]; done)
           | (unfold Hj; rw [if_neg (by omega),if_neg (by first | (simp_all; done) | fail),if_pos (by first | (simp_all; done) | fail)]; done)
           | (have h1:(Km b.vs&&Mi g k)=true:=by first | (simp_all; done) | fail
              have h2:(C2 b.vs).2=true:=by first | (simp_all; done) | fail
              have h3:Km b.vs=true:=by first | (simp_all; done) | fail
              have h4:J0 b.vs=(C2 b.vs).1:=by unfold J0; rw [if_pos h3]
              unfold Hj; rw [if_neg (by omega),if_neg (by rw [h1]; decide),if_neg (by rw [h2]; decide),← h4]
              first | (rw [M3 hno (by omega) hq]; done) | (rw [Md hno (by omega)]; done))
           | trace_state
      all_goals
       skip
       refine Ab fun K22 hK22=>?_
       refine Ar ?_
       refine Ad fun K23 hK23=>?_
       simp (disch:=(first | assumption | omega)) only [amL,sA,sF,↓reduceIte]
       refine hK23 _ ?_
       refine Ad fun K24 hK24=>?_
       simp (disch:=(first | assumption | omega)) only [Br,A0,amL,amT,sA,sF,↓reduceIte]
       have hcs:=Bh.of_nil1 (Alh (nB:=60) (mB:=58) (ss:=b.ss) (g:=g) (k:=k) (nw:=9) (ng:=4) (nk:=5) (ns:=13) hval.nv hval.v j (by omega) (J0 b.vs) [] (O [(4,.cells [i64 g]),(5,.cells [i64 k]),(9,.cells [.ptr 60 0]),(10,.cells (cW (J0 b.vs))),(13,.cells [.fn (.func 86) [] [.ptr 9 0,.ptr 4 0,.ptr 5 0,.ptr 13 0]]),(58,.obj (F9 14 (Sx b.vs))),(60,.cells [.p (slV b.vs),.p (slS b.ss),.mp 58])]) 100 (Ar5 hval.nv hval.v) (by rw [List.length_nil]; omega) ⟨rfl,rfl,rfl,rfl,rfl⟩)
       refine A2 [(4,.ptr 4 0),(5,.ptr 5 0),(9,.ptr 9 0),(10,.ptr 10 0),(13,.ptr 13 0),(41,i64 (j:Int))] (by decide) hcs (Lg rfl) (by decide) (fun res os2 hR hcl2 hlv2=>?_)
       obtain ⟨⟨y,rfl,hyp,hyq⟩,rfl⟩:=hR
       simp (disch:=(first | assumption | omega)) only [amL,sA,sF,↓reduceIte]
       refine hK24 _ ?_
       refine Ad fun K25 hK25=>?_
       simp (disch:=(first | assumption | omega)) only [amL,sA,↓reduceIte]
       refine hK25 _ ?_
       refine Al rfl (fun h=>MT.x ?_) (fun h=>ME.x ?_)
       all_goals
        first
        |refine MT.mk ?_
         first
         |exact Bool.noConfusion h
         |skip
          try simp only [nrm] at h
          refine Ad fun K26 hK26=>?_
          obtain ⟨q,hq⟩:=Option.isSome_iff_exists.1 h
          have hy:=hyq q hq
          subst hy
          simp (disch:=(first | assumption | omega)) only [amL,sA,sF,↓reduceIte]
          refine hK26 _ ?_
          refine Aj ?_
          try simp (disch:=(first | assumption | omega)) only [amL,sF,↓reduceIte]
          all_goals first
            | (unfold Hj; rw [if_pos (by assumption)]; done)
            | (unfold Hj; rw [if_neg (by omega),if_pos (by first | (simp_all; done) | fail)]; done)
            | (unfold Hj; rw [if_neg (by omega),if_neg (by first | (simp_all; done) | fail),if_pos (by first | (simp_all; done) | fail)]; done)
            | (have h1:(Km b.vs&&Mi g k)=true:=by first | (simp_all; done) | fail
               have h2:(C2 b.vs).2=true:=by first | (simp_all; done) | fail
               have h3:Km b.vs=true:=by first | (simp_all; done) | fail
               have h4:J0 b.vs=(C2 b.vs).1:=by unfold J0; rw [if_pos h3]
               unfold Hj; rw [if_neg (by omega),if_neg (by rw [h1]; decide),if_neg (by rw [h2]; decide),← h4]
               first | (rw [M3 hno (by omega) hq]; done) | (rw [Md hno (by omega)]; done))
            | trace_state
        |refine ME.mk ?_
         first
         |exact Bool.noConfusion h
         |skip
          try simp only [nrm] at h
          refine Am ?_
          refine hK22 _ ?_
       all_goals
        skip
        refine Ah ?_
        simp (disch:=(first | assumption | omega)) only [amL,amT,sA,sF,↓reduceIte]
        refine hK18 (j+1) _ ?_ ?_ (Df ?_ ?_ ?_ ?_)
        all_goals (try simp (disch:=(first | assumption | omega)) only [amL,sE,sF,sG,↓reduceIte])
        all_goals first | omega | exact Aoc _ | exact ⟨by omega,fun i hi=>by
          by_cases e:i=j
          · subst e
            cases hr:Co b.vs g k i (J0 b.vs) [] with
            | none=>rfl
            | some q=>rw [hr] at h; cases h
          · exact hno i (by omega)⟩ | trace_state
theorem Bbs:Bv Try.prog 16 [avB (two 11),avT ⟨[10,5],[60,30],[4,1,2]⟩] (.tup [.p (.sl [[iv 8,iv 360,iv 45],[iv 8,iv 390,iv 49]]),i64 0]):=by
 have h:=Aqs (two 11) ⟨[10,5],[60,30],[4,1,2]⟩ (by decide) (by decide) (by decide)
 have e:Dl (two 11) ⟨[10,5],[60,30],[4,1,2]⟩=.tup [.p (.sl [[iv 8,iv 360,iv 45],[iv 8,iv 390,iv 49]]),i64 0]:=by kernel_rfl
 rw [e] at h; exact h
theorem Bab:Bv Try.prog 28 [.p (.sl [[iv 0],[iv 4],[iv 9],[iv 14]]),avR ⟨10,11⟩,avR ⟨15,16⟩,.p (.sl [[iv 10,iv 16],[iv 18,iv 20]])] (.tup [.p (.sl [[iv 1]]),i64 0]):=by
 have h:=Bbq [0,4,9,14] ⟨10,11⟩ ⟨15,16⟩ [⟨10,16⟩,⟨18,20⟩] (by decide) (by decide)
 have e:J6 [0,4,9,14] ⟨10,11⟩ ⟨15,16⟩ [⟨10,16⟩,⟨18,20⟩]=.tup [.p (.sl [[iv 1]]),i64 0]:=by kernel_rfl
 rw [e] at h; exact h
theorem Apd:Bv Try.prog 34 [avB (two 10),i64 8,i64 45] (.tup [.p (.sl [[iv 0,iv 0,iv 1,iv 4,iv 4],[iv 1,iv 0,iv 0,iv 2,iv 2]]),i64 0]):=by
 have h:=Ala (two 10) 8 45 (by decide) (by decide)
 have e:Hj (two 10) 8 45=.tup [.p (.sl [[iv 0,iv 0,iv 1,iv 4,iv 4],[iv 1,iv 0,iv 0,iv 2,iv 2]]),i64 0]:=by kernel_rfl
 rw [e] at h; exact h
theorem Nq (a b:Int):Bv Try.prog 40 [i64 a,i64 b] (avR ⟨a,b⟩):=by
 refine Bo (v:=[]) (q:=[]) (N:=8) (rs:=[.cell 4 53]) Try.func40 rfl rfl rfl rfl rfl ?_
 refine Ad fun K1 hK1=>?_
 simp (disch:=omega) only [amL,amT,sA,sB,↓reduceIte]
 refine hK1 _ ?_
 refine Ad fun K2 hK2=>?_
 simp (disch:=omega) only [amL,amT,sA,sB,sE,sF,↓reduceIte,reduceCtorEq]
 refine hK2 _ ?_
 refine Aj ?_
 try simp (disch:=omega) only [amL,amT,sB,sF,↓reduceIte]
 all_goals rfl
theorem Abf (n:Int):Bv Try.prog 35 [i64 n] (avB (two n)):=by
 refine Bo (v:=[]) (q:=[]) (N:=19) (rs:=[.cell 2 49]) Try.func35 rfl rfl rfl rfl rfl ?_
 refine Ad fun K1 hK1=>?_
 simp (disch:=omega) only [amL,amT,sA,sB,↓reduceIte]
 refine hK1 _ ?_
 refine Ab fun K2 hK2=>?_
 refine M7 7 ?_
 simp (disch:=omega) only [N6,Lu,amL,sA,↓reduceIte,reduceCtorEq]
 repeat' first | (refine Ax (by kernel_rfl) rfl (Nq _ _) (by first | exact .inl rfl | exact .inr (.inl rfl)) ?_ ; simp (disch:=omega) only [So,N6,Lu,Hx,Fh,amL,amT,sA,sB,sC,sE,sF,↓reduceIte,reduceCtorEq])
 refine hK2 _ ?_
 refine Aj ?_
 try simp (disch:=omega) only [amL,amT,sB,sF,↓reduceIte]
 all_goals rfl
theorem Ast:Bv Try.prog 32 [.p (.sl [[iv 0]]),.p (.sl [[iv 0]])] (bl true):=Hn Ru 10000 (by kernel_rfl)
theorem Ap5:Bv Try.prog 32 [.p (.sl [[iv 1]]),.p (.sl [[iv 1]])] (bl true):=Hn Ru 10000 (by kernel_rfl)
theorem Bbb:M9 Try.prog 65 3:=R2 (by kernel_rfl)
theorem Azr:M9 Try.prog 139 6:=R2 (by kernel_rfl)
theorem eqA (a b c:Int) (h:([a,b,c]:List Int).all inR=true):Gz Try.prog .eql 65 (some [a,b,c]) (some [a,b,c])=some (.pure (bl true)):=by
  rw [Nm (a:=[a,b,c]) (b:=[a,b,c]) Bbb rfl h h,decide_eq_true rfl]
theorem eqB (a b c d e f:Int) (h:([a,b,c,d,e,f]:List Int).all inR=true):Gz Try.prog .eql 139 (some [a,b,c,d,e,f]) (some [a,b,c,d,e,f])=some (.pure (bl true)):=by
  rw [Nm (a:=[a,b,c,d,e,f]) (b:=[a,b,c,d,e,f]) Azr rfl h h,decide_eq_true rfl]
theorem e1:Gz Try.prog .eql 65 (some [8,360,45]) (some [8,360,45])=some (.pure (bl true)):=eqA 8 360 45 (by decide)
theorem e2:Gz Try.prog .eql 65 (some [8,390,49]) (some [8,390,49])=some (.pure (bl true)):=eqA 8 390 49 (by decide)
theorem e3:Gz Try.prog .eql 139 (some [8,9,360,420,45,47]) (some [8,9,360,420,45,47])=some (.pure (bl true)):=eqB 8 9 360 420 45 47 (by decide)
theorem e4:Gz Try.prog .eql 139 (some [7,8,390,390,49,56]) (some [7,8,390,390,49,56])=some (.pure (bl true)):=eqB 7 8 390 390 49 56 (by decide)
theorem Bgn:Bv Try.prog 24 [] (bl true):=by
  refine Bo (v:=[]) (q:=[]) (N:=149) (rs:=[.tmp 0]) Try.func24 rfl rfl rfl rfl rfl ?_
  refine Ad fun K1 hK1=>?_
  simp (disch:=omega) only [amL,sA]
  refine hK1 _ ?_
  refine Ab fun K2 hK2=>?_
  refine Yr [false,true,true,true] ?_
  simp (disch:=omega) only [Adl,amL]
  repeat' first | (refine Ax (by kernel_rfl) rfl (Abf _) (by first | exact .inl rfl | exact .inr (.inl rfl)) ?_ ; simp (disch:=omega) only [Ag9,Adb,T3,Hx,Fh,amL,amT,sA,sB,sE,sF,↓reduceIte,reduceCtorEq]) | (refine Ax (by kernel_rfl) rfl (Bbs) (by first | exact .inl rfl | exact .inr (.inl rfl)) ?_ ; simp (disch:=omega) only [amL,sA,sF,↓reduceIte])
  refine hK2 _ ?_
  refine Ad fun K3 hK3=>?_
  simp (disch:=omega) only [amL]
  repeat' first | (refine Ax (by kernel_rfl) rfl (Abf _) (by first | exact .inl rfl | exact .inr (.inl rfl)) ?_ ; simp (disch:=omega) only [amL,↓reduceIte]) | (refine Ax (by kernel_rfl) rfl (Apm) (by first | exact .inl rfl | exact .inr (.inl rfl)) ?_ ; simp (disch:=omega) only [amL,sA,sF,↓reduceIte])
  refine hK3 _ ?_
  refine Ab fun K4 hK4=>?_
  refine M7 7 ?_
  simp (disch:=omega) only [N6,amL]
  repeat' first | (refine Ax (by kernel_rfl) rfl (Abf _) (by first | exact .inl rfl | exact .inr (.inl rfl)) ?_ ; simp (disch:=omega) only [N6,Lu,amL]) | (refine Ax (by kernel_rfl) rfl (Nq _ _) (by first | exact .inl rfl | exact .inr (.inl rfl)) ?_ ; simp (disch:=omega) only [So,N6,Lu,Hx,Fh,amL,amT,sA,sB,sC,sE,sF,↓reduceIte,reduceCtorEq]) | (refine Ax (by kernel_rfl) rfl (Aqd) (by first | exact .inl rfl | exact .inr (.inl rfl)) ?_ ; simp (disch:=omega) only [amL,sA,sF,↓reduceIte])
  refine hK4 _ ?_
  refine Ab fun K5 hK5=>?_
  refine M7 0 ?_
  simp (disch:=omega) only [So,Hx,Fh,amL,amT,sA,sB,sE,↓reduceIte,reduceCtorEq]
  repeat' first | (refine Ax (by kernel_rfl) rfl (Afx) (by first | exact .inl rfl | exact .inr (.inl rfl)) ?_ ; simp (disch:=omega) only [amL,sA,sF,↓reduceIte])
  refine hK5 _ ?_
  refine Ab fun K6 hK6=>?_
  refine Yr [true,false,false,false,false,true] ?_
  simp (disch:=omega) only [Adb,Adl,T3,Hx,Fh,amL,amT,sA,sB,sE,↓reduceIte,reduceCtorEq]
  repeat' first | (refine Ax (by kernel_rfl) rfl (Nq _ _) (by first | exact .inl rfl | exact .inr (.inl rfl)) ?_ ; simp (disch:=omega) only [Ag9,Adb,Adl,T3,Hx,Fh,amL,amT,sA,sB,sC,sE,sF,↓reduceIte,reduceCtorEq]) | (refine Ax (by kernel_rfl) rfl (Bab) (by first | exact .inl rfl | exact .inr (.inl rfl)) ?_ ; simp (disch:=omega) only [amL,sA,sF,↓reduceIte])
  refine hK6 _ ?_
  refine Ad fun K7 hK7=>?_
  simp (disch:=omega) only [amL]
  repeat' first | (refine Ax (by kernel_rfl) rfl (Abf _) (by first | exact .inl rfl | exact .inr (.inl rfl)) ?_ ; simp (disch:=omega) only [amL,↓reduceIte]) | (refine Ax (by kernel_rfl) rfl (Apd) (by first | exact .inl rfl | exact .inr (.inl rfl)) ?_ ; simp (disch:=omega) only [amL,sA,sF,↓reduceIte])
  refine hK7 _ ?_
  refine Ab fun K8 hK8=>?_
  refine Ch (by kernel_rfl) (by kernel_rfl) ?_
  simp only [List.append]
  simp (disch:=omega) only [e1,e2,amL,amT,sA,sB,sE,sF,sH,sK,sL,sN,↓reduceIte]
  repeat' first | (refine Eo (fun h=>?_) (fun h=>?_) <;> simp (disch:=omega) only [h,So,N6,Lu,Ag9,Adb,Adl,T3,Hx,Fh,e1,e2,e3,e4,amL,amT,sA,sB,sC,sD,sE,sF,sG,sH,sI,sJ,sK,sL,sM,sN,sO,↓reduceIte,reduceCtorEq]) | (refine Cy (fun h=>?_) (fun h=>?_) <;> simp (disch:=omega) only [h,So,N6,Lu,Ag9,Adb,Adl,T3,Hx,Fh,e1,e2,e3,e4,amL,amT,sA,sB,sC,sD,sE,sF,sG,sH,sI,sJ,sK,sL,sM,sN,sO,↓reduceIte,reduceCtorEq]) | (refine Ax (by kernel_rfl) rfl (Nq _ _) (by first | exact .inl rfl | exact .inr (.inl rfl)) ?_ ; simp (disch:=omega) only [e3,e4,amL,amT,sA,sB,sE,sF,sH,sK,sL,sN,↓reduceIte,reduceCtorEq]) | (refine Ax (by kernel_rfl) rfl (by first | exact Ast | exact Ap5) (by first | exact .inl rfl | exact .inr (.inl rfl)) ?_ ; simp (disch:=omega) only [amL,amT,sA,sB,sE,sF,sH,↓reduceIte,reduceCtorEq]) | (refine Ax (by kernel_rfl) rfl (Abf _) (by first | exact .inl rfl | exact .inr (.inl rfl)) ?_ ; simp (disch:=omega) only [amL,sA,sF,↓reduceIte]) | (refine Ax (by kernel_rfl) rfl (Ap3) (by first | exact .inl rfl | exact .inr (.inl rfl)) ?_ ; simp (disch:=omega) only [amL,sA,sF,↓reduceIte])
  all_goals
   skip
   refine hK8 _ ?_
   refine Aj ?_
   try simp (disch:=omega) only [amL,↓reduceIte]
   all_goals rfl
end AM.Try
end
/- The statements: brewhouses, truths, readings that are read. -/
section
namespace AM.Try
open Go AM AM.Wort Go.ChangeShapes Go.WideShapes Go.ChangeAt Go.RowKit Go.Proofs
open Nat renaming reduceLT→sA,reduceAdd→sB,reduceMul→sC,reduceSub→sD,reduceLeDiff→sE,reduceEqDiff→sF,reduceBEq→sG
open Int renaming reduceAdd→sH,reduceSub→sI,reduceMul→sJ,reduceLT→sK,reduceLE→sL,reduceNeg→sM,reduceToNat→sN,reduceEq→sO
set_option maxRecDepth 100000
theorem Ar7:laidOutB Try.prog=true:=by kernel_rfl
theorem Arn:mapsRowed Try.prog=true:=by kernel_rfl
theorem brP:BrP Try.prog:=⟨kids_rows Ar7 Arn,slices_full_of Try.prog (by kernel_rfl),Try.underlying4⟩
theorem tp_own:ownKnob Try.prog.godebug=none:=by kernel_rfl
theorem flN:Mu Try.prog 3 1:=Anq Try.underlying3
theorem flR:Mu Try.prog 91 2:=Jv Try.underlying91 (by kernel_rfl) (fun f hf=>by simp at hf; rcases hf with rfl | rfl <;> exact ⟨_,flN⟩) (by kernel_rfl)
theorem flV:Mu Try.prog 129 5:=Jv Try.underlying129 (by kernel_rfl) (fun f hf=>by simp at hf; rcases hf with rfl | rfl | rfl <;> first | exact ⟨_,flN⟩ | exact ⟨_,flR⟩) (by kernel_rfl)
theorem flS:Mu Try.prog 132 5:=Jv Try.underlying132 (by kernel_rfl) (fun f hf=>by simp at hf; rcases hf with rfl | rfl | rfl | rfl <;> first | exact ⟨_,flN⟩ | exact ⟨_,flR⟩) (by kernel_rfl)
theorem flD:Mu Try.prog 125 5:=Jv Try.underlying125 (by kernel_rfl) (fun f hf=>by simp at hf; rcases hf with rfl | rfl | rfl <;> first | exact ⟨_,flN⟩ | exact ⟨_,flR⟩) (by kernel_rfl)
section
variable {H:Type} {enc:TypeId × Value→H} {W:World} {base:Nat} {v:Value} {d:DataW H} {p:List MemPlace}
theorem open_brew (hv:Value.okWide Try.prog W .any base 123 v) (h:DataW.Trod enc Try.prog W 0 (fun _=>true) true 123 v d p):∃ b:Ed,Anl b∧∀ θ,Ak θ (fun _=>False) W (avB b) v:=by
 obtain ⟨R,h1,h2,h3⟩:=open_lists (ks:=[(129,5),(132,5)]) Try.underlying123 (by kernel_rfl) rfl (by kernel_rfl) (fun i f e k hf hk=>by
  match i,hf,hk with
  | 0,hf,hk=>cases hf; cases hk; exact ⟨rfl,by kernel_rfl,Try.underlying120,by kernel_rfl,flV⟩
  | 1,hf,hk=>cases hf; cases hk; exact ⟨rfl,by kernel_rfl,Try.underlying121,by kernel_rfl,flS⟩) hv h
 match R,h1 with
 | [vs,ss],_=>
  have g1:=h2 0 vs _ _ rfl rfl
  have g2:=h2 1 ss _ _ rfl rfl
  refine ⟨⟨vs.map mkV,ss.map mkS⟩,Arw g1 g2,fun θ=>?_⟩
  have e:=h3 θ
  simp only [List.map_cons,List.map_nil,← Uc g1 mkV Ae7 Arb,← Uc g2 mkS P7 Aqn] at e
  exact e
theorem open_isl (hv:Value.okWide Try.prog W .any base 22 v) (h:DataW.Trod enc Try.prog W 0 (fun _=>true) true 22 v d p):∃ l:List Int,(∀ m ∈ l,inR m=true)∧∀ θ,Ak θ (fun _=>False) W (.p (.sl (l.map H8))) v:=by
 obtain ⟨R,h1,h2⟩:=open_rows Try.underlying22 (by kernel_rfl) flN hv h
 exact ⟨R.map mkN,Zr h1 mkN _ Bbr,fun θ=>by rw [Uc h1 mkN H8 Aqm]; exact h2 θ⟩
end
section
variable {H:Type} {enc:TypeId × Value→H} {W:World} {base:Nat} {v:Value} {d:DataW H} {p:List MemPlace}
theorem open_rng (hv:Value.okWide Try.prog W .any base 91 v) (h:DataW.Trod enc Try.prog W 0 (fun _=>true) true 91 v d p):∃ r:Rng,Zc r∧∀ θ,Ak θ (fun _=>False) W (avR r) v:=by
 obtain ⟨ms,h1,h2,h3⟩:=open_flat Try.underlying91 flR hv h
 match ms,h1 with
 | [a,b],_=>exact ⟨⟨a,b⟩,⟨h2 _ (by simp),h2 _ (by simp)⟩,h3⟩
theorem open_rdg (hv:Value.okWide Try.prog W .any base 125 v) (h:DataW.Trod enc Try.prog W 0 (fun _=>true) true 125 v d p):∃ r:Rdg,Bes r∧∀ θ,Ak θ (fun _=>False) W (avD r) v:=by
 obtain ⟨ms,h1,h2,h3⟩:=open_flat Try.underlying125 flD hv h
 match ms,h1 with
 | [a,b,c,d,e],_=>exact ⟨⟨a,⟨b,c⟩,⟨d,e⟩⟩,⟨h2 _ (by simp),⟨h2 _ (by simp),h2 _ (by simp)⟩,⟨h2 _ (by simp),h2 _ (by simp)⟩⟩,h3⟩
end
end AM.Try
end
