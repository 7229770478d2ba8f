/- Lemmas for the proof: an abstract machine over the program's form in Lean, and the program's functions walked on it. -/
import Derived.Test.YtbgiddcgdgdmbaaGreatQ5
import Derived.KernelRfl
/- Closed runs: the bounds, the readings that are left out, an original gravity, a plan: the document's examples. -/
section
namespace AM.Try
open Go AM AM.Wort Go.Proofs
open Nat renaming reduceLT→sA,reduceAdd→sB,reduceMul→sC,reduceSub→sD,reduceLeDiff→sE,reduceEqDiff→sF,reduceBEq→sG
open Int renaming reduceAdd→sH,reduceSub→sI,reduceMul→sJ,reduceLT→sK,reduceLE→sL,reduceNeg→sM,reduceToNat→sN,reduceEq→sO
set_option maxRecDepth 100000
set_option maxHeartbeats 16000000
def two (most:Int):Ee:=⟨[⟨⟨10,most⟩,⟨60,60⟩,20⟩,⟨⟨5,5⟩,⟨30,30⟩,12⟩],[⟨0,0,1,⟨4,4⟩⟩,⟨2,1,1,⟨1,2⟩⟩,⟨1,0,0,⟨2,2⟩⟩]⟩
theorem Afe:Bt Tryz.prog 55 [.p (.sl [[iv 0],[iv 4],[iv 9],[iv 14]]),i64 10,i64 15] (.tup [i64 17,i64 0]):=Hs Rj 10000 (by kernel_rfl)
theorem Amk:Bt Tryz.prog 24 [avB (two 11)] (.tup [.p (.sl [[iv 8,iv 9,iv 360,iv 420,iv 45,iv 47],[iv 7,iv 8,iv 390,iv 390,iv 49,iv 56]]),i64 0]):=Hs Rj 10000 (by kernel_rfl)
theorem Asb:Bt Tryz.prog 28 [avB (two 11),.p (.sl [[iv 1,iv 7,iv 7,iv 40,iv 50],[iv 0,iv 9,iv 9,iv 0,iv 99]])] (.tup [.p (.sl [[iv 0]]),i64 0]):=Hs Rj 10000 (by kernel_rfl)
theorem Aso:Bt Tryz.prog 35 [avB (two 10),.p (.sl [[iv 0,iv 0,iv 1,iv 4,iv 4],[iv 1,iv 0,iv 0,iv 2,iv 2]]),i64 8,i64 45,i64 2] (bl true):=Hs Rj 10000 (by kernel_rfl)
theorem Axl (a b:Int):Bt Tryz.prog 132 [.p (.sl [[iv a],[iv b]])] (i64 (min a b)):=by
  refine Bn (v:=[]) (q:=[]) (N:=25) (rs:=[.tmp 2]) Tryz.func132 rfl rfl rfl rfl rfl ?_
  refine Aa fun K1 hK1=>?_
  refine Ac ?_
  simp (disch:=omega) only [amL,sA]
  refine hK1 _ ?_
  refine Aa fun K2 hK2=>?_
  refine Aa fun K3 hK3=>?_
  refine Ac ?_
  simp (disch:=omega) only [amL,amT,sA,sB,sH,sK,↓reduceIte,reduceCtorEq]
  refine hK3 _ ?_
  refine Aj rfl (fun h=>?_) (fun h=>?_)
  ·first
   | exact Bool.noConfusion h
   |skip
    try simp only [Bool.not_eq_true',decide_eq_true_eq,decide_eq_false_iff_not,Bool.and_eq_true,Bool.not_eq_false',Bool.not_not,decide_not,Bool.not_true,Bool.not_false] at h
    exfalso; omega
  ·first
   | exact Bool.noConfusion h
   |skip
    try simp only [] at h
    refine Ak ?_
    refine hK2 _ ?_
    refine Aa fun K4 hK4=>?_
    refine Ac ?_
    simp (disch:=omega) only [amL,amT,sA,sB,sH,sK,sL,sN,↓reduceIte,reduceCtorEq]
    refine hK4 _ ?_
    refine Aa fun K5 hK5=>?_
    refine Aa fun K6 hK6=>?_
    refine Ac ?_
    simp (disch:=omega) only [amL,sA]
    refine hK6 _ ?_
    refine Ap ?_
    skip
    refine Be (α:=Nat) (fun k=>⟨T [(0,.p (.sl [[iv a],[iv b]])),(3,i64 (if k=0 then a else min a b)),(4,i64 ((k:Int)+1))],O []⟩) (fun k=>1 - k) (fun k=>k≤1) 0 ?_ ?_ (fun k hx7 K7 hK7=>?_)
    · simp
    · refine De ?_ ?_ ?_ ?_ <;> (try simp (disch:=omega) only [amL,sF,sH,↓reduceIte,reduceCtorEq]); all_goals rfl
    have hk:=hx7
    refine Aa fun K8 hK8=>?_
    refine Aa fun K9 hK9=>?_
    refine Ac ?_
    simp (disch:=omega) only [amL,amT,sA,sB,sF,sH,↓reduceIte,reduceCtorEq]
    refine hK9 _ ?_
    refine Aj rfl (fun h=>?_) (fun h=>?_)
    ·first
     | exact Bool.noConfusion h
     |skip
      try simp only [decide_eq_true_eq] at h
      refine Ak ?_
      refine hK8 _ ?_
      refine Aa fun K10 hK10=>?_
      refine Ap ?_
      refine Ac ?_
      obtain rfl:k=0:=by omega
      simp (disch:=omega) only [amL,amT,sA,sB,sF,sH,sK,sL,sN,↓reduceIte,reduceCtorEq]
      refine hK10 _ ?_
      refine Ac ?_
      simp (disch:=omega) only [amL,amT,sA,sF,sH,↓reduceIte,reduceCtorEq]
      refine hK7 1 _ ?_ ?_ (De ?_ ?_ ?_ ?_)
      all_goals (try simp (disch:=omega) only [amL,sD,sF,sH,↓reduceIte,reduceCtorEq])
      all_goals first | omega | exact congrArg i64 (by split <;> omega) | trace_state
    ·first
     | exact Bool.noConfusion h
     |skip
      try simp only [decide_eq_false_iff_not] at h
      refine Bo ?_
      refine hK5 _ ?_
      refine Aa fun K11 hK11=>?_
      refine Ac ?_
      simp (disch:=omega) only [amL,sA,sF,↓reduceIte,reduceCtorEq]
      refine hK11 _ ?_
      refine Ah ?_
      try simp (disch:=omega) only [amL,↓reduceIte]
      all_goals first | rfl | trace_state
theorem Xk (a b:Int):Bt Tryz.prog 111 [.p (.sl [[iv a],[iv b]])] (i64 (min a b)):=by
  refine Bn (v:=[]) (q:=[]) (N:=5) (rs:=[.tmp 2]) Tryz.func111 rfl rfl rfl rfl rfl ?_
  refine Aa fun K1 hK1=>?_
  refine Ac ?_
  simp (disch:=omega) only [amL,sA]
  refine hK1 _ ?_
  refine Aa fun K2 hK2=>?_
  refine Ac ?_
  simp (disch:=omega) only [amL,sA,↓reduceIte,reduceCtorEq]
  repeat' first | (refine Aw (by kernel_rfl) rfl (Axl a b) (by first | exact .inl rfl | exact .inr (.inl rfl)) ?_ ; simp (disch:=omega) only [amL,sA,↓reduceIte])
  refine hK2 _ ?_
  refine Ah ?_
  try simp (disch:=omega) only [amL,↓reduceIte]
  all_goals rfl
theorem Ahk:Bt Tryz.prog 94 [] (avR ⟨0,120⟩):=by
  refine Bn (v:=[]) (q:=[]) (N:=2) (rs:=[.cell 0 58]) Tryz.func94 rfl rfl rfl rfl rfl ?_
  refine Aa fun K1 hK1=>?_
  refine Ac ?_
  simp (disch:=omega) only [amL,amT,sA,sB,↓reduceIte]
  refine hK1 _ ?_
  refine Aa fun K2 hK2=>?_
  refine Ac ?_
  simp (disch:=omega) only [amL,amT,sA,sB,sE,↓reduceIte,reduceCtorEq]
  refine hK2 _ ?_
  refine Ah ?_
  try simp (disch:=omega) only [amL,amT,sB,↓reduceIte,reduceCtorEq]
  all_goals rfl
theorem Aik (l:List Int) (hl:l.length < 1000000):Bt Tryz.prog 95 [.p (.sl (l.map J8))] (avR ⟨0,10 * ((l.length:Int) - 1)⟩):=by
  refine Bn (v:=[]) (q:=[]) (N:=8) (rs:=[.cell 2 58]) Tryz.func95 rfl rfl rfl rfl rfl ?_
  refine Aa fun K1 hK1=>?_
  refine Ac ?_
  simp (disch:=omega) only [amL,amT,sA,sB,↓reduceIte]
  refine hK1 _ ?_
  refine Aa fun K2 hK2=>?_
  refine Ac ?_
  simp (disch:=omega) only [amL,amT,sA,sB,sE,sF,↓reduceIte,reduceCtorEq]
  refine hK2 _ ?_
  refine Ah ?_
  try simp (disch:=omega) only [amL,amT,sB,sF,↓reduceIte]
  all_goals rfl
theorem Aq2 (r o:Rng):Bt Tryz.prog 97 [avR r,avR o] (bl (J2 r o)):=by
  refine Bn (v:=[]) (q:=[]) (N:=22) (rs:=[.tmp 4]) Tryz.func97 rfl rfl rfl rfl rfl ?_
  refine Aa fun K1 hK1=>?_
  refine Ac ?_
  simp (disch:=omega) only [amL,sA,sB,sF,↓reduceIte,reduceCtorEq]
  refine hK1 _ ?_
  refine Aa fun K2 hK2=>?_
  refine Ac ?_
  simp (disch:=omega) only [amL,amT,sA,sF,↓reduceIte,reduceCtorEq]
  repeat' first | (refine E0 (fun h=>?_) (fun h=>?_) <;> simp (disch:=omega) only [h,amL,amT,sA,sB,sF,↓reduceIte,reduceCtorEq]) | (refine Cz (fun h=>?_) (fun h=>?_) <;> simp (disch:=omega) only [h,amL,amT,sA,sB,sF,↓reduceIte,reduceCtorEq]) | (refine Aw (by kernel_rfl) rfl (Agu _ _) (by first | exact .inl rfl | exact .inr (.inl rfl)) ?_ ; simp (disch:=omega) only [amL,sA,sF,↓reduceIte])
  all_goals
   skip
   refine hK2 _ ?_
   refine Ah ?_
   try simp (disch:=omega) only [amL,↓reduceIte]
   all_goals first | (simp_all [J2]; done) | (simp_all [J2]; intros; omega)
theorem sfN:M3 Tryz.prog 26 3 116 3 4 139 136:=⟨⟨_,Tryz.func139,rfl,rfl,rfl,by kernel_rfl⟩,⟨_,Tryz.func136,rfl,rfl,rfl,by kernel_rfl⟩⟩
theorem afN:Aym Tryz.prog 26 3 116 4 136 137 123:=⟨⟨_,Tryz.func137,rfl,rfl,rfl,by kernel_rfl⟩,⟨_,Tryz.func123,rfl,rfl,rfl,by kernel_rfl⟩⟩
theorem sfR:M3 Tryz.prog 113 58 173 3 4 138 125:=⟨⟨_,Tryz.func138,rfl,rfl,rfl,by kernel_rfl⟩,⟨_,Tryz.func125,rfl,rfl,rfl,by kernel_rfl⟩⟩
theorem afR:Ajx Tryz.prog 113 58 173 4 125 126 98:=⟨⟨_,Tryz.func126,rfl,rfl,rfl,by kernel_rfl⟩,⟨_,Tryz.func98,rfl,rfl,rfl,by kernel_rfl⟩⟩
theorem An2 {last n:Int} {nl:Nat} {os:Nat→Option AO} {bd:Nat} (hn:os nl=some (.cells [i64 last])) :
    Bg Tryz.prog bd (.fn (.func 124) [] [.ptr nl 0]) [i64 n] os fun res os'=>res=bl (J7 last n).2∧os'=upd os nl (some (.cells [i64 n])):=by
  refine B2 (v:=[]) (q:=[]) (N:=11) (rs:=[.tmp 3]) Tryz.func124 rfl (by kernel_rfl) rfl rfl (fun hcl hfree=>?_)
  refine Aa fun K1 hK1=>?_
  refine Ac ?_
  simp (disch:=omega) only [amL,sA,sB]
  refine hK1 _ ?_
  refine Aa fun K2 hK2=>?_
  refine Ac ?_
  simp (disch:=omega) only [hn,amL,amT,sA,sF,↓reduceIte,reduceCtorEq]
  repeat' first | (refine Aw (by kernel_rfl) rfl (J5 _ _ _) (by first | exact .inl rfl | exact .inr (.inl rfl)) ?_ ; simp (disch:=omega) only [amL,sA,↓reduceIte])
  refine hK2 _ ?_
  refine Aa fun K3 hK3=>?_
  refine Ac ?_
  simp (disch:=omega) only [hn,amL,amT,sA,sF,↓reduceIte,reduceCtorEq]
  refine hK3 _ ?_
  refine Aa fun K4 hK4=>?_
  refine Ac ?_
  simp (disch:=omega) only [amL,sA,sF,↓reduceIte]
  refine hK4 _ ?_
  refine Ah ?_
  try simp (disch:=omega) only [amL]
  refine A3 (res:=bl _) (upd os nl (some (.cells [i64 n]))) (by simp (disch:=omega) only [amL,↓reduceIte]; try rfl) (Sub.refl _) (Cq hcl (by rw [Dv,Cl,Ct]; exact ⟨AV.lives_p _ _,trivial⟩)) (AV.lives_p _ _) ⟨rfl,rfl⟩
theorem Al8 {l:List Int} {nl:Nat}:Hc Tryz.prog (.fn (.func 124) [] [.ptr nl 0]) (fun n=>n=nl) i64 l (fun last os=>os nl=some (.cells [i64 last])) J7 where
  live s os h:=by rw [Fr,Ct,Cl,Ct,C5,h]; exact ⟨trivial,rfl,trivial⟩
  stable s os os' h h2:=(h2 nl rfl).trans h
  foot s os n h hn:=by
    subst hn
    refine ⟨_,h,fun m hm=>?_⟩
    simp [AO.clean,AV.clean,AV.clean.cleanL] at hm
  call s x os bd _ h _:=by
    refine Bg.mono (An2 h) ?_
    rintro r os' ⟨rfl,rfl⟩
    exact ⟨rfl,Bb,fun n hn=>Ad hn⟩
theorem Apn {l:List Int} {nl:Nat} {os:Nat→Option AO} {bd:Nat} (hl:l.length < 1000000) (h:os nl=some (.cells [i64 (-1)])) :
    Bg Tryz.prog bd (.fn (.func 123) [] []) [.p (.sl (l.map J8)),.fn (.func 124) [] [.ptr nl 0]] os fun res os'=>res=bl (Aag l)∧(∃ z,os' nl=some (.cells [i64 z]))∧∀ n,n≠nl→os' n=os n:=by
  refine Bg.mono (Ayk elN sfN afN (by simp only [amT]; rfl) hl (Al8 (nl:=nl)) (fun m hm=>?_) (s:=-1) (bd:=bd) h) ?_
  · have:nl=m:=by simpa [AV.clean,AV.clean.cleanL] using hm
    exact this.symm
  · rintro r os' ⟨h1,h2,h3⟩
    exact ⟨h1,⟨_,h2⟩,h3⟩
theorem Arb (l:List Int) (hl:l.length < 1000000):Bt Tryz.prog 93 [.p (.sl (l.map J8))] (i64 (H7 l)):=by
  refine Bn (v:=[123]) (q:=[]) (N:=24) (rs:=[.tmp 2]) Tryz.func93 rfl rfl rfl rfl rfl ?_
  refine Aa fun K1 hK1=>?_
  refine Ac ?_
  simp (disch:=omega) only [amL,sA]
  refine hK1 _ ?_
  refine Aa fun K2 hK2=>?_
  refine Aa fun K3 hK3=>?_
  refine Ac ?_
  simp (disch:=omega) only [amL,amT,sA,↓reduceIte,reduceCtorEq]
  refine hK3 _ ?_
  refine Aj rfl (fun h=>?_) (fun h=>?_)
  ·first
   | exact Bool.noConfusion h
   |skip
    try simp only [decide_eq_true_eq] at h
    refine Aa fun K4 hK4=>?_
    refine Ac ?_
    simp (disch:=omega) only [amL,sA]
    refine hK4 _ ?_
    refine Ah ?_
    try simp (disch:=omega) only [amL,↓reduceIte]
    all_goals first | (simp_all [H7]; done) | (simp_all [H7]; omega) | trace_state
  ·first
   | exact Bool.noConfusion h
   |skip
    try simp only [decide_eq_false_iff_not] at h
    refine Ak ?_
    refine hK2 _ ?_
    refine Aa fun K5 hK5=>?_
    refine Ac ?_
    simp (disch:=omega) only [amL,amT,sA,sM,↓reduceIte]
    refine hK5 _ ?_
    refine Aa fun K6 hK6=>?_
    refine Ac ?_
    simp (disch:=omega) only [amL,sA,sF,sM,↓reduceIte,reduceCtorEq]
    refine A1 [(0,.p (.sl (l.map J8)))] (by decide) (Apn (l:=l) (nl:=3) (bd:=24) hl rfl) (Lx rfl) (by decide) (fun res os2 hR hcl2 hlv2=>?_)
    obtain ⟨rfl,⟨z,hz⟩,hfr2⟩:=hR
    simp (disch:=omega) only [amL,sA,↓reduceIte,reduceCtorEq]
    refine hK6 _ ?_
    refine Aa fun K7 hK7=>?_
    refine Aa fun K8 hK8=>?_
    refine Ac ?_
    simp (disch:=omega) only [amL,amT,sA,↓reduceIte,reduceCtorEq]
    repeat' first | (refine E0 (fun h=>?_) (fun h=>?_) <;> simp (disch:=omega) only [h,amL,sA,sF,↓reduceIte]) | (refine Cz (fun h=>?_) (fun h=>?_) <;> simp (disch:=omega) only [h,Bl,amL,amT,sA,sF,sL,sN,↓reduceIte,reduceCtorEq])
    all_goals
     skip
     refine hK8 _ ?_
     refine Aj rfl (fun h=>?_) (fun h=>?_)
     ·first
      | exact Bool.noConfusion h
      |skip
       try simp only [Bool.not_eq_true',decide_eq_false_iff_not,decide_not] at h
       refine Aa fun K9 hK9=>?_
       refine Ac ?_
       simp (disch:=omega) only [amL,sA]
       refine hK9 _ ?_
       refine Ah ?_
       try simp (disch:=omega) only [amL,↓reduceIte]
       all_goals first | (simp_all [H7]; done) | (simp_all [H7]; omega) | trace_state
     ·first
      | exact Bool.noConfusion h
      |skip
       try simp only [decide_eq_true_eq,Bool.not_eq_false',decide_not] at h
       refine Ak ?_
       refine hK7 _ ?_
       refine Aa fun K10 hK10=>?_
       refine Ac ?_
       simp (disch:=omega) only [amL,sA]
       refine hK10 _ ?_
       refine Ah ?_
       try simp (disch:=omega) only [amL,↓reduceIte]
       all_goals first | (simp_all [H7]; done) | (simp_all [H7]; omega) | trace_state
theorem Axm {l:List Int} (hl:Rk l) {s:Int} (h1:0≤s) (h2:s≤10 * ((l.length:Int) - 1)):Bt Tryz.prog 96 [.p (.sl (l.map J8)),i64 s] (i64 (Qj l s)):=by
  obtain ⟨k1,k2,k3,k4,n1,n2,f1,f2⟩:=Pz hl h1 h2
  have g1:=Kd hl (Cd l s).toNat
  have g2:=Kd hl ((Cd l s).toNat+1)
  have a1:=hl.len
  have a2:=hl.len2
  refine Bn (v:=[]) (q:=[]) (N:=38) (rs:=[.tmp 4]) Tryz.func96 rfl rfl rfl rfl rfl ?_
  refine Aa fun K1 hK1=>?_
  refine Ac ?_
  simp (disch:=omega) only [amL,sA,sB]
  refine hK1 _ ?_
  refine Aa fun K2 hK2=>?_
  refine M4 5 ?_
  simp (disch:=omega) only [S5,N9,L6,H5,Fk,amL,amT,sA,sB,sE,sF,sO,↓reduceIte,reduceCtorEq]
  repeat' first | (refine Aw (by kernel_rfl) rfl (Xk _ _) (by first | exact .inl rfl | exact .inr (.inl rfl)) ?_ ; simp (disch:=omega) only [amL,sA,↓reduceIte])
  refine hK2 _ ?_
  refine Aa fun K3 hK3=>?_
  refine Ac ?_
  simp (disch:=omega) only [amL,amT,sA,sF,↓reduceIte,reduceCtorEq]
  refine hK3 _ ?_
  refine Aa fun K4 hK4=>?_
  refine Ce (by kernel_rfl) (by kernel_rfl) ?_
  simp (disch:=omega) only [Bl,amL,amT,sA,sF,↓reduceIte,reduceCtorEq]
  refine hK4 _ ?_
  refine Aa fun K5 hK5=>?_
  refine Ac ?_
  simp (disch:=omega) only [amL,amT,sA,sO,↓reduceIte]
  refine hK5 _ ?_
  refine Ah ?_
  try simp (disch:=omega) only [amL,↓reduceIte]
  exact congrArg i64 (Anc hl h1 h2)
theorem Ard (r:Rng):Bt Tryz.prog 99 [avR r] (bl (decide (r.lo≤r.hi))):=by
  refine Bn (v:=[]) (q:=[]) (N:=8) (rs:=[.tmp 2]) Tryz.func99 rfl rfl rfl rfl rfl ?_
  refine Aa fun K1 hK1=>?_
  refine Ac ?_
  simp (disch:=omega) only [amL,sA,↓reduceIte]
  refine hK1 _ ?_
  refine Aa fun K2 hK2=>?_
  refine Ac ?_
  simp (disch:=omega) only [amL,amT,sA,sF,↓reduceIte,reduceCtorEq]
  refine hK2 _ ?_
  refine Ah ?_
  try simp (disch:=omega) only [amL,↓reduceIte]
  all_goals rfl
theorem Axk (l:List Rng) (hl:l.length < 1000000):Bt Tryz.prog 98 [.p (.sl (l.map H9)),.fn (.func 99) [] []] (bl (l.all fun r=>decide (r.lo≤r.hi))):=by
  refine Bn (v:=[125]) (q:=[]) (N:=9) (rs:=[.tmp 4]) Tryz.func98 rfl rfl rfl rfl rfl ?_
  have hT:=Aly (P:=Tryz.prog) (l:=l) (arg:=avR) (f:=99) (fs:=[]) (g:=fun r=>decide (r.lo≤r.hi)) (by kernel_rfl) rfl (fun x _=>Ard x)
  have hfvT:(Ab Tryz.prog 173).agg=some false:=by simp only [amT]; rfl
  have ht:=Awj (nb:=3) (fun nb hnb s x os bd hx hI h=>Au3 elR afR hfvT hT hnb (s:=s) hx hI h) hT (fun h=>h) (fun m hm=>by cases hm)
  have cC:=As9 elR sfR (bd:=9) hl ht (s:=()) (os:=O [(3,.cells [.fn (.func 99) [] []])]) ⟨trivial,rfl⟩
  obtain ⟨sa1,sa2⟩:=Uc (step:=fun (_:Unit) (x:Rng)=>((),decide (x.lo≤x.hi))) l () 0
  refine Aa fun K1 hK1=>?_
  refine Ac ?_
  simp (disch:=omega) only [amL,sA,sB,↓reduceIte,reduceCtorEq]
  refine hK1 _ ?_
  refine Aa fun K2 hK2=>?_
  refine Ac ?_
  simp (disch:=omega) only [amL,sA,sF,↓reduceIte,reduceCtorEq]
  refine A1 [] (by decide) cC (Lx rfl) (by decide) (fun res os2 hR hcl2 hlv2=>?_)
  obtain ⟨rfl,_,hfr2⟩:=hR
  simp (disch:=omega) only [amL,sA,↓reduceIte]
  refine hK2 _ ?_
  refine Ah ?_
  try simp (disch:=omega) only [amL,↓reduceIte]
  rw [sa2,Rl]
theorem Avp:(Ab Tryz.prog 175).k=.mp 3 4:=by kernel_rfl
theorem Al5 {l:List Int} {g sp:Rng} {b:List Rng} (_:Rk l) (h:S3 l g sp b=true):0≤g.lo∧g.lo≤g.hi∧g.hi≤120∧0≤sp.lo∧sp.lo≤sp.hi∧sp.hi≤10 * ((l.length:Int) - 1):=by
  simp only [S3,J2,Jn,inB,Bool.and_eq_true,decide_eq_true_eq] at h
  omega
theorem Ak6 {l:List Int} {g sp:Rng} {b:List Rng} (h1:(!J2 ⟨0,120⟩ ⟨g.lo,g.hi⟩)=false) (h2:(!J2 ⟨0,10 * ((l.length:Int) - 1)⟩ ⟨sp.lo,sp.hi⟩)=false) (h3:(b.all fun r=>decide (r.lo≤r.hi))=true):S3 l g sp b=true:=by
  unfold S3; simp only [Bool.not_eq_false'] at h1 h2; rw [h1,h2,h3]; rfl
theorem Pj {l:List Int} {g sp:Rng} {b:List Rng} (h:(!J2 ⟨0,120⟩ ⟨g.lo,g.hi⟩)=true∨(!J2 ⟨0,10 * ((l.length:Int) - 1)⟩ ⟨sp.lo,sp.hi⟩)=true∨(b.all fun r=>decide (r.lo≤r.hi))=false):¬ S3 l g sp b=true:=fun e=>by
  simp only [S3,Bool.and_eq_true] at e
  obtain ⟨e1,e2,e3⟩:=e
  rcases h with h | h | h
  · rw [e1] at h; cases h
  · rw [e2] at h; cases h
  · rw [e3] at h; cases h
theorem Akj (l:List Int) (g sp:Rng) (b:List Rng):(Km l g sp b).isP=true:=by
  unfold Km; split
  · rfl
  · split <;> rfl
theorem Axa (l:List Int) (g sp:Rng) (b:List Rng) (hl:l.length < 1000000) (hb:b.length < 1000000):Bt Tryz.prog 56 [.p (.sl (l.map J8)),avR g,avR sp,.p (.sl (b.map H9))] (Km l g sp b):=by
  refine Bn (v:=[]) (q:=[]) (N:=84) (rs:=[.tmp 8,.tmp 9]) Tryz.func56 rfl rfl rfl rfl (Akj l g sp b) ?_
  refine Aa fun K1 hK1=>?_
  refine Ac ?_
  simp (disch:=omega) only [amL,sA,sB,sF,↓reduceIte,reduceCtorEq]
  refine hK1 _ ?_
  refine Aa fun K2 hK2=>?_
  refine Aa fun K3 hK3=>?_
  refine Ac ?_
  simp (disch:=omega) only [amL,sA,↓reduceIte,reduceCtorEq]
  repeat' first | (refine Aw (by kernel_rfl) rfl (Arb l hl) (by first | exact .inl rfl | exact .inr (.inl rfl)) ?_ ; simp (disch:=omega) only [amL,sA,↓reduceIte])
  refine hK3 _ ?_
  refine Aa fun K4 hK4=>?_
  refine Ac ?_
  simp (disch:=omega) only [amL,amT,sA,↓reduceIte]
  refine hK4 _ ?_
  refine Aj rfl (fun h=>?_) (fun h=>?_)
  ·first
   | exact Bool.noConfusion h
   |skip
    try simp only [Bool.not_eq_true',decide_eq_false_iff_not,decide_not] at h
    refine Aa fun K5 hK5=>?_
    refine Ac ?_
    simp (disch:=omega) only [amL,sA,sF,↓reduceIte]
    refine hK5 _ ?_
    refine Ah ?_
    try simp (disch:=omega) only [amL,sF,↓reduceIte]
    all_goals first | (rw [Km,if_pos (by assumption)]; done) | (rw [Km,if_neg (by omega),if_neg (Pj (by first | exact .inl (by assumption) | exact .inr (.inl (by assumption)) | exact .inr (.inr (by assumption))))]; done) | ((obtain rfl:i=b.length:=by omega) ; rw [Km,if_neg (by omega),if_pos hmb,List.take_of_length_le (by simp)]; done) | trace_state
  ·first
   | exact Bool.noConfusion h
   |skip
    try simp only [decide_eq_true_eq,Bool.not_eq_false',decide_not] at h
    refine Ak ?_
    refine hK2 _ ?_
    refine Aa fun K6 hK6=>?_
    refine Aa fun K7 hK7=>?_
    refine Ce (by kernel_rfl) (by kernel_rfl) ?_
    have hok:=Ax5 (l:=l) (by omega)
    simp (disch:=omega) only [amL]
    repeat' first | (refine E0 (fun h=>?_) (fun h=>?_) <;> simp (disch:=omega) only [h,Bh,amL,amT,sA,sB,sC,sD,sE,sF,sG,sH,sI,sJ,sK,sL,sM,sN,sO,↓reduceIte,reduceCtorEq]) | (refine Cz (fun h=>?_) (fun h=>?_) <;> simp (disch:=omega) only [h,amL,sA,sF,↓reduceIte,reduceCtorEq]) | (refine Aw (by kernel_rfl) rfl (Ahk) (by first | exact .inl rfl | exact .inr (.inl rfl)) ?_ ; simp (disch:=omega) only [amL,amT,sA,sB,sF,↓reduceIte]) | (refine Aw (by kernel_rfl) rfl (Aq2 ⟨_,_⟩ ⟨_,_⟩) (by first | exact .inl rfl | exact .inr (.inl rfl)) ?_ ; simp (disch:=omega) only [amL,sA,sF,↓reduceIte]) | (refine Aw (by kernel_rfl) rfl (Aik l hl) (by first | exact .inl rfl | exact .inr (.inl rfl)) ?_ ; simp (disch:=omega) only [amL,amT,sA,sB,sF,↓reduceIte]) | (refine Aw (by kernel_rfl) rfl (Axk b hb) (by first | exact .inl rfl | exact .inr (.inl rfl)) ?_ ; simp (disch:=omega) only [amL,sA,sF,↓reduceIte])
    all_goals
     skip
     refine hK7 _ ?_
     refine Aj rfl (fun h=>?_) (fun h=>?_)
     ·first
      | exact Bool.noConfusion h
      |skip
       try simp only [Bool.not_eq_true'] at h
       refine Aa fun K8 hK8=>?_
       refine Ac ?_
       simp (disch:=omega) only [amL,sA]
       refine hK8 _ ?_
       refine Ah ?_
       try simp (disch:=omega) only [amL,sF,↓reduceIte]
       all_goals first | (rw [Km,if_pos (by assumption)]; done) | (rw [Km,if_neg (by omega),if_neg (Pj (by first | exact .inl (by assumption) | exact .inr (.inl (by assumption)) | exact .inr (.inr (by assumption))))]; done) | ((obtain rfl:i=b.length:=by omega) ; rw [Km,if_neg (by omega),if_pos hmb,List.take_of_length_le (by simp)]; done) | trace_state
     ·first
      | exact Bool.noConfusion h
      |skip
       try simp only [Bool.not_eq_false'] at h
       refine Ak ?_
       refine hK6 _ ?_
       refine Aa fun K9 hK9=>?_
       have hmb:S3 l g sp b=true:=Ak6 (by assumption) (by assumption) (by assumption)
       obtain ⟨q1,q2,q3,q4,q5,q6⟩:=Al5 hok hmb
       refine C0 ?_
       refine AL.step (Wo (dd:=39) rfl rfl (by decide) rfl ?_)
       refine Dc ?_
       simp (disch:=omega) only [amL,sA,↓reduceIte]
       refine hK9 _ ?_
       refine Aa fun K10 hK10=>?_
       refine Aa fun K11 hK11=>?_
       refine Ac ?_
       simp (disch:=omega) only [amL,amT,sA,sF,↓reduceIte,reduceCtorEq]
       refine hK11 _ ?_
       refine Ap ?_
       skip
       refine Be (α:=Nat) (fun k=>⟨T [(0,.p (.sl (l.map J8))),(3,.p (.sl (b.map H9))),(5,.ptr 5 0),(6,.ptr 6 0),(11,.mp 39),(12,i64 (sp.lo+k))],O [(5,.cells [i64 g.lo,i64 g.hi]),(6,.cells [i64 sp.lo,i64 sp.hi]),(39,.obj (Zk (Ar4 l g sp k)))]⟩) (fun k=>Sc sp - k) (fun k=>k≤Sc sp) 0 ?_ ?_ (fun k hx12 K12 hK12=>?_)
       · exact Nat.zero_le _
       · refine De ?_ ?_ ?_ ?_ <;> (try simp (disch:=omega) only [amL,sF,sG,↓reduceIte,reduceCtorEq]); all_goals first | rfl | trace_state
       have hk:=hx12
       refine Aa fun K13 hK13=>?_
       refine Aa fun K14 hK14=>?_
       refine Ac ?_
       simp (disch:=omega) only [amL,amT,sA,sF,↓reduceIte,reduceCtorEq]
       refine hK14 _ ?_
       refine Aj rfl (fun h=>?_) (fun h=>?_)
       ·first
        | exact Bool.noConfusion h
        |skip
         try simp only [decide_eq_true_eq] at h
         refine Ak ?_
         refine hK13 _ ?_
         refine Aa fun K15 hK15=>?_
         refine Ap ?_
         refine Aa fun K16 hK16=>?_
         refine Ac ?_
         simp (disch:=omega) only [amL,amT,sA,sF,↓reduceIte,reduceCtorEq]
         refine hK16 _ ?_
         refine Ap ?_
         skip
         refine Be (α:=Nat) (fun j=>⟨T [(0,.p (.sl (l.map J8))),(3,.p (.sl (b.map H9))),(5,.ptr 5 0),(6,.ptr 6 0),(11,.mp 39),(12,i64 (sp.lo+k)),(13,i64 (g.lo+j))],O [(5,.cells [i64 g.lo,i64 g.hi]),(6,.cells [i64 sp.lo,i64 sp.hi]),(39,.obj (Zk (Axg l g.lo (sp.lo+k) j++Ar4 l g sp k)))]⟩) (fun j=>Sc g - j) (fun j=>j≤Sc g) 0 ?_ ?_ (fun j hx17 K17 hK17=>?_)
         · exact Nat.zero_le _
         · refine De ?_ ?_ ?_ ?_ <;> (try simp (disch:=omega) only [amL,sF,sG,↓reduceIte,reduceCtorEq]); all_goals first | rfl | trace_state
         have hj:=hx17
         refine Aa fun K18 hK18=>?_
         refine Aa fun K19 hK19=>?_
         refine Ac ?_
         simp (disch:=omega) only [amL,amT,sA,sF,↓reduceIte,reduceCtorEq]
         refine hK19 _ ?_
         refine Aj rfl (fun h=>?_) (fun h=>?_)
         ·first
          | exact Bool.noConfusion h
          |skip
           try simp only [decide_eq_true_eq] at h
           refine Ak ?_
           refine hK18 _ ?_
           refine Aa fun K20 hK20=>?_
           refine Ap ?_
           have hj2:(j:Int) < 121:=by unfold Sc at hj; omega
           have hb1:=Pz hok (s:=sp.lo+k) (by omega) (by omega)
           refine C0 ?_
           refine Jy ?_
           simp (disch:=omega) only [amL,sA,sF,↓reduceIte,reduceCtorEq]
           refine Jy ?_
           simp (disch:=omega) only [amL,sA,sF,↓reduceIte,reduceCtorEq]
           refine Jy ?_
           simp (disch:=omega) only [amL,sA,↓reduceIte,reduceCtorEq]
           refine Jy ?_
           simp (disch:=omega) only [amL,sA,sF,↓reduceIte,reduceCtorEq]
           refine Jy ?_
           simp (disch:=omega) only [amL,sF,↓reduceIte]
           refine Aw (by kernel_rfl) rfl (Axm hok (s:=sp.lo+k) (by omega) (by omega)) (by first | exact .inl rfl | exact .inr (.inl rfl)) ?_
           simp (disch:=omega) only [amL]
           refine Jy ?_
           simp (disch:=omega) only [amL,amT,sA,sF,↓reduceIte]
           refine AL.step (Aaz (k:=3) (e:=4) (m:=39) (n:=g.lo+j+Qj l (sp.lo+k)) rfl rfl Avp (by kernel_rfl) rfl rfl rfl (by simp [inR]; omega) rfl ?_)
           refine Dc ?_
           simp (disch:=omega) only [amL]
           refine hK20 _ ?_
           refine Ac ?_
           simp (disch:=omega) only [amL,amT,sA,sF,↓reduceIte,reduceCtorEq]
           refine hK17 (j+1) _ ?_ ?_ (De ?_ ?_ ?_ ?_)
           all_goals (try simp (disch:=omega) only [amL,sF,sG,↓reduceIte,reduceCtorEq])
           all_goals first | rfl | (unfold Sc at *; omega) | exact congrArg i64 (by omega) | trace_state
         ·first
          | exact Bool.noConfusion h
          |skip
           try simp only [decide_eq_false_iff_not] at h
           refine Bo ?_
           refine hK15 _ ?_
           refine Ac ?_
           simp (disch:=omega) only [amL,amT,sA,sF,↓reduceIte,reduceCtorEq]
           refine hK12 (k+1) _ ?_ ?_ (De ?_ ?_ ?_ ?_)
           all_goals (try simp (disch:=omega) only [amL,sF,sG,↓reduceIte,reduceCtorEq])
           all_goals first | (unfold Sc at *; omega) | ((obtain rfl:j=Sc g:=by unfold Sc at *; omega) ; rfl) | exact congrArg i64 (by omega) | trace_state
       ·first
        | exact Bool.noConfusion h
        |skip
         try simp only [decide_eq_false_iff_not] at h
         refine Bo ?_
         refine hK10 _ ?_
         refine Aa fun K21 hK21=>?_
         refine Ac ?_
         obtain rfl:k=Sc sp:=by unfold Sc at *; omega
         simp (disch:=omega) only [amL,sA]
         refine hK21 _ ?_
         refine Aa fun K22 hK22=>?_
         refine Aa fun K23 hK23=>?_
         refine Ac ?_
         simp (disch:=omega) only [amL,amT,sA,sF,↓reduceIte,reduceCtorEq]
         refine hK23 _ ?_
         refine Ap ?_
         refine Aiw 39 rfl (fun ob hob=>?_)
         obtain ⟨es,clock,rfl,hE⟩:=Aqn hob
         refine Po 81 1 14 (by decide) rfl rfl ?_
         refine Be (α:=Nat) (fun i=>⟨T [(11,.mp 39),(14,.own 81 (Jg (N2 l g sp) b i).length),(62,.p (.sl (b.map H9))),(63,i64 b.length),(64,i64 (i:Int))],O [(39,.obj (Xi es clock)),(81,.arr 1 ((Jg (N2 l g sp) b i).map Ask))]⟩) (fun i=>b.length - i) (fun i=>i≤b.length) 0 ?_ ?_ (fun i hx24 K24 hK24=>?_)
         · exact Nat.zero_le _
         · refine De ?_ ?_ ?_ ?_ <;> (try simp (disch:=omega) only [amL,sF,sG,↓reduceIte,reduceCtorEq]); all_goals first | rfl | exact ⟨rfl,rfl⟩ | trace_state
         have hi:=hx24
         refine Aa fun K25 hK25=>?_
         refine Ac ?_
         simp (disch:=omega) only [amL,amT,sA,sF,↓reduceIte]
         refine hK25 _ ?_
         refine Aa fun K26 hK26=>?_
         refine Aj rfl (fun h=>?_) (fun h=>?_)
         ·first
          | exact Bool.noConfusion h
          |skip
           try simp only [decide_eq_true_eq] at h
           refine Ak ?_
           refine hK26 _ ?_
           refine Aa fun K27 hK27=>?_
           refine Ap ?_
           refine Aa fun K28 hK28=>?_
           refine Ac ?_
           simp (disch:=omega) only [Bh,amL,amT,sA,sB,sF,↓reduceIte]
           refine hK28 _ ?_
           refine Aa fun K29 hK29=>?_
           refine C0 ?_
           refine Jy ?_
           simp (disch:=omega) only [amL,sA,sF,↓reduceIte]
           refine AL.step (Adi (k:=3) (e:=4) (dd:=70) rfl rfl (by decide) rfl Avp rfl rfl ?_)
           refine Dc ?_
           simp (disch:=omega) only [amL]
           refine hK29 _ ?_
           refine Ap ?_
           skip
           refine Be (α:=Array Nat × Nat) (fun x=>⟨T [(11,.mp 39),(14,.own 81 (Jg (N2 l g sp) b i).length),(15,i64 (i:Int)),(16,.ptr 16 0),(62,.p (.sl (b.map H9))),(63,i64 b.length),(64,i64 (i:Int)),(70,.ptr 70 0)],O [(16,.cells [i64 (b.getD i default).lo,i64 (b.getD i default).hi]),(39,.obj (Xi es clock)),(81,.arr 1 ((Jg (N2 l g sp) b i).map Ask)),(70,.it 39 (So clock x.1 x.2))]⟩) (fun x=>(Fe es x.1).size) (fun x=>clock≤x.2∧Vh (Jn (b.getD i default)) es x.1) (#[],clock) ?_ ?_ (fun x hx30 K30 hK30=>?_)
           · exact ⟨Nat.le_refl _,Aey⟩
           · refine De ?_ ?_ ?_ ?_ <;> (try simp (disch:=omega) only [amL,sF,sG,↓reduceIte]); all_goals first | rfl | trace_state
           obtain ⟨seen,last⟩:=x; dsimp only at hx30 ⊢; obtain ⟨hcl0,hns⟩:=hx30
           refine Aa fun K31 hK31=>?_
           refine Afh (ι:=Bool × Array Nat × Nat) (fun z=>[(11,.mp 39),(14,.own 81 (Jg (N2 l g sp) b i).length),(15,i64 (i:Int)),(16,.ptr 16 0),(62,.p (.sl (b.map H9))),(63,i64 b.length),(64,i64 (i:Int)),(70,.ptr 70 0),(72,bl z.1)]) (fun z=>[(16,.cells [i64 (b.getD i default).lo,i64 (b.getD i default).hi]),(39,.obj (Xi es clock)),(81,.arr 1 ((Jg (N2 l g sp) b i).map Ask)),(70,.it 39 (So clock z.2.1 z.2.2))]) (fun z=>(z.1=false∧(Fe es seen).size=0)∨(z.1=true∧∃ e ∈ (Fe es seen).toList,z.2.1=seen.push e.born∧z.2.2=clock)) hK31 (fun _=>rfl) (fun _=>rfl) ?_ (fun z hz K31 hK31=>?_)
           · refine C0 ?_
             refine AL.step (Afl (m:=39) (ri:=70) rfl (fun k hk=>by cases hk; decide) rfl rfl rfl hE.old hcl0 (fun e he=>by obtain ⟨h1,k,h2,_⟩:=hE.key e he; rw [h1,h2]; exact ⟨rfl,rfl⟩) (fun h0=>?_) (fun e he=>?_))
             · refine Dc ?_
               simp (disch:=omega) only [amL,sA,↓reduceIte]
               refine ⟨(false,seen,last),.inl ⟨rfl,h0⟩,rfl,⟨rfl,rfl,rfl,rfl,rfl,rfl,rfl,rfl,rfl,trivial⟩,⟨rfl,rfl,rfl,rfl,trivial⟩⟩
             · refine Dc ?_
               simp (disch:=omega) only [amL,sA,↓reduceIte]
               refine ⟨(true,seen.push e.born,clock),.inr ⟨rfl,e,he,rfl,rfl⟩,rfl,⟨rfl,rfl,rfl,rfl,rfl,rfl,rfl,rfl,rfl,trivial⟩,⟨rfl,rfl,rfl,rfl,trivial⟩⟩
           obtain ⟨zb,seen2,last2⟩:=z
           dsimp only at hz ⊢
           refine hK31 _ ?_
           refine Aa fun K32 hK32=>?_
           refine Aj rfl (fun h=>?_) (fun h=>?_)
           ·first
            | exact Bool.noConfusion h
            |skip
             try simp only [Bool.not_eq_true',decide_eq_true_eq,decide_eq_false_iff_not,Bool.and_eq_true,Bool.not_eq_false',Bool.not_not,decide_not,Bool.not_true,Bool.not_false] at h
             refine Ak ?_
             refine hK32 _ ?_
             refine Ap ?_
             refine Aa fun K33 hK33=>?_
             obtain ⟨hz0,e,he,rfl,rfl⟩:zb=true∧∃ e ∈ (Fe es seen).toList,seen2=seen.push e.born∧clock=last2:=by
               rcases hz with hz | ⟨hz,e,he,h1,h2⟩
               · rw [hz.1] at h; cases h
               · exact ⟨hz,e,he,h1,h2.symm⟩
             obtain ⟨g1,n,g2,g3,g4⟩:=hE.key e (U6 he).1
             refine C0 ?_
             refine AL.step (Adw (m:=39) (ri:=70) (e:=e) rfl (fun k hk=>by cases hk; decide) rfl rfl rfl (U6 he).1 hE.nd (by rw [g2]; rfl) (by rw [g1]; rfl) ?_)
             rw [g2]
             refine Dc ?_
             simp (disch:=omega) only [amL,sA,↓reduceIte]
             refine hK33 _ ?_
             refine Aa fun K34 hK34=>?_
             refine Ac ?_
             simp (disch:=omega) only [amL,amT,sA,sB,sF,↓reduceIte]
             repeat' first | (refine Aw (by kernel_rfl) rfl (Agu (b.getD i default) n) (by first | exact .inl rfl | exact .inr (.inl rfl)) ?_ ; simp (disch:=omega) only [amL])
             refine hK34 _ ?_
             refine Aj rfl (fun h=>?_) (fun h=>?_)
             ·first
              | exact Bool.noConfusion h
              |skip
               try simp only [Bool.not_eq_true',decide_eq_true_eq,decide_eq_false_iff_not,Bool.and_eq_true,Bool.not_eq_false',Bool.not_not,decide_not,Bool.not_true,Bool.not_false] at h
               refine Aa fun K35 hK35=>?_
               refine Ac ?_
               have hol:=Alb (S:=N2 l g sp) (b:=b) (k:=i)
               simp (disch:=omega) only [amL,amT,sA,sE,sF,↓reduceIte,reduceCtorEq]
               refine hK35 _ ?_
               refine Bo ?_
               refine hK27 _ ?_
               refine Ac ?_
               simp (disch:=omega) only [amL,amT,sA,sF,↓reduceIte]
               refine hK24 (i+1) _ ?_ ?_ (De ?_ ?_ ?_ ?_)
               all_goals (try simp (disch:=omega) only [amL,sF,sG,↓reduceIte])
               all_goals first | omega | (have e9:Jg (N2 l g sp) b (i+1)=Jg (N2 l g sp) b i:=Agy (b:=b) (k:=i) (U9 hE hns (hz.elim (fun q=>q.2) (fun q=>by rw [q.1] at h; cases h))) ; rw [e9]; done) | (have e9:Jg (N2 l g sp) b (i+1)=Jg (N2 l g sp) b i++[i]:=Adp (List.any_eq_true.2 ⟨n,g3,h⟩) ; rw [e9] ; first | (rw [List.length_append]; rfl) | (rw [List.length_append]; exact ⟨rfl,rfl⟩) | (rw [List.map_append]; exact ⟨rfl,rfl⟩)) | trace_state
             ·first
              | exact Bool.noConfusion h
              |skip
               try simp only [Bool.not_eq_true',decide_eq_true_eq,decide_eq_false_iff_not,Bool.and_eq_true,Bool.not_eq_false',Bool.not_not,decide_not,Bool.not_true,Bool.not_false] at h
               refine Ak ?_
               refine hK30 (seen.push e.born,clock) _ ?_ ?_ (De ?_ ?_ ?_ ?_)
               all_goals (try simp (disch:=omega) only [amL,sF,sG,↓reduceIte])
               all_goals first | exact Aca hE hns (U6 he).1 g2 (by assumption) | exact Aid he | trace_state
           ·first
            | exact Bool.noConfusion h
            |skip
             try simp only [Bool.not_eq_true',decide_eq_true_eq,decide_eq_false_iff_not,Bool.and_eq_true,Bool.not_eq_false',Bool.not_not,decide_not,Bool.not_true,Bool.not_false] at h
             refine Bo ?_
             refine hK27 _ ?_
             refine Ac ?_
             simp (disch:=omega) only [amL,amT,sA,sF,↓reduceIte]
             refine hK24 (i+1) _ ?_ ?_ (De ?_ ?_ ?_ ?_)
             all_goals (try simp (disch:=omega) only [amL,sF,sG,↓reduceIte])
             all_goals first | omega | (have e9:Jg (N2 l g sp) b (i+1)=Jg (N2 l g sp) b i:=Agy (b:=b) (k:=i) (U9 hE hns (hz.elim (fun q=>q.2) (fun q=>by rw [q.1] at h; cases h))) ; rw [e9]; done) | (have e9:Jg (N2 l g sp) b (i+1)=Jg (N2 l g sp) b i++[i]:=Adp (List.any_eq_true.2 ⟨n,g3,h⟩) ; rw [e9] ; first | (rw [List.length_append]; rfl) | (rw [List.length_append]; exact ⟨rfl,rfl⟩) | (rw [List.map_append]; exact ⟨rfl,rfl⟩)) | trace_state
         ·first
          | exact Bool.noConfusion h
          |skip
           try simp only [decide_eq_false_iff_not] at h
           refine Bo ?_
           refine hK22 _ ?_
           refine Aa fun K36 hK36=>?_
           refine Ac ?_
           simp (disch:=omega) only [amL,sA,sF,↓reduceIte]
           refine hK36 _ ?_
           refine Ah ?_
           try simp (disch:=omega) only [amL,sF,↓reduceIte]
           all_goals first | (rw [Km,if_pos (by assumption)]; done) | (rw [Km,if_neg (by omega),if_neg (Pj (by first | exact .inl (by assumption) | exact .inr (.inl (by assumption)) | exact .inr (.inr (by assumption))))]; done) | ((obtain rfl:i=b.length:=by omega) ; rw [Km,if_neg (by omega),if_pos hmb,List.take_of_length_le (by simp)]; done) | trace_state
theorem c_wort (g k:Int):Bt Tryz.prog 82 [i64 g,i64 k] (bl (Mn g k)):=by
  refine Bn (v:=[]) (q:=[]) (N:=12) (rs:=[.tmp 4]) Tryz.func82 rfl rfl rfl rfl rfl ?_
  refine Aa fun K1 hK1=>?_
  refine Ac ?_
  simp (disch:=omega) only [amL,sA,sB]
  refine hK1 _ ?_
  refine Aa fun K2 hK2=>?_
  refine Ac ?_
  simp (disch:=omega) only [amL,sA,↓reduceIte,reduceCtorEq]
  repeat' first | (refine E0 (fun h=>?_) (fun h=>?_) <;> simp (disch:=omega) only [h,amL,amT,sA,sB,sC,sD,sE,sF,sG,sH,sI,sJ,sK,sL,sM,sN,sO,↓reduceIte,reduceCtorEq]) | (refine Cz (fun h=>?_) (fun h=>?_) <;> simp (disch:=omega) only [h,amL,sA,sF,↓reduceIte]) | (refine Aw (by kernel_rfl) rfl (J5 _ _ _) (by first | exact .inl rfl | exact .inr (.inl rfl)) ?_ ; simp (disch:=omega) only [amL,sA,↓reduceIte]) | (refine Aw (by kernel_rfl) rfl (Ahk) (by first | exact .inl rfl | exact .inr (.inl rfl)) ?_ ; simp (disch:=omega) only [amL,sA,sF,↓reduceIte,reduceCtorEq]) | (refine Aw (by kernel_rfl) rfl (Agu ⟨_,_⟩ _) (by first | exact .inl rfl | exact .inr (.inl rfl)) ?_ ; simp (disch:=omega) only [amL,sA,sF,↓reduceIte])
  all_goals
   skip
   refine hK2 _ ?_
   refine Ah ?_
   try simp (disch:=omega) only [amL,↓reduceIte]
   all_goals simp_all [Mn,Jn]
theorem Asi {g k:Int} {l:Liq} {n1 n2:Nat} {os:Nat→Option AO} {bd:Nat} (hl:Rh l) (h1:os n1=some (.cells [i64 g])) (h2:os n2=some (.cells [i64 k])) :
    Bg Tryz.prog bd (.fn (.func 117) [] [.ptr n1 0,.ptr n2 0]) [avL l] os fun res os'=>res=bl (decide (l.g=g)&&decide (Qd l=k))∧os'=os:=by
  refine B2 (v:=[]) (q:=[]) (N:=15) (rs:=[.tmp 4]) Tryz.func117 rfl (by kernel_rfl) rfl rfl (fun hcl hfree=>?_)
  have hfr0:∀ k,os (bd+k)=none:=fun k=>hfree _ (by omega)
  have b1:=Ao hfree h1
  have b2:=Ao hfree h2
  refine Aa fun K1 hK1=>?_
  refine Ac ?_
  simp (disch:=omega) only [hfr0,amL,sA,sB,↓reduceIte]
  refine hK1 _ ?_
  refine Aa fun K2 hK2=>?_
  refine Ce (by kernel_rfl) (by kernel_rfl) ?_
  simp (disch:=omega) only [h1,Ad,amL,amT,sA,sF,↓reduceIte,reduceCtorEq]
  repeat' first | (refine E0 (fun h=>?_) (fun h=>?_) <;> simp (disch:=omega) only [h,amL,amT,sA,sB,sF,↓reduceIte]) | (refine Cz (fun h=>?_) (fun h=>?_) <;> simp (disch:=omega) only [h,h1,h2,hfr0,Ad,amL,amT,sA,sB,sC,sD,sE,sF,sG,sH,sI,sJ,sK,sL,sM,sN,sO,↓reduceIte,reduceCtorEq]) | (refine Aw (by kernel_rfl) rfl (Zb ⟨g,l.e⟩ (by rw [← h]; exact hl)) (by first | exact .inl rfl | exact .inr (.inl rfl)) ?_ ; simp (disch:=omega) only [h2,Ad,amL,amT,sA,sF,↓reduceIte,reduceCtorEq])
  all_goals
   skip
   refine hK2 _ ?_
   refine Ah ?_
   try simp (disch:=omega) only [amL]
   all_goals (refine A3 (res:=bl _) os (by simp (disch:=omega) only [amL,↓reduceIte]; try rfl) (by first | ((repeat' first | exact Sub.refl _ | refine Sub.skip (by first | exact hfr0 _ | (simp (disch:=omega) only [Ad]; exact hfr0 _)) ?_ | refine Sub.both ?_); done) | fail) hcl (AV.lives_p _ _) ⟨?_,rfl⟩ ; first | (subst h ; simp; done) | (simp [h]; done) | trace_state)
theorem sfL:M3 Tryz.prog 125 118 191 3 4 135 116:=⟨⟨_,Tryz.func135,rfl,rfl,rfl,by kernel_rfl⟩,⟨_,Tryz.func116,rfl,rfl,rfl,by kernel_rfl⟩⟩
theorem Axt {g k:Int} {l:List Liq} {n1 n2:Nat} (hl:∀ x ∈ l,Rh x):Hc Tryz.prog (.fn (.func 117) [] [.ptr n1 0,.ptr n2 0]) (fun n=>n=n1∨n=n2) avL l (fun (_:Unit) os=>os n1=some (.cells [i64 g])∧os n2=some (.cells [i64 k])) (fun _ x=>((),decide (x.g=g)&&decide (Qd x=k))) where
  live s os h:=by rw [Fr,Ct,Cl,Cl,Ct,C5,C5,h.1,h.2]; exact ⟨trivial,rfl,rfl,trivial⟩
  stable s os os' h h2:=⟨(h2 n1 (.inl rfl)).trans h.1,(h2 n2 (.inr rfl)).trans h.2⟩
  foot s os n h hn:=by
    rcases hn with rfl | rfl
    · exact ⟨_,h.1,fun m hm=>by simp [AO.clean,AV.clean,AV.clean.cleanL] at hm⟩
    · exact ⟨_,h.2,fun m hm=>by simp [AO.clean,AV.clean,AV.clean.cleanL] at hm⟩
  call s x os bd hx h _:=by
    refine Bg.mono (Asi (hl x hx) h.1 h.2) ?_
    rintro r os' ⟨rfl,rfl⟩
    exact ⟨rfl,h,fun _ _=>rfl⟩
theorem Asc {v:List Liq} {n:Nat} {g k:Int} {n0 n1 n2:Nat} {os:Nat→Option AO} {bd:Nat} (hw:G5 v) (hv4:v.length=4) (hn:n≤4) (h0:os n0=some (.cells (cW v))) (h1:os n1=some (.cells [i64 g])) (h2:os n2=some (.cells [i64 k])) (d1:n0≠n1) (d2:n0≠n2) :
    Bg Tryz.prog bd (.fn (.func 116) [] []) [.csl n0 0 2 n,.fn (.func 117) [] [.ptr n1 0,.ptr n2 0]] os fun res os'=>res=bl (Wm n v g k)∧os'=os:=by
  have hlen:(v.take n).length=n:=by rw [List.length_take]; omega
  have hgd:∀ i,i < n→(v.take n).getD i default=v.getD i default:=fun i hi=>by
    simp only [List.getD]; rw [List.getElem?_take,if_pos hi]
  have ht:=Axt (g:=g) (k:=k) (l:=v.take n) (n1:=n1) (n2:=n2) (fun x hx=>by
    obtain ⟨i,hi,rfl⟩:=List.getElem_of_mem hx
    rw [List.getElem_eq_getD (fallback:=default),hgd i (by omega)]; exact hw i)
  have hc:=Awv (tS:=125) (sz:=2) (bd:=bd) (s:=()) (os:=os) (nb:=n0) (cs:=cW v) (by simp only [amT]) (by simp only [amT]; rfl) (by simp only [amT]) sfL (by omega) ht ⟨h1,h2⟩ h0 (fun h=>h.elim d1 d2) (fun i hi=>by rw [hgd i (by omega)]; exact Kl (by omega))
  rw [hlen] at hc
  refine Bg.mono hc ?_
  rintro r os' ⟨h1',h2',h3'⟩
  rw [Ab3] at h1'
  refine ⟨h1',funext fun q=>?_⟩
  by_cases e1:q=n1
  · subst e1; rw [h2'.1,h1]
  · by_cases e2:q=n2
    · subst e2; rw [h2'.2,h2]
    · exact h3' q (fun h=>h.elim e1 e2)
theorem Aic {r:RB} {N:Nat} {s:St} {K:St→Prop} {dst:Option Nat} {ty:TypeId} {pos:String} {after:Array Edge} {g:Option (Nat × Bool)} {x:Operand} {lo hi:Option Operand}:EO Tryz.prog r N ⟨dst,.slice 120 x lo hi none,ty,pos,after,g⟩ s K=EOp r.b N dst s K (Asg (fun e=>(Ab Tryz.prog e).sz) (fun e=>(Ab Tryz.prog e).agg) 4 118 (ev s.t x) (A9 (ev s.t) 0 lo) (A9 (ev s.t) 4 hi)):=Zd (by rw [Agi])
theorem Aqt {vs:List Ves} {ss:List Stp} {v:List Liq} {g k:Int} {nw m:Nat} {os:Nat→Option AO} {bd:Nat} (ow:os nw=some (.cells [.p (slV vs),.p (slS ss),.mp m])) (hvs:vs.length≤4) (hw:G5 v) (hv4:v.length=4) :
    Bg Tryz.prog bd (.fn (.func 84) [] []) [.ptr nw 0,avW v,i64 g,i64 k] os fun res os'=>res=bl (Wm vs.length v g k)∧os'=os:=by
  refine B2 (v:=[116]) (q:=[]) (N:=18) (rs:=[.tmp 8]) Tryz.func84 rfl (by kernel_rfl) rfl rfl (fun hcl hfree=>?_)
  have hfr0:∀ k,os (bd+k)=none:=fun k=>hfree _ (by omega)
  have hlw:=Ao hfree ow
  refine Aa fun K1 hK1=>?_
  refine Ac ?_
  simp (disch:=omega) only [hfr0,Ad,amL,sA,sB,sF,↓reduceIte,reduceCtorEq]
  refine hK1 _ ?_
  refine Aa fun K2 hK2=>?_
  refine Ac ?_
  simp (disch:=omega) only [ow,Ad,Aic,B3,Bk,Bj,B1,Int.sub_zero,Int.toNat_natCast,amL,amT,sA,sF,sH,sK,sL,sN,↓reduceIte,reduceCtorEq]
  refine A1 [] (by decide) (Asc (v:=v) (n:=vs.length) (g:=g) (k:=k) (bd:=bd+18) hw hv4 hvs (by simp (disch:=omega) only [Ad,amL]) (by simp (disch:=omega) only [Ad,amL]) (by simp (disch:=omega) only [amL]) (by omega) (by omega)) (fun q hq=>by simp (disch:=omega) only [Ad]; exact hfree q (by omega)) (Nat.le_add_right _ _) (fun res os2 hR hcl2 hlv2=>?_)
  obtain ⟨rfl,rfl⟩:=hR
  simp (disch:=omega) only [amL,sA,↓reduceIte]
  refine hK2 _ ?_
  refine Ah ?_
  try simp (disch:=omega) only [amL]
  refine A3 (res:=bl _) os (by simp (disch:=omega) only [amL,↓reduceIte]; try rfl) (by first | ((repeat' first | exact Sub.refl _ | refine Sub.skip (by first | exact hfr0 _ | (simp (disch:=omega) only [Ad]; exact hfr0 _)) ?_ | refine Sub.both ?_); done) | fail) hcl (AV.lives_p _ _) ⟨rfl,rfl⟩
theorem Aqg {v:List Liq} {nw:Nat} {os:Nat→Option AO} {bd:Nat} (hw:(os nw).isSome=true) :
    Bg Tryz.prog bd (.fn (.func 85) [] []) [.ptr nw 0,avW v] os fun res os'=>res=.fn (.func 118) [] [.ptr (bd+2) 0,.ptr (bd+3) 0]∧os'=upd (upd os (bd+2) (some (.cells [.ptr nw 0]))) (bd+3) (some (.cells (cW v))):=by
  refine B2 (v:=[]) (q:=[]) (N:=6) (rs:=[.tmp 4]) Tryz.func85 rfl (by kernel_rfl) rfl rfl (fun hcl hfree=>?_)
  have hfr0:∀ k,os (bd+k)=none:=fun k=>hfree _ (by omega)
  have hb:nw < bd:=by
    cases Nat.lt_or_ge nw bd with
    | inl h=>exact h
    | inr h=>rw [hfree nw h] at hw; cases hw
  refine Aa fun K1 hK1=>?_
  refine Ac ?_
  simp (disch:=omega) only [hfr0,Ad,amL,sA,sB,sF,↓reduceIte,reduceCtorEq]
  refine hK1 _ ?_
  refine Aa fun K2 hK2=>?_
  refine Ac ?_
  simp (disch:=omega) only [amL,sA,sF,↓reduceIte]
  refine hK2 _ ?_
  refine Ah ?_
  try simp (disch:=omega) only [amL]
  refine A3 (res:=.fn (.func 118) [] [.ptr (bd+2) 0,.ptr (bd+3) 0]) (upd (upd os (bd+2) (some (.cells [.ptr nw 0]))) (bd+3) (some (.cells (cW v)))) (by simp (disch:=omega) only [amL,↓reduceIte]; try rfl) (Sub.refl _) (D9 (Cq hcl ?_)) ?_ ⟨rfl,rfl⟩
  · rw [Dv]; simp (disch:=omega) only [Ct,Cl,C5,Ad,hw,and_self]
  · rw [Fr]; simp (disch:=omega) only [Ct,Cl,C5,Ad,Bb,Option.isSome_some,and_self]
theorem Hw {f t n:Nat} {c:Nat} (h:n < c):Pc f t (c - n) n=Cm f t n :: Pc f t (c - (n+1)) (n+1):=by
  rw [show c - n=(c - (n+1))+1 by omega]; rfl
theorem Yc {f t n:Nat} {c:Nat} (h:c≤n):Pc f t (c - n) n=[]:=by rw [show c - n=0 by omega]; rfl
theorem V0 {vs:List Ves} {v:List Liq} {f t:Nat} {c:Nat} (h:t < c):Mm vs v f (c - t) t=Pc f t ((Ds vs v f t).toNat - 0) 0++Mm vs v f (c - (t+1)) (t+1):=by
  rw [show c - t=(c - (t+1))+1 by omega]; rfl
theorem Aj7 {vs:List Ves} {v:List Liq} {f t:Nat} {c:Nat} (h:c≤t):Mm vs v f (c - t) t=[]:=by rw [show c - t=0 by omega]; rfl
theorem Afi {vs:List Ves} {v:List Liq} {f:Nat} {c:Nat} (h:f < c):Mj vs v (c - f) f=Mm vs v f (vs.length - 0) 0++Mj vs v (c - (f+1)) (f+1):=by
  rw [show c - f=(c - (f+1))+1 by omega]; rfl
theorem Rx {vs:List Ves} {v:List Liq} {f:Nat} {c:Nat} (h:c≤f):Mj vs v (c - f) f=[]:=by rw [show c - f=0 by omega]; rfl
theorem Ao6 {vs:List Ves} {ss:List Stp} {v:List Liq} {n1 n2 nw m:Nat} {yv:AV} {F:Nat→Prop} {σ:Type} {go:σ→Prop} {I:σ→(Nat→Option AO)→Prop} {step:σ→Stp→σ × Bool} (hY:Ag6 Tryz.prog yv F avS (Fp vs v) go I step) (hst:∀ s os,I s os→os n1=some (.cells [.ptr nw 0])∧os n2=some (.cells (cW v))∧os nw=some (.cells [.p (slV vs),.p (slS ss),.mp m])) (hv:OkV v) (hvs:vs.length≤4) (hva:vs.all Eu=true) {s:σ} {os:Nat→Option AO} {bd:Nat} (hg:go s) (hI:I s os) :
    Bg Tryz.prog bd (.fn (.func 118) [] [.ptr n1 0,.ptr n2 0]) [yv] os fun res os'=>res=.tup []∧I (Fm step s (Fp vs v)).1 os'∧∀ n,¬ F n→os' n=os n:=by
  refine B2 (v:=[]) (q:=[]) (N:=66) (rs:=[]) Tryz.func118 rfl (by kernel_rfl) rfl rfl (fun hcl hfree=>?_)
  have hF:∀ n,F n→n < bd:=fun n hn=>by obtain ⟨o,h,_⟩:=hY.foot s os n hI hn; exact Ao hfree h
  have hfreeI:∀ (os1:Nat→Option AO),(∀ n,¬ F n→os1 n=os n)→∀ n,bd≤n→os1 n=none:=fun os1 h2 n hn=>by
    rw [h2 n (fun h=>by have:=hF n h; omega)]; exact hfree n hn
  have hl4:=hv.len
  have hlv:=hY.live _ _ hI
  obtain ⟨z1,z2,zw⟩:=hst _ _ hI
  have b1:=Ao hfree z1
  have b2:=Ao hfree z2
  have bw:=Ao hfree zw
  refine Aa fun K1 hK1=>?_
  refine Ac ?_
  simp (disch:=omega) only [z1,zw,amL,amT,sA,sB,↓reduceIte,reduceCtorEq]
  refine hK1 _ ?_
  refine Ap ?_
  skip
  refine Be (α:=Nat × σ × (Nat→Option AO)) (fun x=>⟨T [(0,yv),(1,.ptr n1 0),(2,.ptr n2 0),(15,i64 vs.length),(16,i64 (x.1:Int))],x.2.2⟩) (fun x=>vs.length - x.1) (fun x=>x.1≤vs.length∧go x.2.1∧I x.2.1 x.2.2∧(Hp x.2.2).closed∧(∀ n,¬ F n→x.2.2 n=os n)∧Fm step x.2.1 (Mj vs v (vs.length - x.1) x.1)=Fm step s (Fp vs v)) (0,s,os) ?_ ?_ (fun x hx2 K2 hK2=>?_)
  · exact ⟨by simp,hg,hI,hcl,fun _ _=>rfl,rfl⟩
  · refine F9 ?_ ?_ ?_ ?_ <;> (try simp (disch:=omega) only [amL,sF,↓reduceIte,reduceCtorEq]); all_goals first | exact Sub.refl _ | exact hcl | exact ⟨hlv,by rw [z1]; rfl,by rw [z2]; rfl⟩ | trace_state
  obtain ⟨f,s1,os1⟩:=x; dsimp only at hx2 ⊢; obtain ⟨hk,hg1,hI1,hcl1,hfrm1,hall⟩:=hx2; obtain ⟨o1,o2,ow⟩:=hst _ _ hI1; have hlv1:=hY.live _ _ hI1
  refine Aa fun K3 hK3=>?_
  refine Ac ?_
  simp (disch:=omega) only [amL,amT,sA,sF,↓reduceIte,reduceCtorEq]
  refine hK3 _ ?_
  refine Aa fun K4 hK4=>?_
  refine Aj rfl (fun h=>?_) (fun h=>?_)
  ·first
   | exact Bool.noConfusion h
   |skip
    try simp only [decide_eq_true_eq] at h
    refine Ak ?_
    refine hK4 _ ?_
    refine Aa fun K5 hK5=>?_
    refine Ap ?_
    refine Aa fun K6 hK6=>?_
    refine Ac ?_
    simp (disch:=omega) only [amL,sA,sF,↓reduceIte,reduceCtorEq]
    refine hK6 _ ?_
    refine Aa fun K7 hK7=>?_
    refine Ac ?_
    simp (disch:=omega) only [o1,ow,amL,amT,sA,sF,↓reduceIte,reduceCtorEq]
    refine hK7 _ ?_
    refine Ap ?_
    skip
    refine Be (α:=Nat × σ × (Nat→Option AO)) (fun x=>⟨T [(0,yv),(1,.ptr n1 0),(2,.ptr n2 0),(15,i64 vs.length),(16,i64 (f:Int)),(4,i64 (f:Int)),(23,.p (slV vs)),(24,i64 vs.length),(25,i64 (x.1:Int))],x.2.2⟩) (fun x=>vs.length - x.1) (fun x=>x.1≤vs.length∧go x.2.1∧I x.2.1 x.2.2∧(Hp x.2.2).closed∧(∀ n,¬ F n→x.2.2 n=os n)∧Fm step x.2.1 (Mm vs v f (vs.length - x.1) x.1++Mj vs v (vs.length - (f+1)) (f+1))=Fm step s (Fp vs v)) (0,s1,os1) ?_ ?_ (fun x hx8 K8 hK8=>?_)
    · exact ⟨Nat.zero_le _,hg1,hI1,hcl1,hfrm1,by have e:=hall; rw [Afi (by omega)] at e; exact e⟩
    · refine F9 ?_ ?_ ?_ ?_ <;> (try simp (disch:=omega) only [amL,sF,↓reduceIte,reduceCtorEq]); all_goals first | exact Sub.refl _ | exact hcl1 | exact ⟨hlv1,by rw [o1]; rfl,by rw [o2]; rfl⟩ | trace_state
    obtain ⟨t,s2,os2⟩:=x; dsimp only at hx8 ⊢; obtain ⟨hk2,hg2,hI2,hcl2,hfrm2,hall2⟩:=hx8; obtain ⟨o1,o2,ow⟩:=hst _ _ hI2; have hfr0:∀ k,os2 (bd+k)=none:=fun k=>hfreeI os2 hfrm2 _ (by omega); have hlv2:=hY.live _ _ hI2
    refine Aa fun K9 hK9=>?_
    refine Ac ?_
    simp (disch:=omega) only [amL,amT,sA,sF,↓reduceIte,reduceCtorEq]
    refine hK9 _ ?_
    refine Aa fun K10 hK10=>?_
    refine Aj rfl (fun h=>?_) (fun h=>?_)
    ·first
     | exact Bool.noConfusion h
     |skip
      try simp only [decide_eq_true_eq] at h
      refine Ak ?_
      refine hK10 _ ?_
      refine Aa fun K11 hK11=>?_
      refine Ap ?_
      refine Aa fun K12 hK12=>?_
      refine Ac ?_
      simp (disch:=omega) only [hfr0,Di,amL,amT,sA,sB,sF,↓reduceIte,reduceCtorEq]
      refine hK12 _ ?_
      refine Aa fun K13 hK13=>?_
      refine Ce (by kernel_rfl) (by kernel_rfl) ?_
      have hrm:=Ag4 hva (k:=t) (by omega)
      have hr0:=Aqp hva (k:=t) (by omega)
      have g1:=hv.g f
      have g2:=hv.g t
      have hmo:Ds vs v f t≤60:=by unfold Ds B0; split <;> omega
      simp (disch:=omega) only [o2,Ad,Jp,amL,amT,sA,sF,sH,↓reduceIte,reduceCtorEq]
      refine hK13 _ ?_
      refine Aa fun K14 hK14=>?_
      refine Aa fun K15 hK15=>?_
      refine Ac ?_
      simp (disch:=omega) only [amL,amT,sA,sF,↓reduceIte,reduceCtorEq]
      refine hK15 _ ?_
      refine Aj rfl (fun h=>?_) (fun h=>?_)
      ·first
       | exact Bool.noConfusion h
       |skip
        try simp only [Bool.not_eq_true',decide_eq_false_iff_not,decide_not] at h
        refine M4 5 ?_
        simp (disch:=omega) only [o2,Ad,Jp,S5,N9,L6,H5,Fk,amL,amT,sA,sB,sE,sF,sH,↓reduceIte,reduceCtorEq]
        repeat' first | (refine Aw (by kernel_rfl) rfl (Xk _ _) (by first | exact .inl rfl | exact .inr (.inl rfl)) ?_ ; simp (disch:=omega) only [amL,sA,↓reduceIte])
        refine hK14 _ ?_
        refine Aa fun K16 hK16=>?_
        refine Ac ?_
        simp (disch:=omega) only [amL,sA,sF,↓reduceIte]
        refine hK16 _ ?_
        refine Ap ?_
        skip
        refine Be (α:=Nat × σ × (Nat→Option AO)) (fun x=>⟨T [(0,yv),(1,.ptr n1 0),(2,.ptr n2 0),(15,i64 vs.length),(16,i64 (f:Int)),(4,i64 (f:Int)),(23,.p (slV vs)),(24,i64 vs.length),(25,i64 (t:Int)),(5,i64 (t:Int)),(8,i64 (if f≠t then 0 else 1)),(47,i64 (Ds vs v f t)),(48,i64 (x.1:Int))],x.2.2⟩) (fun x=>(Ds vs v f t).toNat - x.1) (fun x=>x.1≤(Ds vs v f t).toNat∧go x.2.1∧I x.2.1 x.2.2∧(Hp x.2.2).closed∧(∀ n,¬ F n→x.2.2 n=os n)∧Fm step x.2.1 (Pc f t ((Ds vs v f t).toNat - x.1) x.1++(Mm vs v f (vs.length - (t+1)) (t+1)++Mj vs v (vs.length - (f+1)) (f+1)))=Fm step s (Fp vs v)) (0,s2,os2) ?_ ?_ (fun x hx17 K17 hK17=>?_)
        · exact ⟨Nat.zero_le _,hg2,hI2,hcl2,hfrm2,by have e:=hall2; rw [V0 (by omega),List.append_assoc] at e; exact e⟩
        · refine F9 ?_ ?_ ?_ ?_ <;> (try simp (disch:=omega) only [amL,sF,↓reduceIte,reduceCtorEq]); all_goals first | exact (by first | ((repeat' first | exact Sub.refl _ | refine Sub.skip (by first | exact hfr0 _ | (simp (disch:=omega) only [Ad]; exact hfr0 _)) ?_ | refine Sub.both ?_); done) | fail) | exact Sub.refl _ | exact hcl2 | exact ⟨hlv2,by rw [o1]; rfl,by rw [o2]; rfl⟩ | exact congrArg i64 (by unfold Ds B0; rw [if_pos (by omega)]) | exact congrArg i64 (by unfold Ds B0; rw [if_neg (by omega)]) | trace_state
        obtain ⟨n,s3,os3⟩:=x; dsimp only at hx17 ⊢; obtain ⟨hk3,hg3,hI3,hcl3,hfrm3,hall3⟩:=hx17; obtain ⟨o1,o2,ow⟩:=hst _ _ hI3; have hfr0:∀ k,os3 (bd+k)=none:=fun k=>hfreeI os3 hfrm3 _ (by omega); have hlv3:=hY.live _ _ hI3
        refine Aa fun K18 hK18=>?_
        refine Ac ?_
        simp (disch:=omega) only [amL,amT,sA,sF,↓reduceIte,reduceCtorEq]
        refine hK18 _ ?_
        refine Aa fun K19 hK19=>?_
        refine Aj rfl (fun h=>?_) (fun h=>?_)
        ·first
         | exact Bool.noConfusion h
         |skip
          try simp only [decide_eq_true_eq] at h
          refine Ak ?_
          refine hK19 _ ?_
          refine Aa fun K20 hK20=>?_
          refine Ap ?_
          refine Aa fun K21 hK21=>?_
          refine Ac ?_
          simp (disch:=omega) only [amL,sA,sF,↓reduceIte,reduceCtorEq]
          refine hK21 _ ?_
          refine Aa fun K22 hK22=>?_
          refine Ac ?_
          simp (disch:=omega) only [amL,amT,sA,sB,sE,sF,↓reduceIte,reduceCtorEq]
          have hx:Cm f t n ∈ Fp vs v:=Ab0 (by omega) (by omega) (by omega)
          have hcall:=hY.call s3 (Cm f t n) os3 bd hx hg3 hI3 hcl3
          first
            | (rw [Acj (by omega)] at hcall ; refine A1 [(0,yv),(1,.ptr n1 0),(2,.ptr n2 0),(15,i64 vs.length),(16,i64 (f:Int)),(4,i64 (f:Int)),(23,.p (slV vs)),(24,i64 vs.length),(25,i64 (t:Int)),(5,i64 (t:Int)),(8,i64 0),(47,i64 (Ds vs v f t)),(48,i64 (n:Int))] (by decide) hcall (hfreeI os3 hfrm3) (Nat.le_refl _) (fun res os4 hR hcl4 hlvr=>?_))
            | (rw [Xq (by omega)] at hcall ; refine A1 [(0,yv),(1,.ptr n1 0),(2,.ptr n2 0),(15,i64 vs.length),(16,i64 (f:Int)),(4,i64 (f:Int)),(23,.p (slV vs)),(24,i64 vs.length),(25,i64 (t:Int)),(5,i64 (t:Int)),(8,i64 1),(47,i64 (Ds vs v f t)),(48,i64 (n:Int))] (by decide) hcall (hfreeI os3 hfrm3) (Nat.le_refl _) (fun res os4 hR hcl4 hlvr=>?_))
          obtain ⟨rfl,hI4,hfr4⟩:=hR
          have hlv4:=hY.live _ _ hI4
          obtain ⟨p1,p2,pw⟩:=hst _ _ hI4
          simp (disch:=omega) only [amL,sA,sF,↓reduceIte,reduceCtorEq]
          refine ⟨⟨hlv4,by rw [p1]; rfl,by rw [p2]; rfl⟩,?_⟩
          refine hK22 _ ?_
          refine Aj rfl (fun h=>?_) (fun h=>?_)
          ·first
           | exact Bool.noConfusion h
           |skip
            try simp only [Bool.not_eq_true'] at h
            refine Ah ?_
            try simp (disch:=omega) only [amL]
            first | (refine A3 (res:=.tup []) os4 rfl (Sub.refl _) hcl4 (A5 _ rfl) ⟨rfl,?_,fun q hq=>(hfr4 q hq).trans (hfrm3 q hq)⟩ ; rw [← hall3,Hw (by omega),List.cons_append] ; simp only [Fm] ; rw [if_neg (by rw [h]; decide)] ; exact hI4) | (refine A3 (res:=.tup []) os1 rfl (Sub.refl _) hcl1 (A5 _ rfl) ⟨rfl,?_,hfrm1⟩ ; rw [← hall,Rx (by omega)] ; exact hI1) | trace_state
          ·first
           | exact Bool.noConfusion h
           |skip
            try simp only [Bool.not_eq_false'] at h
            refine Ak ?_
            refine hK20 _ ?_
            refine Ac ?_
            simp (disch:=omega) only [amL,amT,sA,sF,↓reduceIte,reduceCtorEq]
            refine hK17 (n+1,(step s3 (Cm f t n)).1,os4) _ ?_ ?_ (F9 ?_ ?_ ?_ ?_)
            all_goals (try simp (disch:=omega) only [amL,sF,↓reduceIte,reduceCtorEq])
            all_goals first | omega | exact Sub.refl _ | exact hcl4 | exact ⟨hlv4,by rw [p1]; rfl,by rw [p2]; rfl⟩ | exact ⟨by omega,hY.next _ _ hx hg3 h,hI4,hcl4,fun q hq=>(hfr4 q hq).trans (hfrm3 q hq),by have e:=hall3; rw [Hw (by omega),List.cons_append] at e; simp only [Fm] at e; rwa [if_pos h] at e⟩ | trace_state
        ·first
         | exact Bool.noConfusion h
         |skip
          try simp only [decide_eq_false_iff_not] at h
          refine Bo ?_
          refine hK11 _ ?_
          refine Ac ?_
          simp (disch:=omega) only [amL,amT,sA,sF,↓reduceIte,reduceCtorEq]
          refine hK8 (t+1,s3,os3) _ ?_ ?_ (F9 ?_ ?_ ?_ ?_)
          all_goals (try simp (disch:=omega) only [amL,sF,↓reduceIte,reduceCtorEq])
          all_goals first | omega | exact Sub.refl _ | exact hcl3 | exact ⟨hlv3,by rw [o1]; rfl,by rw [o2]; rfl⟩ | exact ⟨by omega,hg3,hI3,hcl3,hfrm3,by have e:=hall3; rw [Yc (by omega)] at e; exact e⟩ | trace_state
      ·first
       | exact Bool.noConfusion h
       |skip
        try simp only [decide_eq_true_eq,Bool.not_eq_false',decide_not] at h
        refine Ak ?_
        refine hK14 _ ?_
        refine Aa fun K23 hK23=>?_
        refine Ac ?_
        simp (disch:=omega) only [amL,sA,sF,↓reduceIte]
        refine hK23 _ ?_
        refine Ap ?_
        skip
        refine Be (α:=Nat × σ × (Nat→Option AO)) (fun x=>⟨T [(0,yv),(1,.ptr n1 0),(2,.ptr n2 0),(15,i64 vs.length),(16,i64 (f:Int)),(4,i64 (f:Int)),(23,.p (slV vs)),(24,i64 vs.length),(25,i64 (t:Int)),(5,i64 (t:Int)),(8,i64 (if f≠t then 0 else 1)),(47,i64 (Ds vs v f t)),(48,i64 (x.1:Int))],x.2.2⟩) (fun x=>(Ds vs v f t).toNat - x.1) (fun x=>x.1≤(Ds vs v f t).toNat∧go x.2.1∧I x.2.1 x.2.2∧(Hp x.2.2).closed∧(∀ n,¬ F n→x.2.2 n=os n)∧Fm step x.2.1 (Pc f t ((Ds vs v f t).toNat - x.1) x.1++(Mm vs v f (vs.length - (t+1)) (t+1)++Mj vs v (vs.length - (f+1)) (f+1)))=Fm step s (Fp vs v)) (0,s2,os2) ?_ ?_ (fun x hx24 K24 hK24=>?_)
        · exact ⟨Nat.zero_le _,hg2,hI2,hcl2,hfrm2,by have e:=hall2; rw [V0 (by omega),List.append_assoc] at e; exact e⟩
        · refine F9 ?_ ?_ ?_ ?_ <;> (try simp (disch:=omega) only [amL,sF,↓reduceIte,reduceCtorEq]); all_goals first | exact (by first | ((repeat' first | exact Sub.refl _ | refine Sub.skip (by first | exact hfr0 _ | (simp (disch:=omega) only [Ad]; exact hfr0 _)) ?_ | refine Sub.both ?_); done) | fail) | exact Sub.refl _ | exact hcl2 | exact ⟨hlv2,by rw [o1]; rfl,by rw [o2]; rfl⟩ | exact congrArg i64 (by unfold Ds B0; rw [if_pos (by omega)]) | exact congrArg i64 (by unfold Ds B0; rw [if_neg (by omega)]) | trace_state
        obtain ⟨n,s3,os3⟩:=x; dsimp only at hx24 ⊢; obtain ⟨hk3,hg3,hI3,hcl3,hfrm3,hall3⟩:=hx24; obtain ⟨o1,o2,ow⟩:=hst _ _ hI3; have hfr0:∀ k,os3 (bd+k)=none:=fun k=>hfreeI os3 hfrm3 _ (by omega); have hlv3:=hY.live _ _ hI3
        refine Aa fun K25 hK25=>?_
        refine Ac ?_
        simp (disch:=omega) only [amL,amT,sA,sF,↓reduceIte,reduceCtorEq]
        refine hK25 _ ?_
        refine Aa fun K26 hK26=>?_
        refine Aj rfl (fun h=>?_) (fun h=>?_)
        ·first
         | exact Bool.noConfusion h
         |skip
          try simp only [decide_eq_true_eq] at h
          refine Ak ?_
          refine hK26 _ ?_
          refine Aa fun K27 hK27=>?_
          refine Ap ?_
          refine Aa fun K28 hK28=>?_
          refine Ac ?_
          simp (disch:=omega) only [amL,sA,sF,↓reduceIte,reduceCtorEq]
          refine hK28 _ ?_
          refine Aa fun K29 hK29=>?_
          refine Ac ?_
          simp (disch:=omega) only [amL,amT,sA,sB,sE,sF,↓reduceIte,reduceCtorEq]
          have hx:Cm f t n ∈ Fp vs v:=Ab0 (by omega) (by omega) (by omega)
          have hcall:=hY.call s3 (Cm f t n) os3 bd hx hg3 hI3 hcl3
          first
            | (rw [Acj (by omega)] at hcall ; refine A1 [(0,yv),(1,.ptr n1 0),(2,.ptr n2 0),(15,i64 vs.length),(16,i64 (f:Int)),(4,i64 (f:Int)),(23,.p (slV vs)),(24,i64 vs.length),(25,i64 (t:Int)),(5,i64 (t:Int)),(8,i64 0),(47,i64 (Ds vs v f t)),(48,i64 (n:Int))] (by decide) hcall (hfreeI os3 hfrm3) (Nat.le_refl _) (fun res os4 hR hcl4 hlvr=>?_))
            | (rw [Xq (by omega)] at hcall ; refine A1 [(0,yv),(1,.ptr n1 0),(2,.ptr n2 0),(15,i64 vs.length),(16,i64 (f:Int)),(4,i64 (f:Int)),(23,.p (slV vs)),(24,i64 vs.length),(25,i64 (t:Int)),(5,i64 (t:Int)),(8,i64 1),(47,i64 (Ds vs v f t)),(48,i64 (n:Int))] (by decide) hcall (hfreeI os3 hfrm3) (Nat.le_refl _) (fun res os4 hR hcl4 hlvr=>?_))
          obtain ⟨rfl,hI4,hfr4⟩:=hR
          have hlv4:=hY.live _ _ hI4
          obtain ⟨p1,p2,pw⟩:=hst _ _ hI4
          simp (disch:=omega) only [amL,sA,sF,↓reduceIte,reduceCtorEq]
          refine ⟨⟨hlv4,by rw [p1]; rfl,by rw [p2]; rfl⟩,?_⟩
          refine hK29 _ ?_
          refine Aj rfl (fun h=>?_) (fun h=>?_)
          ·first
           | exact Bool.noConfusion h
           |skip
            try simp only [Bool.not_eq_true'] at h
            refine Ah ?_
            try simp (disch:=omega) only [amL]
            first | (refine A3 (res:=.tup []) os4 rfl (Sub.refl _) hcl4 (A5 _ rfl) ⟨rfl,?_,fun q hq=>(hfr4 q hq).trans (hfrm3 q hq)⟩ ; rw [← hall3,Hw (by omega),List.cons_append] ; simp only [Fm] ; rw [if_neg (by rw [h]; decide)] ; exact hI4) | (refine A3 (res:=.tup []) os1 rfl (Sub.refl _) hcl1 (A5 _ rfl) ⟨rfl,?_,hfrm1⟩ ; rw [← hall,Rx (by omega)] ; exact hI1) | trace_state
          ·first
           | exact Bool.noConfusion h
           |skip
            try simp only [Bool.not_eq_false'] at h
            refine Ak ?_
            refine hK27 _ ?_
            refine Ac ?_
            simp (disch:=omega) only [amL,amT,sA,sF,↓reduceIte,reduceCtorEq]
            refine hK24 (n+1,(step s3 (Cm f t n)).1,os4) _ ?_ ?_ (F9 ?_ ?_ ?_ ?_)
            all_goals (try simp (disch:=omega) only [amL,sF,↓reduceIte,reduceCtorEq])
            all_goals first | omega | exact Sub.refl _ | exact hcl4 | exact ⟨hlv4,by rw [p1]; rfl,by rw [p2]; rfl⟩ | exact ⟨by omega,hY.next _ _ hx hg3 h,hI4,hcl4,fun q hq=>(hfr4 q hq).trans (hfrm3 q hq),by have e:=hall3; rw [Hw (by omega),List.cons_append] at e; simp only [Fm] at e; rwa [if_pos h] at e⟩ | trace_state
        ·first
         | exact Bool.noConfusion h
         |skip
          try simp only [decide_eq_false_iff_not] at h
          refine Bo ?_
          refine hK11 _ ?_
          refine Ac ?_
          simp (disch:=omega) only [amL,amT,sA,sF,↓reduceIte,reduceCtorEq]
          refine hK8 (t+1,s3,os3) _ ?_ ?_ (F9 ?_ ?_ ?_ ?_)
          all_goals (try simp (disch:=omega) only [amL,sF,↓reduceIte,reduceCtorEq])
          all_goals first | omega | exact Sub.refl _ | exact hcl3 | exact ⟨hlv3,by rw [o1]; rfl,by rw [o2]; rfl⟩ | exact ⟨by omega,hg3,hI3,hcl3,hfrm3,by have e:=hall3; rw [Yc (by omega)] at e; exact e⟩ | trace_state
    ·first
     | exact Bool.noConfusion h
     |skip
      try simp only [decide_eq_false_iff_not] at h
      refine Bo ?_
      refine hK5 _ ?_
      refine Ac ?_
      simp (disch:=omega) only [amL,amT,sA,sF,↓reduceIte,reduceCtorEq]
      refine hK2 (f+1,s2,os2) _ ?_ ?_ (F9 ?_ ?_ ?_ ?_)
      all_goals (try simp (disch:=omega) only [amL,sF,↓reduceIte,reduceCtorEq])
      all_goals first | omega | exact Sub.refl _ | exact hcl2 | exact ⟨hlv2,by rw [o1]; rfl,by rw [o2]; rfl⟩ | exact ⟨by omega,hg2,hI2,hcl2,hfrm2,by have e:=hall2; rw [Aj7 (by omega)] at e; exact e⟩ | trace_state
  ·first
   | exact Bool.noConfusion h
   |skip
    try simp only [decide_eq_false_iff_not] at h
    refine Bo ?_
    try simp (disch:=omega) only [Ad,Di,Jp,Az,S5,N9,L6,H5,Fk,amL,amT,sA,sB,sC,sD,sE,sF,sG,sH,sI,sJ,sK,sL,sM,sN,sO,↓reduceIte,reduceCtorEq]
    first | (refine A3 (res:=.tup []) os4 rfl (Sub.refl _) hcl4 (A5 _ rfl) ⟨rfl,?_,fun q hq=>(hfr4 q hq).trans (hfrm3 q hq)⟩ ; rw [← hall3,Hw (by omega),List.cons_append] ; simp only [Fm] ; rw [if_neg (by rw [h]; decide)] ; exact hI4) | (refine A3 (res:=.tup []) os1 rfl (Sub.refl _) hcl1 (A5 _ rfl) ⟨rfl,?_,hfrm1⟩ ; rw [← hall,Rx (by omega)] ; exact hI1) | trace_state
theorem Ns {os:Nat→Option AO} {n k:Nat} {es:List (List PV)} (hcl:(Hp os).closed):(Hp (upd os n (some (.arr k es)))).closed:=Cq hcl (AO.lives_arr _ _ _)
theorem X4 {vs:List Ves} {k:Nat} (h:k < vs.length) (hb:1 < Fa (vs.getD k default).g∨1 < Fa (vs.getD k default).d):J6 vs=false:=by
  unfold J6
  rw [List.all_eq_false]
  refine ⟨vs.getD k default,Dy default h,?_⟩
  rcases hb with hb | hb <;> simp only [hb,decide_true,Bool.true_or,Bool.or_true,Bool.not_true] <;> decide
theorem Zg {vs:List Ves} (hva:vs.all Eu=true) (k:Nat):(0≤(vs.map (·.g.lo)).getD k 0∧(vs.map (·.g.lo)).getD k 0≤100000)∧(0≤(vs.map (·.d.lo)).getD k 0∧(vs.map (·.d.lo)).getD k 0≤100000):=by
  by_cases hk:k < vs.length
  · have hb:=C9 (List.all_eq_true.1 hva _ (Dy default hk))
    have h1:=C8 hb.1
    have h2:=C8 hb.2.1
    rw [Cp (·.g.lo) 0 default hk,Cp (·.d.lo) 0 default hk]
    constructor <;> constructor <;> first | exact h1.1 | exact h2.1 | (show _≤_; omega)
  · have e1:(vs.map (·.g.lo)).getD k 0=0:=by simp [List.getD,List.getElem?_eq_none (show vs.length≤k by omega)]
    have e2:(vs.map (·.d.lo)).getD k 0=0:=by simp [List.getD,List.getElem?_eq_none (show vs.length≤k by omega)]
    rw [e1,e2]; omega
def Afa (vs:List Ves):AV:=if J6 vs=true then .tup [avW (C2 vs).1,bl true,bl (C2 vs).2] else .tup [avW v0,bl false,bl false]
theorem Ag5 {α:Type} {l:List α} {f:α→Int}:isl (l.map f)=.p (.sl (l.map fun x=>J8 (f x))):=by
  show AV.p (.sl ((l.map f).map _))=_
  rw [List.map_map]; rfl
theorem Rq:∀ {vs:List Ves} {gs ds:List Int} {i:Nat} {v:List Liq},(Gh vs gs ds i v).1.length=v.length
  | [],_,_,_,_=>rfl
  | x :: vs,gs,ds,i,v=>by
    unfold Gh
    split
    · rfl
    · rw [Rq,List.length_set]
theorem Jz {P:Program} {s:St} {i j k n off:Nat} {ty:TypeId} {g:Bool} {cs:List AV} {x:AV} (h1:s.t i=.ptr n off) (h2:(Ab P ty).agg=some g) (h3:s.o n=some (.cells cs)) (h4:Ai g (Ab P ty).sz (cs.drop off)=some x):(Cv P s [.cell i ty,.tmp j,.tmp k]).map Df=some (.tup [x,s.t j,s.t k]):=by
  simp only [Cv,F3,h1,h2,h3,h4,Option.map_some]; rfl
theorem J4 {n:Nat} (v:List Liq):(cW v).map (AV.purge n)=cW v:=L3 ((Bd n _).2 fun _ _ hx=>Nm (P2 hx) n)
theorem Uo (v:List Liq) (b c:Bool):(AV.tup [avW v,bl b,bl c]).isP=true:=by
  have h:AV.isP.isPL (cW v)=true:=(H4 _).2 fun i x hx=>P2 hx
  simp only [AV.isP,AV.isP.isPL,h,Bool.and_self]
theorem Abd {vs:List Ves} (h:∀ j,j < vs.length→¬ 1 < Fa (vs.getD j default).g∧¬ 1 < Fa (vs.getD j default).d):J6 vs=true:=by
  unfold J6
  rw [List.all_eq_true]
  intro x hx
  obtain ⟨j,hj,rfl⟩:=List.getElem_of_mem hx
  have:=h j hj
  rw [← List.getElem_eq_getD (h:=hj)] at this
  simp [this.1,this.2]
theorem Ap7 {vs:List Ves} {ss:List Stp} {nw m:Nat} {os:Nat→Option AO} {bd:Nat} (hW:Wk vs ss nw m os) (hvs:vs.length≤4) (hva:vs.all Eu=true) :
    Bg Tryz.prog bd (.fn (.func 81) [] []) [.ptr nw 0] os fun res os'=>res=Afa vs∧os'=os:=by
  refine B2 (v:=[101]) (q:=[]) (N:=52) (rs:=[.cell 2 120,.tmp 3,.tmp 4]) Tryz.func81 rfl (by kernel_rfl) rfl rfl (fun hcl hfree=>?_)
  have hfr0:∀ k,os (bd+k)=none:=fun k=>hfree _ (by omega)
  have ow:=hW.ow
  have hpg:∀ k,pgO (bd+k) os=os:=fun k=>Abk hcl (hfr0 k)
  have hv0t:(cW v0).take 8=cW v0:=rfl
  have hlw:=Ao hfree ow
  refine Aa fun K1 hK1=>?_
  refine Ac ?_
  simp (disch:=(first | assumption | omega)) only [hfr0,amL,amT,sA,sB,↓reduceIte]
  refine hK1 _ ?_
  refine Aa fun K2 hK2=>?_
  refine Ac ?_
  simp (disch:=(first | assumption | omega)) only [amL,sA]
  refine hK2 _ ?_
  refine Aa fun K3 hK3=>?_
  refine Aa fun K4 hK4=>?_
  refine Ac ?_
  simp (disch:=(first | assumption | omega)) only [ow,Ad,amL,amT,sA,↓reduceIte,reduceCtorEq]
  refine hK4 _ ?_
  refine Ap ?_
  refine U3 (bd+35) 1 5 (by simp only []; omega) rfl (by simp (disch:=omega) only [Ad]; exact hfr0 _) ?_
  refine U3 (bd+41) 1 6 (by simp only []; omega) rfl (by simp (disch:=omega) only [Ad]; exact hfr0 _) ?_
  refine Be (α:=Nat) (fun k=>⟨T [(0,.ptr nw 0),(2,.ptr (bd+2) 0),(5,.own (bd+35) k),(6,.own (bd+41) k),(13,.p (slV vs)),(14,i64 vs.length),(15,i64 (k:Int))],upd (upd (upd os (bd+2) (some (.cells (cW v0)))) (bd+35) (some (.arr 1 ((vs.take k).map fun x=>J8 x.g.lo)))) (bd+41) (some (.arr 1 ((vs.take k).map fun x=>J8 x.d.lo)))⟩) (fun k=>vs.length - k) (fun k=>k≤vs.length∧∀ j,j < k→¬ 1 < Fa (vs.getD j default).g∧¬ 1 < Fa (vs.getD j default).d) 0 ?_ ?_ (fun k hx5 K5 hK5=>?_)
  · exact ⟨Nat.zero_le _,fun j hj=>absurd hj (Nat.not_lt_zero _)⟩
  · refine F9 ?_ ?_ ?_ ?_ <;> (try simp (disch:=(first | assumption | omega)) only [ow,Ad,List.map_nil,amL,sF,↓reduceIte,reduceCtorEq]); all_goals first | exact Sub.refl _ | exact Ns (Ns (D9 hcl)) | trace_state
  obtain ⟨hk,hone⟩:=hx5
  refine Aa fun K6 hK6=>?_
  refine Ac ?_
  simp (disch:=(first | assumption | omega)) only [amL,amT,sA,sF,↓reduceIte,reduceCtorEq]
  refine hK6 _ ?_
  refine Aa fun K7 hK7=>?_
  refine Aj rfl (fun h=>?_) (fun h=>?_)
  ·first
   | exact Bool.noConfusion h
   |skip
    try simp only [decide_eq_true_eq] at h
    refine Ak ?_
    refine hK7 _ ?_
    refine Aa fun K8 hK8=>?_
    refine Ap ?_
    refine Aa fun K9 hK9=>?_
    refine Ac ?_
    simp (disch:=(first | assumption | omega)) only [hfr0,Ad,Bw,Di,List.map_cons,List.map_nil,amL,amT,sA,sB,sF,↓reduceIte,reduceCtorEq]
    refine hK9 _ ?_
    refine Aa fun K10 hK10=>?_
    refine Aa fun K11 hK11=>?_
    refine Ac ?_
    have hb:=C9 (List.all_eq_true.1 hva _ (Dy default (show k < vs.length by omega)))
    have hr1:=C8 hb.1
    have hr2:=C8 hb.2.1
    simp (disch:=(first | assumption | omega)) only [List.map_cons,List.map_nil,amL,amT,sA,sB,sE,sG,↓reduceIte,reduceCtorEq]
    repeat' first | (refine E0 (fun h=>?_) (fun h=>?_) <;> simp (disch:=(first | assumption | omega)) only [h,List.map_cons,List.map_nil,amL,amT,sA,sB,sE,sF,sG,↓reduceIte,reduceCtorEq]) | (refine Cz (fun h=>?_) (fun h=>?_) <;> simp (disch:=(first | assumption | omega)) only [h,ow,hfr0,Ad,Bw,Di,B7,Az,hv0t,Bq,Hr,Ni,Kp,hpg,J4,Ex,Gg,List.map_cons,List.map_nil,Lk,amL,amT,sA,sB,sC,sD,sE,sF,sG,sH,sI,sJ,sK,sL,sM,sN,sO,↓reduceIte,reduceCtorEq]) | (refine Aw (by kernel_rfl) rfl (Aeq (vs.getD k default).g (by omega) (by omega)) (by first | exact .inl rfl | exact .inr (.inl rfl)) ?_ ; simp (disch:=(first | assumption | omega)) only [amL,amT,sA,↓reduceIte]) | (refine Aw (by kernel_rfl) rfl (Aeq (vs.getD k default).d (by omega) (by omega)) (by first | exact .inl rfl | exact .inr (.inl rfl)) ?_ ; simp (disch:=(first | assumption | omega)) only [amL,amT,sA,sF,↓reduceIte])
    all_goals
     skip
     refine hK11 _ ?_
     refine Aj rfl (fun h=>?_) (fun h=>?_)
     ·first
      | exact Bool.noConfusion h
      |skip
       try simp only [decide_eq_true_eq] at h
       refine Aa fun K12 hK12=>?_
       refine Ac ?_
       simp (disch:=(first | assumption | omega)) only [Ad,B7,Az,hv0t,amL,amT,sA,sB,sC,sF,↓reduceIte,reduceCtorEq]
       refine hK12 _ ?_
       refine Ah ?_
       try simp (disch:=(first | assumption | omega)) only [amL]
       all_goals first
         | (refine A3 (res:=.tup [avW v0,bl false,bl false]) os ?_ (by first | ((repeat' first | exact Sub.refl _ | refine Sub.skip (by first | exact hfr0 _ | (simp (disch:=omega) only [Ad]; exact hfr0 _)) ?_ | refine Sub.both ?_); done) | fail) hcl (A5 _ (Uo _ _ _)) ⟨?_,rfl⟩
            · refine (Jz (n:=bd+2) (off:=0) (g:=true) (cs:=cW v0) (x:=avW v0) (by simp (disch:=(first | assumption | omega)) only [amL,sF,↓reduceIte,reduceCtorEq]) (by simp only [amT]; rfl) (by simp (disch:=(first | assumption | omega)) only [amL]; try rfl) (by simp only [amT,List.drop_zero]; exact Wt rfl)).trans ?_
              simp (disch:=(first | assumption | omega)) only [amL,sF,↓reduceIte]
            · unfold Afa; rw [if_neg (by rw [X4 (k:=k) (by omega) (by first | exact .inl (by assumption) | exact .inr (by simpa using h))]; simp)])
         | (refine A3 (res:=.tup [avW (C2 vs).1,bl true,bl (C2 vs).2]) os ?_ (by first | ((repeat' first | exact Sub.refl _ | refine Sub.skip (by first | exact hfr0 _ | (simp (disch:=omega) only [Ad]; exact hfr0 _)) ?_ | refine Sub.both ?_); done) | fail) hcl (A5 _ (Uo _ _ _)) ⟨?_,rfl⟩
            · refine (Jz (n:=bd+2) (off:=0) (g:=true) (cs:=cW (C2 vs).1) (x:=avW (C2 vs).1) (by simp (disch:=(first | assumption | omega)) only [ow,hfr0,Ad,Bw,Di,B7,Az,hv0t,Bq,Hr,Ni,Kp,hpg,J4,Ex,Gg,List.map_cons,List.map_nil,Lk,amL,amT,sA,sB,sC,sD,sE,sF,sG,sH,sI,sJ,sK,sL,sM,sN,sO,↓reduceIte,reduceCtorEq]) (by simp only [amT]; rfl) (by simp (disch:=(first | assumption | omega)) only [ow,hfr0,Ad,Bw,Di,B7,Az,hv0t,Bq,Hr,Ni,Kp,hpg,J4,Ex,Gg,List.map_cons,List.map_nil,Lk,amL,amT,sA,sB,sC,sD,sE,sF,sG,sH,sI,sJ,sK,sL,sM,sN,sO,↓reduceIte,reduceCtorEq]; try rfl) (by simp only [amT,List.drop_zero]; exact Wt hl4)).trans ?_
              simp (disch:=(first | assumption | omega)) only [ow,hfr0,Ad,Bw,Di,B7,Az,hv0t,Bq,Hr,Ni,Kp,hpg,J4,Ex,Gg,List.map_cons,List.map_nil,Lk,amL,amT,sA,sB,sC,sD,sE,sF,sG,sH,sI,sJ,sK,sL,sM,sN,sO,↓reduceIte,reduceCtorEq]
              try rfl
            · unfold Afa; rw [if_pos (Abd hone)])
         | trace_state
     ·first
      | exact Bool.noConfusion h
      |skip
       try simp only [decide_eq_false_iff_not] at h
       refine Ak ?_
       refine hK10 _ ?_
       refine Aky [] [31,32,33,34,37,38,39,40] (by kernel_rfl) (by kernel_rfl) (by kernel_rfl) ⟨(by simp (disch:=omega) only [Ad]; exact hfr0 _),(by simp (disch:=omega) only [Ad]; exact hfr0 _),(by simp (disch:=omega) only [Ad]; exact hfr0 _),(by simp (disch:=omega) only [Ad]; exact hfr0 _),(by simp (disch:=omega) only [Ad]; exact hfr0 _),(by simp (disch:=omega) only [Ad]; exact hfr0 _),(by simp (disch:=omega) only [Ad]; exact hfr0 _),(by simp (disch:=omega) only [Ad]; exact hfr0 _),trivial⟩ ?_
       simp (disch:=(first | assumption | omega)) only [hfr0,Ad,Hr,Ni,Kp,hpg,J4,Ex,Gg,List.map_cons,List.map_nil,Lk,amL,amT,sA,sE,sF,↓reduceIte,reduceCtorEq]
       refine hK8 _ ?_
       refine Ac ?_
       simp (disch:=(first | assumption | omega)) only [amL,amT,sA,sF,↓reduceIte,reduceCtorEq]
       refine hK5 (k+1) _ ?_ ?_ (F9 ?_ ?_ ?_ ?_)
       all_goals (try simp (disch:=(first | assumption | omega)) only [ow,Ad,amL,sF,↓reduceIte,reduceCtorEq])
       all_goals first | omega | exact Ns (Ns (D9 hcl)) | exact ⟨by omega,fun j hj=>by
         by_cases e:j=k
         · subst e; exact ⟨by assumption,by simpa using h⟩
         · exact hone j (by omega)⟩ | (rw [Ab6 default (show k < vs.length by omega),Ab6 default (show k < vs.length by omega)] ; exact (by first | ((repeat' first | exact Sub.refl _ | refine Sub.skip (by first | exact hfr0 _ | (simp (disch:=omega) only [Ad]; exact hfr0 _)) ?_ | refine Sub.both ?_); done) | fail)) | trace_state
  ·first
   | exact Bool.noConfusion h
   |skip
    try simp only [decide_eq_false_iff_not] at h
    refine Bo ?_
    refine hK3 _ ?_
    refine Aa fun K13 hK13=>?_
    obtain rfl:k=vs.length:=by omega
    rw [List.take_length]
    have d1:(nw=bd+41)=False:=eq_false (by omega)
    have d2:(nw=bd+35)=False:=eq_false (by omega)
    have hcb:=Agg (bd:=bd+52) (os:=upd os (bd+2) (some (.cells (cW v0)))) (gs:=vs.map (·.g.lo)) (ds:=vs.map (·.d.lo)) ⟨(Ad (by omega)).trans hW.ow,(Ad (by have:=Ao hfree hW.om; omega)).trans hW.om⟩ hvs (List.length_map _) (List.length_map _) (fun k=>(Zg hva k).1) (fun k=>(Zg hva k).2)
    rw [Ag5,Ag5] at hcb
    have hl4:(Mu vs (vs.map (·.g.lo)) (vs.map (·.d.lo))).1.length=4:=Rq
    refine Abh (Ns (D9 hcl)) (by simp (disch:=omega) only [Ad]; exact hfr0 _) ?_
    simp only [Xf,AV.frz,d1,Nat.add_left_cancel_iff,Nat.reduceEqDiff,if_false,List.length_map,Nat.le_refl,if_true]
    refine Abh (D9 hcl) (by simp (disch:=omega) only [Ad]; exact hfr0 _) ?_
    simp only [Xf,AV.frz,d2,Nat.add_left_cancel_iff,Nat.reduceEqDiff,if_false,List.length_map,Nat.le_refl,if_true]
    rw [List.take_of_length_le (Nat.le_of_eq (List.length_map _)),List.take_of_length_le (Nat.le_of_eq (List.length_map _))]
    refine Ac ?_
    simp (disch:=(first | assumption | omega)) only [List.map_cons,List.map_nil,amL,sA,sF,↓reduceIte,reduceCtorEq]
    refine A1 [(2,.ptr (bd+2) 0)] (by decide) hcb (fun q hq=>by simp (disch:=omega) only [Ad]; exact hfree q (by omega)) (Nat.le_add_right _ _) (fun res os2 hR hcl2 hlv2=>?_)
    obtain ⟨rfl,rfl⟩:=hR
    simp (disch:=(first | assumption | omega)) only [Bw,B7,Az,amL,amT,sA,sB,sC,sF,↓reduceIte,reduceCtorEq]
    refine hK13 _ ?_
    refine Aa fun K14 hK14=>?_
    refine Ac ?_
    simp (disch:=(first | assumption | omega)) only [Bw,B7,Az,Bq,amL,amT,sA,sF,↓reduceIte]
    refine hK14 _ ?_
    refine Ah ?_
    try simp (disch:=(first | assumption | omega)) only [amL]
    all_goals first
      | (refine A3 (res:=.tup [avW v0,bl false,bl false]) os ?_ (by first | ((repeat' first | exact Sub.refl _ | refine Sub.skip (by first | exact hfr0 _ | (simp (disch:=omega) only [Ad]; exact hfr0 _)) ?_ | refine Sub.both ?_); done) | fail) hcl (A5 _ (Uo _ _ _)) ⟨?_,rfl⟩
         · refine (Jz (n:=bd+2) (off:=0) (g:=true) (cs:=cW v0) (x:=avW v0) (by simp (disch:=(first | assumption | omega)) only [amL,sF,↓reduceIte]) (by simp only [amT]; rfl) (by simp (disch:=(first | assumption | omega)) only [amL]; try rfl) (by simp only [amT,List.drop_zero]; exact Wt rfl)).trans ?_
           simp (disch:=(first | assumption | omega)) only [amL,sF,↓reduceIte]
         · unfold Afa; rw [if_neg (by rw [X4 (k:=k) (by omega) (by first | exact .inl (by assumption) | exact .inr (by simpa using h))]; simp)])
      | (refine A3 (res:=.tup [avW (C2 vs).1,bl true,bl (C2 vs).2]) os ?_ (by first | ((repeat' first | exact Sub.refl _ | refine Sub.skip (by first | exact hfr0 _ | (simp (disch:=omega) only [Ad]; exact hfr0 _)) ?_ | refine Sub.both ?_); done) | fail) hcl (A5 _ (Uo _ _ _)) ⟨?_,rfl⟩
         · refine (Jz (n:=bd+2) (off:=0) (g:=true) (cs:=cW (C2 vs).1) (x:=avW (C2 vs).1) (by simp (disch:=(first | assumption | omega)) only [amL,sF,↓reduceIte]) (by simp only [amT]; rfl) (by simp (disch:=(first | assumption | omega)) only [amL]; try rfl) (by simp only [amT,List.drop_zero]; exact Wt hl4)).trans ?_
           simp (disch:=(first | assumption | omega)) only [amL,sF,↓reduceIte]
           try rfl
         · unfold Afa; rw [if_pos (Abd hone)])
      | trace_state
structure Aqo (vs:List Ves) (ss:List Stp) (g k:Int) (nB mB nw ng nk ns:Nat) (os:Nat→Option AO):Prop where
  w:os nw=some (.cells [.ptr nB 0])
  b:os nB=some (.cells [.p (slV vs),.p (slS ss),.mp mB])
  g:os ng=some (.cells [i64 g])
  k:os nk=some (.cells [i64 k])
  s:os ns=some (.cells [.fn (.func 83) [] [.ptr nw 0,.ptr ng 0,.ptr nk 0,.ptr ns 0]])
def SrR (o:Option (List Stp)) (os:Nat→Option AO) (res:AV) (os':Nat→Option AO):Prop:=(∃ x:AV,res=.tup [x,bl o.isSome]∧x.isP=true∧∀ q,o=some q→x=.p (slS q))∧os'=os
def oS (os:Nat→Option AO) (bd:Nat) (v:List Liq) (p:List Stp) (many:Int) (nB:Nat) (x f:AV):Nat→Option AO:=
  upd (upd (upd (upd (upd (upd (upd os (bd+7) (some (.cells (cW v)))) (bd+8) (some (.cells [.p (slS p)]))) (bd+9) (some (.cells [i64 many]))) (bd+10) (some (.cells [x]))) (bd+11) (some (.cells [f]))) (bd+54+2) (some (.cells [.ptr nB 0]))) (bd+54+3) (some (.cells (cW v)))
theorem Ant {os:Nat→Option AO} {bd:Nat} {v:List Liq} {p:List Stp} {many:Int} {nB q:Nat} {x f:AV} (h:q≠bd+7∧q≠bd+8∧q≠bd+9∧q≠bd+10∧q≠bd+11∧q≠bd+54+2∧q≠bd+54+3):oS os bd v p many nB x f q=os q:=by
  unfold oS; simp (disch:=omega) only [Ad]
theorem Gc {os:Nat→Option AO} {bd:Nat} {v:List Liq} {p:List Stp} {many:Int} {nB q:Nat} {x f:AV} (h:q < bd):oS os bd v p many nB x f q=os q:=Ant (by omega)
theorem Ay2 {os:Nat→Option AO} {bd:Nat} {v:List Liq} {p:List Stp} {many:Int} {nB:Nat} {x f:AV}:oS os bd v p many nB x f (bd+7)=some (.cells (cW v)):=by unfold oS; simp (disch:=omega) only [Ad,Bb]
theorem Axs {os:Nat→Option AO} {bd:Nat} {v:List Liq} {p:List Stp} {many:Int} {nB:Nat} {x f:AV}:oS os bd v p many nB x f (bd+8)=some (.cells [.p (slS p)]):=by unfold oS; simp (disch:=omega) only [Ad,Bb]
theorem Ayu {os:Nat→Option AO} {bd:Nat} {v:List Liq} {p:List Stp} {many:Int} {nB:Nat} {x f:AV}:oS os bd v p many nB x f (bd+9)=some (.cells [i64 many]):=by unfold oS; simp (disch:=omega) only [Ad,Bb]
theorem Lb {os:Nat→Option AO} {bd:Nat} {v:List Liq} {p:List Stp} {many:Int} {nB:Nat} {x f:AV}:oS os bd v p many nB x f (bd+10)=some (.cells [x]):=by unfold oS; simp (disch:=omega) only [Ad,Bb]
theorem Ko {os:Nat→Option AO} {bd:Nat} {v:List Liq} {p:List Stp} {many:Int} {nB:Nat} {x f:AV}:oS os bd v p many nB x f (bd+11)=some (.cells [f]):=by unfold oS; simp (disch:=omega) only [Ad,Bb]
theorem Ato {os:Nat→Option AO} {bd:Nat} {v:List Liq} {p:List Stp} {many:Int} {nB:Nat} {x f:AV}:oS os bd v p many nB x f (bd+54+2)=some (.cells [.ptr nB 0]):=by unfold oS; simp (disch:=omega) only [Ad,Bb]
theorem Aup {os:Nat→Option AO} {bd:Nat} {v:List Liq} {p:List Stp} {many:Int} {nB:Nat} {x f:AV}:oS os bd v p many nB x f (bd+54+3)=some (.cells (cW v)):=by unfold oS; simp (disch:=omega) only [Bb]
theorem Amf {os:Nat→Option AO} {bd:Nat} {v:List Liq} {p:List Stp} {many:Int} {nB q:Nat} {x f x' f':AV} (h1:q≠bd+10) (h2:q≠bd+11):oS os bd v p many nB x f q=oS os bd v p many nB x' f' q:=by
  unfold oS upd
  split
  · rfl
  · split
    · rfl
    · rfl
theorem Ahs {os:Nat→Option AO} {bd:Nat} {v:List Liq} {p:List Stp} {many:Int} {nB q:Nat} {x f x' f':AV}:(oS os bd v p many nB x f q).isSome=(oS os bd v p many nB x' f' q).isSome:=by
  by_cases h1:q=bd+10
  · subst h1; rw [Lb,Lb]; rfl
  · by_cases h2:q=bd+11
    · subst h2; rw [Ko,Ko]; rfl
    · rw [Amf h1 h2]
theorem Ak2 {os:Nat→Option AO} {bd:Nat} {v:List Liq} {p:List Stp} {many:Int} {nB:Nat} {x f:AV} (hcl:(Hp os).closed) (hB:(os nB).isSome=true) (hb:nB < bd) (hx:x.isP=true) (hf:f.isP=true):(Hp (oS os bd v p many nB x f)).closed:=by
  refine D9 (Cq (F6 (F6 (F6 (F6 (D9 hcl) ?_) ?_) ?_) ?_) ?_)
  · intro y hy; simp only [List.mem_singleton] at hy; subst hy; rfl
  · intro y hy; simp only [List.mem_singleton] at hy; subst hy; rfl
  · intro y hy; simp only [List.mem_singleton] at hy; subst hy; exact hx
  · intro y hy; simp only [List.mem_singleton] at hy; subst hy; exact hf
  · rw [Dv]; simp (disch:=omega) only [Ct,Cl,C5,Ad,hB,and_self]
def Aat:Option (List Stp)→AV
  | none=>C3
  | some q=>.p (slS q)
def Pn (vs:List Ves) (g k:Int) (m:Nat) (v:List Liq) (p:List Stp) (s:Option (List Stp)) (x:Stp):Option (List Stp) × Option Code:=match Co vs g k m (G3 v x x.g.lo).1 (p++[x]) with
  | some q=>(some q,some .ret)
  | none=>(s,none)
theorem Acu {vs:List Ves} {g k:Int} {m:Nat} {v:List Liq} {p:List Stp}:∀ (l:List Stp),(Fm (fun (s:Option (List Stp) × Option Code) x=>(Pn vs g k m v p s.1 x,(Pn vs g k m v p s.1 x).2.isNone)) (none,none) l).1=match l.findSome? fun x=>Co vs g k m (G3 v x x.g.lo).1 (p++[x]) with
    | some q=>(some q,some .ret)
    | none=>(none,none)
  | []=>rfl
  | x :: l=>by
    simp only [Fm,List.findSome?_cons]
    cases h:Co vs g k m (G3 v x x.g.lo).1 (p++[x]) with
    | none=>
      have e:Pn vs g k m v p none x=(none,none):=by unfold Pn; rw [h]
      rw [e]; simp only [Option.isNone_none,if_true]; exact Acu l
    | some q=>
      have e:Pn vs g k m v p none x=(some q,some .ret):=by unfold Pn; rw [h]
      rw [e]; simp
theorem H8 {P:Program} {s:St} {i j n m:Nat} {ty ty2:TypeId} {x y:AV} (h1:s.t i=.ptr n 0) (h2:(Ab P ty).agg=some false) (h3:s.o n=some (.cells [x])) (h4:s.t j=.ptr m 0) (h5:(Ab P ty2).agg=some false) (h6:s.o m=some (.cells [y])):(Cv P s [.cell i ty,.cell j ty2]).map Df=some (.tup [x,y]):=by
  simp only [Cv,F3,h1,h2,h3,h4,h5,h6,List.drop_zero,Ai,List.head?_cons]; rfl
theorem Amc (p:List Stp):((p.map Qa).all fun c=>decide (c.length=5))=true:=by
  rw [List.all_eq_true]; intro c hc; obtain ⟨z,-,rfl⟩:=List.mem_map.1 hc; rfl
theorem Aff (p:List Stp):((p.map Qa).all fun e=>e.all PV.isVal)=true:=by
  rw [List.all_eq_true]; intro c hc; obtain ⟨z,-,rfl⟩:=List.mem_map.1 hc; rfl
theorem Ap2 {n:Nat} {es:List (List PV)} {x:AV} (h:x.isP=true):x.frz n es=x:=frz_id _ (Nm h n)
theorem Arq (v:List Liq):(avW v).isP=true:=(H4 _).2 fun _ _ hx=>P2 hx
theorem Amh {n:Nat} {v:List Liq}:AV.clean.cleanL n (cW v)=true:=(Bd n _).2 fun _ _ hx=>Nm (P2 hx) n
theorem Aw0 {bd:Nat} {fv a c:AV} {p:List Stp} {x:Stp} {os:Nat→Option AO} {R:AV→(Nat→Option AO)→Prop} (h:Bg Tryz.prog bd fv [a,.p (slS (p++[x])),c] os R):Bg Tryz.prog bd fv [a,.p (.sl (p.map Qa++[Qa x])),c] os R:=by
  rw [show slS (p++[x])=PV.sl (p.map Qa++[Qa x]) from by simp [List.map_append]] at h; exact h
theorem Ali {n nw ng nk ns:Nat} {es:List (List PV)} (h1:nw≠n) (h2:ng≠n) (h3:nk≠n) (h4:ns≠n):(AV.fn (.func 83) [] [.ptr nw 0,.ptr ng 0,.ptr nk 0,.ptr ns 0]).frz n es=.fn (.func 83) [] [.ptr nw 0,.ptr ng 0,.ptr nk 0,.ptr ns 0]:=by
  simp only [AV.frz,AV.frz.frzL,h1,h2,h3,h4,if_false]
theorem Anj {n len:Nat} {es:List (List PV)} {w:List Liq} {m:Int} (h:len=es.length):[avW w,.own n len,i64 m].map (AV.frz n es)=[avW w,.p (.sl es),i64 m]:=by
  subst h
  show [(avW w).frz n es,(AV.own n es.length).frz n es,i64 m]=_
  rw [Ap2 (Arq w)]
  simp only [AV.frz,if_true,Nat.le_refl,List.take_length]
theorem Az3 {v:List Liq} {s:Stp} {n:Int} {nv:Nat} {os:Nat→Option AO} {bd:Nat} (hk:0≤s.kind∧s.kind≤2) (hw:G5 v) (hs:0≤s.frm∧s.frm.toNat < v.length∧s.frm < 4) (ht:0≤s.to∧s.to.toNat < v.length∧s.to < 4) (hn:0≤n∧n≤1000000) (ov:os nv=some (.cells (cW v))) :
    Bg Tryz.prog bd (Aja s.kind) [.ptr nv 0,avS s,i64 n] os fun res os'=>res=bl (G3 v s n).2∧os'=upd os nv (some (.cells (cW (G3 v s n).1))):=by
  have h:=Bc3 (tl:=[]) (bd:=bd) hk hw hs ht hn (by rw [List.append_nil]; exact ov)
  simpa only [List.append_nil] using h
abbrev tmS (bd nw ng nk ns:Nat):List (Nat × AV):=[(3,.ptr nw 0),(4,.ptr ng 0),(5,.ptr nk 0),(6,.ptr ns 0),(7,.ptr (bd+7) 0),(8,.ptr (bd+8) 0),(9,.ptr (bd+9) 0),(10,.ptr (bd+10) 0),(11,.ptr (bd+11) 0)]
theorem Adj {bd nw ng nk ns m:Nat} {k:F8} (h:(AO.loop k (tmS bd nw ng nk ns)).clean m=false):m=nw∨m=ng∨m=nk∨m=ns∨m=bd+7∨m=bd+8∨m=bd+9∨m=bd+10∨m=bd+11:=by
  simp [AO.clean,AV.clean,AV.clean.cleanL] at h
  omega
theorem Anx {vs:List Ves} {ss:List Stp} {g k:Int} {nB mB nw ng nk ns m:Nat} {v:List Liq} {p:List Stp} {os:Nat→Option AO} {bd bdL:Nat} (hvs:vs.length≤4) (hva:vs.all Eu=true) (hv:OkV v) (hp:p.length≤1000) (hso:Aqo vs ss g k nB mB nw ng nk ns os) (hcl:(Hp os).closed) (hfree:∀ n,bd≤n→os n=none) (hbL:bdL=bd+60)
    (hih:∀ (v':List Liq) (p':List Stp) (os':Nat→Option AO) (bd':Nat),OkV v'→p'.length≤p.length+1→Aqo vs ss g k nB mB nw ng nk ns os'→Bg Tryz.prog bd' (.fn (.func 83) [] [.ptr nw 0,.ptr ng 0,.ptr nk 0,.ptr ns 0]) [avW v',.p (slS p'),i64 (m:Int)] os' (SrR (Co vs g k m v' p') os'))
    (hm:m≤10) {A B:Code} (hcode:(Tryz.f83.body.bind Nt)=some (A,B)) :
    Zp Tryz.prog bdL ⟨54,[27],A,B,.ready,none⟩ (tmS bd nw ng nk ns) [] [] (fun n=>(oS os bd v p ((m:Int)+1) nB C3 (bl false) n).isSome=true) avS (Fp vs v) (fun s os'=>∀ n,(oS os bd v p ((m:Int)+1) nB C3 (bl false) n).isSome=true→os' n=oS os bd v p ((m:Int)+1) nB (Aat s) (bl s.isSome) n) (Pn vs g k m v p) where
  ready:=rfl
  lenp:=rfl
  psn q hq:=by
    simp only [List.mem_cons,List.not_mem_nil,or_false] at hq
    subst hq; exact (by decide:27 < 54)
  notF h:=by
    rw [Ant (by omega),hfree _ (by omega)] at h; cases h
  tmF q hq:=by
    have b1:=Ao hfree hso.w
    have b2:=Ao hfree hso.g
    have b3:=Ao hfree hso.k
    have b4:=Ao hfree hso.s
    rcases Adj hq with rfl | rfl | rfl | rfl | rfl | rfl | rfl | rfl | rfl
    · rw [Gc b1,hso.w]; rfl
    · rw [Gc b2,hso.g]; rfl
    · rw [Gc b3,hso.k]; rfl
    · rw [Gc b4,hso.s]; rfl
    · rw [Ay2]; rfl
    · rw [Axs]; rfl
    · rw [Ayu]; rfl
    · rw [Lb]; rfl
    · rw [Ko]; rfl
  stable s o1 o2 hI he n hn:=(he n hn).trans (hI n hn)
  foot s o1 n hI hn:=by
    have hn2:(oS os bd v p ((m:Int)+1) nB (Aat s) (bl s.isSome) n).isSome=true:=by rw [Ahs (x':=C3) (f':=bl false)]; exact hn
    obtain ⟨o,ho⟩:=Option.isSome_iff_exists.1 hn2
    refine ⟨o,(hI n hn).trans ho,fun q hq=>?_⟩
    have hc:=Ak2 (v:=v) (p:=p) (many:=(m:Int)+1) hcl (by rw [hso.b]; rfl) (Ao hfree hso.b) (x:=Aat s) (f:=bl s.isSome) (by cases s <;> rfl) rfl
    have:(oS os bd v p ((m:Int)+1) nB (Aat s) (bl s.isSome) q).isSome=true:=hc.2 n o ho q hq
    rwa [Ahs (x':=C3) (f':=bl false)] at this
  body s x o1 bd1 hx hI hl hcl1 hfree1 hb1 rl:=by
    have b1:=Ao hfree hso.w
    have b2:=Ao hfree hso.g
    have b3:=Ao hfree hso.k
    have b4:=Ao hfree hso.s
    have b5:=Ao hfree hso.b
    have a1:o1 nw=_:=(hI nw (by rw [Gc b1,hso.w]; rfl)).trans ((Gc b1).trans hso.w)
    have a2:o1 ng=_:=(hI ng (by rw [Gc b2,hso.g]; rfl)).trans ((Gc b2).trans hso.g)
    have a3:o1 nk=_:=(hI nk (by rw [Gc b3,hso.k]; rfl)).trans ((Gc b3).trans hso.k)
    have a4:o1 ns=_:=(hI ns (by rw [Gc b4,hso.s]; rfl)).trans ((Gc b4).trans hso.s)
    have a5:o1 nB=_:=(hI nB (by rw [Gc b5,hso.b]; rfl)).trans ((Gc b5).trans hso.b)
    have a7:o1 (bd+7)=_:=(hI (bd+7) (by rw [Ay2]; rfl)).trans Ay2
    have a8:o1 (bd+8)=_:=(hI (bd+8) (by rw [Axs]; rfl)).trans Axs
    have a9:o1 (bd+9)=_:=(hI (bd+9) (by rw [Ayu]; rfl)).trans Ayu
    have a10:o1 (bd+10)=_:=(hI (bd+10) (by rw [Lb]; rfl)).trans Lb
    have a11:o1 (bd+11)=_:=(hI (bd+11) (by rw [Ko]; rfl)).trans Ko
    have hfr0:∀ k,o1 (bd1+k)=none:=fun k=>hfree1 _ (by omega)
    have hpg:∀ k,pgO (bd1+k) o1=o1:=fun k=>Abk hcl1 (hfr0 k)
    obtain ⟨x1,x2,x3,x4,x5,x6⟩:=Al4 hv hvs hva hx
    obtain ⟨y1,y2,y3,y4,y5⟩:=Fy x1
    have hsm:=hv.small
    have hl4:=hv.len
    have hix:Afo (fun e=>(Ab Tryz.prog e).sz) (fun e=>(Ab Tryz.prog e).agg) (.agg Ahx) (.arr 3 157) (i64 x.kind)=some (.pure (.agg [Aja x.kind])):=X8 (by simp only [amT]) (by simp only [amT]; rfl) y1.1 y1.2
    have la4:(G3 v x x.g.lo).1.length=4:=by rw [Aay,hl4]
    have hv0t:(cW v0).take 8=cW v0:=rfl
    have hm1:IntKind.i64.wrap ((m:Int)+1 - 1)=m:=by rw [Fc (by omega) (by omega)]; omega
    have hpf:∀ j,AV.purge (bd1+j) (.fn (.func 83) [] [.ptr nw 0,.ptr ng 0,.ptr nk 0,.ptr ns 0])=.fn (.func 83) [] [.ptr nw 0,.ptr ng 0,.ptr nk 0,.ptr ns 0]:=fun j=>by
      unfold AV.purge
      refine if_pos ?_
      simp [AV.clean,AV.clean.cleanL]; omega
    have hpl:∀ j (kk:F8),AO.purge (bd1+j) (.loop kk (tmS bd nw ng nk ns))=.loop kk (tmS bd nw ng nk ns):=fun j kk=>by
      show AO.loop kk (List.map _ _)=_
      congr 1
      simp (disch:=omega) only [tmS,List.map_cons,List.map_nil,Xm,if_neg]
    have hlq:∀ {q:Nat} {kk:F8},(AO.loop kk (tmS bd nw ng nk ns)).clean q=false→(o1 q).isSome=true∧q < bd1∧q≠bdL:=fun {q kk} hq=>by
      rcases Adj hq with e | e | e | e | e | e | e | e | e <;> (refine ⟨?_,by omega,by omega⟩ ; rw [e] ; first | (rw [a1]; rfl) | (rw [a2]; rfl) | (rw [a3]; rfl) | (rw [a4]; rfl) | (rw [a7]; rfl) | (rw [a8]; rfl) | (rw [a9]; rfl) | (rw [a10]; rfl) | (rw [a11]; rfl))
    have hclB:∀ {os:Nat→Option AO} {n k:Nat} {es:List (List PV)},(Hp os).closed→(Hp (upd os n (some (.arr k es)))).closed:=fun h=>Ns h
    have hsoB:∀ {os:Nat→Option AO},(∀ q,q < bd→os q=o1 q)→Aqo vs ss g k nB mB nw ng nk ns os:=fun h=>⟨(h _ b1).trans a1,(h _ b5).trans a5,(h _ b2).trans a2,(h _ b3).trans a3,(h _ b4).trans a4⟩
    cases (show some (_,_)=some (A,B) from hcode)
    show AWP _ _ 54 _ ⟨T [(27,avS x),(3,.ptr nw 0),(4,.ptr ng 0),(5,.ptr nk 0),(6,.ptr ns 0),(7,.ptr (bd+7) 0),(8,.ptr (bd+8) 0),(9,.ptr (bd+9) 0),(10,.ptr (bd+10) 0),(11,.ptr (bd+11) 0)],o1⟩ _
    refine Ac ?_
    simp (disch:=omega) only [hl,hfr0,Ad,Bw,amL,amT,sA,sB,sF,↓reduceIte]
    try simp (disch:=omega) only [hl,hfr0,Ad,Bw,amL,amT,sA,sB,sC,sD,sE,sF,sG,sH,sI,sJ,sK,sL,sM,sN,sO,↓reduceIte,reduceCtorEq]
    skip
    refine Ap ?_
    refine Aa fun K1 hK1=>?_
    refine Ac ?_
    simp (disch:=(first | assumption | omega)) only [a7,hfr0,Ad,Bw,Bq,Az,Aeb,amL,amT,sA,sB,sF,↓reduceIte]
    refine hK1 _ ?_
    refine Aa fun K2 hK2=>?_
    refine Ce (by kernel_rfl) (by kernel_rfl) ?_
    simp (disch:=(first | assumption | omega)) only [List.map_nil,amL]
    repeat' first | (refine Aw (by kernel_rfl) rfl (Aoy) (by first | exact .inl rfl | exact .inr (.inl rfl)) ?_ ; simp (disch:=(first | assumption | omega)) only [Ad,Vw,hix,List.map_cons,List.map_nil,amL,amT,sA,sB,sF,↓reduceIte,reduceCtorEq]) | (refine A1 [(12,.ptr (bd1+12) 0),(13,.ptr (bd1+13) 0),(3,.ptr nw 0),(4,.ptr ng 0),(5,.ptr nk 0),(6,.ptr ns 0),(7,.ptr (bd+7) 0),(8,.ptr (bd+8) 0),(9,.ptr (bd+9) 0),(10,.ptr (bd+10) 0),(11,.ptr (bd+11) 0)] (by decide) (Az3 (v:=v) (s:=x) (n:=x.g.lo) (nv:=bd1+13) (bd:=bd1+54) y1 hsm ⟨by omega,by omega,by omega⟩ ⟨by omega,by omega,by omega⟩ ⟨by omega,by omega⟩ (by first | (simp (disch:=(first | assumption | omega)) only [amL]; done) | fail)) (fun q hq=>by simp (disch:=omega) only [Ad]; exact hfree1 q (by omega)) (Nat.le_add_right _ _) (fun res os2 hR hcl2 hlv2=>?_) ; obtain ⟨rfl,rfl⟩:=hR ; simp (disch:=(first | assumption | omega)) only [a1,a2,a3,a4,a7,a8,a9,a10,a11,Ad,Bw,amL,sF,↓reduceIte])
    refine hK2 _ ?_
    refine Aa fun K3 hK3=>?_
    refine V4 9 [.app [6],.app [13,41]] (by kernel_rfl) (by kernel_rfl) ?_
    simp only [List.take_succ_cons,List.take_zero,List.drop_succ_cons,List.drop_zero]
    simp (disch:=(first | assumption | omega)) only [a4,a8,Ad,Bq,Az,List.map_cons,List.map_nil,amL,amT,sA,sF,↓reduceIte]
    refine V9 (by kernel_rfl) (by decide) (Aco (p.map Qa) (Amc p) (Aff p) (by rw [List.length_map]; omega)) (by simp (disch:=(first | assumption | omega)) only [hfr0,Ad]) ?_
    simp (disch:=(first | assumption | omega)) only [a9,hm1,hfr0,Ad,hpf,hpl,Amh,Hr,Ni,Kp,hpg,J4,Ex,Gg,List.map_cons,List.map_nil,Lk,amL,amT,sA,sB,sC,sE,sF,↓reduceIte,reduceCtorEq]
    refine ⟨rfl,?_⟩
    refine Af0 (bd:=bd1+54) (bd1+46) Bb _ [(3,.ptr nw 0),(4,.ptr ng 0),(5,.ptr nk 0),(6,.ptr ns 0),(7,.ptr (bd+7) 0),(8,.ptr (bd+8) 0),(9,.ptr (bd+9) 0),(10,.ptr (bd+10) 0),(11,.ptr (bd+11) 0)] ((Abt (hclB (D9 (Cq (F6 hcl1 (by simp [AV.isP])) (fun q hq=>?_)))) (by simp (disch:=omega) only [Ad]; exact hfr0 _)).trans rfl) (by decide) (by
      rw [Ali (by omega) (by omega) (by omega) (by omega),Anj (by simp)]
      exact Aw0 (hih (G3 v x x.g.lo).1 (p++[x]) _ (bd1+54) x5 (by simp) (hsoB fun q hq=>by simp (disch:=omega) only [Ad]))) (fun q hq=>by simp (disch:=omega) only [Ad]; exact hfree1 q (by omega)) (Nat.le_add_right _ _) (fun res os2 hR hcl2 hlv2=>?_)
    · obtain ⟨hq1,hq2,hq3⟩:=hlq hq
      simp (disch:=omega) only [Ad]; exact hq1
    obtain ⟨⟨y,rfl,hyp,hyq⟩,rfl⟩:=hR
    simp (disch:=omega) only [Xf,AV.frz,if_neg]
    simp (disch:=(first | assumption | omega)) only [a1,a2,a3,a4,a7,a8,a9,a10,a11,Ad,amL,sA,sF,↓reduceIte]
    trace_state
    refine hK3 _ ?_
    refine Aa fun K4 hK4=>?_
    refine Ac ?_
    simp (disch:=(first | assumption | omega)) only [amL,sA,↓reduceIte]
    refine hK4 _ ?_
    refine Aj rfl (fun h=>?_) (fun h=>?_)
    ·first
     | exact Bool.noConfusion h
     |skip
      try simp only [Bool.not_eq_true',decide_eq_true_eq,decide_eq_false_iff_not,Bool.and_eq_true,Bool.not_eq_false',Bool.not_not,decide_not,Bool.not_true,Bool.not_false] at h
      refine Aa fun K5 hK5=>?_
      refine Ac ?_
      obtain ⟨q,hq⟩:=Option.isSome_iff_exists.1 h
      have hy:=hyq q hq
      subst hy
      simp (disch:=(first | assumption | omega)) only [a10,a11,Ad,amL,amT,sF,↓reduceIte]
      refine hK5 _ ?_
      refine Ah ?_
      try simp (disch:=(first | assumption | omega)) only [Aem,amL]
      first
        | (have hb:Pn vs g k m v p s x=(some q,some .ret):=by unfold Pn; rw [hq]
           refine Rg (upd (upd (upd o1 (bd+10) (some (.cells [.p (slS q)]))) (bd+11) (some (.cells [bl true]))) bdL (some (.loop (Alv _ (some .ret)) (tmS bd nw ng nk ns)))) (by simp (disch:=omega) only [Ad,Bb]) (fun z=>?_) ?_ ⟨by rw [hb] ; first | done | rfl,⟨fun n hn=>?_,by rw [Bb,hb]⟩,fun n hn=>?_⟩
           · by_cases e1:z=bdL
             · subst e1; right; rw [Bb,Bb] ; first | done | rfl
             · by_cases e2:z=bd+11
               · subst e2; right; simp (disch:=omega) only [Ad,Bb]
               · by_cases e3:z=bd+10
                 · subst e3; right; simp (disch:=omega) only [Ad,Bb]
                 · by_cases e4:bd1≤z
                   · left; simp (disch:=omega) only [Ad]; exact hfree1 z e4
                   · right; simp (disch:=omega) only [Ad]
           · refine Cq (F6 (F6 hcl1 (by simp [AV.isP])) (by simp [AV.isP])) (fun z hz=>?_)
             obtain ⟨z1,z2,z3⟩:=hlq hz
             by_cases e2:z=bd+11
             · subst e2; simp (disch:=omega) only [Ad,Bb,Option.isSome_some]
             · by_cases e3:z=bd+10
               · subst e3; simp (disch:=omega) only [Ad,Bb,Option.isSome_some]
               · simp (disch:=omega) only [Ad]; exact z1
           · rw [hb]
             have hnL:n≠bdL:=fun e=>by subst e; rw [Ant (by omega),hfree _ (by omega)] at hn; cases hn
             by_cases e2:n=bd+11
             · subst e2; rw [Ko]; simp (disch:=omega) only [Ad,Bb,Option.isSome_some]
             · by_cases e3:n=bd+10
               · subst e3; rw [Lb]; simp (disch:=omega) only [Ad,Bb,Aat]
               · simp (disch:=omega) only [Ad]
                 exact (hI n hn).trans (Amf e3 e2)
           · have h1:n≠bdL:=fun e=>hn (.inr e)
             have h2:n≠bd+11:=fun e=>hn (.inl (by rw [e,Ko]; rfl))
             have h3:n≠bd+10:=fun e=>hn (.inl (by rw [e,Lb]; rfl))
             simp (disch:=omega) only [Ad])
        | (have hb:Pn vs g k m v p s x=(s,none):=by
             unfold Pn; cases hr:Co vs g k m (G3 v x x.g.lo).1 (p++[x]) with
             | none=>rfl
             | some q=>rw [hr] at h; cases h
           refine Rg o1 (by simp (disch:=omega) only [Ad,Bb]) (fun z=>?_) hcl1 ⟨by rw [hb] ; first | done | rfl,⟨fun n hn=>by rw [hb]; exact hI n hn,by rw [hb]; exact hl⟩,fun _ _=>rfl⟩
           by_cases e1:z=bdL
           · subst e1; right; rw [Bb]; exact hl
           · by_cases e4:bd1≤z
             · left; exact hfree1 z e4
             · right; simp (disch:=omega) only [Ad])
        | trace_state
    ·first
     | exact Bool.noConfusion h
     |skip
      try simp only [Bool.not_eq_true',decide_eq_true_eq,decide_eq_false_iff_not,Bool.and_eq_true,Bool.not_eq_false',Bool.not_not,decide_not,Bool.not_true,Bool.not_false] at h
      refine Ak ?_
      try simp (disch:=(first | assumption | omega)) only [Wr,amL]
      first
        | (have hb:Pn vs g k m v p s x=(some q,some .ret):=by unfold Pn; rw [hq]
           refine Rg (upd (upd (upd o1 (bd+10) (some (.cells [.p (slS q)]))) (bd+11) (some (.cells [bl true]))) bdL (some (.loop (Alv _ (some .ret)) (tmS bd nw ng nk ns)))) (by simp (disch:=omega) only [Ad,Bb]) (fun z=>?_) ?_ ⟨by rw [hb] ; first | done | rfl,⟨fun n hn=>?_,by rw [Bb,hb]⟩,fun n hn=>?_⟩
           · by_cases e1:z=bdL
             · subst e1; right; rw [Bb,Bb] ; first | done | rfl
             · by_cases e2:z=bd+11
               · subst e2; right; simp (disch:=omega) only [Ad,Bb]
               · by_cases e3:z=bd+10
                 · subst e3; right; simp (disch:=omega) only [Ad,Bb]
                 · by_cases e4:bd1≤z
                   · left; simp (disch:=omega) only [Ad]; exact hfree1 z e4
                   · right; simp (disch:=omega) only [Ad]
           · refine Cq (F6 (F6 hcl1 (by simp [AV.isP])) (by simp [AV.isP])) (fun z hz=>?_)
             obtain ⟨z1,z2,z3⟩:=hlq hz
             by_cases e2:z=bd+11
             · subst e2; simp (disch:=omega) only [Ad,Bb,Option.isSome_some]
             · by_cases e3:z=bd+10
               · subst e3; simp (disch:=omega) only [Ad,Bb,Option.isSome_some]
               · simp (disch:=omega) only [Ad]; exact z1
           · rw [hb]
             have hnL:n≠bdL:=fun e=>by subst e; rw [Ant (by omega),hfree _ (by omega)] at hn; cases hn
             by_cases e2:n=bd+11
             · subst e2; rw [Ko]; simp (disch:=omega) only [Ad,Bb,Option.isSome_some]
             · by_cases e3:n=bd+10
               · subst e3; rw [Lb]; simp (disch:=omega) only [Ad,Bb,Aat]
               · simp (disch:=omega) only [Ad]
                 exact (hI n hn).trans (Amf e3 e2)
           · have h1:n≠bdL:=fun e=>hn (.inr e)
             have h2:n≠bd+11:=fun e=>hn (.inl (by rw [e,Ko]; rfl))
             have h3:n≠bd+10:=fun e=>hn (.inl (by rw [e,Lb]; rfl))
             simp (disch:=omega) only [Ad])
        | (have hb:Pn vs g k m v p s x=(s,none):=by
             unfold Pn; cases hr:Co vs g k m (G3 v x x.g.lo).1 (p++[x]) with
             | none=>rfl
             | some q=>rw [hr] at h; cases h
           refine Rg o1 (by simp (disch:=omega) only [Ad,Bb]) (fun z=>?_) hcl1 ⟨by rw [hb] ; first | done | rfl,⟨fun n hn=>by rw [hb]; exact hI n hn,by rw [hb]; exact hl⟩,fun _ _=>rfl⟩
           by_cases e1:z=bdL
           · subst e1; right; rw [Bb]; exact hl
           · by_cases e4:bd1≤z
             · left; exact hfree1 z e4
             · right; simp (disch:=omega) only [Ad])
        | trace_state
theorem Ad3 {vs:List Ves} {g k:Int} {v:List Liq} {p:List Stp}:(Co vs g k 0 v p).isSome=Wm vs.length v g k∧∀ q,Co vs g k 0 v p=some q→q=p:=by
  unfold Co
  cases h:Wm vs.length v g k with
  | true=>exact ⟨rfl,fun q hq=>by cases hq; rfl⟩
  | false=>exact ⟨rfl,fun q hq=>by cases hq⟩
theorem Aw4 {t:Nat→AV} {tm:List (Nat × AV)} (h:leT t tm):∀ (j:Nat) (p:Nat × AV),tm[j]?=some p→p.2=.undef∨p.2=t p.1:=by
  induction tm with
  | nil=>intro j p hp; simp at hp
  | cons x r ih=>
    obtain ⟨i,v⟩:=x
    rw [Av] at h
    intro j p hp
    cases j with
    | zero=>simp at hp; subst hp; exact .inr h.1.symm
    | succ j=>exact ih h.2 j p (by simpa using hp)
theorem Apq {vs:List Ves} {ss:List Stp} {g k:Int} {nB mB nw ng nk ns:Nat} (hvs:vs.length≤4) (hva:vs.all Eu=true) (m:Nat):m≤10→∀ (v:List Liq) (p:List Stp) (os:Nat→Option AO) (bd:Nat),OkV v→p.length+m≤900→Aqo vs ss g k nB mB nw ng nk ns os →
    Bg Tryz.prog bd (.fn (.func 83) [] [.ptr nw 0,.ptr ng 0,.ptr nk 0,.ptr ns 0]) [avW v,.p (slS p),i64 (m:Int)] os (SrR (Co vs g k m v p) os):=by
  induction m using Nat.strongRecOn with
  | ind m ih=>
  intro hm v p os bd hv hp hso
  refine Xp (v:=[84,85]) (q:=[84]) (N:=54) (rs:=[.cell 10 36,.cell 11 4]) Tryz.func83 rfl (by kernel_rfl) rfl rfl (fun hcl hfree=>?_)
  have hfr0:∀ k,os (bd+k)=none:=fun k=>hfree _ (by omega)
  have hw:=hso.w
  have hg:=hso.g
  have hk:=hso.k
  have hB:=hso.b
  have hS:=hso.s
  have b1:=Ao hfree hso.w
  have b2:=Ao hfree hso.g
  have b3:=Ao hfree hso.k
  have b4:=Ao hfree hso.s
  have b5:=Ao hfree hso.b
  have hl4:=hv.len
  have hsB:(os nB).isSome=true:=by rw [hB]; rfl
  obtain ⟨A,B,hcode⟩:∃ A B,(Tryz.f83.body.bind Nt)=some (A,B):=⟨_,_,rfl⟩
  refine Lm fun K1 hK1=>?_
  refine Ac ?_
  simp (disch:=(first | assumption | omega)) only [hfr0,Ad,amL,amT,sA,sB,sF,↓reduceIte,reduceCtorEq]
  refine hK1 _ ?_
  refine Lm fun K2 hK2=>?_
  refine Aa fun K3 hK3=>?_
  refine Ac ?_
  simp (disch:=(first | assumption | omega)) only [Ad,amL,amT,sA,sF,↓reduceIte]
  refine hK3 _ ?_
  refine Aj rfl (fun h=>?_) (fun h=>?_)
  ·first
   | exact Bool.noConfusion h
   |skip
    try simp only [decide_eq_true_eq] at h
    refine Aa fun K4 hK4=>?_
    obtain rfl:m=0:=by omega
    refine V4 8 [] (by kernel_rfl) (by kernel_rfl) ?_
    simp only [List.take_succ_cons,List.take_zero,List.drop_succ_cons,List.drop_zero]
    simp (disch:=(first | assumption | omega)) only [hw,hg,hk,Ad,Bq,Az,amL,amT,sA,sF,sG,↓reduceIte,reduceCtorEq]
    refine Apy (bd:=bd+54) (by decide) (Aqt (ss:=ss) (m:=mB) (by simp (disch:=omega) only [Ad]; exact hB) hvs hv.small hl4) (fun q hq=>by simp (disch:=omega) only [Ad]; exact hfree q (by omega)) (Nat.le_add_right _ _) rfl ?_
    simp (disch:=(first | assumption | omega)) only [Ad,amL,amT,sF,↓reduceIte]
    refine hK4 _ ?_
    refine Ah ?_
    try simp (disch:=(first | assumption | omega)) only [amL]
    first
      | (obtain ⟨s1,s2⟩:=Ad3 (vs:=vs) (g:=g) (k:=k) (v:=v) (p:=p)
         refine A3 (res:=.tup [.p (slS p),bl (Wm vs.length v g k)]) os (H8 (n:=bd+10) (m:=bd+11) (by simp (disch:=(first | assumption | omega)) only [amL,sF,↓reduceIte]) (by simp only [amT]; rfl) (by simp (disch:=(first | assumption | omega)) only [Ad,amL]) (by simp (disch:=(first | assumption | omega)) only [amL,sF,↓reduceIte]) (by simp only [amT]; rfl) (by simp (disch:=(first | assumption | omega)) only [amL])) (by first | ((repeat' first | exact Sub.refl _ | refine Sub.skip (by first | exact hfr0 _ | (simp (disch:=omega) only [Ad]; exact hfr0 _)) ?_ | refine Sub.both ?_); done) | fail) hcl (A5 _ rfl) ⟨⟨_,by rw [s1],rfl,fun q hq=>by rw [s2 q hq]⟩,rfl⟩)
      | (refine A3 (res:=.tup [C3,bl false]) os (H8 (n:=bd+10) (m:=bd+11) (by simp (disch:=(first | assumption | omega)) only [hw,hg,hk,hB,hS,hfr0,Ad,Bw,Bq,Az,amL,amT,sA,sB,sC,sD,sE,sF,sG,sH,sI,sJ,sK,sL,sM,sN,sO,↓reduceIte,reduceCtorEq]) (by simp only [amT]; rfl) (by simp (disch:=(first | assumption | omega)) only [hw,hg,hk,hB,hS,hfr0,Ad,Bw,Bq,Az,amL,amT,sA,sB,sC,sD,sE,sF,sG,sH,sI,sJ,sK,sL,sM,sN,sO,↓reduceIte,reduceCtorEq]) (by simp (disch:=(first | assumption | omega)) only [hw,hg,hk,hB,hS,hfr0,Ad,Bw,Bq,Az,amL,amT,sA,sB,sC,sD,sE,sF,sG,sH,sI,sJ,sK,sL,sM,sN,sO,↓reduceIte,reduceCtorEq]) (by simp only [amT]; rfl) (by simp (disch:=(first | assumption | omega)) only [hw,hg,hk,hB,hS,hfr0,Ad,Bw,Bq,Az,amL,amT,sA,sB,sC,sD,sE,sF,sG,sH,sI,sJ,sK,sL,sM,sN,sO,↓reduceIte,reduceCtorEq])) (fun z=>?_) hcl (A5 _ rfl) ⟨⟨_,by rw [hr]; rfl,rfl,fun q hq=>by rw [hr] at hq; cases hq⟩,rfl⟩
         cases hz:os z with
         | none=>exact .inl rfl
         | some o=>
           have hz1:=Ao hfree hz
           obtain ⟨g1,g2⟩:=hlt z hz1 (by rw [hz]; rfl) (Aat none) (bl false)
           right; simp (disch:=omega) only [Ad]; rw [hI3 z g1]; exact (g2.trans hz).symm)
      | trace_state
  ·first
   | exact Bool.noConfusion h
   |skip
    try simp only [decide_eq_false_iff_not] at h
    refine Ak ?_
    refine hK2 _ ?_
    refine Ad8 fun K5 hK5=>?_
    refine Lm fun K6 hK6=>?_
    refine Ac ?_
    obtain ⟨m,rfl⟩:∃ j,m=j+1:=⟨m - 1,by omega⟩
    simp (disch:=(first | assumption | omega)) only [hw,Ad,Bq,Az,amL,amT,sA,sF,sG,↓reduceIte,reduceCtorEq]
    refine A1 [(3,.ptr nw 0),(4,.ptr ng 0),(5,.ptr nk 0),(6,.ptr ns 0),(7,.ptr (bd+7) 0),(8,.ptr (bd+8) 0),(9,.ptr (bd+9) 0),(10,.ptr (bd+10) 0),(11,.ptr (bd+11) 0)] (by decide) (Aqg (v:=v) (nw:=nB) (bd:=bd+54) (by simp (disch:=omega) only [Ad]; exact hsB)) (fun q hq=>by simp (disch:=omega) only [Ad]; exact hfree q (by omega)) (Nat.le_add_right _ _) (fun res os2 hR hcl2 hlv2=>?_)
    obtain ⟨rfl,rfl⟩:=hR
    simp (disch:=(first | assumption | omega)) only [hw,hg,hk,hS,Ad,amL,sF,↓reduceIte,reduceCtorEq]
    refine hK6 _ ?_
    refine T6 ?_
    have hRd:=Anx (v:=v) (p:=p) (bdL:=bd+60) (m:=m) hvs hva hv (by omega) hso hcl hfree rfl (fun v' p' os' bd' h1 h2 h3=>ih m (by omega) (by omega) v' p' os' bd' h1 (by omega) h3) (by omega) hcode
    have hc:=Ao6 (n1:=bd+54+2) (n2:=bd+54+3) (nw:=nB) (ss:=ss) (m:=mB) hRd.yields (fun s os' hI=>⟨(hI.1 _ (by rw [Ato]; rfl)).trans Ato,(hI.1 _ (by rw [Aup]; rfl)).trans Aup,(hI.1 nB (by rw [Gc b5,hso.b]; rfl)).trans ((Gc b5).trans hso.b)⟩) hv hvs hva (s:=(none,none)) (os:=upd (oS os bd v p ((m:Int)+1) nB C3 (bl false)) (bd+60) (some (.loop ⟨54,[27],A,B,.ready,none⟩ (tmS bd nw ng nk ns)))) (bd:=bd+61) rfl ⟨fun n hn=>(Ad (fun e=>by subst e; rw [Ant (by omega),hfree _ (by omega)] at hn; cases hn)),Bb⟩
    cases (show some (_,_)=some (A,B) from hcode)
    refine Mg (bd:=bd+60) (tm:=tmS bd nw ng nk ns) rfl (fun q hq=>by simp (disch:=omega) only [Ad]; exact hfree q (by omega)) (by simp only []; omega) rfl (by kernel_rfl) (fun i=>Z1 (by simp (disch:=(first | assumption | omega)) only [amL,sF,↓reduceIte]) i) (Aw4 (by simp (disch:=(first | assumption | omega)) only [amL,sF,↓reduceIte])) hc (fun res os2 hR hcl2=>?_)
    obtain ⟨rfl,hI2,hfr2⟩:=hR
    have hI2:=hI2
    rw [Acu] at hI2
    have hlt:∀ q,q < bd→(os q).isSome=true→∀ x f,(oS os bd v p ((m:Int)+1) nB C3 (bl false) q).isSome=true∧oS os bd v p ((m:Int)+1) nB x f q=os q:=fun q h1 h2 x f=>⟨by rw [Gc h1]; exact h2,Gc h1⟩
    cases hr:Co vs g k (m+1) v p with
    | some q=>
      rw [show ((Fp vs v).findSome? fun x=>Co vs g k m (G3 v x x.g.lo).1 (p++[x]))=some q from hr] at hI2
      obtain ⟨hI3,hI4⟩:=hI2
      dsimp only at hI3 hI4
      have p10:os2 (bd+10)=_:=(hI3 (bd+10) (by rw [Lb]; rfl)).trans Lb
      have p11:os2 (bd+11)=_:=(hI3 (bd+11) (by rw [Ko]; rfl)).trans Ko
      refine ⟨_,hI4,by simp [],?_⟩
      show L1 0 _ .ret _
      simp (disch:=omega) only [Ve,Y5,Adu]
      refine A3 (res:=.tup [.p (slS q),bl true]) os (H8 (n:=bd+10) (m:=bd+11) (by simp (disch:=(first | assumption | omega)) only [amL,sF,↓reduceIte]) (by simp only [amT]; rfl) ((Ad (by omega)).trans p10) (by simp (disch:=(first | assumption | omega)) only [amL,sF,↓reduceIte]) (by simp only [amT]; rfl) ((Ad (by omega)).trans p11)) (fun z=>?_) hcl (A5 _ rfl) ⟨⟨_,rfl,rfl,fun q' hq'=>by cases hq'; rfl⟩,rfl⟩
      cases hz:os z with
      | none=>exact .inl rfl
      | some o=>
        have hz1:=Ao hfree hz
        obtain ⟨g1,g2⟩:=hlt z hz1 (by rw [hz]; rfl) (Aat (some q)) (bl true)
        right; exact ((Ad (by omega)).trans ((hI3 z g1).trans (g2.trans hz))).symm
    | none=>
    rw [show ((Fp vs v).findSome? fun x=>Co vs g k m (G3 v x x.g.lo).1 (p++[x]))=none from hr] at hI2
    obtain ⟨hI3,hI4⟩:=hI2
    dsimp only at hI3 hI4
    have p10:os2 (bd+10)=_:=(hI3 (bd+10) (by rw [Lb]; rfl)).trans Lb
    have p11:os2 (bd+11)=_:=(hI3 (bd+11) (by rw [Ko]; rfl)).trans Ko
    refine ⟨_,hI4,by simp [],?_⟩
    show L1 0 _ .normal _
    simp only [Pd,Qt]
    refine hK5 _ ?_
    refine Lm fun K7 hK7=>?_
    refine Ac ?_
    simp (disch:=(first | assumption | omega)) only [p10,p11,Ad,amL,amT,sF,↓reduceIte]
    refine hK7 _ ?_
    refine Dz ?_
    refine Ah ?_
    try simp (disch:=(first | assumption | omega)) only [amL]
    first
      | (obtain ⟨s1,s2⟩:=Ad3 (vs:=vs) (g:=g) (k:=k) (v:=v) (p:=p)
         refine A3 (res:=.tup [.p (slS p),bl (Wm vs.length v g k)]) os (H8 (n:=bd+10) (m:=bd+11) (by simp (disch:=(first | assumption | omega)) only [amL,sF,↓reduceIte]) (by simp only [amT]; rfl) (by simp (disch:=(first | assumption | omega)) only [Ad,amL]) (by simp (disch:=(first | assumption | omega)) only [amL,sF,↓reduceIte]) (by simp only [amT]; rfl) (by simp (disch:=(first | assumption | omega)) only [amL])) (by first | ((repeat' first | exact Sub.refl _ | refine Sub.skip (by first | exact hfr0 _ | (simp (disch:=omega) only [Ad]; exact hfr0 _)) ?_ | refine Sub.both ?_); done) | fail) hcl (A5 _ rfl) ⟨⟨_,by rw [s1],rfl,fun q hq=>by rw [s2 q hq]⟩,rfl⟩)
      | (refine A3 (res:=.tup [C3,bl false]) os (H8 (n:=bd+10) (m:=bd+11) (by simp (disch:=(first | assumption | omega)) only [amL,sF,↓reduceIte]) (by simp only [amT]; rfl) (by simp (disch:=(first | assumption | omega)) only [Ad,amL]) (by simp (disch:=(first | assumption | omega)) only [amL,sF,↓reduceIte]) (by simp only [amT]; rfl) (by simp (disch:=(first | assumption | omega)) only [amL])) (fun z=>?_) hcl (A5 _ rfl) ⟨⟨_,by rw [hr]; rfl,rfl,fun q hq=>by rw [hr] at hq; cases hq⟩,rfl⟩
         cases hz:os z with
         | none=>exact .inl rfl
         | some o=>
           have hz1:=Ao hfree hz
           obtain ⟨g1,g2⟩:=hlt z hz1 (by rw [hz]; rfl) (Aat none) (bl false)
           right; simp (disch:=omega) only [Ad]; rw [hI3 z g1]; exact (g2.trans hz).symm)
      | trace_state
theorem Bg.of_nil1 {P:Program} {bd:Nat} {fv a c:AV} {os:Nat→Option AO} {R:AV→(Nat→Option AO)→Prop} (h:Bg P bd fv [a,.p (.sl []),c] os R):Bg P bd fv [a,C3,c] os R:=by
  intro hfree S θ M w vf vs h1 h2 h3 h4 h5 h6
  refine h hfree S θ M w vf vs h1 h2 h3 (fun i x hx=>?_) h5 (fun i x hx=>?_)
  · match i,hx with
    | 0,hx=>exact h4 0 x hx
    | 1,hx=>
      cases hx
      have:=Rd (h4 1 C3 rfl)
      rw [this]; exact .p _ _ .nil
    | 2,hx=>exact h4 2 x hx
  · match i,hx with
    | 0,hx=>exact h6 0 x hx
    | 1,hx=>cases hx; exact AV.lives_p _ _
    | 2,hx=>exact h6 2 x hx
def J0 (vs:List Ves):List Liq:=if J6 vs=true then (C2 vs).1 else v0
theorem Ayr (vs:List Ves):Afa vs=.tup [avW (J0 vs),bl (J6 vs),bl (J6 vs&&(C2 vs).2)]:=by
  unfold Afa J0
  cases J6 vs with
  | true=>simp
  | false=>simp
theorem Mx {vs:List Ves} {g k:Int} {v:List Liq} {j:Nat} {q:List Stp} (h:∀ i,i < j→Co vs g k i v []=none) (hj:j < 3) (hq:Co vs g k j v []=some q):Al1 vs g k v=some q:=by
  unfold Al1
  match j,hj with
  | 0,_=>rw [hq]; rfl
  | 1,_=>rw [h 0 (by omega),hq]; rfl
  | 2,_=>rw [h 0 (by omega),h 1 (by omega),hq]; rfl
theorem M9 {vs:List Ves} {g k:Int} {v:List Liq} {j:Nat} (h:∀ i,i < j→Co vs g k i v []=none) (hj:3≤j):Al1 vs g k v=none:=by
  unfold Al1; rw [h 0 (by omega),h 1 (by omega),h 2 (by omega)]; rfl
theorem An4 (b:Ee) (g k:Int):(Hi b g k).isP=true:=by
  unfold Hi
  split
  · rfl
  · split
    · rfl
    · split
      · rfl
      · split <;> rfl
theorem Am1 {vs:List Ves} (hvs:vs.length≤4) (hva:vs.all Eu=true):OkV (C2 vs).1:=by
  have hb:∀ k,(0≤(vs.map (·.g.lo)).getD k 0∧(vs.map (·.g.lo)).getD k 0≤60)∧(0≤(vs.map (·.d.lo)).getD k 0∧(vs.map (·.d.lo)).getD k 0≤120):=fun k=>by
    by_cases hk:k < vs.length
    · have hb:=C9 (List.all_eq_true.1 hva _ (Dy default hk))
      have h1:=C8 hb.1
      have h2:=C8 hb.2.1
      rw [Cp (·.g.lo) 0 default hk,Cp (·.d.lo) 0 default hk]
      constructor <;> constructor <;> first | exact h1.1 | exact h2.1 | (show _≤_; omega)
    · have e1:(vs.map (·.g.lo)).getD k 0=0:=by simp [List.getD,List.getElem?_eq_none (show vs.length≤k by omega)]
      have e2:(vs.map (·.d.lo)).getD k 0=0:=by simp [List.getD,List.getElem?_eq_none (show vs.length≤k by omega)]
      rw [e1,e2]; omega
  refine Tw (by omega) (fun k=>(hb k).1) (fun k=>(hb k).2) Ala (by decide) fun k _=>?_
  match k with
  | 0=>rfl
  | 1=>rfl
  | 2=>rfl
  | 3=>rfl
  | k+4=>rfl
theorem Ao5 {ks:List Nat} (v:List Liq):nmL ks (cW v)=true:=by
  unfold cW
  generalize wI v=l
  induction l with
  | nil=>rfl
  | cons x l ih=>simp only [List.map_cons,nmL,nm,ih,Bool.and_self]
theorem Aqi {vs:List Ves} (hvs:vs.length≤4) (hva:vs.all Eu=true):OkV (J0 vs):=by
  unfold J0; split
  · exact Am1 hvs hva
  · exact Ala
theorem Amx (b:Ee) (g k:Int) (hl:b.vs.length < 1000000) (hl2:b.ss.length < 1000000):Bt Tryz.prog 34 [avB b,i64 g,i64 k] (Hi b g k):=by
  refine Bn (v:=[60,81]) (q:=[]) (N:=54) (rs:=[.tmp 6,.tmp 7]) Tryz.func34 rfl rfl rfl rfl (An4 b g k) ?_
  have hfx:=Ayr b.vs
  have hw4:(J0 b.vs).length=4:=by unfold J0; split; exact Rq; rfl
  refine Aa fun K1 hK1=>?_
  refine Ac ?_
  simp (disch:=(first | assumption | omega)) only [amL,sA,sB,sF,↓reduceIte,reduceCtorEq]
  refine hK1 _ ?_
  refine Aa fun K2 hK2=>?_
  refine Aa fun K3 hK3=>?_
  refine Ac ?_
  simp (disch:=(first | assumption | omega)) only [amL,amT,sA,sB,sF,sG,↓reduceIte]
  repeat' first | (refine Aw (by kernel_rfl) rfl (Ag7 b hl hl2) (by first | exact .inl rfl | exact .inr (.inl rfl)) ?_ ; simp (disch:=(first | assumption | omega)) only [amL,sA,↓reduceIte])
  refine hK3 _ ?_
  refine Aa fun K4 hK4=>?_
  refine Ac ?_
  simp (disch:=(first | assumption | omega)) only [amL,amT,sA,↓reduceIte]
  refine hK4 _ ?_
  refine Aj rfl (fun h=>?_) (fun h=>?_)
  ·first
   | exact Bool.noConfusion h
   |skip
    try simp only [Bool.not_eq_true',decide_eq_false_iff_not,decide_not] at h
    refine Aa fun K5 hK5=>?_
    refine Ac ?_
    simp (disch:=(first | assumption | omega)) only [amL,sA,sF,↓reduceIte]
    refine hK5 _ ?_
    refine Ah ?_
    try simp (disch:=(first | assumption | omega)) only [amL,sF,↓reduceIte]
    all_goals first
      | (unfold Hi; rw [if_pos (by assumption)]; done)
      | (unfold Hi; rw [if_neg (by omega),if_pos (by first | (simp_all; done) | fail)]; done)
      | (unfold Hi; rw [if_neg (by omega),if_neg (by first | (simp_all; done) | fail),if_pos (by first | (simp_all; done) | fail)]; done)
      | (have h1:(J6 b.vs&&Mn g k)=true:=by first | (simp_all; done) | fail
         have h2:(C2 b.vs).2=true:=by first | (simp_all; done) | fail
         have h3:J6 b.vs=true:=by first | (simp_all; done) | fail
         have h4:J0 b.vs=(C2 b.vs).1:=by unfold J0; rw [if_pos h3]
         unfold Hi; rw [if_neg (by omega),if_neg (by rw [h1]; decide),if_neg (by rw [h2]; decide),← h4]
         first | (rw [Mx hno (by omega) hq]; done) | (rw [M9 hno (by omega)]; done))
      | trace_state
  ·first
   | exact Bool.noConfusion h
   |skip
    try simp only [decide_eq_true_eq,Bool.not_eq_false',decide_not] at h
    refine Ak ?_
    refine hK2 _ ?_
    refine Aa fun K6 hK6=>?_
    refine Ac ?_
    have hf0:B5 b=0:=by omega
    have hval:=Abs hf0
    simp (disch:=(first | assumption | omega)) only [amL,amT,sA,sB,sF,sG,↓reduceIte]
    refine A1 [(3,.ptr 3 0),(4,.ptr 4 0),(5,.ptr 5 0),(6,C3),(7,i64 0)] (by decide) (Dp (b:=b) (bd:=54)) (Lx rfl) (by decide) (fun res os2 hR hcl2 hlv2=>?_)
    obtain ⟨rfl,rfl⟩:=hR
    simp (disch:=(first | assumption | omega)) only [amL,amT,sA,sB,sF,↓reduceIte]
    refine hK6 _ ?_
    refine Aa fun K7 hK7=>?_
    refine Ac ?_
    simp (disch:=(first | assumption | omega)) only [amL,amT,sA,sG,↓reduceIte]
    refine Cb (bd:=100) (by decide) (Ap7 (ss:=b.ss) (m:=58) ⟨by simp (disch:=(first | assumption | omega)) only [amL,sF,↓reduceIte],by simp (disch:=(first | assumption | omega)) only [amL,sF,↓reduceIte]⟩ hval.nv hval.v) (fun q hq=>by first | exact Lx rfl q (by omega) | (simp (disch:=omega) only [Ad]; exact Lx rfl q (by omega))) (by decide) (by rw [hfx]; exact Uo _ _ _) ?_
    simp (disch:=(first | assumption | omega)) only [hfx,Aeb,Az,amL,amT,sA,sB,sF,↓reduceIte]
    refine hK7 _ ?_
    refine Aa fun K8 hK8=>?_
    refine Aa fun K9 hK9=>?_
    refine Ac ?_
    simp (disch:=(first | assumption | omega)) only [amL,sA,sF,↓reduceIte]
    repeat' first | (refine E0 (fun h=>?_) (fun h=>?_) <;> simp (disch:=(first | assumption | omega)) only [h,hfx,Aeb,Bq,Az,amL,amT,sA,sB,sC,sD,sE,sF,sG,sH,sI,sJ,sK,sL,sM,sN,sO,↓reduceIte,reduceCtorEq]) | (refine Cz (fun h=>?_) (fun h=>?_) <;> simp (disch:=(first | assumption | omega)) only [h,amL,amT,sA,sF,sG,↓reduceIte]) | (refine Aw (by kernel_rfl) rfl (c_wort g k) (by first | exact .inl rfl | exact .inr (.inl rfl)) ?_ ; simp (disch:=(first | assumption | omega)) only [amL,sA,sF,↓reduceIte])
    all_goals
     skip
     refine hK9 _ ?_
     refine Aj rfl (fun h=>?_) (fun h=>?_)
     ·first
      | exact Bool.noConfusion h
      |skip
       try simp only [Bool.not_eq_true'] at h
       refine Aa fun K10 hK10=>?_
       refine Ac ?_
       simp (disch:=(first | assumption | omega)) only [amL,sA]
       refine hK10 _ ?_
       refine Ah ?_
       try simp (disch:=(first | assumption | omega)) only [amL,sF,↓reduceIte]
       all_goals first
         | (unfold Hi; rw [if_pos (by assumption)]; done)
         | (unfold Hi; rw [if_neg (by omega),if_pos (by first | (simp_all; done) | fail)]; done)
         | (unfold Hi; rw [if_neg (by omega),if_neg (by first | (simp_all; done) | fail),if_pos (by first | (simp_all; done) | fail)]; done)
         | (have h1:(J6 b.vs&&Mn g k)=true:=by first | (simp_all; done) | fail
            have h2:(C2 b.vs).2=true:=by first | (simp_all; done) | fail
            have h3:J6 b.vs=true:=by first | (simp_all; done) | fail
            have h4:J0 b.vs=(C2 b.vs).1:=by unfold J0; rw [if_pos h3]
            unfold Hi; rw [if_neg (by omega),if_neg (by rw [h1]; decide),if_neg (by rw [h2]; decide),← h4]
            first | (rw [Mx hno (by omega) hq]; done) | (rw [M9 hno (by omega)]; done))
         | trace_state
     ·first
      | exact Bool.noConfusion h
      |skip
       try simp only [Bool.not_eq_false'] at h
       refine Ak ?_
       refine hK8 _ ?_
       refine Aa fun K11 hK11=>?_
       refine Aa fun K12 hK12=>?_
       refine Ac ?_
       simp (disch:=(first | assumption | omega)) only [amL,sA,sF,↓reduceIte]
       refine hK12 _ ?_
       refine Aj rfl (fun h=>?_) (fun h=>?_)
       ·first
        | exact Bool.noConfusion h
        |skip
         try simp only [Bool.not_eq_true'] at h
         refine Aa fun K13 hK13=>?_
         refine Ac ?_
         simp (disch:=(first | assumption | omega)) only [amL,sA]
         refine hK13 _ ?_
         refine Ah ?_
         try simp (disch:=(first | assumption | omega)) only [amL,sF,↓reduceIte]
         all_goals first
           | (unfold Hi; rw [if_pos (by assumption)]; done)
           | (unfold Hi; rw [if_neg (by omega),if_pos (by first | (simp_all; done) | fail)]; done)
           | (unfold Hi; rw [if_neg (by omega),if_neg (by first | (simp_all; done) | fail),if_pos (by first | (simp_all; done) | fail)]; done)
           | (have h1:(J6 b.vs&&Mn g k)=true:=by first | (simp_all; done) | fail
              have h2:(C2 b.vs).2=true:=by first | (simp_all; done) | fail
              have h3:J6 b.vs=true:=by first | (simp_all; done) | fail
              have h4:J0 b.vs=(C2 b.vs).1:=by unfold J0; rw [if_pos h3]
              unfold Hi; rw [if_neg (by omega),if_neg (by rw [h1]; decide),if_neg (by rw [h2]; decide),← h4]
              first | (rw [Mx hno (by omega) hq]; done) | (rw [M9 hno (by omega)]; done))
           | trace_state
       ·first
        | exact Bool.noConfusion h
        |skip
         try simp only [Bool.and_eq_true,Bool.not_eq_false'] at h
         refine Ak ?_
         refine hK11 _ ?_
         refine Aa fun K14 hK14=>?_
         refine Ac ?_
         simp (disch:=(first | assumption | omega)) only [amL,amT,sA,sF,↓reduceIte]
         refine hK14 _ ?_
         refine Aa fun K15 hK15=>?_
         refine Ac ?_
         simp (disch:=(first | assumption | omega)) only [amL,amT,sA,sF,↓reduceIte]
         refine hK15 _ ?_
         refine Aa fun K16 hK16=>?_
         refine Aa fun K17 hK17=>?_
         refine Ac ?_
         simp (disch:=(first | assumption | omega)) only [amL,sA]
         refine hK17 _ ?_
         refine Ap ?_
         skip
         refine Be (α:=Nat) (fun j=>⟨T [(4,.ptr 4 0),(5,.ptr 5 0),(9,.ptr 9 0),(10,.ptr 10 0),(13,.ptr 13 0),(41,i64 (j:Int))],O [(4,.cells [i64 g]),(5,.cells [i64 k]),(9,.cells [.ptr 60 0]),(10,.cells (cW (J0 b.vs))),(13,.cells [.fn (.func 83) [] [.ptr 9 0,.ptr 4 0,.ptr 5 0,.ptr 13 0]]),(58,.obj (Gb 14 (Sl b.vs))),(60,.cells [.p (slV b.vs),.p (slS b.ss),.mp 58])]⟩) (fun j=>3 - j) (fun j=>j≤3∧∀ i,i < j→Co b.vs g k i (J0 b.vs) []=none) 0 ?_ ?_ (fun j hx18 K18 hK18=>?_)
         · exact ⟨by omega,fun i hi=>absurd hi (Nat.not_lt_zero _)⟩
         · refine De ?_ ?_ ?_ ?_ <;> (try simp (disch:=(first | assumption | omega)) only [amL,sF,sG,↓reduceIte]); all_goals first | exact Ao5 _ | trace_state
         obtain ⟨hj,hno⟩:=hx18
         refine Aa fun K19 hK19=>?_
         refine Ac ?_
         simp (disch:=(first | assumption | omega)) only [amL,amT,sA,sF,↓reduceIte]
         refine hK19 _ ?_
         refine Aa fun K20 hK20=>?_
         refine Aj rfl (fun h=>?_) (fun h=>?_)
         ·first
          | exact Bool.noConfusion h
          |skip
           try simp only [decide_eq_true_eq] at h
           refine Ak ?_
           refine hK20 _ ?_
           refine Aa fun K21 hK21=>?_
           refine Ap ?_
           refine Aa fun K22 hK22=>?_
           refine Ac ?_
           simp (disch:=(first | assumption | omega)) only [amL,sA,sF,↓reduceIte]
           refine hK22 _ ?_
           refine Aa fun K23 hK23=>?_
           refine Ac ?_
           simp (disch:=(first | assumption | omega)) only [Bq,Az,amL,amT,sA,sF,↓reduceIte]
           have hcs:=Bg.of_nil1 (Apq (nB:=60) (mB:=58) (ss:=b.ss) (g:=g) (k:=k) (nw:=9) (ng:=4) (nk:=5) (ns:=13) hval.nv hval.v j (by omega) (J0 b.vs) [] (O [(4,.cells [i64 g]),(5,.cells [i64 k]),(9,.cells [.ptr 60 0]),(10,.cells (cW (J0 b.vs))),(13,.cells [.fn (.func 83) [] [.ptr 9 0,.ptr 4 0,.ptr 5 0,.ptr 13 0]]),(58,.obj (Gb 14 (Sl b.vs))),(60,.cells [.p (slV b.vs),.p (slS b.ss),.mp 58])]) 100 (Aqi hval.nv hval.v) (by rw [List.length_nil]; omega) ⟨rfl,rfl,rfl,rfl,rfl⟩)
           refine A1 [(4,.ptr 4 0),(5,.ptr 5 0),(9,.ptr 9 0),(10,.ptr 10 0),(13,.ptr 13 0),(41,i64 (j:Int))] (by decide) hcs (Lx rfl) (by decide) (fun res os2 hR hcl2 hlv2=>?_)
           obtain ⟨⟨y,rfl,hyp,hyq⟩,rfl⟩:=hR
           simp (disch:=(first | assumption | omega)) only [amL,sA,sF,↓reduceIte]
           refine hK23 _ ?_
           refine Aa fun K24 hK24=>?_
           refine Ac ?_
           simp (disch:=(first | assumption | omega)) only [amL,sA,↓reduceIte]
           refine hK24 _ ?_
           refine Aj rfl (fun h=>?_) (fun h=>?_)
           ·first
            | exact Bool.noConfusion h
            |skip
             try simp only [Bool.not_eq_true',decide_eq_true_eq,decide_eq_false_iff_not,Bool.and_eq_true,Bool.not_eq_false',Bool.not_not,decide_not,Bool.not_true,Bool.not_false] at h
             refine Aa fun K25 hK25=>?_
             refine Ac ?_
             obtain ⟨q,hq⟩:=Option.isSome_iff_exists.1 h
             have hy:=hyq q hq
             subst hy
             simp (disch:=(first | assumption | omega)) only [amL,sA,sF,↓reduceIte]
             refine hK25 _ ?_
             refine Ah ?_
             try simp (disch:=(first | assumption | omega)) only [amL,sF,↓reduceIte]
             all_goals first
               | (unfold Hi; rw [if_pos (by assumption)]; done)
               | (unfold Hi; rw [if_neg (by omega),if_pos (by first | (simp_all; done) | fail)]; done)
               | (unfold Hi; rw [if_neg (by omega),if_neg (by first | (simp_all; done) | fail),if_pos (by first | (simp_all; done) | fail)]; done)
               | (have h1:(J6 b.vs&&Mn g k)=true:=by first | (simp_all; done) | fail
                  have h2:(C2 b.vs).2=true:=by first | (simp_all; done) | fail
                  have h3:J6 b.vs=true:=by first | (simp_all; done) | fail
                  have h4:J0 b.vs=(C2 b.vs).1:=by unfold J0; rw [if_pos h3]
                  unfold Hi; rw [if_neg (by omega),if_neg (by rw [h1]; decide),if_neg (by rw [h2]; decide),← h4]
                  first | (rw [Mx hno (by omega) hq]; done) | (rw [M9 hno (by omega)]; done))
               | trace_state
           ·first
            | exact Bool.noConfusion h
            |skip
             try simp only [Bool.not_eq_true',decide_eq_true_eq,decide_eq_false_iff_not,Bool.and_eq_true,Bool.not_eq_false',Bool.not_not,decide_not,Bool.not_true,Bool.not_false] at h
             refine Ak ?_
             refine hK21 _ ?_
             refine Ac ?_
             simp (disch:=(first | assumption | omega)) only [amL,amT,sA,sF,↓reduceIte]
             refine hK18 (j+1) _ ?_ ?_ (De ?_ ?_ ?_ ?_)
             all_goals (try simp (disch:=(first | assumption | omega)) only [amL,sE,sF,sG,↓reduceIte])
             all_goals first | omega | exact Ao5 _ | exact ⟨by omega,fun i hi=>by
               by_cases e:i=j
               · subst e
                 cases hr:Co b.vs g k i (J0 b.vs) [] with
                 | none=>rfl
                 | some q=>rw [hr] at h; cases h
               · exact hno i (by omega)⟩ | trace_state
         ·first
          | exact Bool.noConfusion h
          |skip
           try simp only [decide_eq_false_iff_not] at h
           refine Bo ?_
           refine hK16 _ ?_
           refine Aa fun K26 hK26=>?_
           refine Ac ?_
           simp (disch:=(first | assumption | omega)) only [amL,sA]
           refine hK26 _ ?_
           refine Ah ?_
           try simp (disch:=(first | assumption | omega)) only [amL,sF,↓reduceIte]
           all_goals first
             | (unfold Hi; rw [if_pos (by assumption)]; done)
             | (unfold Hi; rw [if_neg (by omega),if_pos (by first | (simp_all; done) | fail)]; done)
             | (unfold Hi; rw [if_neg (by omega),if_neg (by first | (simp_all; done) | fail),if_pos (by first | (simp_all; done) | fail)]; done)
             | (have h1:(J6 b.vs&&Mn g k)=true:=by first | (simp_all; done) | fail
                have h2:(C2 b.vs).2=true:=by first | (simp_all; done) | fail
                have h3:J6 b.vs=true:=by first | (simp_all; done) | fail
                have h4:J0 b.vs=(C2 b.vs).1:=by unfold J0; rw [if_pos h3]
                unfold Hi; rw [if_neg (by omega),if_neg (by rw [h1]; decide),if_neg (by rw [h2]; decide),← h4]
                first | (rw [Mx hno (by omega) hq]; done) | (rw [M9 hno (by omega)]; done))
             | trace_state
theorem Ay4:Bt Tryz.prog 15 [avB (two 11),avT ⟨[10,5],[60,30],[4,1,2]⟩] (.tup [.p (.sl [[iv 8,iv 360,iv 45],[iv 8,iv 390,iv 49]]),i64 0]):=by
 have h:=Ar6 (two 11) ⟨[10,5],[60,30],[4,1,2]⟩ (by decide) (by decide) (by decide)
 have e:Dk (two 11) ⟨[10,5],[60,30],[4,1,2]⟩=.tup [.p (.sl [[iv 8,iv 360,iv 45],[iv 8,iv 390,iv 49]]),i64 0]:=by kernel_rfl
 rw [e] at h; exact h
theorem Awz:Bt Tryz.prog 56 [.p (.sl [[iv 0],[iv 4],[iv 9],[iv 14]]),avR ⟨10,11⟩,avR ⟨15,16⟩,.p (.sl [[iv 10,iv 16],[iv 18,iv 20]])] (.tup [.p (.sl [[iv 1]]),i64 0]):=by
 have h:=Axa [0,4,9,14] ⟨10,11⟩ ⟨15,16⟩ [⟨10,16⟩,⟨18,20⟩] (by decide) (by decide)
 have e:Km [0,4,9,14] ⟨10,11⟩ ⟨15,16⟩ [⟨10,16⟩,⟨18,20⟩]=.tup [.p (.sl [[iv 1]]),i64 0]:=by kernel_rfl
 rw [e] at h; exact h
theorem Amo:Bt Tryz.prog 34 [avB (two 10),i64 8,i64 45] (.tup [.p (.sl [[iv 0,iv 0,iv 1,iv 4,iv 4],[iv 1,iv 0,iv 0,iv 2,iv 2]]),i64 0]):=by
 have h:=Amx (two 10) 8 45 (by decide) (by decide)
 have e:Hi (two 10) 8 45=.tup [.p (.sl [[iv 0,iv 0,iv 1,iv 4,iv 4],[iv 1,iv 0,iv 0,iv 2,iv 2]]),i64 0]:=by kernel_rfl
 rw [e] at h; exact h
theorem Nl (a b:Int):Bt Tryz.prog 48 [i64 a,i64 b] (avR ⟨a,b⟩):=by
 refine Bn (v:=[]) (q:=[]) (N:=8) (rs:=[.cell 4 58]) Tryz.func48 rfl rfl rfl rfl rfl ?_
 refine Aa fun K1 hK1=>?_
 refine Ac ?_
 simp (disch:=omega) only [amL,amT,sA,sB,↓reduceIte]
 refine hK1 _ ?_
 refine Aa fun K2 hK2=>?_
 refine Ac ?_
 simp (disch:=omega) only [amL,amT,sA,sB,sE,sF,↓reduceIte,reduceCtorEq]
 refine hK2 _ ?_
 refine Ah ?_
 try simp (disch:=omega) only [amL,amT,sB,sF,↓reduceIte]
 all_goals rfl
theorem Adx (n:Int):Bt Tryz.prog 54 [i64 n] (avB (two n)):=by
 refine Bn (v:=[]) (q:=[]) (N:=19) (rs:=[.cell 2 38]) Tryz.func54 rfl rfl rfl rfl rfl ?_
 refine Aa fun K1 hK1=>?_
 refine Ac ?_
 simp (disch:=omega) only [amL,amT,sA,sB,↓reduceIte]
 refine hK1 _ ?_
 refine Aa fun K2 hK2=>?_
 refine M4 7 ?_
 simp (disch:=omega) only [N9,L6,amL,sA,↓reduceIte,reduceCtorEq]
 repeat' first | (refine Aw (by kernel_rfl) rfl (Nl _ _) (by first | exact .inl rfl | exact .inr (.inl rfl)) ?_ ; simp (disch:=omega) only [S5,N9,L6,H5,Fk,amL,amT,sA,sB,sC,sE,sF,↓reduceIte,reduceCtorEq])
 refine hK2 _ ?_
 refine Ah ?_
 try simp (disch:=omega) only [amL,amT,sB,sF,↓reduceIte]
 all_goals rfl
theorem Ap5:Bt Tryz.prog 31 [.p (.sl [[iv 0]]),.p (.sl [[iv 0]])] (bl true):=Hs Rj 10000 (by kernel_rfl)
theorem Arp:Bt Tryz.prog 31 [.p (.sl [[iv 1]]),.p (.sl [[iv 1]])] (bl true):=Hs Rj 10000 (by kernel_rfl)
theorem Ax2:Mh Tryz.prog 90 3:=R2 (by kernel_rfl)
theorem Ax8:Mh Tryz.prog 60 6:=R2 (by kernel_rfl)
theorem eqA (a b c:Int) (h:([a,b,c]:List Int).all inR=true):G2 Tryz.prog .eql 90 (some [a,b,c]) (some [a,b,c])=some (.pure (bl true)):=by
  rw [Nk (a:=[a,b,c]) (b:=[a,b,c]) Ax2 rfl h h,decide_eq_true rfl]
theorem eqB (a b c d e f:Int) (h:([a,b,c,d,e,f]:List Int).all inR=true):G2 Tryz.prog .eql 60 (some [a,b,c,d,e,f]) (some [a,b,c,d,e,f])=some (.pure (bl true)):=by
  rw [Nk (a:=[a,b,c,d,e,f]) (b:=[a,b,c,d,e,f]) Ax8 rfl h h,decide_eq_true rfl]
theorem e1:G2 Tryz.prog .eql 90 (some [8,360,45]) (some [8,360,45])=some (.pure (bl true)):=eqA 8 360 45 (by decide)
theorem e2:G2 Tryz.prog .eql 90 (some [8,390,49]) (some [8,390,49])=some (.pure (bl true)):=eqA 8 390 49 (by decide)
theorem e3:G2 Tryz.prog .eql 60 (some [8,9,360,420,45,47]) (some [8,9,360,420,45,47])=some (.pure (bl true)):=eqB 8 9 360 420 45 47 (by decide)
theorem e4:G2 Tryz.prog .eql 60 (some [7,8,390,390,49,56]) (some [7,8,390,390,49,56])=some (.pure (bl true)):=eqB 7 8 390 390 49 56 (by decide)
theorem Bdn:Bt Tryz.prog 14 [] (bl true):=by
  refine Bn (v:=[]) (q:=[]) (N:=149) (rs:=[.tmp 0]) Tryz.func14 rfl rfl rfl rfl rfl ?_
  refine Aa fun K1 hK1=>?_
  refine Ac ?_
  simp (disch:=omega) only [amL,sA]
  refine hK1 _ ?_
  refine Aa fun K2 hK2=>?_
  refine X9 [false,true,true,true] ?_
  simp (disch:=omega) only [Adt,amL]
  repeat' first | (refine Aw (by kernel_rfl) rfl (Adx _) (by first | exact .inl rfl | exact .inr (.inl rfl)) ?_ ; simp (disch:=omega) only [Ah1,Ade,T9,H5,Fk,amL,amT,sA,sB,sE,sF,↓reduceIte,reduceCtorEq]) | (refine Aw (by kernel_rfl) rfl (Ay4) (by first | exact .inl rfl | exact .inr (.inl rfl)) ?_ ; simp (disch:=omega) only [amL,sA,sF,↓reduceIte])
  refine hK2 _ ?_
  refine Aa fun K3 hK3=>?_
  refine Ac ?_
  simp (disch:=omega) only [amL]
  repeat' first | (refine Aw (by kernel_rfl) rfl (Adx _) (by first | exact .inl rfl | exact .inr (.inl rfl)) ?_ ; simp (disch:=omega) only [amL,↓reduceIte]) | (refine Aw (by kernel_rfl) rfl (Amk) (by first | exact .inl rfl | exact .inr (.inl rfl)) ?_ ; simp (disch:=omega) only [amL,sA,sF,↓reduceIte])
  refine hK3 _ ?_
  refine Aa fun K4 hK4=>?_
  refine M4 7 ?_
  simp (disch:=omega) only [N9,amL]
  repeat' first | (refine Aw (by kernel_rfl) rfl (Adx _) (by first | exact .inl rfl | exact .inr (.inl rfl)) ?_ ; simp (disch:=omega) only [N9,L6,amL]) | (refine Aw (by kernel_rfl) rfl (Nl _ _) (by first | exact .inl rfl | exact .inr (.inl rfl)) ?_ ; simp (disch:=omega) only [S5,N9,L6,H5,Fk,amL,amT,sA,sB,sC,sE,sF,↓reduceIte,reduceCtorEq]) | (refine Aw (by kernel_rfl) rfl (Asb) (by first | exact .inl rfl | exact .inr (.inl rfl)) ?_ ; simp (disch:=omega) only [amL,sA,sF,↓reduceIte])
  refine hK4 _ ?_
  refine Aa fun K5 hK5=>?_
  refine M4 0 ?_
  simp (disch:=omega) only [S5,H5,Fk,amL,amT,sA,sB,sE,↓reduceIte,reduceCtorEq]
  repeat' first | (refine Aw (by kernel_rfl) rfl (Afe) (by first | exact .inl rfl | exact .inr (.inl rfl)) ?_ ; simp (disch:=omega) only [amL,sA,sF,↓reduceIte])
  refine hK5 _ ?_
  refine Aa fun K6 hK6=>?_
  refine X9 [true,false,false,false,false,true] ?_
  simp (disch:=omega) only [Ade,Adt,T9,H5,Fk,amL,amT,sA,sB,sE,↓reduceIte,reduceCtorEq]
  repeat' first | (refine Aw (by kernel_rfl) rfl (Nl _ _) (by first | exact .inl rfl | exact .inr (.inl rfl)) ?_ ; simp (disch:=omega) only [Ah1,Ade,Adt,T9,H5,Fk,amL,amT,sA,sB,sC,sE,sF,↓reduceIte,reduceCtorEq]) | (refine Aw (by kernel_rfl) rfl (Awz) (by first | exact .inl rfl | exact .inr (.inl rfl)) ?_ ; simp (disch:=omega) only [amL,sA,sF,↓reduceIte])
  refine hK6 _ ?_
  refine Aa fun K7 hK7=>?_
  refine Ac ?_
  simp (disch:=omega) only [amL]
  repeat' first | (refine Aw (by kernel_rfl) rfl (Adx _) (by first | exact .inl rfl | exact .inr (.inl rfl)) ?_ ; simp (disch:=omega) only [amL,↓reduceIte]) | (refine Aw (by kernel_rfl) rfl (Amo) (by first | exact .inl rfl | exact .inr (.inl rfl)) ?_ ; simp (disch:=omega) only [amL,sA,sF,↓reduceIte])
  refine hK7 _ ?_
  refine Aa fun K8 hK8=>?_
  refine Ce (by kernel_rfl) (by kernel_rfl) ?_
  simp only [List.append]
  simp (disch:=omega) only [e1,e2,amL,amT,sA,sB,sE,sF,sH,sK,sL,sN,↓reduceIte]
  repeat' first | (refine E0 (fun h=>?_) (fun h=>?_) <;> simp (disch:=omega) only [h,S5,N9,L6,Ah1,Ade,Adt,T9,H5,Fk,e1,e2,e3,e4,amL,amT,sA,sB,sC,sD,sE,sF,sG,sH,sI,sJ,sK,sL,sM,sN,sO,↓reduceIte,reduceCtorEq]) | (refine Cz (fun h=>?_) (fun h=>?_) <;> simp (disch:=omega) only [h,S5,N9,L6,Ah1,Ade,Adt,T9,H5,Fk,e1,e2,e3,e4,amL,amT,sA,sB,sC,sD,sE,sF,sG,sH,sI,sJ,sK,sL,sM,sN,sO,↓reduceIte,reduceCtorEq]) | (refine Aw (by kernel_rfl) rfl (Nl _ _) (by first | exact .inl rfl | exact .inr (.inl rfl)) ?_ ; simp (disch:=omega) only [e3,e4,amL,amT,sA,sB,sE,sF,sH,sK,sL,sN,↓reduceIte,reduceCtorEq]) | (refine Aw (by kernel_rfl) rfl (by first | exact Ap5 | exact Arp) (by first | exact .inl rfl | exact .inr (.inl rfl)) ?_ ; simp (disch:=omega) only [amL,amT,sA,sB,sE,sF,sH,↓reduceIte,reduceCtorEq]) | (refine Aw (by kernel_rfl) rfl (Adx _) (by first | exact .inl rfl | exact .inr (.inl rfl)) ?_ ; simp (disch:=omega) only [amL,sA,sF,↓reduceIte]) | (refine Aw (by kernel_rfl) rfl (Aso) (by first | exact .inl rfl | exact .inr (.inl rfl)) ?_ ; simp (disch:=omega) only [amL,sA,sF,↓reduceIte])
  all_goals
   skip
   refine hK8 _ ?_
   refine Ah ?_
   try simp (disch:=omega) only [amL,↓reduceIte]
   all_goals rfl
end AM.Try
end
/- The statements: brewhouses, truths, readings that are read. -/
section
namespace AM.Try
open Go AM AM.Wort Go.ChangeShapes Go.WideShapes Go.ChangeAt Go.RowKit Go.Proofs
open Nat renaming reduceLT→sA,reduceAdd→sB,reduceMul→sC,reduceSub→sD,reduceLeDiff→sE,reduceEqDiff→sF,reduceBEq→sG
open Int renaming reduceAdd→sH,reduceSub→sI,reduceMul→sJ,reduceLT→sK,reduceLE→sL,reduceNeg→sM,reduceToNat→sN,reduceEq→sO
set_option maxRecDepth 100000
theorem Ar8:laidOutB Tryz.prog=true:=by kernel_rfl
theorem Aqm:mapsRowed Tryz.prog=true:=by kernel_rfl
theorem brP:BrP Tryz.prog:=⟨kids_rows Ar8 Aqm,slices_full_of Tryz.prog (by kernel_rfl),Tryz.underlying4⟩
theorem tp_own:ownKnob Tryz.prog.godebug=none:=by kernel_rfl
theorem flN:N4 Tryz.prog 3 1:=Alz Tryz.underlying3
theorem flR:N4 Tryz.prog 55 2:=Jw Tryz.underlying55 (by kernel_rfl) (fun f hf=>by simp at hf; rcases hf with rfl | rfl <;> exact ⟨_,flN⟩) (by kernel_rfl)
theorem flV:N4 Tryz.prog 92 5:=Jw Tryz.underlying92 (by kernel_rfl) (fun f hf=>by simp at hf; rcases hf with rfl | rfl | rfl <;> first | exact ⟨_,flN⟩ | exact ⟨_,flR⟩) (by kernel_rfl)
theorem flS:N4 Tryz.prog 94 5:=Jw Tryz.underlying94 (by kernel_rfl) (fun f hf=>by simp at hf; rcases hf with rfl | rfl | rfl | rfl <;> first | exact ⟨_,flN⟩ | exact ⟨_,flR⟩) (by kernel_rfl)
theorem flD:N4 Tryz.prog 70 5:=Jw Tryz.underlying70 (by kernel_rfl) (fun f hf=>by simp at hf; rcases hf with rfl | rfl | rfl <;> first | exact ⟨_,flN⟩ | exact ⟨_,flR⟩) (by kernel_rfl)
section
variable {H:Type} {enc:TypeId × Value→H} {W:World} {base:Nat} {v:Value} {d:DataW H} {p:List MemPlace}
theorem open_brew (hv:Value.okWide Tryz.prog W .any base 25 v) (h:DataW.Trod enc Tryz.prog W 0 (fun _=>true) true 25 v d p):∃ b:Ee,An7 b∧∀ θ,Al θ (fun _=>False) W (avB b) v:=by
 obtain ⟨R,h1,h2,h3⟩:=open_lists (ks:=[(92,5),(94,5)]) Tryz.underlying25 (by kernel_rfl) rfl (by kernel_rfl) (fun i f e k hf hk=>by
  match i,hf,hk with
  | 0,hf,hk=>cases hf; cases hk; exact ⟨rfl,by kernel_rfl,Tryz.underlying22,by kernel_rfl,flV⟩
  | 1,hf,hk=>cases hf; cases hk; exact ⟨rfl,by kernel_rfl,Tryz.underlying23,by kernel_rfl,flS⟩) hv h
 match R,h1 with
 | [vs,ss],_=>
  have g1:=h2 0 vs _ _ rfl rfl
  have g2:=h2 1 ss _ _ rfl rfl
  refine ⟨⟨vs.map mkV,ss.map mkS⟩,Aru g1 g2,fun θ=>?_⟩
  have e:=h3 θ
  simp only [List.map_cons,List.map_nil,← T2 g1 mkV Aga Arv,← T2 g2 mkS Qa Asq] at e
  exact e
theorem open_rdgs (hv:Value.okWide Tryz.prog W .any base 63 v) (h:DataW.Trod enc Tryz.prog W 0 (fun _=>true) true 63 v d p):∃ l:List Rdg,(∀ m ∈ l,Awa m)∧∀ θ,Al θ (fun _=>False) W (.p (.sl (l.map Ayy))) v:=by
 obtain ⟨R,h1,h2⟩:=open_rows Tryz.underlying63 (by kernel_rfl) flD hv h
 exact ⟨R.map mkD,Aa4 h1 mkD _ Ayh,fun θ=>by rw [T2 h1 mkD Ayy Arc]; exact h2 θ⟩
end
end AM.Try
end
