/- Lemmas for the proof: an abstract machine over the program's form in Lean, and the program's functions walked on it. -/
import Derived.Test.YtbgiddcgdgdmbaaGreatQ5
import Derived.KernelRfl
/- Closed runs: the bounds, the readings that are left out, an original gravity, a plan: the document's examples. -/
section
namespace AM.Try
open Go AM AM.Wort Go.Proofs
open Nat renaming reduceLT→sA,reduceAdd→sB,reduceMul→sC,reduceSub→sD,reduceLeDiff→sE,reduceEqDiff→sF,reduceBEq→sG
open Int renaming reduceAdd→sH,reduceSub→sI,reduceMul→sJ,reduceLT→sK,reduceLE→sL,reduceNeg→sM,reduceToNat→sN,reduceEq→sO
set_option maxRecDepth 100000
set_option maxHeartbeats 16000000
def two (most:Int):Cx:=⟨[⟨⟨10,most⟩,⟨60,60⟩,20⟩,⟨⟨5,5⟩,⟨30,30⟩,12⟩],[⟨0,0,1,⟨4,4⟩⟩,⟨2,1,1,⟨1,2⟩⟩,⟨1,0,0,⟨2,2⟩⟩]⟩
theorem Ahd:Bj Tryz.prog 55 [.p (.sl [[iv 0],[iv 4],[iv 9],[iv 14]]),i64 10,i64 15] (.tup [i64 17,i64 0]):=Jo Sw 10000 (by kernel_rfl)
theorem Ap2:Bj Tryz.prog 24 [avB (two 11)] (.tup [.p (.sl [[iv 8,iv 9,iv 360,iv 420,iv 45,iv 47],[iv 7,iv 8,iv 390,iv 390,iv 49,iv 56]]),i64 0]):=Jo Sw 10000 (by kernel_rfl)
theorem Asx:Bj Tryz.prog 28 [avB (two 11),.p (.sl [[iv 1,iv 7,iv 7,iv 40,iv 50],[iv 0,iv 9,iv 9,iv 0,iv 99]])] (.tup [.p (.sl [[iv 0]]),i64 0]):=Jo Sw 10000 (by kernel_rfl)
theorem At7:Bj Tryz.prog 35 [avB (two 10),.p (.sl [[iv 0,iv 0,iv 1,iv 4,iv 4],[iv 1,iv 0,iv 0,iv 2,iv 2]]),i64 8,i64 45,i64 2] (bl true):=Jo Sw 10000 (by kernel_rfl)
theorem Bb1 (a b:Int):Bj Tryz.prog 132 [.p (.sl [[iv a],[iv b]])] (i64 (min a b)):=by
  refine A7 (v:=[]) (q:=[]) (N:=25) (rs:=[.tmp 2]) Tryz.func132 rfl rfl rfl rfl rfl ?_
  refine Aa fun K1 hK1=>?_
  refine Ab ?_
  simp (disch:=omega) only [amL,sA]
  refine hK1 _ ?_
  refine Aa fun K2 hK2=>?_
  refine Aa fun K3 hK3=>?_
  refine Ab ?_
  simp (disch:=omega) only [amL,amT,sA,sB,sH,sK,↓reduceIte,reduceCtorEq]
  refine hK3 _ ?_
  refine Ag rfl (fun h=>?_) (fun h=>?_)
  ·first
   | exact Bool.noConfusion h
   |skip
    try simp only [Bool.not_eq_true',decide_eq_true_eq,decide_eq_false_iff_not,Bool.and_eq_true,Bool.not_eq_false',Bool.not_not,decide_not,Bool.not_true,Bool.not_false] at h
    exfalso; omega
  ·first
   | exact Bool.noConfusion h
   |skip
    try simp only [] at h
    refine Ah ?_
    refine hK2 _ ?_
    refine Aa fun K4 hK4=>?_
    refine Ab ?_
    simp (disch:=omega) only [amL,amT,sA,sB,sH,sK,sL,sN,↓reduceIte,reduceCtorEq]
    refine hK4 _ ?_
    refine Aa fun K5 hK5=>?_
    refine Aa fun K6 hK6=>?_
    refine Ab ?_
    simp (disch:=omega) only [amL,sA]
    refine hK6 _ ?_
    refine Ak ?_
    skip
    refine A5 (α:=Nat) (fun k=>⟨T [(0,.p (.sl [[iv a],[iv b]])),(3,i64 (if k=0 then a else min a b)),(4,i64 ((k:Int)+1))],O []⟩) (fun k=>1 - k) (fun k=>k≤1) 0 ?_ ?_ (fun k hx7 K7 hK7=>?_)
    · simp
    · refine B0 ?_ ?_ ?_ ?_ <;> (try simp (disch:=omega) only [amL,sF,sH,↓reduceIte,reduceCtorEq]); all_goals rfl
    have hk:=hx7
    refine Aa fun K8 hK8=>?_
    refine Aa fun K9 hK9=>?_
    refine Ab ?_
    simp (disch:=omega) only [amL,amT,sA,sB,sF,sH,↓reduceIte,reduceCtorEq]
    refine hK9 _ ?_
    refine Ag rfl (fun h=>?_) (fun h=>?_)
    ·first
     | exact Bool.noConfusion h
     |skip
      try simp only [decide_eq_true_eq] at h
      refine Ah ?_
      refine hK8 _ ?_
      refine Aa fun K10 hK10=>?_
      refine Ak ?_
      refine Ab ?_
      obtain rfl:k=0:=by omega
      simp (disch:=omega) only [amL,amT,sA,sB,sF,sH,sK,sL,sN,↓reduceIte,reduceCtorEq]
      refine hK10 _ ?_
      refine Ab ?_
      simp (disch:=omega) only [amL,amT,sA,sF,sH,↓reduceIte,reduceCtorEq]
      refine hK7 1 _ ?_ ?_ (B0 ?_ ?_ ?_ ?_)
      all_goals (try simp (disch:=omega) only [amL,sD,sF,sH,↓reduceIte,reduceCtorEq])
      all_goals first | omega | exact congrArg i64 (by split <;> omega) | trace_state
    ·first
     | exact Bool.noConfusion h
     |skip
      try simp only [decide_eq_false_iff_not] at h
      refine Bc ?_
      refine hK5 _ ?_
      refine Aa fun K11 hK11=>?_
      refine Ab ?_
      simp (disch:=omega) only [amL,sA,sF,↓reduceIte,reduceCtorEq]
      refine hK11 _ ?_
      refine Ae ?_
      try simp (disch:=omega) only [amL,↓reduceIte]
      all_goals first | rfl | trace_state
theorem Aax (a b:Int):Bj Tryz.prog 111 [.p (.sl [[iv a],[iv b]])] (i64 (min a b)):=by
  refine A7 (v:=[]) (q:=[]) (N:=5) (rs:=[.tmp 2]) Tryz.func111 rfl rfl rfl rfl rfl ?_
  refine Aa fun K1 hK1=>?_
  refine Ab ?_
  simp (disch:=omega) only [amL,sA]
  refine hK1 _ ?_
  refine Aa fun K2 hK2=>?_
  refine Ab ?_
  simp (disch:=omega) only [amL,sA,↓reduceIte,reduceCtorEq]
  repeat' first | (refine Al (by kernel_rfl) rfl (Bb1 a b) (by first | exact .inl rfl | exact .inr (.inl rfl)) ?_ ; simp (disch:=omega) only [amL,sA,↓reduceIte])
  refine hK2 _ ?_
  refine Ae ?_
  try simp (disch:=omega) only [amL,↓reduceIte]
  all_goals rfl
theorem Aj6:Bj Tryz.prog 94 [] (avR ⟨0,120⟩):=by
  refine A7 (v:=[]) (q:=[]) (N:=2) (rs:=[.cell 0 58]) Tryz.func94 rfl rfl rfl rfl rfl ?_
  refine Aa fun K1 hK1=>?_
  refine Ab ?_
  simp (disch:=omega) only [amL,amT,sA,sB,↓reduceIte]
  refine hK1 _ ?_
  refine Aa fun K2 hK2=>?_
  refine Ab ?_
  simp (disch:=omega) only [amL,amT,sA,sB,sE,↓reduceIte,reduceCtorEq]
  refine hK2 _ ?_
  refine Ae ?_
  try simp (disch:=omega) only [amL,amT,sB,↓reduceIte,reduceCtorEq]
  all_goals rfl
theorem Amg (l:List Int) (hl:l.length < 1000000):Bj Tryz.prog 95 [.p (.sl (l.map Jj))] (avR ⟨0,10 * ((l.length:Int) - 1)⟩):=by
  refine A7 (v:=[]) (q:=[]) (N:=8) (rs:=[.cell 2 58]) Tryz.func95 rfl rfl rfl rfl rfl ?_
  refine Aa fun K1 hK1=>?_
  refine Ab ?_
  simp (disch:=omega) only [amL,amT,sA,sB,↓reduceIte]
  refine hK1 _ ?_
  refine Aa fun K2 hK2=>?_
  refine Ab ?_
  simp (disch:=omega) only [amL,amT,sA,sB,sE,sF,↓reduceIte,reduceCtorEq]
  refine hK2 _ ?_
  refine Ae ?_
  try simp (disch:=omega) only [amL,amT,sB,sF,↓reduceIte]
  all_goals rfl
theorem Aua (r o:Rng):Bj Tryz.prog 97 [avR r,avR o] (bl (La r o)):=by
  refine A7 (v:=[]) (q:=[]) (N:=22) (rs:=[.tmp 4]) Tryz.func97 rfl rfl rfl rfl rfl ?_
  refine Aa fun K1 hK1=>?_
  refine Ab ?_
  simp (disch:=omega) only [amL,sA,sB,sF,↓reduceIte,reduceCtorEq]
  refine hK1 _ ?_
  refine Aa fun K2 hK2=>?_
  refine Ab ?_
  simp (disch:=omega) only [amL,amT,sA,sF,↓reduceIte,reduceCtorEq]
  repeat' first | (refine Cn (fun h=>?_) (fun h=>?_) <;> simp (disch:=omega) only [h,amL,amT,sA,sB,sF,↓reduceIte,reduceCtorEq]) | (refine Bo (fun h=>?_) (fun h=>?_) <;> simp (disch:=omega) only [h,amL,amT,sA,sB,sF,↓reduceIte,reduceCtorEq]) | (refine Al (by kernel_rfl) rfl (Ajp _ _) (by first | exact .inl rfl | exact .inr (.inl rfl)) ?_ ; simp (disch:=omega) only [amL,sA,sF,↓reduceIte])
  all_goals
   skip
   refine hK2 _ ?_
   refine Ae ?_
   try simp (disch:=omega) only [amL,↓reduceIte]
   all_goals first | (simp_all [La]; done) | (simp_all [La]; intros; omega)
theorem sfN:Pe Tryz.prog 26 3 116 3 4 139 136:=⟨⟨_,Tryz.func139,rfl,rfl,rfl,by kernel_rfl⟩,⟨_,Tryz.func136,rfl,rfl,rfl,by kernel_rfl⟩⟩
theorem afN:Az5 Tryz.prog 26 3 116 4 136 137 123:=⟨⟨_,Tryz.func137,rfl,rfl,rfl,by kernel_rfl⟩,⟨_,Tryz.func123,rfl,rfl,rfl,by kernel_rfl⟩⟩
theorem sfR:Pe Tryz.prog 113 58 173 3 4 138 125:=⟨⟨_,Tryz.func138,rfl,rfl,rfl,by kernel_rfl⟩,⟨_,Tryz.func125,rfl,rfl,rfl,by kernel_rfl⟩⟩
theorem afR:Alb Tryz.prog 113 58 173 4 125 126 98:=⟨⟨_,Tryz.func126,rfl,rfl,rfl,by kernel_rfl⟩,⟨_,Tryz.func98,rfl,rfl,rfl,by kernel_rfl⟩⟩
theorem Aq2 {last n:Int} {nl:Nat} {os:Nat→Option AO} {bd:Nat} (hn:os nl=some (.cells [i64 last])) :
    Bt Tryz.prog bd (.fn (.func 124) [] [.ptr nl 0]) [i64 n] os fun res os'=>res=bl (Mf last n).2∧os'=upd os nl (some (.cells [i64 n])):=by
  refine Ck (v:=[]) (q:=[]) (N:=11) (rs:=[.tmp 3]) Tryz.func124 rfl (by kernel_rfl) rfl rfl (fun hcl hfree=>?_)
  refine Aa fun K1 hK1=>?_
  refine Ab ?_
  simp (disch:=omega) only [amL,sA,sB]
  refine hK1 _ ?_
  refine Aa fun K2 hK2=>?_
  refine Ab ?_
  simp (disch:=omega) only [hn,amL,amT,sA,sF,↓reduceIte,reduceCtorEq]
  repeat' first | (refine Al (by kernel_rfl) rfl (Md _ _ _) (by first | exact .inl rfl | exact .inr (.inl rfl)) ?_ ; simp (disch:=omega) only [amL,sA,↓reduceIte])
  refine hK2 _ ?_
  refine Aa fun K3 hK3=>?_
  refine Ab ?_
  simp (disch:=omega) only [hn,amL,amT,sA,sF,↓reduceIte,reduceCtorEq]
  refine hK3 _ ?_
  refine Aa fun K4 hK4=>?_
  refine Ab ?_
  simp (disch:=omega) only [amL,sA,sF,↓reduceIte]
  refine hK4 _ ?_
  refine Ae ?_
  try simp (disch:=omega) only [amL]
  refine Ba (res:=bl _) (upd os nl (some (.cells [i64 n]))) (by simp (disch:=omega) only [amL,↓reduceIte]; try rfl) (Sub.refl _) (De hcl (by rw [En,C7,Dd]; exact ⟨AV.lives_p _ _,trivial⟩)) (AV.lives_p _ _) ⟨rfl,rfl⟩
theorem Ara {l:List Int} {nl:Nat}:H7 Tryz.prog (.fn (.func 124) [] [.ptr nl 0]) (fun n=>n=nl) i64 l (fun last os=>os nl=some (.cells [i64 last])) Mf where
  live s os h:=by rw [Gr,Dd,C7,Dd,Dy,h]; exact ⟨trivial,rfl,trivial⟩
  stable s os os' h h2:=(h2 nl rfl).trans h
  foot s os n h hn:=by
    subst hn
    refine ⟨_,h,fun m hm=>?_⟩
    simp [AO.clean,AV.clean,AV.clean.cleanL] at hm
  call s x os bd _ h _:=by
    refine Bt.mono (Aq2 h) ?_
    rintro r os' ⟨rfl,rfl⟩
    exact ⟨rfl,Bp,fun n hn=>Ad hn⟩
theorem Aox {l:List Int} {nl:Nat} {os:Nat→Option AO} {bd:Nat} (hl:l.length < 1000000) (h:os nl=some (.cells [i64 (-1)])) :
    Bt Tryz.prog bd (.fn (.func 123) [] []) [.p (.sl (l.map Jj)),.fn (.func 124) [] [.ptr nl 0]] os fun res os'=>res=bl (Aa6 l)∧(∃ z,os' nl=some (.cells [i64 z]))∧∀ n,n≠nl→os' n=os n:=by
  refine Bt.mono (Azw elN sfN afN (by simp only [amT]; rfl) hl (Ara (nl:=nl)) (fun m hm=>?_) (s:=-1) (bd:=bd) h) ?_
  · have:nl=m:=by simpa [AV.clean,AV.clean.cleanL] using hm
    exact this.symm
  · rintro r os' ⟨h1,h2,h3⟩
    exact ⟨h1,⟨_,h2⟩,h3⟩
theorem As3 (l:List Int) (hl:l.length < 1000000):Bj Tryz.prog 93 [.p (.sl (l.map Jj))] (i64 (Ke l)):=by
  refine A7 (v:=[123]) (q:=[]) (N:=24) (rs:=[.tmp 2]) Tryz.func93 rfl rfl rfl rfl rfl ?_
  refine Aa fun K1 hK1=>?_
  refine Ab ?_
  simp (disch:=omega) only [amL,sA]
  refine hK1 _ ?_
  refine Aa fun K2 hK2=>?_
  refine Aa fun K3 hK3=>?_
  refine Ab ?_
  simp (disch:=omega) only [amL,amT,sA,↓reduceIte,reduceCtorEq]
  refine hK3 _ ?_
  refine Ag rfl (fun h=>?_) (fun h=>?_)
  ·first
   | exact Bool.noConfusion h
   |skip
    try simp only [decide_eq_true_eq] at h
    refine Aa fun K4 hK4=>?_
    refine Ab ?_
    simp (disch:=omega) only [amL,sA]
    refine hK4 _ ?_
    refine Ae ?_
    try simp (disch:=omega) only [amL,↓reduceIte]
    all_goals first | (simp_all [Ke]; done) | (simp_all [Ke]; omega) | trace_state
  ·first
   | exact Bool.noConfusion h
   |skip
    try simp only [decide_eq_false_iff_not] at h
    refine Ah ?_
    refine hK2 _ ?_
    refine Aa fun K5 hK5=>?_
    refine Ab ?_
    simp (disch:=omega) only [amL,amT,sA,sM,↓reduceIte]
    refine hK5 _ ?_
    refine Aa fun K6 hK6=>?_
    refine Ab ?_
    simp (disch:=omega) only [amL,sA,sF,sM,↓reduceIte,reduceCtorEq]
    refine A6 [(0,.p (.sl (l.map Jj)))] (by decide) (Aox (l:=l) (nl:=3) (bd:=24) hl rfl) (M8 rfl) (by decide) (fun res os2 hR hcl2 hlv2=>?_)
    obtain ⟨rfl,⟨z,hz⟩,hfr2⟩:=hR
    simp (disch:=omega) only [amL,sA,↓reduceIte,reduceCtorEq]
    refine hK6 _ ?_
    refine Aa fun K7 hK7=>?_
    refine Aa fun K8 hK8=>?_
    refine Ab ?_
    simp (disch:=omega) only [amL,amT,sA,↓reduceIte,reduceCtorEq]
    repeat' first | (refine Cn (fun h=>?_) (fun h=>?_) <;> simp (disch:=omega) only [h,amL,sA,sF,↓reduceIte]) | (refine Bo (fun h=>?_) (fun h=>?_) <;> simp (disch:=omega) only [h,Be,amL,amT,sA,sF,sL,sN,↓reduceIte,reduceCtorEq])
    all_goals
     skip
     refine hK8 _ ?_
     refine Ag rfl (fun h=>?_) (fun h=>?_)
     ·first
      | exact Bool.noConfusion h
      |skip
       try simp only [Bool.not_eq_true',decide_eq_false_iff_not,decide_not] at h
       refine Aa fun K9 hK9=>?_
       refine Ab ?_
       simp (disch:=omega) only [amL,sA]
       refine hK9 _ ?_
       refine Ae ?_
       try simp (disch:=omega) only [amL,↓reduceIte]
       all_goals first | (simp_all [Ke]; done) | (simp_all [Ke]; omega) | trace_state
     ·first
      | exact Bool.noConfusion h
      |skip
       try simp only [decide_eq_true_eq,Bool.not_eq_false',decide_not] at h
       refine Ah ?_
       refine hK7 _ ?_
       refine Aa fun K10 hK10=>?_
       refine Ab ?_
       simp (disch:=omega) only [amL,sA]
       refine hK10 _ ?_
       refine Ae ?_
       try simp (disch:=omega) only [amL,↓reduceIte]
       all_goals first | (simp_all [Ke]; done) | (simp_all [Ke]; omega) | trace_state
theorem Bbr {l:List Int} (hl:Su l) {s:Int} (h1:0≤s) (h2:s≤10 * ((l.length:Int) - 1)):Bj Tryz.prog 96 [.p (.sl (l.map Jj)),i64 s] (i64 (Sm l s)):=by
  obtain ⟨k1,k2,k3,k4,n1,n2,f1,f2⟩:=Re hl h1 h2
  have g1:=Lx hl (Cy l s).toNat
  have g2:=Lx hl ((Cy l s).toNat+1)
  have a1:=hl.len
  have a2:=hl.len2
  refine A7 (v:=[]) (q:=[]) (N:=38) (rs:=[.tmp 4]) Tryz.func96 rfl rfl rfl rfl rfl ?_
  refine Aa fun K1 hK1=>?_
  refine Ab ?_
  simp (disch:=omega) only [amL,sA,sB]
  refine hK1 _ ?_
  refine Aa fun K2 hK2=>?_
  refine N9 5 ?_
  simp (disch:=omega) only [Tt,Ql,Mg,Kk,Gc,amL,amT,sA,sB,sE,sF,sO,↓reduceIte,reduceCtorEq]
  repeat' first | (refine Al (by kernel_rfl) rfl (Aax _ _) (by first | exact .inl rfl | exact .inr (.inl rfl)) ?_ ; simp (disch:=omega) only [amL,sA,↓reduceIte])
  refine hK2 _ ?_
  refine Aa fun K3 hK3=>?_
  refine Ab ?_
  simp (disch:=omega) only [amL,amT,sA,sF,↓reduceIte,reduceCtorEq]
  refine hK3 _ ?_
  refine Aa fun K4 hK4=>?_
  refine Bg (by kernel_rfl) (by kernel_rfl) ?_
  simp (disch:=omega) only [Be,amL,amT,sA,sF,↓reduceIte,reduceCtorEq]
  refine hK4 _ ?_
  refine Aa fun K5 hK5=>?_
  refine Ab ?_
  simp (disch:=omega) only [amL,amT,sA,sO,↓reduceIte]
  refine hK5 _ ?_
  refine Ae ?_
  try simp (disch:=omega) only [amL,↓reduceIte]
  exact congrArg i64 (Arh hl h1 h2)
theorem Atr (r:Rng):Bj Tryz.prog 99 [avR r] (bl (decide (r.lo≤r.hi))):=by
  refine A7 (v:=[]) (q:=[]) (N:=8) (rs:=[.tmp 2]) Tryz.func99 rfl rfl rfl rfl rfl ?_
  refine Aa fun K1 hK1=>?_
  refine Ab ?_
  simp (disch:=omega) only [amL,sA,↓reduceIte]
  refine hK1 _ ?_
  refine Aa fun K2 hK2=>?_
  refine Ab ?_
  simp (disch:=omega) only [amL,amT,sA,sF,↓reduceIte,reduceCtorEq]
  refine hK2 _ ?_
  refine Ae ?_
  try simp (disch:=omega) only [amL,↓reduceIte]
  all_goals rfl
theorem Azx (l:List Rng) (hl:l.length < 1000000):Bj Tryz.prog 98 [.p (.sl (l.map J4)),.fn (.func 99) [] []] (bl (l.all fun r=>decide (r.lo≤r.hi))):=by
  refine A7 (v:=[125]) (q:=[]) (N:=9) (rs:=[.tmp 4]) Tryz.func98 rfl rfl rfl rfl rfl ?_
  have hT:=Aq7 (P:=Tryz.prog) (l:=l) (arg:=avR) (f:=99) (fs:=[]) (g:=fun r=>decide (r.lo≤r.hi)) (by kernel_rfl) rfl (fun x _=>Atr x)
  have hfvT:(Ac Tryz.prog 173).agg=some false:=by simp only [amT]; rfl
  have ht:=Ayu (nb:=3) (fun nb hnb s x os bd hx hI h=>Awt elR afR hfvT hT hnb (s:=s) hx hI h) hT (fun h=>h) (fun m hm=>by cases hm)
  have cC:=Awo elR sfR (bd:=9) hl ht (s:=()) (os:=O [(3,.cells [.fn (.func 99) [] []])]) ⟨trivial,rfl⟩
  obtain ⟨sa1,sa2⟩:=Wo (step:=fun (_:Unit) (x:Rng)=>((),decide (x.lo≤x.hi))) l () 0
  refine Aa fun K1 hK1=>?_
  refine Ab ?_
  simp (disch:=omega) only [amL,sA,sB,↓reduceIte,reduceCtorEq]
  refine hK1 _ ?_
  refine Aa fun K2 hK2=>?_
  refine Ab ?_
  simp (disch:=omega) only [amL,sA,sF,↓reduceIte,reduceCtorEq]
  refine A6 [] (by decide) cC (M8 rfl) (by decide) (fun res os2 hR hcl2 hlv2=>?_)
  obtain ⟨rfl,_,hfr2⟩:=hR
  simp (disch:=omega) only [amL,sA,↓reduceIte]
  refine hK2 _ ?_
  refine Ae ?_
  try simp (disch:=omega) only [amL,↓reduceIte]
  rw [sa2,Tp]
theorem Awd:(Ac Tryz.prog 175).k=.mp 3 4:=by kernel_rfl
theorem Anp {l:List Int} {g sp:Rng} {b:List Rng} (_:Su l) (h:T3 l g sp b=true):0≤g.lo∧g.lo≤g.hi∧g.hi≤120∧0≤sp.lo∧sp.lo≤sp.hi∧sp.hi≤10 * ((l.length:Int) - 1):=by
  simp only [T3,La,Ko,inB,Bool.and_eq_true,decide_eq_true_eq] at h
  omega
theorem Amr {l:List Int} {g sp:Rng} {b:List Rng} (h1:(!La ⟨0,120⟩ ⟨g.lo,g.hi⟩)=false) (h2:(!La ⟨0,10 * ((l.length:Int) - 1)⟩ ⟨sp.lo,sp.hi⟩)=false) (h3:(b.all fun r=>decide (r.lo≤r.hi))=true):T3 l g sp b=true:=by
  unfold T3; simp only [Bool.not_eq_false'] at h1 h2; rw [h1,h2,h3]; rfl
theorem Q5 {l:List Int} {g sp:Rng} {b:List Rng} (h:(!La ⟨0,120⟩ ⟨g.lo,g.hi⟩)=true∨(!La ⟨0,10 * ((l.length:Int) - 1)⟩ ⟨sp.lo,sp.hi⟩)=true∨(b.all fun r=>decide (r.lo≤r.hi))=false):¬ T3 l g sp b=true:=fun e=>by
  simp only [T3,Bool.and_eq_true] at e
  obtain ⟨e1,e2,e3⟩:=e
  rcases h with h | h | h
  · rw [e1] at h; cases h
  · rw [e2] at h; cases h
  · rw [e3] at h; cases h
theorem Amp (l:List Int) (g sp:Rng) (b:List Rng):(Ll l g sp b).isP=true:=by
  unfold Ll; split
  · rfl
  · split <;> rfl
theorem Ba8 (l:List Int) (g sp:Rng) (b:List Rng) (hl:l.length < 1000000) (hb:b.length < 1000000):Bj Tryz.prog 56 [.p (.sl (l.map Jj)),avR g,avR sp,.p (.sl (b.map J4))] (Ll l g sp b):=by
  refine A7 (v:=[]) (q:=[]) (N:=84) (rs:=[.tmp 8,.tmp 9]) Tryz.func56 rfl rfl rfl rfl (Amp l g sp b) ?_
  refine Aa fun K1 hK1=>?_
  refine Ab ?_
  simp (disch:=omega) only [amL,sA,sB,sF,↓reduceIte,reduceCtorEq]
  refine hK1 _ ?_
  refine Aa fun K2 hK2=>?_
  refine Aa fun K3 hK3=>?_
  refine Ab ?_
  simp (disch:=omega) only [amL,sA,↓reduceIte,reduceCtorEq]
  repeat' first | (refine Al (by kernel_rfl) rfl (As3 l hl) (by first | exact .inl rfl | exact .inr (.inl rfl)) ?_ ; simp (disch:=omega) only [amL,sA,↓reduceIte])
  refine hK3 _ ?_
  refine Aa fun K4 hK4=>?_
  refine Ab ?_
  simp (disch:=omega) only [amL,amT,sA,↓reduceIte]
  refine hK4 _ ?_
  refine Ag rfl (fun h=>?_) (fun h=>?_)
  ·first
   | exact Bool.noConfusion h
   |skip
    try simp only [Bool.not_eq_true',decide_eq_false_iff_not,decide_not] at h
    refine Aa fun K5 hK5=>?_
    refine Ab ?_
    simp (disch:=omega) only [amL,sA,sF,↓reduceIte]
    refine hK5 _ ?_
    refine Ae ?_
    try simp (disch:=omega) only [amL,sF,↓reduceIte]
    all_goals first | (rw [Ll,if_pos (by assumption)]; done) | (rw [Ll,if_neg (by omega),if_neg (Q5 (by first | exact .inl (by assumption) | exact .inr (.inl (by assumption)) | exact .inr (.inr (by assumption))))]; done) | ((obtain rfl:i=b.length:=by omega) ; rw [Ll,if_neg (by omega),if_pos hmb,List.take_of_length_le (by simp)]; done) | trace_state
  ·first
   | exact Bool.noConfusion h
   |skip
    try simp only [decide_eq_true_eq,Bool.not_eq_false',decide_not] at h
    refine Ah ?_
    refine hK2 _ ?_
    refine Aa fun K6 hK6=>?_
    refine Aa fun K7 hK7=>?_
    refine Bg (by kernel_rfl) (by kernel_rfl) ?_
    have hok:=Bbw (l:=l) (by omega)
    simp (disch:=omega) only [amL]
    repeat' first | (refine Cn (fun h=>?_) (fun h=>?_) <;> simp (disch:=omega) only [h,Bu,amL,amT,sA,sB,sC,sD,sE,sF,sG,sH,sI,sJ,sK,sL,sM,sN,sO,↓reduceIte,reduceCtorEq]) | (refine Bo (fun h=>?_) (fun h=>?_) <;> simp (disch:=omega) only [h,amL,sA,sF,↓reduceIte,reduceCtorEq]) | (refine Al (by kernel_rfl) rfl (Aj6) (by first | exact .inl rfl | exact .inr (.inl rfl)) ?_ ; simp (disch:=omega) only [amL,amT,sA,sB,sF,↓reduceIte]) | (refine Al (by kernel_rfl) rfl (Aua ⟨_,_⟩ ⟨_,_⟩) (by first | exact .inl rfl | exact .inr (.inl rfl)) ?_ ; simp (disch:=omega) only [amL,sA,sF,↓reduceIte]) | (refine Al (by kernel_rfl) rfl (Amg l hl) (by first | exact .inl rfl | exact .inr (.inl rfl)) ?_ ; simp (disch:=omega) only [amL,amT,sA,sB,sF,↓reduceIte]) | (refine Al (by kernel_rfl) rfl (Azx b hb) (by first | exact .inl rfl | exact .inr (.inl rfl)) ?_ ; simp (disch:=omega) only [amL,sA,sF,↓reduceIte])
    all_goals
     skip
     refine hK7 _ ?_
     refine Ag rfl (fun h=>?_) (fun h=>?_)
     ·first
      | exact Bool.noConfusion h
      |skip
       try simp only [Bool.not_eq_true'] at h
       refine Aa fun K8 hK8=>?_
       refine Ab ?_
       simp (disch:=omega) only [amL,sA]
       refine hK8 _ ?_
       refine Ae ?_
       try simp (disch:=omega) only [amL,sF,↓reduceIte]
       all_goals first | (rw [Ll,if_pos (by assumption)]; done) | (rw [Ll,if_neg (by omega),if_neg (Q5 (by first | exact .inl (by assumption) | exact .inr (.inl (by assumption)) | exact .inr (.inr (by assumption))))]; done) | ((obtain rfl:i=b.length:=by omega) ; rw [Ll,if_neg (by omega),if_pos hmb,List.take_of_length_le (by simp)]; done) | trace_state
     ·first
      | exact Bool.noConfusion h
      |skip
       try simp only [Bool.not_eq_false'] at h
       refine Ah ?_
       refine hK6 _ ?_
       refine Aa fun K9 hK9=>?_
       have hmb:T3 l g sp b=true:=Amr (by assumption) (by assumption) (by assumption)
       obtain ⟨q1,q2,q3,q4,q5,q6⟩:=Anp hok hmb
       refine Dr ?_
       refine AL.step (Yk (dd:=39) rfl rfl (by decide) rfl ?_)
       refine D3 ?_
       simp (disch:=omega) only [amL,sA,↓reduceIte]
       refine hK9 _ ?_
       refine Aa fun K10 hK10=>?_
       refine Aa fun K11 hK11=>?_
       refine Ab ?_
       simp (disch:=omega) only [amL,amT,sA,sF,↓reduceIte,reduceCtorEq]
       refine hK11 _ ?_
       refine Ak ?_
       skip
       refine A5 (α:=Nat) (fun k=>⟨T [(0,.p (.sl (l.map Jj))),(3,.p (.sl (b.map J4))),(5,.ptr 5 0),(6,.ptr 6 0),(11,.mp 39),(12,i64 (sp.lo+k))],O [(5,.cells [i64 g.lo,i64 g.hi]),(6,.cells [i64 sp.lo,i64 sp.hi]),(39,.obj (Ab8 (Ato l g sp k)))]⟩) (fun k=>Sv sp - k) (fun k=>k≤Sv sp) 0 ?_ ?_ (fun k hx12 K12 hK12=>?_)
       · exact Nat.zero_le _
       · refine B0 ?_ ?_ ?_ ?_ <;> (try simp (disch:=omega) only [amL,sF,sG,↓reduceIte,reduceCtorEq]); all_goals first | rfl | trace_state
       have hk:=hx12
       refine Aa fun K13 hK13=>?_
       refine Aa fun K14 hK14=>?_
       refine Ab ?_
       simp (disch:=omega) only [amL,amT,sA,sF,↓reduceIte,reduceCtorEq]
       refine hK14 _ ?_
       refine Ag rfl (fun h=>?_) (fun h=>?_)
       ·first
        | exact Bool.noConfusion h
        |skip
         try simp only [decide_eq_true_eq] at h
         refine Ah ?_
         refine hK13 _ ?_
         refine Aa fun K15 hK15=>?_
         refine Ak ?_
         refine Aa fun K16 hK16=>?_
         refine Ab ?_
         simp (disch:=omega) only [amL,amT,sA,sF,↓reduceIte,reduceCtorEq]
         refine hK16 _ ?_
         refine Ak ?_
         skip
         refine A5 (α:=Nat) (fun j=>⟨T [(0,.p (.sl (l.map Jj))),(3,.p (.sl (b.map J4))),(5,.ptr 5 0),(6,.ptr 6 0),(11,.mp 39),(12,i64 (sp.lo+k)),(13,i64 (g.lo+j))],O [(5,.cells [i64 g.lo,i64 g.hi]),(6,.cells [i64 sp.lo,i64 sp.hi]),(39,.obj (Ab8 (Bat l g.lo (sp.lo+k) j++Ato l g sp k)))]⟩) (fun j=>Sv g - j) (fun j=>j≤Sv g) 0 ?_ ?_ (fun j hx17 K17 hK17=>?_)
         · exact Nat.zero_le _
         · refine B0 ?_ ?_ ?_ ?_ <;> (try simp (disch:=omega) only [amL,sF,sG,↓reduceIte,reduceCtorEq]); all_goals first | rfl | trace_state
         have hj:=hx17
         refine Aa fun K18 hK18=>?_
         refine Aa fun K19 hK19=>?_
         refine Ab ?_
         simp (disch:=omega) only [amL,amT,sA,sF,↓reduceIte,reduceCtorEq]
         refine hK19 _ ?_
         refine Ag rfl (fun h=>?_) (fun h=>?_)
         ·first
          | exact Bool.noConfusion h
          |skip
           try simp only [decide_eq_true_eq] at h
           refine Ah ?_
           refine hK18 _ ?_
           refine Aa fun K20 hK20=>?_
           refine Ak ?_
           have hj2:(j:Int) < 121:=by unfold Sv at hj; omega
           have hb1:=Re hok (s:=sp.lo+k) (by omega) (by omega)
           refine Dr ?_
           refine K0 ?_
           simp (disch:=omega) only [amL,sA,sF,↓reduceIte,reduceCtorEq]
           refine K0 ?_
           simp (disch:=omega) only [amL,sA,sF,↓reduceIte,reduceCtorEq]
           refine K0 ?_
           simp (disch:=omega) only [amL,sA,↓reduceIte,reduceCtorEq]
           refine K0 ?_
           simp (disch:=omega) only [amL,sA,sF,↓reduceIte,reduceCtorEq]
           refine K0 ?_
           simp (disch:=omega) only [amL,sF,↓reduceIte]
           refine Al (by kernel_rfl) rfl (Bbr hok (s:=sp.lo+k) (by omega) (by omega)) (by first | exact .inl rfl | exact .inr (.inl rfl)) ?_
           simp (disch:=omega) only [amL]
           refine K0 ?_
           simp (disch:=omega) only [amL,amT,sA,sF,↓reduceIte]
           refine AL.step (Aaz (k:=3) (e:=4) (m:=39) (n:=g.lo+j+Sm l (sp.lo+k)) rfl rfl Awd (by kernel_rfl) rfl rfl rfl (by simp [inR]; omega) rfl ?_)
           refine D3 ?_
           simp (disch:=omega) only [amL]
           refine hK20 _ ?_
           refine Ab ?_
           simp (disch:=omega) only [amL,amT,sA,sF,↓reduceIte,reduceCtorEq]
           refine hK17 (j+1) _ ?_ ?_ (B0 ?_ ?_ ?_ ?_)
           all_goals (try simp (disch:=omega) only [amL,sF,sG,↓reduceIte,reduceCtorEq])
           all_goals first | rfl | (unfold Sv at *; omega) | exact congrArg i64 (by omega) | trace_state
         ·first
          | exact Bool.noConfusion h
          |skip
           try simp only [decide_eq_false_iff_not] at h
           refine Bc ?_
           refine hK15 _ ?_
           refine Ab ?_
           simp (disch:=omega) only [amL,amT,sA,sF,↓reduceIte,reduceCtorEq]
           refine hK12 (k+1) _ ?_ ?_ (B0 ?_ ?_ ?_ ?_)
           all_goals (try simp (disch:=omega) only [amL,sF,sG,↓reduceIte,reduceCtorEq])
           all_goals first | (unfold Sv at *; omega) | ((obtain rfl:j=Sv g:=by unfold Sv at *; omega) ; rfl) | exact congrArg i64 (by omega) | trace_state
       ·first
        | exact Bool.noConfusion h
        |skip
         try simp only [decide_eq_false_iff_not] at h
         refine Bc ?_
         refine hK10 _ ?_
         refine Aa fun K21 hK21=>?_
         refine Ab ?_
         obtain rfl:k=Sv sp:=by unfold Sv at *; omega
         simp (disch:=omega) only [amL,sA]
         refine hK21 _ ?_
         refine Aa fun K22 hK22=>?_
         refine Aa fun K23 hK23=>?_
         refine Ab ?_
         simp (disch:=omega) only [amL,amT,sA,sF,↓reduceIte,reduceCtorEq]
         refine hK23 _ ?_
         refine Ak ?_
         refine Alw 39 rfl (fun ob hob=>?_)
         obtain ⟨es,clock,rfl,hE⟩:=Auj hob
         refine He 81 1 14 (by decide) rfl rfl ?_
         refine A5 (α:=Nat) (fun i=>⟨T [(11,.mp 39),(14,.own 81 (J2 (Qb l g sp) b i).length),(62,.p (.sl (b.map J4))),(63,i64 b.length),(64,i64 (i:Int))],O [(39,.obj (Zl es clock)),(81,.arr 1 ((J2 (Qb l g sp) b i).map Atv))]⟩) (fun i=>b.length - i) (fun i=>i≤b.length) 0 ?_ ?_ (fun i hx24 K24 hK24=>?_)
         · exact Nat.zero_le _
         · refine B0 ?_ ?_ ?_ ?_ <;> (try simp (disch:=omega) only [amL,sF,sG,↓reduceIte,reduceCtorEq]); all_goals first | rfl | exact ⟨rfl,rfl⟩ | trace_state
         have hi:=hx24
         refine Aa fun K25 hK25=>?_
         refine Ab ?_
         simp (disch:=omega) only [amL,amT,sA,sF,↓reduceIte]
         refine hK25 _ ?_
         refine Aa fun K26 hK26=>?_
         refine Ag rfl (fun h=>?_) (fun h=>?_)
         ·first
          | exact Bool.noConfusion h
          |skip
           try simp only [decide_eq_true_eq] at h
           refine Ah ?_
           refine hK26 _ ?_
           refine Aa fun K27 hK27=>?_
           refine Ak ?_
           refine Aa fun K28 hK28=>?_
           refine Ab ?_
           simp (disch:=omega) only [Bu,amL,amT,sA,sB,sF,↓reduceIte]
           refine hK28 _ ?_
           refine Aa fun K29 hK29=>?_
           refine Dr ?_
           refine K0 ?_
           simp (disch:=omega) only [amL,sA,sF,↓reduceIte]
           refine AL.step (Ac0 (k:=3) (e:=4) (dd:=70) rfl rfl (by decide) rfl Awd rfl rfl ?_)
           refine D3 ?_
           simp (disch:=omega) only [amL]
           refine hK29 _ ?_
           refine Ak ?_
           skip
           refine A5 (α:=Array Nat × Nat) (fun x=>⟨T [(11,.mp 39),(14,.own 81 (J2 (Qb l g sp) b i).length),(15,i64 (i:Int)),(16,.ptr 16 0),(62,.p (.sl (b.map J4))),(63,i64 b.length),(64,i64 (i:Int)),(70,.ptr 70 0)],O [(16,.cells [i64 (b.getD i default).lo,i64 (b.getD i default).hi]),(39,.obj (Zl es clock)),(81,.arr 1 ((J2 (Qb l g sp) b i).map Atv)),(70,.it 39 (Ug clock x.1 x.2))]⟩) (fun x=>(F7 es x.1).size) (fun x=>clock≤x.2∧Vw (Ko (b.getD i default)) es x.1) (#[],clock) ?_ ?_ (fun x hx30 K30 hK30=>?_)
           · exact ⟨Nat.le_refl _,Agu⟩
           · refine B0 ?_ ?_ ?_ ?_ <;> (try simp (disch:=omega) only [amL,sF,sG,↓reduceIte]); all_goals first | rfl | trace_state
           obtain ⟨seen,last⟩:=x; dsimp only at hx30 ⊢; obtain ⟨hcl0,hns⟩:=hx30
           refine Aa fun K31 hK31=>?_
           refine Ahf (ι:=Bool × Array Nat × Nat) (fun z=>[(11,.mp 39),(14,.own 81 (J2 (Qb l g sp) b i).length),(15,i64 (i:Int)),(16,.ptr 16 0),(62,.p (.sl (b.map J4))),(63,i64 b.length),(64,i64 (i:Int)),(70,.ptr 70 0),(72,bl z.1)]) (fun z=>[(16,.cells [i64 (b.getD i default).lo,i64 (b.getD i default).hi]),(39,.obj (Zl es clock)),(81,.arr 1 ((J2 (Qb l g sp) b i).map Atv)),(70,.it 39 (Ug clock z.2.1 z.2.2))]) (fun z=>(z.1=false∧(F7 es seen).size=0)∨(z.1=true∧∃ e ∈ (F7 es seen).toList,z.2.1=seen.push e.born∧z.2.2=clock)) hK31 (fun _=>rfl) (fun _=>rfl) ?_ (fun z hz K31 hK31=>?_)
           · refine Dr ?_
             refine AL.step (Agk (m:=39) (ri:=70) rfl (fun k hk=>by cases hk; decide) rfl rfl rfl hE.old hcl0 (fun e he=>by obtain ⟨h1,k,h2,_⟩:=hE.key e he; rw [h1,h2]; exact ⟨rfl,rfl⟩) (fun h0=>?_) (fun e he=>?_))
             · refine D3 ?_
               simp (disch:=omega) only [amL,sA,↓reduceIte]
               refine ⟨(false,seen,last),.inl ⟨rfl,h0⟩,rfl,⟨rfl,rfl,rfl,rfl,rfl,rfl,rfl,rfl,rfl,trivial⟩,⟨rfl,rfl,rfl,rfl,trivial⟩⟩
             · refine D3 ?_
               simp (disch:=omega) only [amL,sA,↓reduceIte]
               refine ⟨(true,seen.push e.born,clock),.inr ⟨rfl,e,he,rfl,rfl⟩,rfl,⟨rfl,rfl,rfl,rfl,rfl,rfl,rfl,rfl,rfl,trivial⟩,⟨rfl,rfl,rfl,rfl,trivial⟩⟩
           obtain ⟨zb,seen2,last2⟩:=z
           dsimp only at hz ⊢
           refine hK31 _ ?_
           refine Aa fun K32 hK32=>?_
           refine Ag rfl (fun h=>?_) (fun h=>?_)
           ·first
            | exact Bool.noConfusion h
            |skip
             try simp only [Bool.not_eq_true',decide_eq_true_eq,decide_eq_false_iff_not,Bool.and_eq_true,Bool.not_eq_false',Bool.not_not,decide_not,Bool.not_true,Bool.not_false] at h
             refine Ah ?_
             refine hK32 _ ?_
             refine Ak ?_
             refine Aa fun K33 hK33=>?_
             obtain ⟨hz0,e,he,rfl,rfl⟩:zb=true∧∃ e ∈ (F7 es seen).toList,seen2=seen.push e.born∧clock=last2:=by
               rcases hz with hz | ⟨hz,e,he,h1,h2⟩
               · rw [hz.1] at h; cases h
               · exact ⟨hz,e,he,h1,h2.symm⟩
             obtain ⟨g1,n,g2,g3,g4⟩:=hE.key e (Wp he).1
             refine Dr ?_
             refine AL.step (Ad0 (m:=39) (ri:=70) (e:=e) rfl (fun k hk=>by cases hk; decide) rfl rfl rfl (Wp he).1 hE.nd (by rw [g2]; rfl) (by rw [g1]; rfl) ?_)
             rw [g2]
             refine D3 ?_
             simp (disch:=omega) only [amL,sA,↓reduceIte]
             refine hK33 _ ?_
             refine Aa fun K34 hK34=>?_
             refine Ab ?_
             simp (disch:=omega) only [amL,amT,sA,sB,sF,↓reduceIte]
             repeat' first | (refine Al (by kernel_rfl) rfl (Ajp (b.getD i default) n) (by first | exact .inl rfl | exact .inr (.inl rfl)) ?_ ; simp (disch:=omega) only [amL])
             refine hK34 _ ?_
             refine Ag rfl (fun h=>?_) (fun h=>?_)
             ·first
              | exact Bool.noConfusion h
              |skip
               try simp only [Bool.not_eq_true',decide_eq_true_eq,decide_eq_false_iff_not,Bool.and_eq_true,Bool.not_eq_false',Bool.not_not,decide_not,Bool.not_true,Bool.not_false] at h
               refine Aa fun K35 hK35=>?_
               refine Ab ?_
               have hol:=Asp (S:=Qb l g sp) (b:=b) (k:=i)
               simp (disch:=omega) only [amL,amT,sA,sE,sF,↓reduceIte,reduceCtorEq]
               refine hK35 _ ?_
               refine Bc ?_
               refine hK27 _ ?_
               refine Ab ?_
               simp (disch:=omega) only [amL,amT,sA,sF,↓reduceIte]
               refine hK24 (i+1) _ ?_ ?_ (B0 ?_ ?_ ?_ ?_)
               all_goals (try simp (disch:=omega) only [amL,sF,sG,↓reduceIte])
               all_goals first | omega | (have e9:J2 (Qb l g sp) b (i+1)=J2 (Qb l g sp) b i:=Ajt (b:=b) (k:=i) (Vr hE hns (hz.elim (fun q=>q.2) (fun q=>by rw [q.1] at h; cases h))) ; rw [e9]; done) | (have e9:J2 (Qb l g sp) b (i+1)=J2 (Qb l g sp) b i++[i]:=Ae0 (List.any_eq_true.2 ⟨n,g3,h⟩) ; rw [e9] ; first | (rw [List.length_append]; rfl) | (rw [List.length_append]; exact ⟨rfl,rfl⟩) | (rw [List.map_append]; exact ⟨rfl,rfl⟩)) | trace_state
             ·first
              | exact Bool.noConfusion h
              |skip
               try simp only [Bool.not_eq_true',decide_eq_true_eq,decide_eq_false_iff_not,Bool.and_eq_true,Bool.not_eq_false',Bool.not_not,decide_not,Bool.not_true,Bool.not_false] at h
               refine Ah ?_
               refine hK30 (seen.push e.born,clock) _ ?_ ?_ (B0 ?_ ?_ ?_ ?_)
               all_goals (try simp (disch:=omega) only [amL,sF,sG,↓reduceIte])
               all_goals first | exact Adm hE hns (Wp he).1 g2 (by assumption) | exact Aj8 he | trace_state
           ·first
            | exact Bool.noConfusion h
            |skip
             try simp only [Bool.not_eq_true',decide_eq_true_eq,decide_eq_false_iff_not,Bool.and_eq_true,Bool.not_eq_false',Bool.not_not,decide_not,Bool.not_true,Bool.not_false] at h
             refine Bc ?_
             refine hK27 _ ?_
             refine Ab ?_
             simp (disch:=omega) only [amL,amT,sA,sF,↓reduceIte]
             refine hK24 (i+1) _ ?_ ?_ (B0 ?_ ?_ ?_ ?_)
             all_goals (try simp (disch:=omega) only [amL,sF,sG,↓reduceIte])
             all_goals first | omega | (have e9:J2 (Qb l g sp) b (i+1)=J2 (Qb l g sp) b i:=Ajt (b:=b) (k:=i) (Vr hE hns (hz.elim (fun q=>q.2) (fun q=>by rw [q.1] at h; cases h))) ; rw [e9]; done) | (have e9:J2 (Qb l g sp) b (i+1)=J2 (Qb l g sp) b i++[i]:=Ae0 (List.any_eq_true.2 ⟨n,g3,h⟩) ; rw [e9] ; first | (rw [List.length_append]; rfl) | (rw [List.length_append]; exact ⟨rfl,rfl⟩) | (rw [List.map_append]; exact ⟨rfl,rfl⟩)) | trace_state
         ·first
          | exact Bool.noConfusion h
          |skip
           try simp only [decide_eq_false_iff_not] at h
           refine Bc ?_
           refine hK22 _ ?_
           refine Aa fun K36 hK36=>?_
           refine Ab ?_
           simp (disch:=omega) only [amL,sA,sF,↓reduceIte]
           refine hK36 _ ?_
           refine Ae ?_
           try simp (disch:=omega) only [amL,sF,↓reduceIte]
           all_goals first | (rw [Ll,if_pos (by assumption)]; done) | (rw [Ll,if_neg (by omega),if_neg (Q5 (by first | exact .inl (by assumption) | exact .inr (.inl (by assumption)) | exact .inr (.inr (by assumption))))]; done) | ((obtain rfl:i=b.length:=by omega) ; rw [Ll,if_neg (by omega),if_pos hmb,List.take_of_length_le (by simp)]; done) | trace_state
theorem c_wort (g k:Int):Bj Tryz.prog 82 [i64 g,i64 k] (bl (Pm g k)):=by
  refine A7 (v:=[]) (q:=[]) (N:=12) (rs:=[.tmp 4]) Tryz.func82 rfl rfl rfl rfl rfl ?_
  refine Aa fun K1 hK1=>?_
  refine Ab ?_
  simp (disch:=omega) only [amL,sA,sB]
  refine hK1 _ ?_
  refine Aa fun K2 hK2=>?_
  refine Ab ?_
  simp (disch:=omega) only [amL,sA,↓reduceIte,reduceCtorEq]
  repeat' first | (refine Cn (fun h=>?_) (fun h=>?_) <;> simp (disch:=omega) only [h,amL,amT,sA,sB,sC,sD,sE,sF,sG,sH,sI,sJ,sK,sL,sM,sN,sO,↓reduceIte,reduceCtorEq]) | (refine Bo (fun h=>?_) (fun h=>?_) <;> simp (disch:=omega) only [h,amL,sA,sF,↓reduceIte]) | (refine Al (by kernel_rfl) rfl (Md _ _ _) (by first | exact .inl rfl | exact .inr (.inl rfl)) ?_ ; simp (disch:=omega) only [amL,sA,↓reduceIte]) | (refine Al (by kernel_rfl) rfl (Aj6) (by first | exact .inl rfl | exact .inr (.inl rfl)) ?_ ; simp (disch:=omega) only [amL,sA,sF,↓reduceIte,reduceCtorEq]) | (refine Al (by kernel_rfl) rfl (Ajp ⟨_,_⟩ _) (by first | exact .inl rfl | exact .inr (.inl rfl)) ?_ ; simp (disch:=omega) only [amL,sA,sF,↓reduceIte])
  all_goals
   skip
   refine hK2 _ ?_
   refine Ae ?_
   try simp (disch:=omega) only [amL,↓reduceIte]
   all_goals simp_all [Pm,Ko]
theorem Aun {g k:Int} {l:Liq} {n1 n2:Nat} {os:Nat→Option AO} {bd:Nat} (hl:Ss l) (h1:os n1=some (.cells [i64 g])) (h2:os n2=some (.cells [i64 k])) :
    Bt Tryz.prog bd (.fn (.func 117) [] [.ptr n1 0,.ptr n2 0]) [avL l] os fun res os'=>res=bl (decide (l.g=g)&&decide (Nf l=k))∧os'=os:=by
  refine Ck (v:=[]) (q:=[]) (N:=15) (rs:=[.tmp 4]) Tryz.func117 rfl (by kernel_rfl) rfl rfl (fun hcl hfree=>?_)
  have hfr0:∀ k,os (bd+k)=none:=fun k=>hfree _ (by omega)
  have b1:=Au hfree h1
  have b2:=Au hfree h2
  refine Aa fun K1 hK1=>?_
  refine Ab ?_
  simp (disch:=omega) only [hfr0,amL,sA,sB,↓reduceIte]
  refine hK1 _ ?_
  refine Aa fun K2 hK2=>?_
  refine Bg (by kernel_rfl) (by kernel_rfl) ?_
  simp (disch:=omega) only [h1,Ad,amL,amT,sA,sF,↓reduceIte,reduceCtorEq]
  repeat' first | (refine Cn (fun h=>?_) (fun h=>?_) <;> simp (disch:=omega) only [h,amL,amT,sA,sB,sF,↓reduceIte]) | (refine Bo (fun h=>?_) (fun h=>?_) <;> simp (disch:=omega) only [h,h1,h2,hfr0,Ad,amL,amT,sA,sB,sC,sD,sE,sF,sG,sH,sI,sJ,sK,sL,sM,sN,sO,↓reduceIte,reduceCtorEq]) | (refine Al (by kernel_rfl) rfl (Zx ⟨g,l.e⟩ (by rw [← h]; exact hl)) (by first | exact .inl rfl | exact .inr (.inl rfl)) ?_ ; simp (disch:=omega) only [h2,Ad,amL,amT,sA,sF,↓reduceIte,reduceCtorEq])
  all_goals
   skip
   refine hK2 _ ?_
   refine Ae ?_
   try simp (disch:=omega) only [amL]
   all_goals (refine Ba (res:=bl _) os (by simp (disch:=omega) only [amL,↓reduceIte]; try rfl) (by first | ((repeat' first | exact Sub.refl _ | refine Sub.skip (by first | exact hfr0 _ | (simp (disch:=omega) only [Ad]; exact hfr0 _)) ?_ | refine Sub.both ?_); done) | fail) hcl (AV.lives_p _ _) ⟨?_,rfl⟩ ; first | (subst h ; simp; done) | (simp [h]; done) | trace_state)
theorem sfL:Pe Tryz.prog 125 118 191 3 4 135 116:=⟨⟨_,Tryz.func135,rfl,rfl,rfl,by kernel_rfl⟩,⟨_,Tryz.func116,rfl,rfl,rfl,by kernel_rfl⟩⟩
theorem Baz {g k:Int} {l:List Liq} {n1 n2:Nat} (hl:∀ x ∈ l,Ss x):H7 Tryz.prog (.fn (.func 117) [] [.ptr n1 0,.ptr n2 0]) (fun n=>n=n1∨n=n2) avL l (fun (_:Unit) os=>os n1=some (.cells [i64 g])∧os n2=some (.cells [i64 k])) (fun _ x=>((),decide (x.g=g)&&decide (Nf x=k))) where
  live s os h:=by rw [Gr,Dd,C7,C7,Dd,Dy,Dy,h.1,h.2]; exact ⟨trivial,rfl,rfl,trivial⟩
  stable s os os' h h2:=⟨(h2 n1 (.inl rfl)).trans h.1,(h2 n2 (.inr rfl)).trans h.2⟩
  foot s os n h hn:=by
    rcases hn with rfl | rfl
    · exact ⟨_,h.1,fun m hm=>by simp [AO.clean,AV.clean,AV.clean.cleanL] at hm⟩
    · exact ⟨_,h.2,fun m hm=>by simp [AO.clean,AV.clean,AV.clean.cleanL] at hm⟩
  call s x os bd hx h _:=by
    refine Bt.mono (Aun (hl x hx) h.1 h.2) ?_
    rintro r os' ⟨rfl,rfl⟩
    exact ⟨rfl,h,fun _ _=>rfl⟩
theorem Ave {v:List Liq} {n:Nat} {g k:Int} {n0 n1 n2:Nat} {os:Nat→Option AO} {bd:Nat} (hw:Hz v) (hv4:v.length=4) (hn:n≤4) (h0:os n0=some (.cells (cW v))) (h1:os n1=some (.cells [i64 g])) (h2:os n2=some (.cells [i64 k])) (d1:n0≠n1) (d2:n0≠n2) :
    Bt Tryz.prog bd (.fn (.func 116) [] []) [.csl n0 0 2 n,.fn (.func 117) [] [.ptr n1 0,.ptr n2 0]] os fun res os'=>res=bl (W1 n v g k)∧os'=os:=by
  have hlen:(v.take n).length=n:=by rw [List.length_take]; omega
  have hgd:∀ i,i < n→(v.take n).getD i default=v.getD i default:=fun i hi=>by
    simp only [List.getD]; rw [List.getElem?_take,if_pos hi]
  have ht:=Baz (g:=g) (k:=k) (l:=v.take n) (n1:=n1) (n2:=n2) (fun x hx=>by
    obtain ⟨i,hi,rfl⟩:=List.getElem_of_mem hx
    rw [List.getElem_eq_getD (fallback:=default),hgd i (by omega)]; exact hw i)
  have hc:=Bb5 (tS:=125) (sz:=2) (bd:=bd) (s:=()) (os:=os) (nb:=n0) (cs:=cW v) (by simp only [amT]) (by simp only [amT]; rfl) (by simp only [amT]) sfL (by omega) ht ⟨h1,h2⟩ h0 (fun h=>h.elim d1 d2) (fun i hi=>by rw [hgd i (by omega)]; exact Ma (by omega))
  rw [hlen] at hc
  refine Bt.mono hc ?_
  rintro r os' ⟨h1',h2',h3'⟩
  rw [Ac8] at h1'
  refine ⟨h1',funext fun q=>?_⟩
  by_cases e1:q=n1
  · subst e1; rw [h2'.1,h1]
  · by_cases e2:q=n2
    · subst e2; rw [h2'.2,h2]
    · exact h3' q (fun h=>h.elim e1 e2)
theorem Amf {r:RB} {N:Nat} {s:St} {K:St→Prop} {dst:Option Nat} {ty:TypeId} {pos:String} {after:Array Edge} {g:Option (Nat × Bool)} {x:Operand} {lo hi:Option Operand}:EO Tryz.prog r N ⟨dst,.slice 120 x lo hi none,ty,pos,after,g⟩ s K=EOp r.b N dst s K (Avd (fun e=>(Ac Tryz.prog e).sz) (fun e=>(Ac Tryz.prog e).agg) 4 118 (ev s.t x) (Bk (ev s.t) 0 lo) (Bk (ev s.t) 4 hi)):=Y7 (by rw [Aji])
theorem Auw {vs:List Ves} {ss:List Stp} {v:List Liq} {g k:Int} {nw m:Nat} {os:Nat→Option AO} {bd:Nat} (ow:os nw=some (.cells [.p (slV vs),.p (slS ss),.mp m])) (hvs:vs.length≤4) (hw:Hz v) (hv4:v.length=4) :
    Bt Tryz.prog bd (.fn (.func 84) [] []) [.ptr nw 0,avW v,i64 g,i64 k] os fun res os'=>res=bl (W1 vs.length v g k)∧os'=os:=by
  refine Ck (v:=[116]) (q:=[]) (N:=18) (rs:=[.tmp 8]) Tryz.func84 rfl (by kernel_rfl) rfl rfl (fun hcl hfree=>?_)
  have hfr0:∀ k,os (bd+k)=none:=fun k=>hfree _ (by omega)
  have hlw:=Au hfree ow
  refine Aa fun K1 hK1=>?_
  refine Ab ?_
  simp (disch:=omega) only [hfr0,Ad,amL,sA,sB,sF,↓reduceIte,reduceCtorEq]
  refine hK1 _ ?_
  refine Aa fun K2 hK2=>?_
  refine Ab ?_
  simp (disch:=omega) only [ow,Ad,Amf,Cm,Bw,Bx,Cl,Int.sub_zero,Int.toNat_natCast,amL,amT,sA,sF,sH,sK,sL,sN,↓reduceIte,reduceCtorEq]
  refine A6 [] (by decide) (Ave (v:=v) (n:=vs.length) (g:=g) (k:=k) (bd:=bd+18) hw hv4 hvs (by simp (disch:=omega) only [Ad,amL]) (by simp (disch:=omega) only [Ad,amL]) (by simp (disch:=omega) only [amL]) (by omega) (by omega)) (fun q hq=>by simp (disch:=omega) only [Ad]; exact hfree q (by omega)) (Nat.le_add_right _ _) (fun res os2 hR hcl2 hlv2=>?_)
  obtain ⟨rfl,rfl⟩:=hR
  simp (disch:=omega) only [amL,sA,↓reduceIte]
  refine hK2 _ ?_
  refine Ae ?_
  try simp (disch:=omega) only [amL]
  refine Ba (res:=bl _) os (by simp (disch:=omega) only [amL,↓reduceIte]; try rfl) (by first | ((repeat' first | exact Sub.refl _ | refine Sub.skip (by first | exact hfr0 _ | (simp (disch:=omega) only [Ad]; exact hfr0 _)) ?_ | refine Sub.both ?_); done) | fail) hcl (AV.lives_p _ _) ⟨rfl,rfl⟩
theorem Auh {v:List Liq} {nw:Nat} {os:Nat→Option AO} {bd:Nat} (hw:(os nw).isSome=true) :
    Bt Tryz.prog bd (.fn (.func 85) [] []) [.ptr nw 0,avW v] os fun res os'=>res=.fn (.func 118) [] [.ptr (bd+2) 0,.ptr (bd+3) 0]∧os'=upd (upd os (bd+2) (some (.cells [.ptr nw 0]))) (bd+3) (some (.cells (cW v))):=by
  refine Ck (v:=[]) (q:=[]) (N:=6) (rs:=[.tmp 4]) Tryz.func85 rfl (by kernel_rfl) rfl rfl (fun hcl hfree=>?_)
  have hfr0:∀ k,os (bd+k)=none:=fun k=>hfree _ (by omega)
  have hb:nw < bd:=by
    cases Nat.lt_or_ge nw bd with
    | inl h=>exact h
    | inr h=>rw [hfree nw h] at hw; cases hw
  refine Aa fun K1 hK1=>?_
  refine Ab ?_
  simp (disch:=omega) only [hfr0,Ad,amL,sA,sB,sF,↓reduceIte,reduceCtorEq]
  refine hK1 _ ?_
  refine Aa fun K2 hK2=>?_
  refine Ab ?_
  simp (disch:=omega) only [amL,sA,sF,↓reduceIte]
  refine hK2 _ ?_
  refine Ae ?_
  try simp (disch:=omega) only [amL]
  refine Ba (res:=.fn (.func 118) [] [.ptr (bd+2) 0,.ptr (bd+3) 0]) (upd (upd os (bd+2) (some (.cells [.ptr nw 0]))) (bd+3) (some (.cells (cW v)))) (by simp (disch:=omega) only [amL,↓reduceIte]; try rfl) (Sub.refl _) (Fa (De hcl ?_)) ?_ ⟨rfl,rfl⟩
  · rw [En]; simp (disch:=omega) only [Dd,C7,Dy,Ad,hw,and_self]
  · rw [Gr]; simp (disch:=omega) only [Dd,C7,Dy,Ad,Bp,Option.isSome_some,and_self]
theorem Kd {f t n:Nat} {c:Nat} (h:n < c):Qn f t (c - n) n=C8 f t n :: Qn f t (c - (n+1)) (n+1):=by
  rw [show c - n=(c - (n+1))+1 by omega]; rfl
theorem Zf {f t n:Nat} {c:Nat} (h:c≤n):Qn f t (c - n) n=[]:=by rw [show c - n=0 by omega]; rfl
theorem U8 {vs:List Ves} {v:List Liq} {f t:Nat} {c:Nat} (h:t < c):N0 vs v f (c - t) t=Qn f t ((Ei vs v f t).toNat - 0) 0++N0 vs v f (c - (t+1)) (t+1):=by
  rw [show c - t=(c - (t+1))+1 by omega]; rfl
theorem Ake {vs:List Ves} {v:List Liq} {f t:Nat} {c:Nat} (h:c≤t):N0 vs v f (c - t) t=[]:=by rw [show c - t=0 by omega]; rfl
theorem Aib {vs:List Ves} {v:List Liq} {f:Nat} {c:Nat} (h:f < c):Pg vs v (c - f) f=N0 vs v f (vs.length - 0) 0++Pg vs v (c - (f+1)) (f+1):=by
  rw [show c - f=(c - (f+1))+1 by omega]; rfl
theorem Tq {vs:List Ves} {v:List Liq} {f:Nat} {c:Nat} (h:c≤f):Pg vs v (c - f) f=[]:=by rw [show c - f=0 by omega]; rfl
theorem Aoz {vs:List Ves} {ss:List Stp} {v:List Liq} {n1 n2 nw m:Nat} {yv:AV} {F:Nat→Prop} {σ:Type} {go:σ→Prop} {I:σ→(Nat→Option AO)→Prop} {step:σ→Stp→σ × Bool} (hY:Ai8 Tryz.prog yv F avS (Gi vs v) go I step) (hst:∀ s os,I s os→os n1=some (.cells [.ptr nw 0])∧os n2=some (.cells (cW v))∧os nw=some (.cells [.p (slV vs),.p (slS ss),.mp m])) (hv:OkV v) (hvs:vs.length≤4) (hva:vs.all Df=true) {s:σ} {os:Nat→Option AO} {bd:Nat} (hg:go s) (hI:I s os) :
    Bt Tryz.prog bd (.fn (.func 118) [] [.ptr n1 0,.ptr n2 0]) [yv] os fun res os'=>res=.tup []∧I (Gk step s (Gi vs v)).1 os'∧∀ n,¬ F n→os' n=os n:=by
  refine Ck (v:=[]) (q:=[]) (N:=66) (rs:=[]) Tryz.func118 rfl (by kernel_rfl) rfl rfl (fun hcl hfree=>?_)
  have hF:∀ n,F n→n < bd:=fun n hn=>by obtain ⟨o,h,_⟩:=hY.foot s os n hI hn; exact Au hfree h
  have hfreeI:∀ (os1:Nat→Option AO),(∀ n,¬ F n→os1 n=os n)→∀ n,bd≤n→os1 n=none:=fun os1 h2 n hn=>by
    rw [h2 n (fun h=>by have:=hF n h; omega)]; exact hfree n hn
  have hl4:=hv.len
  have hlv:=hY.live _ _ hI
  obtain ⟨z1,z2,zw⟩:=hst _ _ hI
  have b1:=Au hfree z1
  have b2:=Au hfree z2
  have bw:=Au hfree zw
  refine Aa fun K1 hK1=>?_
  refine Ab ?_
  simp (disch:=omega) only [z1,zw,amL,amT,sA,sB,↓reduceIte,reduceCtorEq]
  refine hK1 _ ?_
  refine Ak ?_
  skip
  refine A5 (α:=Nat × σ × (Nat→Option AO)) (fun x=>⟨T [(0,yv),(1,.ptr n1 0),(2,.ptr n2 0),(15,i64 vs.length),(16,i64 (x.1:Int))],x.2.2⟩) (fun x=>vs.length - x.1) (fun x=>x.1≤vs.length∧go x.2.1∧I x.2.1 x.2.2∧(Hp x.2.2).closed∧(∀ n,¬ F n→x.2.2 n=os n)∧Gk step x.2.1 (Pg vs v (vs.length - x.1) x.1)=Gk step s (Gi vs v)) (0,s,os) ?_ ?_ (fun x hx2 K2 hK2=>?_)
  · exact ⟨by simp,hg,hI,hcl,fun _ _=>rfl,rfl⟩
  · refine Gx ?_ ?_ ?_ ?_ <;> (try simp (disch:=omega) only [amL,sF,↓reduceIte,reduceCtorEq]); all_goals first | exact Sub.refl _ | exact hcl | exact ⟨hlv,by rw [z1]; rfl,by rw [z2]; rfl⟩ | trace_state
  obtain ⟨f,s1,os1⟩:=x; dsimp only at hx2 ⊢; obtain ⟨hk,hg1,hI1,hcl1,hfrm1,hall⟩:=hx2; obtain ⟨o1,o2,ow⟩:=hst _ _ hI1; have hlv1:=hY.live _ _ hI1
  refine Aa fun K3 hK3=>?_
  refine Ab ?_
  simp (disch:=omega) only [amL,amT,sA,sF,↓reduceIte,reduceCtorEq]
  refine hK3 _ ?_
  refine Aa fun K4 hK4=>?_
  refine Ag rfl (fun h=>?_) (fun h=>?_)
  ·first
   | exact Bool.noConfusion h
   |skip
    try simp only [decide_eq_true_eq] at h
    refine Ah ?_
    refine hK4 _ ?_
    refine Aa fun K5 hK5=>?_
    refine Ak ?_
    refine Aa fun K6 hK6=>?_
    refine Ab ?_
    simp (disch:=omega) only [amL,sA,sF,↓reduceIte,reduceCtorEq]
    refine hK6 _ ?_
    refine Aa fun K7 hK7=>?_
    refine Ab ?_
    simp (disch:=omega) only [o1,ow,amL,amT,sA,sF,↓reduceIte,reduceCtorEq]
    refine hK7 _ ?_
    refine Ak ?_
    skip
    refine A5 (α:=Nat × σ × (Nat→Option AO)) (fun x=>⟨T [(0,yv),(1,.ptr n1 0),(2,.ptr n2 0),(15,i64 vs.length),(16,i64 (f:Int)),(4,i64 (f:Int)),(23,.p (slV vs)),(24,i64 vs.length),(25,i64 (x.1:Int))],x.2.2⟩) (fun x=>vs.length - x.1) (fun x=>x.1≤vs.length∧go x.2.1∧I x.2.1 x.2.2∧(Hp x.2.2).closed∧(∀ n,¬ F n→x.2.2 n=os n)∧Gk step x.2.1 (N0 vs v f (vs.length - x.1) x.1++Pg vs v (vs.length - (f+1)) (f+1))=Gk step s (Gi vs v)) (0,s1,os1) ?_ ?_ (fun x hx8 K8 hK8=>?_)
    · exact ⟨Nat.zero_le _,hg1,hI1,hcl1,hfrm1,by have e:=hall; rw [Aib (by omega)] at e; exact e⟩
    · refine Gx ?_ ?_ ?_ ?_ <;> (try simp (disch:=omega) only [amL,sF,↓reduceIte,reduceCtorEq]); all_goals first | exact Sub.refl _ | exact hcl1 | exact ⟨hlv1,by rw [o1]; rfl,by rw [o2]; rfl⟩ | trace_state
    obtain ⟨t,s2,os2⟩:=x; dsimp only at hx8 ⊢; obtain ⟨hk2,hg2,hI2,hcl2,hfrm2,hall2⟩:=hx8; obtain ⟨o1,o2,ow⟩:=hst _ _ hI2; have hfr0:∀ k,os2 (bd+k)=none:=fun k=>hfreeI os2 hfrm2 _ (by omega); have hlv2:=hY.live _ _ hI2
    refine Aa fun K9 hK9=>?_
    refine Ab ?_
    simp (disch:=omega) only [amL,amT,sA,sF,↓reduceIte,reduceCtorEq]
    refine hK9 _ ?_
    refine Aa fun K10 hK10=>?_
    refine Ag rfl (fun h=>?_) (fun h=>?_)
    ·first
     | exact Bool.noConfusion h
     |skip
      try simp only [decide_eq_true_eq] at h
      refine Ah ?_
      refine hK10 _ ?_
      refine Aa fun K11 hK11=>?_
      refine Ak ?_
      refine Aa fun K12 hK12=>?_
      refine Ab ?_
      simp (disch:=omega) only [hfr0,A0,amL,amT,sA,sB,sF,↓reduceIte,reduceCtorEq]
      refine hK12 _ ?_
      refine Aa fun K13 hK13=>?_
      refine Bg (by kernel_rfl) (by kernel_rfl) ?_
      have hrm:=Aiv hva (k:=t) (by omega)
      have hr0:=Auv hva (k:=t) (by omega)
      have g1:=hv.g f
      have g2:=hv.g t
      have hmo:Ei vs v f t≤60:=by unfold Ei A8; split <;> omega
      simp (disch:=omega) only [o2,Ad,Kn,amL,amT,sA,sF,sH,↓reduceIte,reduceCtorEq]
      refine hK13 _ ?_
      refine Aa fun K14 hK14=>?_
      refine Aa fun K15 hK15=>?_
      refine Ab ?_
      simp (disch:=omega) only [amL,amT,sA,sF,↓reduceIte,reduceCtorEq]
      refine hK15 _ ?_
      refine Ag rfl (fun h=>?_) (fun h=>?_)
      ·first
       | exact Bool.noConfusion h
       |skip
        try simp only [Bool.not_eq_true',decide_eq_false_iff_not,decide_not] at h
        refine N9 5 ?_
        simp (disch:=omega) only [o2,Ad,Kn,Tt,Ql,Mg,Kk,Gc,amL,amT,sA,sB,sE,sF,sH,↓reduceIte,reduceCtorEq]
        repeat' first | (refine Al (by kernel_rfl) rfl (Aax _ _) (by first | exact .inl rfl | exact .inr (.inl rfl)) ?_ ; simp (disch:=omega) only [amL,sA,↓reduceIte])
        refine hK14 _ ?_
        refine Aa fun K16 hK16=>?_
        refine Ab ?_
        simp (disch:=omega) only [amL,sA,sF,↓reduceIte]
        refine hK16 _ ?_
        refine Ak ?_
        skip
        refine A5 (α:=Nat × σ × (Nat→Option AO)) (fun x=>⟨T [(0,yv),(1,.ptr n1 0),(2,.ptr n2 0),(15,i64 vs.length),(16,i64 (f:Int)),(4,i64 (f:Int)),(23,.p (slV vs)),(24,i64 vs.length),(25,i64 (t:Int)),(5,i64 (t:Int)),(8,i64 (if f≠t then 0 else 1)),(47,i64 (Ei vs v f t)),(48,i64 (x.1:Int))],x.2.2⟩) (fun x=>(Ei vs v f t).toNat - x.1) (fun x=>x.1≤(Ei vs v f t).toNat∧go x.2.1∧I x.2.1 x.2.2∧(Hp x.2.2).closed∧(∀ n,¬ F n→x.2.2 n=os n)∧Gk step x.2.1 (Qn f t ((Ei vs v f t).toNat - x.1) x.1++(N0 vs v f (vs.length - (t+1)) (t+1)++Pg vs v (vs.length - (f+1)) (f+1)))=Gk step s (Gi vs v)) (0,s2,os2) ?_ ?_ (fun x hx17 K17 hK17=>?_)
        · exact ⟨Nat.zero_le _,hg2,hI2,hcl2,hfrm2,by have e:=hall2; rw [U8 (by omega),List.append_assoc] at e; exact e⟩
        · refine Gx ?_ ?_ ?_ ?_ <;> (try simp (disch:=omega) only [amL,sF,↓reduceIte,reduceCtorEq]); all_goals first | exact (by first | ((repeat' first | exact Sub.refl _ | refine Sub.skip (by first | exact hfr0 _ | (simp (disch:=omega) only [Ad]; exact hfr0 _)) ?_ | refine Sub.both ?_); done) | fail) | exact Sub.refl _ | exact hcl2 | exact ⟨hlv2,by rw [o1]; rfl,by rw [o2]; rfl⟩ | exact congrArg i64 (by unfold Ei A8; rw [if_pos (by omega)]) | exact congrArg i64 (by unfold Ei A8; rw [if_neg (by omega)]) | trace_state
        obtain ⟨n,s3,os3⟩:=x; dsimp only at hx17 ⊢; obtain ⟨hk3,hg3,hI3,hcl3,hfrm3,hall3⟩:=hx17; obtain ⟨o1,o2,ow⟩:=hst _ _ hI3; have hfr0:∀ k,os3 (bd+k)=none:=fun k=>hfreeI os3 hfrm3 _ (by omega); have hlv3:=hY.live _ _ hI3
        refine Aa fun K18 hK18=>?_
        refine Ab ?_
        simp (disch:=omega) only [amL,amT,sA,sF,↓reduceIte,reduceCtorEq]
        refine hK18 _ ?_
        refine Aa fun K19 hK19=>?_
        refine Ag rfl (fun h=>?_) (fun h=>?_)
        ·first
         | exact Bool.noConfusion h
         |skip
          try simp only [decide_eq_true_eq] at h
          refine Ah ?_
          refine hK19 _ ?_
          refine Aa fun K20 hK20=>?_
          refine Ak ?_
          refine Aa fun K21 hK21=>?_
          refine Ab ?_
          simp (disch:=omega) only [amL,sA,sF,↓reduceIte,reduceCtorEq]
          refine hK21 _ ?_
          refine Aa fun K22 hK22=>?_
          refine Ab ?_
          simp (disch:=omega) only [amL,amT,sA,sB,sE,sF,↓reduceIte,reduceCtorEq]
          have hx:C8 f t n ∈ Gi vs v:=Ae4 (by omega) (by omega) (by omega)
          have hcall:=hY.call s3 (C8 f t n) os3 bd hx hg3 hI3 hcl3
          first
            | (rw [Acx (by omega)] at hcall ; refine A6 [(0,yv),(1,.ptr n1 0),(2,.ptr n2 0),(15,i64 vs.length),(16,i64 (f:Int)),(4,i64 (f:Int)),(23,.p (slV vs)),(24,i64 vs.length),(25,i64 (t:Int)),(5,i64 (t:Int)),(8,i64 0),(47,i64 (Ei vs v f t)),(48,i64 (n:Int))] (by decide) hcall (hfreeI os3 hfrm3) (Nat.le_refl _) (fun res os4 hR hcl4 hlvr=>?_))
            | (rw [Ys (by omega)] at hcall ; refine A6 [(0,yv),(1,.ptr n1 0),(2,.ptr n2 0),(15,i64 vs.length),(16,i64 (f:Int)),(4,i64 (f:Int)),(23,.p (slV vs)),(24,i64 vs.length),(25,i64 (t:Int)),(5,i64 (t:Int)),(8,i64 1),(47,i64 (Ei vs v f t)),(48,i64 (n:Int))] (by decide) hcall (hfreeI os3 hfrm3) (Nat.le_refl _) (fun res os4 hR hcl4 hlvr=>?_))
          obtain ⟨rfl,hI4,hfr4⟩:=hR
          have hlv4:=hY.live _ _ hI4
          obtain ⟨p1,p2,pw⟩:=hst _ _ hI4
          simp (disch:=omega) only [amL,sA,sF,↓reduceIte,reduceCtorEq]
          refine ⟨⟨hlv4,by rw [p1]; rfl,by rw [p2]; rfl⟩,?_⟩
          refine hK22 _ ?_
          refine Ag rfl (fun h=>?_) (fun h=>?_)
          ·first
           | exact Bool.noConfusion h
           |skip
            try simp only [Bool.not_eq_true'] at h
            refine Ae ?_
            try simp (disch:=omega) only [amL]
            first | (refine Ba (res:=.tup []) os4 rfl (Sub.refl _) hcl4 (Bd _ rfl) ⟨rfl,?_,fun q hq=>(hfr4 q hq).trans (hfrm3 q hq)⟩ ; rw [← hall3,Kd (by omega),List.cons_append] ; simp only [Gk] ; rw [if_neg (by rw [h]; decide)] ; exact hI4) | (refine Ba (res:=.tup []) os1 rfl (Sub.refl _) hcl1 (Bd _ rfl) ⟨rfl,?_,hfrm1⟩ ; rw [← hall,Tq (by omega)] ; exact hI1) | trace_state
          ·first
           | exact Bool.noConfusion h
           |skip
            try simp only [Bool.not_eq_false'] at h
            refine Ah ?_
            refine hK20 _ ?_
            refine Ab ?_
            simp (disch:=omega) only [amL,amT,sA,sF,↓reduceIte,reduceCtorEq]
            refine hK17 (n+1,(step s3 (C8 f t n)).1,os4) _ ?_ ?_ (Gx ?_ ?_ ?_ ?_)
            all_goals (try simp (disch:=omega) only [amL,sF,↓reduceIte,reduceCtorEq])
            all_goals first | omega | exact Sub.refl _ | exact hcl4 | exact ⟨hlv4,by rw [p1]; rfl,by rw [p2]; rfl⟩ | exact ⟨by omega,hY.next _ _ hx hg3 h,hI4,hcl4,fun q hq=>(hfr4 q hq).trans (hfrm3 q hq),by have e:=hall3; rw [Kd (by omega),List.cons_append] at e; simp only [Gk] at e; rwa [if_pos h] at e⟩ | trace_state
        ·first
         | exact Bool.noConfusion h
         |skip
          try simp only [decide_eq_false_iff_not] at h
          refine Bc ?_
          refine hK11 _ ?_
          refine Ab ?_
          simp (disch:=omega) only [amL,amT,sA,sF,↓reduceIte,reduceCtorEq]
          refine hK8 (t+1,s3,os3) _ ?_ ?_ (Gx ?_ ?_ ?_ ?_)
          all_goals (try simp (disch:=omega) only [amL,sF,↓reduceIte,reduceCtorEq])
          all_goals first | omega | exact Sub.refl _ | exact hcl3 | exact ⟨hlv3,by rw [o1]; rfl,by rw [o2]; rfl⟩ | exact ⟨by omega,hg3,hI3,hcl3,hfrm3,by have e:=hall3; rw [Zf (by omega)] at e; exact e⟩ | trace_state
      ·first
       | exact Bool.noConfusion h
       |skip
        try simp only [decide_eq_true_eq,Bool.not_eq_false',decide_not] at h
        refine Ah ?_
        refine hK14 _ ?_
        refine Aa fun K23 hK23=>?_
        refine Ab ?_
        simp (disch:=omega) only [amL,sA,sF,↓reduceIte]
        refine hK23 _ ?_
        refine Ak ?_
        skip
        refine A5 (α:=Nat × σ × (Nat→Option AO)) (fun x=>⟨T [(0,yv),(1,.ptr n1 0),(2,.ptr n2 0),(15,i64 vs.length),(16,i64 (f:Int)),(4,i64 (f:Int)),(23,.p (slV vs)),(24,i64 vs.length),(25,i64 (t:Int)),(5,i64 (t:Int)),(8,i64 (if f≠t then 0 else 1)),(47,i64 (Ei vs v f t)),(48,i64 (x.1:Int))],x.2.2⟩) (fun x=>(Ei vs v f t).toNat - x.1) (fun x=>x.1≤(Ei vs v f t).toNat∧go x.2.1∧I x.2.1 x.2.2∧(Hp x.2.2).closed∧(∀ n,¬ F n→x.2.2 n=os n)∧Gk step x.2.1 (Qn f t ((Ei vs v f t).toNat - x.1) x.1++(N0 vs v f (vs.length - (t+1)) (t+1)++Pg vs v (vs.length - (f+1)) (f+1)))=Gk step s (Gi vs v)) (0,s2,os2) ?_ ?_ (fun x hx24 K24 hK24=>?_)
        · exact ⟨Nat.zero_le _,hg2,hI2,hcl2,hfrm2,by have e:=hall2; rw [U8 (by omega),List.append_assoc] at e; exact e⟩
        · refine Gx ?_ ?_ ?_ ?_ <;> (try simp (disch:=omega) only [amL,sF,↓reduceIte,reduceCtorEq]); all_goals first | exact (by first | ((repeat' first | exact Sub.refl _ | refine Sub.skip (by first | exact hfr0 _ | (simp (disch:=omega) only [Ad]; exact hfr0 _)) ?_ | refine Sub.both ?_); done) | fail) | exact Sub.refl _ | exact hcl2 | exact ⟨hlv2,by rw [o1]; rfl,by rw [o2]; rfl⟩ | exact congrArg i64 (by unfold Ei A8; rw [if_pos (by omega)]) | exact congrArg i64 (by unfold Ei A8; rw [if_neg (by omega)]) | trace_state
        obtain ⟨n,s3,os3⟩:=x; dsimp only at hx24 ⊢; obtain ⟨hk3,hg3,hI3,hcl3,hfrm3,hall3⟩:=hx24; obtain ⟨o1,o2,ow⟩:=hst _ _ hI3; have hfr0:∀ k,os3 (bd+k)=none:=fun k=>hfreeI os3 hfrm3 _ (by omega); have hlv3:=hY.live _ _ hI3
        refine Aa fun K25 hK25=>?_
        refine Ab ?_
        simp (disch:=omega) only [amL,amT,sA,sF,↓reduceIte,reduceCtorEq]
        refine hK25 _ ?_
        refine Aa fun K26 hK26=>?_
        refine Ag rfl (fun h=>?_) (fun h=>?_)
        ·first
         | exact Bool.noConfusion h
         |skip
          try simp only [decide_eq_true_eq] at h
          refine Ah ?_
          refine hK26 _ ?_
          refine Aa fun K27 hK27=>?_
          refine Ak ?_
          refine Aa fun K28 hK28=>?_
          refine Ab ?_
          simp (disch:=omega) only [amL,sA,sF,↓reduceIte,reduceCtorEq]
          refine hK28 _ ?_
          refine Aa fun K29 hK29=>?_
          refine Ab ?_
          simp (disch:=omega) only [amL,amT,sA,sB,sE,sF,↓reduceIte,reduceCtorEq]
          have hx:C8 f t n ∈ Gi vs v:=Ae4 (by omega) (by omega) (by omega)
          have hcall:=hY.call s3 (C8 f t n) os3 bd hx hg3 hI3 hcl3
          first
            | (rw [Acx (by omega)] at hcall ; refine A6 [(0,yv),(1,.ptr n1 0),(2,.ptr n2 0),(15,i64 vs.length),(16,i64 (f:Int)),(4,i64 (f:Int)),(23,.p (slV vs)),(24,i64 vs.length),(25,i64 (t:Int)),(5,i64 (t:Int)),(8,i64 0),(47,i64 (Ei vs v f t)),(48,i64 (n:Int))] (by decide) hcall (hfreeI os3 hfrm3) (Nat.le_refl _) (fun res os4 hR hcl4 hlvr=>?_))
            | (rw [Ys (by omega)] at hcall ; refine A6 [(0,yv),(1,.ptr n1 0),(2,.ptr n2 0),(15,i64 vs.length),(16,i64 (f:Int)),(4,i64 (f:Int)),(23,.p (slV vs)),(24,i64 vs.length),(25,i64 (t:Int)),(5,i64 (t:Int)),(8,i64 1),(47,i64 (Ei vs v f t)),(48,i64 (n:Int))] (by decide) hcall (hfreeI os3 hfrm3) (Nat.le_refl _) (fun res os4 hR hcl4 hlvr=>?_))
          obtain ⟨rfl,hI4,hfr4⟩:=hR
          have hlv4:=hY.live _ _ hI4
          obtain ⟨p1,p2,pw⟩:=hst _ _ hI4
          simp (disch:=omega) only [amL,sA,sF,↓reduceIte,reduceCtorEq]
          refine ⟨⟨hlv4,by rw [p1]; rfl,by rw [p2]; rfl⟩,?_⟩
          refine hK29 _ ?_
          refine Ag rfl (fun h=>?_) (fun h=>?_)
          ·first
           | exact Bool.noConfusion h
           |skip
            try simp only [Bool.not_eq_true'] at h
            refine Ae ?_
            try simp (disch:=omega) only [amL]
            first | (refine Ba (res:=.tup []) os4 rfl (Sub.refl _) hcl4 (Bd _ rfl) ⟨rfl,?_,fun q hq=>(hfr4 q hq).trans (hfrm3 q hq)⟩ ; rw [← hall3,Kd (by omega),List.cons_append] ; simp only [Gk] ; rw [if_neg (by rw [h]; decide)] ; exact hI4) | (refine Ba (res:=.tup []) os1 rfl (Sub.refl _) hcl1 (Bd _ rfl) ⟨rfl,?_,hfrm1⟩ ; rw [← hall,Tq (by omega)] ; exact hI1) | trace_state
          ·first
           | exact Bool.noConfusion h
           |skip
            try simp only [Bool.not_eq_false'] at h
            refine Ah ?_
            refine hK27 _ ?_
            refine Ab ?_
            simp (disch:=omega) only [amL,amT,sA,sF,↓reduceIte,reduceCtorEq]
            refine hK24 (n+1,(step s3 (C8 f t n)).1,os4) _ ?_ ?_ (Gx ?_ ?_ ?_ ?_)
            all_goals (try simp (disch:=omega) only [amL,sF,↓reduceIte,reduceCtorEq])
            all_goals first | omega | exact Sub.refl _ | exact hcl4 | exact ⟨hlv4,by rw [p1]; rfl,by rw [p2]; rfl⟩ | exact ⟨by omega,hY.next _ _ hx hg3 h,hI4,hcl4,fun q hq=>(hfr4 q hq).trans (hfrm3 q hq),by have e:=hall3; rw [Kd (by omega),List.cons_append] at e; simp only [Gk] at e; rwa [if_pos h] at e⟩ | trace_state
        ·first
         | exact Bool.noConfusion h
         |skip
          try simp only [decide_eq_false_iff_not] at h
          refine Bc ?_
          refine hK11 _ ?_
          refine Ab ?_
          simp (disch:=omega) only [amL,amT,sA,sF,↓reduceIte,reduceCtorEq]
          refine hK8 (t+1,s3,os3) _ ?_ ?_ (Gx ?_ ?_ ?_ ?_)
          all_goals (try simp (disch:=omega) only [amL,sF,↓reduceIte,reduceCtorEq])
          all_goals first | omega | exact Sub.refl _ | exact hcl3 | exact ⟨hlv3,by rw [o1]; rfl,by rw [o2]; rfl⟩ | exact ⟨by omega,hg3,hI3,hcl3,hfrm3,by have e:=hall3; rw [Zf (by omega)] at e; exact e⟩ | trace_state
    ·first
     | exact Bool.noConfusion h
     |skip
      try simp only [decide_eq_false_iff_not] at h
      refine Bc ?_
      refine hK5 _ ?_
      refine Ab ?_
      simp (disch:=omega) only [amL,amT,sA,sF,↓reduceIte,reduceCtorEq]
      refine hK2 (f+1,s2,os2) _ ?_ ?_ (Gx ?_ ?_ ?_ ?_)
      all_goals (try simp (disch:=omega) only [amL,sF,↓reduceIte,reduceCtorEq])
      all_goals first | omega | exact Sub.refl _ | exact hcl2 | exact ⟨hlv2,by rw [o1]; rfl,by rw [o2]; rfl⟩ | exact ⟨by omega,hg2,hI2,hcl2,hfrm2,by have e:=hall2; rw [Ake (by omega)] at e; exact e⟩ | trace_state
  ·first
   | exact Bool.noConfusion h
   |skip
    try simp only [decide_eq_false_iff_not] at h
    refine Bc ?_
    try simp (disch:=omega) only [Ad,A0,Kn,A2,Tt,Ql,Mg,Kk,Gc,amL,amT,sA,sB,sC,sD,sE,sF,sG,sH,sI,sJ,sK,sL,sM,sN,sO,↓reduceIte,reduceCtorEq]
    first | (refine Ba (res:=.tup []) os4 rfl (Sub.refl _) hcl4 (Bd _ rfl) ⟨rfl,?_,fun q hq=>(hfr4 q hq).trans (hfrm3 q hq)⟩ ; rw [← hall3,Kd (by omega),List.cons_append] ; simp only [Gk] ; rw [if_neg (by rw [h]; decide)] ; exact hI4) | (refine Ba (res:=.tup []) os1 rfl (Sub.refl _) hcl1 (Bd _ rfl) ⟨rfl,?_,hfrm1⟩ ; rw [← hall,Tq (by omega)] ; exact hI1) | trace_state
theorem Pp {os:Nat→Option AO} {n k:Nat} {es:List (List PV)} (hcl:(Hp os).closed):(Hp (upd os n (some (.arr k es)))).closed:=De hcl (AO.lives_arr _ _ _)
theorem Y8 {vs:List Ves} {k:Nat} (h:k < vs.length) (hb:1 < Dp (vs.getD k default).g∨1 < Dp (vs.getD k default).d):Lf vs=false:=by
  unfold Lf
  rw [List.all_eq_false]
  refine ⟨vs.getD k default,Em default h,?_⟩
  rcases hb with hb | hb <;> simp only [hb,decide_true,Bool.true_or,Bool.or_true,Bool.not_true] <;> decide
theorem Z8 {vs:List Ves} (hva:vs.all Df=true) (k:Nat):(0≤(vs.map (·.g.lo)).getD k 0∧(vs.map (·.g.lo)).getD k 0≤100000)∧(0≤(vs.map (·.d.lo)).getD k 0∧(vs.map (·.d.lo)).getD k 0≤100000):=by
  by_cases hk:k < vs.length
  · have hb:=Cp (List.all_eq_true.1 hva _ (Em default hk))
    have h1:=Co hb.1
    have h2:=Co hb.2.1
    rw [C4 (·.g.lo) 0 default hk,C4 (·.d.lo) 0 default hk]
    constructor <;> constructor <;> first | exact h1.1 | exact h2.1 | (show _≤_; omega)
  · have e1:(vs.map (·.g.lo)).getD k 0=0:=by simp [List.getD,List.getElem?_eq_none (show vs.length≤k by omega)]
    have e2:(vs.map (·.d.lo)).getD k 0=0:=by simp [List.getD,List.getElem?_eq_none (show vs.length≤k by omega)]
    rw [e1,e2]; omega
def Af2 (vs:List Ves):AV:=if Lf vs=true then .tup [avW (Dt vs).1,bl true,bl (Dt vs).2] else .tup [avW v0,bl false,bl false]
theorem Ajw {α:Type} {l:List α} {f:α→Int}:isl (l.map f)=.p (.sl (l.map fun x=>Jj (f x))):=by
  show AV.p (.sl ((l.map f).map _))=_
  rw [List.map_map]; rfl
theorem Tm:∀ {vs:List Ves} {gs ds:List Int} {i:Nat} {v:List Liq},(Hf vs gs ds i v).1.length=v.length
  | [],_,_,_,_=>rfl
  | x :: vs,gs,ds,i,v=>by
    unfold Hf
    split
    · rfl
    · rw [Tm,List.length_set]
theorem Ks {P:Program} {s:St} {i j k n off:Nat} {ty:TypeId} {g:Bool} {cs:List AV} {x:AV} (h1:s.t i=.ptr n off) (h2:(Ac P ty).agg=some g) (h3:s.o n=some (.cells cs)) (h4:Am g (Ac P ty).sz (cs.drop off)=some x):(Di P s [.cell i ty,.tmp j,.tmp k]).map D5=some (.tup [x,s.t j,s.t k]):=by
  simp only [Di,G3,h1,h2,h3,h4,Option.map_some]; rfl
theorem L8 {n:Nat} (v:List Liq):(cW v).map (AV.purge n)=cW v:=Mo ((Br n _).2 fun _ _ hx=>P4 (Rc hx) n)
theorem U4 (v:List Liq) (b c:Bool):(AV.tup [avW v,bl b,bl c]).isP=true:=by
  have h:AV.isP.isPL (cW v)=true:=(J0 _).2 fun i x hx=>Rc hx
  simp only [AV.isP,AV.isP.isPL,h,Bool.and_self]
theorem Aff {vs:List Ves} (h:∀ j,j < vs.length→¬ 1 < Dp (vs.getD j default).g∧¬ 1 < Dp (vs.getD j default).d):Lf vs=true:=by
  unfold Lf
  rw [List.all_eq_true]
  intro x hx
  obtain ⟨j,hj,rfl⟩:=List.getElem_of_mem hx
  have:=h j hj
  rw [← List.getElem_eq_getD (h:=hj)] at this
  simp [this.1,this.2]
theorem Atw {vs:List Ves} {ss:List Stp} {nw m:Nat} {os:Nat→Option AO} {bd:Nat} (hW:Wk vs ss nw m os) (hvs:vs.length≤4) (hva:vs.all Df=true) :
    Bt Tryz.prog bd (.fn (.func 81) [] []) [.ptr nw 0] os fun res os'=>res=Af2 vs∧os'=os:=by
  refine Ck (v:=[101]) (q:=[]) (N:=52) (rs:=[.cell 2 120,.tmp 3,.tmp 4]) Tryz.func81 rfl (by kernel_rfl) rfl rfl (fun hcl hfree=>?_)
  have hfr0:∀ k,os (bd+k)=none:=fun k=>hfree _ (by omega)
  have ow:=hW.ow
  have hpg:∀ k,pgO (bd+k) os=os:=fun k=>Aes hcl (hfr0 k)
  have hv0t:(cW v0).take 8=cW v0:=rfl
  have hlw:=Au hfree ow
  refine Aa fun K1 hK1=>?_
  refine Ab ?_
  simp (disch:=(first | assumption | omega)) only [hfr0,amL,amT,sA,sB,↓reduceIte]
  refine hK1 _ ?_
  refine Aa fun K2 hK2=>?_
  refine Ab ?_
  simp (disch:=(first | assumption | omega)) only [amL,sA]
  refine hK2 _ ?_
  refine Aa fun K3 hK3=>?_
  refine Aa fun K4 hK4=>?_
  refine Ab ?_
  simp (disch:=(first | assumption | omega)) only [ow,Ad,amL,amT,sA,↓reduceIte,reduceCtorEq]
  refine hK4 _ ?_
  refine Ak ?_
  refine Wg (bd+35) 1 5 (by simp only []; omega) rfl (by simp (disch:=omega) only [Ad]; exact hfr0 _) ?_
  refine Wg (bd+41) 1 6 (by simp only []; omega) rfl (by simp (disch:=omega) only [Ad]; exact hfr0 _) ?_
  refine A5 (α:=Nat) (fun k=>⟨T [(0,.ptr nw 0),(2,.ptr (bd+2) 0),(5,.own (bd+35) k),(6,.own (bd+41) k),(13,.p (slV vs)),(14,i64 vs.length),(15,i64 (k:Int))],upd (upd (upd os (bd+2) (some (.cells (cW v0)))) (bd+35) (some (.arr 1 ((vs.take k).map fun x=>Jj x.g.lo)))) (bd+41) (some (.arr 1 ((vs.take k).map fun x=>Jj x.d.lo)))⟩) (fun k=>vs.length - k) (fun k=>k≤vs.length∧∀ j,j < k→¬ 1 < Dp (vs.getD j default).g∧¬ 1 < Dp (vs.getD j default).d) 0 ?_ ?_ (fun k hx5 K5 hK5=>?_)
  · exact ⟨Nat.zero_le _,fun j hj=>absurd hj (Nat.not_lt_zero _)⟩
  · refine Gx ?_ ?_ ?_ ?_ <;> (try simp (disch:=(first | assumption | omega)) only [ow,Ad,List.map_nil,amL,sF,↓reduceIte,reduceCtorEq]); all_goals first | exact Sub.refl _ | exact Pp (Pp (Fa hcl)) | trace_state
  obtain ⟨hk,hone⟩:=hx5
  refine Aa fun K6 hK6=>?_
  refine Ab ?_
  simp (disch:=(first | assumption | omega)) only [amL,amT,sA,sF,↓reduceIte,reduceCtorEq]
  refine hK6 _ ?_
  refine Aa fun K7 hK7=>?_
  refine Ag rfl (fun h=>?_) (fun h=>?_)
  ·first
   | exact Bool.noConfusion h
   |skip
    try simp only [decide_eq_true_eq] at h
    refine Ah ?_
    refine hK7 _ ?_
    refine Aa fun K8 hK8=>?_
    refine Ak ?_
    refine Aa fun K9 hK9=>?_
    refine Ab ?_
    simp (disch:=(first | assumption | omega)) only [hfr0,Ad,Cb,A0,List.map_cons,List.map_nil,amL,amT,sA,sB,sF,↓reduceIte,reduceCtorEq]
    refine hK9 _ ?_
    refine Aa fun K10 hK10=>?_
    refine Aa fun K11 hK11=>?_
    refine Ab ?_
    have hb:=Cp (List.all_eq_true.1 hva _ (Em default (show k < vs.length by omega)))
    have hr1:=Co hb.1
    have hr2:=Co hb.2.1
    simp (disch:=(first | assumption | omega)) only [List.map_cons,List.map_nil,amL,amT,sA,sB,sE,sG,↓reduceIte,reduceCtorEq]
    repeat' first | (refine Cn (fun h=>?_) (fun h=>?_) <;> simp (disch:=(first | assumption | omega)) only [h,List.map_cons,List.map_nil,amL,amT,sA,sB,sE,sF,sG,↓reduceIte,reduceCtorEq]) | (refine Bo (fun h=>?_) (fun h=>?_) <;> simp (disch:=(first | assumption | omega)) only [h,ow,hfr0,Ad,Cb,A0,Cr,A2,hv0t,B6,Jr,Pv,Mc,hpg,L8,Fw,Hk,List.map_cons,List.map_nil,Mw,amL,amT,sA,sB,sC,sD,sE,sF,sG,sH,sI,sJ,sK,sL,sM,sN,sO,↓reduceIte,reduceCtorEq]) | (refine Al (by kernel_rfl) rfl (Ahr (vs.getD k default).g (by omega) (by omega)) (by first | exact .inl rfl | exact .inr (.inl rfl)) ?_ ; simp (disch:=(first | assumption | omega)) only [amL,amT,sA,↓reduceIte]) | (refine Al (by kernel_rfl) rfl (Ahr (vs.getD k default).d (by omega) (by omega)) (by first | exact .inl rfl | exact .inr (.inl rfl)) ?_ ; simp (disch:=(first | assumption | omega)) only [amL,amT,sA,sF,↓reduceIte])
    all_goals
     skip
     refine hK11 _ ?_
     refine Ag rfl (fun h=>?_) (fun h=>?_)
     ·first
      | exact Bool.noConfusion h
      |skip
       try simp only [decide_eq_true_eq] at h
       refine Aa fun K12 hK12=>?_
       refine Ab ?_
       simp (disch:=(first | assumption | omega)) only [Ad,Cr,A2,hv0t,amL,amT,sA,sB,sC,sF,↓reduceIte,reduceCtorEq]
       refine hK12 _ ?_
       refine Ae ?_
       try simp (disch:=(first | assumption | omega)) only [amL]
       all_goals first
         | (refine Ba (res:=.tup [avW v0,bl false,bl false]) os ?_ (by first | ((repeat' first | exact Sub.refl _ | refine Sub.skip (by first | exact hfr0 _ | (simp (disch:=omega) only [Ad]; exact hfr0 _)) ?_ | refine Sub.both ?_); done) | fail) hcl (Bd _ (U4 _ _ _)) ⟨?_,rfl⟩
            · refine (Ks (n:=bd+2) (off:=0) (g:=true) (cs:=cW v0) (x:=avW v0) (by simp (disch:=(first | assumption | omega)) only [amL,sF,↓reduceIte,reduceCtorEq]) (by simp only [amT]; rfl) (by simp (disch:=(first | assumption | omega)) only [amL]; try rfl) (by simp only [amT,List.drop_zero]; exact Yo rfl)).trans ?_
              simp (disch:=(first | assumption | omega)) only [amL,sF,↓reduceIte]
            · unfold Af2; rw [if_neg (by rw [Y8 (k:=k) (by omega) (by first | exact .inl (by assumption) | exact .inr (by simpa using h))]; simp)])
         | (refine Ba (res:=.tup [avW (Dt vs).1,bl true,bl (Dt vs).2]) os ?_ (by first | ((repeat' first | exact Sub.refl _ | refine Sub.skip (by first | exact hfr0 _ | (simp (disch:=omega) only [Ad]; exact hfr0 _)) ?_ | refine Sub.both ?_); done) | fail) hcl (Bd _ (U4 _ _ _)) ⟨?_,rfl⟩
            · refine (Ks (n:=bd+2) (off:=0) (g:=true) (cs:=cW (Dt vs).1) (x:=avW (Dt vs).1) (by simp (disch:=(first | assumption | omega)) only [ow,hfr0,Ad,Cb,A0,Cr,A2,hv0t,B6,Jr,Pv,Mc,hpg,L8,Fw,Hk,List.map_cons,List.map_nil,Mw,amL,amT,sA,sB,sC,sD,sE,sF,sG,sH,sI,sJ,sK,sL,sM,sN,sO,↓reduceIte,reduceCtorEq]) (by simp only [amT]; rfl) (by simp (disch:=(first | assumption | omega)) only [ow,hfr0,Ad,Cb,A0,Cr,A2,hv0t,B6,Jr,Pv,Mc,hpg,L8,Fw,Hk,List.map_cons,List.map_nil,Mw,amL,amT,sA,sB,sC,sD,sE,sF,sG,sH,sI,sJ,sK,sL,sM,sN,sO,↓reduceIte,reduceCtorEq]; try rfl) (by simp only [amT,List.drop_zero]; exact Yo hl4)).trans ?_
              simp (disch:=(first | assumption | omega)) only [ow,hfr0,Ad,Cb,A0,Cr,A2,hv0t,B6,Jr,Pv,Mc,hpg,L8,Fw,Hk,List.map_cons,List.map_nil,Mw,amL,amT,sA,sB,sC,sD,sE,sF,sG,sH,sI,sJ,sK,sL,sM,sN,sO,↓reduceIte,reduceCtorEq]
              try rfl
            · unfold Af2; rw [if_pos (Aff hone)])
         | trace_state
     ·first
      | exact Bool.noConfusion h
      |skip
       try simp only [decide_eq_false_iff_not] at h
       refine Ah ?_
       refine hK10 _ ?_
       refine Amd [] [31,32,33,34,37,38,39,40] (by kernel_rfl) (by kernel_rfl) (by kernel_rfl) ⟨(by simp (disch:=omega) only [Ad]; exact hfr0 _),(by simp (disch:=omega) only [Ad]; exact hfr0 _),(by simp (disch:=omega) only [Ad]; exact hfr0 _),(by simp (disch:=omega) only [Ad]; exact hfr0 _),(by simp (disch:=omega) only [Ad]; exact hfr0 _),(by simp (disch:=omega) only [Ad]; exact hfr0 _),(by simp (disch:=omega) only [Ad]; exact hfr0 _),(by simp (disch:=omega) only [Ad]; exact hfr0 _),trivial⟩ ?_
       simp (disch:=(first | assumption | omega)) only [hfr0,Ad,Jr,Pv,Mc,hpg,L8,Fw,Hk,List.map_cons,List.map_nil,Mw,amL,amT,sA,sE,sF,↓reduceIte,reduceCtorEq]
       refine hK8 _ ?_
       refine Ab ?_
       simp (disch:=(first | assumption | omega)) only [amL,amT,sA,sF,↓reduceIte,reduceCtorEq]
       refine hK5 (k+1) _ ?_ ?_ (Gx ?_ ?_ ?_ ?_)
       all_goals (try simp (disch:=(first | assumption | omega)) only [ow,Ad,amL,sF,↓reduceIte,reduceCtorEq])
       all_goals first | omega | exact Pp (Pp (Fa hcl)) | exact ⟨by omega,fun j hj=>by
         by_cases e:j=k
         · subst e; exact ⟨by assumption,by simpa using h⟩
         · exact hone j (by omega)⟩ | (rw [T5 default (show k < vs.length by omega),T5 default (show k < vs.length by omega)] ; exact (by first | ((repeat' first | exact Sub.refl _ | refine Sub.skip (by first | exact hfr0 _ | (simp (disch:=omega) only [Ad]; exact hfr0 _)) ?_ | refine Sub.both ?_); done) | fail)) | trace_state
  ·first
   | exact Bool.noConfusion h
   |skip
    try simp only [decide_eq_false_iff_not] at h
    refine Bc ?_
    refine hK3 _ ?_
    refine Aa fun K13 hK13=>?_
    obtain rfl:k=vs.length:=by omega
    rw [List.take_length]
    have d1:(nw=bd+41)=False:=eq_false (by omega)
    have d2:(nw=bd+35)=False:=eq_false (by omega)
    have hcb:=Aj5 (bd:=bd+52) (os:=upd os (bd+2) (some (.cells (cW v0)))) (gs:=vs.map (·.g.lo)) (ds:=vs.map (·.d.lo)) ⟨(Ad (by omega)).trans hW.ow,(Ad (by have:=Au hfree hW.om; omega)).trans hW.om⟩ hvs (List.length_map _) (List.length_map _) (fun k=>(Z8 hva k).1) (fun k=>(Z8 hva k).2)
    rw [Ajw,Ajw] at hcb
    have hl4:(Pa vs (vs.map (·.g.lo)) (vs.map (·.d.lo))).1.length=4:=Tm
    refine Ad4 (Pp (Fa hcl)) (by simp (disch:=omega) only [Ad]; exact hfr0 _) ?_
    simp only [Mv,AV.frz,d1,Nat.add_left_cancel_iff,Nat.reduceEqDiff,if_false,List.length_map,Nat.le_refl,if_true]
    refine Ad4 (Fa hcl) (by simp (disch:=omega) only [Ad]; exact hfr0 _) ?_
    simp only [Mv,AV.frz,d2,Nat.add_left_cancel_iff,Nat.reduceEqDiff,if_false,List.length_map,Nat.le_refl,if_true]
    rw [List.take_of_length_le (Nat.le_of_eq (List.length_map _)),List.take_of_length_le (Nat.le_of_eq (List.length_map _))]
    refine Ab ?_
    simp (disch:=(first | assumption | omega)) only [List.map_cons,List.map_nil,amL,sA,sF,↓reduceIte,reduceCtorEq]
    refine A6 [(2,.ptr (bd+2) 0)] (by decide) hcb (fun q hq=>by simp (disch:=omega) only [Ad]; exact hfree q (by omega)) (Nat.le_add_right _ _) (fun res os2 hR hcl2 hlv2=>?_)
    obtain ⟨rfl,rfl⟩:=hR
    simp (disch:=(first | assumption | omega)) only [Cb,Cr,A2,amL,amT,sA,sB,sC,sF,↓reduceIte,reduceCtorEq]
    refine hK13 _ ?_
    refine Aa fun K14 hK14=>?_
    refine Ab ?_
    simp (disch:=(first | assumption | omega)) only [Cb,Cr,A2,B6,amL,amT,sA,sF,↓reduceIte]
    refine hK14 _ ?_
    refine Ae ?_
    try simp (disch:=(first | assumption | omega)) only [amL]
    all_goals first
      | (refine Ba (res:=.tup [avW v0,bl false,bl false]) os ?_ (by first | ((repeat' first | exact Sub.refl _ | refine Sub.skip (by first | exact hfr0 _ | (simp (disch:=omega) only [Ad]; exact hfr0 _)) ?_ | refine Sub.both ?_); done) | fail) hcl (Bd _ (U4 _ _ _)) ⟨?_,rfl⟩
         · refine (Ks (n:=bd+2) (off:=0) (g:=true) (cs:=cW v0) (x:=avW v0) (by simp (disch:=(first | assumption | omega)) only [amL,sF,↓reduceIte]) (by simp only [amT]; rfl) (by simp (disch:=(first | assumption | omega)) only [amL]; try rfl) (by simp only [amT,List.drop_zero]; exact Yo rfl)).trans ?_
           simp (disch:=(first | assumption | omega)) only [amL,sF,↓reduceIte]
         · unfold Af2; rw [if_neg (by rw [Y8 (k:=k) (by omega) (by first | exact .inl (by assumption) | exact .inr (by simpa using h))]; simp)])
      | (refine Ba (res:=.tup [avW (Dt vs).1,bl true,bl (Dt vs).2]) os ?_ (by first | ((repeat' first | exact Sub.refl _ | refine Sub.skip (by first | exact hfr0 _ | (simp (disch:=omega) only [Ad]; exact hfr0 _)) ?_ | refine Sub.both ?_); done) | fail) hcl (Bd _ (U4 _ _ _)) ⟨?_,rfl⟩
         · refine (Ks (n:=bd+2) (off:=0) (g:=true) (cs:=cW (Dt vs).1) (x:=avW (Dt vs).1) (by simp (disch:=(first | assumption | omega)) only [amL,sF,↓reduceIte]) (by simp only [amT]; rfl) (by simp (disch:=(first | assumption | omega)) only [amL]; try rfl) (by simp only [amT,List.drop_zero]; exact Yo hl4)).trans ?_
           simp (disch:=(first | assumption | omega)) only [amL,sF,↓reduceIte]
           try rfl
         · unfold Af2; rw [if_pos (Aff hone)])
      | trace_state
structure At3 (vs:List Ves) (ss:List Stp) (g k:Int) (nB mB nw ng nk ns:Nat) (os:Nat→Option AO):Prop where
  w:os nw=some (.cells [.ptr nB 0])
  b:os nB=some (.cells [.p (slV vs),.p (slS ss),.mp mB])
  g:os ng=some (.cells [i64 g])
  k:os nk=some (.cells [i64 k])
  s:os ns=some (.cells [.fn (.func 83) [] [.ptr nw 0,.ptr ng 0,.ptr nk 0,.ptr ns 0]])
def SrR (o:Option (List Stp)) (os:Nat→Option AO) (res:AV) (os':Nat→Option AO):Prop:=(∃ x:AV,res=.tup [x,bl o.isSome]∧x.isP=true∧∀ q,o=some q→x=.p (slS q))∧os'=os
def oS (os:Nat→Option AO) (bd:Nat) (v:List Liq) (p:List Stp) (many:Int) (nB:Nat) (x f:AV):Nat→Option AO:=
  upd (upd (upd (upd (upd (upd (upd os (bd+7) (some (.cells (cW v)))) (bd+8) (some (.cells [.p (slS p)]))) (bd+9) (some (.cells [i64 many]))) (bd+10) (some (.cells [x]))) (bd+11) (some (.cells [f]))) (bd+54+2) (some (.cells [.ptr nB 0]))) (bd+54+3) (some (.cells (cW v)))
theorem Aoj {os:Nat→Option AO} {bd:Nat} {v:List Liq} {p:List Stp} {many:Int} {nB q:Nat} {x f:AV} (h:q≠bd+7∧q≠bd+8∧q≠bd+9∧q≠bd+10∧q≠bd+11∧q≠bd+54+2∧q≠bd+54+3):oS os bd v p many nB x f q=os q:=by
  unfold oS; simp (disch:=omega) only [Ad]
theorem G4 {os:Nat→Option AO} {bd:Nat} {v:List Liq} {p:List Stp} {many:Int} {nB q:Nat} {x f:AV} (h:q < bd):oS os bd v p many nB x f q=os q:=Aoj (by omega)
theorem Ba9 {os:Nat→Option AO} {bd:Nat} {v:List Liq} {p:List Stp} {many:Int} {nB:Nat} {x f:AV}:oS os bd v p many nB x f (bd+7)=some (.cells (cW v)):=by unfold oS; simp (disch:=omega) only [Ad,Bp]
theorem Ba3 {os:Nat→Option AO} {bd:Nat} {v:List Liq} {p:List Stp} {many:Int} {nB:Nat} {x f:AV}:oS os bd v p many nB x f (bd+8)=some (.cells [.p (slS p)]):=by unfold oS; simp (disch:=omega) only [Ad,Bp]
theorem Az4 {os:Nat→Option AO} {bd:Nat} {v:List Liq} {p:List Stp} {many:Int} {nB:Nat} {x f:AV}:oS os bd v p many nB x f (bd+9)=some (.cells [i64 many]):=by unfold oS; simp (disch:=omega) only [Ad,Bp]
theorem Lk {os:Nat→Option AO} {bd:Nat} {v:List Liq} {p:List Stp} {many:Int} {nB:Nat} {x f:AV}:oS os bd v p many nB x f (bd+10)=some (.cells [x]):=by unfold oS; simp (disch:=omega) only [Ad,Bp]
theorem Lo {os:Nat→Option AO} {bd:Nat} {v:List Liq} {p:List Stp} {many:Int} {nB:Nat} {x f:AV}:oS os bd v p many nB x f (bd+11)=some (.cells [f]):=by unfold oS; simp (disch:=omega) only [Ad,Bp]
theorem Avv {os:Nat→Option AO} {bd:Nat} {v:List Liq} {p:List Stp} {many:Int} {nB:Nat} {x f:AV}:oS os bd v p many nB x f (bd+54+2)=some (.cells [.ptr nB 0]):=by unfold oS; simp (disch:=omega) only [Ad,Bp]
theorem Aw6 {os:Nat→Option AO} {bd:Nat} {v:List Liq} {p:List Stp} {many:Int} {nB:Nat} {x f:AV}:oS os bd v p many nB x f (bd+54+3)=some (.cells (cW v)):=by unfold oS; simp (disch:=omega) only [Bp]
theorem Ao1 {os:Nat→Option AO} {bd:Nat} {v:List Liq} {p:List Stp} {many:Int} {nB q:Nat} {x f x' f':AV} (h1:q≠bd+10) (h2:q≠bd+11):oS os bd v p many nB x f q=oS os bd v p many nB x' f' q:=by
  unfold oS upd
  split
  · rfl
  · split
    · rfl
    · rfl
theorem Ajl {os:Nat→Option AO} {bd:Nat} {v:List Liq} {p:List Stp} {many:Int} {nB q:Nat} {x f x' f':AV}:(oS os bd v p many nB x f q).isSome=(oS os bd v p many nB x' f' q).isSome:=by
  by_cases h1:q=bd+10
  · subst h1; rw [Lk,Lk]; rfl
  · by_cases h2:q=bd+11
    · subst h2; rw [Lo,Lo]; rfl
    · rw [Ao1 h1 h2]
theorem Ama {os:Nat→Option AO} {bd:Nat} {v:List Liq} {p:List Stp} {many:Int} {nB:Nat} {x f:AV} (hcl:(Hp os).closed) (hB:(os nB).isSome=true) (hb:nB < bd) (hx:x.isP=true) (hf:f.isP=true):(Hp (oS os bd v p many nB x f)).closed:=by
  refine Fa (De (Gy (Gy (Gy (Gy (Fa hcl) ?_) ?_) ?_) ?_) ?_)
  · intro y hy; simp only [List.mem_singleton] at hy; subst hy; rfl
  · intro y hy; simp only [List.mem_singleton] at hy; subst hy; rfl
  · intro y hy; simp only [List.mem_singleton] at hy; subst hy; exact hx
  · intro y hy; simp only [List.mem_singleton] at hy; subst hy; exact hf
  · rw [En]; simp (disch:=omega) only [Dd,C7,Dy,Ad,hB,and_self]
def Aa3:Option (List Stp)→AV
  | none=>Dk
  | some q=>.p (slS q)
def Qy (vs:List Ves) (g k:Int) (m:Nat) (v:List Liq) (p:List Stp) (s:Option (List Stp)) (x:Stp):Option (List Stp) × Option Code:=match Da vs g k m (Fc v x x.g.lo).1 (p++[x]) with
  | some q=>(some q,some .ret)
  | none=>(s,none)
theorem Ady {vs:List Ves} {g k:Int} {m:Nat} {v:List Liq} {p:List Stp}:∀ (l:List Stp),(Gk (fun (s:Option (List Stp) × Option Code) x=>(Qy vs g k m v p s.1 x,(Qy vs g k m v p s.1 x).2.isNone)) (none,none) l).1=match l.findSome? fun x=>Da vs g k m (Fc v x x.g.lo).1 (p++[x]) with
    | some q=>(some q,some .ret)
    | none=>(none,none)
  | []=>rfl
  | x :: l=>by
    simp only [Gk,List.findSome?_cons]
    cases h:Da vs g k m (Fc v x x.g.lo).1 (p++[x]) with
    | none=>
      have e:Qy vs g k m v p none x=(none,none):=by unfold Qy; rw [h]
      rw [e]; simp only [Option.isNone_none,if_true]; exact Ady l
    | some q=>
      have e:Qy vs g k m v p none x=(some q,some .ret):=by unfold Qy; rw [h]
      rw [e]; simp
theorem Jy {P:Program} {s:St} {i j n m:Nat} {ty ty2:TypeId} {x y:AV} (h1:s.t i=.ptr n 0) (h2:(Ac P ty).agg=some false) (h3:s.o n=some (.cells [x])) (h4:s.t j=.ptr m 0) (h5:(Ac P ty2).agg=some false) (h6:s.o m=some (.cells [y])):(Di P s [.cell i ty,.cell j ty2]).map D5=some (.tup [x,y]):=by
  simp only [Di,G3,h1,h2,h3,h4,h5,h6,List.drop_zero,Am,List.head?_cons]; rfl
theorem Ar1 (p:List Stp):((p.map Qc).all fun c=>decide (c.length=5))=true:=by
  rw [List.all_eq_true]; intro c hc; obtain ⟨z,-,rfl⟩:=List.mem_map.1 hc; rfl
theorem Ahp (p:List Stp):((p.map Qc).all fun e=>e.all PV.isVal)=true:=by
  rw [List.all_eq_true]; intro c hc; obtain ⟨z,-,rfl⟩:=List.mem_map.1 hc; rfl
theorem Atg {n:Nat} {es:List (List PV)} {x:AV} (h:x.isP=true):x.frz n es=x:=frz_id _ (P4 h n)
theorem Aug (v:List Liq):(avW v).isP=true:=(J0 _).2 fun _ _ hx=>Rc hx
theorem Aqd {n:Nat} {v:List Liq}:AV.clean.cleanL n (cW v)=true:=(Br n _).2 fun _ _ hx=>P4 (Rc hx) n
theorem Az2 {bd:Nat} {fv a c:AV} {p:List Stp} {x:Stp} {os:Nat→Option AO} {R:AV→(Nat→Option AO)→Prop} (h:Bt Tryz.prog bd fv [a,.p (slS (p++[x])),c] os R):Bt Tryz.prog bd fv [a,.p (.sl (p.map Qc++[Qc x])),c] os R:=by
  rw [show slS (p++[x])=PV.sl (p.map Qc++[Qc x]) from by simp [List.map_append]] at h; exact h
theorem Apn {n nw ng nk ns:Nat} {es:List (List PV)} (h1:nw≠n) (h2:ng≠n) (h3:nk≠n) (h4:ns≠n):(AV.fn (.func 83) [] [.ptr nw 0,.ptr ng 0,.ptr nk 0,.ptr ns 0]).frz n es=.fn (.func 83) [] [.ptr nw 0,.ptr ng 0,.ptr nk 0,.ptr ns 0]:=by
  simp only [AV.frz,AV.frz.frzL,h1,h2,h3,h4,if_false]
theorem Ar9 {n len:Nat} {es:List (List PV)} {w:List Liq} {m:Int} (h:len=es.length):[avW w,.own n len,i64 m].map (AV.frz n es)=[avW w,.p (.sl es),i64 m]:=by
  subst h
  show [(avW w).frz n es,(AV.own n es.length).frz n es,i64 m]=_
  rw [Atg (Aug w)]
  simp only [AV.frz,if_true,Nat.le_refl,List.take_length]
theorem Beq {v:List Liq} {s:Stp} {n:Int} {nv:Nat} {os:Nat→Option AO} {bd:Nat} (hk:0≤s.kind∧s.kind≤2) (hw:Hz v) (hs:0≤s.frm∧s.frm.toNat < v.length∧s.frm < 4) (ht:0≤s.to∧s.to.toNat < v.length∧s.to < 4) (hn:0≤n∧n≤1000000) (ov:os nv=some (.cells (cW v))) :
    Bt Tryz.prog bd (Ak2 s.kind) [.ptr nv 0,avS s,i64 n] os fun res os'=>res=bl (Fc v s n).2∧os'=upd os nv (some (.cells (cW (Fc v s n).1))):=by
  have h:=Bcv (tl:=[]) (bd:=bd) hk hw hs ht hn (by rw [List.append_nil]; exact ov)
  simpa only [List.append_nil] using h
abbrev tmS (bd nw ng nk ns:Nat):List (Nat × AV):=[(3,.ptr nw 0),(4,.ptr ng 0),(5,.ptr nk 0),(6,.ptr ns 0),(7,.ptr (bd+7) 0),(8,.ptr (bd+8) 0),(9,.ptr (bd+9) 0),(10,.ptr (bd+10) 0),(11,.ptr (bd+11) 0)]
theorem Acz {bd nw ng nk ns m:Nat} {k:G2} (h:(AO.loop k (tmS bd nw ng nk ns)).clean m=false):m=nw∨m=ng∨m=nk∨m=ns∨m=bd+7∨m=bd+8∨m=bd+9∨m=bd+10∨m=bd+11:=by
  simp [AO.clean,AV.clean,AV.clean.cleanL] at h
  omega
theorem Ans {vs:List Ves} {ss:List Stp} {g k:Int} {nB mB nw ng nk ns m:Nat} {v:List Liq} {p:List Stp} {os:Nat→Option AO} {bd bdL:Nat} (hvs:vs.length≤4) (hva:vs.all Df=true) (hv:OkV v) (hp:p.length≤1000) (hso:At3 vs ss g k nB mB nw ng nk ns os) (hcl:(Hp os).closed) (hfree:∀ n,bd≤n→os n=none) (hbL:bdL=bd+60)
    (hih:∀ (v':List Liq) (p':List Stp) (os':Nat→Option AO) (bd':Nat),OkV v'→p'.length≤p.length+1→At3 vs ss g k nB mB nw ng nk ns os'→Bt Tryz.prog bd' (.fn (.func 83) [] [.ptr nw 0,.ptr ng 0,.ptr nk 0,.ptr ns 0]) [avW v',.p (slS p'),i64 (m:Int)] os' (SrR (Da vs g k m v' p') os'))
    (hm:m≤10) {A B:Code} (hcode:(Tryz.f83.body.bind Pt)=some (A,B)) :
    Abn Tryz.prog bdL ⟨54,[27],A,B,.ready,none⟩ (tmS bd nw ng nk ns) [] [] (fun n=>(oS os bd v p ((m:Int)+1) nB Dk (bl false) n).isSome=true) avS (Gi vs v) (fun s os'=>∀ n,(oS os bd v p ((m:Int)+1) nB Dk (bl false) n).isSome=true→os' n=oS os bd v p ((m:Int)+1) nB (Aa3 s) (bl s.isSome) n) (Qy vs g k m v p) where
  ready:=rfl
  lenp:=rfl
  psn q hq:=by
    simp only [List.mem_cons,List.not_mem_nil,or_false] at hq
    subst hq; exact (by decide:27 < 54)
  notF h:=by
    rw [Aoj (by omega),hfree _ (by omega)] at h; cases h
  tmF q hq:=by
    have b1:=Au hfree hso.w
    have b2:=Au hfree hso.g
    have b3:=Au hfree hso.k
    have b4:=Au hfree hso.s
    rcases Acz hq with rfl | rfl | rfl | rfl | rfl | rfl | rfl | rfl | rfl
    · rw [G4 b1,hso.w]; rfl
    · rw [G4 b2,hso.g]; rfl
    · rw [G4 b3,hso.k]; rfl
    · rw [G4 b4,hso.s]; rfl
    · rw [Ba9]; rfl
    · rw [Ba3]; rfl
    · rw [Az4]; rfl
    · rw [Lk]; rfl
    · rw [Lo]; rfl
  stable s o1 o2 hI he n hn:=(he n hn).trans (hI n hn)
  foot s o1 n hI hn:=by
    have hn2:(oS os bd v p ((m:Int)+1) nB (Aa3 s) (bl s.isSome) n).isSome=true:=by rw [Ajl (x':=Dk) (f':=bl false)]; exact hn
    obtain ⟨o,ho⟩:=Option.isSome_iff_exists.1 hn2
    refine ⟨o,(hI n hn).trans ho,fun q hq=>?_⟩
    have hc:=Ama (v:=v) (p:=p) (many:=(m:Int)+1) hcl (by rw [hso.b]; rfl) (Au hfree hso.b) (x:=Aa3 s) (f:=bl s.isSome) (by cases s <;> rfl) rfl
    have:(oS os bd v p ((m:Int)+1) nB (Aa3 s) (bl s.isSome) q).isSome=true:=hc.2 n o ho q hq
    rwa [Ajl (x':=Dk) (f':=bl false)] at this
  body s x o1 bd1 hx hI hl hcl1 hfree1 hb1 rl:=by
    have b1:=Au hfree hso.w
    have b2:=Au hfree hso.g
    have b3:=Au hfree hso.k
    have b4:=Au hfree hso.s
    have b5:=Au hfree hso.b
    have a1:o1 nw=_:=(hI nw (by rw [G4 b1,hso.w]; rfl)).trans ((G4 b1).trans hso.w)
    have a2:o1 ng=_:=(hI ng (by rw [G4 b2,hso.g]; rfl)).trans ((G4 b2).trans hso.g)
    have a3:o1 nk=_:=(hI nk (by rw [G4 b3,hso.k]; rfl)).trans ((G4 b3).trans hso.k)
    have a4:o1 ns=_:=(hI ns (by rw [G4 b4,hso.s]; rfl)).trans ((G4 b4).trans hso.s)
    have a5:o1 nB=_:=(hI nB (by rw [G4 b5,hso.b]; rfl)).trans ((G4 b5).trans hso.b)
    have a7:o1 (bd+7)=_:=(hI (bd+7) (by rw [Ba9]; rfl)).trans Ba9
    have a8:o1 (bd+8)=_:=(hI (bd+8) (by rw [Ba3]; rfl)).trans Ba3
    have a9:o1 (bd+9)=_:=(hI (bd+9) (by rw [Az4]; rfl)).trans Az4
    have a10:o1 (bd+10)=_:=(hI (bd+10) (by rw [Lk]; rfl)).trans Lk
    have a11:o1 (bd+11)=_:=(hI (bd+11) (by rw [Lo]; rfl)).trans Lo
    have hfr0:∀ k,o1 (bd1+k)=none:=fun k=>hfree1 _ (by omega)
    have hpg:∀ k,pgO (bd1+k) o1=o1:=fun k=>Aes hcl1 (hfr0 k)
    obtain ⟨x1,x2,x3,x4,x5,x6⟩:=Apw hv hvs hva hx
    obtain ⟨y1,y2,y3,y4,y5⟩:=Cd x1
    have hsm:=hv.small
    have hl4:=hv.len
    have hix:Age (fun e=>(Ac Tryz.prog e).sz) (fun e=>(Ac Tryz.prog e).agg) (.agg Ajf) (.arr 3 157) (i64 x.kind)=some (.pure (.agg [Ak2 x.kind])):=Zd (by simp only [amT]) (by simp only [amT]; rfl) y1.1 y1.2
    have la4:(Fc v x x.g.lo).1.length=4:=by rw [Ace,hl4]
    have hv0t:(cW v0).take 8=cW v0:=rfl
    have hm1:IntKind.i64.wrap ((m:Int)+1 - 1)=m:=by rw [D1 (by omega) (by omega)]; omega
    have hpf:∀ j,AV.purge (bd1+j) (.fn (.func 83) [] [.ptr nw 0,.ptr ng 0,.ptr nk 0,.ptr ns 0])=.fn (.func 83) [] [.ptr nw 0,.ptr ng 0,.ptr nk 0,.ptr ns 0]:=fun j=>by
      unfold AV.purge
      refine if_pos ?_
      simp [AV.clean,AV.clean.cleanL]; omega
    have hpl:∀ j (kk:G2),AO.purge (bd1+j) (.loop kk (tmS bd nw ng nk ns))=.loop kk (tmS bd nw ng nk ns):=fun j kk=>by
      show AO.loop kk (List.map _ _)=_
      congr 1
      simp (disch:=omega) only [tmS,List.map_cons,List.map_nil,Yw,if_neg]
    have hlq:∀ {q:Nat} {kk:G2},(AO.loop kk (tmS bd nw ng nk ns)).clean q=false→(o1 q).isSome=true∧q < bd1∧q≠bdL:=fun {q kk} hq=>by
      rcases Acz hq with e | e | e | e | e | e | e | e | e <;> (refine ⟨?_,by omega,by omega⟩ ; rw [e] ; first | (rw [a1]; rfl) | (rw [a2]; rfl) | (rw [a3]; rfl) | (rw [a4]; rfl) | (rw [a7]; rfl) | (rw [a8]; rfl) | (rw [a9]; rfl) | (rw [a10]; rfl) | (rw [a11]; rfl))
    have hclB:∀ {os:Nat→Option AO} {n k:Nat} {es:List (List PV)},(Hp os).closed→(Hp (upd os n (some (.arr k es)))).closed:=fun h=>Pp h
    have hsoB:∀ {os:Nat→Option AO},(∀ q,q < bd→os q=o1 q)→At3 vs ss g k nB mB nw ng nk ns os:=fun h=>⟨(h _ b1).trans a1,(h _ b5).trans a5,(h _ b2).trans a2,(h _ b3).trans a3,(h _ b4).trans a4⟩
    cases (show some (_,_)=some (A,B) from hcode)
    show AWP _ _ 54 _ ⟨T [(27,avS x),(3,.ptr nw 0),(4,.ptr ng 0),(5,.ptr nk 0),(6,.ptr ns 0),(7,.ptr (bd+7) 0),(8,.ptr (bd+8) 0),(9,.ptr (bd+9) 0),(10,.ptr (bd+10) 0),(11,.ptr (bd+11) 0)],o1⟩ _
    refine Ab ?_
    simp (disch:=omega) only [hl,hfr0,Ad,Cb,amL,amT,sA,sB,sF,↓reduceIte]
    try simp (disch:=omega) only [hl,hfr0,Ad,Cb,amL,amT,sA,sB,sC,sD,sE,sF,sG,sH,sI,sJ,sK,sL,sM,sN,sO,↓reduceIte,reduceCtorEq]
    skip
    refine Ak ?_
    refine Aa fun K1 hK1=>?_
    refine Ab ?_
    simp (disch:=(first | assumption | omega)) only [a7,hfr0,Ad,Cb,B6,A2,Ahj,amL,amT,sA,sB,sF,↓reduceIte]
    refine hK1 _ ?_
    refine Aa fun K2 hK2=>?_
    refine Bg (by kernel_rfl) (by kernel_rfl) ?_
    simp (disch:=(first | assumption | omega)) only [List.map_nil,amL]
    repeat' first | (refine Al (by kernel_rfl) rfl (Aot) (by first | exact .inl rfl | exact .inr (.inl rfl)) ?_ ; simp (disch:=(first | assumption | omega)) only [Ad,Vz,hix,List.map_cons,List.map_nil,amL,amT,sA,sB,sF,↓reduceIte,reduceCtorEq]) | (refine A6 [(12,.ptr (bd1+12) 0),(13,.ptr (bd1+13) 0),(3,.ptr nw 0),(4,.ptr ng 0),(5,.ptr nk 0),(6,.ptr ns 0),(7,.ptr (bd+7) 0),(8,.ptr (bd+8) 0),(9,.ptr (bd+9) 0),(10,.ptr (bd+10) 0),(11,.ptr (bd+11) 0)] (by decide) (Beq (v:=v) (s:=x) (n:=x.g.lo) (nv:=bd1+13) (bd:=bd1+54) y1 hsm ⟨by omega,by omega,by omega⟩ ⟨by omega,by omega,by omega⟩ ⟨by omega,by omega⟩ (by first | (simp (disch:=(first | assumption | omega)) only [amL]; done) | fail)) (fun q hq=>by simp (disch:=omega) only [Ad]; exact hfree1 q (by omega)) (Nat.le_add_right _ _) (fun res os2 hR hcl2 hlv2=>?_) ; obtain ⟨rfl,rfl⟩:=hR ; simp (disch:=(first | assumption | omega)) only [a1,a2,a3,a4,a7,a8,a9,a10,a11,Ad,Cb,amL,sF,↓reduceIte])
    refine hK2 _ ?_
    refine Aa fun K3 hK3=>?_
    refine W9 9 [.app [6],.app [13,41]] (by kernel_rfl) (by kernel_rfl) ?_
    simp only [List.take_succ_cons,List.take_zero,List.drop_succ_cons,List.drop_zero]
    simp (disch:=(first | assumption | omega)) only [a4,a8,Ad,B6,A2,List.map_cons,List.map_nil,amL,amT,sA,sF,↓reduceIte]
    refine Vs (by kernel_rfl) (by decide) (Adf (p.map Qc) (Ar1 p) (Ahp p) (by rw [List.length_map]; omega)) (by simp (disch:=(first | assumption | omega)) only [hfr0,Ad]) ?_
    simp (disch:=(first | assumption | omega)) only [a9,hm1,hfr0,Ad,hpf,hpl,Aqd,Jr,Pv,Mc,hpg,L8,Fw,Hk,List.map_cons,List.map_nil,Mw,amL,amT,sA,sB,sC,sE,sF,↓reduceIte,reduceCtorEq]
    refine ⟨rfl,?_⟩
    refine Agw (bd:=bd1+54) (bd1+46) Bp _ [(3,.ptr nw 0),(4,.ptr ng 0),(5,.ptr nk 0),(6,.ptr ns 0),(7,.ptr (bd+7) 0),(8,.ptr (bd+8) 0),(9,.ptr (bd+9) 0),(10,.ptr (bd+10) 0),(11,.ptr (bd+11) 0)] ((Afb (hclB (Fa (De (Gy hcl1 (by simp [AV.isP])) (fun q hq=>?_)))) (by simp (disch:=omega) only [Ad]; exact hfr0 _)).trans rfl) (by decide) (by
      rw [Apn (by omega) (by omega) (by omega) (by omega),Ar9 (by simp)]
      exact Az2 (hih (Fc v x x.g.lo).1 (p++[x]) _ (bd1+54) x5 (by simp) (hsoB fun q hq=>by simp (disch:=omega) only [Ad]))) (fun q hq=>by simp (disch:=omega) only [Ad]; exact hfree1 q (by omega)) (Nat.le_add_right _ _) (fun res os2 hR hcl2 hlv2=>?_)
    · obtain ⟨hq1,hq2,hq3⟩:=hlq hq
      simp (disch:=omega) only [Ad]; exact hq1
    obtain ⟨⟨y,rfl,hyp,hyq⟩,rfl⟩:=hR
    simp (disch:=omega) only [Mv,AV.frz,if_neg]
    simp (disch:=(first | assumption | omega)) only [a1,a2,a3,a4,a7,a8,a9,a10,a11,Ad,amL,sA,sF,↓reduceIte]
    trace_state
    refine hK3 _ ?_
    refine Aa fun K4 hK4=>?_
    refine Ab ?_
    simp (disch:=(first | assumption | omega)) only [amL,sA,↓reduceIte]
    refine hK4 _ ?_
    refine Ag rfl (fun h=>?_) (fun h=>?_)
    ·first
     | exact Bool.noConfusion h
     |skip
      try simp only [Bool.not_eq_true',decide_eq_true_eq,decide_eq_false_iff_not,Bool.and_eq_true,Bool.not_eq_false',Bool.not_not,decide_not,Bool.not_true,Bool.not_false] at h
      refine Aa fun K5 hK5=>?_
      refine Ab ?_
      obtain ⟨q,hq⟩:=Option.isSome_iff_exists.1 h
      have hy:=hyq q hq
      subst hy
      simp (disch:=(first | assumption | omega)) only [a10,a11,Ad,amL,amT,sF,↓reduceIte]
      refine hK5 _ ?_
      refine Ae ?_
      try simp (disch:=(first | assumption | omega)) only [Ahi,amL]
      first
        | (have hb:Qy vs g k m v p s x=(some q,some .ret):=by unfold Qy; rw [hq]
           refine Rn (upd (upd (upd o1 (bd+10) (some (.cells [.p (slS q)]))) (bd+11) (some (.cells [bl true]))) bdL (some (.loop (Aph _ (some .ret)) (tmS bd nw ng nk ns)))) (by simp (disch:=omega) only [Ad,Bp]) (fun z=>?_) ?_ ⟨by rw [hb] ; first | done | rfl,⟨fun n hn=>?_,by rw [Bp,hb]⟩,fun n hn=>?_⟩
           · by_cases e1:z=bdL
             · subst e1; right; rw [Bp,Bp] ; first | done | rfl
             · by_cases e2:z=bd+11
               · subst e2; right; simp (disch:=omega) only [Ad,Bp]
               · by_cases e3:z=bd+10
                 · subst e3; right; simp (disch:=omega) only [Ad,Bp]
                 · by_cases e4:bd1≤z
                   · left; simp (disch:=omega) only [Ad]; exact hfree1 z e4
                   · right; simp (disch:=omega) only [Ad]
           · refine De (Gy (Gy hcl1 (by simp [AV.isP])) (by simp [AV.isP])) (fun z hz=>?_)
             obtain ⟨z1,z2,z3⟩:=hlq hz
             by_cases e2:z=bd+11
             · subst e2; simp (disch:=omega) only [Ad,Bp,Option.isSome_some]
             · by_cases e3:z=bd+10
               · subst e3; simp (disch:=omega) only [Ad,Bp,Option.isSome_some]
               · simp (disch:=omega) only [Ad]; exact z1
           · rw [hb]
             have hnL:n≠bdL:=fun e=>by subst e; rw [Aoj (by omega),hfree _ (by omega)] at hn; cases hn
             by_cases e2:n=bd+11
             · subst e2; rw [Lo]; simp (disch:=omega) only [Ad,Bp,Option.isSome_some]
             · by_cases e3:n=bd+10
               · subst e3; rw [Lk]; simp (disch:=omega) only [Ad,Bp,Aa3]
               · simp (disch:=omega) only [Ad]
                 exact (hI n hn).trans (Ao1 e3 e2)
           · have h1:n≠bdL:=fun e=>hn (.inr e)
             have h2:n≠bd+11:=fun e=>hn (.inl (by rw [e,Lo]; rfl))
             have h3:n≠bd+10:=fun e=>hn (.inl (by rw [e,Lk]; rfl))
             simp (disch:=omega) only [Ad])
        | (have hb:Qy vs g k m v p s x=(s,none):=by
             unfold Qy; cases hr:Da vs g k m (Fc v x x.g.lo).1 (p++[x]) with
             | none=>rfl
             | some q=>rw [hr] at h; cases h
           refine Rn o1 (by simp (disch:=omega) only [Ad,Bp]) (fun z=>?_) hcl1 ⟨by rw [hb] ; first | done | rfl,⟨fun n hn=>by rw [hb]; exact hI n hn,by rw [hb]; exact hl⟩,fun _ _=>rfl⟩
           by_cases e1:z=bdL
           · subst e1; right; rw [Bp]; exact hl
           · by_cases e4:bd1≤z
             · left; exact hfree1 z e4
             · right; simp (disch:=omega) only [Ad])
        | trace_state
    ·first
     | exact Bool.noConfusion h
     |skip
      try simp only [Bool.not_eq_true',decide_eq_true_eq,decide_eq_false_iff_not,Bool.and_eq_true,Bool.not_eq_false',Bool.not_not,decide_not,Bool.not_true,Bool.not_false] at h
      refine Ah ?_
      try simp (disch:=(first | assumption | omega)) only [Yi,amL]
      first
        | (have hb:Qy vs g k m v p s x=(some q,some .ret):=by unfold Qy; rw [hq]
           refine Rn (upd (upd (upd o1 (bd+10) (some (.cells [.p (slS q)]))) (bd+11) (some (.cells [bl true]))) bdL (some (.loop (Aph _ (some .ret)) (tmS bd nw ng nk ns)))) (by simp (disch:=omega) only [Ad,Bp]) (fun z=>?_) ?_ ⟨by rw [hb] ; first | done | rfl,⟨fun n hn=>?_,by rw [Bp,hb]⟩,fun n hn=>?_⟩
           · by_cases e1:z=bdL
             · subst e1; right; rw [Bp,Bp] ; first | done | rfl
             · by_cases e2:z=bd+11
               · subst e2; right; simp (disch:=omega) only [Ad,Bp]
               · by_cases e3:z=bd+10
                 · subst e3; right; simp (disch:=omega) only [Ad,Bp]
                 · by_cases e4:bd1≤z
                   · left; simp (disch:=omega) only [Ad]; exact hfree1 z e4
                   · right; simp (disch:=omega) only [Ad]
           · refine De (Gy (Gy hcl1 (by simp [AV.isP])) (by simp [AV.isP])) (fun z hz=>?_)
             obtain ⟨z1,z2,z3⟩:=hlq hz
             by_cases e2:z=bd+11
             · subst e2; simp (disch:=omega) only [Ad,Bp,Option.isSome_some]
             · by_cases e3:z=bd+10
               · subst e3; simp (disch:=omega) only [Ad,Bp,Option.isSome_some]
               · simp (disch:=omega) only [Ad]; exact z1
           · rw [hb]
             have hnL:n≠bdL:=fun e=>by subst e; rw [Aoj (by omega),hfree _ (by omega)] at hn; cases hn
             by_cases e2:n=bd+11
             · subst e2; rw [Lo]; simp (disch:=omega) only [Ad,Bp,Option.isSome_some]
             · by_cases e3:n=bd+10
               · subst e3; rw [Lk]; simp (disch:=omega) only [Ad,Bp,Aa3]
               · simp (disch:=omega) only [Ad]
                 exact (hI n hn).trans (Ao1 e3 e2)
           · have h1:n≠bdL:=fun e=>hn (.inr e)
             have h2:n≠bd+11:=fun e=>hn (.inl (by rw [e,Lo]; rfl))
             have h3:n≠bd+10:=fun e=>hn (.inl (by rw [e,Lk]; rfl))
             simp (disch:=omega) only [Ad])
        | (have hb:Qy vs g k m v p s x=(s,none):=by
             unfold Qy; cases hr:Da vs g k m (Fc v x x.g.lo).1 (p++[x]) with
             | none=>rfl
             | some q=>rw [hr] at h; cases h
           refine Rn o1 (by simp (disch:=omega) only [Ad,Bp]) (fun z=>?_) hcl1 ⟨by rw [hb] ; first | done | rfl,⟨fun n hn=>by rw [hb]; exact hI n hn,by rw [hb]; exact hl⟩,fun _ _=>rfl⟩
           by_cases e1:z=bdL
           · subst e1; right; rw [Bp]; exact hl
           · by_cases e4:bd1≤z
             · left; exact hfree1 z e4
             · right; simp (disch:=omega) only [Ad])
        | trace_state
theorem Ae8 {vs:List Ves} {g k:Int} {v:List Liq} {p:List Stp}:(Da vs g k 0 v p).isSome=W1 vs.length v g k∧∀ q,Da vs g k 0 v p=some q→q=p:=by
  unfold Da
  cases h:W1 vs.length v g k with
  | true=>exact ⟨rfl,fun q hq=>by cases hq; rfl⟩
  | false=>exact ⟨rfl,fun q hq=>by cases hq⟩
theorem Bao {t:Nat→AV} {tm:List (Nat × AV)} (h:leT t tm):∀ (j:Nat) (p:Nat × AV),tm[j]?=some p→p.2=.undef∨p.2=t p.1:=by
  induction tm with
  | nil=>intro j p hp; simp at hp
  | cons x r ih=>
    obtain ⟨i,v⟩:=x
    rw [Ax] at h
    intro j p hp
    cases j with
    | zero=>simp at hp; subst hp; exact .inr h.1.symm
    | succ j=>exact ih h.2 j p (by simpa using hp)
theorem Ao9 {vs:List Ves} {ss:List Stp} {g k:Int} {nB mB nw ng nk ns:Nat} (hvs:vs.length≤4) (hva:vs.all Df=true) (m:Nat):m≤10→∀ (v:List Liq) (p:List Stp) (os:Nat→Option AO) (bd:Nat),OkV v→p.length+m≤900→At3 vs ss g k nB mB nw ng nk ns os →
    Bt Tryz.prog bd (.fn (.func 83) [] [.ptr nw 0,.ptr ng 0,.ptr nk 0,.ptr ns 0]) [avW v,.p (slS p),i64 (m:Int)] os (SrR (Da vs g k m v p) os):=by
  induction m using Nat.strongRecOn with
  | ind m ih=>
  intro hm v p os bd hv hp hso
  refine Aac (v:=[84,85]) (q:=[84]) (N:=54) (rs:=[.cell 10 36,.cell 11 4]) Tryz.func83 rfl (by kernel_rfl) rfl rfl (fun hcl hfree=>?_)
  have hfr0:∀ k,os (bd+k)=none:=fun k=>hfree _ (by omega)
  have hw:=hso.w
  have hg:=hso.g
  have hk:=hso.k
  have hB:=hso.b
  have hS:=hso.s
  have b1:=Au hfree hso.w
  have b2:=Au hfree hso.g
  have b3:=Au hfree hso.k
  have b4:=Au hfree hso.s
  have b5:=Au hfree hso.b
  have hl4:=hv.len
  have hsB:(os nB).isSome=true:=by rw [hB]; rfl
  obtain ⟨A,B,hcode⟩:∃ A B,(Tryz.f83.body.bind Pt)=some (A,B):=⟨_,_,rfl⟩
  refine Mz fun K1 hK1=>?_
  refine Ab ?_
  simp (disch:=(first | assumption | omega)) only [hfr0,Ad,amL,amT,sA,sB,sF,↓reduceIte,reduceCtorEq]
  refine hK1 _ ?_
  refine Mz fun K2 hK2=>?_
  refine Aa fun K3 hK3=>?_
  refine Ab ?_
  simp (disch:=(first | assumption | omega)) only [Ad,amL,amT,sA,sF,↓reduceIte]
  refine hK3 _ ?_
  refine Ag rfl (fun h=>?_) (fun h=>?_)
  ·first
   | exact Bool.noConfusion h
   |skip
    try simp only [decide_eq_true_eq] at h
    refine Aa fun K4 hK4=>?_
    obtain rfl:m=0:=by omega
    refine W9 8 [] (by kernel_rfl) (by kernel_rfl) ?_
    simp only [List.take_succ_cons,List.take_zero,List.drop_succ_cons,List.drop_zero]
    simp (disch:=(first | assumption | omega)) only [hw,hg,hk,Ad,B6,A2,amL,amT,sA,sF,sG,↓reduceIte,reduceCtorEq]
    refine Ano (bd:=bd+54) (by decide) (Auw (ss:=ss) (m:=mB) (by simp (disch:=omega) only [Ad]; exact hB) hvs hv.small hl4) (fun q hq=>by simp (disch:=omega) only [Ad]; exact hfree q (by omega)) (Nat.le_add_right _ _) rfl ?_
    simp (disch:=(first | assumption | omega)) only [Ad,amL,amT,sF,↓reduceIte]
    refine hK4 _ ?_
    refine Ae ?_
    try simp (disch:=(first | assumption | omega)) only [amL]
    first
      | (obtain ⟨s1,s2⟩:=Ae8 (vs:=vs) (g:=g) (k:=k) (v:=v) (p:=p)
         refine Ba (res:=.tup [.p (slS p),bl (W1 vs.length v g k)]) os (Jy (n:=bd+10) (m:=bd+11) (by simp (disch:=(first | assumption | omega)) only [amL,sF,↓reduceIte]) (by simp only [amT]; rfl) (by simp (disch:=(first | assumption | omega)) only [Ad,amL]) (by simp (disch:=(first | assumption | omega)) only [amL,sF,↓reduceIte]) (by simp only [amT]; rfl) (by simp (disch:=(first | assumption | omega)) only [amL])) (by first | ((repeat' first | exact Sub.refl _ | refine Sub.skip (by first | exact hfr0 _ | (simp (disch:=omega) only [Ad]; exact hfr0 _)) ?_ | refine Sub.both ?_); done) | fail) hcl (Bd _ rfl) ⟨⟨_,by rw [s1],rfl,fun q hq=>by rw [s2 q hq]⟩,rfl⟩)
      | (refine Ba (res:=.tup [Dk,bl false]) os (Jy (n:=bd+10) (m:=bd+11) (by simp (disch:=(first | assumption | omega)) only [hw,hg,hk,hB,hS,hfr0,Ad,Cb,B6,A2,amL,amT,sA,sB,sC,sD,sE,sF,sG,sH,sI,sJ,sK,sL,sM,sN,sO,↓reduceIte,reduceCtorEq]) (by simp only [amT]; rfl) (by simp (disch:=(first | assumption | omega)) only [hw,hg,hk,hB,hS,hfr0,Ad,Cb,B6,A2,amL,amT,sA,sB,sC,sD,sE,sF,sG,sH,sI,sJ,sK,sL,sM,sN,sO,↓reduceIte,reduceCtorEq]) (by simp (disch:=(first | assumption | omega)) only [hw,hg,hk,hB,hS,hfr0,Ad,Cb,B6,A2,amL,amT,sA,sB,sC,sD,sE,sF,sG,sH,sI,sJ,sK,sL,sM,sN,sO,↓reduceIte,reduceCtorEq]) (by simp only [amT]; rfl) (by simp (disch:=(first | assumption | omega)) only [hw,hg,hk,hB,hS,hfr0,Ad,Cb,B6,A2,amL,amT,sA,sB,sC,sD,sE,sF,sG,sH,sI,sJ,sK,sL,sM,sN,sO,↓reduceIte,reduceCtorEq])) (fun z=>?_) hcl (Bd _ rfl) ⟨⟨_,by rw [hr]; rfl,rfl,fun q hq=>by rw [hr] at hq; cases hq⟩,rfl⟩
         cases hz:os z with
         | none=>exact .inl rfl
         | some o=>
           have hz1:=Au hfree hz
           obtain ⟨g1,g2⟩:=hlt z hz1 (by rw [hz]; rfl) (Aa3 none) (bl false)
           right; simp (disch:=omega) only [Ad]; rw [hI3 z g1]; exact (g2.trans hz).symm)
      | trace_state
  ·first
   | exact Bool.noConfusion h
   |skip
    try simp only [decide_eq_false_iff_not] at h
    refine Ah ?_
    refine hK2 _ ?_
    refine Ahl fun K5 hK5=>?_
    refine Mz fun K6 hK6=>?_
    refine Ab ?_
    obtain ⟨m,rfl⟩:∃ j,m=j+1:=⟨m - 1,by omega⟩
    simp (disch:=(first | assumption | omega)) only [hw,Ad,B6,A2,amL,amT,sA,sF,sG,↓reduceIte,reduceCtorEq]
    refine A6 [(3,.ptr nw 0),(4,.ptr ng 0),(5,.ptr nk 0),(6,.ptr ns 0),(7,.ptr (bd+7) 0),(8,.ptr (bd+8) 0),(9,.ptr (bd+9) 0),(10,.ptr (bd+10) 0),(11,.ptr (bd+11) 0)] (by decide) (Auh (v:=v) (nw:=nB) (bd:=bd+54) (by simp (disch:=omega) only [Ad]; exact hsB)) (fun q hq=>by simp (disch:=omega) only [Ad]; exact hfree q (by omega)) (Nat.le_add_right _ _) (fun res os2 hR hcl2 hlv2=>?_)
    obtain ⟨rfl,rfl⟩:=hR
    simp (disch:=(first | assumption | omega)) only [hw,hg,hk,hS,Ad,amL,sF,↓reduceIte,reduceCtorEq]
    refine hK6 _ ?_
    refine W3 ?_
    have hRd:=Ans (v:=v) (p:=p) (bdL:=bd+60) (m:=m) hvs hva hv (by omega) hso hcl hfree rfl (fun v' p' os' bd' h1 h2 h3=>ih m (by omega) (by omega) v' p' os' bd' h1 (by omega) h3) (by omega) hcode
    have hc:=Aoz (n1:=bd+54+2) (n2:=bd+54+3) (nw:=nB) (ss:=ss) (m:=mB) hRd.yields (fun s os' hI=>⟨(hI.1 _ (by rw [Avv]; rfl)).trans Avv,(hI.1 _ (by rw [Aw6]; rfl)).trans Aw6,(hI.1 nB (by rw [G4 b5,hso.b]; rfl)).trans ((G4 b5).trans hso.b)⟩) hv hvs hva (s:=(none,none)) (os:=upd (oS os bd v p ((m:Int)+1) nB Dk (bl false)) (bd+60) (some (.loop ⟨54,[27],A,B,.ready,none⟩ (tmS bd nw ng nk ns)))) (bd:=bd+61) rfl ⟨fun n hn=>(Ad (fun e=>by subst e; rw [Aoj (by omega),hfree _ (by omega)] at hn; cases hn)),Bp⟩
    cases (show some (_,_)=some (A,B) from hcode)
    refine Pk (bd:=bd+60) (tm:=tmS bd nw ng nk ns) rfl (fun q hq=>by simp (disch:=omega) only [Ad]; exact hfree q (by omega)) (by simp only []; omega) rfl (by kernel_rfl) (fun i=>Acd (by simp (disch:=(first | assumption | omega)) only [amL,sF,↓reduceIte]) i) (Bao (by simp (disch:=(first | assumption | omega)) only [amL,sF,↓reduceIte])) hc (fun res os2 hR hcl2=>?_)
    obtain ⟨rfl,hI2,hfr2⟩:=hR
    have hI2:=hI2
    rw [Ady] at hI2
    have hlt:∀ q,q < bd→(os q).isSome=true→∀ x f,(oS os bd v p ((m:Int)+1) nB Dk (bl false) q).isSome=true∧oS os bd v p ((m:Int)+1) nB x f q=os q:=fun q h1 h2 x f=>⟨by rw [G4 h1]; exact h2,G4 h1⟩
    cases hr:Da vs g k (m+1) v p with
    | some q=>
      rw [show ((Gi vs v).findSome? fun x=>Da vs g k m (Fc v x x.g.lo).1 (p++[x]))=some q from hr] at hI2
      obtain ⟨hI3,hI4⟩:=hI2
      dsimp only at hI3 hI4
      have p10:os2 (bd+10)=_:=(hI3 (bd+10) (by rw [Lk]; rfl)).trans Lk
      have p11:os2 (bd+11)=_:=(hI3 (bd+11) (by rw [Lo]; rfl)).trans Lo
      refine ⟨_,hI4,by simp [],?_⟩
      show Ms 0 _ .ret _
      simp (disch:=omega) only [Xy,Za,Acw]
      refine Ba (res:=.tup [.p (slS q),bl true]) os (Jy (n:=bd+10) (m:=bd+11) (by simp (disch:=(first | assumption | omega)) only [amL,sF,↓reduceIte]) (by simp only [amT]; rfl) ((Ad (by omega)).trans p10) (by simp (disch:=(first | assumption | omega)) only [amL,sF,↓reduceIte]) (by simp only [amT]; rfl) ((Ad (by omega)).trans p11)) (fun z=>?_) hcl (Bd _ rfl) ⟨⟨_,rfl,rfl,fun q' hq'=>by cases hq'; rfl⟩,rfl⟩
      cases hz:os z with
      | none=>exact .inl rfl
      | some o=>
        have hz1:=Au hfree hz
        obtain ⟨g1,g2⟩:=hlt z hz1 (by rw [hz]; rfl) (Aa3 (some q)) (bl true)
        right; exact ((Ad (by omega)).trans ((hI3 z g1).trans (g2.trans hz))).symm
    | none=>
    rw [show ((Gi vs v).findSome? fun x=>Da vs g k m (Fc v x x.g.lo).1 (p++[x]))=none from hr] at hI2
    obtain ⟨hI3,hI4⟩:=hI2
    dsimp only at hI3 hI4
    have p10:os2 (bd+10)=_:=(hI3 (bd+10) (by rw [Lk]; rfl)).trans Lk
    have p11:os2 (bd+11)=_:=(hI3 (bd+11) (by rw [Lo]; rfl)).trans Lo
    refine ⟨_,hI4,by simp [],?_⟩
    show Ms 0 _ .normal _
    simp only [Qg,Rt]
    refine hK5 _ ?_
    refine Mz fun K7 hK7=>?_
    refine Ab ?_
    simp (disch:=(first | assumption | omega)) only [p10,p11,Ad,amL,amT,sF,↓reduceIte]
    refine hK7 _ ?_
    refine Ev ?_
    refine Ae ?_
    try simp (disch:=(first | assumption | omega)) only [amL]
    first
      | (obtain ⟨s1,s2⟩:=Ae8 (vs:=vs) (g:=g) (k:=k) (v:=v) (p:=p)
         refine Ba (res:=.tup [.p (slS p),bl (W1 vs.length v g k)]) os (Jy (n:=bd+10) (m:=bd+11) (by simp (disch:=(first | assumption | omega)) only [amL,sF,↓reduceIte]) (by simp only [amT]; rfl) (by simp (disch:=(first | assumption | omega)) only [Ad,amL]) (by simp (disch:=(first | assumption | omega)) only [amL,sF,↓reduceIte]) (by simp only [amT]; rfl) (by simp (disch:=(first | assumption | omega)) only [amL])) (by first | ((repeat' first | exact Sub.refl _ | refine Sub.skip (by first | exact hfr0 _ | (simp (disch:=omega) only [Ad]; exact hfr0 _)) ?_ | refine Sub.both ?_); done) | fail) hcl (Bd _ rfl) ⟨⟨_,by rw [s1],rfl,fun q hq=>by rw [s2 q hq]⟩,rfl⟩)
      | (refine Ba (res:=.tup [Dk,bl false]) os (Jy (n:=bd+10) (m:=bd+11) (by simp (disch:=(first | assumption | omega)) only [amL,sF,↓reduceIte]) (by simp only [amT]; rfl) (by simp (disch:=(first | assumption | omega)) only [Ad,amL]) (by simp (disch:=(first | assumption | omega)) only [amL,sF,↓reduceIte]) (by simp only [amT]; rfl) (by simp (disch:=(first | assumption | omega)) only [amL])) (fun z=>?_) hcl (Bd _ rfl) ⟨⟨_,by rw [hr]; rfl,rfl,fun q hq=>by rw [hr] at hq; cases hq⟩,rfl⟩
         cases hz:os z with
         | none=>exact .inl rfl
         | some o=>
           have hz1:=Au hfree hz
           obtain ⟨g1,g2⟩:=hlt z hz1 (by rw [hz]; rfl) (Aa3 none) (bl false)
           right; simp (disch:=omega) only [Ad]; rw [hI3 z g1]; exact (g2.trans hz).symm)
      | trace_state
theorem Bt.of_nil1 {P:Program} {bd:Nat} {fv a c:AV} {os:Nat→Option AO} {R:AV→(Nat→Option AO)→Prop} (h:Bt P bd fv [a,.p (.sl []),c] os R):Bt P bd fv [a,Dk,c] os R:=by
  intro hfree S θ M w vf vs h1 h2 h3 h4 h5 h6
  refine h hfree S θ M w vf vs h1 h2 h3 (fun i x hx=>?_) h5 (fun i x hx=>?_)
  · match i,hx with
    | 0,hx=>exact h4 0 x hx
    | 1,hx=>
      cases hx
      have:=Ml (h4 1 Dk rfl)
      rw [this]; exact .p _ _ .nil
    | 2,hx=>exact h4 2 x hx
  · match i,hx with
    | 0,hx=>exact h6 0 x hx
    | 1,hx=>cases hx; exact AV.lives_p _ _
    | 2,hx=>exact h6 2 x hx
def Ld (vs:List Ves):List Liq:=if Lf vs=true then (Dt vs).1 else v0
theorem Bb0 (vs:List Ves):Af2 vs=.tup [avW (Ld vs),bl (Lf vs),bl (Lf vs&&(Dt vs).2)]:=by
  unfold Af2 Ld
  cases Lf vs with
  | true=>simp
  | false=>simp
theorem N8 {vs:List Ves} {g k:Int} {v:List Liq} {j:Nat} {q:List Stp} (h:∀ i,i < j→Da vs g k i v []=none) (hj:j < 3) (hq:Da vs g k j v []=some q):Apz vs g k v=some q:=by
  unfold Apz
  match j,hj with
  | 0,_=>rw [hq]; rfl
  | 1,_=>rw [h 0 (by omega),hq]; rfl
  | 2,_=>rw [h 0 (by omega),h 1 (by omega),hq]; rfl
theorem Nu {vs:List Ves} {g k:Int} {v:List Liq} {j:Nat} (h:∀ i,i < j→Da vs g k i v []=none) (hj:3≤j):Apz vs g k v=none:=by
  unfold Apz; rw [h 0 (by omega),h 1 (by omega),h 2 (by omega)]; rfl
theorem Apk (b:Cx) (g k:Int):(Jh b g k).isP=true:=by
  unfold Jh
  split
  · rfl
  · split
    · rfl
    · split
      · rfl
      · split <;> rfl
theorem Ao5 {vs:List Ves} (hvs:vs.length≤4) (hva:vs.all Df=true):OkV (Dt vs).1:=by
  have hb:∀ k,(0≤(vs.map (·.g.lo)).getD k 0∧(vs.map (·.g.lo)).getD k 0≤60)∧(0≤(vs.map (·.d.lo)).getD k 0∧(vs.map (·.d.lo)).getD k 0≤120):=fun k=>by
    by_cases hk:k < vs.length
    · have hb:=Cp (List.all_eq_true.1 hva _ (Em default hk))
      have h1:=Co hb.1
      have h2:=Co hb.2.1
      rw [C4 (·.g.lo) 0 default hk,C4 (·.d.lo) 0 default hk]
      constructor <;> constructor <;> first | exact h1.1 | exact h2.1 | (show _≤_; omega)
    · have e1:(vs.map (·.g.lo)).getD k 0=0:=by simp [List.getD,List.getElem?_eq_none (show vs.length≤k by omega)]
      have e2:(vs.map (·.d.lo)).getD k 0=0:=by simp [List.getD,List.getElem?_eq_none (show vs.length≤k by omega)]
      rw [e1,e2]; omega
  refine Vj (by omega) (fun k=>(hb k).1) (fun k=>(hb k).2) Ain (by decide) fun k _=>?_
  match k with
  | 0=>rfl
  | 1=>rfl
  | 2=>rfl
  | 3=>rfl
  | k+4=>rfl
theorem Ape {ks:List Nat} (v:List Liq):nmL ks (cW v)=true:=by
  unfold cW
  generalize wI v=l
  induction l with
  | nil=>rfl
  | cons x l ih=>simp only [List.map_cons,nmL,nm,ih,Bool.and_self]
theorem Au8 {vs:List Ves} (hvs:vs.length≤4) (hva:vs.all Df=true):OkV (Ld vs):=by
  unfold Ld; split
  · exact Ao5 hvs hva
  · exact Ain
theorem Ao7 (b:Cx) (g k:Int) (hl:b.vs.length < 1000000) (hl2:b.ss.length < 1000000):Bj Tryz.prog 34 [avB b,i64 g,i64 k] (Jh b g k):=by
  refine A7 (v:=[60,81]) (q:=[]) (N:=54) (rs:=[.tmp 6,.tmp 7]) Tryz.func34 rfl rfl rfl rfl (Apk b g k) ?_
  have hfx:=Bb0 b.vs
  have hw4:(Ld b.vs).length=4:=by unfold Ld; split; exact Tm; rfl
  refine Aa fun K1 hK1=>?_
  refine Ab ?_
  simp (disch:=(first | assumption | omega)) only [amL,sA,sB,sF,↓reduceIte,reduceCtorEq]
  refine hK1 _ ?_
  refine Aa fun K2 hK2=>?_
  refine Aa fun K3 hK3=>?_
  refine Ab ?_
  simp (disch:=(first | assumption | omega)) only [amL,amT,sA,sB,sF,sG,↓reduceIte]
  repeat' first | (refine Al (by kernel_rfl) rfl (Aja b hl hl2) (by first | exact .inl rfl | exact .inr (.inl rfl)) ?_ ; simp (disch:=(first | assumption | omega)) only [amL,sA,↓reduceIte])
  refine hK3 _ ?_
  refine Aa fun K4 hK4=>?_
  refine Ab ?_
  simp (disch:=(first | assumption | omega)) only [amL,amT,sA,↓reduceIte]
  refine hK4 _ ?_
  refine Ag rfl (fun h=>?_) (fun h=>?_)
  ·first
   | exact Bool.noConfusion h
   |skip
    try simp only [Bool.not_eq_true',decide_eq_false_iff_not,decide_not] at h
    refine Aa fun K5 hK5=>?_
    refine Ab ?_
    simp (disch:=(first | assumption | omega)) only [amL,sA,sF,↓reduceIte]
    refine hK5 _ ?_
    refine Ae ?_
    try simp (disch:=(first | assumption | omega)) only [amL,sF,↓reduceIte]
    all_goals first
      | (unfold Jh; rw [if_pos (by assumption)]; done)
      | (unfold Jh; rw [if_neg (by omega),if_pos (by first | (simp_all; done) | fail)]; done)
      | (unfold Jh; rw [if_neg (by omega),if_neg (by first | (simp_all; done) | fail),if_pos (by first | (simp_all; done) | fail)]; done)
      | (have h1:(Lf b.vs&&Pm g k)=true:=by first | (simp_all; done) | fail
         have h2:(Dt b.vs).2=true:=by first | (simp_all; done) | fail
         have h3:Lf b.vs=true:=by first | (simp_all; done) | fail
         have h4:Ld b.vs=(Dt b.vs).1:=by unfold Ld; rw [if_pos h3]
         unfold Jh; rw [if_neg (by omega),if_neg (by rw [h1]; decide),if_neg (by rw [h2]; decide),← h4]
         first | (rw [N8 hno (by omega) hq]; done) | (rw [Nu hno (by omega)]; done))
      | trace_state
  ·first
   | exact Bool.noConfusion h
   |skip
    try simp only [decide_eq_true_eq,Bool.not_eq_false',decide_not] at h
    refine Ah ?_
    refine hK2 _ ?_
    refine Aa fun K6 hK6=>?_
    refine Ab ?_
    have hf0:B5 b=0:=by omega
    have hval:=Acu hf0
    simp (disch:=(first | assumption | omega)) only [amL,amT,sA,sB,sF,sG,↓reduceIte]
    refine A6 [(3,.ptr 3 0),(4,.ptr 4 0),(5,.ptr 5 0),(6,Dk),(7,i64 0)] (by decide) (Ed (b:=b) (bd:=54)) (M8 rfl) (by decide) (fun res os2 hR hcl2 hlv2=>?_)
    obtain ⟨rfl,rfl⟩:=hR
    simp (disch:=(first | assumption | omega)) only [amL,amT,sA,sB,sF,↓reduceIte]
    refine hK6 _ ?_
    refine Aa fun K7 hK7=>?_
    refine Ab ?_
    simp (disch:=(first | assumption | omega)) only [amL,amT,sA,sG,↓reduceIte]
    refine Cv (bd:=100) (by decide) (Atw (ss:=b.ss) (m:=58) ⟨by simp (disch:=(first | assumption | omega)) only [amL,sF,↓reduceIte],by simp (disch:=(first | assumption | omega)) only [amL,sF,↓reduceIte]⟩ hval.nv hval.v) (fun q hq=>by first | exact M8 rfl q (by omega) | (simp (disch:=omega) only [Ad]; exact M8 rfl q (by omega))) (by decide) (by rw [hfx]; exact U4 _ _ _) ?_
    simp (disch:=(first | assumption | omega)) only [hfx,Ahj,A2,amL,amT,sA,sB,sF,↓reduceIte]
    refine hK7 _ ?_
    refine Aa fun K8 hK8=>?_
    refine Aa fun K9 hK9=>?_
    refine Ab ?_
    simp (disch:=(first | assumption | omega)) only [amL,sA,sF,↓reduceIte]
    repeat' first | (refine Cn (fun h=>?_) (fun h=>?_) <;> simp (disch:=(first | assumption | omega)) only [h,hfx,Ahj,B6,A2,amL,amT,sA,sB,sC,sD,sE,sF,sG,sH,sI,sJ,sK,sL,sM,sN,sO,↓reduceIte,reduceCtorEq]) | (refine Bo (fun h=>?_) (fun h=>?_) <;> simp (disch:=(first | assumption | omega)) only [h,amL,amT,sA,sF,sG,↓reduceIte]) | (refine Al (by kernel_rfl) rfl (c_wort g k) (by first | exact .inl rfl | exact .inr (.inl rfl)) ?_ ; simp (disch:=(first | assumption | omega)) only [amL,sA,sF,↓reduceIte])
    all_goals
     skip
     refine hK9 _ ?_
     refine Ag rfl (fun h=>?_) (fun h=>?_)
     ·first
      | exact Bool.noConfusion h
      |skip
       try simp only [Bool.not_eq_true'] at h
       refine Aa fun K10 hK10=>?_
       refine Ab ?_
       simp (disch:=(first | assumption | omega)) only [amL,sA]
       refine hK10 _ ?_
       refine Ae ?_
       try simp (disch:=(first | assumption | omega)) only [amL,sF,↓reduceIte]
       all_goals first
         | (unfold Jh; rw [if_pos (by assumption)]; done)
         | (unfold Jh; rw [if_neg (by omega),if_pos (by first | (simp_all; done) | fail)]; done)
         | (unfold Jh; rw [if_neg (by omega),if_neg (by first | (simp_all; done) | fail),if_pos (by first | (simp_all; done) | fail)]; done)
         | (have h1:(Lf b.vs&&Pm g k)=true:=by first | (simp_all; done) | fail
            have h2:(Dt b.vs).2=true:=by first | (simp_all; done) | fail
            have h3:Lf b.vs=true:=by first | (simp_all; done) | fail
            have h4:Ld b.vs=(Dt b.vs).1:=by unfold Ld; rw [if_pos h3]
            unfold Jh; rw [if_neg (by omega),if_neg (by rw [h1]; decide),if_neg (by rw [h2]; decide),← h4]
            first | (rw [N8 hno (by omega) hq]; done) | (rw [Nu hno (by omega)]; done))
         | trace_state
     ·first
      | exact Bool.noConfusion h
      |skip
       try simp only [Bool.not_eq_false'] at h
       refine Ah ?_
       refine hK8 _ ?_
       refine Aa fun K11 hK11=>?_
       refine Aa fun K12 hK12=>?_
       refine Ab ?_
       simp (disch:=(first | assumption | omega)) only [amL,sA,sF,↓reduceIte]
       refine hK12 _ ?_
       refine Ag rfl (fun h=>?_) (fun h=>?_)
       ·first
        | exact Bool.noConfusion h
        |skip
         try simp only [Bool.not_eq_true'] at h
         refine Aa fun K13 hK13=>?_
         refine Ab ?_
         simp (disch:=(first | assumption | omega)) only [amL,sA]
         refine hK13 _ ?_
         refine Ae ?_
         try simp (disch:=(first | assumption | omega)) only [amL,sF,↓reduceIte]
         all_goals first
           | (unfold Jh; rw [if_pos (by assumption)]; done)
           | (unfold Jh; rw [if_neg (by omega),if_pos (by first | (simp_all; done) | fail)]; done)
           | (unfold Jh; rw [if_neg (by omega),if_neg (by first | (simp_all; done) | fail),if_pos (by first | (simp_all; done) | fail)]; done)
           | (have h1:(Lf b.vs&&Pm g k)=true:=by first | (simp_all; done) | fail
              have h2:(Dt b.vs).2=true:=by first | (simp_all; done) | fail
              have h3:Lf b.vs=true:=by first | (simp_all; done) | fail
              have h4:Ld b.vs=(Dt b.vs).1:=by unfold Ld; rw [if_pos h3]
              unfold Jh; rw [if_neg (by omega),if_neg (by rw [h1]; decide),if_neg (by rw [h2]; decide),← h4]
              first | (rw [N8 hno (by omega) hq]; done) | (rw [Nu hno (by omega)]; done))
           | trace_state
       ·first
        | exact Bool.noConfusion h
        |skip
         try simp only [Bool.and_eq_true,Bool.not_eq_false'] at h
         refine Ah ?_
         refine hK11 _ ?_
         refine Aa fun K14 hK14=>?_
         refine Ab ?_
         simp (disch:=(first | assumption | omega)) only [amL,amT,sA,sF,↓reduceIte]
         refine hK14 _ ?_
         refine Aa fun K15 hK15=>?_
         refine Ab ?_
         simp (disch:=(first | assumption | omega)) only [amL,amT,sA,sF,↓reduceIte]
         refine hK15 _ ?_
         refine Aa fun K16 hK16=>?_
         refine Aa fun K17 hK17=>?_
         refine Ab ?_
         simp (disch:=(first | assumption | omega)) only [amL,sA]
         refine hK17 _ ?_
         refine Ak ?_
         skip
         refine A5 (α:=Nat) (fun j=>⟨T [(4,.ptr 4 0),(5,.ptr 5 0),(9,.ptr 9 0),(10,.ptr 10 0),(13,.ptr 13 0),(41,i64 (j:Int))],O [(4,.cells [i64 g]),(5,.cells [i64 k]),(9,.cells [.ptr 60 0]),(10,.cells (cW (Ld b.vs))),(13,.cells [.fn (.func 83) [] [.ptr 9 0,.ptr 4 0,.ptr 5 0,.ptr 13 0]]),(58,.obj (G5 14 (T0 b.vs))),(60,.cells [.p (slV b.vs),.p (slS b.ss),.mp 58])]⟩) (fun j=>3 - j) (fun j=>j≤3∧∀ i,i < j→Da b.vs g k i (Ld b.vs) []=none) 0 ?_ ?_ (fun j hx18 K18 hK18=>?_)
         · exact ⟨by omega,fun i hi=>absurd hi (Nat.not_lt_zero _)⟩
         · refine B0 ?_ ?_ ?_ ?_ <;> (try simp (disch:=(first | assumption | omega)) only [amL,sF,sG,↓reduceIte]); all_goals first | exact Ape _ | trace_state
         obtain ⟨hj,hno⟩:=hx18
         refine Aa fun K19 hK19=>?_
         refine Ab ?_
         simp (disch:=(first | assumption | omega)) only [amL,amT,sA,sF,↓reduceIte]
         refine hK19 _ ?_
         refine Aa fun K20 hK20=>?_
         refine Ag rfl (fun h=>?_) (fun h=>?_)
         ·first
          | exact Bool.noConfusion h
          |skip
           try simp only [decide_eq_true_eq] at h
           refine Ah ?_
           refine hK20 _ ?_
           refine Aa fun K21 hK21=>?_
           refine Ak ?_
           refine Aa fun K22 hK22=>?_
           refine Ab ?_
           simp (disch:=(first | assumption | omega)) only [amL,sA,sF,↓reduceIte]
           refine hK22 _ ?_
           refine Aa fun K23 hK23=>?_
           refine Ab ?_
           simp (disch:=(first | assumption | omega)) only [B6,A2,amL,amT,sA,sF,↓reduceIte]
           have hcs:=Bt.of_nil1 (Ao9 (nB:=60) (mB:=58) (ss:=b.ss) (g:=g) (k:=k) (nw:=9) (ng:=4) (nk:=5) (ns:=13) hval.nv hval.v j (by omega) (Ld b.vs) [] (O [(4,.cells [i64 g]),(5,.cells [i64 k]),(9,.cells [.ptr 60 0]),(10,.cells (cW (Ld b.vs))),(13,.cells [.fn (.func 83) [] [.ptr 9 0,.ptr 4 0,.ptr 5 0,.ptr 13 0]]),(58,.obj (G5 14 (T0 b.vs))),(60,.cells [.p (slV b.vs),.p (slS b.ss),.mp 58])]) 100 (Au8 hval.nv hval.v) (by rw [List.length_nil]; omega) ⟨rfl,rfl,rfl,rfl,rfl⟩)
           refine A6 [(4,.ptr 4 0),(5,.ptr 5 0),(9,.ptr 9 0),(10,.ptr 10 0),(13,.ptr 13 0),(41,i64 (j:Int))] (by decide) hcs (M8 rfl) (by decide) (fun res os2 hR hcl2 hlv2=>?_)
           obtain ⟨⟨y,rfl,hyp,hyq⟩,rfl⟩:=hR
           simp (disch:=(first | assumption | omega)) only [amL,sA,sF,↓reduceIte]
           refine hK23 _ ?_
           refine Aa fun K24 hK24=>?_
           refine Ab ?_
           simp (disch:=(first | assumption | omega)) only [amL,sA,↓reduceIte]
           refine hK24 _ ?_
           refine Ag rfl (fun h=>?_) (fun h=>?_)
           ·first
            | exact Bool.noConfusion h
            |skip
             try simp only [Bool.not_eq_true',decide_eq_true_eq,decide_eq_false_iff_not,Bool.and_eq_true,Bool.not_eq_false',Bool.not_not,decide_not,Bool.not_true,Bool.not_false] at h
             refine Aa fun K25 hK25=>?_
             refine Ab ?_
             obtain ⟨q,hq⟩:=Option.isSome_iff_exists.1 h
             have hy:=hyq q hq
             subst hy
             simp (disch:=(first | assumption | omega)) only [amL,sA,sF,↓reduceIte]
             refine hK25 _ ?_
             refine Ae ?_
             try simp (disch:=(first | assumption | omega)) only [amL,sF,↓reduceIte]
             all_goals first
               | (unfold Jh; rw [if_pos (by assumption)]; done)
               | (unfold Jh; rw [if_neg (by omega),if_pos (by first | (simp_all; done) | fail)]; done)
               | (unfold Jh; rw [if_neg (by omega),if_neg (by first | (simp_all; done) | fail),if_pos (by first | (simp_all; done) | fail)]; done)
               | (have h1:(Lf b.vs&&Pm g k)=true:=by first | (simp_all; done) | fail
                  have h2:(Dt b.vs).2=true:=by first | (simp_all; done) | fail
                  have h3:Lf b.vs=true:=by first | (simp_all; done) | fail
                  have h4:Ld b.vs=(Dt b.vs).1:=by unfold Ld; rw [if_pos h3]
                  unfold Jh; rw [if_neg (by omega),if_neg (by rw [h1]; decide),if_neg (by rw [h2]; decide),← h4]
                  first | (rw [N8 hno (by omega) hq]; done) | (rw [Nu hno (by omega)]; done))
               | trace_state
           ·first
            | exact Bool.noConfusion h
            |skip
             try simp only [Bool.not_eq_true',decide_eq_true_eq,decide_eq_false_iff_not,Bool.and_eq_true,Bool.not_eq_false',Bool.not_not,decide_not,Bool.not_true,Bool.not_false] at h
             refine Ah ?_
             refine hK21 _ ?_
             refine Ab ?_
             simp (disch:=(first | assumption | omega)) only [amL,amT,sA,sF,↓reduceIte]
             refine hK18 (j+1) _ ?_ ?_ (B0 ?_ ?_ ?_ ?_)
             all_goals (try simp (disch:=(first | assumption | omega)) only [amL,sE,sF,sG,↓reduceIte])
             all_goals first | omega | exact Ape _ | exact ⟨by omega,fun i hi=>by
               by_cases e:i=j
               · subst e
                 cases hr:Da b.vs g k i (Ld b.vs) [] with
                 | none=>rfl
                 | some q=>rw [hr] at h; cases h
               · exact hno i (by omega)⟩ | trace_state
         ·first
          | exact Bool.noConfusion h
          |skip
           try simp only [decide_eq_false_iff_not] at h
           refine Bc ?_
           refine hK16 _ ?_
           refine Aa fun K26 hK26=>?_
           refine Ab ?_
           simp (disch:=(first | assumption | omega)) only [amL,sA]
           refine hK26 _ ?_
           refine Ae ?_
           try simp (disch:=(first | assumption | omega)) only [amL,sF,↓reduceIte]
           all_goals first
             | (unfold Jh; rw [if_pos (by assumption)]; done)
             | (unfold Jh; rw [if_neg (by omega),if_pos (by first | (simp_all; done) | fail)]; done)
             | (unfold Jh; rw [if_neg (by omega),if_neg (by first | (simp_all; done) | fail),if_pos (by first | (simp_all; done) | fail)]; done)
             | (have h1:(Lf b.vs&&Pm g k)=true:=by first | (simp_all; done) | fail
                have h2:(Dt b.vs).2=true:=by first | (simp_all; done) | fail
                have h3:Lf b.vs=true:=by first | (simp_all; done) | fail
                have h4:Ld b.vs=(Dt b.vs).1:=by unfold Ld; rw [if_pos h3]
                unfold Jh; rw [if_neg (by omega),if_neg (by rw [h1]; decide),if_neg (by rw [h2]; decide),← h4]
                first | (rw [N8 hno (by omega) hq]; done) | (rw [Nu hno (by omega)]; done))
             | trace_state
theorem Bbn:Bj Tryz.prog 15 [avB (two 11),avT ⟨[10,5],[60,30],[4,1,2]⟩] (.tup [.p (.sl [[iv 8,iv 360,iv 45],[iv 8,iv 390,iv 49]]),i64 0]):=by
 have h:=Au1 (two 11) ⟨[10,5],[60,30],[4,1,2]⟩ (by decide) (by decide) (by decide)
 have e:D9 (two 11) ⟨[10,5],[60,30],[4,1,2]⟩=.tup [.p (.sl [[iv 8,iv 360,iv 45],[iv 8,iv 390,iv 49]]),i64 0]:=by kernel_rfl
 rw [e] at h; exact h
theorem Bap:Bj Tryz.prog 56 [.p (.sl [[iv 0],[iv 4],[iv 9],[iv 14]]),avR ⟨10,11⟩,avR ⟨15,16⟩,.p (.sl [[iv 10,iv 16],[iv 18,iv 20]])] (.tup [.p (.sl [[iv 1]]),i64 0]):=by
 have h:=Ba8 [0,4,9,14] ⟨10,11⟩ ⟨15,16⟩ [⟨10,16⟩,⟨18,20⟩] (by decide) (by decide)
 have e:Ll [0,4,9,14] ⟨10,11⟩ ⟨15,16⟩ [⟨10,16⟩,⟨18,20⟩]=.tup [.p (.sl [[iv 1]]),i64 0]:=by kernel_rfl
 rw [e] at h; exact h
theorem Anr:Bj Tryz.prog 34 [avB (two 10),i64 8,i64 45] (.tup [.p (.sl [[iv 0,iv 0,iv 1,iv 4,iv 4],[iv 1,iv 0,iv 0,iv 2,iv 2]]),i64 0]):=by
 have h:=Ao7 (two 10) 8 45 (by decide) (by decide)
 have e:Jh (two 10) 8 45=.tup [.p (.sl [[iv 0,iv 0,iv 1,iv 4,iv 4],[iv 1,iv 0,iv 0,iv 2,iv 2]]),i64 0]:=by kernel_rfl
 rw [e] at h; exact h
theorem P6 (a b:Int):Bj Tryz.prog 48 [i64 a,i64 b] (avR ⟨a,b⟩):=by
 refine A7 (v:=[]) (q:=[]) (N:=8) (rs:=[.cell 4 58]) Tryz.func48 rfl rfl rfl rfl rfl ?_
 refine Aa fun K1 hK1=>?_
 refine Ab ?_
 simp (disch:=omega) only [amL,amT,sA,sB,↓reduceIte]
 refine hK1 _ ?_
 refine Aa fun K2 hK2=>?_
 refine Ab ?_
 simp (disch:=omega) only [amL,amT,sA,sB,sE,sF,↓reduceIte,reduceCtorEq]
 refine hK2 _ ?_
 refine Ae ?_
 try simp (disch:=omega) only [amL,amT,sB,sF,↓reduceIte]
 all_goals rfl
theorem Adu (n:Int):Bj Tryz.prog 54 [i64 n] (avB (two n)):=by
 refine A7 (v:=[]) (q:=[]) (N:=19) (rs:=[.cell 2 38]) Tryz.func54 rfl rfl rfl rfl rfl ?_
 refine Aa fun K1 hK1=>?_
 refine Ab ?_
 simp (disch:=omega) only [amL,amT,sA,sB,↓reduceIte]
 refine hK1 _ ?_
 refine Aa fun K2 hK2=>?_
 refine N9 7 ?_
 simp (disch:=omega) only [Ql,Mg,amL,sA,↓reduceIte,reduceCtorEq]
 repeat' first | (refine Al (by kernel_rfl) rfl (P6 _ _) (by first | exact .inl rfl | exact .inr (.inl rfl)) ?_ ; simp (disch:=omega) only [Tt,Ql,Mg,Kk,Gc,amL,amT,sA,sB,sC,sE,sF,↓reduceIte,reduceCtorEq])
 refine hK2 _ ?_
 refine Ae ?_
 try simp (disch:=omega) only [amL,amT,sB,sF,↓reduceIte]
 all_goals rfl
theorem Atb:Bj Tryz.prog 31 [.p (.sl [[iv 0]]),.p (.sl [[iv 0]])] (bl true):=Jo Sw 10000 (by kernel_rfl)
theorem Ata:Bj Tryz.prog 31 [.p (.sl [[iv 1]]),.p (.sl [[iv 1]])] (bl true):=Jo Sw 10000 (by kernel_rfl)
theorem Bab:Nr Tryz.prog 90 3:=Ta (by kernel_rfl)
theorem Bbe:Nr Tryz.prog 60 6:=Ta (by kernel_rfl)
theorem eqA (a b c:Int) (h:([a,b,c]:List Int).all inR=true):Hv Tryz.prog .eql 90 (some [a,b,c]) (some [a,b,c])=some (.pure (bl true)):=by
  rw [P9 (a:=[a,b,c]) (b:=[a,b,c]) Bab rfl h h,decide_eq_true rfl]
theorem eqB (a b c d e f:Int) (h:([a,b,c,d,e,f]:List Int).all inR=true):Hv Tryz.prog .eql 60 (some [a,b,c,d,e,f]) (some [a,b,c,d,e,f])=some (.pure (bl true)):=by
  rw [P9 (a:=[a,b,c,d,e,f]) (b:=[a,b,c,d,e,f]) Bbe rfl h h,decide_eq_true rfl]
theorem e1:Hv Tryz.prog .eql 90 (some [8,360,45]) (some [8,360,45])=some (.pure (bl true)):=eqA 8 360 45 (by decide)
theorem e2:Hv Tryz.prog .eql 90 (some [8,390,49]) (some [8,390,49])=some (.pure (bl true)):=eqA 8 390 49 (by decide)
theorem e3:Hv Tryz.prog .eql 60 (some [8,9,360,420,45,47]) (some [8,9,360,420,45,47])=some (.pure (bl true)):=eqB 8 9 360 420 45 47 (by decide)
theorem e4:Hv Tryz.prog .eql 60 (some [7,8,390,390,49,56]) (some [7,8,390,390,49,56])=some (.pure (bl true)):=eqB 7 8 390 390 49 56 (by decide)
theorem Bgu:Bj Tryz.prog 14 [] (bl true):=by
  refine A7 (v:=[]) (q:=[]) (N:=149) (rs:=[.tmp 0]) Tryz.func14 rfl rfl rfl rfl rfl ?_
  refine Aa fun K1 hK1=>?_
  refine Ab ?_
  simp (disch:=omega) only [amL,sA]
  refine hK1 _ ?_
  refine Aa fun K2 hK2=>?_
  refine Y9 [false,true,true,true] ?_
  simp (disch:=omega) only [Ac2,amL]
  repeat' first | (refine Al (by kernel_rfl) rfl (Adu _) (by first | exact .inl rfl | exact .inr (.inl rfl)) ?_ ; simp (disch:=omega) only [Aje,Ae2,Xj,Kk,Gc,amL,amT,sA,sB,sE,sF,↓reduceIte,reduceCtorEq]) | (refine Al (by kernel_rfl) rfl (Bbn) (by first | exact .inl rfl | exact .inr (.inl rfl)) ?_ ; simp (disch:=omega) only [amL,sA,sF,↓reduceIte])
  refine hK2 _ ?_
  refine Aa fun K3 hK3=>?_
  refine Ab ?_
  simp (disch:=omega) only [amL]
  repeat' first | (refine Al (by kernel_rfl) rfl (Adu _) (by first | exact .inl rfl | exact .inr (.inl rfl)) ?_ ; simp (disch:=omega) only [amL,↓reduceIte]) | (refine Al (by kernel_rfl) rfl (Ap2) (by first | exact .inl rfl | exact .inr (.inl rfl)) ?_ ; simp (disch:=omega) only [amL,sA,sF,↓reduceIte])
  refine hK3 _ ?_
  refine Aa fun K4 hK4=>?_
  refine N9 7 ?_
  simp (disch:=omega) only [Ql,amL]
  repeat' first | (refine Al (by kernel_rfl) rfl (Adu _) (by first | exact .inl rfl | exact .inr (.inl rfl)) ?_ ; simp (disch:=omega) only [Ql,Mg,amL]) | (refine Al (by kernel_rfl) rfl (P6 _ _) (by first | exact .inl rfl | exact .inr (.inl rfl)) ?_ ; simp (disch:=omega) only [Tt,Ql,Mg,Kk,Gc,amL,amT,sA,sB,sC,sE,sF,↓reduceIte,reduceCtorEq]) | (refine Al (by kernel_rfl) rfl (Asx) (by first | exact .inl rfl | exact .inr (.inl rfl)) ?_ ; simp (disch:=omega) only [amL,sA,sF,↓reduceIte])
  refine hK4 _ ?_
  refine Aa fun K5 hK5=>?_
  refine N9 0 ?_
  simp (disch:=omega) only [Tt,Kk,Gc,amL,amT,sA,sB,sE,↓reduceIte,reduceCtorEq]
  repeat' first | (refine Al (by kernel_rfl) rfl (Ahd) (by first | exact .inl rfl | exact .inr (.inl rfl)) ?_ ; simp (disch:=omega) only [amL,sA,sF,↓reduceIte])
  refine hK5 _ ?_
  refine Aa fun K6 hK6=>?_
  refine Y9 [true,false,false,false,false,true] ?_
  simp (disch:=omega) only [Ae2,Ac2,Xj,Kk,Gc,amL,amT,sA,sB,sE,↓reduceIte,reduceCtorEq]
  repeat' first | (refine Al (by kernel_rfl) rfl (P6 _ _) (by first | exact .inl rfl | exact .inr (.inl rfl)) ?_ ; simp (disch:=omega) only [Aje,Ae2,Ac2,Xj,Kk,Gc,amL,amT,sA,sB,sC,sE,sF,↓reduceIte,reduceCtorEq]) | (refine Al (by kernel_rfl) rfl (Bap) (by first | exact .inl rfl | exact .inr (.inl rfl)) ?_ ; simp (disch:=omega) only [amL,sA,sF,↓reduceIte])
  refine hK6 _ ?_
  refine Aa fun K7 hK7=>?_
  refine Ab ?_
  simp (disch:=omega) only [amL]
  repeat' first | (refine Al (by kernel_rfl) rfl (Adu _) (by first | exact .inl rfl | exact .inr (.inl rfl)) ?_ ; simp (disch:=omega) only [amL,↓reduceIte]) | (refine Al (by kernel_rfl) rfl (Anr) (by first | exact .inl rfl | exact .inr (.inl rfl)) ?_ ; simp (disch:=omega) only [amL,sA,sF,↓reduceIte])
  refine hK7 _ ?_
  refine Aa fun K8 hK8=>?_
  refine Bg (by kernel_rfl) (by kernel_rfl) ?_
  simp only [List.append]
  simp (disch:=omega) only [e1,e2,amL,amT,sA,sB,sE,sF,sH,sK,sL,sN,↓reduceIte]
  repeat' first | (refine Cn (fun h=>?_) (fun h=>?_) <;> simp (disch:=omega) only [h,Tt,Ql,Mg,Aje,Ae2,Ac2,Xj,Kk,Gc,e1,e2,e3,e4,amL,amT,sA,sB,sC,sD,sE,sF,sG,sH,sI,sJ,sK,sL,sM,sN,sO,↓reduceIte,reduceCtorEq]) | (refine Bo (fun h=>?_) (fun h=>?_) <;> simp (disch:=omega) only [h,Tt,Ql,Mg,Aje,Ae2,Ac2,Xj,Kk,Gc,e1,e2,e3,e4,amL,amT,sA,sB,sC,sD,sE,sF,sG,sH,sI,sJ,sK,sL,sM,sN,sO,↓reduceIte,reduceCtorEq]) | (refine Al (by kernel_rfl) rfl (P6 _ _) (by first | exact .inl rfl | exact .inr (.inl rfl)) ?_ ; simp (disch:=omega) only [e3,e4,amL,amT,sA,sB,sE,sF,sH,sK,sL,sN,↓reduceIte,reduceCtorEq]) | (refine Al (by kernel_rfl) rfl (by first | exact Atb | exact Ata) (by first | exact .inl rfl | exact .inr (.inl rfl)) ?_ ; simp (disch:=omega) only [amL,amT,sA,sB,sE,sF,sH,↓reduceIte,reduceCtorEq]) | (refine Al (by kernel_rfl) rfl (Adu _) (by first | exact .inl rfl | exact .inr (.inl rfl)) ?_ ; simp (disch:=omega) only [amL,sA,sF,↓reduceIte]) | (refine Al (by kernel_rfl) rfl (At7) (by first | exact .inl rfl | exact .inr (.inl rfl)) ?_ ; simp (disch:=omega) only [amL,sA,sF,↓reduceIte])
  all_goals
   skip
   refine hK8 _ ?_
   refine Ae ?_
   try simp (disch:=omega) only [amL,↓reduceIte]
   all_goals rfl
theorem Aew (n lo hi:Int):Bj Tryz.prog 30 [i64 n,i64 lo,i64 hi] (bl (inB n lo hi)):=by
  refine A7 (v:=[]) (q:=[]) (N:=15) (rs:=[.tmp 6]) Tryz.func30 rfl rfl rfl rfl rfl ?_
  refine Aa fun K1 hK1=>?_
  refine Ab ?_
  simp (disch:=omega) only [amL,sA,sB]
  refine hK1 _ ?_
  refine Aa fun K2 hK2=>?_
  refine Ab ?_
  simp (disch:=omega) only [amL,amT,sA,sF,↓reduceIte,reduceCtorEq]
  repeat' first | (refine Cn (fun h=>?_) (fun h=>?_) <;> simp (disch:=omega) only [h,amL,amT,sA,sF,↓reduceIte,reduceCtorEq]) | (refine Bo (fun h=>?_) (fun h=>?_) <;> simp (disch:=omega) only [h,amL,amT,sA,sB,sC,sD,sE,sF,sG,sH,sI,sJ,sK,sL,sM,sN,sO,↓reduceIte,reduceCtorEq])
  all_goals
   skip
   refine hK2 _ ?_
   refine Ae ?_
   try simp (disch:=omega) only [amL,↓reduceIte]
   simp [inB,h]
theorem Ba7 {r:Rng} {most:Int}:Gp r most=(inB r.lo 0 r.hi&&(decide (r.hi≤most)&&decide (r.hi - r.lo≤2))):=by
  unfold Gp inB; rw [Bool.and_assoc]
theorem Ary (r:Rng) (most:Int) (hm:most < 1000000):Bj Tryz.prog 102 [avR r,i64 most] (bl (Gp r most)):=by
  refine A7 (v:=[]) (q:=[]) (N:=24) (rs:=[.tmp 4]) Tryz.func102 rfl rfl rfl rfl rfl ?_
  have hin:inB r.lo 0 r.hi=true→0≤r.lo∧r.lo≤r.hi:=fun h=>by simpa [inB] using h
  refine Aa fun K1 hK1=>?_
  refine Ab ?_
  simp (disch:=omega) only [amL,sA,sB,↓reduceIte]
  refine hK1 _ ?_
  refine Aa fun K2 hK2=>?_
  refine Ab ?_
  simp (disch:=omega) only [amL,amT,sA,sF,↓reduceIte,reduceCtorEq]
  repeat' first | (refine Cn (fun h=>?_) (fun h=>?_) <;> simp (disch:=omega) only [h,amL,amT,sA,sF,↓reduceIte,reduceCtorEq]) | (refine Bo (fun h=>?_) (fun h=>?_) <;> simp (disch:=omega) only [h,amL,amT,sA,sF,↓reduceIte,reduceCtorEq]) | (refine Al (by kernel_rfl) rfl (Aew _ _ _) (by first | exact .inl rfl | exact .inr (.inl rfl)) ?_ ; simp (disch:=omega) only [amL,sA,↓reduceIte]) | (have hin2:=hin (by assumption); simp (disch:=omega) only [amL])
  all_goals
   skip
   refine hK2 _ ?_
   refine Ae ?_
   try simp (disch:=omega) only [amL,↓reduceIte]
   all_goals (simp_all [Ba7] <;> omega)
theorem Ah8 {n:Int} {s:Stp}:Dm n s=(inB s.kind 0 2&&(inB s.frm 0 (n - 1)&&(inB s.to 0 (n - 1)&&(Gp s.g 60&&(decide (s.frm=s.to) == !decide (s.kind=0)))))):=by
  unfold Dm; rw [Bool.and_comm (Gp s.g 60)]
theorem Baj (s:Stp) (n:Nat) (hn:n < 1000000):Bj Tryz.prog 90 [avS s,i64 (n:Int)] (bl (Dm n s)):=by
  refine A7 (v:=[]) (q:=[]) (N:=44) (rs:=[.tmp 4]) Tryz.func90 rfl rfl rfl rfl rfl ?_
  refine Aa fun K1 hK1=>?_
  refine Ab ?_
  simp (disch:=omega) only [amL,sA,sB,↓reduceIte]
  refine hK1 _ ?_
  refine Aa fun K2 hK2=>?_
  refine Aa fun K3 hK3=>?_
  refine Ab ?_
  simp (disch:=omega) only [amL,amT,sA,sF,↓reduceIte,reduceCtorEq]
  repeat' first | (refine Cn (fun h=>?_) (fun h=>?_) <;> simp (disch:=omega) only [h,amL,amT,sA,sB,sC,sD,sE,sF,sG,sH,sI,sJ,sK,sL,sM,sN,sO,↓reduceIte,reduceCtorEq]) | (refine Bo (fun h=>?_) (fun h=>?_) <;> simp (disch:=omega) only [h,amL,amT,sA,sB,sF,↓reduceIte,reduceCtorEq]) | (refine Al (by kernel_rfl) rfl (Aew _ _ _) (by first | exact .inl rfl | exact .inr (.inl rfl)) ?_ ; simp (disch:=omega) only [amL,sA,sF,↓reduceIte]) | (refine Al (by kernel_rfl) rfl (Ary ⟨_,_⟩ _ (by omega)) (by first | exact .inl rfl | exact .inr (.inl rfl)) ?_ ; simp (disch:=omega) only [amL,sA,sF,↓reduceIte])
  all_goals
   skip
   refine hK3 _ ?_
   refine Ag rfl (fun h=>?_) (fun h=>?_)
   ·first
    | exact Bool.noConfusion h
    |skip
     try simp only [Bool.not_eq_true'] at h
     refine Aa fun K4 hK4=>?_
     refine Ab ?_
     simp (disch:=omega) only [amL,sA]
     refine hK4 _ ?_
     refine Ae ?_
     try simp (disch:=omega) only [amL,↓reduceIte]
     all_goals simp_all [Ah8]
   ·first
    | exact Bool.noConfusion h
    |skip
     try simp only [Bool.not_eq_false'] at h
     refine Ah ?_
     refine hK2 _ ?_
     refine Aa fun K5 hK5=>?_
     refine Aa fun K6 hK6=>?_
     refine Ab ?_
     simp (disch:=omega) only [amL,amT,sA,sF,↓reduceIte,reduceCtorEq]
     refine hK6 _ ?_
     refine Ag rfl (fun h=>?_) (fun h=>?_)
     ·first
      | exact Bool.noConfusion h
      |skip
       try simp only [decide_eq_true_eq] at h
       refine Aa fun K7 hK7=>?_
       refine Ab ?_
       simp (disch:=omega) only [amL,amT,sA,sF,↓reduceIte,reduceCtorEq]
       refine hK7 _ ?_
       refine Ae ?_
       try simp (disch:=omega) only [amL,↓reduceIte]
       all_goals simp_all [Ah8]
     ·first
      | exact Bool.noConfusion h
      |skip
       try simp only [decide_eq_false_iff_not] at h
       refine Ah ?_
       refine hK5 _ ?_
       refine Aa fun K8 hK8=>?_
       refine Ab ?_
       simp (disch:=omega) only [amL,amT,sA,sF,↓reduceIte,reduceCtorEq]
       refine hK8 _ ?_
       refine Ae ?_
       try simp (disch:=omega) only [amL,↓reduceIte]
       all_goals simp_all [Ah8]
theorem Px (r:Rng) (h1:-9223372036854775808≤r.hi - r.lo) (h2:r.hi - r.lo < 9223372036854775807):Bj Tryz.prog 89 [avR r] (i64 (Dp r)):=by
  refine A7 (v:=[]) (q:=[]) (N:=9) (rs:=[.tmp 2]) Tryz.func89 rfl rfl rfl rfl rfl ?_
  refine Aa fun K1 hK1=>?_
  refine Ab ?_
  simp (disch:=omega) only [amL,sA,↓reduceIte]
  refine hK1 _ ?_
  refine Aa fun K2 hK2=>?_
  refine Ab ?_
  simp (disch:=omega) only [amL,amT,sA,sF,↓reduceIte,reduceCtorEq]
  refine hK2 _ ?_
  refine Ae ?_
  try simp (disch:=omega) only [amL,↓reduceIte]
  rfl
theorem V2 {p s:Int} (h1:1≤p) (h2:p≤4782969) (h3:1≤s) (h4:s≤9):-9223372036854775808≤p * s∧p * s < 9223372036854775808:=by
  have e1:=Int.mul_le_mul h2 h4 (by omega) (by omega)
  have e2:=Int.mul_nonneg (show 0≤p by omega) (show 0≤s by omega)
  omega
theorem Aq5 {p s:Int} (h1:1≤p) (h2:p≤3) (h3:1≤s) (h4:s≤3):1≤p * s∧p * s≤9:=by
  have e1:=Int.mul_le_mul h2 h4 (by omega) (by omega)
  have e2:=Int.mul_le_mul h1 h3 (by omega) (by omega)
  omega
theorem Atj (b:Cx) (hv:Ja b):Bj Tryz.prog 45 [avB b] (i64 (Ao0 b)):=by
  refine A7 (v:=[]) (q:=[]) (N:=47) (rs:=[.tmp 2]) Tryz.func45 rfl rfl rfl rfl rfl ?_
  have hnv:=hv.nv
  have hns:=hv.ns
  refine Aa fun K1 hK1=>?_
  refine Ab ?_
  simp (disch:=omega) only [amL,sA,↓reduceIte]
  refine hK1 _ ?_
  refine Aa fun K2 hK2=>?_
  refine Ab ?_
  simp (disch:=omega) only [amL,sA]
  refine hK2 _ ?_
  refine Aa fun K3 hK3=>?_
  refine Aa fun K4 hK4=>?_
  refine Ab ?_
  simp (disch:=omega) only [amL,sA]
  refine hK4 _ ?_
  refine Ak ?_
  skip
  refine A5 (α:=Nat) (fun k=>⟨T [(1,.ptr 1 0),(3,i64 (Dg (Nl (b.vs.take k)) 1)),(4,i64 (k:Int))],O [(1,.cells (cB b))]⟩) (fun k=>b.vs.length - k) (fun k=>k≤b.vs.length) 0 ?_ ?_ (fun k hx5 K5 hK5=>?_)
  · exact Nat.zero_le _
  · refine B0 ?_ ?_ ?_ ?_ <;> (try simp (disch:=omega) only [amL,sF,↓reduceIte]); all_goals rfl
  have hk:=hx5
  refine Aa fun K6 hK6=>?_
  refine Aa fun K7 hK7=>?_
  refine Ab ?_
  simp (disch:=omega) only [amL,amT,sA,sF,↓reduceIte,reduceCtorEq]
  refine hK7 _ ?_
  refine Ag rfl (fun h=>?_) (fun h=>?_)
  ·first
   | exact Bool.noConfusion h
   |skip
    try simp only [decide_eq_true_eq] at h
    refine Ah ?_
    refine hK6 _ ?_
    refine Aa fun K8 hK8=>?_
    refine Ak ?_
    refine Bg (by kernel_rfl) (by kernel_rfl) ?_
    have hk2:k < b.vs.length:=by omega
    obtain ⟨hp1,hp2,_⟩:=Cp (hv.ves hk2)
    have z1:=D2 hp1
    have z2:=D2 hp2
    have hm9:=Aq5 z1.1 z1.2 z2.1 z2.2
    have hb0:=Am3 hv.v hnv k
    have hms:=V2 hb0.1 hb0.2 hm9.1 hm9.2
    have hw0:IntKind.i64.wrap (Dp (b.vs.getD k default).g * Dp (b.vs.getD k default).d)=_:=D1 (by omega) (by omega)
    have hw:IntKind.i64.wrap (Dg (Nl (b.vs.take k)) 1 * (Dp (b.vs.getD k default).g * Dp (b.vs.getD k default).d))=_:=D1 hms.1 hms.2
    have y1:=Co hp1
    have y2:=Co hp2
    simp (disch:=omega) only [A0,amL,amT,sA,sB,sE,sF,↓reduceIte,reduceCtorEq]
    repeat' first | (refine Al (by kernel_rfl) rfl (by first | exact Px (b.vs.getD k default).g (by omega) (by omega) | exact Px (b.vs.getD k default).d (by omega) (by omega) | exact Px (b.ss.getD k default).g (by omega) (by omega)) (by first | exact .inl rfl | exact .inr (.inl rfl)) ?_ ; simp (disch:=omega) only [hw0,hw,A0,amL,amT,sA,sB,sE,sF,↓reduceIte,reduceCtorEq])
    refine hK8 _ ?_
    refine Ab ?_
    simp (disch:=omega) only [amL,amT,sA,sF,↓reduceIte]
    refine hK5 (k+1) _ ?_ ?_ (B0 ?_ ?_ ?_ ?_)
    all_goals (try simp (disch:=omega) only [amL,sF,↓reduceIte])
    all_goals first | omega | (rw [Aok (by omega)]) | trace_state
  ·first
   | exact Bool.noConfusion h
   |skip
    try simp only [decide_eq_false_iff_not] at h
    refine Bc ?_
    refine hK3 _ ?_
    refine Aa fun K9 hK9=>?_
    refine Aa fun K10 hK10=>?_
    refine Ab ?_
    simp (disch:=omega) only [amL,sA]
    refine hK10 _ ?_
    refine Ak ?_
    skip
    refine A5 (α:=Nat) (fun k=>⟨T [(1,.ptr 1 0),(3,i64 (Dg (Nl b.vs++(b.ss.take k).map (·.g)) 1)),(5,i64 (k:Int))],O [(1,.cells (cB b))]⟩) (fun k=>b.ss.length - k) (fun k=>k≤b.ss.length) 0 ?_ ?_ (fun k hx11 K11 hK11=>?_)
    · exact Nat.zero_le _
    · refine B0 ?_ ?_ ?_ ?_ <;> (try simp (disch:=omega) only [amL,sF,↓reduceIte]); all_goals first | rfl | (rw [List.take_of_length_le (by omega)]; done) | (rw [List.take_of_length_le (by omega),List.take_zero,List.map_nil,List.append_nil]; done) | trace_state
    have hk:=hx11
    refine Aa fun K12 hK12=>?_
    refine Aa fun K13 hK13=>?_
    refine Ab ?_
    simp (disch:=omega) only [amL,amT,sA,sF,↓reduceIte,reduceCtorEq]
    refine hK13 _ ?_
    refine Ag rfl (fun h=>?_) (fun h=>?_)
    ·first
     | exact Bool.noConfusion h
     |skip
      try simp only [decide_eq_true_eq] at h
      refine Ah ?_
      refine hK12 _ ?_
      refine Aa fun K14 hK14=>?_
      refine Ak ?_
      refine Ab ?_
      have hk2:k < b.ss.length:=by omega
      have hp1:=(Cd (hv.stp hk2)).2.2.2.2
      have z1:=D2 hp1
      have hb0:=Agb hv k
      have hms:=V2 hb0.1 hb0.2 z1.1 (by omega)
      have hw:IntKind.i64.wrap (Dg (Nl b.vs++(b.ss.take k).map (·.g)) 1 * Dp (b.ss.getD k default).g)=_:=D1 hms.1 hms.2
      have y1:=Co hp1
      simp (disch:=omega) only [Eu,amL,amT,sA,sB,sF,↓reduceIte,reduceCtorEq]
      repeat' first | (refine Al (by kernel_rfl) rfl (by first | exact Px (b.vs.getD k default).g (by omega) (by omega) | exact Px (b.vs.getD k default).d (by omega) (by omega) | exact Px (b.ss.getD k default).g (by omega) (by omega)) (by first | exact .inl rfl | exact .inr (.inl rfl)) ?_ ; simp (disch:=omega) only [hw,amL,amT,sA,sF,↓reduceIte])
      refine hK14 _ ?_
      refine Ab ?_
      simp (disch:=omega) only [amL,amT,sA,sF,↓reduceIte]
      refine hK11 (k+1) _ ?_ ?_ (B0 ?_ ?_ ?_ ?_)
      all_goals (try simp (disch:=omega) only [amL,sF,↓reduceIte])
      all_goals first | omega | (rw [Jc,Jc,Agp (by omega)]) | trace_state
    ·first
     | exact Bool.noConfusion h
     |skip
      try simp only [decide_eq_false_iff_not] at h
      refine Bc ?_
      refine hK9 _ ?_
      refine Aa fun K15 hK15=>?_
      refine Ab ?_
      simp (disch:=omega) only [amL,sA,sF,↓reduceIte]
      refine hK15 _ ?_
      refine Ae ?_
      try simp (disch:=omega) only [amL,↓reduceIte]
      rw [List.take_of_length_le (by omega)]; rfl
theorem nd0 {a b:Nat} (h:decide ((a:Int)≠b)=false):a=b:=by simp at h; omega
theorem nd1 {a b:Nat} (h:decide ((a:Int)≠b)=true):a≠b:=by simp at h; omega
theorem Bcc (b:Cx) (t:Tru) (h1:b.vs.length < 1000000) (h2:b.ss.length < 1000000):Bj Tryz.prog 20 [avB b,avT t] (bl (C1 b t)):=by
  refine A7 (v:=[]) (q:=[]) (N:=98) (rs:=[.tmp 4]) Tryz.func20 rfl rfl rfl rfl rfl ?_
  refine Aa fun K1 hK1=>?_
  refine Ab ?_
  simp (disch:=omega) only [amL,sA,sB,sF,↓reduceIte,reduceCtorEq]
  refine hK1 _ ?_
  refine Aa fun K2 hK2=>?_
  refine Aa fun K3 hK3=>?_
  refine Ab ?_
  simp (disch:=omega) only [amL,amT,sA,sF,↓reduceIte,reduceCtorEq]
  repeat' first | (refine Bo (fun h=>?_) (fun h=>?_) <;> simp (disch:=omega) only [h,amL,amT,sA,sF,↓reduceIte,reduceCtorEq])
  all_goals
   skip
   refine hK3 _ ?_
   refine Ag rfl (fun h=>?_) (fun h=>?_)
   ·first
    | exact Bool.noConfusion h
    |skip
     try simp only [Bool.not_eq_true',decide_eq_false_iff_not,decide_not] at h
     refine Aa fun K4 hK4=>?_
     refine Ab ?_
     simp (disch:=omega) only [amL,sA]
     refine hK4 _ ?_
     refine Ae ?_
     try simp (disch:=omega) only [amL,↓reduceIte]
     all_goals first | (rw [Du (.inl (nd1 (by assumption)))]; done) | (rw [Du (.inr (.inl (nd1 (by assumption))))]; done) | (rw [Du (.inr (.inr (by omega)))]; done) | (rw [Jl (k:=k) (by omega) (by simp_all)]; done) | (rw [Jk (k:=k2) (by omega) (by simp_all)]; done) | (rw [Mn (by omega) (by omega) (by omega) (fun j hj=>hpre j (by omega)) (fun j hj=>hpre2 j (by omega))]; done) | trace_state
   ·first
    | exact Bool.noConfusion h
    |skip
     try simp only [decide_eq_true_eq,Bool.not_eq_false',decide_not] at h
     refine Ah ?_
     refine hK2 _ ?_
     refine Aa fun K5 hK5=>?_
     refine Aa fun K6 hK6=>?_
     refine Ab ?_
     simp (disch:=omega) only [amL,sA]
     refine hK6 _ ?_
     refine Ak ?_
     have e1:t.g.length=b.vs.length:=nd0 (by assumption)
     have e2:t.d.length=b.vs.length:=nd0 (by assumption)
     have e3:t.m.length=b.ss.length:=by omega
     refine A5 (α:=Nat) (fun k=>⟨T [(2,.ptr 2 0),(3,.ptr 3 0),(5,i64 (k:Int))],O [(2,.cells (cB b)),(3,.cells (cT t))]⟩) (fun k=>b.vs.length - k) (fun k=>k≤b.vs.length∧∀ j,j < k→inB (t.g.getD j 0) (b.vs.getD j default).g.lo (b.vs.getD j default).g.hi=true∧inB (t.d.getD j 0) (b.vs.getD j default).d.lo (b.vs.getD j default).d.hi=true) 0 ?_ ?_ (fun k hx7 K7 hK7=>?_)
     · exact ⟨Nat.zero_le _,fun j hj=>absurd hj (Nat.not_lt_zero _)⟩
     · refine B0 ?_ ?_ ?_ ?_ <;> (try simp (disch:=omega) only [amL,sF,sG,↓reduceIte]); all_goals rfl
     obtain ⟨hk,hpre⟩:=hx7
     refine Aa fun K8 hK8=>?_
     refine Aa fun K9 hK9=>?_
     refine Ab ?_
     simp (disch:=omega) only [amL,amT,sA,sF,↓reduceIte,reduceCtorEq]
     refine hK9 _ ?_
     refine Ag rfl (fun h=>?_) (fun h=>?_)
     ·first
      | exact Bool.noConfusion h
      |skip
       try simp only [decide_eq_true_eq] at h
       refine Ah ?_
       refine hK8 _ ?_
       refine Aa fun K10 hK10=>?_
       refine Ak ?_
       refine Aa fun K11 hK11=>?_
       refine Ab ?_
       simp (disch:=omega) only [A0,amL,amT,sA,sB,sF,↓reduceIte,reduceCtorEq]
       refine hK11 _ ?_
       refine Aa fun K12 hK12=>?_
       refine Bg (by kernel_rfl) (by kernel_rfl) ?_
       simp (disch:=omega) only [Be,amL,amT,sA,sF,↓reduceIte,reduceCtorEq]
       repeat' first | (refine Cn (fun h=>?_) (fun h=>?_) <;> simp (disch:=omega) only [h,A0,Eu,Be,amL,amT,sA,sB,sC,sD,sE,sF,sG,sH,sI,sJ,sK,sL,sM,sN,sO,↓reduceIte,reduceCtorEq]) | (refine Bo (fun h=>?_) (fun h=>?_) <;> simp (disch:=omega) only [h,Be,amL,amT,sA,sB,sF,↓reduceIte,reduceCtorEq]) | (refine Al (by kernel_rfl) rfl (Aew _ _ _) (by first | exact .inl rfl | exact .inr (.inl rfl)) ?_ ; simp (disch:=omega) only [amL,sA,sF,↓reduceIte])
       all_goals
        skip
        refine hK12 _ ?_
        refine Ag rfl (fun h=>?_) (fun h=>?_)
        ·first
         | exact Bool.noConfusion h
         |skip
          try simp only [Bool.not_eq_true'] at h
          refine Aa fun K13 hK13=>?_
          refine Ab ?_
          simp (disch:=omega) only [amL,sA]
          refine hK13 _ ?_
          refine Ae ?_
          try simp (disch:=omega) only [amL,↓reduceIte]
          all_goals first | (rw [Du (.inl (nd1 (by assumption)))]; done) | (rw [Du (.inr (.inl (nd1 (by assumption))))]; done) | (rw [Du (.inr (.inr (by omega)))]; done) | (rw [Jl (k:=k) (by omega) (by simp_all)]; done) | (rw [Jk (k:=k2) (by omega) (by simp_all)]; done) | (rw [Mn (by omega) (by omega) (by omega) (fun j hj=>hpre j (by omega)) (fun j hj=>hpre2 j (by omega))]; done) | trace_state
        ·first
         | exact Bool.noConfusion h
         |skip
          try simp only [Bool.not_eq_false'] at h
          refine Ah ?_
          refine hK10 _ ?_
          refine Ab ?_
          simp (disch:=omega) only [amL,amT,sA,sF,↓reduceIte]
          refine hK7 (k+1) _ ?_ ?_ (B0 ?_ ?_ ?_ ?_)
          all_goals (try simp (disch:=omega) only [amL,sF,sG,↓reduceIte])
          all_goals first | omega | exact ⟨by omega,fun j hj=>by
            by_cases e:j=k
            · subst e; exact ⟨by simp_all,by simp_all⟩
            · exact hpre j (by omega)⟩ | trace_state
     ·first
      | exact Bool.noConfusion h
      |skip
       try simp only [decide_eq_false_iff_not] at h
       refine Bc ?_
       refine hK5 _ ?_
       refine Aa fun K14 hK14=>?_
       refine Aa fun K15 hK15=>?_
       refine Ab ?_
       simp (disch:=omega) only [amL,sA]
       refine hK15 _ ?_
       refine Ak ?_
       skip
       refine A5 (α:=Nat) (fun k2=>⟨T [(2,.ptr 2 0),(3,.ptr 3 0),(7,i64 (k2:Int))],O [(2,.cells (cB b)),(3,.cells (cT t))]⟩) (fun k2=>b.ss.length - k2) (fun k2=>k2≤b.ss.length∧∀ j,j < k2→inB (t.m.getD j 0) (b.ss.getD j default).g.lo (b.ss.getD j default).g.hi=true) 0 ?_ ?_ (fun k2 hx16 K16 hK16=>?_)
       · exact ⟨Nat.zero_le _,fun j hj=>absurd hj (Nat.not_lt_zero _)⟩
       · refine B0 ?_ ?_ ?_ ?_ <;> (try simp (disch:=omega) only [amL,sF,sG,↓reduceIte]); all_goals rfl
       obtain ⟨hk2,hpre2⟩:=hx16
       refine Aa fun K17 hK17=>?_
       refine Aa fun K18 hK18=>?_
       refine Ab ?_
       simp (disch:=omega) only [amL,amT,sA,sF,↓reduceIte,reduceCtorEq]
       refine hK18 _ ?_
       refine Ag rfl (fun h=>?_) (fun h=>?_)
       ·first
        | exact Bool.noConfusion h
        |skip
         try simp only [decide_eq_true_eq] at h
         refine Ah ?_
         refine hK17 _ ?_
         refine Aa fun K19 hK19=>?_
         refine Ak ?_
         refine Aa fun K20 hK20=>?_
         refine Ab ?_
         simp (disch:=omega) only [Eu,amL,amT,sA,sB,sF,↓reduceIte,reduceCtorEq]
         refine hK20 _ ?_
         refine Aa fun K21 hK21=>?_
         refine Bg (by kernel_rfl) (by kernel_rfl) ?_
         simp (disch:=omega) only [Be,amL,amT,sA,sF,↓reduceIte,reduceCtorEq]
         repeat' first | (refine Al (by kernel_rfl) rfl (Aew _ _ _) (by first | exact .inl rfl | exact .inr (.inl rfl)) ?_ ; simp (disch:=omega) only [amL,↓reduceIte])
         refine hK21 _ ?_
         refine Ag rfl (fun h=>?_) (fun h=>?_)
         ·first
          | exact Bool.noConfusion h
          |skip
           try simp only [Bool.not_eq_true'] at h
           refine Aa fun K22 hK22=>?_
           refine Ab ?_
           simp (disch:=omega) only [amL,sA]
           refine hK22 _ ?_
           refine Ae ?_
           try simp (disch:=omega) only [amL,↓reduceIte]
           all_goals first | (rw [Du (.inl (nd1 (by assumption)))]; done) | (rw [Du (.inr (.inl (nd1 (by assumption))))]; done) | (rw [Du (.inr (.inr (by omega)))]; done) | (rw [Jl (k:=k) (by omega) (by simp_all)]; done) | (rw [Jk (k:=k2) (by omega) (by simp_all)]; done) | (rw [Mn (by omega) (by omega) (by omega) (fun j hj=>hpre j (by omega)) (fun j hj=>hpre2 j (by omega))]; done) | trace_state
         ·first
          | exact Bool.noConfusion h
          |skip
           try simp only [Bool.not_eq_false'] at h
           refine Ah ?_
           refine hK19 _ ?_
           refine Ab ?_
           simp (disch:=omega) only [amL,amT,sA,sF,↓reduceIte]
           refine hK16 (k2+1) _ ?_ ?_ (B0 ?_ ?_ ?_ ?_)
           all_goals (try simp (disch:=omega) only [amL,sF,sG,↓reduceIte])
           all_goals first | omega | exact ⟨by omega,fun j hj=>by
             by_cases e:j=k2
             · subst e; simp_all
             · exact hpre2 j (by omega)⟩ | trace_state
       ·first
        | exact Bool.noConfusion h
        |skip
         try simp only [decide_eq_false_iff_not] at h
         refine Bc ?_
         refine hK14 _ ?_
         refine Aa fun K23 hK23=>?_
         refine Ab ?_
         simp (disch:=omega) only [amL,sA]
         refine hK23 _ ?_
         refine Ae ?_
         try simp (disch:=omega) only [amL,↓reduceIte]
         all_goals first | (rw [Du (.inl (nd1 (by assumption)))]; done) | (rw [Du (.inr (.inl (nd1 (by assumption))))]; done) | (rw [Du (.inr (.inr (by omega)))]; done) | (rw [Jl (k:=k) (by omega) (by simp_all)]; done) | (rw [Jk (k:=k2) (by omega) (by simp_all)]; done) | (rw [Mn (by omega) (by omega) (by omega) (fun j hj=>hpre j (by omega)) (fun j hj=>hpre2 j (by omega))]; done) | trace_state
theorem Aom (b:Cx) (h1:b.vs.length < 1000000) (h2:b.ss.length < 1000000):Bj Tryz.prog 64 [avB b] (i64 (B5 b)):=by
  refine A7 (v:=[]) (q:=[]) (N:=68) (rs:=[.tmp 2]) Tryz.func64 rfl rfl rfl rfl rfl ?_
  refine Aa fun K1 hK1=>?_
  refine Ab ?_
  simp (disch:=omega) only [amL,sA,↓reduceIte]
  refine hK1 _ ?_
  refine Aa fun K2 hK2=>?_
  refine Aa fun K3 hK3=>?_
  refine Ab ?_
  simp (disch:=omega) only [amL,amT,sA,sF,↓reduceIte,reduceCtorEq]
  repeat' first | (refine Cn (fun h=>?_) (fun h=>?_) <;> simp (disch:=omega) only [h,amL,amT,sA,sF,↓reduceIte,reduceCtorEq]) | (refine Bo (fun h=>?_) (fun h=>?_) <;> simp (disch:=omega) only [h,A0,Eu,amL,amT,sA,sB,sC,sD,sE,sF,sG,sH,sI,sJ,sK,sL,sM,sN,sO,↓reduceIte,reduceCtorEq])
  all_goals
   skip
   refine hK3 _ ?_
   refine Ag rfl (fun h=>?_) (fun h=>?_)
   ·first
    | exact Bool.noConfusion h
    |skip
     try simp only [decide_eq_true_eq] at h
     refine Aa fun K4 hK4=>?_
     refine Ab ?_
     simp (disch:=omega) only [amL,sA]
     refine hK4 _ ?_
     refine Ae ?_
     try simp (disch:=omega) only [amL,↓reduceIte]
     all_goals first | (rw [Th (by omega)]; done) | (rw [Fj (by omega) (.inl (by omega))]; done) | (rw [Fj (by omega) (.inr (.inl (D7 (d:=default) (k:=k) (by omega) (by simp_all [Df]))))]; done) | (rw [Fj (by omega) (.inr (.inr (D7 (d:=default) (k:=k2) (by omega) (by simpa using h))))]; done) | (rw [E5 (by omega) (by omega) (by omega) hva hsa,if_pos h]; done) | (rw [E5 (by omega) (by omega) (by omega) hva hsa,if_neg h]; done) | trace_state
   ·first
    | exact Bool.noConfusion h
    |skip
     try simp only [decide_eq_false_iff_not] at h
     refine Ah ?_
     refine hK2 _ ?_
     refine Aa fun K5 hK5=>?_
     refine Aa fun K6 hK6=>?_
     refine Ab ?_
     simp (disch:=omega) only [amL,amT,sA,sF,↓reduceIte,reduceCtorEq]
     refine hK6 _ ?_
     refine Ag rfl (fun h=>?_) (fun h=>?_)
     ·first
      | exact Bool.noConfusion h
      |skip
       try simp only [decide_eq_true_eq] at h
       refine Aa fun K7 hK7=>?_
       refine Ab ?_
       simp (disch:=omega) only [amL,sA]
       refine hK7 _ ?_
       refine Ae ?_
       try simp (disch:=omega) only [amL,↓reduceIte]
       all_goals first | (rw [Th (by omega)]; done) | (rw [Fj (by omega) (.inl (by omega))]; done) | (rw [Fj (by omega) (.inr (.inl (D7 (d:=default) (k:=k) (by omega) (by simp_all [Df]))))]; done) | (rw [Fj (by omega) (.inr (.inr (D7 (d:=default) (k:=k2) (by omega) (by simpa using h))))]; done) | (rw [E5 (by omega) (by omega) (by omega) hva hsa,if_pos h]; done) | (rw [E5 (by omega) (by omega) (by omega) hva hsa,if_neg h]; done) | trace_state
     ·first
      | exact Bool.noConfusion h
      |skip
       try simp only [decide_eq_false_iff_not] at h
       refine Ah ?_
       refine hK5 _ ?_
       refine Aa fun K8 hK8=>?_
       refine Aa fun K9 hK9=>?_
       refine Ab ?_
       simp (disch:=omega) only [amL,sA]
       refine hK9 _ ?_
       refine Ak ?_
       skip
       refine A5 (α:=Nat) (fun k=>⟨T [(1,.ptr 1 0),(3,i64 (k:Int))],O [(1,.cells (cB b))]⟩) (fun k=>b.vs.length - k) (fun k=>k≤b.vs.length∧(b.vs.take k).all Df=true) 0 ?_ ?_ (fun k hx10 K10 hK10=>?_)
       · exact ⟨Nat.zero_le _,rfl⟩
       · refine B0 ?_ ?_ ?_ ?_ <;> (try simp (disch:=omega) only [amL,sF,↓reduceIte]); all_goals rfl
       obtain ⟨hk,hpre⟩:=hx10
       refine Aa fun K11 hK11=>?_
       refine Aa fun K12 hK12=>?_
       refine Ab ?_
       simp (disch:=omega) only [amL,amT,sA,sF,↓reduceIte,reduceCtorEq]
       refine hK12 _ ?_
       refine Ag rfl (fun h=>?_) (fun h=>?_)
       ·first
        | exact Bool.noConfusion h
        |skip
         try simp only [decide_eq_true_eq] at h
         refine Ah ?_
         refine hK11 _ ?_
         refine Aa fun K13 hK13=>?_
         refine Ak ?_
         refine Aa fun K14 hK14=>?_
         refine Ab ?_
         simp (disch:=omega) only [A0,amL,amT,sA,sB,sF,↓reduceIte,reduceCtorEq]
         refine hK14 _ ?_
         refine Aa fun K15 hK15=>?_
         refine Ab ?_
         simp (disch:=omega) only [amL,amT,sA,sB,sE,↓reduceIte,reduceCtorEq]
         repeat' first | (refine Cn (fun h=>?_) (fun h=>?_) <;> simp (disch:=omega) only [h,A0,Eu,amL,amT,sA,sB,sC,sD,sE,sF,sG,sH,sI,sJ,sK,sL,sM,sN,sO,↓reduceIte,reduceCtorEq]) | (refine Bo (fun h=>?_) (fun h=>?_) <;> simp (disch:=omega) only [h,amL,amT,sA,sB,sE,sF,↓reduceIte,reduceCtorEq]) | (refine Al (by kernel_rfl) rfl (Ary ⟨_,_⟩ _ (by omega)) (by first | exact .inl rfl | exact .inr (.inl rfl)) ?_ ; simp (disch:=omega) only [amL,sA,sF,↓reduceIte]) | (refine Al (by kernel_rfl) rfl (Aew _ _ _) (by first | exact .inl rfl | exact .inr (.inl rfl)) ?_ ; simp (disch:=omega) only [amL,sA,sF,↓reduceIte])
         all_goals
          skip
          refine hK15 _ ?_
          refine Ag rfl (fun h=>?_) (fun h=>?_)
          ·first
           | exact Bool.noConfusion h
           |skip
            try simp only [Bool.not_eq_true'] at h
            refine Aa fun K16 hK16=>?_
            refine Ab ?_
            simp (disch:=omega) only [amL,sA]
            refine hK16 _ ?_
            refine Ae ?_
            try simp (disch:=omega) only [amL,↓reduceIte]
            all_goals first | (rw [Th (by omega)]; done) | (rw [Fj (by omega) (.inl (by omega))]; done) | (rw [Fj (by omega) (.inr (.inl (D7 (d:=default) (k:=k) (by omega) (by simp_all [Df]))))]; done) | (rw [Fj (by omega) (.inr (.inr (D7 (d:=default) (k:=k2) (by omega) (by simpa using h))))]; done) | (rw [E5 (by omega) (by omega) (by omega) hva hsa,if_pos h]; done) | (rw [E5 (by omega) (by omega) (by omega) hva hsa,if_neg h]; done) | trace_state
          ·first
           | exact Bool.noConfusion h
           |skip
            try simp only [Bool.not_eq_false'] at h
            refine Ah ?_
            refine hK13 _ ?_
            refine Ab ?_
            simp (disch:=omega) only [amL,amT,sA,sF,↓reduceIte]
            refine hK10 (k+1) _ ?_ ?_ (B0 ?_ ?_ ?_ ?_)
            all_goals (try simp (disch:=omega) only [amL,sF,↓reduceIte])
            all_goals first | omega | exact ⟨by omega,Zn (d:=default) (by omega) hpre (by simp_all [Df])⟩ | trace_state
       ·first
        | exact Bool.noConfusion h
        |skip
         try simp only [decide_eq_false_iff_not] at h
         refine Bc ?_
         refine hK8 _ ?_
         refine Aa fun K17 hK17=>?_
         refine Aa fun K18 hK18=>?_
         refine Ab ?_
         simp (disch:=omega) only [amL,sA]
         refine hK18 _ ?_
         refine Ak ?_
         have hva:b.vs.all Df=true:=Y2 (by omega) hpre
         refine A5 (α:=Nat) (fun k2=>⟨T [(1,.ptr 1 0),(5,i64 (k2:Int))],O [(1,.cells (cB b))]⟩) (fun k2=>b.ss.length - k2) (fun k2=>k2≤b.ss.length∧(b.ss.take k2).all (Dm b.vs.length)=true) 0 ?_ ?_ (fun k2 hx19 K19 hK19=>?_)
         · exact ⟨Nat.zero_le _,rfl⟩
         · refine B0 ?_ ?_ ?_ ?_ <;> (try simp (disch:=omega) only [amL,sF,↓reduceIte]); all_goals rfl
         obtain ⟨hk2,hpre2⟩:=hx19
         refine Aa fun K20 hK20=>?_
         refine Aa fun K21 hK21=>?_
         refine Ab ?_
         simp (disch:=omega) only [amL,amT,sA,sF,↓reduceIte,reduceCtorEq]
         refine hK21 _ ?_
         refine Ag rfl (fun h=>?_) (fun h=>?_)
         ·first
          | exact Bool.noConfusion h
          |skip
           try simp only [decide_eq_true_eq] at h
           refine Ah ?_
           refine hK20 _ ?_
           refine Aa fun K22 hK22=>?_
           refine Ak ?_
           refine Aa fun K23 hK23=>?_
           refine Bg (by kernel_rfl) (by kernel_rfl) ?_
           simp (disch:=omega) only [Eu,amL,amT,sA,sB,sF,↓reduceIte,reduceCtorEq]
           repeat' first | (refine Al (by kernel_rfl) rfl (Baj (b.ss.getD k2 default) b.vs.length h1) (by first | exact .inl rfl | exact .inr (.inl rfl)) ?_ ; simp (disch:=omega) only [amL,sA,↓reduceIte])
           refine hK23 _ ?_
           refine Ag rfl (fun h=>?_) (fun h=>?_)
           ·first
            | exact Bool.noConfusion h
            |skip
             try simp only [Bool.not_eq_true'] at h
             refine Aa fun K24 hK24=>?_
             refine Ab ?_
             simp (disch:=omega) only [amL,sA]
             refine hK24 _ ?_
             refine Ae ?_
             try simp (disch:=omega) only [amL,↓reduceIte]
             all_goals first | (rw [Th (by omega)]; done) | (rw [Fj (by omega) (.inl (by omega))]; done) | (rw [Fj (by omega) (.inr (.inl (D7 (d:=default) (k:=k) (by omega) (by simp_all [Df]))))]; done) | (rw [Fj (by omega) (.inr (.inr (D7 (d:=default) (k:=k2) (by omega) (by simpa using h))))]; done) | (rw [E5 (by omega) (by omega) (by omega) hva hsa,if_pos h]; done) | (rw [E5 (by omega) (by omega) (by omega) hva hsa,if_neg h]; done) | trace_state
           ·first
            | exact Bool.noConfusion h
            |skip
             try simp only [Bool.not_eq_false'] at h
             refine Ah ?_
             refine hK22 _ ?_
             refine Ab ?_
             simp (disch:=omega) only [amL,amT,sA,sF,↓reduceIte]
             refine hK19 (k2+1) _ ?_ ?_ (B0 ?_ ?_ ?_ ?_)
             all_goals (try simp (disch:=omega) only [amL,sF,↓reduceIte])
             all_goals first | omega | exact ⟨by omega,Zn (d:=default) (by omega) hpre2 (by simpa using h)⟩ | trace_state
         ·first
          | exact Bool.noConfusion h
          |skip
           try simp only [decide_eq_false_iff_not] at h
           refine Bc ?_
           refine hK17 _ ?_
           refine Aa fun K25 hK25=>?_
           refine Aa fun K26 hK26=>?_
           refine Ab ?_
           have hsa:b.ss.all (Dm b.vs.length)=true:=Y2 (by omega) hpre2
           simp (disch:=omega) only [amL,amT,sA,sB,sF,↓reduceIte]
           repeat' first | (refine Al (by kernel_rfl) rfl (Atj b ⟨by omega,by omega,hva,hsa⟩) (by first | exact .inl rfl | exact .inr (.inl rfl)) ?_ ; simp (disch:=omega) only [amL,amT,↓reduceIte])
           refine hK26 _ ?_
           refine Ag rfl (fun h=>?_) (fun h=>?_)
           ·first
            | exact Bool.noConfusion h
            |skip
             try simp only [decide_eq_true_eq] at h
             refine Aa fun K27 hK27=>?_
             refine Ab ?_
             simp (disch:=omega) only [amL,sA]
             refine hK27 _ ?_
             refine Ae ?_
             try simp (disch:=omega) only [amL,↓reduceIte]
             all_goals first | (rw [Th (by omega)]; done) | (rw [Fj (by omega) (.inl (by omega))]; done) | (rw [Fj (by omega) (.inr (.inl (D7 (d:=default) (k:=k) (by omega) (by simp_all [Df]))))]; done) | (rw [Fj (by omega) (.inr (.inr (D7 (d:=default) (k:=k2) (by omega) (by simpa using h))))]; done) | (rw [E5 (by omega) (by omega) (by omega) hva hsa,if_pos h]; done) | (rw [E5 (by omega) (by omega) (by omega) hva hsa,if_neg h]; done) | trace_state
           ·first
            | exact Bool.noConfusion h
            |skip
             try simp only [decide_eq_false_iff_not] at h
             refine Ah ?_
             refine hK25 _ ?_
             refine Aa fun K28 hK28=>?_
             refine Ab ?_
             simp (disch:=omega) only [amL,sA]
             refine hK28 _ ?_
             refine Ae ?_
             try simp (disch:=omega) only [amL,↓reduceIte]
             all_goals first | (rw [Th (by omega)]; done) | (rw [Fj (by omega) (.inl (by omega))]; done) | (rw [Fj (by omega) (.inr (.inl (D7 (d:=default) (k:=k) (by omega) (by simp_all [Df]))))]; done) | (rw [Fj (by omega) (.inr (.inr (D7 (d:=default) (k:=k2) (by omega) (by simpa using h))))]; done) | (rw [E5 (by omega) (by omega) (by omega) hva hsa,if_pos h]; done) | (rw [E5 (by omega) (by omega) (by omega) hva hsa,if_neg h]; done) | trace_state
end AM.Try
end
/- The reference: gravities, what vessels have at first. -/
section
namespace AM.Try
open Go AM AM.Wort Go.Proofs
open Nat renaming reduceLT→sA,reduceAdd→sB,reduceMul→sC,reduceSub→sD,reduceLeDiff→sE,reduceEqDiff→sF,reduceBEq→sG
open Int renaming reduceAdd→sH,reduceSub→sI,reduceMul→sJ,reduceLT→sK,reduceLE→sL,reduceNeg→sM,reduceToNat→sN,reduceEq→sO
set_option maxRecDepth 100000
set_option maxHeartbeats 16000000
theorem Avg (e g:Int) (h1:0≤e∧e≤1000000000) (h2:0≤g∧g≤1000000):Bj Tryz.prog 122 [i64 e,i64 g] (i64 (Ky e g)):=by
  refine A7 (v:=[]) (q:=[]) (N:=22) (rs:=[.tmp 4]) Tryz.func122 rfl rfl rfl rfl rfl ?_
  refine Aa fun K1 hK1=>?_
  refine Ab ?_
  simp (disch:=omega) only [amL,sA,sB]
  refine hK1 _ ?_
  refine Aa fun K2 hK2=>?_
  refine Aa fun K3 hK3=>?_
  refine Ab ?_
  simp (disch:=omega) only [amL,amT,sA,sF,↓reduceIte,reduceCtorEq]
  refine hK3 _ ?_
  refine Ag rfl (fun h=>?_) (fun h=>?_)
  ·first
   | exact Bool.noConfusion h
   |skip
    try simp only [decide_eq_true_eq] at h
    refine Aa fun K4 hK4=>?_
    refine Ab ?_
    simp (disch:=omega) only [amL,sA]
    refine hK4 _ ?_
    refine Ae ?_
    try simp (disch:=omega) only [amL,↓reduceIte]
    first | (rw [Ky,if_pos h]; done) | (rw [Ky,if_neg (by assumption),if_pos (by assumption)]; done) | (rw [Ky,if_neg (by assumption),if_neg (by assumption)]; done) | trace_state
  ·first
   | exact Bool.noConfusion h
   |skip
    try simp only [decide_eq_false_iff_not] at h
    refine Ah ?_
    refine hK2 _ ?_
    refine Aa fun K5 hK5=>?_
    refine Ab ?_
    have hb:=Adc h1.1 (show 0 < g by omega)
    have htd:e.tdiv g=e / g:=Int.tdiv_eq_ediv_of_nonneg h1.1
    have hw1:IntKind.i64.wrap (e / g)=e / g:=D1 (by omega) (by omega)
    simp (disch:=omega) only [htd,hw1,amL,amT,sA,sF,↓reduceIte,reduceCtorEq]
    refine hK5 _ ?_
    refine Aa fun K6 hK6=>?_
    refine Aa fun K7 hK7=>?_
    refine Ab ?_
    have hw2:IntKind.i64.wrap (e / g * g)=e / g * g:=D1 (by omega) (by omega)
    have hw3:IntKind.i64.wrap (e - e / g * g)=e - e / g * g:=D1 (by omega) (by omega)
    simp (disch:=omega) only [hw2,hw3,amL,amT,sA,sF,↓reduceIte,reduceCtorEq]
    refine hK7 _ ?_
    refine Ag rfl (fun h=>?_) (fun h=>?_)
    ·first
     | exact Bool.noConfusion h
     |skip
      try simp only [decide_eq_true_eq] at h
      refine Ab ?_
      simp (disch:=omega) only [amL,amT,sA,sF,↓reduceIte]
      refine hK6 _ ?_
      refine Aa fun K8 hK8=>?_
      refine Ab ?_
      simp (disch:=omega) only [amL,sA,↓reduceIte]
      refine hK8 _ ?_
      refine Ae ?_
      try simp (disch:=omega) only [amL,↓reduceIte]
      first | (rw [Ky,if_pos h]; done) | (rw [Ky,if_neg (by assumption),if_pos (by assumption)]; done) | (rw [Ky,if_neg (by assumption),if_neg (by assumption)]; done) | trace_state
    ·first
     | exact Bool.noConfusion h
     |skip
      try simp only [decide_eq_false_iff_not] at h
      refine Ah ?_
      refine hK6 _ ?_
      refine Aa fun K9 hK9=>?_
      refine Ab ?_
      simp (disch:=omega) only [amL,sA,sF,↓reduceIte]
      refine hK9 _ ?_
      refine Ae ?_
      try simp (disch:=omega) only [amL,↓reduceIte]
      first | (rw [Ky,if_pos h]; done) | (rw [Ky,if_neg (by assumption),if_pos (by assumption)]; done) | (rw [Ky,if_neg (by assumption),if_neg (by assumption)]; done) | trace_state
theorem Gj (l:List Sta) (hl:l.length < 1000000) (hs:∀ k,(0≤(l.getD k default).e∧(l.getD k default).e≤1000000000)∧0≤(l.getD k default).g∧(l.getD k default).g≤1000000):Bj Tryz.prog 92 [.p (.sl (l.map H5))] (.p (.sl ((l.map wei).map H5))):=by
  refine A7 (v:=[]) (q:=[]) (N:=37) (rs:=[.tmp 2]) Tryz.func92 rfl rfl rfl rfl rfl ?_
  refine Aa fun K1 hK1=>?_
  refine Ab ?_
  simp (disch:=omega) only [amL,sA]
  refine hK1 _ ?_
  refine Aa fun K2 hK2=>?_
  refine Ab ?_
  simp (disch:=omega) only [amL,sA]
  refine hK2 _ ?_
  refine Aa fun K3 hK3=>?_
  refine Aa fun K4 hK4=>?_
  refine Ab ?_
  simp (disch:=omega) only [amL,sA]
  refine hK4 _ ?_
  refine Ak ?_
  refine He 35 3 3 (by decide) rfl rfl ?_
  refine A5 (α:=Nat) (fun k=>⟨T [(0,.p (.sl (l.map H5))),(3,.own 35 k),(4,i64 (k:Int))],O [(35,.arr 3 (((l.take k).map wei).map H5))]⟩) (fun k=>l.length - k) (fun k=>k≤l.length) 0 ?_ ?_ (fun k hx5 K5 hK5=>?_)
  · exact Nat.zero_le _
  · refine B0 ?_ ?_ ?_ ?_ <;> (try simp (disch:=omega) only [amL,sF,↓reduceIte,reduceCtorEq]); all_goals first | rfl | trace_state
  have hk:=hx5
  refine Aa fun K6 hK6=>?_
  refine Aa fun K7 hK7=>?_
  refine Ab ?_
  simp (disch:=omega) only [amL,amT,sA,sF,↓reduceIte,reduceCtorEq]
  refine hK7 _ ?_
  refine Ag rfl (fun h=>?_) (fun h=>?_)
  ·first
   | exact Bool.noConfusion h
   |skip
    try simp only [decide_eq_true_eq] at h
    refine Ah ?_
    refine hK6 _ ?_
    refine Aa fun K8 hK8=>?_
    refine Ak ?_
    refine Bg (by kernel_rfl) (by kernel_rfl) ?_
    simp (disch:=omega) only [A1,amL,amT,sA,sB,sF,↓reduceIte,reduceCtorEq]
    repeat' first | (refine Al (by kernel_rfl) rfl (Avg (l.getD k default).e (l.getD k default).g (hs k).1 (hs k).2) (by first | exact .inl rfl | exact .inr (.inl rfl)) ?_ ; simp (disch:=omega) only [amL,amT,sA,sB,sC,sE,sF,↓reduceIte,reduceCtorEq])
    refine hK8 _ ?_
    refine Ab ?_
    simp (disch:=omega) only [amL,amT,sA,sF,↓reduceIte,reduceCtorEq]
    refine hK5 (k+1) _ ?_ ?_ (B0 ?_ ?_ ?_ ?_)
    all_goals (try simp (disch:=omega) only [amL,sF,↓reduceIte,reduceCtorEq])
    all_goals first | omega | (rw [T5 default (by omega),List.map_append]; rfl) | trace_state
  ·first
   | exact Bool.noConfusion h
   |skip
    try simp only [decide_eq_false_iff_not] at h
    refine Bc ?_
    refine hK3 _ ?_
    refine Aa fun K9 hK9=>?_
    refine Ab ?_
    simp (disch:=omega) only [amL,sA,sF,↓reduceIte,reduceCtorEq]
    refine hK9 _ ?_
    refine Ae ?_
    try simp (disch:=omega) only [amL,↓reduceIte]
    rw [List.take_of_length_le (by simp; omega),List.take_of_length_le (by omega)]
theorem Aqt (b:Cx) (t:Tru) (hv:Ja b) (hl:C1 b t=true):Bj Tryz.prog 53 [avB b,avT t] (.tup [.p (.sl (stL (Nq b.vs t.g t.d))),bl (Zg b.vs t.g)]):=by
  refine A7 (v:=[]) (q:=[]) (N:=54) (rs:=[.tmp 4,.tmp 5]) Tryz.func53 rfl rfl rfl rfl rfl ?_
  have hnv:=hv.nv
  obtain ⟨p1,p2,p3,p4,p5⟩:=Cg hl
  obtain ⟨s1,s2,s3⟩:=F3 hv hl
  have hbo:=Y6 hv hl
  have hbl:=hbo.len hnv
  refine Aa fun K1 hK1=>?_
  refine Ab ?_
  simp (disch:=omega) only [amL,sA,sB,sF,↓reduceIte,reduceCtorEq]
  refine hK1 _ ?_
  refine Aa fun K2 hK2=>?_
  refine Ab ?_
  simp (disch:=omega) only [amL,sA]
  refine hK2 _ ?_
  refine Aa fun K3 hK3=>?_
  refine Ab ?_
  simp (disch:=omega) only [amL,sA]
  refine hK3 _ ?_
  refine Aa fun K4 hK4=>?_
  refine Aa fun K5 hK5=>?_
  refine Ab ?_
  simp (disch:=omega) only [amL,sA]
  refine hK5 _ ?_
  refine Ak ?_
  refine He 35 3 6 (by decide) rfl rfl ?_
  refine A5 (α:=List Liq × Bool) (fun x=>⟨T [(2,.ptr 2 0),(3,.ptr 3 0),(6,.own 35 x.1.length),(7,bl x.2),(8,i64 (x.1.length:Int))],O [(2,.cells (cB b)),(3,.cells (cT t)),(35,.arr 3 ((x.1.map Ve).map H5))]⟩) (fun x=>b.vs.length - x.1.length) (fun x=>x.1.length≤b.vs.length∧x.1++Ls (b.vs.drop x.1.length) t.g t.d x.1.length=Nq b.vs t.g t.d∧(x.2&&Qj (b.vs.drop x.1.length) t.g x.1.length)=Zg b.vs t.g) ([],true) ?_ ?_ (fun x hx6 K6 hK6=>?_)
  · exact ⟨Nat.zero_le _,rfl,rfl⟩
  · refine B0 ?_ ?_ ?_ ?_ <;> (try simp (disch:=omega) only [amL,sF,sG,↓reduceIte]); all_goals first | rfl | trace_state
  obtain ⟨acc,is⟩:=x; dsimp only at hx6 ⊢; obtain ⟨hk,hr1,hr2⟩:=hx6
  refine Aa fun K7 hK7=>?_
  refine Aa fun K8 hK8=>?_
  refine Ab ?_
  simp (disch:=omega) only [amL,amT,sA,sF,↓reduceIte,reduceCtorEq]
  refine hK8 _ ?_
  refine Ag rfl (fun h=>?_) (fun h=>?_)
  ·first
   | exact Bool.noConfusion h
   |skip
    try simp only [decide_eq_true_eq] at h
    refine Ah ?_
    refine hK7 _ ?_
    refine Aa fun K9 hK9=>?_
    refine Ak ?_
    refine Aa fun K10 hK10=>?_
    refine Bg (by kernel_rfl) (by kernel_rfl) ?_
    have g1:=s1 acc.length
    have g2:=s2 acc.length
    have g3:=Av8 (show 0≤t.g.getD acc.length 0∧t.g.getD acc.length 0≤100000 by omega) (show 0≤t.d.getD acc.length 0∧t.d.getD acc.length 0≤100000 by omega)
    simp (disch:=omega) only [Be,amL,amT,sA,sB,sC,sE,sF,↓reduceIte,reduceCtorEq]
    refine hK10 _ ?_
    refine Bg (by kernel_rfl) (by kernel_rfl) ?_
    simp (disch:=omega) only [amL,sA,sF,↓reduceIte]
    repeat' first | (refine Cn (fun h=>?_) (fun h=>?_) <;> simp (disch:=omega) only [h,A0,Be,amL,amT,sA,sB,sC,sD,sE,sF,sG,sH,sI,sJ,sK,sL,sM,sN,sO,↓reduceIte,reduceCtorEq]) | (refine Bo (fun h=>?_) (fun h=>?_) <;> simp (disch:=omega) only [h,A0,Be,amL,amT,sA,sB,sF,↓reduceIte,reduceCtorEq])
    all_goals
     skip
     refine hK9 _ ?_
     refine Ab ?_
     simp (disch:=omega) only [amL,amT,sA,sF,↓reduceIte]
     refine hK6 (acc++[⟨t.g.getD acc.length 0,t.g.getD acc.length 0 * t.d.getD acc.length 0⟩],is&&decide (t.g.getD acc.length 0≤(b.vs.getD acc.length default).room)) _ ?_ ?_ (B0 ?_ ?_ ?_ ?_)
     all_goals (try simp (disch:=omega) only [amL,sF,sG,↓reduceIte])
     all_goals first | omega | exact Ar3 (by omega) hr1 hr2 | (simp; omega) | exact ⟨by simp,by simp_all,by simp⟩ | (rw [List.map_append,List.map_append]; rfl) | trace_state
  ·first
   | exact Bool.noConfusion h
   |skip
    try simp only [decide_eq_false_iff_not] at h
    refine Bc ?_
    refine hK4 _ ?_
    refine Aa fun K11 hK11=>?_
    have e1:acc=Nq b.vs t.g t.d:=by rw [Apj (by omega),List.append_nil] at hr1; exact hr1
    have e2:is=Zg b.vs t.g:=by rw [Asg (by omega),Bool.and_true] at hr2; exact hr2
    subst e1 e2
    refine Kl 35 rfl ?_
    simp only [Mv,R7,AV.frz,AO.frz,List.map_cons,List.map_nil,Nat.reduceEqDiff,if_false,if_true,Nat.le_refl,List.length_map]
    rw [List.take_of_length_le (by simp)]
    refine Ab ?_
    simp (disch:=omega) only [amL,sA,sF,↓reduceIte]
    refine Al (by kernel_rfl) rfl (Gj ((Nq b.vs t.g t.d).map Ve) (by simp; omega) (Akg hbo)) (by first | exact .inl rfl | exact .inr (.inl rfl)) ?_
    rw [Aup hbo]
    simp (disch:=omega) only [amL,sA,sF,↓reduceIte]
    refine hK11 _ ?_
    refine Ae ?_
    try simp (disch:=omega) only [amL,sF,↓reduceIte]
    skip
theorem Bck (b:Cx) (v:List Liq) (s:Stp) (n:Int) (hv:Ja b) (ho:OkN b.vs.length v) (hr:Vl b.vs v) (hs:Dm b.vs.length s=true) (hn:0≤n∧n≤60) :
    Bj Tryz.prog 70 [avB b,.p (.sl (stL v)),avS s,i64 n] (.tup [.p (.sl (stL (doX b.vs v s n).1)),bl (doX b.vs v s n).2]):=by
  rw [Aa4,Aa4]
  refine A7 (v:=[]) (q:=[]) (N:=126) (rs:=[.tmp 8,.tmp 9]) Tryz.func70 rfl rfl rfl rfl rfl ?_
  have hnv:=hv.nv
  have hvl:=ho.len hnv
  obtain ⟨q1,q2,q3,q4,_⟩:=Cd hs
  obtain ⟨⟨f1,f2⟩,f3,f4⟩:=ho.at s.frm.toNat
  obtain ⟨⟨t1,t2⟩,t3,t4⟩:=ho.at s.to.toNat
  obtain ⟨S,hS⟩:∃ S,S=v.map L1:=⟨_,rfl⟩
  have hSl:S.length=b.vs.length:=by rw [hS,List.length_map,hvl]
  have hSf:S.getD s.frm.toNat default=L1 (A8 v s.frm.toNat):=by rw [hS]; exact Aei (by omega)
  have hSt:S.getD s.to.toNat default=L1 (A8 v s.to.toNat):=by rw [hS]; exact Aei (by omega)
  have hSm:SmA S:=by rw [hS]; exact Az9 ho
  have hSp:S.map prA=v:=by rw [hS]; exact Bb2 v
  rw [← hS]
  refine Aa fun K1 hK1=>?_
  refine Ab ?_
  simp (disch:=(first | omega | (simp only [List.length_set]; omega))) only [amL,sA,sB,sF,↓reduceIte,reduceCtorEq]
  refine hK1 _ ?_
  refine Aa fun K2 hK2=>?_
  refine Ab ?_
  simp (disch:=(first | omega | (simp only [List.length_set]; omega))) only [Cz,amL,amT,sA,sB,sF,↓reduceIte,reduceCtorEq]
  refine hK2 _ ?_
  refine Aa fun K3 hK3=>?_
  refine Ab ?_
  simp (disch:=(first | omega | (simp only [List.length_set]; omega))) only [amL,sA]
  refine hK3 _ ?_
  refine Aa fun K4 hK4=>?_
  refine Aa fun K5 hK5=>?_
  refine Ab ?_
  simp (disch:=(first | omega | (simp only [List.length_set]; omega))) only [amL,amT,sA,sF,↓reduceIte,reduceCtorEq]
  refine hK5 _ ?_
  refine Ag rfl (fun h=>?_) (fun h=>?_)
  ·first
   | exact Bool.noConfusion h
   | ((try simp only [Bool.not_eq_true',decide_eq_false_iff_not,decide_not] at h) ; exfalso ; omega)
   |skip
    try simp only [Bool.not_eq_true',decide_eq_false_iff_not,decide_not] at h
    refine Aa fun K6 hK6=>?_
    refine Aa fun K7 hK7=>?_
    refine Ab ?_
    simp (disch:=(first | omega | (simp only [List.length_set]; omega))) only [A1,hSf,Hw,Hs,amL,amT,sA,sF,↓reduceIte,reduceCtorEq]
    refine hK7 _ ?_
    refine Ag rfl (fun h=>?_) (fun h=>?_)
    ·first
     | exact Bool.noConfusion h
     | ((try simp only [decide_eq_true_eq] at h) ; exfalso ; omega)
     |skip
      try simp only [decide_eq_true_eq] at h
      refine Aa fun K8 hK8=>?_
      refine Ab ?_
      simp (disch:=(first | omega | (simp only [List.length_set]; omega))) only [amL,sA,sF,↓reduceIte,reduceCtorEq]
      refine hK8 _ ?_
      refine Ae ?_
      try simp (disch:=(first | omega | (simp only [List.length_set]; omega))) only [amL,sF,↓reduceIte]
      all_goals first | (exfalso; omega) | exact doA hS (Lz (by omega) hs hvl (by omega)) rfl rfl | exact doA hS (Ao (by rw [Ci (by omega) hs hvl (by omega) (by omega)]; exact decide_eq_false (by omega))) rfl rfl | exact doA hS (Ao (by rw [B3 (by omega) (by omega) (by omega)]; exact decide_eq_false (by omega))) rfl rfl | exact doA hS (Ao (by rw [B1 (by omega) hs hvl]; exact decide_eq_false (by omega))) rfl rfl | exact doA hS (Ao (by rw [Bn (by omega) hs hvl hr hn.1,decide_eq_false (by omega),decide_eq_true (by omega),decide_eq_false (by omega)]; rfl)) rfl rfl | exact doB (by rw [Ci (by omega) hs hvl (by omega) (by omega),decide_eq_true (by omega)]) (by repeat' first | exact hSm | refine A4 ?_ (by dsimp only; omega)) (by simp only [List.map_set,hSp]; rfl) | exact doB (by rw [B1 (by omega) hs hvl,decide_eq_true (by omega)]) (by repeat' first | exact hSm | refine A4 ?_ (by dsimp only; omega)) (by simp only [List.map_set,hSp]; rfl) | exact doB (by rw [Bn (by omega) hs hvl hr hn.1,decide_eq_true (by omega)] <;> rfl) (by repeat' first | exact hSm | refine A4 ?_ (by dsimp only; omega)) (by simp only [List.map_set,hSp,prA,Int.sub_zero]) | exact doB (by rw [Bn (by omega) hs hvl hr hn.1,decide_eq_false (by omega),decide_eq_true (by omega),decide_eq_true (by omega)] <;> rfl) (by repeat' first | exact hSm | refine A4 ?_ (by dsimp only; omega)) (by simp only [List.map_set,hSp,prA,Int.sub_zero] <;> rw [show (A8 v s.frm.toNat).g - n=0 by omega]) | exact doB (by rw [B3 (by omega) (by omega) (by omega),decide_eq_true (by omega)]) (by repeat' first | exact hSm | refine A4 ?_ (by dsimp only; omega)) (by simp only [List.map_set,hSp]; rw [B2 (k:=s.frm.toNat) (by omega) (by unfold prA; dsimp only; rw [show n=0 by omega]; simp),B2 (k:=s.to.toNat) (by omega) (by unfold prA; dsimp only; rw [show n=0 by omega]; simp)]) | trace_state
    ·first
     | exact Bool.noConfusion h
     | ((try simp only [decide_eq_false_iff_not] at h) ; exfalso ; omega)
     |skip
      try simp only [decide_eq_false_iff_not] at h
      refine Ah ?_
      refine hK6 _ ?_
      refine Aa fun K9 hK9=>?_
      refine Aa fun K10 hK10=>?_
      refine Ab ?_
      simp (disch:=(first | omega | (simp only [List.length_set]; omega))) only [amL,amT,sA,sF,↓reduceIte,reduceCtorEq]
      repeat' first | (refine Cn (fun h=>?_) (fun h=>?_) <;> simp (disch:=(first | omega | (simp only [List.length_set]; omega))) only [h,amL,amT,sA,sF,↓reduceIte,reduceCtorEq]) | (refine Bo (fun h=>?_) (fun h=>?_) <;> simp (disch:=(first | omega | (simp only [List.length_set]; omega))) only [h,Cz,A1,A0,Bl,Cc,Dq,hSf,hSt,Hw,Hs,List.set_set,List.length_set,amL,amT,sA,sB,sC,sD,sE,sF,sG,sH,sI,sJ,sK,sL,sM,sN,sO,↓reduceIte,reduceCtorEq])
      all_goals
       skip
       refine hK10 _ ?_
       refine Ag rfl (fun h=>?_) (fun h=>?_)
       ·first
        | exact Bool.noConfusion h
        | ((try simp only [decide_eq_true_eq] at h) ; exfalso ; omega)
        |skip
         try simp only [decide_eq_true_eq] at h
         refine Bg (by kernel_rfl) (by kernel_rfl) ?_
         have hb:=Rf (n:=n) (e:=(A8 v s.frm.toNat).e) (g:=(A8 v s.frm.toNat).g) hn.1 (by omega) f3 (by omega)
         have hx1:0≤Fk v s.frm.toNat n:=hb.1
         have hx2:Fk v s.frm.toNat n≤(A8 v s.frm.toNat).e:=hb.2
         have hb2:=Av8 (a:=n) (b:=(A8 v s.frm.toNat).e) (by omega) (by omega)
         have hw7:IntKind.i64.wrap (n * (A8 v s.frm.toNat).e)=n * (A8 v s.frm.toNat).e:=D1 (by omega) (by omega)
         have htd:(n * (A8 v s.frm.toNat).e).tdiv (A8 v s.frm.toNat).g=Fk v s.frm.toNat n:=Int.tdiv_eq_ediv_of_nonneg (by omega)
         simp (disch:=(first | omega | (simp only [List.length_set]; omega))) only [hw7,htd,A1,hSf,Hw,Hs,amL,amT,sA,sF,↓reduceIte,reduceCtorEq]
         refine hK9 _ ?_
         refine Aa fun K11 hK11=>?_
         refine Ab ?_
         simp (disch:=(first | omega | (simp only [List.length_set]; omega))) only [A1,Bl,hSf,Hw,Hs,amL,amT,sA,sE,sF,↓reduceIte,reduceCtorEq]
         refine hK11 _ ?_
         refine Ab ?_
         simp (disch:=(first | omega | (simp only [List.length_set]; omega))) only [A1,Bl,Cc,List.set_set,List.length_set,amL,amT,sA,sB,sE,sF,↓reduceIte,reduceCtorEq]
         refine hK4 _ ?_
         refine Aa fun K12 hK12=>?_
         refine Aa fun K13 hK13=>?_
         refine Ab ?_
         simp (disch:=(first | omega | (simp only [List.length_set]; omega))) only [amL,amT,sA,sF,↓reduceIte,reduceCtorEq]
         refine hK13 _ ?_
         refine Ag rfl (fun h=>?_) (fun h=>?_)
         ·first
          | exact Bool.noConfusion h
          | ((try simp only [Bool.not_eq_true',decide_eq_false_iff_not,decide_not] at h) ; exfalso ; omega)
          |skip
           try simp only [Bool.not_eq_true',decide_eq_false_iff_not,decide_not] at h
           refine Aa fun K14 hK14=>?_
           refine Ab ?_
           simp (disch:=(first | omega | (simp only [List.length_set]; omega))) only [A1,Bl,Dq,hSt,Hw,Hs,List.length_set,amL,amT,sA,sE,sF,↓reduceIte,reduceCtorEq]
           refine hK14 _ ?_
           refine Aa fun K15 hK15=>?_
           refine Ab ?_
           simp (disch:=(first | omega | (simp only [List.length_set]; omega))) only [A1,Bl,Cc,List.set_set,List.length_set,amL,amT,sA,sB,sE,sF,↓reduceIte,reduceCtorEq]
           refine hK15 _ ?_
           refine Aa fun K16 hK16=>?_
           refine Bg (by kernel_rfl) (by kernel_rfl) ?_
           simp (disch:=(first | omega | (simp only [List.length_set]; omega))) only [A1,A0,Cc,List.length_set,amL,amT,sA,sB,sF,↓reduceIte,reduceCtorEq]
           refine hK16 _ ?_
           refine Ag rfl (fun h=>?_) (fun h=>?_)
           ·first
            | exact Bool.noConfusion h
            | ((try simp only [decide_eq_true_eq] at h) ; exfalso ; omega)
            |skip
             try simp only [decide_eq_true_eq] at h
             refine Aa fun K17 hK17=>?_
             refine Ab ?_
             simp (disch:=(first | omega | (simp only [List.length_set]; omega))) only [amL,sA,sF,↓reduceIte,reduceCtorEq]
             refine hK17 _ ?_
             refine Ae ?_
             try simp (disch:=(first | omega | (simp only [List.length_set]; omega))) only [amL,sF,↓reduceIte]
             all_goals first | (exfalso; omega) | exact doA hS (Lz (by omega) hs hvl (by omega)) rfl rfl | exact doA hS (Ao (by rw [Ci (by omega) hs hvl (by omega) (by omega)]; exact decide_eq_false (by omega))) rfl rfl | exact doA hS (Ao (by rw [B3 (by omega) (by omega) (by omega)]; exact decide_eq_false (by omega))) rfl rfl | exact doA hS (Ao (by rw [B1 (by omega) hs hvl]; exact decide_eq_false (by omega))) rfl rfl | exact doA hS (Ao (by rw [Bn (by omega) hs hvl hr hn.1,decide_eq_false (by omega),decide_eq_true (by omega),decide_eq_false (by omega)]; rfl)) rfl rfl | exact doB (by rw [Ci (by omega) hs hvl (by omega) (by omega),decide_eq_true (by omega)]) (by repeat' first | exact hSm | refine A4 ?_ (by dsimp only; omega)) (by simp only [List.map_set,hSp]; rfl) | exact doB (by rw [B1 (by omega) hs hvl,decide_eq_true (by omega)]) (by repeat' first | exact hSm | refine A4 ?_ (by dsimp only; omega)) (by simp only [List.map_set,hSp]; rfl) | exact doB (by rw [Bn (by omega) hs hvl hr hn.1,decide_eq_true (by omega)] <;> rfl) (by repeat' first | exact hSm | refine A4 ?_ (by dsimp only; omega)) (by simp only [List.map_set,hSp,prA,Int.sub_zero]) | exact doB (by rw [Bn (by omega) hs hvl hr hn.1,decide_eq_false (by omega),decide_eq_true (by omega),decide_eq_true (by omega)] <;> rfl) (by repeat' first | exact hSm | refine A4 ?_ (by dsimp only; omega)) (by simp only [List.map_set,hSp,prA,Int.sub_zero] <;> rw [show (A8 v s.frm.toNat).g - n=0 by omega]) | exact doB (by rw [B3 (by omega) (by omega) (by omega),decide_eq_true (by omega)]) (by repeat' first | exact hSm | refine A4 ?_ (by dsimp only; omega)) (by simp only [List.map_set,hSp]; rw [B2 (k:=s.frm.toNat) (by omega) (by unfold prA; dsimp only; rw [show n=0 by omega]; simp),B2 (k:=s.to.toNat) (by omega) (by unfold prA; dsimp only; rw [show n=0 by omega]; simp)]) | trace_state
           ·first
            | exact Bool.noConfusion h
            | ((try simp only [decide_eq_false_iff_not] at h) ; exfalso ; omega)
            |skip
             try simp only [decide_eq_false_iff_not] at h
             refine Ah ?_
             refine hK12 _ ?_
             refine Aa fun K18 hK18=>?_
             refine Kl 14 rfl ?_
             simp only [Mv,R7,AV.frz,AO.frz,AV.frz.frzL,List.map_cons,List.map_nil,Nat.reduceEqDiff,if_false,if_true,Nat.le_refl,List.length_map,List.length_set]
             rw [List.take_of_length_le (by simp)]
             refine Ab ?_
             simp (disch:=(first | omega | (simp only [List.length_set]; omega))) only [amL,sA,sF,↓reduceIte]
             refine Al (by kernel_rfl) rfl (Gj _ (by simp only [List.length_set]; omega) (by repeat' first | exact hSm | refine A4 ?_ (by dsimp only; omega))) (by first | exact .inl rfl | exact .inr (.inl rfl)) ?_
             simp (disch:=(first | omega | (simp only [List.length_set]; omega))) only [amL,sA,↓reduceIte]
             refine hK18 _ ?_
             refine Ae ?_
             try simp (disch:=(first | omega | (simp only [List.length_set]; omega))) only [amL,sF,↓reduceIte]
             all_goals first | (exfalso; omega) | exact doA hS (Lz (by omega) hs hvl (by omega)) rfl rfl | exact doA hS (Ao (by rw [Ci (by omega) hs hvl (by omega) (by omega)]; exact decide_eq_false (by omega))) rfl rfl | exact doA hS (Ao (by rw [B3 (by omega) (by omega) (by omega)]; exact decide_eq_false (by omega))) rfl rfl | exact doA hS (Ao (by rw [B1 (by omega) hs hvl]; exact decide_eq_false (by omega))) rfl rfl | exact doA hS (Ao (by rw [Bn (by omega) hs hvl hr hn.1,decide_eq_false (by omega),decide_eq_true (by omega),decide_eq_false (by omega)]; rfl)) rfl rfl | exact doB (by rw [Ci (by omega) hs hvl (by omega) (by omega),decide_eq_true (by omega)]) (by repeat' first | exact hSm | refine A4 ?_ (by dsimp only; omega)) (by simp only [List.map_set,hSp]; rfl) | exact doB (by rw [B1 (by omega) hs hvl,decide_eq_true (by omega)]) (by repeat' first | exact hSm | refine A4 ?_ (by dsimp only; omega)) (by simp only [List.map_set,hSp]; rfl) | exact doB (by rw [Bn (by omega) hs hvl hr hn.1,decide_eq_true (by omega)] <;> rfl) (by repeat' first | exact hSm | refine A4 ?_ (by dsimp only; omega)) (by simp only [List.map_set,hSp,prA,Int.sub_zero]) | exact doB (by rw [Bn (by omega) hs hvl hr hn.1,decide_eq_false (by omega),decide_eq_true (by omega),decide_eq_true (by omega)] <;> rfl) (by repeat' first | exact hSm | refine A4 ?_ (by dsimp only; omega)) (by simp only [List.map_set,hSp,prA,Int.sub_zero] <;> rw [show (A8 v s.frm.toNat).g - n=0 by omega]) | exact doB (by rw [B3 (by omega) (by omega) (by omega),decide_eq_true (by omega)]) (by repeat' first | exact hSm | refine A4 ?_ (by dsimp only; omega)) (by simp only [List.map_set,hSp]; rw [B2 (k:=s.frm.toNat) (by omega) (by unfold prA; dsimp only; rw [show n=0 by omega]; simp),B2 (k:=s.to.toNat) (by omega) (by unfold prA; dsimp only; rw [show n=0 by omega]; simp)]) | trace_state
         ·first
          | exact Bool.noConfusion h
          | ((try simp only [Bool.not_eq_true',decide_eq_true_eq,decide_eq_false_iff_not,Bool.and_eq_true,Bool.not_eq_false',Bool.not_not,decide_not,Bool.not_true,Bool.not_false] at h) ; exfalso ; omega)
          |skip
           try simp only [Bool.not_eq_true',decide_eq_true_eq,decide_eq_false_iff_not,Bool.and_eq_true,Bool.not_eq_false',Bool.not_not,decide_not,Bool.not_true,Bool.not_false] at h
           refine Aa fun K19 hK19=>?_
           refine Ab ?_
           simp (disch:=(first | omega | (simp only [List.length_set]; omega))) only [Cz,A1,A0,Bl,Cc,Dq,hSf,hSt,Hw,Hs,List.set_set,List.length_set,amL,amT,sA,sB,sC,sD,sE,sF,sG,sH,sI,sJ,sK,sL,sM,sN,sO,↓reduceIte,reduceCtorEq]
           repeat' first | (refine Cn (fun h=>?_) (fun h=>?_) <;> simp (disch:=(first | omega | (simp only [List.length_set]; omega))) only [h,Cz,A1,A0,Bl,Cc,Dq,hSf,hSt,Hw,Hs,List.set_set,List.length_set,amL,amT,sA,sB,sC,sD,sE,sF,sG,sH,sI,sJ,sK,sL,sM,sN,sO,↓reduceIte,reduceCtorEq]) | (refine Bo (fun h=>?_) (fun h=>?_) <;> simp (disch:=(first | omega | (simp only [List.length_set]; omega))) only [h,Cz,A1,A0,Bl,Cc,Dq,hSf,hSt,Hw,Hs,List.set_set,List.length_set,amL,amT,sA,sB,sC,sD,sE,sF,sG,sH,sI,sJ,sK,sL,sM,sN,sO,↓reduceIte,reduceCtorEq])
           all_goals
            skip
            refine hK19 _ ?_
            refine Ag rfl (fun h=>?_) (fun h=>?_)
            ·first
             | exact Bool.noConfusion h
             | ((try simp only [Bool.not_eq_true',decide_eq_true_eq,decide_eq_false_iff_not,Bool.and_eq_true,Bool.not_eq_false',Bool.not_not,decide_not,Bool.not_true,Bool.not_false] at h) ; exfalso ; omega)
             |skip
              try simp only [Bool.not_eq_true',decide_eq_true_eq,decide_eq_false_iff_not,Bool.and_eq_true,Bool.not_eq_false',Bool.not_not,decide_not,Bool.not_true,Bool.not_false] at h
              refine Aa fun K20 hK20=>?_
              refine Ab ?_
              simp (disch:=(first | omega | (simp only [List.length_set]; omega))) only [Cz,A1,A0,Bl,Cc,Dq,hSf,hSt,Hw,Hs,List.set_set,List.length_set,amL,amT,sA,sB,sC,sD,sE,sF,sG,sH,sI,sJ,sK,sL,sM,sN,sO,↓reduceIte,reduceCtorEq]
              refine hK20 _ ?_
              refine Ae ?_
              try simp (disch:=(first | omega | (simp only [List.length_set]; omega))) only [Cz,A1,A0,Bl,Cc,Dq,hSf,hSt,Hw,Hs,List.set_set,List.length_set,amL,amT,sA,sB,sC,sD,sE,sF,sG,sH,sI,sJ,sK,sL,sM,sN,sO,↓reduceIte,reduceCtorEq]
              all_goals first | (exfalso; omega) | exact doA hS (Lz (by omega) hs hvl (by omega)) rfl rfl | exact doA hS (Ao (by rw [Ci (by omega) hs hvl (by omega) (by omega)]; exact decide_eq_false (by omega))) rfl rfl | exact doA hS (Ao (by rw [B3 (by omega) (by omega) (by omega)]; exact decide_eq_false (by omega))) rfl rfl | exact doA hS (Ao (by rw [B1 (by omega) hs hvl]; exact decide_eq_false (by omega))) rfl rfl | exact doA hS (Ao (by rw [Bn (by omega) hs hvl hr hn.1,decide_eq_false (by omega),decide_eq_true (by omega),decide_eq_false (by omega)]; rfl)) rfl rfl | exact doB (by rw [Ci (by omega) hs hvl (by omega) (by omega),decide_eq_true (by omega)]) (by repeat' first | exact hSm | refine A4 ?_ (by dsimp only; omega)) (by simp only [List.map_set,hSp]; rfl) | exact doB (by rw [B1 (by omega) hs hvl,decide_eq_true (by omega)]) (by repeat' first | exact hSm | refine A4 ?_ (by dsimp only; omega)) (by simp only [List.map_set,hSp]; rfl) | exact doB (by rw [Bn (by omega) hs hvl hr hn.1,decide_eq_true (by omega)] <;> rfl) (by repeat' first | exact hSm | refine A4 ?_ (by dsimp only; omega)) (by simp only [List.map_set,hSp,prA,Int.sub_zero]) | exact doB (by rw [Bn (by omega) hs hvl hr hn.1,decide_eq_false (by omega),decide_eq_true (by omega),decide_eq_true (by omega)] <;> rfl) (by repeat' first | exact hSm | refine A4 ?_ (by dsimp only; omega)) (by simp only [List.map_set,hSp,prA,Int.sub_zero] <;> rw [show (A8 v s.frm.toNat).g - n=0 by omega]) | exact doB (by rw [B3 (by omega) (by omega) (by omega),decide_eq_true (by omega)]) (by repeat' first | exact hSm | refine A4 ?_ (by dsimp only; omega)) (by simp only [List.map_set,hSp]; rw [B2 (k:=s.frm.toNat) (by omega) (by unfold prA; dsimp only; rw [show n=0 by omega]; simp),B2 (k:=s.to.toNat) (by omega) (by unfold prA; dsimp only; rw [show n=0 by omega]; simp)]) | trace_state
            ·first
             | exact Bool.noConfusion h
             | ((try simp only [Bool.not_eq_true',decide_eq_true_eq,decide_eq_false_iff_not,Bool.and_eq_true,Bool.not_eq_false',Bool.not_not,decide_not,Bool.not_true,Bool.not_false] at h) ; exfalso ; omega)
             |skip
              try simp only [Bool.not_eq_true',decide_eq_true_eq,decide_eq_false_iff_not,Bool.and_eq_true,Bool.not_eq_false',Bool.not_not,decide_not,Bool.not_true,Bool.not_false] at h
              refine Ah ?_
              refine hK12 _ ?_
              refine Aa fun K21 hK21=>?_
              refine Kl 14 rfl ?_
              simp only [Mv,R7,AV.frz,AO.frz,AV.frz.frzL,List.map_cons,List.map_nil,Nat.reduceEqDiff,if_false,if_true,Nat.le_refl,List.length_map,List.length_set,reduceIte]
              rw [List.take_of_length_le (by simp)]
              refine Ab ?_
              simp (disch:=(first | omega | (simp only [List.length_set]; omega))) only [Cz,A1,A0,Bl,Cc,Dq,hSf,hSt,Hw,Hs,List.set_set,List.length_set,amL,amT,sA,sB,sC,sD,sE,sF,sG,sH,sI,sJ,sK,sL,sM,sN,sO,↓reduceIte,reduceCtorEq]
              refine Al (by kernel_rfl) rfl (Gj _ (by simp only [List.length_set]; omega) (by repeat' first | exact hSm | refine A4 ?_ (by dsimp only; omega))) (by first | exact .inl rfl | exact .inr (.inl rfl)) ?_
              simp (disch:=(first | omega | (simp only [List.length_set]; omega))) only [Cz,A1,A0,Bl,Cc,Dq,hSf,hSt,Hw,Hs,List.set_set,List.length_set,amL,amT,sA,sB,sC,sD,sE,sF,sG,sH,sI,sJ,sK,sL,sM,sN,sO,↓reduceIte,reduceCtorEq]
              refine hK21 _ ?_
              refine Ae ?_
              try simp (disch:=(first | omega | (simp only [List.length_set]; omega))) only [Cz,A1,A0,Bl,Cc,Dq,hSf,hSt,Hw,Hs,List.set_set,List.length_set,amL,amT,sA,sB,sC,sD,sE,sF,sG,sH,sI,sJ,sK,sL,sM,sN,sO,↓reduceIte,reduceCtorEq]
              all_goals first | (exfalso; omega) | exact doA hS (Lz (by omega) hs hvl (by omega)) rfl rfl | exact doA hS (Ao (by rw [Ci (by omega) hs hvl (by omega) (by omega)]; exact decide_eq_false (by omega))) rfl rfl | exact doA hS (Ao (by rw [B3 (by omega) (by omega) (by omega)]; exact decide_eq_false (by omega))) rfl rfl | exact doA hS (Ao (by rw [B1 (by omega) hs hvl]; exact decide_eq_false (by omega))) rfl rfl | exact doA hS (Ao (by rw [Bn (by omega) hs hvl hr hn.1,decide_eq_false (by omega),decide_eq_true (by omega),decide_eq_false (by omega)]; rfl)) rfl rfl | exact doB (by rw [Ci (by omega) hs hvl (by omega) (by omega),decide_eq_true (by omega)]) (by repeat' first | exact hSm | refine A4 ?_ (by dsimp only; omega)) (by simp only [List.map_set,hSp]; rfl) | exact doB (by rw [B1 (by omega) hs hvl,decide_eq_true (by omega)]) (by repeat' first | exact hSm | refine A4 ?_ (by dsimp only; omega)) (by simp only [List.map_set,hSp]; rfl) | exact doB (by rw [Bn (by omega) hs hvl hr hn.1,decide_eq_true (by omega)] <;> rfl) (by repeat' first | exact hSm | refine A4 ?_ (by dsimp only; omega)) (by simp only [List.map_set,hSp,prA,Int.sub_zero]) | exact doB (by rw [Bn (by omega) hs hvl hr hn.1,decide_eq_false (by omega),decide_eq_true (by omega),decide_eq_true (by omega)] <;> rfl) (by repeat' first | exact hSm | refine A4 ?_ (by dsimp only; omega)) (by simp only [List.map_set,hSp,prA,Int.sub_zero] <;> rw [show (A8 v s.frm.toNat).g - n=0 by omega]) | exact doB (by rw [B3 (by omega) (by omega) (by omega),decide_eq_true (by omega)]) (by repeat' first | exact hSm | refine A4 ?_ (by dsimp only; omega)) (by simp only [List.map_set,hSp]; rw [B2 (k:=s.frm.toNat) (by omega) (by unfold prA; dsimp only; rw [show n=0 by omega]; simp),B2 (k:=s.to.toNat) (by omega) (by unfold prA; dsimp only; rw [show n=0 by omega]; simp)]) | trace_state
       ·first
        | exact Bool.noConfusion h
        | ((try simp only [decide_eq_false_iff_not] at h) ; exfalso ; omega)
        |skip
         try simp only [decide_eq_false_iff_not] at h
         refine Ah ?_
         refine hK9 _ ?_
         refine Aa fun K22 hK22=>?_
         refine Ab ?_
         simp (disch:=(first | omega | (simp only [List.length_set]; omega))) only [A1,Bl,hSf,Hw,Hs,amL,amT,sA,sE,sF,↓reduceIte,reduceCtorEq]
         refine hK22 _ ?_
         refine Ab ?_
         simp (disch:=(first | omega | (simp only [List.length_set]; omega))) only [A1,Bl,Cc,List.set_set,List.length_set,amL,amT,sA,sB,sE,sF,↓reduceIte,reduceCtorEq]
         refine hK4 _ ?_
         refine Aa fun K23 hK23=>?_
         refine Aa fun K24 hK24=>?_
         refine Ab ?_
         simp (disch:=(first | omega | (simp only [List.length_set]; omega))) only [amL,amT,sA,sF,↓reduceIte,reduceCtorEq]
         refine hK24 _ ?_
         refine Ag rfl (fun h=>?_) (fun h=>?_)
         ·first
          | exact Bool.noConfusion h
          | ((try simp only [Bool.not_eq_true',decide_eq_false_iff_not,decide_not] at h) ; exfalso ; omega)
          |skip
           try simp only [Bool.not_eq_true',decide_eq_false_iff_not,decide_not] at h
           refine Aa fun K25 hK25=>?_
           refine Ab ?_
           simp (disch:=(first | omega | (simp only [List.length_set]; omega))) only [A1,Bl,Dq,hSt,Hw,Hs,List.length_set,amL,amT,sA,sE,sF,↓reduceIte,reduceCtorEq]
           refine hK25 _ ?_
           refine Aa fun K26 hK26=>?_
           refine Ab ?_
           simp (disch:=(first | omega | (simp only [List.length_set]; omega))) only [A1,Bl,Cc,List.set_set,List.length_set,amL,amT,sA,sB,sE,sF,↓reduceIte,reduceCtorEq]
           refine hK26 _ ?_
           refine Aa fun K27 hK27=>?_
           refine Bg (by kernel_rfl) (by kernel_rfl) ?_
           simp (disch:=(first | omega | (simp only [List.length_set]; omega))) only [A1,A0,Cc,List.length_set,amL,amT,sA,sB,sF,↓reduceIte,reduceCtorEq]
           refine hK27 _ ?_
           refine Ag rfl (fun h=>?_) (fun h=>?_)
           ·first
            | exact Bool.noConfusion h
            | ((try simp only [decide_eq_true_eq] at h) ; exfalso ; omega)
            |skip
             try simp only [decide_eq_true_eq] at h
             refine Aa fun K28 hK28=>?_
             refine Ab ?_
             simp (disch:=(first | omega | (simp only [List.length_set]; omega))) only [amL,sA,sF,↓reduceIte,reduceCtorEq]
             refine hK28 _ ?_
             refine Ae ?_
             try simp (disch:=(first | omega | (simp only [List.length_set]; omega))) only [amL,sF,↓reduceIte]
             all_goals first | (exfalso; omega) | exact doA hS (Lz (by omega) hs hvl (by omega)) rfl rfl | exact doA hS (Ao (by rw [Ci (by omega) hs hvl (by omega) (by omega)]; exact decide_eq_false (by omega))) rfl rfl | exact doA hS (Ao (by rw [B3 (by omega) (by omega) (by omega)]; exact decide_eq_false (by omega))) rfl rfl | exact doA hS (Ao (by rw [B1 (by omega) hs hvl]; exact decide_eq_false (by omega))) rfl rfl | exact doA hS (Ao (by rw [Bn (by omega) hs hvl hr hn.1,decide_eq_false (by omega),decide_eq_true (by omega),decide_eq_false (by omega)]; rfl)) rfl rfl | exact doB (by rw [Ci (by omega) hs hvl (by omega) (by omega),decide_eq_true (by omega)]) (by repeat' first | exact hSm | refine A4 ?_ (by dsimp only; omega)) (by simp only [List.map_set,hSp]; rfl) | exact doB (by rw [B1 (by omega) hs hvl,decide_eq_true (by omega)]) (by repeat' first | exact hSm | refine A4 ?_ (by dsimp only; omega)) (by simp only [List.map_set,hSp]; rfl) | exact doB (by rw [Bn (by omega) hs hvl hr hn.1,decide_eq_true (by omega)] <;> rfl) (by repeat' first | exact hSm | refine A4 ?_ (by dsimp only; omega)) (by simp only [List.map_set,hSp,prA,Int.sub_zero]) | exact doB (by rw [Bn (by omega) hs hvl hr hn.1,decide_eq_false (by omega),decide_eq_true (by omega),decide_eq_true (by omega)] <;> rfl) (by repeat' first | exact hSm | refine A4 ?_ (by dsimp only; omega)) (by simp only [List.map_set,hSp,prA,Int.sub_zero] <;> rw [show (A8 v s.frm.toNat).g - n=0 by omega]) | exact doB (by rw [B3 (by omega) (by omega) (by omega),decide_eq_true (by omega)]) (by repeat' first | exact hSm | refine A4 ?_ (by dsimp only; omega)) (by simp only [List.map_set,hSp]; rw [B2 (k:=s.frm.toNat) (by omega) (by unfold prA; dsimp only; rw [show n=0 by omega]; simp),B2 (k:=s.to.toNat) (by omega) (by unfold prA; dsimp only; rw [show n=0 by omega]; simp)]) | trace_state
           ·first
            | exact Bool.noConfusion h
            | ((try simp only [decide_eq_false_iff_not] at h) ; exfalso ; omega)
            |skip
             try simp only [decide_eq_false_iff_not] at h
             refine Ah ?_
             refine hK23 _ ?_
             refine Aa fun K29 hK29=>?_
             refine Kl 14 rfl ?_
             simp only [Mv,R7,AV.frz,AO.frz,AV.frz.frzL,List.map_cons,List.map_nil,Nat.reduceEqDiff,if_false,if_true,Nat.le_refl,List.length_map,List.length_set]
             rw [List.take_of_length_le (by simp)]
             refine Ab ?_
             simp (disch:=(first | omega | (simp only [List.length_set]; omega))) only [amL,sA,sF,↓reduceIte]
             refine Al (by kernel_rfl) rfl (Gj _ (by simp only [List.length_set]; omega) (by repeat' first | exact hSm | refine A4 ?_ (by dsimp only; omega))) (by first | exact .inl rfl | exact .inr (.inl rfl)) ?_
             simp (disch:=(first | omega | (simp only [List.length_set]; omega))) only [amL,sA,↓reduceIte]
             refine hK29 _ ?_
             refine Ae ?_
             try simp (disch:=(first | omega | (simp only [List.length_set]; omega))) only [amL,sF,↓reduceIte]
             all_goals first | (exfalso; omega) | exact doA hS (Lz (by omega) hs hvl (by omega)) rfl rfl | exact doA hS (Ao (by rw [Ci (by omega) hs hvl (by omega) (by omega)]; exact decide_eq_false (by omega))) rfl rfl | exact doA hS (Ao (by rw [B3 (by omega) (by omega) (by omega)]; exact decide_eq_false (by omega))) rfl rfl | exact doA hS (Ao (by rw [B1 (by omega) hs hvl]; exact decide_eq_false (by omega))) rfl rfl | exact doA hS (Ao (by rw [Bn (by omega) hs hvl hr hn.1,decide_eq_false (by omega),decide_eq_true (by omega),decide_eq_false (by omega)]; rfl)) rfl rfl | exact doB (by rw [Ci (by omega) hs hvl (by omega) (by omega),decide_eq_true (by omega)]) (by repeat' first | exact hSm | refine A4 ?_ (by dsimp only; omega)) (by simp only [List.map_set,hSp]; rfl) | exact doB (by rw [B1 (by omega) hs hvl,decide_eq_true (by omega)]) (by repeat' first | exact hSm | refine A4 ?_ (by dsimp only; omega)) (by simp only [List.map_set,hSp]; rfl) | exact doB (by rw [Bn (by omega) hs hvl hr hn.1,decide_eq_true (by omega)] <;> rfl) (by repeat' first | exact hSm | refine A4 ?_ (by dsimp only; omega)) (by simp only [List.map_set,hSp,prA,Int.sub_zero]) | exact doB (by rw [Bn (by omega) hs hvl hr hn.1,decide_eq_false (by omega),decide_eq_true (by omega),decide_eq_true (by omega)] <;> rfl) (by repeat' first | exact hSm | refine A4 ?_ (by dsimp only; omega)) (by simp only [List.map_set,hSp,prA,Int.sub_zero] <;> rw [show (A8 v s.frm.toNat).g - n=0 by omega]) | exact doB (by rw [B3 (by omega) (by omega) (by omega),decide_eq_true (by omega)]) (by repeat' first | exact hSm | refine A4 ?_ (by dsimp only; omega)) (by simp only [List.map_set,hSp]; rw [B2 (k:=s.frm.toNat) (by omega) (by unfold prA; dsimp only; rw [show n=0 by omega]; simp),B2 (k:=s.to.toNat) (by omega) (by unfold prA; dsimp only; rw [show n=0 by omega]; simp)]) | trace_state
         ·first
          | exact Bool.noConfusion h
          | ((try simp only [decide_eq_true_eq,Bool.not_eq_false',decide_not] at h) ; exfalso ; omega)
          |skip
           try simp only [decide_eq_true_eq,Bool.not_eq_false',decide_not] at h
           refine Aa fun K30 hK30=>?_
           refine Ab ?_
           simp (disch:=(first | omega | (simp only [List.length_set]; omega))) only [A1,Cc,List.length_set,amL,amT,sA,sF,↓reduceIte,reduceCtorEq]
           repeat' first | (refine Cn (fun h=>?_) (fun h=>?_) <;> simp (disch:=(first | omega | (simp only [List.length_set]; omega))) only [h,A1,Cc,List.length_set,amL,amT,sA,sF,↓reduceIte,reduceCtorEq]) | (refine Bo (fun h=>?_) (fun h=>?_) <;> simp (disch:=(first | omega | (simp only [List.length_set]; omega))) only [h,Cz,A1,A0,Bl,Cc,Dq,hSf,hSt,Hw,Hs,List.set_set,List.length_set,amL,amT,sA,sB,sC,sD,sE,sF,sG,sH,sI,sJ,sK,sL,sM,sN,sO,↓reduceIte,reduceCtorEq])
           all_goals
            skip
            refine hK30 _ ?_
            refine Ag rfl (fun h=>?_) (fun h=>?_)
            ·first
             | exact Bool.noConfusion h
             | ((try simp only [decide_eq_true_eq] at h) ; exfalso ; omega)
             |skip
              try simp only [decide_eq_true_eq] at h
              refine Aa fun K31 hK31=>?_
              refine Ab ?_
              simp (disch:=(first | omega | (simp only [List.length_set]; omega))) only [amL,sA,sF,↓reduceIte,reduceCtorEq]
              refine hK31 _ ?_
              refine Ae ?_
              try simp (disch:=(first | omega | (simp only [List.length_set]; omega))) only [amL,sF,↓reduceIte]
              all_goals first | (exfalso; omega) | exact doA hS (Lz (by omega) hs hvl (by omega)) rfl rfl | exact doA hS (Ao (by rw [Ci (by omega) hs hvl (by omega) (by omega)]; exact decide_eq_false (by omega))) rfl rfl | exact doA hS (Ao (by rw [B3 (by omega) (by omega) (by omega)]; exact decide_eq_false (by omega))) rfl rfl | exact doA hS (Ao (by rw [B1 (by omega) hs hvl]; exact decide_eq_false (by omega))) rfl rfl | exact doA hS (Ao (by rw [Bn (by omega) hs hvl hr hn.1,decide_eq_false (by omega),decide_eq_true (by omega),decide_eq_false (by omega)]; rfl)) rfl rfl | exact doB (by rw [Ci (by omega) hs hvl (by omega) (by omega),decide_eq_true (by omega)]) (by repeat' first | exact hSm | refine A4 ?_ (by dsimp only; omega)) (by simp only [List.map_set,hSp]; rfl) | exact doB (by rw [B1 (by omega) hs hvl,decide_eq_true (by omega)]) (by repeat' first | exact hSm | refine A4 ?_ (by dsimp only; omega)) (by simp only [List.map_set,hSp]; rfl) | exact doB (by rw [Bn (by omega) hs hvl hr hn.1,decide_eq_true (by omega)] <;> rfl) (by repeat' first | exact hSm | refine A4 ?_ (by dsimp only; omega)) (by simp only [List.map_set,hSp,prA,Int.sub_zero]) | exact doB (by rw [Bn (by omega) hs hvl hr hn.1,decide_eq_false (by omega),decide_eq_true (by omega),decide_eq_true (by omega)] <;> rfl) (by repeat' first | exact hSm | refine A4 ?_ (by dsimp only; omega)) (by simp only [List.map_set,hSp,prA,Int.sub_zero] <;> rw [show (A8 v s.frm.toNat).g - n=0 by omega]) | exact doB (by rw [B3 (by omega) (by omega) (by omega),decide_eq_true (by omega)]) (by repeat' first | exact hSm | refine A4 ?_ (by dsimp only; omega)) (by simp only [List.map_set,hSp]; rw [B2 (k:=s.frm.toNat) (by omega) (by unfold prA; dsimp only; rw [show n=0 by omega]; simp),B2 (k:=s.to.toNat) (by omega) (by unfold prA; dsimp only; rw [show n=0 by omega]; simp)]) | trace_state
            ·first
             | exact Bool.noConfusion h
             | ((try simp only [decide_eq_false_iff_not] at h) ; exfalso ; omega)
             |skip
              try simp only [decide_eq_false_iff_not] at h
              refine Ah ?_
              refine hK23 _ ?_
              refine Aa fun K32 hK32=>?_
              refine Kl 14 rfl ?_
              simp only [Mv,R7,AV.frz,AO.frz,AV.frz.frzL,List.map_cons,List.map_nil,Nat.reduceEqDiff,if_false,if_true,Nat.le_refl,List.length_map,List.length_set]
              rw [List.take_of_length_le (by simp)]
              refine Ab ?_
              simp (disch:=(first | omega | (simp only [List.length_set]; omega))) only [amL,sA,sF,↓reduceIte]
              refine Al (by kernel_rfl) rfl (Gj _ (by simp only [List.length_set]; omega) (by repeat' first | exact hSm | refine A4 ?_ (by dsimp only; omega))) (by first | exact .inl rfl | exact .inr (.inl rfl)) ?_
              simp (disch:=(first | omega | (simp only [List.length_set]; omega))) only [amL,sA,↓reduceIte]
              refine hK32 _ ?_
              refine Ae ?_
              try simp (disch:=(first | omega | (simp only [List.length_set]; omega))) only [amL,sF,↓reduceIte]
              all_goals first | (exfalso; omega) | exact doA hS (Lz (by omega) hs hvl (by omega)) rfl rfl | exact doA hS (Ao (by rw [Ci (by omega) hs hvl (by omega) (by omega)]; exact decide_eq_false (by omega))) rfl rfl | exact doA hS (Ao (by rw [B3 (by omega) (by omega) (by omega)]; exact decide_eq_false (by omega))) rfl rfl | exact doA hS (Ao (by rw [B1 (by omega) hs hvl]; exact decide_eq_false (by omega))) rfl rfl | exact doA hS (Ao (by rw [Bn (by omega) hs hvl hr hn.1,decide_eq_false (by omega),decide_eq_true (by omega),decide_eq_false (by omega)]; rfl)) rfl rfl | exact doB (by rw [Ci (by omega) hs hvl (by omega) (by omega),decide_eq_true (by omega)]) (by repeat' first | exact hSm | refine A4 ?_ (by dsimp only; omega)) (by simp only [List.map_set,hSp]; rfl) | exact doB (by rw [B1 (by omega) hs hvl,decide_eq_true (by omega)]) (by repeat' first | exact hSm | refine A4 ?_ (by dsimp only; omega)) (by simp only [List.map_set,hSp]; rfl) | exact doB (by rw [Bn (by omega) hs hvl hr hn.1,decide_eq_true (by omega)] <;> rfl) (by repeat' first | exact hSm | refine A4 ?_ (by dsimp only; omega)) (by simp only [List.map_set,hSp,prA,Int.sub_zero]) | exact doB (by rw [Bn (by omega) hs hvl hr hn.1,decide_eq_false (by omega),decide_eq_true (by omega),decide_eq_true (by omega)] <;> rfl) (by repeat' first | exact hSm | refine A4 ?_ (by dsimp only; omega)) (by simp only [List.map_set,hSp,prA,Int.sub_zero] <;> rw [show (A8 v s.frm.toNat).g - n=0 by omega]) | exact doB (by rw [B3 (by omega) (by omega) (by omega),decide_eq_true (by omega)]) (by repeat' first | exact hSm | refine A4 ?_ (by dsimp only; omega)) (by simp only [List.map_set,hSp]; rw [B2 (k:=s.frm.toNat) (by omega) (by unfold prA; dsimp only; rw [show n=0 by omega]; simp),B2 (k:=s.to.toNat) (by omega) (by unfold prA; dsimp only; rw [show n=0 by omega]; simp)]) | trace_state
  ·first
   | exact Bool.noConfusion h
   | ((try simp only [decide_eq_true_eq,Bool.not_eq_false',decide_not] at h) ; exfalso ; omega)
   |skip
    try simp only [decide_eq_true_eq,Bool.not_eq_false',decide_not] at h
    refine Ah ?_
    refine hK4 _ ?_
    refine Aa fun K33 hK33=>?_
    refine Aa fun K34 hK34=>?_
    refine Ab ?_
    simp (disch:=(first | omega | (simp only [List.length_set]; omega))) only [amL,amT,sA,sF,↓reduceIte,reduceCtorEq]
    refine hK34 _ ?_
    refine Ag rfl (fun h=>?_) (fun h=>?_)
    ·first
     | exact Bool.noConfusion h
     | ((try simp only [Bool.not_eq_true',decide_eq_false_iff_not,decide_not] at h) ; exfalso ; omega)
     |skip
      try simp only [Bool.not_eq_true',decide_eq_false_iff_not,decide_not] at h
      refine Aa fun K35 hK35=>?_
      refine Ab ?_
      simp (disch:=(first | omega | (simp only [List.length_set]; omega))) only [A1,Bl,hSt,Hw,Hs,amL,amT,sA,sE,sF,↓reduceIte,reduceCtorEq]
      refine hK35 _ ?_
      refine Aa fun K36 hK36=>?_
      refine Ab ?_
      simp (disch:=(first | omega | (simp only [List.length_set]; omega))) only [A1,Bl,Cc,List.set_set,List.length_set,amL,amT,sA,sB,sE,sF,↓reduceIte,reduceCtorEq]
      refine hK36 _ ?_
      refine Aa fun K37 hK37=>?_
      refine Bg (by kernel_rfl) (by kernel_rfl) ?_
      simp (disch:=(first | omega | (simp only [List.length_set]; omega))) only [A1,A0,Cc,List.length_set,amL,amT,sA,sB,sF,↓reduceIte,reduceCtorEq]
      refine hK37 _ ?_
      refine Ag rfl (fun h=>?_) (fun h=>?_)
      ·first
       | exact Bool.noConfusion h
       | ((try simp only [decide_eq_true_eq] at h) ; exfalso ; omega)
       |skip
        try simp only [decide_eq_true_eq] at h
        refine Aa fun K38 hK38=>?_
        refine Ab ?_
        simp (disch:=(first | omega | (simp only [List.length_set]; omega))) only [amL,sA,sF,↓reduceIte,reduceCtorEq]
        refine hK38 _ ?_
        refine Ae ?_
        try simp (disch:=(first | omega | (simp only [List.length_set]; omega))) only [amL,sF,↓reduceIte]
        all_goals first | (exfalso; omega) | exact doA hS (Lz (by omega) hs hvl (by omega)) rfl rfl | exact doA hS (Ao (by rw [Ci (by omega) hs hvl (by omega) (by omega)]; exact decide_eq_false (by omega))) rfl rfl | exact doA hS (Ao (by rw [B3 (by omega) (by omega) (by omega)]; exact decide_eq_false (by omega))) rfl rfl | exact doA hS (Ao (by rw [B1 (by omega) hs hvl]; exact decide_eq_false (by omega))) rfl rfl | exact doA hS (Ao (by rw [Bn (by omega) hs hvl hr hn.1,decide_eq_false (by omega),decide_eq_true (by omega),decide_eq_false (by omega)]; rfl)) rfl rfl | exact doB (by rw [Ci (by omega) hs hvl (by omega) (by omega),decide_eq_true (by omega)]) (by repeat' first | exact hSm | refine A4 ?_ (by dsimp only; omega)) (by simp only [List.map_set,hSp]; rfl) | exact doB (by rw [B1 (by omega) hs hvl,decide_eq_true (by omega)]) (by repeat' first | exact hSm | refine A4 ?_ (by dsimp only; omega)) (by simp only [List.map_set,hSp]; rfl) | exact doB (by rw [Bn (by omega) hs hvl hr hn.1,decide_eq_true (by omega)] <;> rfl) (by repeat' first | exact hSm | refine A4 ?_ (by dsimp only; omega)) (by simp only [List.map_set,hSp,prA,Int.sub_zero]) | exact doB (by rw [Bn (by omega) hs hvl hr hn.1,decide_eq_false (by omega),decide_eq_true (by omega),decide_eq_true (by omega)] <;> rfl) (by repeat' first | exact hSm | refine A4 ?_ (by dsimp only; omega)) (by simp only [List.map_set,hSp,prA,Int.sub_zero] <;> rw [show (A8 v s.frm.toNat).g - n=0 by omega]) | exact doB (by rw [B3 (by omega) (by omega) (by omega),decide_eq_true (by omega)]) (by repeat' first | exact hSm | refine A4 ?_ (by dsimp only; omega)) (by simp only [List.map_set,hSp]; rw [B2 (k:=s.frm.toNat) (by omega) (by unfold prA; dsimp only; rw [show n=0 by omega]; simp),B2 (k:=s.to.toNat) (by omega) (by unfold prA; dsimp only; rw [show n=0 by omega]; simp)]) | trace_state
      ·first
       | exact Bool.noConfusion h
       | ((try simp only [decide_eq_false_iff_not] at h) ; exfalso ; omega)
       |skip
        try simp only [decide_eq_false_iff_not] at h
        refine Ah ?_
        refine hK33 _ ?_
        refine Aa fun K39 hK39=>?_
        refine Kl 14 rfl ?_
        simp only [Mv,R7,AV.frz,AO.frz,AV.frz.frzL,List.map_cons,List.map_nil,Nat.reduceEqDiff,if_false,if_true,Nat.le_refl,List.length_map,List.length_set]
        rw [List.take_of_length_le (by simp)]
        refine Ab ?_
        simp (disch:=(first | omega | (simp only [List.length_set]; omega))) only [amL,sA,sF,↓reduceIte]
        refine Al (by kernel_rfl) rfl (Gj _ (by simp only [List.length_set]; omega) (by repeat' first | exact hSm | refine A4 ?_ (by dsimp only; omega))) (by first | exact .inl rfl | exact .inr (.inl rfl)) ?_
        simp (disch:=(first | omega | (simp only [List.length_set]; omega))) only [amL,sA,↓reduceIte]
        refine hK39 _ ?_
        refine Ae ?_
        try simp (disch:=(first | omega | (simp only [List.length_set]; omega))) only [amL,sF,↓reduceIte]
        all_goals first | (exfalso; omega) | exact doA hS (Lz (by omega) hs hvl (by omega)) rfl rfl | exact doA hS (Ao (by rw [Ci (by omega) hs hvl (by omega) (by omega)]; exact decide_eq_false (by omega))) rfl rfl | exact doA hS (Ao (by rw [B3 (by omega) (by omega) (by omega)]; exact decide_eq_false (by omega))) rfl rfl | exact doA hS (Ao (by rw [B1 (by omega) hs hvl]; exact decide_eq_false (by omega))) rfl rfl | exact doA hS (Ao (by rw [Bn (by omega) hs hvl hr hn.1,decide_eq_false (by omega),decide_eq_true (by omega),decide_eq_false (by omega)]; rfl)) rfl rfl | exact doB (by rw [Ci (by omega) hs hvl (by omega) (by omega),decide_eq_true (by omega)]) (by repeat' first | exact hSm | refine A4 ?_ (by dsimp only; omega)) (by simp only [List.map_set,hSp]; rfl) | exact doB (by rw [B1 (by omega) hs hvl,decide_eq_true (by omega)]) (by repeat' first | exact hSm | refine A4 ?_ (by dsimp only; omega)) (by simp only [List.map_set,hSp]; rfl) | exact doB (by rw [Bn (by omega) hs hvl hr hn.1,decide_eq_true (by omega)] <;> rfl) (by repeat' first | exact hSm | refine A4 ?_ (by dsimp only; omega)) (by simp only [List.map_set,hSp,prA,Int.sub_zero]) | exact doB (by rw [Bn (by omega) hs hvl hr hn.1,decide_eq_false (by omega),decide_eq_true (by omega),decide_eq_true (by omega)] <;> rfl) (by repeat' first | exact hSm | refine A4 ?_ (by dsimp only; omega)) (by simp only [List.map_set,hSp,prA,Int.sub_zero] <;> rw [show (A8 v s.frm.toNat).g - n=0 by omega]) | exact doB (by rw [B3 (by omega) (by omega) (by omega),decide_eq_true (by omega)]) (by repeat' first | exact hSm | refine A4 ?_ (by dsimp only; omega)) (by simp only [List.map_set,hSp]; rw [B2 (k:=s.frm.toNat) (by omega) (by unfold prA; dsimp only; rw [show n=0 by omega]; simp),B2 (k:=s.to.toNat) (by omega) (by unfold prA; dsimp only; rw [show n=0 by omega]; simp)]) | trace_state
    ·first
     | exact Bool.noConfusion h
     | ((try simp only [decide_eq_true_eq,Bool.not_eq_false',decide_not] at h) ; exfalso ; omega)
     |skip
      try simp only [Bool.not_eq_true',decide_eq_true_eq,decide_eq_false_iff_not,Bool.and_eq_true,Bool.not_eq_false',Bool.not_not,decide_not,Bool.not_true,Bool.not_false] at h
      refine Aa fun K40 hK40=>?_
      refine Ab ?_
      simp (disch:=(first | omega | (simp only [List.length_set]; omega))) only [Cz,A1,A0,Bl,Cc,Dq,hSf,hSt,Hw,Hs,List.set_set,List.length_set,amL,amT,sA,sB,sC,sD,sE,sF,sG,sH,sI,sJ,sK,sL,sM,sN,sO,↓reduceIte,reduceCtorEq]
      repeat' first | (refine Cn (fun h=>?_) (fun h=>?_) <;> simp (disch:=(first | omega | (simp only [List.length_set]; omega))) only [h,Cz,A1,A0,Bl,Cc,Dq,hSf,hSt,Hw,Hs,List.set_set,List.length_set,amL,amT,sA,sB,sC,sD,sE,sF,sG,sH,sI,sJ,sK,sL,sM,sN,sO,↓reduceIte,reduceCtorEq]) | (refine Bo (fun h=>?_) (fun h=>?_) <;> simp (disch:=(first | omega | (simp only [List.length_set]; omega))) only [h,Cz,A1,A0,Bl,Cc,Dq,hSf,hSt,Hw,Hs,List.set_set,List.length_set,amL,amT,sA,sB,sC,sD,sE,sF,sG,sH,sI,sJ,sK,sL,sM,sN,sO,↓reduceIte,reduceCtorEq])
      all_goals
       skip
       refine hK40 _ ?_
       refine Ag rfl (fun h=>?_) (fun h=>?_)
       ·first
        | exact Bool.noConfusion h
        | ((try simp only [Bool.not_eq_true',decide_eq_true_eq,decide_eq_false_iff_not,Bool.and_eq_true,Bool.not_eq_false',Bool.not_not,decide_not,Bool.not_true,Bool.not_false] at h) ; exfalso ; omega)
        |skip
         try simp only [Bool.not_eq_true',decide_eq_true_eq,decide_eq_false_iff_not,Bool.and_eq_true,Bool.not_eq_false',Bool.not_not,decide_not,Bool.not_true,Bool.not_false] at h
         refine Aa fun K41 hK41=>?_
         refine Ab ?_
         simp (disch:=(first | omega | (simp only [List.length_set]; omega))) only [Cz,A1,A0,Bl,Cc,Dq,hSf,hSt,Hw,Hs,List.set_set,List.length_set,amL,amT,sA,sB,sC,sD,sE,sF,sG,sH,sI,sJ,sK,sL,sM,sN,sO,↓reduceIte,reduceCtorEq]
         refine hK41 _ ?_
         refine Ae ?_
         try simp (disch:=(first | omega | (simp only [List.length_set]; omega))) only [Cz,A1,A0,Bl,Cc,Dq,hSf,hSt,Hw,Hs,List.set_set,List.length_set,amL,amT,sA,sB,sC,sD,sE,sF,sG,sH,sI,sJ,sK,sL,sM,sN,sO,↓reduceIte,reduceCtorEq]
         all_goals first | (exfalso; omega) | exact doA hS (Lz (by omega) hs hvl (by omega)) rfl rfl | exact doA hS (Ao (by rw [Ci (by omega) hs hvl (by omega) (by omega)]; exact decide_eq_false (by omega))) rfl rfl | exact doA hS (Ao (by rw [B3 (by omega) (by omega) (by omega)]; exact decide_eq_false (by omega))) rfl rfl | exact doA hS (Ao (by rw [B1 (by omega) hs hvl]; exact decide_eq_false (by omega))) rfl rfl | exact doA hS (Ao (by rw [Bn (by omega) hs hvl hr hn.1,decide_eq_false (by omega),decide_eq_true (by omega),decide_eq_false (by omega)]; rfl)) rfl rfl | exact doB (by rw [Ci (by omega) hs hvl (by omega) (by omega),decide_eq_true (by omega)]) (by repeat' first | exact hSm | refine A4 ?_ (by dsimp only; omega)) (by simp only [List.map_set,hSp]; rfl) | exact doB (by rw [B1 (by omega) hs hvl,decide_eq_true (by omega)]) (by repeat' first | exact hSm | refine A4 ?_ (by dsimp only; omega)) (by simp only [List.map_set,hSp]; rfl) | exact doB (by rw [Bn (by omega) hs hvl hr hn.1,decide_eq_true (by omega)] <;> rfl) (by repeat' first | exact hSm | refine A4 ?_ (by dsimp only; omega)) (by simp only [List.map_set,hSp,prA,Int.sub_zero]) | exact doB (by rw [Bn (by omega) hs hvl hr hn.1,decide_eq_false (by omega),decide_eq_true (by omega),decide_eq_true (by omega)] <;> rfl) (by repeat' first | exact hSm | refine A4 ?_ (by dsimp only; omega)) (by simp only [List.map_set,hSp,prA,Int.sub_zero] <;> rw [show (A8 v s.frm.toNat).g - n=0 by omega]) | exact doB (by rw [B3 (by omega) (by omega) (by omega),decide_eq_true (by omega)]) (by repeat' first | exact hSm | refine A4 ?_ (by dsimp only; omega)) (by simp only [List.map_set,hSp]; rw [B2 (k:=s.frm.toNat) (by omega) (by unfold prA; dsimp only; rw [show n=0 by omega]; simp),B2 (k:=s.to.toNat) (by omega) (by unfold prA; dsimp only; rw [show n=0 by omega]; simp)]) | trace_state
       ·first
        | exact Bool.noConfusion h
        | ((try simp only [Bool.not_eq_true',decide_eq_true_eq,decide_eq_false_iff_not,Bool.and_eq_true,Bool.not_eq_false',Bool.not_not,decide_not,Bool.not_true,Bool.not_false] at h) ; exfalso ; omega)
        |skip
         try simp only [Bool.not_eq_true',decide_eq_true_eq,decide_eq_false_iff_not,Bool.and_eq_true,Bool.not_eq_false',Bool.not_not,decide_not,Bool.not_true,Bool.not_false] at h
         refine Ah ?_
         refine hK33 _ ?_
         refine Aa fun K42 hK42=>?_
         refine Kl 14 rfl ?_
         simp only [Mv,R7,AV.frz,AO.frz,AV.frz.frzL,List.map_cons,List.map_nil,Nat.reduceEqDiff,if_false,if_true,Nat.le_refl,List.length_map,List.length_set,reduceIte]
         rw [List.take_of_length_le (by simp)]
         refine Ab ?_
         simp (disch:=(first | omega | (simp only [List.length_set]; omega))) only [Cz,A1,A0,Bl,Cc,Dq,hSf,hSt,Hw,Hs,List.set_set,List.length_set,amL,amT,sA,sB,sC,sD,sE,sF,sG,sH,sI,sJ,sK,sL,sM,sN,sO,↓reduceIte,reduceCtorEq]
         refine Al (by kernel_rfl) rfl (Gj _ (by simp only [List.length_set]; omega) (by repeat' first | exact hSm | refine A4 ?_ (by dsimp only; omega))) (by first | exact .inl rfl | exact .inr (.inl rfl)) ?_
         simp (disch:=(first | omega | (simp only [List.length_set]; omega))) only [Cz,A1,A0,Bl,Cc,Dq,hSf,hSt,Hw,Hs,List.set_set,List.length_set,amL,amT,sA,sB,sC,sD,sE,sF,sG,sH,sI,sJ,sK,sL,sM,sN,sO,↓reduceIte,reduceCtorEq]
         refine hK42 _ ?_
         refine Ae ?_
         try simp (disch:=(first | omega | (simp only [List.length_set]; omega))) only [Cz,A1,A0,Bl,Cc,Dq,hSf,hSt,Hw,Hs,List.set_set,List.length_set,amL,amT,sA,sB,sC,sD,sE,sF,sG,sH,sI,sJ,sK,sL,sM,sN,sO,↓reduceIte,reduceCtorEq]
         all_goals first | (exfalso; omega) | exact doA hS (Lz (by omega) hs hvl (by omega)) rfl rfl | exact doA hS (Ao (by rw [Ci (by omega) hs hvl (by omega) (by omega)]; exact decide_eq_false (by omega))) rfl rfl | exact doA hS (Ao (by rw [B3 (by omega) (by omega) (by omega)]; exact decide_eq_false (by omega))) rfl rfl | exact doA hS (Ao (by rw [B1 (by omega) hs hvl]; exact decide_eq_false (by omega))) rfl rfl | exact doA hS (Ao (by rw [Bn (by omega) hs hvl hr hn.1,decide_eq_false (by omega),decide_eq_true (by omega),decide_eq_false (by omega)]; rfl)) rfl rfl | exact doB (by rw [Ci (by omega) hs hvl (by omega) (by omega),decide_eq_true (by omega)]) (by repeat' first | exact hSm | refine A4 ?_ (by dsimp only; omega)) (by simp only [List.map_set,hSp]; rfl) | exact doB (by rw [B1 (by omega) hs hvl,decide_eq_true (by omega)]) (by repeat' first | exact hSm | refine A4 ?_ (by dsimp only; omega)) (by simp only [List.map_set,hSp]; rfl) | exact doB (by rw [Bn (by omega) hs hvl hr hn.1,decide_eq_true (by omega)] <;> rfl) (by repeat' first | exact hSm | refine A4 ?_ (by dsimp only; omega)) (by simp only [List.map_set,hSp,prA,Int.sub_zero]) | exact doB (by rw [Bn (by omega) hs hvl hr hn.1,decide_eq_false (by omega),decide_eq_true (by omega),decide_eq_true (by omega)] <;> rfl) (by repeat' first | exact hSm | refine A4 ?_ (by dsimp only; omega)) (by simp only [List.map_set,hSp,prA,Int.sub_zero] <;> rw [show (A8 v s.frm.toNat).g - n=0 by omega]) | exact doB (by rw [B3 (by omega) (by omega) (by omega),decide_eq_true (by omega)]) (by repeat' first | exact hSm | refine A4 ?_ (by dsimp only; omega)) (by simp only [List.map_set,hSp]; rw [B2 (k:=s.frm.toNat) (by omega) (by unfold prA; dsimp only; rw [show n=0 by omega]; simp),B2 (k:=s.to.toNat) (by omega) (by unfold prA; dsimp only; rw [show n=0 by omega]; simp)]) | trace_state
theorem Bgv (b:Cx) (t:Tru) (hv:Ja b) (hl:C1 b t=true):Bj Tryz.prog 21 [avB b,avT t] (.tup [.p (.sl (stL (An3 b t).1)),bl (An3 b t).2]):=by
  refine A7 (v:=[]) (q:=[]) (N:=43) (rs:=[.tmp 4,.tmp 5]) Tryz.func21 rfl rfl rfl rfl rfl ?_
  have hnv:=hv.nv
  have hns:=hv.ns
  obtain ⟨p1,p2,p3,p4,p5⟩:=Cg hl
  obtain ⟨s1,s2,s3⟩:=F3 hv hl
  refine Aa fun K1 hK1=>?_
  refine Ab ?_
  simp (disch:=omega) only [amL,sA,sB,sF,↓reduceIte,reduceCtorEq]
  refine hK1 _ ?_
  refine Aa fun K2 hK2=>?_
  refine Ab ?_
  simp (disch:=omega) only [amL,amT,sA,sB,sF,↓reduceIte]
  repeat' first | (refine Al (by kernel_rfl) rfl (Aqt b t hv hl) (by first | exact .inl rfl | exact .inr (.inl rfl)) ?_ ; simp (disch:=omega) only [amL,sA,sF,↓reduceIte])
  refine hK2 _ ?_
  refine Aa fun K3 hK3=>?_
  refine Aa fun K4 hK4=>?_
  refine Ab ?_
  simp (disch:=omega) only [amL,sA]
  refine hK4 _ ?_
  refine Ak ?_
  skip
  refine A5 (α:=Nat × (List Liq × Bool)) (fun x=>⟨T [(2,.ptr 2 0),(3,.ptr 3 0),(6,.p (.sl (stL x.2.1))),(7,bl x.2.2),(8,i64 (x.1:Int))],O [(2,.cells (cB b)),(3,.cells (cT t))]⟩) (fun x=>b.ss.length - x.1) (fun x=>x.1≤b.ss.length∧OkN b.vs.length x.2.1∧(x.2.2=true→Vl b.vs x.2.1)∧Mq b.vs t.m (b.ss.drop x.1) x.1 x.2=An3 b t) (0,(Nq b.vs t.g t.d,Zg b.vs t.g)) ?_ ?_ (fun x hx5 K5 hK5=>?_)
  · exact ⟨by simp,Y6 hv hl,Ad8,rfl⟩
  · refine B0 ?_ ?_ ?_ ?_ <;> (try simp (disch:=omega) only [amL,sF,sG,↓reduceIte]); all_goals first | rfl | trace_state
  obtain ⟨k,v,is⟩:=x; dsimp only at hx5 ⊢; obtain ⟨hk,ho,hr,hp⟩:=hx5
  refine Aa fun K6 hK6=>?_
  refine Aa fun K7 hK7=>?_
  refine Ab ?_
  simp (disch:=omega) only [amL,amT,sA,sF,↓reduceIte,reduceCtorEq]
  repeat' first | (refine Cn (fun h=>?_) (fun h=>?_) <;> simp (disch:=omega) only [h,amL,sA,sF,↓reduceIte]) | (refine Bo (fun h=>?_) (fun h=>?_) <;> simp (disch:=omega) only [h,Eu,Be,amL,amT,sA,sB,sC,sD,sE,sF,sG,sH,sI,sJ,sK,sL,sM,sN,sO,↓reduceIte,reduceCtorEq])
  all_goals
   skip
   refine hK7 _ ?_
   refine Ag rfl (fun h=>?_) (fun h=>?_)
   ·first
    | exact Bool.noConfusion h
    |skip
     try simp only [Bool.not_eq_true',decide_eq_true_eq,decide_eq_false_iff_not,Bool.and_eq_true,Bool.not_eq_false',Bool.not_not,decide_not,Bool.not_true,Bool.not_false] at h
     refine Ah ?_
     refine hK6 _ ?_
     refine Aa fun K8 hK8=>?_
     refine Ak ?_
     refine Bg (by kernel_rfl) (by kernel_rfl) ?_
     have his:is=true:=by first | assumption
     have hst:=hv.stp (k:=k) (by omega)
     have hmk:=s3 k
     simp (disch:=omega) only [Eu,Be,amL,amT,sA,sB,sF,↓reduceIte,reduceCtorEq]
     repeat' first | (refine Al (by kernel_rfl) rfl (Bck b v (b.ss.getD k default) (t.m.getD k 0) hv ho (hr his) hst hmk) (by first | exact .inl rfl | exact .inr (.inl rfl)) ?_ ; simp (disch:=omega) only [amL,sA,sF,↓reduceIte])
     refine hK8 _ ?_
     refine Ab ?_
     simp (disch:=omega) only [amL,amT,sA,sF,↓reduceIte]
     refine hK5 (k+1,doX b.vs v (b.ss.getD k default) (t.m.getD k 0)) _ ?_ ?_ (B0 ?_ ?_ ?_ ?_)
     all_goals (try simp (disch:=omega) only [amL,sF,sG,↓reduceIte])
     all_goals first | omega | exact ⟨by omega,Baa ho hnv hv.v hst hmk.1,fun _=>Aor (hr his) hst hmk.1 (ho.len hnv),Aht (by omega) his hp⟩ | trace_state
   ·first
    | exact Bool.noConfusion h
    |skip
     try simp only [] at h
     refine Bc ?_
     refine hK3 _ ?_
     refine Aa fun K9 hK9=>?_
     refine Ab ?_
     simp (disch:=omega) only [amL,sA,sF,↓reduceIte]
     refine hK9 _ ?_
     refine Ae ?_
     try simp (disch:=omega) only [amL,sF,↓reduceIte]
     all_goals first | (rw [Ak0 (by omega) hp]; done) | (rw [Ag5 (by omega) (by first | assumption | exact Bool.eq_false_iff.2 (by assumption)) hp]; done) | trace_state
theorem Aw3 (r:Rng):Bj Tryz.prog 27 [avR r] (avR r):=by
  refine A7 (v:=[]) (q:=[]) (N:=8) (rs:=[.cell 2 58]) Tryz.func27 rfl rfl rfl rfl rfl ?_
  refine Aa fun K1 hK1=>?_
  refine Ab ?_
  simp (disch:=omega) only [amL,amT,sA,sB,sF,↓reduceIte]
  refine hK1 _ ?_
  refine Aa fun K2 hK2=>?_
  refine Ab ?_
  simp (disch:=omega) only [amL,amT,sA,sB,sE,sF,↓reduceIte,reduceCtorEq]
  refine hK2 _ ?_
  refine Ae ?_
  try simp (disch:=omega) only [amL,amT,sB,sF,↓reduceIte]
  all_goals rfl
theorem Ase (l:List Int):((l.map fun n=>[iv n]).all fun c=>decide (c.length=1))=true:=by simp
theorem Abe (l:List Int) (hl:l.length < 1000000):Bj Tryz.prog 63 [isl l] (isl l):=by
  refine A7 (v:=[]) (q:=[]) (N:=6) (rs:=[.tmp 2]) Tryz.func63 rfl rfl rfl rfl rfl ?_
  refine Aa fun K1 hK1=>?_
  refine Ab ?_
  simp (disch:=omega) only [amL,sA]
  refine hK1 _ ?_
  refine Aa fun K2 hK2=>?_
  refine Ab ?_
  simp (disch:=omega) only [Ase,amL,amT,sA,sF,↓reduceIte,reduceCtorEq]
  refine hK2 _ ?_
  refine Ae ?_
  try simp (disch:=omega) only [amL,↓reduceIte]
  rw [show l.length=(l.map fun n=>[iv n]).length by simp,List.take_length]
theorem Anq (l:List Stp) (hl:l.length < 1000000):Bj Tryz.prog 36 [.p (slS l)] (.p (slS l)):=by
  refine A7 (v:=[]) (q:=[]) (N:=37) (rs:=[.tmp 2]) Tryz.func36 rfl rfl rfl rfl rfl ?_
  refine Aa fun K1 hK1=>?_
  refine Ab ?_
  simp (disch:=omega) only [amL,sA]
  refine hK1 _ ?_
  refine Aa fun K2 hK2=>?_
  refine Ab ?_
  simp (disch:=omega) only [amL,sA]
  refine hK2 _ ?_
  refine Aa fun K3 hK3=>?_
  refine Aa fun K4 hK4=>?_
  refine Ab ?_
  simp (disch:=omega) only [amL,sA]
  refine hK4 _ ?_
  refine Ak ?_
  refine He 35 5 3 (by decide) rfl rfl ?_
  refine A5 (α:=Nat) (fun k=>⟨T [(0,.p (slS l)),(3,.own 35 k),(4,i64 (k:Int))],O [(35,.arr 5 ((l.take k).map Qc))]⟩) (fun k=>l.length - k) (fun k=>k≤l.length) 0 ?_ ?_ (fun k hx5 K5 hK5=>?_)
  · exact Nat.zero_le _
  · refine B0 ?_ ?_ ?_ ?_ <;> (try simp (disch:=omega) only [amL,sF,↓reduceIte,reduceCtorEq]); all_goals first | rfl | trace_state
  have hk:=hx5
  refine Aa fun K6 hK6=>?_
  refine Aa fun K7 hK7=>?_
  refine Ab ?_
  simp (disch:=omega) only [amL,amT,sA,sF,↓reduceIte,reduceCtorEq]
  refine hK7 _ ?_
  refine Ag rfl (fun h=>?_) (fun h=>?_)
  ·first
   | exact Bool.noConfusion h
   |skip
    try simp only [decide_eq_true_eq] at h
    refine Ah ?_
    refine hK6 _ ?_
    refine Aa fun K8 hK8=>?_
    refine Ak ?_
    refine Bg (by kernel_rfl) (by kernel_rfl) ?_
    simp (disch:=omega) only [Eu,amL,amT,sA,sB,sF,↓reduceIte,reduceCtorEq]
    repeat' first | (refine Al (by kernel_rfl) rfl (Aw3 ⟨_,_⟩) (by first | exact .inl rfl | exact .inr (.inl rfl)) ?_ ; simp (disch:=omega) only [amL,amT,sA,sB,sC,sE,sF,↓reduceIte,reduceCtorEq])
    refine hK8 _ ?_
    refine Ab ?_
    simp (disch:=omega) only [amL,amT,sA,sF,↓reduceIte,reduceCtorEq]
    refine hK5 (k+1) _ ?_ ?_ (B0 ?_ ?_ ?_ ?_)
    all_goals (try simp (disch:=omega) only [amL,sF,↓reduceIte,reduceCtorEq])
    all_goals first | omega | exact (congrArg (AO.arr 5) (T5 default (by omega))).symm | trace_state
  ·first
   | exact Bool.noConfusion h
   |skip
    try simp only [decide_eq_false_iff_not] at h
    refine Bc ?_
    refine hK3 _ ?_
    refine Aa fun K9 hK9=>?_
    refine Ab ?_
    simp (disch:=omega) only [amL,sA,sF,↓reduceIte,reduceCtorEq]
    refine hK9 _ ?_
    refine Ae ?_
    try simp (disch:=omega) only [amL,↓reduceIte]
    rw [List.take_of_length_le (by simp; omega),List.take_of_length_le (by omega)]
theorem Bgs (b:Cx) (h1:b.vs.length < 1000000) (h2:b.ss.length < 1000000):Bj Tryz.prog 16 [avB b] (avB b):=by
  refine A7 (v:=[]) (q:=[]) (N:=37) (rs:=[.cell 2 38]) Tryz.func16 rfl rfl rfl rfl rfl ?_
  refine Aa fun K1 hK1=>?_
  refine Ab ?_
  simp (disch:=omega) only [amL,amT,sA,sB,sF,↓reduceIte]
  refine hK1 _ ?_
  refine Aa fun K2 hK2=>?_
  refine Ab ?_
  simp (disch:=omega) only [amL,amT,sA,sB,sF,↓reduceIte]
  refine hK2 _ ?_
  refine Aa fun K3 hK3=>?_
  refine Aa fun K4 hK4=>?_
  refine Ab ?_
  simp (disch:=omega) only [amL,sA]
  refine hK4 _ ?_
  refine Ak ?_
  refine Ac3 30 5 3 0 (by decide) rfl rfl rfl ?_
  refine A5 (α:=Nat) (fun k=>⟨T [(1,.ptr 1 0),(2,.ptr 2 0),(3,.ptr 3 0),(4,i64 (k:Int))],O [(1,.cells (cB b)),(2,.cells [Dk,Dk]),(3,.cells [.own 30 k,Dk]),(30,.arr 5 ((b.vs.take k).map Aex))]⟩) (fun k=>b.vs.length - k) (fun k=>k≤b.vs.length) 0 ?_ ?_ (fun k hx5 K5 hK5=>?_)
  · exact Nat.zero_le _
  · refine B0 ?_ ?_ ?_ ?_ <;> (try simp (disch:=omega) only [amL,sF,sG,↓reduceIte]); all_goals first | rfl | trace_state
  have hk:=hx5
  refine Aa fun K6 hK6=>?_
  refine Aa fun K7 hK7=>?_
  refine Ab ?_
  simp (disch:=omega) only [amL,amT,sA,sF,↓reduceIte,reduceCtorEq]
  refine hK7 _ ?_
  refine Ag rfl (fun h=>?_) (fun h=>?_)
  ·first
   | exact Bool.noConfusion h
   |skip
    try simp only [decide_eq_true_eq] at h
    refine Ah ?_
    refine hK6 _ ?_
    refine Aa fun K8 hK8=>?_
    refine Ak ?_
    refine Aa fun K9 hK9=>?_
    refine Ab ?_
    simp (disch:=omega) only [A0,amL,amT,sA,sB,sF,↓reduceIte,reduceCtorEq]
    refine hK9 _ ?_
    refine Bg (by kernel_rfl) (by kernel_rfl) ?_
    simp (disch:=omega) only [amL,amT,sA,sB,sE,sF,↓reduceIte,reduceCtorEq]
    repeat' first | (refine Al (by kernel_rfl) rfl (Aw3 ⟨_,_⟩) (by first | exact .inl rfl | exact .inr (.inl rfl)) ?_ ; simp (disch:=omega) only [amL,amT,sA,sB,sC,sE,sF,↓reduceIte,reduceCtorEq])
    refine hK8 _ ?_
    refine Ab ?_
    simp (disch:=omega) only [amL,amT,sA,sF,↓reduceIte]
    refine hK5 (k+1) _ ?_ ?_ (B0 ?_ ?_ ?_ ?_)
    all_goals (try simp (disch:=omega) only [amL,sF,sG,↓reduceIte])
    all_goals first | omega | exact (congrArg (AO.arr 5) (T5 default (by omega))).symm | trace_state
  ·first
   | exact Bool.noConfusion h
   |skip
    try simp only [decide_eq_false_iff_not] at h
    refine Bc ?_
    refine hK3 _ ?_
    refine Aa fun K10 hK10=>?_
    refine Ab ?_
    simp (disch:=omega) only [amL,amT,sA,sF,↓reduceIte,reduceCtorEq]
    repeat' first | (refine Al (by kernel_rfl) rfl (Anq b.ss h2) (by first | exact .inl rfl | exact .inr (.inl rfl)) ?_ ; simp (disch:=omega) only [amL,amT,sA,sB,sF,↓reduceIte,reduceCtorEq])
    refine hK10 _ ?_
    refine Aa fun K11 hK11=>?_
    refine Ab ?_
    simp (disch:=omega) only [amL,amT,sB,sF,↓reduceIte]
    refine hK11 _ ?_
    refine Ae ?_
    try simp (disch:=omega) only [amL,amT,sB,sF,↓reduceIte]
    rw [List.take_of_length_le (by simp; omega),List.take_of_length_le (by omega)]
theorem Bgo (t:Tru) (h1:t.g.length < 1000000) (h2:t.d.length < 1000000) (h3:t.m.length < 1000000):Bj Tryz.prog 17 [avT t] (avT t):=by
  refine A7 (v:=[]) (q:=[]) (N:=13) (rs:=[.cell 2 40]) Tryz.func17 rfl rfl rfl rfl rfl ?_
  refine Aa fun K1 hK1=>?_
  refine Ab ?_
  simp (disch:=omega) only [amL,amT,sA,sB,sF,↓reduceIte]
  refine hK1 _ ?_
  refine Aa fun K2 hK2=>?_
  refine Bg (by kernel_rfl) (by kernel_rfl) ?_
  simp (disch:=omega) only [amL,amT,sA,sF,↓reduceIte,reduceCtorEq]
  repeat' first | (refine Al (by kernel_rfl) rfl (by first | exact Abe t.g h1 | exact Abe t.d h2 | exact Abe t.m h3) (by first | exact .inl rfl | exact .inr (.inl rfl)) ?_ ; simp (disch:=omega) only [amL,amT,sA,sB,sE,sF,↓reduceIte,reduceCtorEq])
  refine hK2 _ ?_
  refine Ae ?_
  try simp (disch:=omega) only [amL,amT,sB,sF,↓reduceIte]
  all_goals rfl
theorem Bf5 (b:Cx) (h1:b.vs.length < 1000000) (h2:b.ss.length < 1000000):Bj Tryz.prog 18 [avB b] (i64 (B5 b)):=by
  refine A7 (v:=[]) (q:=[]) (N:=5) (rs:=[.tmp 2]) Tryz.func18 rfl rfl rfl rfl rfl ?_
  refine Aa fun K1 hK1=>?_
  refine Ab ?_
  simp (disch:=omega) only [amL,sA,↓reduceIte]
  refine hK1 _ ?_
  refine Aa fun K2 hK2=>?_
  refine Ab ?_
  simp (disch:=omega) only [amL,amT,sA,sB,sF,↓reduceIte]
  repeat' first | (refine Al (by kernel_rfl) rfl (Aom b h1 h2) (by first | exact .inl rfl | exact .inr (.inl rfl)) ?_ ; simp (disch:=omega) only [amL,sA,↓reduceIte])
  refine hK2 _ ?_
  refine Ae ?_
  try simp (disch:=omega) only [amL,↓reduceIte]
  skip
def Ai5 (b:Cx) (t:Tru):Bool:=decide ((b.vs.length:Int)≤7)&&(decide ((b.ss.length:Int)≤9)&&(decide ((t.g.length:Int)≤9)&&(decide ((t.d.length:Int)≤9)&&decide ((t.m.length:Int)≤9))))
theorem Bgt (b:Cx) (t:Tru):Bj Tryz.prog 13 [avB b,avT t] (bl (Ai5 b t)):=by
  refine A7 (v:=[]) (q:=[]) (N:=33) (rs:=[.tmp 4]) Tryz.func13 rfl rfl rfl rfl rfl ?_
  refine Aa fun K1 hK1=>?_
  refine Ab ?_
  simp (disch:=omega) only [amL,sA,sB,sF,↓reduceIte,reduceCtorEq]
  refine hK1 _ ?_
  refine Aa fun K2 hK2=>?_
  refine Ab ?_
  simp (disch:=omega) only [amL,amT,sA,sF,↓reduceIte,reduceCtorEq]
  repeat' first | (refine Cn (fun h=>?_) (fun h=>?_) <;> simp (disch:=omega) only [h,amL,amT,sA,sF,↓reduceIte,reduceCtorEq]) | (refine Bo (fun h=>?_) (fun h=>?_) <;> simp (disch:=omega) only [h,amL,amT,sA,sB,sC,sD,sE,sF,sG,sH,sI,sJ,sK,sL,sM,sN,sO,↓reduceIte,reduceCtorEq])
  all_goals
   skip
   refine hK2 _ ?_
   refine Ae ?_
   try simp (disch:=omega) only [amL,↓reduceIte]
   all_goals first | (simp only [Ai5, *,decide_true,decide_false,Bool.true_and,Bool.false_and]; done) | (simp_all [Ai5]; done) | (simp_all [Ai5]; omega)
theorem Bcd (l:List Sta) (hl:l.length < 1000000):Bj Tryz.prog 22 [.p (.sl (l.map H5)),.p (.sl (l.map H5))] (bl true):=by
  refine A7 (v:=[]) (q:=[]) (N:=54) (rs:=[.tmp 4]) Tryz.func22 rfl rfl rfl rfl rfl ?_
  refine Aa fun K1 hK1=>?_
  refine Ab ?_
  simp (disch:=omega) only [eq_self,amL,sA,sB]
  refine hK1 _ ?_
  refine Aa fun K2 hK2=>?_
  refine Aa fun K3 hK3=>?_
  refine Ab ?_
  simp (disch:=omega) only [ne_eq,eq_self,not_true_eq_false,decide_false,amL,amT,sA,sF,↓reduceIte,reduceCtorEq]
  refine hK3 _ ?_
  refine Ag rfl (fun h=>?_) (fun h=>?_)
  ·first
   | exact Bool.noConfusion h
   |skip
    try simp only [Bool.not_eq_true',decide_eq_true_eq,decide_eq_false_iff_not,Bool.and_eq_true,Bool.not_eq_false',Bool.not_not,decide_not,Bool.not_true,Bool.not_false] at h
    refine Aa fun K4 hK4=>?_
    refine Ab ?_
    simp (disch:=omega) only [A1,ne_eq,eq_self,not_true_eq_false,decide_false,amL,amT,sA,sB,sC,sD,sE,sF,sG,sH,sI,sJ,sK,sL,sM,sN,sO,↓reduceIte,reduceCtorEq]
    refine hK4 _ ?_
    refine Ae ?_
    try simp (disch:=omega) only [A1,ne_eq,eq_self,not_true_eq_false,decide_false,amL,amT,sA,sB,sC,sD,sE,sF,sG,sH,sI,sJ,sK,sL,sM,sN,sO,↓reduceIte,reduceCtorEq]
    all_goals first | rfl | (exfalso; simp_all; done) | trace_state
  ·first
   | exact Bool.noConfusion h
   |skip
    try simp only [] at h
    refine Ah ?_
    refine hK2 _ ?_
    refine Aa fun K5 hK5=>?_
    refine Aa fun K6 hK6=>?_
    refine Ab ?_
    simp (disch:=omega) only [eq_self,amL,sA]
    refine hK6 _ ?_
    refine Ak ?_
    skip
    refine A5 (α:=Nat) (fun k=>⟨T [(0,.p (.sl (l.map H5))),(1,.p (.sl (l.map H5))),(5,i64 (k:Int))],O []⟩) (fun k=>l.length - k) (fun k=>k≤l.length) 0 ?_ ?_ (fun k hx7 K7 hK7=>?_)
    · exact Nat.zero_le _
    · refine B0 ?_ ?_ ?_ ?_ <;> (try simp (disch:=omega) only [eq_self,amL,sF,↓reduceIte,reduceCtorEq]); all_goals first | rfl | trace_state
    have hk:=hx7
    refine Aa fun K8 hK8=>?_
    refine Aa fun K9 hK9=>?_
    refine Ab ?_
    simp (disch:=omega) only [eq_self,amL,amT,sA,sF,↓reduceIte,reduceCtorEq]
    refine hK9 _ ?_
    refine Ag rfl (fun h=>?_) (fun h=>?_)
    ·first
     | exact Bool.noConfusion h
     |skip
      try simp only [decide_eq_true_eq] at h
      refine Ah ?_
      refine hK8 _ ?_
      refine Aa fun K10 hK10=>?_
      refine Ak ?_
      refine Aa fun K11 hK11=>?_
      refine Bg (by kernel_rfl) (by kernel_rfl) ?_
      simp (disch:=omega) only [A1,ne_eq,eq_self,not_true_eq_false,decide_false,amL,amT,sA,sB,sF,↓reduceIte,reduceCtorEq]
      repeat' first | (refine Cn (fun h=>?_) (fun h=>?_) <;> simp (disch:=omega) only [h,A1,ne_eq,eq_self,not_true_eq_false,decide_false,amL,amT,sA,sB,sC,sD,sE,sF,sG,sH,sI,sJ,sK,sL,sM,sN,sO,↓reduceIte,reduceCtorEq]) | (refine Bo (fun h=>?_) (fun h=>?_) <;> simp (disch:=omega) only [h,A1,ne_eq,eq_self,not_true_eq_false,decide_false,amL,amT,sA,sB,sC,sD,sE,sF,sG,sH,sI,sJ,sK,sL,sM,sN,sO,↓reduceIte,reduceCtorEq])
      all_goals
       skip
       refine hK11 _ ?_
       refine Ag rfl (fun h=>?_) (fun h=>?_)
       ·first
        | exact Bool.noConfusion h
        |skip
         try simp only [Bool.not_eq_true',decide_eq_true_eq,decide_eq_false_iff_not,Bool.and_eq_true,Bool.not_eq_false',Bool.not_not,decide_not,Bool.not_true,Bool.not_false] at h
         refine Aa fun K12 hK12=>?_
         refine Ab ?_
         simp (disch:=omega) only [A1,ne_eq,eq_self,not_true_eq_false,decide_false,amL,amT,sA,sB,sC,sD,sE,sF,sG,sH,sI,sJ,sK,sL,sM,sN,sO,↓reduceIte,reduceCtorEq]
         refine hK12 _ ?_
         refine Ae ?_
         try simp (disch:=omega) only [A1,ne_eq,eq_self,not_true_eq_false,decide_false,amL,amT,sA,sB,sC,sD,sE,sF,sG,sH,sI,sJ,sK,sL,sM,sN,sO,↓reduceIte,reduceCtorEq]
         all_goals first | rfl | (exfalso; simp_all; done) | trace_state
       ·first
        | exact Bool.noConfusion h
        |skip
         try simp only [] at h
         refine Ah ?_
         refine hK10 _ ?_
         refine Ab ?_
         simp (disch:=omega) only [eq_self,amL,amT,sA,sF,↓reduceIte,reduceCtorEq]
         refine hK7 (k+1) _ ?_ ?_ (B0 ?_ ?_ ?_ ?_)
         all_goals (try simp (disch:=omega) only [eq_self,amL,sF,↓reduceIte,reduceCtorEq])
         all_goals first | omega | trace_state
    ·first
     | exact Bool.noConfusion h
     |skip
      try simp only [decide_eq_false_iff_not] at h
      refine Bc ?_
      refine hK5 _ ?_
      refine Aa fun K13 hK13=>?_
      refine Ab ?_
      simp (disch:=omega) only [eq_self,amL,sA]
      refine hK13 _ ?_
      refine Ae ?_
      try simp (disch:=omega) only [eq_self,amL,↓reduceIte]
      all_goals first | rfl | (exfalso; simp_all; done) | trace_state
end AM.Try
end
/- The statements: brewhouses, truths, readings that are read. -/
section
namespace AM.Try
open Go AM AM.Wort Go.ChangeShapes Go.WideShapes Go.ChangeAt Go.RowKit Go.Proofs
open Nat renaming reduceLT→sA,reduceAdd→sB,reduceMul→sC,reduceSub→sD,reduceLeDiff→sE,reduceEqDiff→sF,reduceBEq→sG
open Int renaming reduceAdd→sH,reduceSub→sI,reduceMul→sJ,reduceLT→sK,reduceLE→sL,reduceNeg→sM,reduceToNat→sN,reduceEq→sO
set_option maxRecDepth 100000
theorem As4:laidOutB Tryz.prog=true:=by kernel_rfl
theorem Au3:mapsRowed Tryz.prog=true:=by kernel_rfl
theorem brP:BrP Tryz.prog:=⟨kids_rows As4 Au3,slices_full_of Tryz.prog (by kernel_rfl),Tryz.underlying4⟩
theorem tp_own:ownKnob Tryz.prog.godebug=none:=by kernel_rfl
theorem flN:Ud Tryz.prog 3 1:=Ars Tryz.underlying3
theorem flR:Ud Tryz.prog 55 2:=N5 Tryz.underlying55 (by kernel_rfl) (fun f hf=>by simp at hf; rcases hf with rfl | rfl <;> exact ⟨_,flN⟩) (by kernel_rfl)
theorem flV:Ud Tryz.prog 92 5:=N5 Tryz.underlying92 (by kernel_rfl) (fun f hf=>by simp at hf; rcases hf with rfl | rfl | rfl <;> first | exact ⟨_,flN⟩ | exact ⟨_,flR⟩) (by kernel_rfl)
theorem flS:Ud Tryz.prog 94 5:=N5 Tryz.underlying94 (by kernel_rfl) (fun f hf=>by simp at hf; rcases hf with rfl | rfl | rfl | rfl <;> first | exact ⟨_,flN⟩ | exact ⟨_,flR⟩) (by kernel_rfl)
section
variable {H:Type} {enc:TypeId × Value→H} {W:World} {base:Nat} {v:Value} {d:DataW H} {p:List MemPlace}
theorem open_brew (hv:Value.okWide Tryz.prog W .any base 25 v) (h:DataW.Trod enc Tryz.prog W 0 (fun _=>true) true 25 v d p):∃ b:Cx,Arq b∧∀ θ,Aq θ (fun _=>False) W (avB b) v:=by
 obtain ⟨R,h1,h2,h3⟩:=open_lists (ks:=[(92,5),(94,5)]) Tryz.underlying25 (by kernel_rfl) rfl (by kernel_rfl) (fun i f e k hf hk=>by
  match i,hf,hk with
  | 0,hf,hk=>cases hf; cases hk; exact ⟨rfl,by kernel_rfl,Tryz.underlying22,by kernel_rfl,flV⟩
  | 1,hf,hk=>cases hf; cases hk; exact ⟨rfl,by kernel_rfl,Tryz.underlying23,by kernel_rfl,flS⟩) hv h
 match R,h1 with
 | [vs,ss],_=>
  have g1:=h2 0 vs _ _ rfl rfl
  have g2:=h2 1 ss _ _ rfl rfl
  refine ⟨⟨vs.map mkV,ss.map mkS⟩,Ast g1 g2,fun θ=>?_⟩
  have e:=h3 θ
  simp only [List.map_cons,List.map_nil,← Nz g1 mkV Aex At5,← Nz g2 mkS Qc Auk] at e
  exact e
theorem open_truth (hv:Value.okWide Tryz.prog W .any base 28 v) (h:DataW.Trod enc Tryz.prog W 0 (fun _=>true) true 28 v d p):∃ t:Tru,Awq t∧∀ θ,Aq θ (fun _=>False) W (avT t) v:=by
 obtain ⟨R,h1,h2,h3⟩:=open_lists (ks:=[(3,1),(3,1),(3,1)]) Tryz.underlying28 (by kernel_rfl) rfl (by kernel_rfl) (fun i f e k hf hk=>by
  match i,hf,hk with
  | 0,hf,hk=>cases hf; cases hk; exact ⟨rfl,by kernel_rfl,Tryz.underlying26,by kernel_rfl,flN⟩
  | 1,hf,hk=>cases hf; cases hk; exact ⟨rfl,by kernel_rfl,Tryz.underlying26,by kernel_rfl,flN⟩
  | 2,hf,hk=>cases hf; cases hk; exact ⟨rfl,by kernel_rfl,Tryz.underlying26,by kernel_rfl,flN⟩) hv h
 match R,h1 with
 | [a,b,c],_=>
  have g1:=h2 0 a _ _ rfl rfl
  have g2:=h2 1 b _ _ rfl rfl
  have g3:=h2 2 c _ _ rfl rfl
  refine ⟨⟨a.map mkN,b.map mkN,c.map mkN⟩,Arp g1 g2 g3,fun θ=>?_⟩
  have e:=h3 θ
  simp only [List.map_cons,List.map_nil,← Nz g1 mkN Jj Ab6,← Nz g2 mkN Jj Ab6,← Nz g3 mkN Jj Ab6] at e
  exact e
end
end AM.Try
end
