/- Lemmas for the proof: an abstract machine over the program's form in Lean, and the program's functions walked on it. -/
import Derived.Test.YtbgiddcgdgdmbaaQ4
/- The program: what steps do. -/
section
namespace AM.Try
open Go AM AM.Wort Go.Proofs
open Nat renaming reduceLT→sA,reduceAdd→sB,reduceMul→sC,reduceSub→sD,reduceLeDiff→sE,reduceEqDiff→sF,reduceBEq→sG
open Int renaming reduceAdd→sH,reduceSub→sI,reduceMul→sJ,reduceLT→sK,reduceLE→sL,reduceNeg→sM,reduceToNat→sN,reduceEq→sO
set_option maxRecDepth 100000
set_option maxHeartbeats 8000000
theorem Akv {os:Nat→Option AO} {n m:Nat} {x y:Option AO} (hm:os m=none) (hne:n≠m):Sub (upd os n x) (upd (upd os m y) n x):=fun k=>by
  by_cases e:k=n
  · subst e; right; rw [Ay,Ay]
  · rw [Ac e,Ac e]
    by_cases e2:k=m
    · subst e2; left; exact hm
    · right; rw [Ac e2]
theorem Xp {os:Nat→Option AO} {n:Nat} {x:Option AO} (h:os n=x):upd os n x=os:=by
  funext k; by_cases e:k=n
  · subst e; rw [Ay,h]
  · rw [Ac e]
theorem Aaw {v:List Liq} {i:Nat} {x:AV} (h:(cW v)[i]?=some x):x.isP=true:=by
  unfold cW at h
  rw [List.getElem?_map,Option.map_eq_some_iff] at h
  obtain ⟨n,_,rfl⟩:=h
  rfl
theorem R4 {v w:List Liq} {tl:List AV} {nv:Nat} {os:Nat→Option AO} (hcl:(Hp os).closed) (ov:os nv=some (.cells (cW v++tl))):(Hp (upd os nv (some (.cells (cW w++tl))))).closed:=by
  refine Ce hcl (AO.lives_cells.2 fun i x hx=>?_)
  have hm:∀ m,(os m).isSome=true→(upd os nv (some (.cells (cW w++tl))) m).isSome=true:=fun m hm=>by
    by_cases e:m=nv
    · subst e; rw [Ay]; rfl
    · rw [Ac e]; exact hm
  by_cases h:i < (cW w).length
  · rw [List.getElem?_append_left h] at hx; exact Bk _ (Aaw hx)
  · rw [List.getElem?_append_right (by omega)] at hx
    have h2:=AO.lives_cells.1 (hcl.2 nv _ ov) ((cW v).length+(i - (cW w).length)) x (by rw [List.getElem?_append_right (by omega)]; rw [← hx]; congr 1; omega)
    exact AV.lives_mono hm h2
theorem Lb {g e:Int} (h1:0≤g) (h2:g≤1000000) (h3:0≤e) (h4:e≤1000000000):-9223372036854775808≤(2 * e+g) / (2 * g)∧(2 * e+g) / (2 * g) < 9223372036854775808:=by
  have e1:0≤(2 * e+g) / (2 * g):=Int.ediv_nonneg (by omega) (by omega)
  have e2:=Int.ediv_le_self (2 * g) (show 0≤2 * e+g by omega)
  omega
theorem Abv {n e g:Int} (h1:0≤n) (h2:n≤1000000) (h3:0≤e) (h4:e≤1000000000) (_:0 < g):(0≤n * e∧n * e≤1000000000000000)∧True:=by
  refine ⟨⟨Int.mul_nonneg h1 h3,?_⟩,trivial⟩
  have:=Int.mul_le_mul h2 h4 h3 (by omega)
  omega
theorem Ad6 (l:Liq) (h:Xw l):Bo Try.prog 63 [avL l] (i64 (Vy l)):=by
  obtain ⟨⟨h1,h2⟩,h3,h4⟩:=h
  refine A0 (v:=[]) (q:=[]) (N:=16) (rs:=[.tmp 2]) Try.func63 rfl rfl rfl rfl rfl ?_
  refine Ad fun K1 hK1=>?_
  simp (disch:=omega) only [amL,sA,↓reduceIte]
  refine hK1 _ ?_
  refine Ab fun K2 hK2=>?_
  refine Ad fun K3 hK3=>?_
  simp (disch:=omega) only [amL,amT,sA,sF,↓reduceIte,reduceCtorEq]
  refine hK3 _ ?_
  refine Ai rfl (fun h=>MT.x ?_) (fun h=>ME.x ?_)
  all_goals
   first
   |refine MT.mk ?_
    first
    |exact Bool.noConfusion h
    |skip
     try simp only [nrm] at h
     refine Ad fun K4 hK4=>?_
     simp (disch:=omega) only [amL,sA]
     refine hK4 _ ?_
     refine Af ?_
     try simp (disch:=omega) only [amL,↓reduceIte]
     first | (unfold Vy; rw [if_pos h]; done) | (unfold Vy; rw [if_neg h,Dk (Lb h1 h2 h3 h4).1 (Lb h1 h2 h3 h4).2])
   |refine ME.mk ?_
    first
    |exact Bool.noConfusion h
    |skip
     try simp only [nrm] at h
     refine Am ?_
     refine hK2 _ ?_
  all_goals
   skip
   refine Ad fun K5 hK5=>?_
   simp (disch:=omega) only [amL,amT,sA,sF,↓reduceIte,reduceCtorEq]
   refine hK5 _ ?_
   refine Af ?_
   try simp (disch:=omega) only [amL,↓reduceIte]
   first | (unfold Vy; rw [if_pos h]; done) | (unfold Vy; rw [if_neg h,Dk (Lb h1 h2 h3 h4).1 (Lb h1 h2 h3 h4).2])
theorem Akl {v:List Liq} {tl:List AV} {s:Stp} {n:Int} {nv:Nat} {os:Nat→Option AO} {bd:Nat} (hw:Lf v) (hs:0≤s.to∧s.to.toNat < v.length∧s.to < 4) (hn:0≤n∧n≤1000000) (ov:os nv=some (.cells (cW v++tl))) :
    Bs Try.prog bd (.fn (.func 138) [] []) [.ptr nv 0,avS s,i64 n] os fun res os'=>res=bl (Qd v s.to.toNat n).2∧os'=upd os nv (some (.cells (cW (Qd v s.to.toNat n).1++tl))):=by
  refine B9 (v:=[]) (q:=[]) (N:=19) (rs:=[.tmp 6]) Try.func138 rfl (by kernel_rfl) rfl rfl (fun hcl hfree=>?_)
  have hfr0:∀ k,os (bd+k)=none:=fun k=>hfree _ (by omega)
  have hlt:=Bb hfree ov
  obtain ⟨⟨h1,h2⟩,h3,h4⟩:=hw s.to.toNat
  refine Ad fun K1 hK1=>?_
  simp (disch:=omega) only [hfr0,amL,sA,sB,↓reduceIte,reduceCtorEq]
  refine hK1 _ ?_
  refine Ab fun K2 hK2=>?_
  refine Bx (by kernel_rfl) (by kernel_rfl) ?_
  simp (disch:=omega) only [ov,Ac,tkG,Y3,G9,amL,amT,sA,sF,sH,↓reduceIte,reduceCtorEq]
  refine hK2 _ ?_
  refine Ad fun K3 hK3=>?_
  simp (disch:=omega) only [amL,sA]
  refine hK3 _ ?_
  refine Af ?_
  try simp (disch:=omega) only [amL]
  refine Bj (res:=bl _) (upd os nv (some (.cells (cW (Qd v s.to.toNat n).1++tl)))) (by simp (disch:=omega) only [amL,↓reduceIte]; try rfl) (Akv (hfr0 _) (by omega)) (R4 hcl ov) (AV.lives_p _ _) ⟨rfl,rfl⟩
theorem Ao4 {v:List Liq} {tl:List AV} {s:Stp} {n:Int} {nv:Nat} {os:Nat→Option AO} {bd:Nat} (hw:Lf v) (hs:0≤s.frm∧s.frm.toNat < v.length∧s.frm < 4) (hn:0≤n∧n≤1000000) (ov:os nv=some (.cells (cW v++tl))) :
    Bs Try.prog bd (.fn (.func 139) [] []) [.ptr nv 0,avS s,i64 n] os fun res os'=>res=bl (V6 v s.frm.toNat n).2∧os'=upd os nv (some (.cells (cW (V6 v s.frm.toNat n).1++tl))):=by
  refine B9 (v:=[]) (q:=[]) (N:=39) (rs:=[.tmp 6]) Try.func139 rfl (by kernel_rfl) rfl rfl (fun hcl hfree=>?_)
  have hfr0:∀ k,os (bd+k)=none:=fun k=>hfree _ (by omega)
  have hlt:=Bb hfree ov
  obtain ⟨⟨h1,h2⟩,h3,h4⟩:=hw s.frm.toNat
  refine Ad fun K1 hK1=>?_
  simp (disch:=(first | omega | (simp only [List.length_set]; omega))) only [hfr0,amL,sA,sB,↓reduceIte,reduceCtorEq]
  refine hK1 _ ?_
  refine Ab fun K2 hK2=>?_
  refine Bx (by kernel_rfl) (by kernel_rfl) ?_
  simp (disch:=(first | omega | (simp only [List.length_set]; omega))) only [ov,Ac,D0,Y3,G9,amL,amT,sA,sF,sH,↓reduceIte,reduceCtorEq]
  refine hK2 _ ?_
  refine Ab fun K3 hK3=>?_
  refine Bx (by kernel_rfl) (by kernel_rfl) ?_
  simp (disch:=(first | omega | (simp only [List.length_set]; omega))) only [hfr0,Ac,D0,G9,Ju,amL,amT,sA,sB,sE,sF,sH,↓reduceIte,reduceCtorEq]
  refine hK3 _ ?_
  refine Ad fun K4 hK4=>?_
  simp (disch:=(first | omega | (simp only [List.length_set]; omega))) only [amL,amT,sA,↓reduceIte,reduceCtorEq]
  repeat' first | (refine Ck (fun h=>?_) (fun h=>?_) <;> simp (disch:=(first | omega | (simp only [List.length_set]; omega))) only [h,amL,amT,sA,sF,↓reduceIte,reduceCtorEq]) | (refine Bp (fun h=>?_) (fun h=>?_) <;> simp (disch:=(first | omega | (simp only [List.length_set]; omega))) only [h,ov,hfr0,Ac,D0,Js,Y3,G9,Ju,amL,amT,sA,sB,sC,sD,sE,sF,sG,sH,sI,sJ,sK,sL,sM,sN,sO,↓reduceIte,reduceCtorEq])
  all_goals
   skip
   refine hK4 _ ?_
   refine Af ?_
   try simp (disch:=(first | omega | (simp only [List.length_set]; omega))) only [amL]
   refine Bj (res:=bl _) (upd os nv (some (.cells (cW (v.set s.frm.toNat ⟨_,(v.getD s.frm.toNat default).e⟩)++tl)))) (by simp (disch:=(first | omega | (simp only [List.length_set]; omega))) only [amL,↓reduceIte]; try rfl) (by first | ((repeat' first | exact Sub.refl _ | refine Sub.skip (by first | exact hfr0 _ | (simp (disch:=omega) only [Ac]; exact hfr0 _)) ?_ | refine Sub.both ?_); done) | fail) (R4 hcl ov) (AV.lives_p _ _) ⟨?_,?_⟩
   all_goals (unfold V6; simp_all)
theorem Ao3 {v:List Liq} {tl:List AV} {s:Stp} {n:Int} {nv:Nat} {os:Nat→Option AO} {bd:Nat} (hw:Lf v) (hs:0≤s.frm∧s.frm.toNat < v.length∧s.frm < 4) (ht:0≤s.to∧s.to.toNat < v.length∧s.to < 4) (hn:0≤n∧n≤1000000) (ov:os nv=some (.cells (cW v++tl))) :
    Bs Try.prog bd (.fn (.func 137) [] []) [.ptr nv 0,avS s,i64 n] os fun res os'=>res=bl (Hn v s.frm.toNat s.to.toNat n).2∧os'=upd os nv (some (.cells (cW (Hn v s.frm.toNat s.to.toNat n).1++tl))):=by
  refine B9 (v:=[]) (q:=[]) (N:=69) (rs:=[.tmp 6]) Try.func137 rfl (by kernel_rfl) rfl rfl (fun hcl hfree=>?_)
  have hfr0:∀ k,os (bd+k)=none:=fun k=>hfree _ (by omega)
  have hlt:=Bb hfree ov
  obtain ⟨⟨h1,h2⟩,h3,h4⟩:=hw s.frm.toNat
  obtain ⟨⟨k1,k2⟩,k3,k4⟩:=hw s.to.toNat
  refine Ad fun K1 hK1=>?_
  simp (disch:=(first | omega | (simp only [List.length_set]; omega))) only [hfr0,amL,sA,sB,↓reduceIte,reduceCtorEq]
  refine hK1 _ ?_
  refine Ab fun K2 hK2=>?_
  refine Bx (by kernel_rfl) (by kernel_rfl) ?_
  simp (disch:=(first | omega | (simp only [List.length_set]; omega))) only [amL,amT,sA,sF,sH,↓reduceIte,reduceCtorEq]
  refine hK2 _ ?_
  refine Ab fun K3 hK3=>?_
  refine Ad fun K4 hK4=>?_
  simp (disch:=(first | omega | (simp only [List.length_set]; omega))) only [ov,Ac,D0,amL,amT,sA,sF,↓reduceIte,reduceCtorEq]
  refine hK4 _ ?_
  refine Ai rfl (fun h=>MT.x ?_) (fun h=>ME.x ?_)
  all_goals
   first
   |refine MT.mk ?_
    first
    |exact Bool.noConfusion h
    |skip
     try simp only [nrm] at h
     refine Ad fun K5 hK5=>?_
     simp (disch:=(first | omega | (simp only [List.length_set]; omega))) only [amL,sA]
     refine hK5 _ ?_
     refine Af ?_
     try simp (disch:=(first | omega | (simp only [List.length_set]; omega))) only [amL]
     first | (refine Bj (res:=bl _) os (by simp (disch:=(first | omega | (simp only [List.length_set]; omega))) only [amL,↓reduceIte]; try rfl) (by first | ((repeat' first | exact Sub.refl _ | refine Sub.skip (by first | exact hfr0 _ | (simp (disch:=omega) only [Ac]; exact hfr0 _)) ?_ | refine Sub.both ?_); done) | fail) hcl (AV.lives_p _ _) ⟨?_,?_⟩ ; all_goals first | (rw [Hn,if_pos h]; done) | (rw [Hn,if_pos h,Xp ov]; done) | (rw [Hn,if_neg (by assumption),if_neg h]; done) | (rw [Hn,if_neg (by assumption),if_neg h,Xp ov]; done)) | (refine Bj (res:=bl _) (upd os nv (some (.cells (cW (N1 v s.frm.toNat s.to.toNat n)++tl)))) (by simp (disch:=(first | omega | (simp only [List.length_set]; omega))) only [ov,hfr0,Ac,D0,Js,Y3,Air,G9,Ju,List.set_set,Cg,amL,amT,sA,sB,sC,sD,sE,sF,sG,sH,sI,sJ,sK,sL,sM,sN,sO,↓reduceIte,reduceCtorEq]; try rfl) (by first | ((repeat' first | exact Sub.refl _ | refine Sub.skip (by first | exact hfr0 _ | (simp (disch:=omega) only [Ac]; exact hfr0 _)) ?_ | refine Sub.both ?_); done) | fail) (R4 hcl ov) (AV.lives_p _ _) ⟨?_,?_⟩ ; all_goals (rw [Hn,if_neg (by assumption),if_pos h])) | trace_state
   |refine ME.mk ?_
    first
    |exact Bool.noConfusion h
    |skip
     try simp only [nrm] at h
     refine Am ?_
     refine hK3 _ ?_
  all_goals
   skip
   refine Ab fun K6 hK6=>?_
   refine Ad fun K7 hK7=>?_
   simp (disch:=(first | omega | (simp only [List.length_set]; omega))) only [amL,amT,sA,sF,↓reduceIte,reduceCtorEq]
   refine hK7 _ ?_
   refine Ai rfl (fun h=>MT.x ?_) (fun h=>ME.x ?_)
   all_goals
    first
    |refine MT.mk ?_
     first
     |exact Bool.noConfusion h
     |skip
      try simp only [nrm] at h
      refine Ab fun K8 hK8=>?_
      refine Bx (by kernel_rfl) (by kernel_rfl) ?_
      have hg:0 < (v.getD s.frm.toNat default).g:=by omega
      have hb:=Abv (n:=n) hn.1 hn.2 h3 h4 hg
      have hm:IntKind.i64.wrap (n * (v.getD s.frm.toNat default).e)=n * (v.getD s.frm.toNat default).e:=Dk (by omega) (by omega)
      have htd:(n * (v.getD s.frm.toNat default).e).tdiv (v.getD s.frm.toNat default).g=G2 v s.frm.toNat n:=Int.tdiv_eq_ediv_of_nonneg hb.1.1
      have hx:=Ui (n:=n) hn.1 (show n≤(v.getD s.frm.toNat default).g by omega) h3 hg
      have hx1:0≤G2 v s.frm.toNat n:=hx.1
      have hx2:G2 v s.frm.toNat n≤(v.getD s.frm.toNat default).e:=hx.2
      obtain ⟨⟨q1,q2⟩,q3,q4⟩:=Aeu (k:=s.frm.toNat) (a:=⟨(v.getD s.frm.toNat default).g - n,(v.getD s.frm.toNat default).e - G2 v s.frm.toNat n⟩) hw ⟨⟨show 0≤(v.getD s.frm.toNat default).g - n by omega,show (v.getD s.frm.toNat default).g - n≤1000000 by omega⟩,show 0≤(v.getD s.frm.toNat default).e - G2 v s.frm.toNat n by omega,show (v.getD s.frm.toNat default).e - G2 v s.frm.toNat n≤1000000000 by omega⟩ s.to.toNat
      simp (disch:=(first | omega | (simp only [List.length_set]; omega))) only [hm,htd,ov,Ac,D0,Js,amL,amT,sA,sF,↓reduceIte,reduceCtorEq]
      refine hK8 _ ?_
      refine Ab fun K9 hK9=>?_
      refine Bx (by kernel_rfl) (by kernel_rfl) ?_
      simp (disch:=(first | omega | (simp only [List.length_set]; omega))) only [ov,Ac,D0,Js,Y3,Air,G9,Ju,List.set_set,amL,amT,sA,sB,sE,sF,↓reduceIte,reduceCtorEq]
      refine hK9 _ ?_
      refine Bx (by kernel_rfl) (by kernel_rfl) ?_
      simp (disch:=(first | omega | (simp only [List.length_set]; omega))) only [D0,Js,Y3,Air,G9,Ju,List.set_set,Cg,amL,amT,sA,sB,sE,sF,↓reduceIte,reduceCtorEq]
      refine hK6 _ ?_
    |refine ME.mk ?_
     first
     |exact Bool.noConfusion h
     |skip
      try simp only [nrm] at h
      refine Am ?_
      refine hK6 _ ?_
   all_goals
    skip
    refine Ad fun K10 hK10=>?_
    simp (disch:=(first | omega | (simp only [List.length_set]; omega))) only [amL,sA]
    refine hK10 _ ?_
    refine Af ?_
    try simp (disch:=(first | omega | (simp only [List.length_set]; omega))) only [amL]
    first | (refine Bj (res:=bl _) os (by simp (disch:=(first | omega | (simp only [List.length_set]; omega))) only [amL,↓reduceIte]; try rfl) (by first | ((repeat' first | exact Sub.refl _ | refine Sub.skip (by first | exact hfr0 _ | (simp (disch:=omega) only [Ac]; exact hfr0 _)) ?_ | refine Sub.both ?_); done) | fail) hcl (AV.lives_p _ _) ⟨?_,?_⟩ ; all_goals first | (rw [Hn,if_pos h]; done) | (rw [Hn,if_pos h,Xp ov]; done) | (rw [Hn,if_neg (by assumption),if_neg h]; done) | (rw [Hn,if_neg (by assumption),if_neg h,Xp ov]; done)) | (refine Bj (res:=bl _) (upd os nv (some (.cells (cW (N1 v s.frm.toNat s.to.toNat n)++tl)))) (by simp (disch:=(first | omega | (simp only [List.length_set]; omega))) only [amL,↓reduceIte]; try rfl) (by first | ((repeat' first | exact Sub.refl _ | refine Sub.skip (by first | exact hfr0 _ | (simp (disch:=omega) only [Ac]; exact hfr0 _)) ?_ | refine Sub.both ?_); done) | fail) (R4 hcl ov) (AV.lives_p _ _) ⟨?_,?_⟩ ; all_goals (rw [Hn,if_neg (by assumption),if_pos h])) | trace_state
theorem Asy:Lo Try.prog 256 14:=Akc (by kernel_rfl)
def Alt:Value:=.agg #[.int .i64 0,.int .i64 0,.int .i64 0,.int .i64 0,.int .i64 0,.int .i64 0,.int .i64 0,.int .i64 0,.bool false]
theorem Auf:∀ w,(zeroValue 258).run Try.prog w=.ok Alt w:=fun w=>by
  have h:(Try.prog.info? 258).map (fun i=>i.zero)=some (some Alt):=by kernel_rfl
  cases hi:Try.prog.info? 258 with
  | none=>rw [hi] at h; cases h
  | some i=>
    rw [hi] at h
    have hz:i.zero=some Alt:=by simpa using h
    simp [zeroValue,typeInfo,hi,hz]
theorem Sb:Bu Alt=.agg [i64 0,i64 0,i64 0,i64 0,i64 0,i64 0,i64 0,i64 0,bl false]:=rfl
abbrev Ag2:List AV:=[.fn (.func 137) [] [],.fn (.func 138) [] [],.fn (.func 139) [] []]
abbrev Al1 (k:Int):AV:=.fn (.func (if k=0 then 137 else if k=1 then 138 else 139)) [] []
theorem Anz:Bo Try.prog 89 [] (.agg Ag2):=by
  refine A0 (v:=[]) (q:=[]) (N:=5) (rs:=[.cell 0 205]) Try.func89 rfl rfl rfl rfl rfl ?_
  refine Ad fun K1 hK1=>?_
  simp (disch:=omega) only [amL,amT,sA,sB,↓reduceIte]
  refine hK1 _ ?_
  refine Ad fun K2 hK2=>?_
  simp (disch:=omega) only [amL,amT,sA,sB,sE,sF,↓reduceIte,reduceCtorEq]
  refine hK2 _ ?_
  refine Af ?_
  try simp (disch:=omega) only [X5,amL,amT,sB,↓reduceIte,reduceCtorEq]
  skip
theorem Afh {esz:Nat→Nat} {ea:Nat→Option Bool} {k:Int} (hz:esz 204=1) (he:ea 204=some true) (h0:0≤k) (h3:k≤2):Ws esz ea (.agg Ag2) (.arr 3 204) (i64 k)=some (.pure (.agg [Al1 k])):=by
  have hk4:k=0∨k=1∨k=2:=by omega
  simp only [Ws,he,hz]
  rcases hk4 with rfl | rfl | rfl <;> rfl
theorem Ays {v:List Liq} {tl:List AV} {s:Stp} {n:Int} {nv:Nat} {os:Nat→Option AO} {bd:Nat} (_:0≤s.kind∧s.kind≤2) (hw:Lf v) (hs:0≤s.frm∧s.frm.toNat < v.length∧s.frm < 4) (ht:0≤s.to∧s.to.toNat < v.length∧s.to < 4) (hn:0≤n∧n≤1000000) (ov:os nv=some (.cells (cW v++tl))) :
    Bs Try.prog bd (Al1 s.kind) [.ptr nv 0,avS s,i64 n] os fun res os'=>res=bl (Sk v s n).2∧os'=upd os nv (some (.cells (cW (Sk v s n).1++tl))):=by
  unfold Al1 Sk
  split
  · exact Ao3 hw hs ht hn ov
  · split
    · exact Akl hw ht hn ov
    · exact Ao4 hw hs hn ov
structure Wk (vs:List Ves) (ss:List Stp) (nw m:Nat) (os:Nat→Option AO):Prop where
  ow:os nw=some (.cells [.p (slV vs),.p (slS ss),.mp m])
  om:os m=some (.obj (G4 14 (Vf vs)))
theorem Ei (v:List Liq) (b:Bool):(AV.tup [avW v,bl b]).isP=true:=by
  have h:AV.isP.isPL (cW v)=true:=(Mn _).2 fun i x hx=>Aaw hx
  simp only [AV.isP,AV.isP.isPL,h,Bool.and_self]
theorem H2 {P:Program} {s:St} {i j n off:Nat} {ty:TypeId} {g:Bool} {cs:List AV} {x:AV} (h1:s.t i=.ptr n off) (h2:(Aa P ty).agg=some g) (h3:s.o n=some (.cells cs)) (h4:Al g (Aa P ty).sz (cs.drop off)=some x):(Dz P s [.cell i ty,.tmp j]).map Ey=some (.tup [x,s.t j]):=by
  simp only [Dz,N3,h1,h2,h3,h4,Option.map_some]; rfl
theorem Ban {vs:List Ves} {ss:List Stp} {v:List Liq} {s:Stp} {n:Int} {nw m:Nat} {os:Nat→Option AO} {bd:Nat} (hW:Wk vs ss nw m os) (hv4:v.length=4) (hw:Lf v) (hvs:vs.length≤4) (hk:0≤s.kind∧s.kind≤2) (hs:0≤s.frm∧s.frm < vs.length) (ht:0≤s.to∧s.to < vs.length) (hn:0≤n∧n≤1000000) (hkd:(kD s n v).all inR=true) :
    Bs Try.prog bd (.fn (.func 99) [] []) [.ptr nw 0,avW v,avS s,i64 n] os fun res os'=>res=.tup [avW (doS vs v s n).1,bl (doS vs v s n).2]∧os'=os:=by
  refine B9 (v:=[]) (q:=[]) (N:=69) (rs:=[.cell 8 166,.tmp 9]) Try.func99 rfl (by kernel_rfl) rfl rfl (fun hcl hfree=>?_)
  have hfr0:∀ k,os (bd+k)=none:=fun k=>hfree _ (by omega)
  obtain ⟨ow,om⟩:=hW
  have hlw:=Bb hfree ow
  have hlm:=Bb hfree om
  have l4:(Sk v s n).1.length=4:=by rw [Acb,hv4]
  have ld:(doS vs v s n).1.length=4:=by rw [Wx,hv4]
  have hmc:Bu (Vf vs (kD s n v))=.agg (cW (doS vs v s n).1++[bl (doS vs v s n).2]):=by unfold Vf; rw [Api,Adp]
  have hix:Ws (fun e=>(Aa Try.prog e).sz) (fun e=>(Aa Try.prog e).agg) (.agg Ag2) (.arr 3 204) (i64 s.kind)=some (.pure (.agg [Al1 s.kind])):=Afh (by simp only [amT]) (by simp only [amT]; rfl) hk.1 hk.2
  refine Ad fun K1 hK1=>?_
  simp (disch:=(first | assumption | omega | (simp only [List.length_set]; omega))) only [hfr0,Ac,amL,amT,sA,sB,sF,↓reduceIte,reduceCtorEq]
  refine hK1 _ ?_
  refine Ad fun K2 hK2=>?_
  simp (disch:=(first | assumption | omega | (simp only [List.length_set]; omega))) only [hfr0,Ac,Aex,Ane,Fb,Cg,amL,amT,sA,sB,sE,sF,↓reduceIte,reduceCtorEq]
  refine hK2 _ ?_
  refine Ab fun K3 hK3=>?_
  refine X1 (by kernel_rfl) (by kernel_rfl) ?_
  simp (disch:=(first | assumption | omega | (simp only [List.length_set]; omega))) only [ow,Ac,Aex,Fb,amL,amT,sA,sB,sF,↓reduceIte,reduceCtorEq]
  refine Aas rfl (by simp only [amT]) Auf rfl Se Asy (by simp (disch:=omega) only [Ac]; exact om) Acn (Ai1 hv4) hkd ?_ ?_ <;> simp (disch:=(first | assumption | omega | (simp only [List.length_set]; omega))) only [hfr0,Ac,Aio,Am5,Sb,hmc,Cg,amL,amT,sA,sB,sF,↓reduceIte]
  all_goals
   skip
   refine hK3 _ ?_
   refine Ab fun K4 hK4=>?_
   refine Ad fun K5 hK5=>?_
   simp (disch:=(first | assumption | omega | (simp only [List.length_set]; omega))) only [amL,sA,↓reduceIte]
   refine hK5 _ ?_
   refine Ai rfl (fun h=>MT.x ?_) (fun h=>ME.x ?_)
   all_goals
    first
    |refine MT.mk ?_
     first
     |exact Bool.noConfusion h
     |skip
      try simp only [] at h
      refine Ad fun K6 hK6=>?_
      simp (disch:=(first | assumption | omega | (simp only [List.length_set]; omega))) only [Ac,Aex,Arw,Fb,Cg,amL,amT,sA,sB,sE,sF,↓reduceIte,reduceCtorEq]
      refine hK6 _ ?_
      refine Ab fun K7 hK7=>?_
      refine Bx (by kernel_rfl) (by kernel_rfl) ?_
      simp (disch:=(first | assumption | omega | (simp only [List.length_set]; omega))) only [amL]
      repeat' first | (refine Ck (fun h=>?_) (fun h=>?_) <;> simp (disch:=(first | assumption | omega | (simp only [List.length_set]; omega))) only [h,ow,om,hfr0,Ac,Aex,Aio,Ane,Aom,Arw,Am5,Apc,Aue,Anb,Anc,Aod,Acu,Fb,Sb,hmc,Pu,hix,J4,Cg,D0,Js,amL,amT,sA,sB,sC,sD,sE,sF,sG,sH,sI,sJ,sK,sL,sM,sN,sO,↓reduceIte,reduceCtorEq]) | (refine Bp (fun h=>?_) (fun h=>?_) <;> simp (disch:=(first | assumption | omega | (simp only [List.length_set]; omega))) only [h,ow,Ac,Aio,Aue,J4,Cg,D0,amL,amT,sA,sB,sF,sH,↓reduceIte,reduceCtorEq]) | (refine Aw (by kernel_rfl) rfl (Anz) (by first | exact .inl rfl | exact .inr (.inl rfl)) ?_ ; simp (disch:=(first | assumption | omega | (simp only [List.length_set]; omega))) only [Ac,Pu,hix,amL,amT,sA,sB,sF,↓reduceIte,reduceCtorEq]) | (refine A9 [(0,.ptr nw 0),(3,i64 n),(5,.ptr (bd+5) 0),(6,.ptr (bd+6) 0),(8,.ptr (bd+8) 0),(10,.ptr (bd+10) 0),(11,.ptr (bd+11) 0)] (by decide) (Ays (v:=v) (tl:=[bl false]) (nv:=bd+11) (bd:=bd+69) hk hw ⟨hs.1,by omega,by omega⟩ ⟨ht.1,by omega,by omega⟩ hn (by first | (simp (disch:=(first | assumption | omega | (simp only [List.length_set]; omega))) only [amL]; done) | fail)) (fun q hq=>by simp (disch:=omega) only [Ac]; exact hfree q (by omega)) (Nat.le_add_right _ _) (fun res os2 hR hcl2 hlv2=>?_) ; obtain ⟨rfl,rfl⟩:=hR ; simp (disch:=(first | assumption | omega | (simp only [List.length_set]; omega))) only [ow,Ac,Cg,amL,sA,sF,↓reduceIte,reduceCtorEq])
      all_goals
       skip
       refine hK7 _ ?_
       refine Bx (by kernel_rfl) (by kernel_rfl) ?_
       simp (disch:=(first | assumption | omega | (simp only [List.length_set]; omega))) only [ow,Ac,Aex,Aio,Anc,Fb,amL,amT,sA,sB,sF,↓reduceIte,reduceCtorEq]
       all_goals (refine Aae (k:=256) (e:=258) (by simp only [amT]) Asy (by simp (disch:=omega) only [Ac]; exact om) Acn (Ai1 hv4) hkd Se (by rw [hmc]; first | (simp_all [doS]; done) | (omega)) ?_ ; simp (disch:=(first | assumption | omega | (simp only [List.length_set]; omega))) only [amL])
       all_goals
        skip
        refine hK4 _ ?_
    |refine ME.mk ?_
     first
     |exact Bool.noConfusion h
     |skip
      try simp only [] at h
      refine Am ?_
      refine hK4 _ ?_
   all_goals
    skip
    refine Ab fun K8 hK8=>?_
    refine Y4 [.sto [11] 8,.sto [67] 8] (by kernel_rfl) (by kernel_rfl) ?_
    simp (disch:=(first | assumption | omega | (simp only [List.length_set]; omega))) only [Ac,Aex,Aio,Apc,Anb,Acu,amL,amT,sA,sB,sE,sF,↓reduceIte,reduceCtorEq]
    refine ⟨by simp [Cf.ok,Mm,T,AV.known,AV.clean],?_⟩
    all_goals
     skip
     refine hK8 _ ?_
     refine Af ?_
     try simp (disch:=(first | assumption | omega | (simp only [List.length_set]; omega))) only [amL]
     all_goals (refine Bj (res:=.tup [avW (doS vs v s n).1,bl (doS vs v s n).2]) os ?_ (by first | ((repeat' first | exact Sub.refl _ | refine Sub.skip (by first | exact hfr0 _ | (simp (disch:=omega) only [Ac]; exact hfr0 _)) ?_ | refine Sub.both ?_); done) | fail) hcl (Bk _ (Ei _ _)) ⟨rfl,rfl⟩ ; refine (H2 (n:=bd+8) (off:=0) (g:=true) (cs:=cW (doS vs v s n).1) (x:=avW (doS vs v s n).1) (by simp (disch:=(first | assumption | omega | (simp only [List.length_set]; omega))) only [amL,sF,↓reduceIte,reduceCtorEq]) (by simp only [amT]; rfl) (by simp (disch:=(first | assumption | omega | (simp only [List.length_set]; omega))) only [amL]; try rfl) (by simp only [amT,List.drop_zero]; exact Ahb ld)).trans ?_ ; simp (disch:=(first | assumption | omega | (simp only [List.length_set]; omega))) only [amL,↓reduceIte] ; all_goals first | rfl | (simp_all [doS]; done) | (omega))
theorem Acx {os:Nat→Option AO} {n:Nat} {cs:List AV} (hcl:(Hp os).closed) (h:∀ x ∈ cs,x.isP=true):(Hp (upd os n (some (.cells cs)))).closed:=
  Ce hcl (AO.lives_cells.2 fun _ x hx=>Bk _ (h x (List.mem_of_getElem? hx)))
theorem Pq {os:Nat→Option AO} {n:Nat} {v:List Liq} (hcl:(Hp os).closed):(Hp (upd os n (some (.cells (cW v))))).closed:=Acx hcl fun x hx=>by
  obtain ⟨i,hi⟩:=List.mem_iff_getElem?.1 hx
  exact Aaw hi
theorem V8 {vs:List Ves} {k:Nat} (h:k < vs.length):vs.drop k=vs.getD k default :: vs.drop (k+1):=Lw default h
theorem Tc {vs:List Ves} {gs ds:List Int} {k:Nat} {v:List Liq} {R:List Liq × Bool} (h:k < vs.length) (h2:(vs.getD k default).room < gs.getD k 0) (hr:Ho (vs.drop k) gs ds k v=R):R=(v,false):=by
  rw [V8 h] at hr; unfold Ho at hr; rw [if_pos h2] at hr; exact hr.symm
theorem Z9 {vs:List Ves} {gs ds:List Int} {k:Nat} {v:List Liq} {R:List Liq × Bool} (h:k < vs.length) (h2:¬ (vs.getD k default).room < gs.getD k 0) (hr:Ho (vs.drop k) gs ds k v=R):Ho (vs.drop (k+1)) gs ds (k+1) (v.set k ⟨gs.getD k 0,gs.getD k 0 * ds.getD k 0⟩)=R:=by
  rw [V8 h] at hr; unfold Ho at hr; rw [if_neg h2] at hr; exact hr
theorem V0 {vs:List Ves} {gs ds:List Int} {k:Nat} {v:List Liq} {R:List Liq × Bool} (h:vs.length≤k) (hr:Ho (vs.drop k) gs ds k v=R):R=(v,true):=by
  rw [List.drop_of_length_le h] at hr; exact hr.symm
theorem Amt {a b:Int} (h1:0≤a∧a≤100000) (h2:0≤b∧b≤100000):0≤a * b∧a * b≤10000000000:=by
  have e1:=Int.mul_nonneg h1.1 h2.1
  have e2:=Int.mul_le_mul h1.2 h2.2 h2.1 (by omega)
  omega
theorem D1 {b:E9} {os:Nat→Option AO} {bd:Nat} :
    Bs Try.prog bd (.fn (.func 61) [] []) [avB b] os fun res os'=>res=.ptr (bd+6) 0∧os'=upd (upd os (bd+4) (some (.obj (G4 14 (Vf b.vs))))) (bd+6) (some (.cells [.p (slV b.vs),.p (slS b.ss),.mp (bd+4)])):=by
  refine B9 (v:=[]) (q:=[]) (N:=7) (rs:=[.tmp 2]) Try.func61 rfl (by kernel_rfl) rfl rfl (fun hcl hfree=>?_)
  have hfr0:∀ k,os (bd+k)=none:=fun k=>hfree _ (by omega)
  refine Ad fun K1 hK1=>?_
  simp (disch:=omega) only [hfr0,amL,sA,↓reduceIte]
  refine hK1 _ ?_
  refine Ad fun K2 hK2=>?_
  simp (disch:=omega) only [amL,amT,sA,sB,sF,↓reduceIte]
  refine Aaq 14 (Vf b.vs) (by decide) (by simp (disch:=omega) only [hfr0,Ac]) ?_
  simp (disch:=omega) only [hfr0,Ac,amL,amT,sA,sB,sE,sF,↓reduceIte]
  all_goals
   skip
   refine hK2 _ ?_
   refine Af ?_
   try simp (disch:=omega) only [amL]
   refine Bj (res:=.ptr (bd+6) 0) (upd (upd os (bd+4) (some (.obj (G4 14 (Vf b.vs))))) (bd+6) (some (.cells [.p (slV b.vs),.p (slS b.ss),.mp (bd+4)]))) rfl (by first | ((repeat' first | exact Sub.refl _ | refine Sub.skip (by first | exact hfr0 _ | (simp (disch:=omega) only [Ac]; exact hfr0 _)) ?_ | refine Sub.both ?_); done) | fail) (Ce (Ce hcl (AO.lives_obj _ _)) ?_) ?_ ⟨rfl,rfl⟩
   · rw [Dh]; simp (disch:=omega) only [Cc,Bv,Uf,Q7,Ac,Ay,Option.isSome_some,and_self]
   · rw [Cj]; simp only [Ay,Option.isSome_some]
theorem Amy {vs:List Ves} {ss:List Stp} {gs ds:List Int} {nw m:Nat} {os:Nat→Option AO} {bd:Nat} (hW:Wk vs ss nw m os) (hvs:vs.length≤4) (hg1:gs.length=vs.length) (hd1:ds.length=vs.length) (hg:∀ k,0≤gs.getD k 0∧gs.getD k 0≤100000) (hd:∀ k,0≤ds.getD k 0∧ds.getD k 0≤100000) :
    Bs Try.prog bd (.fn (.func 116) [] []) [.ptr nw 0,isl gs,isl ds] os fun res os'=>res=.tup [avW (P7 vs gs ds).1,bl (P7 vs gs ds).2]∧os'=os:=by
  refine B9 (v:=[]) (q:=[]) (N:=47) (rs:=[.cell 6 166,.tmp 7]) Try.func116 rfl (by kernel_rfl) rfl rfl (fun hcl hfree=>?_)
  have hfr0:∀ k,os (bd+k)=none:=fun k=>hfree _ (by omega)
  obtain ⟨ow,om⟩:=hW
  have hlw:=Bb hfree ow
  refine Ad fun K1 hK1=>?_
  simp (disch:=(first | assumption | omega | (simp only [List.length_set]; omega))) only [hfr0,amL,amT,sA,sB,↓reduceIte]
  refine hK1 _ ?_
  refine Ab fun K2 hK2=>?_
  refine Ad fun K3 hK3=>?_
  simp (disch:=(first | assumption | omega | (simp only [List.length_set]; omega))) only [ow,Ac,amL,amT,sA,↓reduceIte,reduceCtorEq]
  refine hK3 _ ?_
  refine Aj ?_
  skip
  refine Bh (α:=Nat × List Liq) (fun x=>⟨T [(0,.ptr nw 0),(1,isl gs),(2,isl ds),(6,.ptr (bd+6) 0),(14,.p (slV vs)),(15,i64 vs.length),(16,i64 (x.1:Int))],upd os (bd+6) (some (.cells (cW x.2)))⟩) (fun x=>vs.length - x.1) (fun x=>x.1≤vs.length∧x.2.length=4∧Ho (vs.drop x.1) gs ds x.1 x.2=P7 vs gs ds) (0,v0) ?_ ?_ (fun x hx4 K4 hK4=>?_)
  · exact ⟨by simp,rfl,rfl⟩
  · refine F5 ?_ ?_ ?_ ?_ <;> (try simp (disch:=(first | assumption | omega | (simp only [List.length_set]; omega))) only [ow,Ac,amL,sF,↓reduceIte,reduceCtorEq]); all_goals first | rfl | exact Pq hcl | exact (by first | ((repeat' first | exact Sub.refl _ | refine Sub.skip (by first | exact hfr0 _ | (simp (disch:=omega) only [Ac]; exact hfr0 _)) ?_ | refine Sub.both ?_); done) | fail) | trace_state
  obtain ⟨k,v⟩:=x; dsimp only at hx4 ⊢; obtain ⟨hk,hv4,hr⟩:=hx4; have hgk:=hg k; have hdk:=hd k; have hmu:=Amt hgk hdk
  refine Ad fun K5 hK5=>?_
  simp (disch:=(first | assumption | omega | (simp only [List.length_set]; omega))) only [amL,amT,sA,sF,↓reduceIte,reduceCtorEq]
  refine hK5 _ ?_
  refine Ab fun K6 hK6=>?_
  refine Ai rfl (fun h=>MT.x ?_) (fun h=>ME.x ?_)
  all_goals
   first
   |refine MT.mk ?_
    first
    |exact Bool.noConfusion h
    |skip
     try simp only [nrm] at h
     refine Am ?_
     refine hK6 _ ?_
   |refine ME.mk ?_
    first
    |exact Bool.noConfusion h
    |skip
     try simp only [nrm] at h
     refine B2 ?_
     refine hK2 _ ?_
     refine Ad fun K7 hK7=>?_
     simp (disch:=(first | assumption | omega | (simp only [List.length_set]; omega))) only [Cg,Fb,Bg,Fs,amL,amT,sA,sF,↓reduceIte,reduceCtorEq]
     refine hK7 _ ?_
     refine Af ?_
     try simp (disch:=(first | assumption | omega | (simp only [List.length_set]; omega))) only [amL]
     all_goals ((first | (have e:=Tc (by omega) (by assumption) hr) | (have e:=V0 (by omega) hr)) ; rw [e] ; refine Bj (res:=.tup [avW v,bl _]) os ?_ (by first | ((repeat' first | exact Sub.refl _ | refine Sub.skip (by first | exact hfr0 _ | (simp (disch:=omega) only [Ac]; exact hfr0 _)) ?_ | refine Sub.both ?_); done) | fail) hcl (Bk _ (Ei _ _)) ⟨rfl,rfl⟩ ; refine (H2 (n:=bd+6) (off:=0) (g:=true) (cs:=cW v) (x:=avW v) (by simp (disch:=(first | assumption | omega | (simp only [List.length_set]; omega))) only [amL,sF,↓reduceIte,reduceCtorEq]) (by simp only [amT]; rfl) (by simp (disch:=(first | assumption | omega | (simp only [List.length_set]; omega))) only [amL]; try rfl) (by simp only [amT,List.drop_zero]; exact Ahb hv4)).trans ?_ ; simp (disch:=(first | assumption | omega | (simp only [List.length_set]; omega))) only [amL,↓reduceIte] ; all_goals first | rfl | (omega))
  all_goals
   skip
   refine Ab fun K8 hK8=>?_
   refine Aj ?_
   refine Ad fun K9 hK9=>?_
   simp (disch:=(first | assumption | omega | (simp only [List.length_set]; omega))) only [hfr0,Ac,Cg,J4,amL,amT,sA,sB,sF,↓reduceIte,reduceCtorEq]
   refine hK9 _ ?_
   refine Ab fun K10 hK10=>?_
   refine Ab fun K11 hK11=>?_
   refine Bx (by kernel_rfl) (by kernel_rfl) ?_
   simp (disch:=(first | assumption | omega | (simp only [List.length_set]; omega))) only [amL,amT,sA,sF,↓reduceIte,reduceCtorEq]
   refine hK11 _ ?_
   refine Ai rfl (fun h=>MT.x ?_) (fun h=>ME.x ?_)
   all_goals
    first
    |refine MT.mk ?_
     first
     |exact Bool.noConfusion h
     |skip
      try simp only [nrm] at h
      refine Ad fun K12 hK12=>?_
      simp (disch:=(first | assumption | omega | (simp only [List.length_set]; omega))) only [Ac,Fb,Bg,Fs,amL,amT,sA,sF,↓reduceIte,reduceCtorEq]
      refine hK12 _ ?_
      refine Af ?_
      try simp (disch:=(first | assumption | omega | (simp only [List.length_set]; omega))) only [amL]
      all_goals ((first | (have e:=Tc (by omega) (by assumption) hr) | (have e:=V0 (by omega) hr)) ; rw [e] ; refine Bj (res:=.tup [avW v,bl _]) os ?_ (by first | ((repeat' first | exact Sub.refl _ | refine Sub.skip (by first | exact hfr0 _ | (simp (disch:=omega) only [Ac]; exact hfr0 _)) ?_ | refine Sub.both ?_); done) | fail) hcl (Bk _ (Ei _ _)) ⟨rfl,rfl⟩ ; refine (H2 (n:=bd+6) (off:=0) (g:=true) (cs:=cW v) (x:=avW v) (by simp (disch:=(first | assumption | omega | (simp only [List.length_set]; omega))) only [amL,sF,↓reduceIte,reduceCtorEq]) (by simp only [amT]; rfl) (by simp (disch:=(first | assumption | omega | (simp only [List.length_set]; omega))) only [amL]; try rfl) (by simp only [amT,List.drop_zero]; exact Ahb hv4)).trans ?_ ; simp (disch:=(first | assumption | omega | (simp only [List.length_set]; omega))) only [amL,↓reduceIte] ; all_goals first | rfl | (omega))
    |refine ME.mk ?_
     first
     |exact Bool.noConfusion h
     |skip
      try simp only [nrm] at h
      refine Am ?_
      refine hK10 _ ?_
   all_goals
    skip
    refine Bx (by kernel_rfl) (by kernel_rfl) ?_
    simp (disch:=(first | assumption | omega | (simp only [List.length_set]; omega))) only [Ac,Aqd,Asm,List.set_set,Ju,Bg,amL,amT,sA,sB,sE,sF,sH,↓reduceIte,reduceCtorEq]
    refine hK8 _ ?_
    refine Ak ?_
    simp (disch:=(first | assumption | omega | (simp only [List.length_set]; omega))) only [amL,amT,sA,sF,↓reduceIte,reduceCtorEq]
    refine hK4 (k+1,v.set k ⟨gs.getD k 0,gs.getD k 0 * ds.getD k 0⟩) _ ?_ ?_ (F5 ?_ ?_ ?_ ?_)
    all_goals (try simp (disch:=(first | assumption | omega | (simp only [List.length_set]; omega))) only [ow,Ac,amL,sF,↓reduceIte,reduceCtorEq])
    all_goals first | omega | exact ⟨by omega,by simp [hv4],Z9 (by omega) (by omega) hr⟩ | exact (by first | ((repeat' first | exact Sub.refl _ | refine Sub.skip (by first | exact hfr0 _ | (simp (disch:=omega) only [Ac]; exact hfr0 _)) ?_ | refine Sub.both ?_); done) | fail) | exact Pq hcl | trace_state
theorem Axi {b:E9} {s:Stp} {n:Int} {v:List Liq} (hs:H7 b.vs.length s=true) (hb:b.vs.length≤4) (hn:0≤n∧n≤60) (hv:OkV v):(kD s n v).all inR=true:=by
  obtain ⟨h1,h2,h3,_,h5⟩:=Gs hs
  have h6:=Jj h5
  refine Apz ⟨?_,?_,?_,?_,?_⟩ ?_ hv.small <;> (simp only [inR,Bool.and_eq_true,decide_eq_true_eq]; omega)
theorem Ace {os:Nat→Option AO} {n1 n2 n3:Nat} {t:Tru} {v w:List Liq} (hcl:(Hp os).closed):(Hp (upd (upd (upd os n1 (some (.cells (cT t)))) n2 (some (.cells (cW v)))) n3 (some (.cells (cW w))))).closed:=
  Pq (Pq (Acx hcl fun x hx=>by simp at hx; rcases hx with rfl | rfl | rfl <;> rfl))
theorem Eo {b:E9} {t:Tru} {nw m:Nat} {os:Nat→Option AO} {bd:Nat} (hW:Wk b.vs b.ss nw m os) (hv:Nf b) (ht:F0 b t=true) :
    Bs Try.prog bd (.fn (.func 62) [] []) [.ptr nw 0,avT t] os fun res os'=>res=.tup [avW (Ma b t).1,bl (Ma b t).2]∧os'=os:=by
  refine B9 (v:=[116,99]) (q:=[]) (N:=48) (rs:=[.cell 4 166,.tmp 5]) Try.func62 rfl (by kernel_rfl) rfl rfl (fun hcl hfree=>?_)
  have hfr0:∀ k,os (bd+k)=none:=fun k=>hfree _ (by omega)
  have hlw:=Bb hfree hW.ow
  have hlm:=Bb hfree hW.om
  have ow:=hW.ow
  have om:=hW.om
  obtain ⟨s1,s2,s3⟩:=Km hv ht
  obtain ⟨p1,p2,p3,p4,p5⟩:=Dm ht
  have hb0:=Vj hv ht
  have hnv:=hv.nv
  have hns:=hv.ns
  have bl4:=hb0.len
  refine Ad fun K1 hK1=>?_
  simp (disch:=(first | assumption | omega | (simp only [List.length_set]; omega))) only [hfr0,Ac,amL,amT,sA,sB,↓reduceIte,reduceCtorEq]
  refine hK1 _ ?_
  refine Ad fun K2 hK2=>?_
  simp (disch:=(first | assumption | omega | (simp only [List.length_set]; omega))) only [Ac,amL,amT,sA,sF,sG,↓reduceIte,reduceCtorEq]
  repeat' first | (refine Ca (bd:=bd+48) (by decide) (Amy (ss:=b.ss) (m:=m) ⟨by simp (disch:=omega) only [Ac]; exact ow,by simp (disch:=omega) only [Ac]; exact om⟩ hnv p1 p2 (fun k=>by have:=s1 k; omega) (fun k=>by have:=s2 k; omega)) (fun q hq=>by simp (disch:=omega) only [Ac]; exact hfree q (by omega)) (Nat.le_add_right _ _) (Ei _ _) ?_ ; simp (disch:=(first | assumption | omega | (simp only [List.length_set]; omega))) only [hfr0,Ac,Cg,Apc,Bg,amL,amT,sA,sB,sF,↓reduceIte])
  refine hK2 _ ?_
  refine Ab fun K3 hK3=>?_
  refine Ad fun K4 hK4=>?_
  simp (disch:=(first | assumption | omega | (simp only [List.length_set]; omega))) only [ow,Ac,amL,amT,sA,↓reduceIte,reduceCtorEq]
  refine hK4 _ ?_
  refine Aj ?_
  skip
  refine Bh (α:=Nat × (List Liq × Bool)) (fun x=>⟨T [(0,.ptr nw 0),(3,.ptr (bd+3) 0),(4,.ptr (bd+4) 0),(6,.ptr (bd+6) 0),(7,bl x.2.2),(23,.p (slS b.ss)),(24,i64 b.ss.length),(25,i64 (x.1:Int))],upd (upd (upd os (bd+3) (some (.cells (cT t)))) (bd+4) (some (.cells (cW v0)))) (bd+6) (some (.cells (cW x.2.1)))⟩) (fun x=>b.ss.length - x.1) (fun x=>x.1≤b.ss.length∧x.2.1.length=4∧(x.2.2=true→OkV x.2.1)∧J0 b.vs t.m (b.ss.drop x.1) x.1 x.2=Ma b t) (0,P7 b.vs t.g t.d) ?_ ?_ (fun x hx5 K5 hK5=>?_)
  · exact ⟨by simp,bl4,fun _=>hb0,rfl⟩
  · refine F5 ?_ ?_ ?_ ?_ <;> (try simp (disch:=(first | assumption | omega | (simp only [List.length_set]; omega))) only [ow,Ac,amL,sF,↓reduceIte,reduceCtorEq]); all_goals first | rfl | exact (by first | ((repeat' first | exact Sub.refl _ | refine Sub.skip (by first | exact hfr0 _ | (simp (disch:=omega) only [Ac]; exact hfr0 _)) ?_ | refine Sub.both ?_); done) | fail) | exact Ace hcl | (omega)
  obtain ⟨k,v,is⟩:=x; dsimp only at hx5 ⊢; obtain ⟨hk,hr4,ho,hr⟩:=hx5
  refine Ad fun K6 hK6=>?_
  simp (disch:=(first | assumption | omega | (simp only [List.length_set]; omega))) only [amL,amT,sA,sF,↓reduceIte,reduceCtorEq]
  refine hK6 _ ?_
  refine Ab fun K7 hK7=>?_
  refine Ai rfl (fun h=>MT.x ?_) (fun h=>ME.x ?_)
  all_goals
   first
   |refine MT.mk ?_
    first
    |exact Bool.noConfusion h
    |skip
     try simp only [nrm] at h
     refine Am ?_
     refine hK7 _ ?_
   |refine ME.mk ?_
    first
    |exact Bool.noConfusion h
    |skip
     try simp only [nrm] at h
     refine B2 ?_
     refine hK3 _ ?_
     refine Ad fun K8 hK8=>?_
     simp (disch:=(first | assumption | omega | (simp only [List.length_set]; omega))) only [Ac,Fb,Bg,Fs,amL,amT,sA,sB,sC,sF,↓reduceIte,reduceCtorEq]
     refine hK8 _ ?_
     refine Af ?_
     try simp (disch:=(first | assumption | omega | (simp only [List.length_set]; omega))) only [amL]
     all_goals ((first | (have e:=Sa (by omega) (by assumption) hr) | (have e:=Wa (by omega) hr)) ; rw [e] ; refine Bj (res:=.tup [avW v,bl _]) os ?_ (by first | ((repeat' first | exact Sub.refl _ | refine Sub.skip (by first | exact hfr0 _ | (simp (disch:=omega) only [Ac]; exact hfr0 _)) ?_ | refine Sub.both ?_); done) | fail) hcl (Bk _ (Ei _ _)) ⟨rfl,rfl⟩ ; refine (H2 (n:=bd+4) (off:=0) (g:=true) (cs:=cW v) (x:=avW v) (by simp (disch:=(first | assumption | omega | (simp only [List.length_set]; omega))) only [amL,sF,↓reduceIte,reduceCtorEq]) (by simp only [amT]; rfl) (by simp (disch:=(first | assumption | omega | (simp only [List.length_set]; omega))) only [amL]; try rfl) (by simp only [amT,List.drop_zero]; exact Ahb hr4)).trans ?_ ; simp (disch:=(first | assumption | omega | (simp only [List.length_set]; omega))) only [amL,↓reduceIte] ; all_goals first | rfl | (omega))
  all_goals
   skip
   refine Ab fun K9 hK9=>?_
   refine Aj ?_
   refine Ad fun K10 hK10=>?_
   simp (disch:=(first | assumption | omega | (simp only [List.length_set]; omega))) only [hfr0,Ac,Cg,V1,amL,amT,sA,sB,sF,↓reduceIte,reduceCtorEq]
   refine hK10 _ ?_
   refine Ab fun K11 hK11=>?_
   refine Ad fun K12 hK12=>?_
   simp (disch:=(first | assumption | omega | (simp only [List.length_set]; omega))) only [amL,sA,sF,↓reduceIte,reduceCtorEq]
   refine hK12 _ ?_
   refine Ai rfl (fun h=>MT.x ?_) (fun h=>ME.x ?_)
   all_goals
    first
    |refine MT.mk ?_
     first
     |exact Bool.noConfusion h
     |skip
      try simp only [nrm] at h
      refine Ad fun K13 hK13=>?_
      simp (disch:=(first | assumption | omega | (simp only [List.length_set]; omega))) only [Ac,Fb,Bg,Fs,amL,amT,sA,sB,sC,sF,↓reduceIte,reduceCtorEq]
      refine hK13 _ ?_
      refine Af ?_
      try simp (disch:=(first | assumption | omega | (simp only [List.length_set]; omega))) only [amL]
      all_goals ((first | (have e:=Sa (by omega) (by assumption) hr) | (have e:=Wa (by omega) hr)) ; rw [e] ; refine Bj (res:=.tup [avW v,bl _]) os ?_ (by first | ((repeat' first | exact Sub.refl _ | refine Sub.skip (by first | exact hfr0 _ | (simp (disch:=omega) only [Ac]; exact hfr0 _)) ?_ | refine Sub.both ?_); done) | fail) hcl (Bk _ (Ei _ _)) ⟨rfl,rfl⟩ ; refine (H2 (n:=bd+4) (off:=0) (g:=true) (cs:=cW v) (x:=avW v) (by simp (disch:=(first | assumption | omega | (simp only [List.length_set]; omega))) only [amL,sF,↓reduceIte,reduceCtorEq]) (by simp only [amT]; rfl) (by simp (disch:=(first | assumption | omega | (simp only [List.length_set]; omega))) only [amL]; try rfl) (by simp only [amT,List.drop_zero]; exact Ahb hr4)).trans ?_ ; simp (disch:=(first | assumption | omega | (simp only [List.length_set]; omega))) only [amL,↓reduceIte] ; all_goals first | rfl | (omega))
    |refine ME.mk ?_
     first
     |exact Bool.noConfusion h
     |skip
      try simp only [nrm] at h
      refine Am ?_
      refine hK11 _ ?_
   all_goals
    skip
    refine X1 (by kernel_rfl) (by kernel_rfl) ?_
    have his:is=true:=by assumption
    have hov:=ho his
    have hst:=hv.stp (k:=k) (by omega)
    obtain ⟨q1,q2,q3,_⟩:=Gs hst
    have hmk:=s3 k
    have hd4:(doS b.vs v (b.ss.getD k default) (t.m.getD k 0)).1.length=4:=by rw [Wx]; exact hr4
    simp (disch:=(first | assumption | omega | (simp only [List.length_set]; omega))) only [Ac,A8,Fb,Bg,amL,amT,sA,sB,sF,sG,↓reduceIte,reduceCtorEq]
    repeat' first | (refine Ca (bd:=bd+48) (by decide) (Ban (ss:=b.ss) (m:=m) (s:=b.ss.getD k default) ⟨by simp (disch:=omega) only [Ac]; exact ow,by simp (disch:=omega) only [Ac]; exact om⟩ hr4 hov.small hnv q1 ⟨q2.1,by omega⟩ ⟨q3.1,by omega⟩ ⟨hmk.1,by omega⟩ (Axi hst hnv hmk hov)) (fun q hq=>by simp (disch:=omega) only [Ac]; exact hfree q (by omega)) (Nat.le_add_right _ _) (Ei _ _) ?_ ; simp (disch:=(first | assumption | omega | (simp only [List.length_set]; omega))) only [Ac,Bg,Fs,amL,amT,sA,sF,↓reduceIte,reduceCtorEq])
    refine hK9 _ ?_
    refine Ak ?_
    simp (disch:=(first | assumption | omega | (simp only [List.length_set]; omega))) only [amL,amT,sA,sF,↓reduceIte,reduceCtorEq]
    refine hK5 (k+1,doS b.vs v (b.ss.getD k default) (t.m.getD k 0)) _ ?_ ?_ (F5 ?_ ?_ ?_ ?_)
    all_goals (try simp (disch:=(first | assumption | omega | (simp only [List.length_set]; omega))) only [ow,Ac,amL,sF,↓reduceIte,reduceCtorEq])
    all_goals first | omega | exact ⟨by omega,by rw [Wx]; exact hr4,fun hd=>Am1 hov hnv hv.v hst hmk.1 hd,Abd (by omega) his hr⟩ | exact (by first | ((repeat' first | exact Sub.refl _ | refine Sub.skip (by first | exact hfr0 _ | (simp (disch:=omega) only [Ac]; exact hfr0 _)) ?_ | refine Sub.both ?_); done) | fail) | exact Ace hcl | (omega)
theorem Anq (n:Nat) (hn:n≤1000000):Pf Try.prog 115 [E7,i64 (n:Int)] 1 []:=by
  refine Yg (v:=[]) (q:=[]) (N:=27) (i:=4) Try.func115 rfl rfl rfl rfl ?_
  refine Ad fun K1 hK1=>?_
  simp (disch:=omega) only [amL,sA,sB]
  refine hK1 _ ?_
  refine Ab fun K2 hK2=>?_
  refine Ad fun K3 hK3=>?_
  simp (disch:=omega) only [amL,amT,sA,sF,↓reduceIte,reduceCtorEq]
  refine hK3 _ ?_
  refine Ai rfl (fun h=>MT.x ?_) (fun h=>ME.x ?_)
  all_goals
   first
   |refine MT.mk ?_
    first
    |exact Bool.noConfusion h
    |skip
     try simp only [nrm] at h
     exfalso; omega
   |refine ME.mk ?_
    first
    |exact Bool.noConfusion h
    |skip
     try simp only [nrm] at h
     refine Am ?_
     refine hK2 _ ?_
  all_goals
   skip
   refine Ab fun K4 hK4=>?_
   refine Ab fun K5 hK5=>?_
   refine H5 ?_
   refine Sr ?_
   simp (disch:=omega) only [amL,sA,sF,↓reduceIte,reduceCtorEq]
   refine Sr ?_
   simp (disch:=omega) only [amL,sA,↓reduceIte,reduceCtorEq]
   refine AL.step (Ps (t:=22) (e:=3) rfl (fun k hk=>by cases hk; decide) (by simp only [amT]) rfl ?_)
   refine F3 ?_
   simp (disch:=omega) only [Int.sub_zero,Int.sub_self,amL,amT,sA,sF,↓reduceIte,reduceCtorEq]
   refine hK5 _ ?_
   refine Ad fun K6 hK6=>?_
   simp (disch:=omega) only [amL,amT,sA,↓reduceIte]
   refine hK6 _ ?_
   refine Ai rfl (fun h=>MT.x ?_) (fun h=>ME.x ?_)
   all_goals
    first
    |refine MT.mk ?_
     first
     |exact Bool.noConfusion h
     |skip
      try simp only [nrm] at h
      refine H5 ?_
      refine Sr ?_
      simp (disch:=omega) only [amL,sA,↓reduceIte,reduceCtorEq]
      refine Sr ?_
      simp (disch:=omega) only [amL,sA,↓reduceIte,reduceCtorEq]
      refine AL.step (Ps (t:=22) (e:=3) rfl (fun k hk=>by cases hk; decide) (by simp only [amT]) rfl ?_)
      refine AL.step (R9 (t:=22) (e:=3) rfl (fun k hk=>by cases hk; decide) (by simp only [amT]) (by simp only [amT]; rfl) rfl rfl ?_)
      refine Sr ?_
      simp (disch:=omega) only [amL,sA,sF,↓reduceIte]
      refine AL.step (Us (t:=22) (t':=3) (e:=3) (k:=.i64) (n:=n) (dk:=22) rfl rfl (by decide) rfl (by simp only [amT]) (by simp only [amT]) (by simp only [amT]; rfl) (by simp only [amT]; rfl) (by simp only [amT]; decide) (by simp only [amT]; rfl) rfl rfl (by omega) hn (by simp only [amT]; omega) ?_)
      refine Sr ?_
      simp (disch:=omega) only [amL,amT,sA,↓reduceIte,reduceCtorEq]
      refine Sr ?_
      simp (disch:=omega) only [amL,amT,sA,↓reduceIte]
      refine AL.step (Rq (t:=22) (e:=3) (n:=22) (len:=n) (dk:=25) rfl rfl (by decide) (by simp only [amT]) (by simp only [amT]; rfl) rfl (by omega) rfl rfl rfl ?_)
      refine F3 ?_
      simp (disch:=omega) only [amL,sA,↓reduceIte]
      refine hK4 _ ?_
    |refine ME.mk ?_
     first
     |exact Bool.noConfusion h
     |skip
      try simp only [nrm] at h
      refine Am ?_
      refine hK4 _ ?_
   all_goals
    skip
    refine Ad fun K7 hK7=>?_
    simp (disch:=omega) only [amL,sA,↓reduceIte,reduceCtorEq]
    refine hK7 _ ?_
    refine Af ?_
    try simp (disch:=omega) only [Zd,amL,↓reduceIte]
    all_goals rfl
abbrev Af1 (t:List Int):List PV:=[.sl (t.map P0)]
theorem Vl {l:List (List Int)} {k:Nat} (h:k < l.length):(l.map Af1).getD k []=Af1 (l.getD k []):=C1 _ _ _ h
theorem Vg {l:List (List Int)} {k:Nat} (h:k < l.length):(l.take (k+1)).flatten=(l.take k).flatten++l.getD k []:=by
  have e:l.take (k+1)=l.take k++[l.getD k []]:=by
    rw [List.take_add_one,List.getElem?_eq_getElem h]; simp [List.getD,h]
  rw [e,List.flatten_append]; simp
theorem R7 {l:List (List Int)} (k:Nat):(l.take k).flatten.length≤l.flatten.length:=by
  have:l.flatten=(l.take k).flatten++(l.drop k).flatten:=by rw [← List.flatten_append,List.take_append_drop]
  rw [this,List.length_append]; omega
theorem Agg (l:List Int):((l.map P0).all fun c=>decide (c.length=1))=true:=by
  rw [List.all_eq_true]; intro c hc; obtain ⟨z,-,rfl⟩:=List.mem_map.1 hc; rfl
theorem Adk {os:Nat→Option AO} {n len k:Nat} {es:List (List PV)} (h:os n=some (.arr k es)) (h1:len=es.length) (h2:(es.all fun e=>e.all PV.isVal)=true):Rd k os (.own n len)=some es:=by
  unfold Rd; simp only [h]; rw [if_pos ⟨trivial,h1,h2⟩]
theorem Abp (l:List Int):((l.map P0).all fun e=>e.all PV.isVal)=true:=by
  rw [List.all_eq_true]; intro c hc; obtain ⟨z,-,rfl⟩:=List.mem_map.1 hc; rfl
theorem Agy (ls:List (List Int)) (hl:ls.length < 1000000) (hf:ls.flatten.length≤1000000):Pf Try.prog 58 [.p (.sl (ls.map Af1))] 1 (ls.flatten.map P0):=by
  refine Yg (v:=[]) (q:=[]) (N:=36) (i:=2) Try.func58 rfl rfl rfl rfl ?_
  refine Ad fun K1 hK1=>?_
  simp (disch:=omega) only [amL,sA]
  refine hK1 _ ?_
  refine Ad fun K2 hK2=>?_
  simp (disch:=omega) only [amL,sA]
  refine hK2 _ ?_
  refine Ab fun K3 hK3=>?_
  refine Ad fun K4 hK4=>?_
  simp (disch:=omega) only [amL,amT,sA,↓reduceIte,reduceCtorEq]
  refine hK4 _ ?_
  refine Aj ?_
  skip
  refine Bh (α:=Nat) (fun k=>⟨T [(0,.p (.sl (ls.map Af1))),(3,i64 ((ls.take k).flatten.length:Int)),(9,.p (.sl (ls.map Af1))),(10,i64 ls.length),(11,i64 (k:Int))],O []⟩) (fun k=>ls.length - k) (fun k=>k≤ls.length) 0 ?_ ?_ (fun k hx5 K5 hK5=>?_)
  · simp
  · refine C2 ?_ ?_ ?_ ?_ <;> (try simp (disch:=omega) only [amL,sF,↓reduceIte,reduceCtorEq]); all_goals rfl
  have hk:=hx5; have hk2:=R7 (l:=ls) k; have hk3:=R7 (l:=ls) (k+1)
  refine Ad fun K6 hK6=>?_
  simp (disch:=omega) only [amL,amT,sA,sF,↓reduceIte,reduceCtorEq]
  refine hK6 _ ?_
  refine Ab fun K7 hK7=>?_
  refine Ai rfl (fun h=>MT.x ?_) (fun h=>ME.x ?_)
  all_goals
   first
   |refine MT.mk ?_
    first
    |exact Bool.noConfusion h
    |skip
     try simp only [nrm] at h
     refine Am ?_
     refine hK7 _ ?_
   |refine ME.mk ?_
    first
    |exact Bool.noConfusion h
    |skip
     try simp only [nrm] at h
     refine B2 ?_
     refine hK3 _ ?_
     refine Ad fun K8 hK8=>?_
     have htk:ls.take k=ls:=List.take_of_length_le (by omega)
     simp (disch:=omega) only [htk,amL,sA,sF,↓reduceIte,reduceCtorEq]
     repeat' first | (refine Yn (by kernel_rfl) (by decide) (Anq ls.flatten.length hf) (by simp (disch:=omega) only [amL]) ?_ ; simp (disch:=omega) only [amL,sA,↓reduceIte])
     refine hK8 _ ?_
     refine Ab fun K9 hK9=>?_
     refine Ad fun K10 hK10=>?_
     simp (disch:=omega) only [amL,amT,sA,↓reduceIte,reduceCtorEq]
     refine hK10 _ ?_
     refine Aj ?_
     refine S3 24 33 rfl (by decide) (by decide) ?_
     refine Bh (α:=Nat) (fun k=>⟨T [(6,.own 33 (ls.take k).flatten.length),(25,.p (.sl (ls.map Af1))),(26,i64 ls.length),(27,i64 (k:Int))],O [(33,.arr 1 ((ls.take k).flatten.map P0))]⟩) (fun k=>ls.length - k) (fun k=>k≤ls.length) 0 ?_ ?_ (fun k hx11 K11 hK11=>?_)
     · simp
     · refine C2 ?_ ?_ ?_ ?_ <;> (try simp (disch:=omega) only [Yz,Xb,AV.ren,AO.ren,rn,amL,sF,↓reduceIte]); all_goals first | rfl | trace_state
     have hk:=hx11; have hk2:=R7 (l:=ls) k; have hk3:=R7 (l:=ls) (k+1)
     refine Ad fun K12 hK12=>?_
     simp (disch:=omega) only [amL,amT,sA,sF,↓reduceIte]
     refine hK12 _ ?_
     refine Ab fun K13 hK13=>?_
     refine Ai rfl (fun h=>MT.x ?_) (fun h=>ME.x ?_)
     all_goals
      first
      |refine MT.mk ?_
       first
       |exact Bool.noConfusion h
       |skip
        try simp only [nrm] at h
        refine Am ?_
        refine hK13 _ ?_
      |refine ME.mk ?_
       first
       |exact Bool.noConfusion h
       |skip
        try simp only [nrm] at h
        refine B2 ?_
        refine hK9 _ ?_
        refine Ad fun K14 hK14=>?_
        simp (disch:=omega) only [amL,sA,sF,↓reduceIte]
        refine hK14 _ ?_
        refine Af ?_
        try simp (disch:=omega) only [Zd,amL,↓reduceIte]
        rw [List.take_of_length_le (show ls.length≤k by omega)] ; exact Adk rfl (List.length_map _).symm (Abp _)
     all_goals
      skip
      refine Ab fun K15 hK15=>?_
      refine Aj ?_
      refine Ad fun K16 hK16=>?_
      simp (disch:=omega) only [Vl,amL,amT,sA,sF,↓reduceIte]
      refine hK16 _ ?_
      refine Ak ?_
      have hk5:=Vg (l:=ls) (k:=k) (by omega)
      have hk4:=congrArg List.length hk5
      rw [List.length_append] at hk4
      simp (disch:=omega) only [Agg,amL,amT,sA,sF,↓reduceIte]
      refine hK15 _ ?_
      refine Ak ?_
      simp (disch:=omega) only [amL,amT,sA,sF,↓reduceIte]
      refine hK11 (k+1) _ ?_ ?_ (C2 ?_ ?_ ?_ ?_)
      all_goals (try simp (disch:=omega) only [amL,sF,↓reduceIte])
      all_goals first | omega | (rw [hk4]; done) | (rw [hk5,List.map_append]; done) | (rw [hk5,List.map_append]; rfl) | trace_state
  all_goals
   skip
   refine Ab fun K17 hK17=>?_
   refine Aj ?_
   refine Ad fun K18 hK18=>?_
   simp (disch:=omega) only [Vl,amL,amT,sA,sF,↓reduceIte,reduceCtorEq]
   refine hK18 _ ?_
   refine Ad fun K19 hK19=>?_
   have hk4:=congrArg List.length (Vg (l:=ls) (k:=k) (by omega))
   rw [List.length_append] at hk4
   simp (disch:=omega) only [amL,amT,sA,sF,↓reduceIte,reduceCtorEq]
   refine hK19 _ ?_
   refine Ad fun K20 hK20=>?_
   simp (disch:=omega) only [amL,amT,sA,↓reduceIte]
   refine hK20 _ ?_
   refine Ai rfl (fun h=>MT.x ?_) (fun h=>ME.x ?_)
   all_goals
    first
    |refine MT.mk ?_
     first
     |exact Bool.noConfusion h
     |skip
      try simp only [nrm] at h
      exfalso; omega
    |refine ME.mk ?_
     first
     |exact Bool.noConfusion h
     |skip
      try simp only [nrm] at h
      refine Am ?_
      refine hK17 _ ?_
   all_goals
    skip
    refine Ak ?_
    simp (disch:=omega) only [amL,amT,sA,sF,↓reduceIte,reduceCtorEq]
    refine hK5 (k+1) _ ?_ ?_ (C2 ?_ ?_ ?_ ?_)
    all_goals (try simp (disch:=omega) only [amL,sF,↓reduceIte,reduceCtorEq])
    all_goals first | omega | exact congrArg i64 (by omega) | trace_state
theorem Ai0 {α β:Type} {l:List α} {f:α→β} {k:Nat} (d:α) (h:k < l.length):(l.take (k+1)).map f=(l.take k).map f++[f (l.getD k d)]:=by
  rw [List.take_add_one,List.getElem?_eq_getElem h,List.map_append]
  simp [List.getD,h]
theorem Agd {α:Type} {l:List α} {p:List Rng} {f:α→Rng} {k:Nat} (d:α) (h:k < l.length):(p++(l.take k).map f).map Gp++[Gp (f (l.getD k d))]=(p++(l.take (k+1)).map f).map Gp:=by
  rw [Ai0 d h]; simp
theorem Ao1 {α β:Type} {l:List α} {p:List β} {f:α→β} {k:Nat} (h:k < l.length):(p++(l.take k).map f).length+1=(p++(l.take (k+1)).map f).length:=by simp; omega
theorem Sv {α:Type} {l:List α} {k:Nat} (h1:k≤l.length) (h2:¬ (k:Int) < l.length):l.take k=l:=List.take_of_length_le (by omega)
theorem X2 (b:E9) (hl:b.vs.length < 1000000) (hl2:b.ss.length < 1000000):Bo Try.prog 59 [avB b] (.p (.sl ((Fw b).map Gp))):=by
  refine A0 (v:=[]) (q:=[]) (N:=49) (rs:=[.tmp 2]) Try.func59 rfl rfl rfl rfl rfl ?_
  obtain ⟨p1,hp1⟩:∃ p,p=([]:List Rng):=⟨_,rfl⟩
  obtain ⟨p2,hp2⟩:∃ p,p=b.vs.map (·.g):=⟨_,rfl⟩
  obtain ⟨p3,hp3⟩:∃ p,p=b.vs.map (·.g)++b.vs.map (·.d):=⟨_,rfl⟩
  refine Ad fun K1 hK1=>?_
  simp (disch:=omega) only [amL,sA,↓reduceIte]
  refine hK1 _ ?_
  refine Ab fun K2 hK2=>?_
  refine Ad fun K3 hK3=>?_
  simp (disch:=omega) only [amL,amT,sA,sF,↓reduceIte,reduceCtorEq]
  refine hK3 _ ?_
  refine Aj ?_
  refine Tg 20 2 2 (by decide) rfl rfl ?_
  refine Bh (α:=Nat) (fun k=>⟨T [(1,.ptr 1 0),(2,.own 20 (p1++(b.vs.take k).map (·.g)).length),(10,.p (slV b.vs)),(11,i64 b.vs.length),(12,i64 (k:Int))],O [(1,.cells (cB b)),(20,.arr 2 ((p1++(b.vs.take k).map (·.g)).map Gp))]⟩) (fun k=>b.vs.length - k) (fun k=>k≤b.vs.length) 0 ?_ ?_ (fun k hx4 K4 hK4=>?_)
  · simp
  · refine C2 ?_ ?_ ?_ ?_ <;> (try simp (disch:=omega) only [amL,sF,sG,↓reduceIte]); all_goals subst hp1; rfl
  have hk:=hx4; have hk2:(p1++(b.vs.take k).map (·.g)).length≤2000000:=(by subst hp1; simp; omega)
  refine Ad fun K5 hK5=>?_
  simp (disch:=omega) only [amL,amT,sA,sF,↓reduceIte]
  refine hK5 _ ?_
  refine Ab fun K6 hK6=>?_
  refine Ai rfl (fun h=>MT.x ?_) (fun h=>ME.x ?_)
  all_goals
   first
   |refine MT.mk ?_
    first
    |exact Bool.noConfusion h
    |skip
     try simp only [nrm] at h
     refine Am ?_
     refine hK6 _ ?_
   |refine ME.mk ?_
    first
    |exact Bool.noConfusion h
    |skip
     try simp only [nrm] at h
     refine B2 ?_
     refine hK2 _ ?_
     refine Ab fun K7 hK7=>?_
     refine Ad fun K8 hK8=>?_
     simp (disch:=omega) only [amL,amT,sA,sF,↓reduceIte,reduceCtorEq]
     refine hK8 _ ?_
     refine Aj ?_
     refine S3 20 33 rfl (by decide) (by decide) ?_
     refine Bh (α:=Nat) (fun k=>⟨T [(1,.ptr 1 0),(2,.own 33 (p2++(b.vs.take k).map (·.d)).length),(23,.p (slV b.vs)),(24,i64 b.vs.length),(25,i64 (k:Int))],O [(1,.cells (cB b)),(33,.arr 2 ((p2++(b.vs.take k).map (·.d)).map Gp))]⟩) (fun k=>b.vs.length - k) (fun k=>k≤b.vs.length) 0 ?_ ?_ (fun k hx9 K9 hK9=>?_)
     · simp
     · refine C2 ?_ ?_ ?_ ?_ <;> (try simp (disch:=omega) only [Yz,Xb,AV.ren,AO.ren,rn,amL,sF,sG,↓reduceIte]); all_goals first | rfl | (rw [Sv (by assumption) (by assumption)]; subst hp1 hp2; simp)
     have hk:=hx9; have hk2:(p2++(b.vs.take k).map (·.d)).length≤3000000:=(by subst hp2; simp; omega)
     refine Ad fun K10 hK10=>?_
     simp (disch:=omega) only [amL,amT,sA,sF,↓reduceIte]
     refine hK10 _ ?_
     refine Ab fun K11 hK11=>?_
     refine Ai rfl (fun h=>MT.x ?_) (fun h=>ME.x ?_)
     all_goals
      first
      |refine MT.mk ?_
       first
       |exact Bool.noConfusion h
       |skip
        try simp only [nrm] at h
        refine Am ?_
        refine hK11 _ ?_
      |refine ME.mk ?_
       first
       |exact Bool.noConfusion h
       |skip
        try simp only [nrm] at h
        refine B2 ?_
        refine hK7 _ ?_
        refine Ab fun K12 hK12=>?_
        refine Ad fun K13 hK13=>?_
        simp (disch:=omega) only [amL,amT,sA,sF,↓reduceIte,reduceCtorEq]
        refine hK13 _ ?_
        refine Aj ?_
        refine S3 33 46 rfl (by decide) (by decide) ?_
        refine Bh (α:=Nat) (fun k=>⟨T [(1,.ptr 1 0),(2,.own 46 (p3++(b.ss.take k).map (·.g)).length),(36,.p (slS b.ss)),(37,i64 b.ss.length),(38,i64 (k:Int))],O [(1,.cells (cB b)),(46,.arr 2 ((p3++(b.ss.take k).map (·.g)).map Gp))]⟩) (fun k=>b.ss.length - k) (fun k=>k≤b.ss.length) 0 ?_ ?_ (fun k hx14 K14 hK14=>?_)
        · simp
        · refine C2 ?_ ?_ ?_ ?_ <;> (try simp (disch:=omega) only [Yz,Xb,AV.ren,AO.ren,rn,amL,sF,sG,↓reduceIte]); all_goals first | rfl | (rw [Sv (by assumption) (by assumption)]; subst hp2 hp3; simp)
        have hk:=hx14; have hk2:(p3++(b.ss.take k).map (·.g)).length≤4000000:=(by subst hp3; simp; omega)
        refine Ad fun K15 hK15=>?_
        simp (disch:=omega) only [amL,amT,sA,sF,↓reduceIte]
        refine hK15 _ ?_
        refine Ab fun K16 hK16=>?_
        refine Ai rfl (fun h=>MT.x ?_) (fun h=>ME.x ?_)
        all_goals
         first
         |refine MT.mk ?_
          first
          |exact Bool.noConfusion h
          |skip
           try simp only [nrm] at h
           refine Am ?_
           refine hK16 _ ?_
         |refine ME.mk ?_
          first
          |exact Bool.noConfusion h
          |skip
           try simp only [nrm] at h
           refine B2 ?_
           refine hK12 _ ?_
           refine Ad fun K17 hK17=>?_
           simp (disch:=omega) only [amL,sA,sF,↓reduceIte]
           refine hK17 _ ?_
           refine Af ?_
           try simp (disch:=omega) only [amL,sF,↓reduceIte]
           rw [List.take_of_length_le (by simp),Sv hk h,hp3]; rfl
        all_goals
         skip
         refine Ab fun K18 hK18=>?_
         refine Aj ?_
         refine Ad fun K19 hK19=>?_
         simp (disch:=omega) only [V1,amL,amT,sA,sB,sF,↓reduceIte]
         refine hK19 _ ?_
         refine Ak ?_
         simp (disch:=omega) only [amL,amT,sA,sB,sC,sE,sF,↓reduceIte,reduceCtorEq]
         refine hK18 _ ?_
         refine Ak ?_
         simp (disch:=omega) only [amL,amT,sA,sF,↓reduceIte]
         refine hK14 (k+1) _ ?_ ?_ (C2 ?_ ?_ ?_ ?_)
         all_goals (try simp (disch:=omega) only [amL,sF,sG,↓reduceIte])
         all_goals first | omega | exact congrArg (AV.own _) (Ao1 (by omega)) | exact congrArg (AO.arr 2) (Agd default (by omega)) | trace_state
     all_goals
      skip
      refine Ab fun K20 hK20=>?_
      refine Aj ?_
      refine Ad fun K21 hK21=>?_
      simp (disch:=omega) only [J4,amL,amT,sA,sB,sF,↓reduceIte]
      refine hK21 _ ?_
      refine Ak ?_
      simp (disch:=omega) only [amL,amT,sA,sB,sC,sE,sF,↓reduceIte,reduceCtorEq]
      refine hK20 _ ?_
      refine Ak ?_
      simp (disch:=omega) only [amL,amT,sA,sF,↓reduceIte]
      refine hK9 (k+1) _ ?_ ?_ (C2 ?_ ?_ ?_ ?_)
      all_goals (try simp (disch:=omega) only [amL,sF,sG,↓reduceIte])
      all_goals first | omega | exact congrArg (AV.own _) (Ao1 (by omega)) | exact congrArg (AO.arr 2) (Agd default (by omega)) | trace_state
  all_goals
   skip
   refine Ab fun K22 hK22=>?_
   refine Aj ?_
   refine Ad fun K23 hK23=>?_
   simp (disch:=omega) only [J4,amL,amT,sA,sB,sF,↓reduceIte]
   refine hK23 _ ?_
   refine Ak ?_
   simp (disch:=omega) only [amL,amT,sA,sB,sC,sE,sF,↓reduceIte,reduceCtorEq]
   refine hK22 _ ?_
   refine Ak ?_
   simp (disch:=omega) only [amL,amT,sA,sF,↓reduceIte]
   refine hK4 (k+1) _ ?_ ?_ (C2 ?_ ?_ ?_ ?_)
   all_goals (try simp (disch:=omega) only [amL,sF,sG,↓reduceIte])
   all_goals first | omega | exact congrArg (AV.own _) (Ao1 (by omega)) | exact congrArg (AO.arr 2) (Agd default (by omega)) | trace_state
theorem elV:ElT Try.prog 46 56 avV Agh:=Xm (P:=Try.prog) (tS:=46) (tE:=56) (enc:=Agh) (n:=5) (by simp only [amT]) (by simp only [amT]; rfl) (by simp only [amT]) (fun _=>rfl)
theorem elS:ElT Try.prog 47 58 avS Aj3:=Xm (P:=Try.prog) (tS:=47) (tE:=58) (enc:=Aj3) (n:=5) (by simp only [amT]) (by simp only [amT]; rfl) (by simp only [amT]) (fun _=>rfl)
theorem sfV:Jn Try.prog 46 56 221 3 4 181 147:=⟨⟨_,Try.func181,rfl,rfl,rfl,by kernel_rfl⟩,⟨_,Try.func147,rfl,rfl,rfl,by kernel_rfl⟩⟩
theorem afV:Akd Try.prog 46 56 221 4 147 148 101:=⟨⟨_,Try.func148,rfl,rfl,rfl,by kernel_rfl⟩,⟨_,Try.func101,rfl,rfl,rfl,by kernel_rfl⟩⟩
theorem sfS:Jn Try.prog 47 58 216 3 4 182 149:=⟨⟨_,Try.func182,rfl,rfl,rfl,by kernel_rfl⟩,⟨_,Try.func149,rfl,rfl,rfl,by kernel_rfl⟩⟩
theorem afS:Akd Try.prog 47 58 216 4 149 150 103:=⟨⟨_,Try.func150,rfl,rfl,rfl,by kernel_rfl⟩,⟨_,Try.func103,rfl,rfl,rfl,by kernel_rfl⟩⟩
theorem Apf (l:List Ves) (hl:l.length < 1000000) {os:Nat→Option AO} {bd:Nat}:Bs Try.prog bd (.fn (.func 101) [] []) [.p (slV l),.fn (.func 102) [] []] os fun res os'=>res=bl (l.all Kd)∧os'=os:=
  Aj4 elV sfV afV (by simp only [amT]; rfl) (by kernel_rfl) rfl (fun x _=>Ajn x) hl
theorem An9 (b:E9) (l:List Stp) (hb:b.vs.length < 1000000) (hl:l.length < 1000000) {os:Nat→Option AO} {bd:Nat}:Bs Try.prog bd (.fn (.func 103) [] []) [.p (slS l),.fn (.func 97) [avB b] []] os fun res os'=>res=bl (l.all (H7 b.vs.length))∧os'=os:=
  Aj4 elS sfS afS (by simp only [amT]; rfl) (by kernel_rfl) rfl (fun x _=>Aoq b x hb) hl
theorem Af2 {p s:Int} (h1:1≤p) (h2:p≤4782969) (h3:1≤s) (h4:s≤3):-9223372036854775808≤p * s∧p * s < 9223372036854775808:=by
  have e1:=Int.mul_le_mul h2 h4 (by omega) (by omega)
  have e2:=Int.mul_nonneg (show 0≤p by omega) (show 0≤s by omega)
  omega
theorem Amk (b:E9) (hl:b.vs.length < 1000000) (hl2:b.ss.length < 1000000):Bo Try.prog 42 [avB b] (i64 (C0 b)):=by
  refine A0 (v:=[101,103]) (q:=[]) (N:=52) (rs:=[.tmp 2]) Try.func42 rfl rfl rfl rfl rfl ?_
  refine Ad fun K1 hK1=>?_
  simp (disch:=omega) only [amL,sA,↓reduceIte]
  refine hK1 _ ?_
  refine Ad fun K2 hK2=>?_
  simp (disch:=omega) only [amL,amT,sA,sB,sF,↓reduceIte]
  refine hK2 _ ?_
  refine Ab fun K3 hK3=>?_
  refine Aj ?_
  refine Ad fun K4 hK4=>?_
  simp (disch:=omega) only [amL,amT,sA,sF,↓reduceIte,reduceCtorEq]
  repeat' first | (refine Ck (fun h=>?_) (fun h=>?_) <;> simp (disch:=omega) only [h,amL,amT,sA,sF,↓reduceIte,reduceCtorEq]) | (refine Bp (fun h=>?_) (fun h=>?_) <;> simp (disch:=omega) only [h,Bw,amL,amT,sA,sB,sC,sD,sE,sF,sG,sH,sI,sJ,sK,sL,sM,sN,sO,↓reduceIte,reduceCtorEq])
  all_goals
   skip
   refine hK4 _ ?_
   refine Ai rfl (fun h=>MT.x ?_) (fun h=>ME.x ?_)
   all_goals
    first
    |refine MT.mk ?_
     first
     |exact Bool.noConfusion h
     |skip
      try simp only [nrm] at h
      refine Ad fun K5 hK5=>?_
      simp (disch:=omega) only [amL,sA]
      refine hK5 _ ?_
      refine Af ?_
      try simp (disch:=omega) only [amL,↓reduceIte]
      all_goals first | (unfold C0; rw [if_pos (by omega)]; done) | (unfold C0; rw [if_neg (by omega),if_pos (by omega)]; done) | (unfold C0; rw [if_neg (by omega),if_neg (by omega),if_pos (by first | (simp_all; done) | fail)]; done) | (unfold C0; rw [if_neg (by omega),if_neg (by omega),if_neg (by first | (simp_all; done) | fail),if_pos (by first | assumption | fail)]; done) | (unfold C0; rw [if_neg (by omega),if_neg (by omega),if_neg (by rw [hv]; decide),if_neg (by rw [hs]; decide)]; rw [Sv (by assumption) (by assumption)] at h; first | (rw [if_pos (show 2000 < Ni b from h)]; done) | (rw [if_neg (show ¬ 2000 < Ni b from h)]; done)) | trace_state
    |refine ME.mk ?_
     first
     |exact Bool.noConfusion h
     |skip
      try simp only [nrm] at h
      refine Ad fun K6 hK6=>?_
      simp (disch:=omega) only [amL,amT,sA,sF,↓reduceIte,reduceCtorEq]
      repeat' first | (refine Ck (fun h=>?_) (fun h=>?_) <;> simp (disch:=omega) only [h,amL,amT,sA,sF,sG,↓reduceIte,reduceCtorEq]) | (refine Bp (fun h=>?_) (fun h=>?_) <;> simp (disch:=omega) only [h,amL,amT,sA,sF,sG,↓reduceIte,reduceCtorEq]) | (refine Ca (bd:=52) (by decide) (Apf b.vs hl) (Gg rfl) (by decide) rfl ?_ ; simp (disch:=omega) only [amL,sA,sF,↓reduceIte]) | (refine Ca (bd:=52) (by decide) (An9 b b.ss hl hl2) (Gg rfl) (by decide) rfl ?_ ; simp (disch:=omega) only [amL,sA,sF,↓reduceIte])
      all_goals
       skip
       refine hK6 _ ?_
       refine Ai rfl (fun h=>MT.x ?_) (fun h=>ME.x ?_)
       all_goals
        first
        |refine MT.mk ?_
         first
         |exact Bool.noConfusion h
         |skip
          try simp only [nrm] at h
          refine Ad fun K7 hK7=>?_
          simp (disch:=omega) only [amL,sA]
          refine hK7 _ ?_
          refine Af ?_
          try simp (disch:=omega) only [amL,↓reduceIte]
          all_goals first | (unfold C0; rw [if_pos (by omega)]; done) | (unfold C0; rw [if_neg (by omega),if_pos (by omega)]; done) | (unfold C0; rw [if_neg (by omega),if_neg (by omega),if_pos (by first | (simp_all; done) | fail)]; done) | (unfold C0; rw [if_neg (by omega),if_neg (by omega),if_neg (by first | (simp_all; done) | fail),if_pos (by first | assumption | fail)]; done) | (unfold C0; rw [if_neg (by omega),if_neg (by omega),if_neg (by rw [hv]; decide),if_neg (by rw [hs]; decide)]; rw [Sv (by assumption) (by assumption)] at h; first | (rw [if_pos (show 2000 < Ni b from h)]; done) | (rw [if_neg (show ¬ 2000 < Ni b from h)]; done)) | trace_state
        |refine ME.mk ?_
         first
         |exact Bool.noConfusion h
         |skip
          try simp only [nrm] at h
          refine Am ?_
          refine hK3 _ ?_
   all_goals
    skip
    refine Ad fun K8 hK8=>?_
    have hv:b.vs.all Kd=true:=by simp_all
    have hs:b.ss.all (H7 b.vs.length)=true:=by simp_all
    have hpb:=T7 (Vu hv hs)
    have hln:=Pd (b:=b)
    simp (disch:=omega) only [amL,sA]
    refine hK8 _ ?_
    refine Ab fun K9 hK9=>?_
    refine Ad fun K10 hK10=>?_
    simp (disch:=omega) only [amL,amT,sA,sB,sF,sG,↓reduceIte]
    repeat' first | (refine Aw (by kernel_rfl) rfl (X2 b hl hl2) (by first | exact .inl rfl | exact .inr (.inl rfl)) ?_ ; simp (disch:=omega) only [amL,amT,sA,↓reduceIte])
    refine hK10 _ ?_
    refine Aj ?_
    skip
    refine Bh (α:=Nat) (fun k=>⟨T [(4,i64 (Ll ((Fw b).take k) 1)),(39,.p (.sl ((Fw b).map Gp))),(40,i64 (Fw b).length),(41,i64 (k:Int))],O []⟩) (fun k=>(Fw b).length - k) (fun k=>k≤(Fw b).length) 0 ?_ ?_ (fun k hx11 K11 hK11=>?_)
    · simp
    · refine C2 ?_ ?_ ?_ ?_ <;> (try simp (disch:=omega) only [amL,sF,↓reduceIte]); all_goals rfl
    have hk:=hx11
    refine Ad fun K12 hK12=>?_
    simp (disch:=omega) only [amL,amT,sA,sF,↓reduceIte]
    refine hK12 _ ?_
    refine Ab fun K13 hK13=>?_
    refine Ai rfl (fun h=>MT.x ?_) (fun h=>ME.x ?_)
    all_goals
     first
     |refine MT.mk ?_
      first
      |exact Bool.noConfusion h
      |skip
       try simp only [nrm] at h
       refine Am ?_
       refine hK13 _ ?_
     |refine ME.mk ?_
      first
      |exact Bool.noConfusion h
      |skip
       try simp only [nrm] at h
       refine B2 ?_
       refine hK9 _ ?_
       refine Ab fun K14 hK14=>?_
       refine Ad fun K15 hK15=>?_
       simp (disch:=omega) only [amL,amT,sA,sF,↓reduceIte]
       refine hK15 _ ?_
       refine Ai rfl (fun h=>MT.x ?_) (fun h=>ME.x ?_)
       all_goals
        first
        |refine MT.mk ?_
         first
         |exact Bool.noConfusion h
         |skip
          try simp only [nrm] at h
          refine Ad fun K16 hK16=>?_
          simp (disch:=omega) only [amL,sA]
          refine hK16 _ ?_
          refine Af ?_
          try simp (disch:=omega) only [amL,↓reduceIte]
          all_goals first | (unfold C0; rw [if_pos (by omega)]; done) | (unfold C0; rw [if_neg (by omega),if_pos (by omega)]; done) | (unfold C0; rw [if_neg (by omega),if_neg (by omega),if_pos (by first | (simp_all; done) | fail)]; done) | (unfold C0; rw [if_neg (by omega),if_neg (by omega),if_neg (by first | (simp_all; done) | fail),if_pos (by first | assumption | fail)]; done) | (unfold C0; rw [if_neg (by omega),if_neg (by omega),if_neg (by rw [hv]; decide),if_neg (by rw [hs]; decide)]; rw [Sv (by assumption) (by assumption)] at h; first | (rw [if_pos (show 2000 < Ni b from h)]; done) | (rw [if_neg (show ¬ 2000 < Ni b from h)]; done)) | trace_state
        |refine ME.mk ?_
         first
         |exact Bool.noConfusion h
         |skip
          try simp only [nrm] at h
          refine Am ?_
          refine hK14 _ ?_
       all_goals
        skip
        refine Ad fun K17 hK17=>?_
        simp (disch:=omega) only [amL,sA]
        refine hK17 _ ?_
        refine Af ?_
        try simp (disch:=omega) only [amL,↓reduceIte]
        all_goals first | (unfold C0; rw [if_pos (by omega)]; done) | (unfold C0; rw [if_neg (by omega),if_pos (by omega)]; done) | (unfold C0; rw [if_neg (by omega),if_neg (by omega),if_pos (by first | (simp_all; done) | fail)]; done) | (unfold C0; rw [if_neg (by omega),if_neg (by omega),if_neg (by first | (simp_all; done) | fail),if_pos (by first | assumption | fail)]; done) | (unfold C0; rw [if_neg (by omega),if_neg (by omega),if_neg (by rw [hv]; decide),if_neg (by rw [hs]; decide)]; rw [Sv (by assumption) (by assumption)] at h; first | (rw [if_pos (show 2000 < Ni b from h)]; done) | (rw [if_neg (show ¬ 2000 < Ni b from h)]; done)) | trace_state
    all_goals
     skip
     refine Ab fun K18 hK18=>?_
     refine Aj ?_
     refine Ad fun K19 hK19=>?_
     simp (disch:=omega) only [Bw,amL,amT,sA,sB,sF,↓reduceIte]
     refine hK19 _ ?_
     refine Ak ?_
     have hsz:=Vu hv hs _ (AM.Wort.Gh default (show k < (Fw b).length by omega))
     have hp:=hpb k (by omega)
     have hp3:=Alx (k:=k) (by omega)
     have hm:=Af2 hp.1 (by omega) hsz.1 hsz.2
     have hw:IntKind.i64.wrap (Ll ((Fw b).take k) 1 * Ji ((Fw b).getD k default))=_:=Dk hm.1 hm.2
     have hw2:IntKind.i64.wrap ((k:Int)+1)=_:=Dk (by omega) (by omega)
     unfold Ji at hsz
     simp (disch:=omega) only [amL,amT,sA,sB,sF,sG,↓reduceIte]
     repeat' first | (refine Aw (by kernel_rfl) rfl (Aoh ((Fw b).getD k default) (by omega) (by omega)) (by first | exact .inl rfl | exact .inr (.inl rfl)) ?_ ; simp (disch:=omega) only [amL,amT,sA,sF,↓reduceIte])
     refine hK18 _ ?_
     refine Ak ?_
     simp (disch:=omega) only [amL,amT,sA,sF,↓reduceIte]
     refine hK11 (k+1) _ ?_ ?_ (C2 ?_ ?_ ?_ ?_)
     all_goals (try simp (disch:=omega) only [amL,sF,↓reduceIte])
     all_goals first | omega | (rw [Tr (l:=Fw b) (k:=k) (by omega)]) | trace_state
theorem Ax {l:List (Nat × AO)} {b:Nat} (h:l.all fun x=>decide (x.1 < b)):∀ n,b≤n→O l n=none:=by
  intro n hn
  induction l with
  | nil=>rfl
  | cons x l ih=>
    simp only [List.all_cons,Bool.and_eq_true,decide_eq_true_eq] at h
    rw [Ag,if_neg (by omega)]
    exact ih h.2
theorem Cb {r:RB} {N:Nat} {s:St} {K:St→Prop} {dst:Option Nat} {ty:TypeId} {pos:String} {after:Array Edge} {g:Option (Nat × Bool)} {x:Operand} {lo hi:Option Operand}:EO Try.prog r N ⟨dst,.slice 166 x lo hi none,ty,pos,after,g⟩ s K=EOp r.b N dst s K (Ano (fun e=>(Aa Try.prog e).sz) (fun e=>(Aa Try.prog e).agg) 4 164 (ev s.t x) (Bn (ev s.t) 0 lo) (Bn (ev s.t) 4 hi)):=Af5 (by rw [Ani])
theorem ld2 {a b:AV} {l:List AV}:(if 2≤(a :: b :: l).length then some (AV.agg (List.take 2 (a :: b :: l))) else none)=some (.agg [a,b]):=by simp
theorem Cm {n:Nat} (v:List Liq):(cW v).map (AV.purge n)=cW v:=by
  unfold cW
  rw [List.map_map]; rfl
theorem Aaf {ks:List Nat} (v:List Liq):nmL ks (cW v)=true:=by
  unfold cW
  generalize wI v=l
  induction l with
  | nil=>rfl
  | cons x l ih=>simp only [List.map_cons,nmL,nm,ih,Bool.and_self]
def Dp (b:E9) (t:Tru):AV:=
  if C0 b=0 then
    if F0 b t=true then
      if (Ma b t).2=true then .tup [.p (.sl (((Ma b t).1.take b.vs.length).map fun l=>Axo (Au5 l))),i64 0] else .tup [E7,i64 11]
    else .tup [E7,i64 2]
  else .tup [E7,i64 (C0 b)]
theorem Afm (b:E9) (t:Tru):(Dp b t).isP=true:=by
  unfold Dp; split <;> (try split) <;> (try split) <;> rfl
theorem Alz (b:E9) (t:Tru) (hl:b.vs.length < 1000000) (hl2:b.ss.length < 1000000) (hn:(Jg t).length≤1000000):Bo Try.prog 16 [avB b,avT t] (Dp b t):=by
  refine A0 (v:=[61,62]) (q:=[]) (N:=99) (rs:=[.tmp 4,.tmp 5]) Try.func16 rfl rfl rfl rfl (Afm b t) ?_
  have hnl:=Agw t
  have hrl:=Pd (b:=b)
  have hcc:=Agy [t.g,t.d,t.m] (by simp) hn
  rw [show [t.g,t.d,t.m].flatten=Jg t from rfl] at hcc
  refine Ab fun K1 hK1=>?_
  refine Ak ?_
  simp (disch:=omega) only [Ah,Ag,amL,sA,sB,sF,↓reduceIte,reduceCtorEq]
  refine hK1 _ ?_
  refine Ab fun K2 hK2=>?_
  refine Ab fun K3 hK3=>?_
  refine Ak ?_
  simp (disch:=omega) only [Ah,Ag,amL,amT,sA,sB,sF,sG,↓reduceIte]
  repeat' first | (refine Aw (by kernel_rfl) rfl (Amk b hl hl2) (by first | exact .inl rfl | exact .inr (.inl rfl)) ?_ ; simp (disch:=omega) only [Ah,amL,sA,↓reduceIte])
  refine hK3 _ ?_
  refine Ab fun K4 hK4=>?_
  refine Ak ?_
  simp (disch:=omega) only [ne_eq,Ah,amL,amT,sA,↓reduceIte]
  refine hK4 _ ?_
  refine Ai rfl (fun h=>?_) (fun h=>?_)
  ·first
   | exact Bool.noConfusion h
   |skip
    try simp only [Bool.not_eq_true',decide_eq_false_iff_not,decide_not] at h
    refine Ab fun K5 hK5=>?_
    refine Ak ?_
    simp (disch:=omega) only [Ah,amL,sA,sF,↓reduceIte]
    refine hK5 _ ?_
    refine Af ?_
    try simp (disch:=omega) only [Ah,amL,sF,↓reduceIte]
    all_goals first | (rw [Dp,if_neg (by assumption)]; done) | (have e9:k=b.vs.length:=(by omega) ; rw [Dp,if_pos hf0,if_pos hli,if_pos hbt,List.take_of_length_le (by simp ; omega),e9,hw] ; done) | (rw [Dp,if_pos hf0,if_pos hli,if_neg (by simpa using h)]; done) | (rw [Dp,if_pos (by omega),if_neg (fun e=>by have:=Dm e; omega)]; done) | (rw [Dp,if_pos (by omega),if_neg (fun e=>by have:=Ki e (k:=k) (by omega); simp_all)]; done) | trace_state
  ·first
   | exact Bool.noConfusion h
   |skip
    try simp only [decide_eq_true_eq,Bool.not_eq_false',decide_not] at h
    refine Am ?_
    refine hK2 _ ?_
    refine Ab fun K6 hK6=>?_
    refine Ak ?_
    simp (disch:=omega) only [and_self,Ah,Ag,amL,amT,sA,sB,sE,sF,sG,↓reduceIte,reduceCtorEq]
    repeat' first | (refine Yn (by kernel_rfl) (by decide) (hcc) (by simp (disch:=omega) only [Ag,amL,sF,↓reduceIte]) ?_ ; simp (disch:=omega) only [Ah,amL,sA,↓reduceIte])
    refine hK6 _ ?_
    refine Ab fun K7 hK7=>?_
    refine Ab fun K8 hK8=>?_
    refine Ak ?_
    simp (disch:=omega) only [ne_eq,Ah,Ag,amL,amT,sA,sF,↓reduceIte,reduceCtorEq]
    repeat' first | (refine Ck (fun h=>?_) (fun h=>?_) <;> simp (disch:=omega) only [h,ne_eq,Ah,Ag,amL,amT,sA,sF,↓reduceIte,reduceCtorEq]) | (refine Bp (fun h=>?_) (fun h=>?_) <;> simp (disch:=omega) only [h,Bw,A8,ne_eq,Ac,Ba,Av,Bm,Bc,and_self,Ah,Ag,Bg,Cb,Cr,B1,B0,Cn,Ky,Lk,Kk,Int.sub_zero,Int.toNat_natCast,Co,ld2,Cm,amL,amT,sA,sB,sC,sD,sE,sF,sG,sH,sI,sJ,sK,sL,sM,sN,sO,↓reduceIte,reduceCtorEq])
    all_goals
     skip
     refine hK8 _ ?_
     refine Ai rfl (fun h=>?_) (fun h=>?_)
     ·first
      | exact Bool.noConfusion h
      |skip
       try simp only [Bool.not_eq_true',decide_eq_false_iff_not,decide_not] at h
       refine Ab fun K9 hK9=>?_
       refine Ak ?_
       simp (disch:=omega) only [amL,sA]
       refine hK9 _ ?_
       refine Af ?_
       try simp (disch:=omega) only [Ah,amL,sF,↓reduceIte]
       all_goals first | (rw [Dp,if_neg (by assumption)]; done) | (have e9:k=b.vs.length:=(by omega) ; rw [Dp,if_pos hf0,if_pos hli,if_pos hbt,List.take_of_length_le (by simp ; omega),e9,hw] ; done) | (rw [Dp,if_pos hf0,if_pos hli,if_neg (by simpa using h)]; done) | (rw [Dp,if_pos (by omega),if_neg (fun e=>by have:=Dm e; omega)]; done) | (rw [Dp,if_pos (by omega),if_neg (fun e=>by have:=Ki e (k:=k) (by omega); simp_all)]; done) | trace_state
     ·first
      | exact Bool.noConfusion h
      |skip
       try simp only [decide_eq_true_eq,Bool.not_eq_false',decide_not] at h
       refine Am ?_
       refine hK7 _ ?_
       refine Ab fun K10 hK10=>?_
       refine Ab fun K11 hK11=>?_
       refine Ak ?_
       simp (disch:=omega) only [Ah,Ag,amL,amT,sA,sB,sF,sG,↓reduceIte]
       repeat' first | (refine Aw (by kernel_rfl) rfl (X2 b hl hl2) (by first | exact .inl rfl | exact .inr (.inl rfl)) ?_ ; simp (disch:=omega) only [Ah,amL,amT,sA,↓reduceIte])
       refine hK11 _ ?_
       refine Aj ?_
       skip
       refine Bh (α:=Nat) (fun k=>⟨T [(2,.ptr 2 0),(3,.ptr 3 0),(4,E7),(5,i64 0),(6,i64 (C0 b)),(7,.own 27 (Jg t).length),(54,.p (.sl ((Fw b).map Gp))),(55,i64 (Fw b).length),(56,i64 (k:Int))],O [(2,.cells (cB b)),(3,.cells (cT t)),(27,.arr 1 ((Jg t).map P0))]⟩) (fun k=>(Fw b).length - k) (fun k=>k≤(Fw b).length∧∀ j,j < k→Jy ((Fw b).getD j default) ((Jg t).getD j 0)=true) 0 ?_ ?_ (fun k hx12 K12 hK12=>?_)
       · exact ⟨by simp,fun j hj=>absurd hj (Nat.not_lt_zero _)⟩
       · refine C2 ?_ ?_ ?_ ?_ <;> (try simp (disch:=omega) only [Ba,Av,Bm,Bc,and_self,Ah,Ag,amL,sF,sG,↓reduceIte]); all_goals first | rfl | trace_state
       obtain ⟨hk,hpre⟩:=hx12
       refine Ab fun K13 hK13=>?_
       refine Ak ?_
       simp (disch:=omega) only [Ah,amL,amT,sA,sF,↓reduceIte]
       refine hK13 _ ?_
       refine Ab fun K14 hK14=>?_
       refine Ai rfl (fun h=>?_) (fun h=>?_)
       ·first
        | exact Bool.noConfusion h
        |skip
         try simp only [decide_eq_true_eq] at h
         refine Am ?_
         refine hK14 _ ?_
         refine Ab fun K15 hK15=>?_
         refine Aj ?_
         refine Ab fun K16 hK16=>?_
         refine Ak ?_
         simp (disch:=omega) only [Bw,and_self,Ah,Ag,Int.toNat_natCast,amL,amT,sA,sB,sF,↓reduceIte]
         refine hK16 _ ?_
         refine Ab fun K17 hK17=>?_
         refine Bx (by kernel_rfl) (by kernel_rfl) ?_
         simp (disch:=omega) only [A8,and_self,Ah,Ag,Int.toNat_natCast,amL,amT,sA,sB,sF,sG,↓reduceIte]
         repeat' first | (refine Aw (by kernel_rfl) rfl (Aug ((Fw b).getD k default) ((Jg t).getD k 0)) (by first | exact .inl rfl | exact .inr (.inl rfl)) ?_ ; simp (disch:=omega) only [Ah,amL,sA,↓reduceIte])
         refine hK17 _ ?_
         refine Ai rfl (fun h=>?_) (fun h=>?_)
         ·first
          | exact Bool.noConfusion h
          |skip
           try simp only [Bool.not_eq_true'] at h
           refine Ab fun K18 hK18=>?_
           refine Ak ?_
           simp (disch:=omega) only [amL,sA]
           refine hK18 _ ?_
           refine Af ?_
           try simp (disch:=omega) only [Ah,amL,sF,↓reduceIte]
           all_goals first | (rw [Dp,if_neg (by assumption)]; done) | (have e9:k=b.vs.length:=(by omega) ; rw [Dp,if_pos hf0,if_pos hli,if_pos hbt,List.take_of_length_le (by simp ; omega),e9,hw] ; done) | (rw [Dp,if_pos hf0,if_pos hli,if_neg (by simpa using h)]; done) | (rw [Dp,if_pos (by omega),if_neg (fun e=>by have:=Dm e; omega)]; done) | (rw [Dp,if_pos (by omega),if_neg (fun e=>by have:=Ki e (k:=k) (by omega); simp_all)]; done) | trace_state
         ·first
          | exact Bool.noConfusion h
          |skip
           try simp only [Bool.not_eq_false'] at h
           refine Am ?_
           refine hK15 _ ?_
           refine Ak ?_
           simp (disch:=omega) only [Ah,amL,amT,sA,sF,↓reduceIte]
           refine hK12 (k+1) _ ?_ ?_ (C2 ?_ ?_ ?_ ?_)
           all_goals (try simp (disch:=omega) only [Ba,Av,Bm,Bc,and_self,Ah,Ag,amL,sF,sG,↓reduceIte])
           all_goals first | omega | exact ⟨by omega,fun j hj=>by
             by_cases e:j=k
             · subst e; assumption
             · exact hpre j (by omega)⟩ | trace_state
       ·first
        | exact Bool.noConfusion h
        |skip
         try simp only [decide_eq_false_iff_not] at h
         refine B2 ?_
         refine hK10 _ ?_
         refine Ab fun K19 hK19=>?_
         have hli:F0 b t=true:=Adh (by omega) (by omega) (by omega) (fun j hj=>hpre j (by omega))
         have hf0:C0 b=0:=by omega
         have hval:=Ajg hf0
         obtain ⟨hw4,hwo⟩:=Aj2 hval hli
         obtain ⟨w,hw⟩:∃ w,w=(Ma b t).1:=⟨_,rfl⟩
         rw [← hw] at hw4 hwo
         have hpc:A7 [i64 0,i64 0,i64 0,i64 0,i64 0,i64 0,i64 0,i64 0] 0 (cW w)=cW w:=Fs (v:=v0) hw4
         refine Aea [(2,.ptr 2 0),(4,E7),(5,i64 0),(10,.ptr 10 0),(11,bl (Ma b t).2)] [(2,.cells (cB b)),(10,.cells (cW w))] hK19 rfl (by simp only [U5,nmO,Aaf,nmL,nm,Bool.and_self]) ?_ (fun K19 hK19=>?_)
         · refine Ahm (n:=5) (l:=[0,1,0,7,15,31,31,0,191,511]) (by kernel_rfl) (by kernel_rfl) (by kernel_rfl) ?_
           refine Fi (ls:=[0,2,7]) rfl ⟨?_,?_,?_,trivial⟩
           · refine D5 (rem':=[1,2,3,4,5,6,7,8,9]) rfl rfl ?_
             simp (disch:=omega) only [Ah,Ag,amL,amT,sA,sB,sF,↓reduceIte]
             refine Fi (ls:=[1,2,7]) rfl ⟨?_,?_,?_,trivial⟩
             · refine D5 (rem':=[2,3,4,5,6,7,8,9]) rfl rfl ?_
               simp (disch:=omega) only [Ah,amL,sG,↓reduceIte]
               refine A9 [(2,.ptr 2 0),(3,.ptr 3 0),(4,E7),(5,i64 0)] (by decide) (D1 (b:=b) (bd:=99)) (Ax rfl) (by decide) (fun res os2 hR hcl2 hlv2=>?_)
               obtain ⟨rfl,rfl⟩:=hR
               simp (disch:=omega) only [Ba,Av,and_self,Ah,Ag,amL,sB,sF,↓reduceIte]
               refine Fi (ls:=[2,7]) rfl ⟨?_,?_,trivial⟩
               · refine D5 (rem':=[3,4,5,6,7,8,9]) rfl rfl ?_
                 simp (disch:=omega) only [Ah,Ag,amL,amT,sA,sB,sF,↓reduceIte]
                 refine Fi (ls:=[3,7]) rfl ⟨?_,?_,trivial⟩
                 · refine D5 (rem':=[4,5,6,7,8,9]) rfl rfl ?_
                   simp (disch:=omega) only [Ah,amL,sF,sG,↓reduceIte]
                   (refine Ca (bd:=300) (by decide) (Eo (m:=103) ⟨by simp (disch:=omega) only [Ag,↓reduceIte],by simp (disch:=omega) only [Ag,sF,↓reduceIte]⟩ hval hli) (fun q hq=>by simp (disch:=omega) only []; exact Ax rfl q (by omega)) (by decide) (Ei _ _) ?_ ; rw [← hw] ; simp (disch:=omega) only [amL])
                   refine D9 (by kernel_rfl) ?_
                   show EL _ _ _ _ [_,_,_,_,_,_] _ _
                   simp (disch:=omega) only [and_self,Ah,Ag,Bg,amL,amT,sA,sB,sF,↓reduceIte]
                   try (refine A9 [(2,.ptr 2 0),(3,.ptr 3 0),(4,E7),(5,i64 0),(72,avT t),(10,.ptr 10 0)] (by decide) (D1 (b:=b) (bd:=99)) (Ax rfl) (by decide) (fun res os2 hR hcl2 hlv2=>?_) ; obtain ⟨rfl,rfl⟩:=hR ; simp (disch:=omega) only [Bw,A8,ne_eq,Ac,Ba,Av,Bm,Bc,and_self,Ah,Ag,Bg,Cb,Cr,B1,B0,Cn,Ky,Lk,Kk,Int.sub_zero,Int.toNat_natCast,Co,ld2,Cm,amL,amT,sA,sB,sC,sD,sE,sF,sG,sH,sI,sJ,sK,sL,sM,sN,sO,↓reduceIte,reduceCtorEq])
                   try (refine Ca (bd:=300) (by decide) (Eo (m:=103) ⟨by simp (disch:=omega) only [Bw,A8,ne_eq,Ac,Ba,Av,Bm,Bc,and_self,Ah,Ag,Bg,Cb,Cr,B1,B0,Cn,Ky,Lk,Kk,Int.sub_zero,Int.toNat_natCast,Co,ld2,Cm,amL,amT,sA,sB,sC,sD,sE,sF,sG,sH,sI,sJ,sK,sL,sM,sN,sO,↓reduceIte,reduceCtorEq],by simp (disch:=omega) only [Bw,A8,ne_eq,Ac,Ba,Av,Bm,Bc,and_self,Ah,Ag,Bg,Cb,Cr,B1,B0,Cn,Ky,Lk,Kk,Int.sub_zero,Int.toNat_natCast,Co,ld2,Cm,amL,amT,sA,sB,sC,sD,sE,sF,sG,sH,sI,sJ,sK,sL,sM,sN,sO,↓reduceIte,reduceCtorEq]⟩ hval hli) (fun q hq=>by simp (disch:=omega) only [Ac]; exact Ax rfl q (by omega)) (by decide) (Ei _ _) ?_ ; rw [← hw] ; simp (disch:=omega) only [Bw,A8,ne_eq,Ac,Ba,Av,Bm,Bc,and_self,Ah,Ag,Bg,Cb,Cr,B1,B0,Cn,Ky,Lk,Kk,Int.sub_zero,Int.toNat_natCast,Co,ld2,Cm,amL,amT,sA,sB,sC,sD,sE,sF,sG,sH,sI,sJ,sK,sL,sM,sN,sO,↓reduceIte,reduceCtorEq])
                   exact ⟨rfl,by simp (disch:=omega) only [Ba,Av,and_self,Ah,sF,↓reduceIte],by simp (disch:=omega) only [Bm,Bc,Ag,amL,sF,↓reduceIte] ; try exact congrArg AO.cells hpc⟩
                 · refine D5 (rem':=[3,4,5,6,8,9]) rfl rfl ?_
                   simp (disch:=omega) only [and_self,Ag,amL,amT,sA,sB,sF,↓reduceIte]
                   refine D9 (by kernel_rfl) ?_
                   show EL _ _ _ _ [_,_,_,_,_,_] _ _
                   simp (disch:=omega) only [Ah,amL,sF,sG,↓reduceIte]
                   try (refine A9 [(2,.ptr 2 0),(3,.ptr 3 0),(4,E7),(5,i64 0),(72,avT t),(10,.ptr 10 0)] (by decide) (D1 (b:=b) (bd:=99)) (Ax rfl) (by decide) (fun res os2 hR hcl2 hlv2=>?_) ; obtain ⟨rfl,rfl⟩:=hR ; simp (disch:=omega) only [Bw,A8,ne_eq,Ac,Ba,Av,Bm,Bc,and_self,Ah,Ag,Bg,Cb,Cr,B1,B0,Cn,Ky,Lk,Kk,Int.sub_zero,Int.toNat_natCast,Co,ld2,Cm,amL,amT,sA,sB,sC,sD,sE,sF,sG,sH,sI,sJ,sK,sL,sM,sN,sO,↓reduceIte,reduceCtorEq])
                   try (refine Ca (bd:=300) (by decide) (Eo (m:=103) ⟨by simp (disch:=omega) only [Ag,sF,↓reduceIte],by simp (disch:=omega) only [Ag,sF,↓reduceIte]⟩ hval hli) (fun q hq=>by simp (disch:=omega) only []; exact Ax rfl q (by omega)) (by decide) (Ei _ _) ?_ ; rw [← hw] ; simp (disch:=omega) only [Ah,Ag,Bg,amL,amT,sA,sB,sF,↓reduceIte])
                   exact ⟨rfl,by simp (disch:=omega) only [Ba,Av,and_self,Ah,sF,↓reduceIte],by simp (disch:=omega) only [Bm,Bc,Ag,amL,sF,↓reduceIte] ; try exact congrArg AO.cells hpc⟩
               · refine D5 (rem':=[2,3,4,5,6,8,9]) rfl rfl ?_
                 simp (disch:=omega) only [and_self,Ag,amL,amT,sA,sB,sF,↓reduceIte]
                 refine D9 (by kernel_rfl) ?_
                 show EL _ _ _ _ [_,_,_,_,_,_,_] _ _
                 simp (disch:=omega) only [Ah,Ag,amL,amT,sA,sB,sF,sG,↓reduceIte]
                 try (refine A9 [(2,.ptr 2 0),(3,.ptr 3 0),(4,E7),(5,i64 0),(72,avT t),(10,.ptr 10 0)] (by decide) (D1 (b:=b) (bd:=99)) (Ax rfl) (by decide) (fun res os2 hR hcl2 hlv2=>?_) ; obtain ⟨rfl,rfl⟩:=hR ; simp (disch:=omega) only [Bw,A8,ne_eq,Ac,Ba,Av,Bm,Bc,and_self,Ah,Ag,Bg,Cb,Cr,B1,B0,Cn,Ky,Lk,Kk,Int.sub_zero,Int.toNat_natCast,Co,ld2,Cm,amL,amT,sA,sB,sC,sD,sE,sF,sG,sH,sI,sJ,sK,sL,sM,sN,sO,↓reduceIte,reduceCtorEq])
                 try (refine Ca (bd:=300) (by decide) (Eo (m:=103) ⟨by simp (disch:=omega) only [Ag,sF,↓reduceIte],by simp (disch:=omega) only [Ag,sF,↓reduceIte]⟩ hval hli) (fun q hq=>by simp (disch:=omega) only []; exact Ax rfl q (by omega)) (by decide) (Ei _ _) ?_ ; rw [← hw] ; simp (disch:=omega) only [Ah,Ag,Bg,amL,amT,sA,sB,sF,↓reduceIte])
                 exact ⟨rfl,by simp (disch:=omega) only [Ba,Av,and_self,Ah,sF,↓reduceIte],by simp (disch:=omega) only [Bm,Bc,Ag,amL,sF,↓reduceIte] ; try exact congrArg AO.cells hpc⟩
             · refine D5 (rem':=[1,3,4,5,6,7,8,9]) rfl rfl ?_
               simp (disch:=omega) only [Ah,Ag,amL,amT,sA,sB,sF,↓reduceIte]
               refine Fi (ls:=[1,7]) rfl ⟨?_,?_,trivial⟩
               · refine D5 (rem':=[3,4,5,6,7,8,9]) rfl rfl ?_
                 simp (disch:=omega) only [Ah,amL,sF,sG,↓reduceIte]
                 refine A9 [(2,.ptr 2 0),(3,.ptr 3 0),(4,E7),(5,i64 0),(72,avT t)] (by decide) (D1 (b:=b) (bd:=99)) (Ax rfl) (by decide) (fun res os2 hR hcl2 hlv2=>?_)
                 obtain ⟨rfl,rfl⟩:=hR
                 simp (disch:=omega) only [Ba,Av,and_self,Ah,Ag,amL,sB,sF,↓reduceIte]
                 refine Fi (ls:=[3,7]) rfl ⟨?_,?_,trivial⟩
                 · refine D5 (rem':=[4,5,6,7,8,9]) rfl rfl ?_
                   simp (disch:=omega) only [Ah,amL,sF,sG,↓reduceIte]
                   (refine Ca (bd:=300) (by decide) (Eo (m:=103) ⟨by simp (disch:=omega) only [Ag,↓reduceIte],by simp (disch:=omega) only [Ag,sF,↓reduceIte]⟩ hval hli) (fun q hq=>by simp (disch:=omega) only []; exact Ax rfl q (by omega)) (by decide) (Ei _ _) ?_ ; rw [← hw] ; simp (disch:=omega) only [amL])
                   refine D9 (by kernel_rfl) ?_
                   show EL _ _ _ _ [_,_,_,_,_,_] _ _
                   simp (disch:=omega) only [and_self,Ah,Ag,Bg,amL,amT,sA,sB,sF,↓reduceIte]
                   try (refine A9 [(2,.ptr 2 0),(3,.ptr 3 0),(4,E7),(5,i64 0),(72,avT t),(10,.ptr 10 0)] (by decide) (D1 (b:=b) (bd:=99)) (Ax rfl) (by decide) (fun res os2 hR hcl2 hlv2=>?_) ; obtain ⟨rfl,rfl⟩:=hR ; simp (disch:=omega) only [Bw,A8,ne_eq,Ac,Ba,Av,Bm,Bc,and_self,Ah,Ag,Bg,Cb,Cr,B1,B0,Cn,Ky,Lk,Kk,Int.sub_zero,Int.toNat_natCast,Co,ld2,Cm,amL,amT,sA,sB,sC,sD,sE,sF,sG,sH,sI,sJ,sK,sL,sM,sN,sO,↓reduceIte,reduceCtorEq])
                   try (refine Ca (bd:=300) (by decide) (Eo (m:=103) ⟨by simp (disch:=omega) only [Bw,A8,ne_eq,Ac,Ba,Av,Bm,Bc,and_self,Ah,Ag,Bg,Cb,Cr,B1,B0,Cn,Ky,Lk,Kk,Int.sub_zero,Int.toNat_natCast,Co,ld2,Cm,amL,amT,sA,sB,sC,sD,sE,sF,sG,sH,sI,sJ,sK,sL,sM,sN,sO,↓reduceIte,reduceCtorEq],by simp (disch:=omega) only [Bw,A8,ne_eq,Ac,Ba,Av,Bm,Bc,and_self,Ah,Ag,Bg,Cb,Cr,B1,B0,Cn,Ky,Lk,Kk,Int.sub_zero,Int.toNat_natCast,Co,ld2,Cm,amL,amT,sA,sB,sC,sD,sE,sF,sG,sH,sI,sJ,sK,sL,sM,sN,sO,↓reduceIte,reduceCtorEq]⟩ hval hli) (fun q hq=>by simp (disch:=omega) only [Ac]; exact Ax rfl q (by omega)) (by decide) (Ei _ _) ?_ ; rw [← hw] ; simp (disch:=omega) only [Bw,A8,ne_eq,Ac,Ba,Av,Bm,Bc,and_self,Ah,Ag,Bg,Cb,Cr,B1,B0,Cn,Ky,Lk,Kk,Int.sub_zero,Int.toNat_natCast,Co,ld2,Cm,amL,amT,sA,sB,sC,sD,sE,sF,sG,sH,sI,sJ,sK,sL,sM,sN,sO,↓reduceIte,reduceCtorEq])
                   exact ⟨rfl,by simp (disch:=omega) only [Ba,Av,and_self,Ah,sF,↓reduceIte],by simp (disch:=omega) only [Bm,Bc,Ag,amL,sF,↓reduceIte] ; try exact congrArg AO.cells hpc⟩
                 · refine D5 (rem':=[3,4,5,6,8,9]) rfl rfl ?_
                   simp (disch:=omega) only [and_self,Ag,amL,amT,sA,sB,sF,↓reduceIte]
                   refine D9 (by kernel_rfl) ?_
                   show EL _ _ _ _ [_,_,_,_,_,_] _ _
                   simp (disch:=omega) only [Ah,amL,sF,sG,↓reduceIte]
                   try (refine A9 [(2,.ptr 2 0),(3,.ptr 3 0),(4,E7),(5,i64 0),(72,avT t),(10,.ptr 10 0)] (by decide) (D1 (b:=b) (bd:=99)) (Ax rfl) (by decide) (fun res os2 hR hcl2 hlv2=>?_) ; obtain ⟨rfl,rfl⟩:=hR ; simp (disch:=omega) only [Bw,A8,ne_eq,Ac,Ba,Av,Bm,Bc,and_self,Ah,Ag,Bg,Cb,Cr,B1,B0,Cn,Ky,Lk,Kk,Int.sub_zero,Int.toNat_natCast,Co,ld2,Cm,amL,amT,sA,sB,sC,sD,sE,sF,sG,sH,sI,sJ,sK,sL,sM,sN,sO,↓reduceIte,reduceCtorEq])
                   try (refine Ca (bd:=300) (by decide) (Eo (m:=103) ⟨by simp (disch:=omega) only [Ag,sF,↓reduceIte],by simp (disch:=omega) only [Ag,sF,↓reduceIte]⟩ hval hli) (fun q hq=>by simp (disch:=omega) only []; exact Ax rfl q (by omega)) (by decide) (Ei _ _) ?_ ; rw [← hw] ; simp (disch:=omega) only [Ah,Ag,Bg,amL,amT,sA,sB,sF,↓reduceIte])
                   exact ⟨rfl,by simp (disch:=omega) only [Ba,Av,and_self,Ah,sF,↓reduceIte],by simp (disch:=omega) only [Bm,Bc,Ag,amL,sF,↓reduceIte] ; try exact congrArg AO.cells hpc⟩
               · refine D5 (rem':=[1,3,4,5,6,8,9]) rfl rfl ?_
                 simp (disch:=omega) only [and_self,Ag,amL,amT,sA,sB,sF,↓reduceIte]
                 refine D9 (by kernel_rfl) ?_
                 show EL _ _ _ _ [_,_,_,_,_,_,_] _ _
                 simp (disch:=omega) only [Ah,amL,sF,sG,↓reduceIte]
                 try (refine A9 [(2,.ptr 2 0),(3,.ptr 3 0),(4,E7),(5,i64 0),(72,avT t),(10,.ptr 10 0)] (by decide) (D1 (b:=b) (bd:=99)) (Ax rfl) (by decide) (fun res os2 hR hcl2 hlv2=>?_) ; obtain ⟨rfl,rfl⟩:=hR ; simp (disch:=omega) only [Ba,Av,and_self,Ah,Ag,amL,sB,sF,sG,↓reduceIte])
                 try (refine Ca (bd:=300) (by decide) (Eo (m:=103) ⟨by simp (disch:=omega) only [Ag,↓reduceIte],by simp (disch:=omega) only [Ag,sF,↓reduceIte]⟩ hval hli) (fun q hq=>by simp (disch:=omega) only []; exact Ax rfl q (by omega)) (by decide) (Ei _ _) ?_ ; rw [← hw] ; simp (disch:=omega) only [Ah,Ag,Bg,amL,amT,sA,sB,sF,↓reduceIte])
                 exact ⟨rfl,by simp (disch:=omega) only [Ba,Av,and_self,Ah,sF,↓reduceIte],by simp (disch:=omega) only [Bm,Bc,Ag,amL,sF,↓reduceIte] ; try exact congrArg AO.cells hpc⟩
             · refine D5 (rem':=[1,2,3,4,5,6,8,9]) rfl rfl ?_
               simp (disch:=omega) only [and_self,Ag,amL,amT,sA,sB,sF,↓reduceIte]
               refine Fi (ls:=[1,2]) rfl ⟨?_,?_,trivial⟩
               · refine D5 (rem':=[2,3,4,5,6,8,9]) rfl rfl ?_
                 simp (disch:=omega) only [Ah,amL,sF,sG,↓reduceIte]
                 refine A9 [(2,.ptr 2 0),(3,.ptr 3 0),(4,E7),(5,i64 0),(10,.ptr 10 0)] (by decide) (D1 (b:=b) (bd:=99)) (Ax rfl) (by decide) (fun res os2 hR hcl2 hlv2=>?_)
                 obtain ⟨rfl,rfl⟩:=hR
                 simp (disch:=omega) only [Ba,Av,and_self,Ah,Ag,amL,sB,sF,↓reduceIte]
                 refine D9 (by kernel_rfl) ?_
                 show EL _ _ _ _ [_,_,_,_,_,_,_] _ _
                 simp (disch:=omega) only [Ah,Ag,amL,amT,sA,sB,sF,sG,↓reduceIte]
                 try (refine A9 [(2,.ptr 2 0),(3,.ptr 3 0),(4,E7),(5,i64 0),(72,avT t),(10,.ptr 10 0)] (by decide) (D1 (b:=b) (bd:=99)) (Ax rfl) (by decide) (fun res os2 hR hcl2 hlv2=>?_) ; obtain ⟨rfl,rfl⟩:=hR ; simp (disch:=omega) only [Bw,A8,ne_eq,Ac,Ba,Av,Bm,Bc,and_self,Ah,Ag,Bg,Cb,Cr,B1,B0,Cn,Ky,Lk,Kk,Int.sub_zero,Int.toNat_natCast,Co,ld2,Cm,amL,amT,sA,sB,sC,sD,sE,sF,sG,sH,sI,sJ,sK,sL,sM,sN,sO,↓reduceIte,reduceCtorEq])
                 try (refine Ca (bd:=300) (by decide) (Eo (m:=103) ⟨by simp (disch:=omega) only [Ag,↓reduceIte],by simp (disch:=omega) only [Ag,sF,↓reduceIte]⟩ hval hli) (fun q hq=>by simp (disch:=omega) only []; exact Ax rfl q (by omega)) (by decide) (Ei _ _) ?_ ; rw [← hw] ; simp (disch:=omega) only [Ah,Ag,Bg,amL,amT,sA,sB,sF,↓reduceIte])
                 exact ⟨rfl,by simp (disch:=omega) only [Ba,Av,and_self,Ah,sF,↓reduceIte],by simp (disch:=omega) only [Bm,Bc,Ag,amL,sF,↓reduceIte] ; try exact congrArg AO.cells hpc⟩
               · refine D5 (rem':=[1,3,4,5,6,8,9]) rfl rfl ?_
                 simp (disch:=omega) only [Ah,Ag,amL,amT,sA,sB,sF,↓reduceIte]
                 refine D9 (by kernel_rfl) ?_
                 show EL _ _ _ _ [_,_,_,_,_,_,_] _ _
                 simp (disch:=omega) only [Ah,amL,sF,sG,↓reduceIte]
                 try (refine A9 [(2,.ptr 2 0),(3,.ptr 3 0),(4,E7),(5,i64 0),(72,avT t),(10,.ptr 10 0)] (by decide) (D1 (b:=b) (bd:=99)) (Ax rfl) (by decide) (fun res os2 hR hcl2 hlv2=>?_) ; obtain ⟨rfl,rfl⟩:=hR ; simp (disch:=omega) only [Ba,Av,and_self,Ah,Ag,amL,sB,sF,sG,↓reduceIte])
                 try (refine Ca (bd:=300) (by decide) (Eo (m:=103) ⟨by simp (disch:=omega) only [Ag,↓reduceIte],by simp (disch:=omega) only [Ag,sF,↓reduceIte]⟩ hval hli) (fun q hq=>by simp (disch:=omega) only []; exact Ax rfl q (by omega)) (by decide) (Ei _ _) ?_ ; rw [← hw] ; simp (disch:=omega) only [Ah,Ag,Bg,amL,amT,sA,sB,sF,↓reduceIte])
                 exact ⟨rfl,by simp (disch:=omega) only [Ba,Av,and_self,Ah,sF,↓reduceIte],by simp (disch:=omega) only [Bm,Bc,Ag,amL,sF,↓reduceIte] ; try exact congrArg AO.cells hpc⟩
           · refine D5 (rem':=[0,1,3,4,5,6,7,8,9]) rfl rfl ?_
             simp (disch:=omega) only [Ah,Ag,amL,amT,sA,sB,sF,↓reduceIte]
             refine Fi (ls:=[0,7]) rfl ⟨?_,?_,trivial⟩
             · refine D5 (rem':=[1,3,4,5,6,7,8,9]) rfl rfl ?_
               simp (disch:=omega) only [Ah,Ag,amL,amT,sA,sB,sF,↓reduceIte]
               refine Fi (ls:=[1,7]) rfl ⟨?_,?_,trivial⟩
               · refine D5 (rem':=[3,4,5,6,7,8,9]) rfl rfl ?_
                 simp (disch:=omega) only [Ah,amL,sG,↓reduceIte]
                 refine A9 [(2,.ptr 2 0),(3,.ptr 3 0),(4,E7),(5,i64 0),(72,avT t)] (by decide) (D1 (b:=b) (bd:=99)) (Ax rfl) (by decide) (fun res os2 hR hcl2 hlv2=>?_)
                 obtain ⟨rfl,rfl⟩:=hR
                 simp (disch:=omega) only [Ba,Av,and_self,Ah,Ag,amL,sB,sF,↓reduceIte]
                 refine Fi (ls:=[3,7]) rfl ⟨?_,?_,trivial⟩
                 · refine D5 (rem':=[4,5,6,7,8,9]) rfl rfl ?_
                   simp (disch:=omega) only [Ah,amL,sF,sG,↓reduceIte]
                   (refine Ca (bd:=300) (by decide) (Eo (m:=103) ⟨by simp (disch:=omega) only [Ag,↓reduceIte],by simp (disch:=omega) only [Ag,sF,↓reduceIte]⟩ hval hli) (fun q hq=>by simp (disch:=omega) only []; exact Ax rfl q (by omega)) (by decide) (Ei _ _) ?_ ; rw [← hw] ; simp (disch:=omega) only [amL])
                   refine D9 (by kernel_rfl) ?_
                   show EL _ _ _ _ [_,_,_,_,_,_] _ _
                   simp (disch:=omega) only [and_self,Ah,Ag,Bg,amL,amT,sA,sB,sF,↓reduceIte]
                   try (refine A9 [(2,.ptr 2 0),(3,.ptr 3 0),(4,E7),(5,i64 0),(72,avT t),(10,.ptr 10 0)] (by decide) (D1 (b:=b) (bd:=99)) (Ax rfl) (by decide) (fun res os2 hR hcl2 hlv2=>?_) ; obtain ⟨rfl,rfl⟩:=hR ; simp (disch:=omega) only [Bw,A8,ne_eq,Ac,Ba,Av,Bm,Bc,and_self,Ah,Ag,Bg,Cb,Cr,B1,B0,Cn,Ky,Lk,Kk,Int.sub_zero,Int.toNat_natCast,Co,ld2,Cm,amL,amT,sA,sB,sC,sD,sE,sF,sG,sH,sI,sJ,sK,sL,sM,sN,sO,↓reduceIte,reduceCtorEq])
                   try (refine Ca (bd:=300) (by decide) (Eo (m:=103) ⟨by simp (disch:=omega) only [Bw,A8,ne_eq,Ac,Ba,Av,Bm,Bc,and_self,Ah,Ag,Bg,Cb,Cr,B1,B0,Cn,Ky,Lk,Kk,Int.sub_zero,Int.toNat_natCast,Co,ld2,Cm,amL,amT,sA,sB,sC,sD,sE,sF,sG,sH,sI,sJ,sK,sL,sM,sN,sO,↓reduceIte,reduceCtorEq],by simp (disch:=omega) only [Bw,A8,ne_eq,Ac,Ba,Av,Bm,Bc,and_self,Ah,Ag,Bg,Cb,Cr,B1,B0,Cn,Ky,Lk,Kk,Int.sub_zero,Int.toNat_natCast,Co,ld2,Cm,amL,amT,sA,sB,sC,sD,sE,sF,sG,sH,sI,sJ,sK,sL,sM,sN,sO,↓reduceIte,reduceCtorEq]⟩ hval hli) (fun q hq=>by simp (disch:=omega) only [Ac]; exact Ax rfl q (by omega)) (by decide) (Ei _ _) ?_ ; rw [← hw] ; simp (disch:=omega) only [Bw,A8,ne_eq,Ac,Ba,Av,Bm,Bc,and_self,Ah,Ag,Bg,Cb,Cr,B1,B0,Cn,Ky,Lk,Kk,Int.sub_zero,Int.toNat_natCast,Co,ld2,Cm,amL,amT,sA,sB,sC,sD,sE,sF,sG,sH,sI,sJ,sK,sL,sM,sN,sO,↓reduceIte,reduceCtorEq])
                   exact ⟨rfl,by simp (disch:=omega) only [Ba,Av,and_self,Ah,sF,↓reduceIte],by simp (disch:=omega) only [Bm,Bc,Ag,amL,sF,↓reduceIte] ; try exact congrArg AO.cells hpc⟩
                 · refine D5 (rem':=[3,4,5,6,8,9]) rfl rfl ?_
                   simp (disch:=omega) only [and_self,Ag,amL,amT,sA,sB,sF,↓reduceIte]
                   refine D9 (by kernel_rfl) ?_
                   show EL _ _ _ _ [_,_,_,_,_,_] _ _
                   simp (disch:=omega) only [Ah,amL,sF,sG,↓reduceIte]
                   try (refine A9 [(2,.ptr 2 0),(3,.ptr 3 0),(4,E7),(5,i64 0),(72,avT t),(10,.ptr 10 0)] (by decide) (D1 (b:=b) (bd:=99)) (Ax rfl) (by decide) (fun res os2 hR hcl2 hlv2=>?_) ; obtain ⟨rfl,rfl⟩:=hR ; simp (disch:=omega) only [Bw,A8,ne_eq,Ac,Ba,Av,Bm,Bc,and_self,Ah,Ag,Bg,Cb,Cr,B1,B0,Cn,Ky,Lk,Kk,Int.sub_zero,Int.toNat_natCast,Co,ld2,Cm,amL,amT,sA,sB,sC,sD,sE,sF,sG,sH,sI,sJ,sK,sL,sM,sN,sO,↓reduceIte,reduceCtorEq])
                   try (refine Ca (bd:=300) (by decide) (Eo (m:=103) ⟨by simp (disch:=omega) only [Ag,sF,↓reduceIte],by simp (disch:=omega) only [Ag,sF,↓reduceIte]⟩ hval hli) (fun q hq=>by simp (disch:=omega) only []; exact Ax rfl q (by omega)) (by decide) (Ei _ _) ?_ ; rw [← hw] ; simp (disch:=omega) only [Ah,Ag,Bg,amL,amT,sA,sB,sF,↓reduceIte])
                   exact ⟨rfl,by simp (disch:=omega) only [Ba,Av,and_self,Ah,sF,↓reduceIte],by simp (disch:=omega) only [Bm,Bc,Ag,amL,sF,↓reduceIte] ; try exact congrArg AO.cells hpc⟩
               · refine D5 (rem':=[1,3,4,5,6,8,9]) rfl rfl ?_
                 simp (disch:=omega) only [and_self,Ag,amL,amT,sA,sB,sF,↓reduceIte]
                 refine D9 (by kernel_rfl) ?_
                 show EL _ _ _ _ [_,_,_,_,_,_,_] _ _
                 simp (disch:=omega) only [Ah,amL,sF,sG,↓reduceIte]
                 try (refine A9 [(2,.ptr 2 0),(3,.ptr 3 0),(4,E7),(5,i64 0),(72,avT t),(10,.ptr 10 0)] (by decide) (D1 (b:=b) (bd:=99)) (Ax rfl) (by decide) (fun res os2 hR hcl2 hlv2=>?_) ; obtain ⟨rfl,rfl⟩:=hR ; simp (disch:=omega) only [Ba,Av,and_self,Ah,Ag,amL,sB,sF,sG,↓reduceIte])
                 try (refine Ca (bd:=300) (by decide) (Eo (m:=103) ⟨by simp (disch:=omega) only [Ag,↓reduceIte],by simp (disch:=omega) only [Ag,sF,↓reduceIte]⟩ hval hli) (fun q hq=>by simp (disch:=omega) only []; exact Ax rfl q (by omega)) (by decide) (Ei _ _) ?_ ; rw [← hw] ; simp (disch:=omega) only [Ah,Ag,Bg,amL,amT,sA,sB,sF,↓reduceIte])
                 exact ⟨rfl,by simp (disch:=omega) only [Ba,Av,and_self,Ah,sF,↓reduceIte],by simp (disch:=omega) only [Bm,Bc,Ag,amL,sF,↓reduceIte] ; try exact congrArg AO.cells hpc⟩
             · refine D5 (rem':=[0,1,3,4,5,6,8,9]) rfl rfl ?_
               simp (disch:=omega) only [and_self,Ag,amL,amT,sA,sB,sF,↓reduceIte]
               refine D9 (by kernel_rfl) ?_
               show EL _ _ _ _ [_,_,_,_,_,_,_,_] _ _
               simp (disch:=omega) only [Ah,Ag,amL,amT,sA,sB,sF,sG,↓reduceIte]
               try (refine A9 [(2,.ptr 2 0),(3,.ptr 3 0),(4,E7),(5,i64 0),(72,avT t),(10,.ptr 10 0)] (by decide) (D1 (b:=b) (bd:=99)) (Ax rfl) (by decide) (fun res os2 hR hcl2 hlv2=>?_) ; obtain ⟨rfl,rfl⟩:=hR ; simp (disch:=omega) only [Ba,Av,and_self,Ah,Ag,amL,sB,sF,sG,↓reduceIte])
               try (refine Ca (bd:=300) (by decide) (Eo (m:=103) ⟨by simp (disch:=omega) only [Ag,↓reduceIte],by simp (disch:=omega) only [Ag,sF,↓reduceIte]⟩ hval hli) (fun q hq=>by simp (disch:=omega) only []; exact Ax rfl q (by omega)) (by decide) (Ei _ _) ?_ ; rw [← hw] ; simp (disch:=omega) only [Ah,Ag,Bg,amL,amT,sA,sB,sF,↓reduceIte])
               exact ⟨rfl,by simp (disch:=omega) only [Ba,Av,and_self,Ah,sF,↓reduceIte],by simp (disch:=omega) only [Bm,Bc,Ag,amL,sF,↓reduceIte] ; try exact congrArg AO.cells hpc⟩
           · refine D5 (rem':=[0,1,2,3,4,5,6,8,9]) rfl rfl ?_
             simp (disch:=omega) only [and_self,Ag,amL,amT,sA,sB,sF,↓reduceIte]
             refine Fi (ls:=[0,2]) rfl ⟨?_,?_,trivial⟩
             · refine D5 (rem':=[1,2,3,4,5,6,8,9]) rfl rfl ?_
               simp (disch:=omega) only [Ah,Ag,amL,amT,sA,sB,sF,↓reduceIte]
               refine Fi (ls:=[1,2]) rfl ⟨?_,?_,trivial⟩
               · refine D5 (rem':=[2,3,4,5,6,8,9]) rfl rfl ?_
                 simp (disch:=omega) only [Ah,amL,sG,↓reduceIte]
                 refine A9 [(2,.ptr 2 0),(3,.ptr 3 0),(4,E7),(5,i64 0),(10,.ptr 10 0)] (by decide) (D1 (b:=b) (bd:=99)) (Ax rfl) (by decide) (fun res os2 hR hcl2 hlv2=>?_)
                 obtain ⟨rfl,rfl⟩:=hR
                 simp (disch:=omega) only [Ba,Av,and_self,Ah,Ag,amL,sB,sF,↓reduceIte]
                 refine D9 (by kernel_rfl) ?_
                 show EL _ _ _ _ [_,_,_,_,_,_,_] _ _
                 simp (disch:=omega) only [Ah,Ag,amL,amT,sA,sB,sF,sG,↓reduceIte]
                 try (refine A9 [(2,.ptr 2 0),(3,.ptr 3 0),(4,E7),(5,i64 0),(72,avT t),(10,.ptr 10 0)] (by decide) (D1 (b:=b) (bd:=99)) (Ax rfl) (by decide) (fun res os2 hR hcl2 hlv2=>?_) ; obtain ⟨rfl,rfl⟩:=hR ; simp (disch:=omega) only [Bw,A8,ne_eq,Ac,Ba,Av,Bm,Bc,and_self,Ah,Ag,Bg,Cb,Cr,B1,B0,Cn,Ky,Lk,Kk,Int.sub_zero,Int.toNat_natCast,Co,ld2,Cm,amL,amT,sA,sB,sC,sD,sE,sF,sG,sH,sI,sJ,sK,sL,sM,sN,sO,↓reduceIte,reduceCtorEq])
                 try (refine Ca (bd:=300) (by decide) (Eo (m:=103) ⟨by simp (disch:=omega) only [Ag,↓reduceIte],by simp (disch:=omega) only [Ag,sF,↓reduceIte]⟩ hval hli) (fun q hq=>by simp (disch:=omega) only []; exact Ax rfl q (by omega)) (by decide) (Ei _ _) ?_ ; rw [← hw] ; simp (disch:=omega) only [Ah,Ag,Bg,amL,amT,sA,sB,sF,↓reduceIte])
                 exact ⟨rfl,by simp (disch:=omega) only [Ba,Av,and_self,Ah,sF,↓reduceIte],by simp (disch:=omega) only [Bm,Bc,Ag,amL,sF,↓reduceIte] ; try exact congrArg AO.cells hpc⟩
               · refine D5 (rem':=[1,3,4,5,6,8,9]) rfl rfl ?_
                 simp (disch:=omega) only [Ah,Ag,amL,amT,sA,sB,sF,↓reduceIte]
                 refine D9 (by kernel_rfl) ?_
                 show EL _ _ _ _ [_,_,_,_,_,_,_] _ _
                 simp (disch:=omega) only [Ah,amL,sF,sG,↓reduceIte]
                 try (refine A9 [(2,.ptr 2 0),(3,.ptr 3 0),(4,E7),(5,i64 0),(72,avT t),(10,.ptr 10 0)] (by decide) (D1 (b:=b) (bd:=99)) (Ax rfl) (by decide) (fun res os2 hR hcl2 hlv2=>?_) ; obtain ⟨rfl,rfl⟩:=hR ; simp (disch:=omega) only [Ba,Av,and_self,Ah,Ag,amL,sB,sF,sG,↓reduceIte])
                 try (refine Ca (bd:=300) (by decide) (Eo (m:=103) ⟨by simp (disch:=omega) only [Ag,↓reduceIte],by simp (disch:=omega) only [Ag,sF,↓reduceIte]⟩ hval hli) (fun q hq=>by simp (disch:=omega) only []; exact Ax rfl q (by omega)) (by decide) (Ei _ _) ?_ ; rw [← hw] ; simp (disch:=omega) only [Ah,Ag,Bg,amL,amT,sA,sB,sF,↓reduceIte])
                 exact ⟨rfl,by simp (disch:=omega) only [Ba,Av,and_self,Ah,sF,↓reduceIte],by simp (disch:=omega) only [Bm,Bc,Ag,amL,sF,↓reduceIte] ; try exact congrArg AO.cells hpc⟩
             · refine D5 (rem':=[0,1,3,4,5,6,8,9]) rfl rfl ?_
               simp (disch:=omega) only [Ah,Ag,amL,amT,sA,sB,sF,↓reduceIte]
               refine D9 (by kernel_rfl) ?_
               show EL _ _ _ _ [_,_,_,_,_,_,_,_] _ _
               simp (disch:=omega) only [Ah,Ag,amL,amT,sA,sB,sF,sG,↓reduceIte]
               try (refine A9 [(2,.ptr 2 0),(3,.ptr 3 0),(4,E7),(5,i64 0),(72,avT t),(10,.ptr 10 0)] (by decide) (D1 (b:=b) (bd:=99)) (Ax rfl) (by decide) (fun res os2 hR hcl2 hlv2=>?_) ; obtain ⟨rfl,rfl⟩:=hR ; simp (disch:=omega) only [Ba,Av,and_self,Ah,Ag,amL,sB,sF,sG,↓reduceIte])
               try (refine Ca (bd:=300) (by decide) (Eo (m:=103) ⟨by simp (disch:=omega) only [Ag,↓reduceIte],by simp (disch:=omega) only [Ag,sF,↓reduceIte]⟩ hval hli) (fun q hq=>by simp (disch:=omega) only []; exact Ax rfl q (by omega)) (by decide) (Ei _ _) ?_ ; rw [← hw] ; simp (disch:=omega) only [Ah,Ag,Bg,amL,amT,sA,sB,sF,↓reduceIte])
               exact ⟨rfl,by simp (disch:=omega) only [Ba,Av,and_self,Ah,sF,↓reduceIte],by simp (disch:=omega) only [Bm,Bc,Ag,amL,sF,↓reduceIte] ; try exact congrArg AO.cells hpc⟩
         refine hK19 _ ?_
         refine Ab fun K20 hK20=>?_
         refine Ab fun K21 hK21=>?_
         refine Ak ?_
         simp (disch:=omega) only [Ah,amL,sA,sF,↓reduceIte]
         refine hK21 _ ?_
         refine Ai rfl (fun h=>?_) (fun h=>?_)
         ·first
          | exact Bool.noConfusion h
          |skip
           try simp only [Bool.not_eq_true'] at h
           refine Ab fun K22 hK22=>?_
           refine Ak ?_
           simp (disch:=omega) only [amL,sA]
           refine hK22 _ ?_
           refine Af ?_
           try simp (disch:=omega) only [Ah,amL,sF,↓reduceIte]
           all_goals first | (rw [Dp,if_neg (by assumption)]; done) | (have e9:k=b.vs.length:=(by omega) ; rw [Dp,if_pos hf0,if_pos hli,if_pos hbt,List.take_of_length_le (by simp ; omega),e9,hw] ; done) | (rw [Dp,if_pos hf0,if_pos hli,if_neg (by simpa using h)]; done) | (rw [Dp,if_pos (by omega),if_neg (fun e=>by have:=Dm e; omega)]; done) | (rw [Dp,if_pos (by omega),if_neg (fun e=>by have:=Ki e (k:=k) (by omega); simp_all)]; done) | trace_state
         ·first
          | exact Bool.noConfusion h
          |skip
           try simp only [Bool.not_eq_false'] at h
           refine Am ?_
           refine hK20 _ ?_
           refine Ab fun K23 hK23=>?_
           refine Ak ?_
           simp (disch:=omega) only [amL,sA]
           refine hK23 _ ?_
           refine Ab fun K24 hK24=>?_
           refine Ab fun K25 hK25=>?_
           refine Ak ?_
           have hbt:(Ma b t).2=true:=by simpa using h
           have hsm:=(hwo hbt).small
           have hv4:=hval.nv
           simp (disch:=omega) only [and_self,Ah,Ag,Cb,Cr,B1,B0,Cn,Int.sub_zero,Int.toNat_natCast,amL,amT,sA,sF,sH,sK,sL,sN,↓reduceIte,reduceCtorEq]
           refine hK25 _ ?_
           refine Aj ?_
           refine Tg 96 3 12 (by decide) rfl rfl ?_
           refine Bh (α:=Nat) (fun k=>⟨T [(2,.ptr 2 0),(12,.own 96 k),(81,.csl 10 0 2 b.vs.length),(82,i64 b.vs.length),(83,i64 (k:Int))],O [(2,.cells (cB b)),(10,.cells (cW w)),(96,.arr 3 ((w.take k).map fun l=>Axo (Au5 l)))]⟩) (fun k=>b.vs.length - k) (fun k=>k≤b.vs.length) 0 ?_ ?_ (fun k hx26 K26 hK26=>?_)
           · exact Nat.zero_le _
           · refine C2 ?_ ?_ ?_ ?_ <;> (try simp (disch:=omega) only [Ba,Av,Bm,Bc,and_self,Ah,Ag,amL,sF,sG,↓reduceIte]); all_goals first | rfl | exact Aaf _ | trace_state
           have hk:=hx26
           refine Ab fun K27 hK27=>?_
           refine Ak ?_
           simp (disch:=omega) only [Ah,amL,amT,sA,sF,↓reduceIte]
           refine hK27 _ ?_
           refine Ab fun K28 hK28=>?_
           refine Ai rfl (fun h=>?_) (fun h=>?_)
           ·first
            | exact Bool.noConfusion h
            |skip
             try simp only [decide_eq_true_eq] at h
             refine Am ?_
             refine hK28 _ ?_
             refine Ab fun K29 hK29=>?_
             refine Aj ?_
             refine Ab fun K30 hK30=>?_
             refine Ak ?_
             simp (disch:=omega) only [and_self,Ah,Ag,Bg,Int.toNat_natCast,Co,amL,amT,sA,sB,sE,sF,↓reduceIte]
             refine hK30 _ ?_
             refine Bx (by kernel_rfl) (by kernel_rfl) ?_
             simp (disch:=omega) only [Ah,Ag,amL,amT,sA,sB,sF,sG,↓reduceIte,reduceCtorEq]
             repeat' first | (refine Aw (by kernel_rfl) rfl (Ad6 (w.getD k default) (hsm k)) (by first | exact .inl rfl | exact .inr (.inl rfl)) ?_ ; simp (disch:=omega) only [and_self,Ah,Ag,Cm,amL,amT,sA,sB,sC,sE,sF,↓reduceIte,reduceCtorEq])
             refine hK29 _ ?_
             refine Ak ?_
             simp (disch:=omega) only [Ah,amL,amT,sA,sF,↓reduceIte]
             refine hK26 (k+1) _ ?_ ?_ (C2 ?_ ?_ ?_ ?_)
             all_goals (try simp (disch:=omega) only [Ba,Av,Bm,Bc,and_self,Ah,Ag,amL,sF,sG,↓reduceIte])
             all_goals first | omega | exact congrArg (AO.arr 3) (Ai0 default (by omega)) | exact congrArg (AO.arr 3) (Ai0 default (by omega)).symm | exact Aaf _ | trace_state
           ·first
            | exact Bool.noConfusion h
            |skip
             try simp only [decide_eq_false_iff_not] at h
             refine B2 ?_
             refine hK24 _ ?_
             refine Ab fun K31 hK31=>?_
             refine Ak ?_
             simp (disch:=omega) only [Ah,amL,sA,sF,↓reduceIte]
             refine hK31 _ ?_
             refine Af ?_
             try simp (disch:=omega) only [Ah,Ag,amL,sF,↓reduceIte]
             all_goals first | (rw [Dp,if_neg (by assumption)]; done) | (have e9:k=b.vs.length:=(by omega) ; rw [Dp,if_pos hf0,if_pos hli,if_pos hbt,List.take_of_length_le (by simp ; omega),e9,hw] ; done) | (rw [Dp,if_pos hf0,if_pos hli,if_neg (by simpa using h)]; done) | (rw [Dp,if_pos (by omega),if_neg (fun e=>by have:=Dm e; omega)]; done) | (rw [Dp,if_pos (by omega),if_neg (fun e=>by have:=Ki e (k:=k) (by omega); simp_all)]; done) | trace_state
def exS:Sto:=⟨⟨[0,1],[0,60],[[0,60],[0,60]]⟩,0,[⟨10,⟨0,0⟩,⟨20,20⟩⟩,⟨5,⟨0,0⟩,⟨41,41⟩⟩]⟩
def exB:E9:=⟨[⟨⟨10,10⟩,⟨20,20⟩,15⟩,⟨⟨5,5⟩,⟨41,41⟩,5⟩],[⟨0,1,0,⟨5,5⟩⟩]⟩
def exT:Tru:=⟨[10,5],[20,41],[5]⟩
theorem Ahy:Ng exS:=Avc (by kernel_rfl)
theorem Alh:Bo Try.prog 15 [avO exS,isl [0,1],i64 0] (.tup [avR ⟨27,27⟩,i64 0]):=by
  have h:=Aiw Ahy (l:=[0,1]) (w:=0) (fun c hc=>by
    have:=Al3 Ahy hc (by
      simp only [exS,List.mem_cons,List.not_mem_nil,or_false] at hc
      rcases hc with rfl | rfl <;> rfl) (by
      simp only [exS,List.mem_cons,List.not_mem_nil,or_false] at hc
      rcases hc with rfl | rfl <;> rfl)
    rw [this.1]; exact ⟨this.2,this.2⟩) (by decide) (by kernel_rfl) (by decide) (by decide)
  have e:(smS exS (·.lo) [0,1] / (0+smG exS [0,1]),smS exS (·.hi) [0,1] / (0+smG exS [0,1]))=((27,27):Int × Int):=by kernel_rfl
  have e1:=congrArg (·.1) e
  have e2:=congrArg (·.2) e
  dsimp only at e1 e2
  rw [e1,e2] at h; exact h
theorem Alm:Bo Try.prog 16 [avB exB,avT exT] (.tup [.p (.sl [[iv 15,iv 405,iv 27],[iv 0,iv 0,iv 0]]),i64 0]):=by
  have h:=Alz exB exT (by decide) (by decide) (by decide)
  have e:Dp exB exT=.tup [.p (.sl [[iv 15,iv 405,iv 27],[iv 0,iv 0,iv 0]]),i64 0]:=by kernel_rfl
  rw [e] at h; exact h
theorem Aog:P8 Try.prog 65 3:=V4 (by kernel_rfl)
theorem Apd:P8 Try.prog 52 2:=V4 (by kernel_rfl)
theorem eqR {a b c d:Int} (h:([a,b]:List Int).all inR=true) (h2:([c,d]:List Int).all inR=true):Jb Try.prog .eql 52 (some [a,b]) (some [c,d])=some (.pure (bl (decide (([a,b]:List Int)=[c,d])))):=by
  rw [Qj (a:=[a,b]) (b:=[c,d]) Apd rfl h h2]
theorem tq1:Jb Try.prog .eql 52 (some [27,27]) (some [27,27])=some (.pure (bl true)):=by rw [eqR (by decide) (by decide),decide_eq_true rfl]
theorem tq2:Jb Try.prog .eql 65 (some [15,405,27]) (some [15,405,27])=some (.pure (bl true)):=by
  rw [Qj (a:=[15,405,27]) (b:=[15,405,27]) Aog rfl (by decide) (by decide),decide_eq_true rfl]
theorem Ao8:Bo Try.prog 11 [] (bl true):=by
  refine A0 (v:=[]) (q:=[]) (N:=66) (rs:=[.tmp 0]) Try.func11 rfl rfl rfl rfl rfl ?_
  refine Ad fun K1 hK1=>?_
  simp (disch:=omega) only [amL,sA]
  refine hK1 _ ?_
  refine Ab fun K2 hK2=>?_
  refine P4 [true,true,true,true,true] ?_
  simp (disch:=omega) only [Y2,Ym,Ts,Nz,Jl,amL,amT,sA,sB,sE,sF,↓reduceIte,reduceCtorEq]
  refine hK2 _ ?_
  refine Ab fun K3 hK3=>?_
  refine P4 [false,false,false,false,false,true,false,true] ?_
  simp (disch:=omega) only [Y2,Ym,Adc,Ts,Nz,Jl,amL,amT,sA,sB,sC,sE,sF,↓reduceIte,reduceCtorEq]
  repeat' first | (refine Aw (by kernel_rfl) rfl (Alh) (by first | exact .inl rfl | exact .inr (.inl rfl)) ?_ ; simp (disch:=omega) only [amL,amT,sA,sB,sF,↓reduceIte])
  refine hK3 _ ?_
  refine Ab fun K4 hK4=>?_
  refine P4 [false,false,false,false,false,false,true,false,false,true,false,true,true,true] ?_
  simp (disch:=omega) only [Y2,Ym,Adc,Ts,Nz,Jl,amL,amT,sA,sB,sC,sE,sF,↓reduceIte,reduceCtorEq]
  repeat' first | (refine Aw (by kernel_rfl) rfl (Alm) (by first | exact .inl rfl | exact .inr (.inl rfl)) ?_ ; simp (disch:=omega) only [amL,sA,sF,↓reduceIte])
  refine hK4 _ ?_
  refine Ad fun K5 hK5=>?_
  simp (disch:=omega) only [tq1,tq2,amL,amT,sA,sB,sE,sF,sH,sK,sL,sN,↓reduceIte]
  repeat' first | (refine Ck (fun h=>?_) (fun h=>?_) <;> simp (disch:=omega) only [h,Ac8,Ac7,Xt,Y2,Ym,Adc,Ts,Nz,Jl,tq1,tq2,amL,amT,sA,sB,sC,sD,sE,sF,sG,sH,sI,sJ,sK,sL,sM,sN,sO,↓reduceIte,reduceCtorEq]) | (refine Bp (fun h=>?_) (fun h=>?_) <;> simp (disch:=omega) only [h,Ac8,Ac7,Xt,Y2,Ym,Adc,Ts,Nz,Jl,tq1,tq2,amL,amT,sA,sB,sC,sD,sE,sF,sG,sH,sI,sJ,sK,sL,sM,sN,sO,↓reduceIte,reduceCtorEq])
  all_goals
   skip
   refine hK5 _ ?_
   refine Af ?_
   try simp (disch:=omega) only [amL,↓reduceIte]
   all_goals first | rfl | trace_state
end AM.Try
end
/- The statements: brewhouses, truths, readings that are read. -/
section
namespace AM.Try
open Go AM AM.Wort Go.ChangeShapes Go.WideShapes Go.ChangeAt Go.RowKit Go.Proofs
open Nat renaming reduceLT→sA,reduceAdd→sB,reduceMul→sC,reduceSub→sD,reduceLeDiff→sE,reduceEqDiff→sF,reduceBEq→sG
open Int renaming reduceAdd→sH,reduceSub→sI,reduceMul→sJ,reduceLT→sK,reduceLE→sL,reduceNeg→sM,reduceToNat→sN,reduceEq→sO
set_option maxRecDepth 100000
theorem Akn:laidOutB Try.prog=true:=by kernel_rfl
theorem Ak3:mapsRowed Try.prog=true:=by kernel_rfl
theorem brP:BrP Try.prog:=⟨kids_rows Akn Ak3,slices_full_of Try.prog (by kernel_rfl),Try.underlying4⟩
theorem tp_own:ownKnob Try.prog.godebug=none:=by kernel_rfl
theorem flN:T9 Try.prog 3 1:=Aih Try.underlying3
theorem Aye:T9 Try.prog 34 2:=Ri Try.underlying34 (by kernel_rfl) (fun f hf=>by simp at hf; rcases hf with rfl | rfl <;> exact ⟨_,flN⟩) (by kernel_rfl)
theorem Azv:T9 Try.prog 36 5:=Ri Try.underlying36 (by kernel_rfl) (fun f hf=>by simp at hf; rcases hf with rfl | rfl | rfl <;> first | exact ⟨_,flN⟩ | exact ⟨_,Aye⟩) (by kernel_rfl)
theorem opI:Abr Try.prog 22 1 (fun ps=>∃ rows:List (List PV),(∀ r ∈ rows,r.length=1∧∃ ms:List Int,ms.length=1∧r=ms.map iv)∧ps=[.sl rows]):=Aby Try.underlying22 (by kernel_rfl) (by decide) (Un flN)
theorem Azw:Abr Try.prog 23 1 (fun ps=>∃ rows:List (List PV),(∀ r ∈ rows,r.length=1∧∃ rs:List (List PV),(∀ r ∈ rs,r.length=1∧∃ ms:List Int,ms.length=1∧r=ms.map iv)∧r=[.sl rs])∧ps=[.sl rows]):=Aby Try.underlying23 (by kernel_rfl) (by decide) opI
theorem Azn:Abr Try.prog 26 1 (fun ps=>∃ rows:List (List PV),(∀ r ∈ rows,r.length=5∧∃ ms:List Int,ms.length=5∧r=ms.map iv)∧ps=[.sl rows]):=Aby Try.underlying26 (by kernel_rfl) (by decide) (Un Azv)
def Arf:List PV→Csk
 | [.val (.int .i64 a),.val (.int .i64 b),.val (.int .i64 c),.val (.int .i64 d),.val (.int .i64 e)]=>⟨a,⟨b,c⟩,⟨d,e⟩⟩
 | _=>default
def Ajz:List PV→Int
 | [.val (.int .i64 a)]=>a
 | _=>0
theorem Agf {rows:List (List PV)} (h:∀ r ∈ rows,r.length=1∧∃ ms:List Int,ms.length=1∧r=ms.map iv):rows=(rows.map Ajz).map P0:=by
 rw [List.map_map]
 refine ((List.map_congr_left fun r hr=>?_).trans (List.map_id rows)).symm
 obtain ⟨_,ms,h1,rfl⟩:=h r hr
 match ms,h1 with
 | [a],_=>rfl
theorem Aqj {rows:List (List PV)} (h:∀ r ∈ rows,r.length=5∧∃ ms:List Int,ms.length=5∧r=ms.map iv):rows=(rows.map Arf).map Zf:=by
 rw [List.map_map]
 refine ((List.map_congr_left fun r hr=>?_).trans (List.map_id rows)).symm
 obtain ⟨_,ms,h1,rfl⟩:=h r hr
 match ms,h1 with
 | [a,b,c,d,e],_=>rfl
def Aw9:List PV→List Int
 | [.sl rows]=>rows.map Ajz
 | _=>[]
theorem An1 {rows:List (List PV)} (h:∀ r ∈ rows,r.length=1∧∃ rs:List (List PV),(∀ r ∈ rs,r.length=1∧∃ ms:List Int,ms.length=1∧r=ms.map iv)∧r=[.sl rs]):rows=(rows.map Aw9).map Aeg:=by
 rw [List.map_map]
 refine ((List.map_congr_left fun r hr=>?_).trans (List.map_id rows)).symm
 obtain ⟨_,rs,h1,rfl⟩:=h r hr
 show [PV.sl ((rs.map Ajz).map P0)]=[.sl rs]
 rw [← Agf h1]
section
variable {H:Type} {enc:TypeId × Value→H} {W:World} {base:Nat} {v:Value} {d:DataW H} {p:List MemPlace}
theorem Azx {l:List Value} (h:l.length=5):∃ a b c d e,l=[a,b,c,d,e]:=by
 match l,h with
 | [a,b,c,d,e],_=>exact ⟨a,b,c,d,e,rfl⟩
theorem open_sto (hv:Value.okWide Try.prog W .any base 28 v) (h:DataW.Trod enc Try.prog W 0 (fun _=>true) true 28 v d p):∃ s:Sto,True∧∀ θ,Ao θ (fun _=>False) W (avO s) v:=by
 simp only [Value.okWide,Try.underlying28] at hv
 obtain ⟨cs,rfl,_⟩:=hv
 obtain ⟨n,hn⟩:=h
 obtain ⟨l⟩:=cs
 obtain ⟨xs,n',_,_,hl,hxs,hg⟩:=DataW.trod_struct Try.underlying28 hn
 have hl5:l.length=5:=hl.trans (by kernel_rfl)
 obtain ⟨v0,v1,v2,v3,v4,rfl⟩:=Azx hl5
 have c25:Try.prog.cellsOf 25=3:=by kernel_rfl
 have c22:Try.prog.cellsOf 22=1:=by kernel_rfl
 have c23:Try.prog.cellsOf 23=1:=by kernel_rfl
 have c3:Try.prog.cellsOf 3=1:=by kernel_rfl
 have c26:Try.prog.cellsOf 26=1:=by kernel_rfl
 have hx3:xs.length=3:=hxs
 have g0:DataW.trod enc Try.prog W 0 (fun _=>true) true n' 25 (List.take (Try.prog.cellsOf 25) (List.drop 0 [v0,v1,v2,v3,v4]))=xs[0]?:=hg 0 _ rfl
 have g1:DataW.trod enc Try.prog W 0 (fun _=>true) true n' 3 (List.take (Try.prog.cellsOf 3) (List.drop 3 [v0,v1,v2,v3,v4]))=xs[1]?:=hg 1 _ rfl
 have g2:DataW.trod enc Try.prog W 0 (fun _=>true) true n' 26 (List.take (Try.prog.cellsOf 26) (List.drop 4 [v0,v1,v2,v3,v4]))=xs[2]?:=hg 2 _ rfl
 try dsimp only at g0 g1 g2
 rw [c25] at g0
 rw [c3] at g1
 rw [c26] at g2
 obtain ⟨x0,g0⟩:=J5 g0 (by omega)
 obtain ⟨x1,g1⟩:=J5 g1 (by omega)
 obtain ⟨x2,g2⟩:=J5 g2 (by omega)
 obtain ⟨ys,n2,_,_,_,hys,hh⟩:=DataW.trod_struct Try.underlying25 g0
 have hy3:ys.length=3:=hys
 have k0:DataW.trod enc Try.prog W 0 (fun _=>true) true n2 22 (List.take (Try.prog.cellsOf 22) (List.drop 0 [v0,v1,v2]))=ys[0]?:=hh 0 _ rfl
 have k1:DataW.trod enc Try.prog W 0 (fun _=>true) true n2 22 (List.take (Try.prog.cellsOf 22) (List.drop 1 [v0,v1,v2]))=ys[1]?:=hh 1 _ rfl
 have k2:DataW.trod enc Try.prog W 0 (fun _=>true) true n2 23 (List.take (Try.prog.cellsOf 23) (List.drop 2 [v0,v1,v2]))=ys[2]?:=hh 2 _ rfl
 try dsimp only at k0 k1 k2
 rw [c22] at k0 k1
 rw [c23] at k2
 obtain ⟨z0,k0⟩:=J5 k0 (by omega)
 obtain ⟨z1,k1⟩:=J5 k1 (by omega)
 obtain ⟨z2,k2⟩:=J5 k2 (by omega)
 obtain ⟨p0,⟨r0,e0,q0⟩,u0⟩:=Pt (v:=v0) opI k0
 obtain ⟨p1,⟨r1,e1,q1⟩,u1⟩:=Pt (v:=v1) opI k1
 obtain ⟨p2,⟨r2,e2,q2⟩,u2⟩:=Pt (v:=v2) Azw k2
 obtain ⟨p3,⟨r3,e3,q3⟩,u3⟩:=Pt (v:=v3) (Un flN) g1
 obtain ⟨p4,⟨r4,e4,q4⟩,u4⟩:=Pt (v:=v4) Azn g2
 cases q0; cases q1; cases q2; cases q4
 obtain ⟨m,rfl⟩:∃ m:Int,p3=iv m:=by
  match r3,e3,q3 with
  | [m],_,q3=>exact ⟨m,by simpa using q3⟩
 rw [Agf e0] at u0
 rw [Agf e1] at u1
 rw [An1 e2] at u2
 rw [Aqj e4] at u4
 refine ⟨⟨⟨r0.map Ajz,r1.map Ajz,r2.map Aw9⟩,m,r4.map Arf⟩,trivial,fun θ=>.agg _ _ rfl (fun i hi=>?_) (fun i x hx=>?_)⟩
 ·match i,hi with
  | 0,_=>exact u0.oneCell
  | 1,_=>exact u1.oneCell
  | 2,_=>exact u2.oneCell
  | 3,_=>exact u3.oneCell
  | 4,_=>exact u4.oneCell
  | i+5,hi=>exact absurd hi (by simp)
 ·match i,hx with
  | 0,hx=>cases hx; exact .p _ _ u0
  | 1,hx=>cases hx; exact .p _ _ u1
  | 2,hx=>cases hx; exact .p _ _ u2
  | 3,hx=>cases hx; exact .p _ _ u3
  | 4,hx=>cases hx; exact .p _ _ u4
  | i+5,hx=>simp at hx
end
end AM.Try
end
