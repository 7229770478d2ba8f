/- Lemmas for the proof: an abstract machine over the program's form in Lean, and the program's functions walked on it. -/
import Derived.Test.YtbgiddcgdgdmbaaGreatQ2
import Derived.Laws.Cover3
import Derived.Scope
import Derived.LoopNIn
import Derived.Laws.IdiomRangeMap
import Derived.Maps.Keyed
import Derived.ProofKit
import Derived.Deep.Slices
import Derived.ChangeStays
/- Go's slices.IndexFunc, slices.ContainsFunc and a program's 'all', at any type: whatever function tests. -/
section
namespace AM
open Go AM AM.Duty
open Nat renaming reduceLT→sA,reduceAdd→sB,reduceMul→sC,reduceSub→sD,reduceLeDiff→sE,reduceEqDiff→sF,reduceBEq→sG
open Int renaming reduceAdd→sH,reduceSub→sI,reduceMul→sJ,reduceLT→sK,reduceLE→sL,reduceNeg→sM,reduceToNat→sN,reduceEq→sO
set_option maxHeartbeats 4000000
def Hk {σ α:Type} (step:σ→α→σ × Bool):σ→List α→Nat→σ × Int
  | s,[],_=>(s,-1)
  | s,x :: l,k=>if (step s x).2=true then ((step s x).1,k) else Hk step (step s x).1 l (k+1)
theorem Abd {α:Type} {l:List α} {k:Nat} (d:α) (h:k < l.length):l.drop k=l.getD k d :: l.drop (k+1):=by
  rw [List.drop_eq_getElem_cons h]; simp [List.getD,h]
theorem Yj {σ α:Type} {step:σ→α→σ × Bool} {l:List α} {k:Nat} (d:α) {s:σ} (h:k < l.length):Hk step s (l.drop k) k=if (step s (l.getD k d)).2=true then ((step s (l.getD k d)).1,(k:Int)) else Hk step (step s (l.getD k d)).1 (l.drop (k+1)) (k+1):=by
  rw [Abd d h]; rfl
theorem X2 {σ α:Type} {step:σ→α→σ × Bool} {l:List α} {k:Nat} (d:α) {s:σ} {R:σ × Int} (h:k < l.length) (hb:(step s (l.getD k d)).2=false) (hr:Hk step s (l.drop k) k=R):Hk step (step s (l.getD k d)).1 (l.drop (k+1)) (k+1)=R:=by
  rw [← hr,Yj d h,if_neg (by rw [hb]; simp)]
theorem Ln {σ α:Type} {step:σ→α→σ × Bool} {l:List α} {k:Nat} (d:α) {s:σ} {R:σ × Int} (h:k < l.length) (hb:(step s (l.getD k d)).2=true) (hr:Hk step s (l.drop k) k=R):R=((step s (l.getD k d)).1,(k:Int)):=by
  rw [← hr,Yj d h,if_pos hb]
theorem Nm {σ α:Type} {step:σ→α→σ × Bool} {l:List α} {k:Nat} {s:σ} {R:σ × Int} (h:l.length≤k) (hr:Hk step s (l.drop k) k=R):R=(s,-1):=by
  rw [← hr,List.drop_of_length_le h]; rfl
def Gn {σ α:Type} (step:σ→α→σ × Bool):σ→List α→σ × Bool
  | s,[]=>(s,true)
  | s,x :: l=>if (step s x).2=true then Gn step (step s x).1 l else ((step s x).1,false)
theorem Tq {σ α:Type} {step:σ→α→σ × Bool}:∀ (l:List α) (s:σ) (k:Nat),(Hk (fun s x=>((step s x).1,!(step s x).2)) s l k).1=(Gn step s l).1∧(!decide (0≤(Hk (fun s x=>((step s x).1,!(step s x).2)) s l k).2))=(Gn step s l).2
  | [],s,k=>⟨rfl,rfl⟩
  | x :: l,s,k=>by
    simp only [Hk,Gn]
    cases h:(step s x).2 with
    | false=>simp
    | true=>simpa using Tq l (step s x).1 (k+1)
theorem Abv {α:Type} {l:List α} {k:Nat} (d:α) (h:k < l.length):l.getD k d ∈ l:=by
  rw [← List.getElem_eq_getD (h:=h)]; exact List.getElem_mem _
structure Hd (P:Program) (fv:AV) (F:Nat→Prop) {σ α:Type} (arg:α→AV) (l:List α) (I:σ→(Nat→Option AO)→Prop) (step:σ→α→σ × Bool):Prop where
  live:∀ s os,I s os→fv.lives os
  stable:∀ s os os',I s os→(∀ n,F n→os' n=os n)→I s os'
  foot:∀ s os n,I s os→F n→∃ o,os n=some o∧∀ m,o.clean m=false→F m
  call:∀ s x os bd,x ∈ l→I s os→(Hp os).closed→Bh P bd fv [arg x] os fun res os'=>res=bl (step s x).2∧I (step s x).1 os'∧∀ n,¬ F n→os' n=os n
def Dt (bd:Nat) (os:Nat→Option AO):Nat→Option AO:=fun n=>if n < bd then os n else none
theorem Fq {bd n:Nat} {os:Nat→Option AO} (h:n < bd):Dt bd os n=os n:=if_pos h
theorem Sl {bd n:Nat} {os:Nat→Option AO} (h:bd≤n):Dt bd os n=none:=if_neg (by omega)
theorem L3 (bd:Nat) (os:Nat→Option AO):Sub (Dt bd os) os:=fun n=>by
  by_cases h:n < bd
  · exact .inr (Fq h)
  · exact .inl (Sl (by omega))
theorem Ap {bd n:Nat} {os:Nat→Option AO} (hf:∀ n,bd≤n→os n=none) {o:AO} (h:os n=some o):n < bd:=by
  cases Nat.lt_or_ge n bd with
  | inl h=>exact h
  | inr h'=>rw [hf n h'] at h; cases h
theorem Hd.drop {P:Program} {fv:AV} {F:Nat→Prop} {σ α:Type} {arg:α→AV} {l:List α} {I:σ→(Nat→Option AO)→Prop} {step:σ→α→σ × Bool} (hT:Hd P fv F arg l I step) {os os2:Nat→Option AO} {bd:Nat} (hcl:(Hp os).closed) (hfree:∀ n,bd≤n→os n=none) {s s':σ} (hs:I s os) (hI:I s' os2) (hfr:∀ n,n < bd→¬ F n→os2 n=os n) :
    (Hp (Dt bd os2)).closed∧I s' (Dt bd os2)∧∀ n,¬ F n→Dt bd os2 n=os n:=by
  have hF:∀ n,F n→n < bd:=fun n hn=>by obtain ⟨o,h,_⟩:=hT.foot s os n hs hn; exact Ap hfree h
  have hfr2:∀ n,¬ F n→Dt bd os2 n=os n:=fun n hn=>by
    by_cases h:n < bd
    · rw [Fq h]; exact hfr n h hn
    · rw [Sl (by omega),hfree n (by omega)]
  refine ⟨⟨fun _=>AV.lives_undef _,fun n o hn=>?_⟩,hT.stable s' os2 _ hI (fun n hn=>Fq (hF n hn)),hfr2⟩
  have hn:Dt bd os2 n=some o:=hn
  by_cases hFn:F n
  · obtain ⟨o',h1,h2⟩:=hT.foot s' os2 n hI hFn
    rw [Fq (hF n hFn),h1] at hn
    cases hn
    intro m hm
    obtain ⟨o'',h3,_⟩:=hT.foot s' os2 m hI (h2 m hm)
    show (Dt bd os2 m).isSome=true
    rw [Fq (hF m (h2 m hm)),h3]; rfl
  · rw [hfr2 n hFn] at hn
    intro m hm
    have h3:=hcl.2 n o hn m hm
    show (Dt bd os2 m).isSome=true
    by_cases hFm:F m
    · obtain ⟨o',h1,_⟩:=hT.foot s' os2 m hI hFm
      rw [Fq (hF m hFm),h1]; rfl
    · rw [hfr2 m hFm]; exact h3
structure ElT (P:Program) (tS tE:TypeId) {α:Type} (arg:α→AV) (enc:α→List PV):Prop where
  s:(Aa P tS).k=.sl tE
  z:∀ x,(enc x).length=(Aa P tE).sz
  g:(Aa P tE).agg.isSome=true
  ld:∀ os x,Eb (Aa P tE).agg (Aa P tE).sz os (.p (.ro (enc x)))=some (.pure (arg x))
  bx:∀ x,(arg x).cs?=some ((enc x).map .p)
  ld2:∀ os n x,os n=some (.cells ((enc x).map .p))→Eb (Aa P tE).agg (Aa P tE).sz os (.ptr n 0)=some (.pure (arg x))
  lv:∀ os x,(arg x).lives os
theorem Zo {P:Program} {tS tE n:TypeId} {α:Type} {enc:α→List PV} (hs:(Aa P tS).k=.sl tE) (hg:(Aa P tE).agg=some true) (hn:(Aa P tE).sz=n) (hl:∀ x,(enc x).length=n):ElT P tS tE (fun x=>.agg ((enc x).map .p)) enc:=by
  refine ⟨hs,fun x=>by rw [hl,hn],by rw [hg]; rfl,fun os x=>?_,fun x=>rfl,fun os m x h=>?_,fun os x=>?_⟩
  · rw [hg,hn,H1,Vp,List.length_map,hl,if_pos (Nat.le_refl _),List.take_of_length_le (by rw [List.length_map,hl]; exact Nat.le_refl _)]; rfl
  · rw [hg,hn,Ei,h,Hj,List.drop_zero,Vp,List.length_map,hl,if_pos (Nat.le_refl _),List.take_of_length_le (by rw [List.length_map,hl]; exact Nat.le_refl _)]; rfl
  · exact AV.lives_agg.2 fun i y hy=>by
      rw [List.getElem?_map,Option.map_eq_some_iff] at hy
      obtain ⟨z,_,rfl⟩:=hy
      exact AV.lives_p _ _
theorem Aqb {P:Program} {tS tE:TypeId} {α:Type} {f:α→PV} (hs:(Aa P tS).k=.sl tE) (hg:(Aa P tE).agg=some false) (hn:(Aa P tE).sz=1):ElT P tS tE (fun x=>.p (f x)) (fun x=>[f x]):=
  ⟨hs,fun x=>by rw [hn]; rfl,by rw [hg]; rfl,fun os x=>by rw [hg,H1]; rfl,fun x=>rfl,fun os m x h=>by rw [hg,Ei,h,Hj]; rfl,fun os x=>AV.lives_p _ _⟩
def Ayw (tS tE tF tI tB:Nat):Code:=
  (.seq (.region 0 #[⟨some 4, .assign (.const (.int .i64 0)), tI, "slices.go:107", #[], none⟩] false) (.seq (.seq (.region 1 #[⟨some 6, .move (.tmp 0), tS, "slices.go:108", #[], none⟩, ⟨some 7, .call ⟨(.builtin .len), #[(.tmp 6)], #[tS]⟩, tI, "slices.go:108", #[⟨0, .data⟩], none⟩, ⟨some 8, .move (.const (.int .i64 0)), tI, "slices.go:108", #[], none⟩] false) (.block 0 (.loop (.seq (.region 2 #[⟨some 9, .binOp .lss tI (.tmp 8) (.tmp 7) tI, 0, "slices.go:108", #[], none⟩] false) (.seq (.cond (.tmp 9) .skip (.exit 0)) (.seq (.block 1 (.seq (.region 3 #[⟨some 10, .move (.tmp 8), tI, "slices.go:108", #[], none⟩, ⟨some 5, .assign (.tmp 10), tI, "slices.go:108", #[⟨0, .data⟩, ⟨0, .phase⟩], none⟩] false) (.seq (.region 4 #[⟨some 11, .move (.tmp 1), tF, "slices.go:109", #[], none⟩, ⟨some 12, .move (.tmp 0), tS, "slices.go:109", #[], none⟩, ⟨some 13, .move (.tmp 5), tI, "slices.go:109", #[], none⟩, ⟨some 14, .indexAddr tS (.tmp 12) (.tmp 13), 0, "slices.go:109", #[⟨1, .data⟩, ⟨2, .data⟩], none⟩, ⟨some 15, .load tE (.tmp 14), tE, "slices.go:109", #[⟨3, .data⟩], none⟩, ⟨some 16, .call ⟨(.value (.tmp 11)), #[(.tmp 15)], #[tE]⟩, tB, "slices.go:109", #[⟨0, .data⟩, ⟨4, .data⟩], none⟩] false) (.cond (.tmp 16) (.seq (.region 5 #[⟨some 17, .move (.tmp 5), tI, "slices.go:110", #[], none⟩, ⟨some 4, .assign (.tmp 17), tI, "slices.go:110", #[⟨0, .data⟩, ⟨0, .phase⟩], none⟩] false) .ret) .skip)))) (.region 6 #[⟨some 18, .binOp .add tI (.tmp 8) (.const (.int .i64 1)) tI, tI, "slices.go:108", #[], none⟩, ⟨some 8, .move (.tmp 18), tI, "slices.go:108", #[⟨0, .data⟩], none⟩] false))))))) (.seq (.region 7 #[⟨some 4, .assign (.const (.int .i64 (-1))), tI, "slices.go:113", #[], none⟩] false) .ret)))
def Bdz (tS tF tI tB fI:Nat):Code:=
  (.seq (.region 0 #[⟨some 4, .assign (.const (.bool false)), tB, "slices.go:124", #[], none⟩] false) (.seq (.region 1 #[⟨some 5, .move (.tmp 0), tS, "slices.go:125", #[], none⟩, ⟨some 6, .move (.tmp 1), tF, "slices.go:125", #[], none⟩, ⟨some 7, .call ⟨(.value (.func fI)), #[(.tmp 5), (.tmp 6)], #[tS, tF]⟩, tI, "slices.go:125", #[⟨0, .data⟩, ⟨1, .data⟩], none⟩, ⟨some 8, .binOp .geq tI (.tmp 7) (.const (.int .i64 0)) tI, tB, "slices.go:125", #[⟨2, .data⟩], none⟩, ⟨some 4, .assign (.tmp 8), tB, "slices.go:125", #[⟨3, .data⟩, ⟨2, .chain⟩, ⟨0, .phase⟩, ⟨1, .phase⟩, ⟨2, .phase⟩, ⟨3, .phase⟩], none⟩] false) .ret))
def Bd3 (tE tF tB:Nat):Code:=
  (.seq (.region 0 #[⟨some 3, .assign (.const (.bool false)), tB, "wort.go:59", #[], none⟩] false) (.seq (.region 1 #[⟨some 4, .load tF (.tmp 1), tF, "wort.go:59", #[], none⟩, ⟨some 5, .move (.tmp 0), tE, "wort.go:59", #[], none⟩, ⟨some 6, .call ⟨(.value (.tmp 4)), #[(.tmp 5)], #[tE]⟩, tB, "wort.go:59", #[⟨0, .data⟩, ⟨1, .data⟩], none⟩, ⟨some 7, .unOp .not tB (.tmp 6), tB, "wort.go:59", #[⟨2, .data⟩], none⟩, ⟨some 3, .assign (.tmp 7), tB, "wort.go:59", #[⟨3, .data⟩, ⟨2, .chain⟩, ⟨0, .phase⟩, ⟨1, .phase⟩, ⟨2, .phase⟩, ⟨3, .phase⟩], none⟩] false) .ret))
def Bds (tE tF tB:Nat):Code:=
  (.seq (.region 0 #[⟨some 2, .box tE (.tmp 0), 0, "wort.go:59", #[], none⟩, ⟨some 3, .assign (.const (.bool false)), tB, "wort.go:59", #[], none⟩] false) (.seq (.region 1 #[⟨some 4, .load tF (.tmp 1), tF, "wort.go:59", #[], none⟩, ⟨some 5, .load tE (.tmp 2), tE, "wort.go:59", #[], none⟩, ⟨some 6, .call ⟨(.value (.tmp 4)), #[(.tmp 5)], #[tE]⟩, tB, "wort.go:59", #[⟨0, .data⟩, ⟨1, .data⟩], none⟩, ⟨some 7, .unOp .not tB (.tmp 6), tB, "wort.go:59", #[⟨2, .data⟩], none⟩, ⟨some 3, .assign (.tmp 7), tB, "wort.go:59", #[⟨3, .data⟩, ⟨2, .chain⟩, ⟨0, .phase⟩, ⟨1, .phase⟩, ⟨2, .phase⟩, ⟨3, .phase⟩], none⟩] false) .ret))
def Axm (tS tF tB fC f1:Nat):Code:=
  (.seq (.region 0 #[⟨some 3, .box tF (.tmp 1), 0, "wort.go:58", #[], none⟩, ⟨some 4, .assign (.const (.bool false)), tB, "wort.go:58", #[], none⟩] false) (.seq (.region 1 #[⟨some 5, .move (.tmp 0), tS, "wort.go:59", #[], none⟩, ⟨some 6, .makeFunc (.func f1) #[] #[(.tmp 3)], tF, "wort.go:59", #[], none⟩, ⟨some 7, .call ⟨(.value (.func fC)), #[(.tmp 5), (.tmp 6)], #[tS, tF]⟩, tB, "wort.go:59", #[⟨0, .data⟩, ⟨1, .data⟩], none⟩, ⟨some 8, .unOp .not tB (.tmp 7), tB, "wort.go:59", #[⟨2, .data⟩], none⟩, ⟨some 4, .assign (.tmp 8), tB, "wort.go:59", #[⟨3, .data⟩, ⟨2, .chain⟩, ⟨0, .phase⟩, ⟨1, .phase⟩, ⟨2, .phase⟩, ⟨3, .phase⟩], none⟩] false) .ret))
theorem Bdo {α β:Type} {f:α→β} {l:List α} {k:Nat} {x:α} {y:β} (h:k < l.length):(l.map f).getD k y=f (l.getD k x):=Cp _ _ _ h
theorem Bcd {P:Program} {σ α:Type} {tS tE tF tI tB:Nat} {arg:α→AV} {enc:α→List PV} [Inhabited α] (hE:ElT P tS tE arg enc) {fn:Func} {f:Nat} (hf:P.funcs[f]?=some fn) (hb:fn.body=some (Ayw tS tE tF tI tB)) (hN:fn.ntmps=19) (hrs:fn.results.toList=[.tmp 4]) (hcal:A7 P f=true)
    {fv:AV} {F:Nat→Prop} {l:List α} {I:σ→(Nat→Option AO)→Prop} {step:σ→α→σ × Bool} (hl:l.length < 1000000) (hT:Hd P fv F arg l I step) {s:σ} {os:Nat→Option AO} {bd:Nat} (hI:I s os) :
    Bh P bd (.fn (.func f) [] []) [.p (.sl (l.map enc)),fv] os fun res os'=>res=i64 (Hk step s l 0).2∧I (Hk step s l 0).1 os'∧∀ n,¬ F n→os' n=os n:=by
  refine B3 (v:=[]) (q:=[]) (N:=19) (rs:=[.tmp 4]) hf hb hcal hN hrs (fun hcl hfree=>?_)
  have hfreeI:∀ (s1:σ) os1,I s1 os1→(∀ n,¬ F n→os1 n=os n)→∀ n,bd≤n→os1 n=none:=fun s1 os1 h1 h2 n hn=>by
    by_cases hFn:F n
    · obtain ⟨o,h3,_⟩:=hT.foot s os n hI hFn
      have:=Ap hfree h3; omega
    · rw [h2 n hFn]; exact hfree n hn
  have hS:=hE.s
  have hz:=hE.z
  have hg:=hE.g
  have hld:=hE.ld
  refine Ab fun K1 hK1=>?_
  refine Ah ?_
  simp (disch:=omega) only [eq_self,amL,sA,sB]
  refine hK1 _ ?_
  refine Ab fun K2 hK2=>?_
  refine Ab fun K3 hK3=>?_
  refine Ah ?_
  simp (disch:=omega) only [hS,eq_self,amL,sA,↓reduceIte,reduceCtorEq]
  refine hK3 _ ?_
  refine Au ?_
  skip
  refine Bg (α:=Nat × σ × (Nat→Option AO)) (fun x=>⟨T [(0,.p (.sl (l.map enc))),(1,fv),(8,i64 x.1),(7,i64 l.length)],x.2.2⟩) (fun x=>l.length - x.1) (fun x=>x.1≤l.length∧I x.2.1 x.2.2∧(Hp x.2.2).closed∧(∀ n,¬ F n→x.2.2 n=os n)∧Hk step x.2.1 (l.drop x.1) x.1=Hk step s l 0) (0,s,os) ?_ ?_ (fun x hx4 K4 hK4=>?_)
  · exact ⟨by simp,hI,hcl,fun _ _=>rfl,by simp⟩
  · refine G9 ?_ ?_ ?_ ?_ <;> (try simp (disch:=omega) only [eq_self,amL,sF,↓reduceIte,reduceCtorEq]); all_goals first | exact hcl | exact Sub.refl _ | exact hT.live _ _ hI
  obtain ⟨k,s1,os1⟩:=x; dsimp only at hx4 ⊢; obtain ⟨hk,hI1,hcl1,hfr1,hsc⟩:=hx4
  refine Ab fun K5 hK5=>?_
  refine Ah ?_
  simp (disch:=omega) only [eq_self,amL,sA,sF,↓reduceIte,reduceCtorEq]
  refine hK5 _ ?_
  refine Ab fun K6 hK6=>?_
  refine Al rfl (fun h=>?_) (fun h=>?_)
  ·first
   | exact Bool.noConfusion h
   |skip
    try simp only [decide_eq_true_eq] at h
    refine Am ?_
    refine hK6 _ ?_
    refine Ab fun K7 hK7=>?_
    refine Au ?_
    refine Ab fun K8 hK8=>?_
    refine Ah ?_
    simp (disch:=omega) only [eq_self,amL,sA,sF,↓reduceIte,reduceCtorEq]
    refine hK8 _ ?_
    refine Ab fun K9 hK9=>?_
    refine Ah ?_
    simp (disch:=omega) only [Bdo (x:=default),hS,hg,hz,hld,eq_self,amL,sA,sF,↓reduceIte,reduceCtorEq]
    refine A2 [(0,.p (.sl (l.map enc))),(1,fv),(5,i64 k),(8,i64 k),(7,i64 l.length)] (by decide) (hT.call s1 (l.getD k default) os1 bd (Abv default (by omega)) hI1 hcl1) (hfreeI _ _ hI1 hfr1) (Nat.le_refl _) (fun res os2 hR hcl2 hlv2=>?_)
    obtain ⟨rfl,hI2,hfr2⟩:=hR
    have hv2:=hT.live _ _ hI2
    simp (disch:=omega) only [eq_self,amL,sF,↓reduceIte,reduceCtorEq]
    refine ⟨hv2,?_⟩
    refine hK9 _ ?_
    refine Al rfl (fun h=>?_) (fun h=>?_)
    ·first
     | exact Bool.noConfusion h
     |skip
      try simp only [Bool.not_eq_true',decide_eq_true_eq,decide_eq_false_iff_not,Bool.and_eq_true,Bool.not_eq_false',Bool.not_not,decide_not,Bool.not_true,Bool.not_false] at h
      refine Ab fun K10 hK10=>?_
      refine Ah ?_
      simp (disch:=omega) only [eq_self,amL,sA,sF,↓reduceIte,reduceCtorEq]
      refine hK10 _ ?_
      refine Aj ?_
      try simp (disch:=omega) only [amL]
      first | (refine A6 (res:=i64 _) os1 (by simp (disch:=omega) only [eq_self,amL,↓reduceIte]; try rfl) (Sub.refl _) hcl1 (AV.lives_p _ _) ?_ ; rw [Nm (by omega) hsc]; exact ⟨rfl,hI1,hfr1⟩) | (refine A6 (res:=i64 _) os2 (by simp (disch:=omega) only [eq_self,amL,↓reduceIte]; try rfl) (Sub.refl _) hcl2 (AV.lives_p _ _) ?_ ; rw [Ln default (by omega) h hsc]; exact ⟨rfl,hI2,fun n hn=>(hfr2 n hn).trans (hfr1 n hn)⟩)
    ·first
     | exact Bool.noConfusion h
     |skip
      try simp only [Bool.not_eq_true',decide_eq_true_eq,decide_eq_false_iff_not,Bool.and_eq_true,Bool.not_eq_false',Bool.not_not,decide_not,Bool.not_true,Bool.not_false] at h
      refine Am ?_
      refine hK7 _ ?_
      refine Ah ?_
      simp (disch:=omega) only [eq_self,amL,sA,sF,↓reduceIte,reduceCtorEq]
      refine hK4 (k+1,(step s1 (l.getD k default)).1,os2) _ ?_ ?_ (G9 ?_ ?_ ?_ ?_)
      all_goals (try simp (disch:=omega) only [eq_self,amL,sF,↓reduceIte,reduceCtorEq])
      all_goals first | exact ⟨by omega,hI2,hcl2,fun n hn=>(hfr2 n hn).trans (hfr1 n hn),X2 default (by omega) h hsc⟩ | omega | exact hcl2 | exact Sub.refl _ | exact hv2
  ·first
   | exact Bool.noConfusion h
   |skip
    try simp only [decide_eq_false_iff_not] at h
    refine Bq ?_
    refine hK2 _ ?_
    refine Ab fun K11 hK11=>?_
    refine Ah ?_
    simp (disch:=omega) only [eq_self,amL,sA,sM]
    refine hK11 _ ?_
    refine Aj ?_
    try simp (disch:=omega) only [amL,sM]
    first | (refine A6 (res:=i64 _) os1 (by simp (disch:=omega) only [eq_self,amL,sM,↓reduceIte]; try rfl) (Sub.refl _) hcl1 (AV.lives_p _ _) ?_ ; rw [Nm (by omega) hsc]; exact ⟨rfl,hI1,hfr1⟩) | (refine A6 (res:=i64 _) os2 (by simp (disch:=omega) only [Bdo (x:=default),hS,hg,hz,hld,eq_self,amL,sA,sB,sC,sD,sE,sF,sG,sH,sI,sJ,sK,sL,sM,sN,sO,↓reduceIte,reduceCtorEq]; try rfl) (Sub.refl _) hcl2 (AV.lives_p _ _) ?_ ; rw [Ln default (by omega) h hsc]; exact ⟨rfl,hI2,fun n hn=>(hfr2 n hn).trans (hfr1 n hn)⟩)
def Ayc (P:Program) (f1:Nat) (fv:AV) (F:Nat→Prop) {σ α:Type} (arg:α→AV) (l:List α) (I:σ→(Nat→Option AO)→Prop) (step:σ→α→σ × Bool):Prop:=∀ nb,¬ F nb→∀ s x os bd,x ∈ l→I s os→os nb=some (.cells [fv]) →
  Bh P bd (.fn (.func f1) [] [.ptr nb 0]) [arg x] os fun res os'=>res=bl (!(step s x).2)∧(I (step s x).1 os'∧os' nb=some (.cells [fv]))∧∀ n,¬ (F n∨n=nb)→os' n=os n
structure Mf (P:Program) (tS tE tF tI tB fI fC:Nat):Prop where
  i:∃ fn,P.funcs[fI]?=some fn∧fn.body=some (Ayw tS tE tF tI tB)∧fn.ntmps=19∧fn.results.toList=[.tmp 4]∧A7 P fI=true
  c:∃ fn,P.funcs[fC]?=some fn∧fn.body=some (Bdz tS tF tI tB fI)∧fn.ntmps=9∧fn.results.toList=[.tmp 4]∧A7 P fC=true
def Ayr (P:Program) (tS tE tF tB fC f1 fA:Nat):Prop:=(∃ fn,P.funcs[f1]?=some fn∧fn.body=some (Bd3 tE tF tB)∧fn.ntmps=8∧fn.results.toList=[.tmp 3]∧A7 P f1=true) ∧
  ∃ fn,P.funcs[fA]?=some fn∧fn.body=some (Axm tS tF tB fC f1)∧fn.ntmps=9∧fn.results.toList=[.tmp 4]∧A7 P fA=true
def Ai3 (P:Program) (tS tE tF tB fC f1 fA:Nat):Prop:=(∃ fn,P.funcs[f1]?=some fn∧fn.body=some (Bds tE tF tB)∧fn.ntmps=8∧fn.results.toList=[.tmp 3]∧A7 P f1=true) ∧
  ∃ fn,P.funcs[fA]?=some fn∧fn.body=some (Axm tS tF tB fC f1)∧fn.ntmps=9∧fn.results.toList=[.tmp 4]∧A7 P fA=true
theorem Avp {P:Program} {σ α:Type} {tS tE tF tI tB:Nat} {arg:α→AV} {enc:α→List PV} [Inhabited α] (hE:ElT P tS tE arg enc) {fI fC:Nat} (hF:Mf P tS tE tF tI tB fI fC) {fv:AV} {F:Nat→Prop} {l:List α} {I:σ→(Nat→Option AO)→Prop} {step:σ→α→σ × Bool} (hl:l.length < 1000000) (hT:Hd P fv F arg l I step) {s:σ} {os:Nat→Option AO} {bd:Nat} (hI:I s os) :
    Bh P bd (.fn (.func fC) [] []) [.p (.sl (l.map enc)),fv] os fun res os'=>res=bl (decide (0≤(Hk step s l 0).2))∧I ((Hk step s l 0).1) os'∧∀ n,¬ F n→os' n=os n:=by
  obtain ⟨fi,i1,i2,i3,i4,i5⟩:=hF.i
  obtain ⟨fn,hf,hb,hN,hrs,hcal⟩:=hF.c
  have cI:=Bcd hE i1 i2 i3 i4 i5 hl hT (bd:=bd) hI
  refine B3 (v:=[fI]) (q:=[]) (N:=9) (rs:=[.tmp 4]) hf hb hcal hN hrs (fun hcl hfree=>?_)
  refine Ab fun K1 hK1=>?_
  refine Ah ?_
  simp (disch:=omega) only [amL,sA,sB]
  refine hK1 _ ?_
  refine Ab fun K2 hK2=>?_
  refine Ah ?_
  simp (disch:=omega) only [amL,sA,sF,↓reduceIte,reduceCtorEq]
  refine A2 [] (by decide) cI hfree (Nat.le_refl _) (fun res os2 hR hcl2 hlv2=>?_)
  obtain ⟨rfl,hI2,hfr2⟩:=hR
  simp (disch:=omega) only [amL,sA,↓reduceIte]
  refine hK2 _ ?_
  refine Aj ?_
  try simp (disch:=omega) only [amL]
  refine A6 (res:=bl _) os2 (by simp (disch:=omega) only [amL,↓reduceIte]; try rfl) (Sub.refl _) hcl2 (AV.lives_p _ _) ⟨rfl,hI2,hfr2⟩
theorem Aun {P:Program} {σ α:Type} {tS tE tF tB:Nat} {arg:α→AV} {enc:α→List PV} [Inhabited α] (hE:ElT P tS tE arg enc) {fC f1 fA:Nat} (hA:Ai3 P tS tE tF tB fC f1 fA) {fv:AV} {F:Nat→Prop} {l:List α} {I:σ→(Nat→Option AO)→Prop} {step:σ→α→σ × Bool} (hfvT:(Aa P tF).agg=some false) (hT:Hd P fv F arg l I step) {nb:Nat} (hnb:¬ F nb) {s:σ} {x:α} {os:Nat→Option AO} {bd:Nat} (hx:x ∈ l) (hI:I s os) (hnb1:os nb=some (.cells [fv])) :
    Bh P bd (.fn (.func f1) [] [.ptr nb 0]) [arg x] os fun res os'=>res=bl (!(step s x).2)∧(I (step s x).1 os'∧os' nb=some (.cells [fv]))∧∀ n,¬ (F n∨n=nb)→os' n=os n:=by
  obtain ⟨fn,hf,hb,hN,hrs,hcal⟩:=hA.1
  refine B3 (v:=[]) (q:=[]) (N:=8) (rs:=[.tmp 3]) hf hb hcal hN hrs (fun hcl hfree=>?_)
  have hlt:=Ap hfree hnb1
  have hfr0:∀ k,os (bd+k)=none:=fun k=>hfree _ (by omega)
  have hlv:=hT.live _ _ hI
  have hF:∀ n,F n→n < bd:=fun n hn=>by obtain ⟨o,h,_⟩:=hT.foot s os n hI hn; exact Ap hfree h
  have hbx:=hE.bx
  have hl2:=hE.ld2 (upd os (bd+2) (some (.cells ((enc x).map .p)))) (bd+2) x Bc
  have hcl0:(Hp (upd os (bd+2) (some (.cells ((enc x).map .p))))).closed:=Cs hcl (AO.lives_cells.2 fun i y hy=>by
    rw [List.getElem?_map,Option.map_eq_some_iff] at hy
    obtain ⟨z,_,rfl⟩:=hy
    exact AV.lives_p _ _)
  have hI0:I s (upd os (bd+2) (some (.cells ((enc x).map .p)))):=hT.stable s os _ hI (fun n hn=>Ac (by have:=hF n hn; omega))
  have hfr8:∀ n,bd+8≤n→upd os (bd+2) (some (.cells ((enc x).map .p))) n=none:=fun n hn=>by rw [Ac (by omega)]; exact hfree n (by omega)
  refine Ab fun K1 hK1=>?_
  refine Ah ?_
  simp (disch:=omega) only [hbx,hfr0,amL,sA,sB,↓reduceIte]
  refine hK1 _ ?_
  refine Ab fun K2 hK2=>?_
  refine Ah ?_
  simp (disch:=omega) only [hl2,hnb1,hfvT,Ac,amL,sA,sF,↓reduceIte,reduceCtorEq]
  have hvc:=hT.call s x _ (bd+8) hx hI0 hcl0
  refine A2 [] (by decide) hvc hfr8 (Nat.le_add_right bd 8) (fun res os2 hR hcl2 hlv2=>?_)
  obtain ⟨rfl,hI2,hfr2⟩:=hR
  simp (disch:=omega) only [amL,sA,↓reduceIte]
  refine hK2 _ ?_
  refine Aj ?_
  try simp (disch:=omega) only [amL]
  obtain ⟨g1,g2,g3⟩:=hT.drop hcl hfree hI hI2 (fun n hn hF=>by first | exact hfr2 n hF | (rw [hfr2 n hF,Ac (by omega)]))
  refine A6 (res:=bl _) (Dt bd os2) (by simp (disch:=omega) only [amL,↓reduceIte]; try rfl) (L3 _ _) g1 (AV.lives_p _ _) ⟨rfl,⟨g2,?_⟩,fun n hn=>g3 n (fun h=>hn (.inl h))⟩
  rw [g3 nb hnb]; exact hnb1
theorem Ax9 {P:Program} {σ α:Type} {tE tF tB:Nat} {arg:α→AV} [Inhabited α] {fC f1 fA tS:Nat} (hA:Ayr P tS tE tF tB fC f1 fA) (hlva:∀ x os,(arg x).lives os) {fv:AV} {F:Nat→Prop} {l:List α} {I:σ→(Nat→Option AO)→Prop} {step:σ→α→σ × Bool} (hfvT:(Aa P tF).agg=some false) (hT:Hd P fv F arg l I step):Ayc P f1 fv F arg l I step:=by
  intro nb hnb s x os bd hx hI hnb1
  obtain ⟨fn,hf,hb,hN,hrs,hcal⟩:=hA.1
  refine B3 (v:=[]) (q:=[]) (N:=8) (rs:=[.tmp 3]) hf hb hcal hN hrs (fun hcl hfree=>?_)
  have hlt:=Ap hfree hnb1
  have hfr0:∀ k,os (bd+k)=none:=fun k=>hfree _ (by omega)
  have hlv:=hT.live _ _ hI
  have hlx:=hlva x os
  refine Ab fun K1 hK1=>?_
  refine Ah ?_
  simp (disch:=omega) only [amL,sA,sB]
  refine hK1 _ ?_
  refine Ab fun K2 hK2=>?_
  refine Ah ?_
  simp (disch:=omega) only [hnb1,hfvT,amL,sA,sF,↓reduceIte,reduceCtorEq]
  have hvc:=hT.call s x os (bd+8) hx hI hcl
  refine A2 [] (by decide) hvc (fun n hn=>hfree n (by omega)) (Nat.le_add_right bd 8) (fun res os2 hR hcl2 hlv2=>?_)
  obtain ⟨rfl,hI2,hfr2⟩:=hR
  simp (disch:=omega) only [amL,sA,↓reduceIte]
  refine hK2 _ ?_
  refine Aj ?_
  try simp (disch:=omega) only [amL]
  obtain ⟨g1,g2,g3⟩:=hT.drop hcl hfree hI hI2 (fun n hn hF=>hfr2 n hF)
  refine A6 (res:=bl _) (Dt bd os2) (by simp (disch:=omega) only [amL,↓reduceIte]; try rfl) (L3 _ _) g1 (AV.lives_p _ _) ⟨rfl,⟨g2,?_⟩,fun n hn=>g3 n (fun h=>hn (.inl h))⟩
  rw [g3 nb hnb]; exact hnb1
theorem At4 {P:Program} {σ α:Type} {arg:α→AV} [Inhabited α] {f1:Nat} {fv:AV} {F:Nat→Prop} {l:List α} {I:σ→(Nat→Option AO)→Prop} {step:σ→α→σ × Bool} (hU:Ayc P f1 fv F arg l I step) (hT:Hd P fv F arg l I step) {nb:Nat} (hnb:¬ F nb) (hfv:∀ m,fv.clean m=false→F m) :
    Hd P (.fn (.func f1) [] [.ptr nb 0]) (fun n=>F n∨n=nb) arg l (fun s os=>I s os∧os nb=some (.cells [fv])) (fun s x=>((step s x).1,!(step s x).2)):=by
  refine ⟨fun s os hI=>?_,fun s os os' hI h=>⟨hT.stable s os os' hI.1 (fun n hn=>h n (.inl hn)),(h nb (.inr rfl)).trans hI.2⟩,fun s os n hI hn=>?_,fun s x os bd hx hI _=>hU nb hnb s x os bd hx hI.1 hI.2⟩
  · rw [Fr,Cq,Cm,Cq,C8,hI.2]; exact ⟨trivial,rfl,trivial⟩
  · rcases hn with hn | rfl
    · obtain ⟨o,h1,h2⟩:=hT.foot s os n hI.1 hn
      exact ⟨o,h1,fun m hm=>.inl (h2 m hm)⟩
    · refine ⟨_,hI.2,fun m hm=>.inl (hfv m ?_)⟩
      simpa [AO.clean,AV.clean.cleanL] using hm
theorem Aod {P:Program} {σ α:Type} {tS tE tF tI tB:Nat} {arg:α→AV} {enc:α→List PV} [Inhabited α] (hE:ElT P tS tE arg enc) {fI fC f1 fA:Nat} (hF:Mf P tS tE tF tI tB fI fC) (hA:∃ fn,P.funcs[fA]?=some fn∧fn.body=some (Axm tS tF tB fC f1)∧fn.ntmps=9∧fn.results.toList=[.tmp 4]∧A7 P fA=true) {ff:Fn} {fs cs:List AV} {F:Nat→Prop} {l:List α} {I:σ→(Nat→Option AO)→Prop} {step:σ→α→σ × Bool} (hl:l.length < 1000000) (hT:Hd P (.fn ff fs cs) F arg l I step) (hU:Ayc P f1 (.fn ff fs cs) F arg l I step) (hfv:∀ m,(AV.fn ff fs cs).clean m=false→F m) {s:σ} {os:Nat→Option AO} {bd:Nat} (hI:I s os) :
    Bh P bd (.fn (.func fA) [] []) [.p (.sl (l.map enc)),.fn ff fs cs] os fun res os'=>res=bl ((Gn step s l).2)∧I ((Gn step s l).1) os'∧∀ n,¬ F n→os' n=os n:=by
  obtain ⟨fn,hf,hb,hN,hrs,hcal⟩:=hA
  refine B3 (v:=[fC]) (q:=[]) (N:=9) (rs:=[.tmp 4]) hf hb hcal hN hrs (fun hcl hfree=>?_)
  have hfr0:∀ k,os (bd+k)=none:=fun k=>hfree _ (by omega)
  have hFb:∀ n,F n→n < bd:=fun n hn=>by obtain ⟨o,h,_⟩:=hT.foot s os n hI hn; exact Ap hfree h
  have hlv:=hT.live _ _ hI
  have hcl0:(Hp (upd os (bd+3) (some (.cells [.fn ff fs cs])))).closed:=Cs hcl (by
    rw [Dw,Cm,Cq]
    exact ⟨AV.lives_mono (fun n hn=>by
                                         by_cases e:n=bd+3; · subst e; rw [Bc]; rfl
                                         · rw [Ac e]; exact hn) hlv,trivial⟩)
  have hI0:I s (upd os (bd+3) (some (.cells [.fn ff fs cs]))):=hT.stable s os _ hI (fun n hn=>Ac (by have:=hFb n hn; omega))
  have ht:=At4 hU hT (nb:=bd+3) (fun h=>by have:=hFb _ h; omega) hfv
  obtain ⟨sa1,sa2⟩:=Tq (step:=step) l s 0
  have cC:=Avp hE hF (bd:=bd+9) hl ht (s:=s) (os:=upd os (bd+3) (some (.cells [.fn ff fs cs]))) ⟨hI0,Bc⟩
  refine Ab fun K1 hK1=>?_
  refine Ah ?_
  simp (disch:=omega) only [hfr0,amL,sA,sB,↓reduceIte,reduceCtorEq]
  refine hK1 _ ?_
  refine Ab fun K2 hK2=>?_
  refine Ah ?_
  simp (disch:=omega) only [amL,sA,sF,↓reduceIte,reduceCtorEq]
  refine A2 [] (by decide) cC (fun n hn=>by first | exact hfree n (by omega) | (rw [Ac (by omega)]; exact hfree n (by omega))) (Nat.le_add_right bd 9) (fun res os2 hR hcl2 hlv2=>?_)
  obtain ⟨rfl,⟨hI2,_⟩,hfr2⟩:=hR
  simp (disch:=omega) only [amL,sA,↓reduceIte]
  refine hK2 _ ?_
  refine Aj ?_
  try simp (disch:=omega) only [amL]
  rw [sa1] at hI2
  obtain ⟨g1,g2,g3⟩:=hT.drop hcl hfree hI hI2 (fun n hn hF=>by rw [hfr2 n (fun h=>h.elim hF (fun e=>by omega)),Ac (by omega)])
  refine A6 (res:=bl _) (Dt bd os2) (by simp (disch:=omega) only [amL,↓reduceIte]; try rfl) (L3 _ _) g1 (AV.lives_p _ _) ⟨by rw [sa2],g2,g3⟩
theorem Bbh {P:Program} {σ α:Type} {tS tE tF tI tB:Nat} {arg:α→AV} {enc:α→List PV} [Inhabited α] (hE:ElT P tS tE arg enc) {fI fC f1 fA:Nat} (hF:Mf P tS tE tF tI tB fI fC) (hA:Ai3 P tS tE tF tB fC f1 fA) (hfvT:(Aa P tF).agg=some false) {ff:Fn} {fs cs:List AV} {F:Nat→Prop} {l:List α} {I:σ→(Nat→Option AO)→Prop} {step:σ→α→σ × Bool} (hl:l.length < 1000000) (hT:Hd P (.fn ff fs cs) F arg l I step) (hfv:∀ m,(AV.fn ff fs cs).clean m=false→F m) {s:σ} {os:Nat→Option AO} {bd:Nat} (hI:I s os) :
    Bh P bd (.fn (.func fA) [] []) [.p (.sl (l.map enc)),.fn ff fs cs] os fun res os'=>res=bl ((Gn step s l).2)∧I ((Gn step s l).1) os'∧∀ n,¬ F n→os' n=os n:=
  Aod hE hF hA.2 hl hT (fun _ hnb _ _ _ _ hx hI h=>Aun hE hA hfvT hT hnb hx hI h) hfv hI
theorem Axc {P:Program} {σ α:Type} {tS tE tF tI tB:Nat} {arg:α→AV} {enc:α→List PV} [Inhabited α] (hE:ElT P tS tE arg enc) {fI fC f1 fA:Nat} (hF:Mf P tS tE tF tI tB fI fC) (hA:Ayr P tS tE tF tB fC f1 fA) (hfvT:(Aa P tF).agg=some false) {ff:Fn} {fs cs:List AV} {F:Nat→Prop} {l:List α} {I:σ→(Nat→Option AO)→Prop} {step:σ→α→σ × Bool} (hl:l.length < 1000000) (hT:Hd P (.fn ff fs cs) F arg l I step) (hfv:∀ m,(AV.fn ff fs cs).clean m=false→F m) {s:σ} {os:Nat→Option AO} {bd:Nat} (hI:I s os) :
    Bh P bd (.fn (.func fA) [] []) [.p (.sl (l.map enc)),.fn ff fs cs] os fun res os'=>res=bl ((Gn step s l).2)∧I ((Gn step s l).1) os'∧∀ n,¬ F n→os' n=os n:=
  Aod hE hF hA.2 hl hT (Ax9 hA (fun x os=>hE.lv os x) hfvT hT) hfv hI
theorem Nw {x:AV} (h:x.isP=true) (m:Nat):x.clean m=true:=by
  cases hx:x.clean m with
  | true=>rfl
  | false=>have:=A9 (fun _=>none) h m hx; cases this
theorem Apw {P:Program} {α:Type} {arg:α→AV} {l:List α} {f:Nat} {fs:List AV} {g:α→Bool} (hcal:A7 P f=true) (hfs:fs.all AV.isP=true) (h:∀ x ∈ l,Bu P f (fs++[arg x]) (bl (g x))):Hd P (.fn (.func f) fs []) (fun _=>False) arg l (fun (_:Unit) _=>True) (fun _ x=>((),g x)) where
  live _ os _:=by
    rw [Fr]
    refine ⟨Ev.2 fun i x hx=>A9 _ (List.all_eq_true.1 hfs x (List.mem_of_getElem? hx)),trivial⟩
  stable _ _ _ _ _:=trivial
  foot _ _ _ _ hn:=hn.elim
  call _ x os bd hx _ _:=by
    refine Bh.mono (U9 hcal (args:=[arg x]) (cs:=[]) (by rw [List.append_nil]; exact h x hx)) ?_
    rintro r os' ⟨rfl,rfl⟩
    exact ⟨rfl,trivial,fun _ _=>rfl⟩
theorem Rq {α:Type} {g:α→Bool}:∀ (l:List α),(Gn (fun (_:Unit) x=>((),g x)) () l).2=l.all g
  | []=>rfl
  | x :: l=>by
    simp only [Gn,List.all_cons]
    cases h:g x
    · rfl
    · simp only [if_true,Bool.true_and]; exact Rq l
theorem Al8 {P:Program} {α:Type} {tS tE tF tI tB:Nat} {arg:α→AV} {enc:α→List PV} [Inhabited α] (hE:ElT P tS tE arg enc) {fI fC f1 fA:Nat} (hF:Mf P tS tE tF tI tB fI fC) (hA:Ai3 P tS tE tF tB fC f1 fA) (hfvT:(Aa P tF).agg=some false) {f:Nat} {fs:List AV} {l:List α} {g:α→Bool} (hcal:A7 P f=true) (hfs:fs.all AV.isP=true) (h:∀ x ∈ l,Bu P f (fs++[arg x]) (bl (g x))) (hl:l.length < 1000000) {os:Nat→Option AO} {bd:Nat} :
    Bh P bd (.fn (.func fA) [] []) [.p (.sl (l.map enc)),.fn (.func f) fs []] os fun res os'=>res=bl (l.all g)∧os'=os:=by
  have hc:∀ m,(AV.fn (.func f) fs []).clean m=false→False:=fun m hm=>by
    have h1:AV.clean.cleanL m fs=true:=(Be m fs).2 fun i x hx=>Nw (List.all_eq_true.1 hfs x (List.mem_of_getElem? hx)) m
    rw [AV.clean,h1] at hm; cases hm
  refine Bh.mono (Bbh hE hF hA hfvT hl (Apw hcal hfs h) (fun m hm=>hc m hm) (s:=()) (bd:=bd) trivial) ?_
  rintro r os' ⟨rfl,_,hfr⟩
  exact ⟨by rw [Rq],funext fun n=>hfr n id⟩
end AM
end
/- How vessels lie in cells. -/
section
namespace AM.Wort
open Go AM
theorem Te {l:Liq} {v:List Liq}:cW (l :: v)=i64 l.g :: i64 l.e :: cW v:=rfl
theorem A0 {v:List Liq}:(cW v).length=2 * v.length:=by
 induction v with
 | nil=>rfl
 | cons l v ih=>rw [Te,List.length_cons,List.length_cons,List.length_cons,ih]; omega
theorem Hg {v:List Liq} {tl:List AV}:(cW v++tl).length=2 * v.length+tl.length:=by rw [List.length_append,A0]
theorem Ds:∀ {v:List Liq} {k:Nat} {tl:List AV},k < v.length→(cW v++tl).drop (k * 2)=i64 (v.getD k default).g :: i64 (v.getD k default).e :: (cW (v.drop (k+1))++tl)
 | l :: v,0,tl,_=>rfl
 | l :: v,k+1,tl,h=>by
  rw [Te,show (k+1) * 2=k * 2+2 by omega]
  show (cW v++tl).drop (k * 2)=_
  rw [Ds (by simpa using h)]; rfl
theorem J2 {v:List Liq} {k:Nat} {tl:List AV} (h:k < v.length):(cW v++tl).drop (k * 2+1)=i64 (v.getD k default).e :: (cW (v.drop (k+1))++tl):=by rw [← List.drop_drop,Ds h]; rfl
theorem B9 {v:List Liq} {k:Nat} (h:k < v.length):(cW v).drop (k * 2)=i64 (v.getD k default).g :: i64 (v.getD k default).e :: cW (v.drop (k+1)):=by have:=Ds (tl:=[]) h; rwa [List.append_nil,List.append_nil] at this
theorem Ag4 {v:List Liq} {tl:List AV} (h:v.length=4):(cW v++tl).take 8=cW v:=by
 rw [List.take_append_of_le_length (by rw [A0]; omega),List.take_of_length_le (by rw [A0]; omega)]
theorem Br {v:List Liq} (h:v.length=4):(cW v).take 8=cW v:=List.take_of_length_le (by rw [A0]; omega)
theorem tkL {v:List Liq} {k:Nat} {tl:List AV} (h:k < v.length):Ai true 2 ((cW v++tl).drop (k * 2))=some (avL (v.getD k default)):=by
 rw [Ds h,Vp,if_pos (by simp)]; rfl
theorem tkG {v:List Liq} {k n:Nat} {tl:List AV} (h:k < v.length):Ai false n ((cW v++tl).drop (k * 2))=some (i64 (v.getD k default).g):=by
 rw [Ds h]; rfl
theorem tkE {v:List Liq} {k n:Nat} {tl:List AV} (h:k < v.length):Ai false n ((cW v++tl).drop (k * 2+1))=some (i64 (v.getD k default).e):=by
 rw [← List.drop_drop,Ds h]; rfl
theorem Ab2:∀ {v:List Liq} {k:Nat} {tl:List AV} {a:Int},k < v.length→(cW v++tl).set (k * 2) (i64 a)=cW (v.set k ⟨a,(v.getD k default).e⟩)++tl
 | l :: v,0,tl,a,_=>rfl
 | l :: v,k+1,tl,a,h=>by
  rw [Te,show (k+1) * 2=k * 2+2 by omega]
  show i64 l.g :: i64 l.e :: (cW v++tl).set (k * 2) (i64 a)=_
  rw [Ab2 (by simpa using h)]; rfl
theorem Aos:∀ {v:List Liq} {k:Nat} {tl:List AV} {a:Int},k < v.length→(cW v++tl).set (k * 2+1) (i64 a)=cW (v.set k ⟨(v.getD k default).g,a⟩)++tl
 | l :: v,0,tl,a,_=>rfl
 | l :: v,k+1,tl,a,h=>by
  rw [Te,show (k+1) * 2+1=k * 2+1+2 by omega]
  show i64 l.g :: i64 l.e :: (cW v++tl).set (k * 2+1) (i64 a)=_
  rw [Aos (by simpa using h)]; rfl
theorem Ke {v:List Liq} {k:Nat} (h:k < v.length):Ai true 2 ((cW v).drop (k * 2))=some (avL (v.getD k default)):=by have:=tkL (tl:=[]) h; rwa [List.append_nil] at this
theorem Jm {v:List Liq} {k n:Nat} (h:k < v.length):Ai false n ((cW v).drop (k * 2))=some (i64 (v.getD k default).g):=by have:=tkG (n:=n) (tl:=[]) h; rwa [List.append_nil] at this
theorem Lk {v:List Liq} {k n:Nat} (h:k < v.length):Ai false n ((cW v).drop (k * 2+1))=some (i64 (v.getD k default).e):=by have:=tkE (n:=n) (tl:=[]) h; rwa [List.append_nil] at this
theorem Azw {v:List Liq} {k:Nat} {a:Int} (h:k < v.length):(cW v).set (k * 2) (i64 a)=cW (v.set k ⟨a,(v.getD k default).e⟩):=by have:=Ab2 (tl:=[]) (a:=a) h; rwa [List.append_nil,List.append_nil] at this
theorem Bbe {v:List Liq} {k:Nat} {a:Int} (h:k < v.length):(cW v).set (k * 2+1) (i64 a)=cW (v.set k ⟨(v.getD k default).g,a⟩):=by have:=Aos (tl:=[]) (a:=a) h; rwa [List.append_nil,List.append_nil] at this
theorem tkW {v:List Liq} {tl:List AV} (h:v.length=4):Ai true 8 (cW v++tl)=some (avW v):=by
 rw [Vp,Hg,if_pos (by omega),List.take_append_of_le_length (by rw [A0]; omega),List.take_of_length_le (by rw [A0]; omega)]
theorem Aat {v:List Liq} (h:v.length=4):Ai true 8 (cW v)=some (avW v):=by have:=tkW (tl:=[]) h; rwa [List.append_nil] at this
theorem Kh {v:List Liq} {k:Nat} {a d:Liq} (h:k < v.length):(v.set k a).getD k d=a:=by
 rw [List.getD_eq_getElem?_getD,List.getElem?_set_self h]; rfl
theorem Aef:∀ {v w:List Liq} {tl:List AV},w.length=v.length→A1 (cW v++tl) 0 (cW w)=cW w++tl:=by
 have gen:∀ (x y:List AV) (p tl:List AV),x.length=y.length→A1 (p++(x++tl)) p.length y=p++(y++tl):=by
  intro x
  induction x with
  | nil=>intro y p tl h; cases y with
   | nil=>rfl
   | cons b y=>cases h
  | cons a x ih=>intro y p tl h; cases y with
   | nil=>cases h
   | cons b y=>
    simp only [A1]
    have:=ih y (p++[b]) tl (by simpa using h)
    rw [List.length_append,List.length_singleton] at this
    rw [show (p++(a :: x++tl)).set p.length b=p++[b]++(x++tl) by simp]
    rw [this]; simp
 intro v w tl h
 have:=gen (cW v) (cW w) [] tl (by rw [A0,A0,h])
 simpa using this
theorem Cb {v w:List Liq} (h:w.length=v.length):A1 (cW v) 0 (cW w)=cW w:=by have:=Aef (tl:=[]) h; rwa [List.append_nil,List.append_nil] at this
theorem Vi:∀ (l:List Int),Cn (l.map i64)=some l
 | []=>rfl
 | x :: l=>by show (Cn (l.map i64)).map (x :: ·)=_; rw [Vi l]; rfl
abbrev B6 (v:List Liq) (k:Nat):Liq:=v.getD k default
def G2 (v:List Liq) (f:Nat) (n:Int):Int:=n * (B6 v f).e / (B6 v f).g
def J1 (v:List Liq) (f:Nat) (n:Int):List Liq:=v.set f ⟨(B6 v f).g - n,(B6 v f).e - G2 v f n⟩
def Mj (v:List Liq) (f t:Nat) (n:Int):List Liq:=(J1 v f n).set t ⟨(B6 (J1 v f n) t).g+n,(B6 (J1 v f n) t).e+G2 v f n⟩
def G8 (v:List Liq) (f t:Nat) (n:Int):List Liq × Bool:=
 if (B6 v f).g < n then (v,false) else if 0 < n then (Mj v f t n,true) else (v,true)
def P0 (v:List Liq) (t:Nat) (n:Int):List Liq × Bool:=(v.set t ⟨(B6 v t).g+n,(B6 v t).e⟩,true)
def Yd (v:List Liq) (f:Nat) (n:Int):List Liq × Bool:=
 (v.set f ⟨(B6 v f).g - n,(B6 v f).e⟩,decide (0 < (B6 v f).g - n)||(decide ((B6 v f).g - n=0)&&decide ((B6 v f).e=0)))
def Gv (v:List Liq) (s:Stp) (n:Int):List Liq × Bool:=
 if s.kind=0 then G8 v s.frm.toNat s.to.toNat n else if s.kind=1 then P0 v s.to.toNat n else Yd v s.frm.toNat n
def R4 (l:Liq):Prop:=(0≤l.g∧l.g≤1000000)∧0≤l.e∧l.e≤1000000000
def G1 (v:List Liq):Prop:=∀ k,R4 (v.getD k default)
theorem Mx {v:List Liq} {k j:Nat} {a:Liq}:B6 (v.set k a) j=if j=k∧k < v.length then a else B6 v j:=by
 unfold B6
 rw [List.getD_eq_getElem?_getD,List.getD_eq_getElem?_getD,List.getElem?_set]
 by_cases h:k=j
 ·subst h
  by_cases h2:k < v.length
  ·simp [h2]
  ·simp [h2]
 ·rw [if_neg h,if_neg (fun e=>h e.1.symm)]
theorem Ah5 {v:List Liq} {k:Nat} {a:Liq} (hw:G1 v) (ha:R4 a):G1 (v.set k a):=fun j=>by
 have:=Mx (v:=v) (k:=k) (j:=j) (a:=a)
 unfold B6 at this
 rw [this]
 split
 ·exact ha
 ·exact hw j
theorem Uz {n e g:Int} (h0:0≤n) (h1:n≤g) (h2:0≤e) (hg:0 < g):0≤n * e / g∧n * e / g≤e:=by
 refine ⟨Int.ediv_nonneg (Int.mul_nonneg h0 h2) (by omega),?_⟩
 have h3:n * e≤g * e:=Int.mul_le_mul_of_nonneg_right h1 h2
 have h4:n * e / g≤g * e / g:=Int.ediv_le_ediv hg h3
 rwa [Int.mul_ediv_cancel_left _ (by omega)] at h4
def doS (vs:List Ves) (v:List Liq) (s:Stp) (n:Int):List Liq × Bool:=
 ((Gv v s n).1,(Gv v s n).2&&decide ((B6 (Gv v s n).1 s.to.toNat).g≤(vs.getD s.to.toNat default).room))
def unI:List Int→List Liq
 | a :: b :: r=>⟨a,b⟩ :: unI r
 | _=>[]
theorem Aoo:∀ v:List Liq,unI (wI v)=v
 | []=>rfl
 | l :: v=>by
  show (⟨l.g,l.e⟩:Liq) :: unI (wI v)=_
  rw [Aoo v]
def kD (s:Stp) (n:Int) (v:List Liq):List Int:=s.kind :: s.frm :: s.to :: s.g.lo :: s.g.hi :: n :: wI v
def doK (vs:List Ves) (ks:List Int):List Liq × Bool:=doS vs (unI (ks.drop 6)) ⟨ks.getD 0 0,ks.getD 1 0,ks.getD 2 0,⟨ks.getD 3 0,ks.getD 4 0⟩⟩ (ks.getD 5 0)
theorem Ax5 {vs:List Ves} {s:Stp} {n:Int} {v:List Liq}:doK vs (kD s n v)=doS vs v s n:=by
 show doS vs (unI (wI v)) _ _=_
 rw [Aoo]; rfl
def Apr (r:List Liq × Bool):Value:=.agg (((wI r.1).map (Value.int .i64))++[Value.bool r.2]).toArray
def Si (vs:List Ves) (ks:List Int):Value:=Apr (doK vs ks)
theorem T8 {r:List Liq × Bool}:D4 (Apr r)=true:=by
 unfold Apr D4
 simp only [List.all_append,Bool.and_eq_true,List.all_eq_true]
 exact ⟨fun x hx=>by obtain ⟨n,_,rfl⟩:=List.mem_map.1 hx; rfl,by simp [Value.oneCell']⟩
theorem Aiu {r:List Liq × Bool}:Bd (Apr r)=.agg (cW r.1++[bl r.2]):=by
 have:=T8 (r:=r)
 unfold Apr at this ⊢
 rw [Gw this]
 simp only [List.map_append,List.map_map]
 rfl
theorem Z1 {v:List Liq} {s:Stp} {n:Int}:(Gv v s n).1.length=v.length:=by
 unfold Gv
 split
 ·unfold G8; split
  ·rfl
  ·split
   ·simp [Mj,J1]
   ·rfl
 ·split <;> simp [P0,Yd]
theorem Aaw {vs:List Ves} {v:List Liq} {s:Stp} {n:Int}:(doS vs v s n).1.length=v.length:=Z1
theorem Ayj {v:List Liq}:(wI v).length=2 * v.length:=by
 have:=A0 (v:=v); unfold cW at this; rwa [List.length_map] at this
theorem Aln {s:Stp} {n:Int} {v:List Liq} (h:v.length=4):(kD s n v).length=14:=by simp [kD,Ayj,h]
theorem Agu {s:Stp} {n:Int} {v:List Liq}:Cn (i64 s.kind :: i64 s.frm :: i64 s.to :: i64 s.g.lo :: i64 s.g.hi :: i64 n :: cW v)=some (kD s n v):=Vi (kD s n v)
theorem Z6 {v:List Liq} (h:v.length=4):∃ a b c d,v=[a,b,c,d]:=by
 match v,h with
 | [a,b,c,d],_=>exact ⟨a,b,c,d,rfl⟩
theorem Atm {v:List Liq} {a1 a2 a3 a4 a5 a6 x1 x2 x3 x4 x5 x6 x7 x8:AV} (h:v.length=4):A1 [a1,a2,a3,a4,a5,a6,x1,x2,x3,x4,x5,x6,x7,x8] 6 (cW v)=a1 :: a2 :: a3 :: a4 :: a5 :: a6 :: cW v:=by
 obtain ⟨a,b,c,d,rfl⟩:=Z6 h; rfl
theorem Bc9 {v:List Liq} {y x1 x2 x3 x4 x5 x6 x7 x8:AV} (h:v.length=4):A1 [x1,x2,x3,x4,x5,x6,x7,x8,y] 0 (cW v)=cW v++[y]:=by
 obtain ⟨a,b,c,d,rfl⟩:=Z6 h; rfl
theorem Aio {v:List Liq} {x1 x2 x3 x4 x5 x6 x7 x8:AV} (h:v.length=4):A1 [x1,x2,x3,x4,x5,x6,x7,x8] 0 (cW v)=cW v:=by
 obtain ⟨a,b,c,d,rfl⟩:=Z6 h; rfl
theorem Avo {v:List Liq} {y z x1 x2 x3 x4 x5 x6 x7 x8:AV} (h:v.length=4):A1 [x1,x2,x3,x4,x5,x6,x7,x8,z] 0 (cW v++[y])=cW v++[y]:=by
 obtain ⟨a,b,c,d,rfl⟩:=Z6 h; rfl
theorem Aku {v:List Liq} (h:v.length=4):(cW v).length=8:=by rw [A0,h]
theorem App {v:List Liq} {y:AV} (h:v.length=4):(cW v++[y]).length=9:=by rw [Hg,h]; rfl
theorem Azy {v:List Liq} {x y:AV} (h:v.length=4):(cW v++[x]).set 8 y=cW v++[y]:=by
 obtain ⟨a,b,c,d,rfl⟩:=Z6 h; rfl
theorem Avn {v:List Liq} {x:AV} (h:v.length=4):(cW v++[x]).drop 8=[x]:=by
 obtain ⟨a,b,c,d,rfl⟩:=Z6 h; rfl
theorem Asx {v:List Liq} {x:AV} (h:v.length=4):(cW v++[x]).take 9=cW v++[x]:=by
 obtain ⟨a,b,c,d,rfl⟩:=Z6 h; rfl
theorem Awy {v:List Liq} {a1 a2 a3 a4 a5 a6:AV} (h:v.length=4):(a1 :: a2 :: a3 :: a4 :: a5 :: a6 :: cW v).take 14=a1 :: a2 :: a3 :: a4 :: a5 :: a6 :: cW v:=by
 obtain ⟨a,b,c,d,rfl⟩:=Z6 h; rfl
theorem Axi {v:List Liq} {a1 a2 a3 a4 a5 a6 b1 b2 b3 b4 b5 b6 x1 x2 x3 x4 x5 x6 x7 x8:AV} (h:v.length=4):A1 [b1,b2,b3,b4,b5,b6,x1,x2,x3,x4,x5,x6,x7,x8] 0 (a1 :: a2 :: a3 :: a4 :: a5 :: a6 :: cW v)=a1 :: a2 :: a3 :: a4 :: a5 :: a6 :: cW v:=by
 obtain ⟨a,b,c,d,rfl⟩:=Z6 h; rfl
theorem Bbw {s:Stp} {n:Int} {v:List Liq} (hs:inR s.kind=true∧inR s.frm=true∧inR s.to=true∧inR s.g.lo=true∧inR s.g.hi=true) (hn:inR n=true) (hw:G1 v):(kD s n v).all inR=true:=by
 have h:∀ v:List Liq,(∀ l ∈ v,R4 l)→(wI v).all inR=true:=by
  intro v
  induction v with
  | nil=>intro _; rfl
  | cons l v ih=>
   intro h
   show (l.g :: l.e :: wI v).all inR=true
   have:=h l (by simp)
   obtain ⟨⟨h1,h2⟩,h3,h4⟩:=this
   simp only [List.all_cons,Bool.and_eq_true,ih (fun x hx=>h x (by simp [hx])),inR,decide_eq_true_eq,and_true]
   omega
 unfold kD
 simp only [List.all_cons,Bool.and_eq_true]
 refine ⟨hs.1,hs.2.1,hs.2.2.1,hs.2.2.2.1,hs.2.2.2.2,hn,h v fun l hl=>?_⟩
 obtain ⟨k,hk⟩:=List.mem_iff_getElem?.1 hl
 have:=hw k
 rwa [List.getD_eq_getElem?_getD,hk] at this
end AM.Wort
end
/- The abstract machine, part 39: aggregates of ints: their equality, and as keys. -/
section
namespace AM
open Go
def Vc (P:Program):Nat→TypeId→Bool
 | 0,_=>false
 | m+1,t=>match P.underlying t with
  | some (.int .i64)=>P.cellsOf t == 1
  | some (.array n e)=>P.cellsOf t == n * P.cellsOf e&&Vc P m e
  | some (.struct fs) => fs.toList.all fun f => f.name != "_" && decide (f.offset + P.cellsOf f.type ≤ P.cellsOf t) && Vc P m f.type
  | _=>false
theorem Qa {α β:Type} {f:α→Option β}:∀ {l:List α},(∀ x ∈ l,∃ y,f x=some y)→∃ ys,l.mapM f=some ys
 | [],_=>⟨[],rfl⟩
 | x :: l,h=>by
  obtain ⟨y,hy⟩:=h x (by simp)
  obtain ⟨ys,hys⟩:=Qa (l:=l) (fun z hz=>h z (by simp [hz]))
  exact ⟨y :: ys,by rw [List.mapM_cons,hy]; simp [hys]⟩
theorem Awx {n:Int} (h:inR n=true):(Lit.int .i64 n).wf=true:=by
 simp only [inR,Bool.and_eq_true,decide_eq_true_eq] at h
 simp only [Lit.wf,Bool.and_eq_true,decide_eq_true_eq,IntKind.min,IntKind.max,IntKind.signed,IntKind.bits]
 simp
 omega
theorem Ka {P:Program}:∀ (m:Nat) (t:TypeId),Vc P m t=true→∀ cs:List Value,cs.length=P.cellsOf t→(∀ v ∈ cs,∃ n,v=.int .i64 n∧inR n=true)→∃ l,P.keyLits m t cs=some l
 | 0,_,h,_,_,_=>by simp [Vc] at h
 | m+1,t,h,cs,hl,hv=>by
  have sub:∀ off c,off+c≤cs.length→((cs.drop off).take c).length=c∧∀ v ∈ (cs.drop off).take c,∃ n,v=.int .i64 n∧inR n=true:=fun off c hc=>by
   refine ⟨by rw [List.length_take,List.length_drop]; omega,fun v hm=>hv v (List.mem_of_mem_drop (List.mem_of_mem_take hm))⟩
  unfold Vc at h
  unfold Program.keyLits
  cases hu:P.underlying t with
  | none=>simp [hu] at h
  | some kd=>
   cases kd with
   | int k=>
    cases k <;> simp [hu] at h
    rw [h] at hl
    match cs,hl with
    | [v],_=>
     obtain ⟨n,rfl,hn⟩:=hv v (by simp)
     exact ⟨[.int .i64 n],by simp [Awx hn]⟩
   | array n e=>
    simp only [hu,Bool.and_eq_true,beq_iff_eq] at h
    obtain ⟨ys,hys⟩:=Qa (l:=List.range n) (f:=fun i=>P.keyLits m e ((cs.drop (i * P.cellsOf e)).take (P.cellsOf e))) (fun i hi=>by
     have hi':i < n:=by simpa using hi
     have:(i+1) * P.cellsOf e≤n * P.cellsOf e:=Nat.mul_le_mul_right _ (by omega)
     rw [Nat.add_mul] at this
     obtain ⟨h1,h2⟩:=sub (i * P.cellsOf e) (P.cellsOf e) (by rw [hl,h.1]; omega)
     exact Ka m e h.2 _ h1 h2)
    simp only [hl,if_true,hys]
    exact ⟨_,rfl⟩
   | struct fs=>
    simp only [hu,List.all_eq_true,Bool.and_eq_true,decide_eq_true_eq] at h
    obtain ⟨ys,hys⟩:=Qa (l:=fs.toList) (f:=fun f=>P.keyLits m f.type ((cs.drop f.offset).take (P.cellsOf f.type))) (fun f hf=>by
     obtain ⟨⟨_,g2⟩,g3⟩:=h f hf
     obtain ⟨h1,h2⟩:=sub f.offset (P.cellsOf f.type) (by rw [hl]; exact g2)
     exact Ka m f.type g3 _ h1 h2)
    have hn : fs.all (·.name != "_") = true := by
     rw [← Array.all_toList,List.all_eq_true]
     exact fun f hf=>(h f hf).1.1
    simp only [hl,hn,and_self,if_true,hys]
    exact ⟨_,rfl⟩
   | _=>simp [hu] at h
theorem P1 {ks:List Int} (hr:ks.all inR=true):∀ v ∈ ks.map (Value.int .i64),∃ n,v=.int .i64 n∧inR n=true:=fun v hv=>by
 obtain ⟨n,hn,rfl⟩:=List.mem_map.1 hv
 exact ⟨n,rfl,List.all_eq_true.1 hr n hn⟩
theorem P3 {P:Program} {t:TypeId} {cs:Array Value} (h:(match P.underlying t with | some (.struct _) | some (.array _ _)=>true | _=>false)=true) (hs:cs.size=P.cellsOf t):(Value.agg cs).formed P t=true:=by
 unfold Value.formed
 split at h
 ·rename_i hu; simp [hu,hs]
 ·rename_i hu; simp [hu,hs]
 ·cases h
def Aaq (P:Program) (t:TypeId) (n:Nat):Bool:=Vc P 8 t&&P.keyTypeAt 8 t&&P.tiled 8 t&&P.cellsOf t == n&&!P.eqGuardType P.depth t&&(match P.underlying t with | some (.struct _) | some (.array _ _)=>true | _=>false)
theorem Rn {P:Program} {t:TypeId} {n:Nat} (h:Aaq P t n=true):Ml P t n:=by
 simp only [Aaq,Bool.and_eq_true,beq_iff_eq,Bool.not_eq_true'] at h
 obtain ⟨⟨⟨⟨⟨h1,h2⟩,h3⟩,h4⟩,h5⟩,h6⟩:=h
 refine ⟨h5,fun a b ha hb hra hrb w=>?_⟩
 obtain ⟨la,hla⟩:=Ka 8 t h1 (a.map (Value.int .i64)) (by simp [ha,h4]) (P1 hra)
 obtain ⟨lb,hlb⟩:=Ka 8 t h1 (b.map (Value.int .i64)) (by simp [hb,h4]) (P1 hrb)
 obtain ⟨r,hr,hiff⟩:=run_equalIn_deep (10000 - 8) 8 t h2 w 8 8 (.agg (a.map (Value.int .i64)).toArray) (.agg (b.map (Value.int .i64)).toArray) la lb (P3 h6 (by simp [ha,h4])) (P3 h6 (by simp [hb,h4])) (by simpa [Value.cells] using hla) (by simpa [Value.cells] using hlb)
 have c1:=cells_of_lits 8 t h3 _ _ _ hla
 have c2:=cells_of_lits 8 t h3 _ _ _ hlb
 have hr:(Op.equal t (.agg (a.map (Value.int .i64)).toArray) (.agg (b.map (Value.int .i64)).toArray)).run P w=.ok r w:=hr
 rw [hr]
 congr 1
 cases r with
 | true=>
  have e:=hiff.1 rfl
  rw [← e,← c1] at c2
  have:a=b:=((List.map_inj_right (fun x y e=>by cases e; rfl)).1 c2).symm
  simp [this]
 | false=>
  have:a≠b:=fun e=>by
   subst e
   rw [hla] at hlb
   cases hlb
   exact absurd (hiff.2 rfl) (by simp)
  simp [this]
def Aug (P:Program) (k:TypeId) (n:Nat):Bool:=Aaq P k n&&P.keyType k&&Vc P (P.types.size+1) k
theorem Ant {P:Program} {k:TypeId} {n:Nat} (h:Aug P k n=true):Kd P k n:=by
 simp only [Aug,Aaq,Bool.and_eq_true,beq_iff_eq,Bool.not_eq_true'] at h
 obtain ⟨⟨⟨⟨⟨⟨⟨h1,h2⟩,h3⟩,h4⟩,h5⟩,h6⟩,h7⟩,h8⟩:=h
 have h6':(match P.underlying k with | some (.array _ _) | some (.struct _)=>true | _=>false)=true:=by
  split at h6
  ·rename_i hu; simp [hu]
  ·rename_i hu; simp [hu]
  ·cases h6
 refine ⟨deep_law (m:=8) (by omega) h2 h3 h6',fun ks hl hr=>?_⟩
 obtain ⟨l,hll⟩:=Ka _ k h8 (ks.map (Value.int .i64)) (by simp [hl,h4]) (P1 hr)
 have hf:=P3 (P:=P) (t:=k) (cs:=(ks.map (Value.int .i64)).toArray) h6 (by simp [hl,h4])
 unfold keyOf
 split at h6
 ·rename_i hu
  simp only [h7,hf,Bool.and_self,if_true]
  refine ⟨.string (keyBytes l),?_⟩
  have:(Value.agg (ks.map (Value.int .i64)).toArray).cells.toList=ks.map (Value.int .i64):=by simp [Value.cells]
  rw [this,hll]; simp [hu]
 ·rename_i hu
  simp only [h7,hf,Bool.and_self,if_true]
  refine ⟨.string (keyBytes l),?_⟩
  have:(Value.agg (ks.map (Value.int .i64)).toArray).cells.toList=ks.map (Value.int .i64):=by simp [Value.cells]
  rw [this,hll]; simp [hu]
 ·cases h6
section
variable {P:Program} {r:RB} {N:Nat} {all:List Oper} {nb:Nat}
def lkp:Op→Bool
 | .lookup _ _ _ true=>true
 | _=>false
def LS (P:Program) (s:St) (A B:AV):Op→Prop
 | .lookup t x i true=>LV P t (ev s.t x) (ev s.t i) s.o A B
 | _=>False
theorem Az7 {op:Op} (h:lkp op=true):isM op=true:=by
 cases op <;> first | (simp [lkp] at h; done) | skip
 rename_i t x i c
 cases c
 ·simp [lkp] at h
 ·rfl
theorem Aa4 {o:Oper} {rest:List Oper} {s:St} {K:St→Prop} (hl:lkp o.op=true) (hg:o.guard=none):EL P r N all (o :: rest) s K↔Bx N o.dst=true∧∃ A B,LS P s A B o.op∧EL P r N all rest (s.put o.dst A) K∧EL P r N all rest (s.put o.dst B) K:=by
 obtain ⟨dst,op,ty,pos,after,g⟩:=o
 dsimp only at hl hg
 subst hg
 simp only [EL,EO,Az7 hl,if_true]
 cases op <;> first | (simp [lkp] at hl; done) | skip
 rename_i t x i c
 cases c
 ·simp [lkp] at hl
 ·simp only [EM,LS]
theorem Hq {x:AV} {b:Bool} {os:Nat→Option AO} (h:x.lives os):(AV.tup [x,.p (.val (.bool b))]).lives os:=AV.lives_tup.2 fun i y hx=>by
 match i,hx with
 | 0,hx=>cases hx; exact h
 | 1,hx=>cases hx; exact AV.lives_p _ _
theorem Qt {s:St} {A B:AV} {op:Op} {os:Nat→Option AO} (h:LS P s A B op):A.lives os∧B.lives os:=by
 unfold LS at h
 split at h
 ·obtain ⟨k,e,m,n,z,cs,ks,h1,h2,f1,h3,h4,h6,h7,h8,h9,hc⟩:=h
  rcases hc with ⟨g,f2,h5,rfl,rfl⟩ | ⟨kv,h5,rfl,⟨v,c1,c2,rfl⟩ | ⟨c1,rfl⟩⟩
  ·exact ⟨Hq (Ey f2),Hq (Ey f1)⟩
  ·exact ⟨Hq (Ey c2),Hq (Ey c2)⟩
  ·exact ⟨Hq (Ey f1),Hq (Ey f1)⟩
 ·exact h.elim
theorem Aou {s s':St} {A B:AV} {op:Op} (ht:∀ x ∈ op.operands.toList,ev s'.t x=ev s.t x) (ho:∀ n,(s.o n).isSome=true→s'.o n=s.o n) (h:LS P s A B op):LS P s' A B op:=by
 unfold LS at h ⊢
 split at h
 ·obtain ⟨k,e,m,n,z,cs,ks,h1,h2,f1,h3,h4,h6,h7,h8,h9,hc⟩:=h
  refine ⟨k,e,m,n,z,cs,ks,h1,h2,f1,h3,(ht _ (by simp [Op.operands])).trans h4,(ht _ (by simp [Op.operands])).trans h6,h7,h8,h9,?_⟩
  rcases hc with ⟨g,f2,h5,e1,e2⟩ | ⟨kv,h5,hc⟩
  ·exact .inl ⟨g,f2,(ho m (by rw [h5]; rfl)).trans h5,e1,e2⟩
  ·exact .inr ⟨kv,(ho m (by rw [h5]; rfl)).trans h5,hc⟩
 ·exact h.elim
theorem Aeu {o:Oper} (hl:lkp o.op=true) (hg:o.guard=none):H5 P r N all o:=by
 intro l l' s K hc h hE
 rw [Aa4 hl hg] at hE ⊢
 obtain ⟨h0,A,B,h1,h2,h3⟩:=hE
 exact ⟨h0,A,B,h1,h _ (Db hc (Qt h1).1) h2,h _ (Db hc (Qt h1).2) h3⟩
theorem Axw {o:Oper} {s:St} {x x':AV} {ob ob':Option AO} (hc:Cd o.op=false) (h:QS P nb o s x ob) (h':QS P nb o s x' ob'):x=x'∧ob=ob':=by
 unfold QS at h h'
 rw [hc] at h h'
 simp only [Bool.false_eq_true,if_false] at h h'
 rcases h with ⟨e1,rfl⟩ | ⟨a,d,e1,rfl,_,_⟩ <;> rcases h' with ⟨e2,rfl⟩ | ⟨a',d',e2,rfl,_,_⟩ <;> rw [e1] at e2 <;> cases e2 <;> exact ⟨rfl,rfl⟩
theorem Af3 {j i:Oper} (hl:lkp j.op=true) (hg:j.guard=none) (hi:qop i.op=true) (hic:Cd i.op=false) (hiv:isV r.v i.op=false) (hig:i.guard=none) (hap:j.apart all.toArray i=true):Jq P r N all j i:=by
 intro l s K hc hE
 rw [Aa4 hl hg] at hE
 obtain ⟨h0,A,B,hLS,hA,hB⟩:=hE
 rw [E1 hi hiv (Db hc (Qt hLS).1)] at hA
 rw [E1 hi hiv (Db hc (Qt hLS).2)] at hB
 obtain ⟨h1,x1,ob1,g1,k1⟩:=hA
 obtain ⟨_,x2,ob2,g2,k2⟩:=hB
 obtain ⟨a1,a2,a3⟩:=Oper.apart_spec hap
 have ho:∀ X,(s.put j.dst X).o=s.o:=fun X=>by cases j.dst <;> rfl
 have htt:∀ X t,t ∈ i.looksAt all.toArray→(s.put j.dst X).t t=s.t t:=fun X t ht=>by
  have:=Hl (nb:=r.b) (dst:=j.dst) (x:=X) (ob:=none) (s:=s) (i:=t) (fun e=>a1 t e ht)
  exact this
 have near:∀ X,Ar6 r.b all i (s.put j.dst X) s:=fun X=>⟨fun t ht=>(htt X t ht).symm,fun t ht n hn=>by rw [ho],fun d hd h=>by rw [ho] at h; exact h⟩
 have q1:=M5 hi (near A) g1
 have q2:=M5 hi (near B) g2
 have hgs:∀ x ob,GS P r.b all i s x ob→QS P r.b i s x ob:=fun x ob h=>by unfold GS at h; rw [hig] at h; exact h
 obtain ⟨e1,e2⟩:=Axw hic (hgs _ _ q1) (hgs _ _ q2)
 subst e1; subst e2
 rw [E1 hi hiv hc]
 refine ⟨h1,x1,ob1,q1,?_⟩
 rw [Aa4 hl hg]
 have hnew:∀ n,(s.o n).isSome=true→(Cx r.b i.dst x1 ob1 s).o n=s.o n:=fun n hn=>Nb (by
  cases ob1 with
  | none=>exact .inr rfl
  | some a=>
   obtain ⟨d,hd,hnone⟩:=Aad q1
   refine .inl fun e he en=>?_
   rw [hd] at he; cases he; subst en; rw [hnone] at hn; cases hn)
 refine ⟨h0,A,B,Aou (fun x hx=>?_) hnew hLS,?_,?_⟩
 ·cases x with
  | tmp k=>exact Hl fun e=>a3 k e (Di hx rfl)
  | _=>rfl
 ·have:=Pw (nb:=r.b) (d1:=i.dst) (d2:=j.dst) (x1:=x1) (x2:=A) (ob1:=ob1) (ob2:=none) (s:=s) (fun d hd e=>a2 d e hd)
  rw [show (Cx r.b i.dst x1 ob1 s).put j.dst A=Cx r.b j.dst A none (Cx r.b i.dst x1 ob1 s) from rfl,← this]
  exact k1
 ·have:=Pw (nb:=r.b) (d1:=i.dst) (d2:=j.dst) (x1:=x1) (x2:=B) (ob1:=ob1) (ob2:=none) (s:=s) (fun d hd e=>a2 d e hd)
  rw [show (Cx r.b i.dst x1 ob1 s).put j.dst B=Cx r.b j.dst B none (Cx r.b i.dst x1 ob1 s) from rfl,← this]
  exact k2
def xtr:Op→Bool
 | .extract ..=>true
 | _=>false
theorem Am3 {op:Op} (h:xtr op=true):qop op=true∧Cd op=false∧De op=false∧isM op=false:=by
 cases op <;> first | (simp [xtr] at h; done) | exact ⟨rfl,rfl,rfl,rfl⟩
theorem Aqg {d d':Nat} {op:Op} {ρ:Operand→AV} {os os':Nat→Option AO} (h:xtr op=true):eff P d op ρ os=eff P d' op ρ os':=by
 cases op <;> first | (simp [xtr] at h; done) | rfl
theorem Am9 {d:Nat} {op:Op} {ρ:Operand→AV} {os:Nat→Option AO} (h:xtr op=true) {e:Eff} (he:eff P d op ρ os=some e):∃ y,e=.pure y:=by
 cases op <;> simp only [xtr,Bool.false_eq_true] at h
 simp only [eff] at he
 split at he
 ·obtain ⟨v,_,rfl⟩:=Option.map_eq_some_iff.1 he; exact ⟨_,rfl⟩
 ·cases he
theorem Wn {j i:Oper} (hj:xtr j.op=true) (hjg:j.guard=none) (hi:Rb i.op=true) (hig:i.guard=none) (hid:i.dst=none) (hap:j.apart all.toArray i=true):Jq P r N all j i:=by
 intro l s K hc hE
 obtain ⟨f1,f2,f3⟩:=Nv hi
 obtain ⟨q1,q2,q3,q4⟩:=Am3 hj
 obtain ⟨a1,a2,a3⟩:=Oper.apart_spec hap
 rw [Bj hjg q2 q3 q4] at hE
 obtain ⟨h1,e,s1,he,hs1,h2⟩:=hE
 obtain ⟨y,rfl⟩:=Am9 hj he
 cases hs1
 rw [Bj hig f1 f2 f3] at h2
 obtain ⟨h3,e2,s2,he2,hs2,h4⟩:=h2
 have ho:(s.put j.dst y).o=s.o:=by cases j.dst <;> rfl
 have he2':eff P (r.b+i.dst.getD 0) i.op (ev s.t) s.o=some e2:=by
  rw [← he2,ho]
  exact (Rj hi fun x hx=>Lw (fun d hd hxd=>a1 d hd (Di hx hxd))).symm
 obtain ⟨n,ob,rfl,h5,_⟩:=Ku hi hc he2'
 rw [Bj hig f1 f2 f3]
 refine ⟨h3,.upd n ob,s.setO n ob,he2',by rw [hid]; rfl,?_⟩
 rw [Bj hjg q2 q3 q4]
 refine ⟨h1,.pure y,(s.setO n ob).put j.dst y,?_,rfl,?_⟩
 ·rw [← he]; exact Aqg hj
 ·rw [hid] at hs2
  have:s2=(s.setO n ob).put j.dst y:=by cases hs2; cases j.dst <;> rfl
  rw [← this]; exact h4
def Ub (v:List Nat) (ops:List Oper) (oj oi:Oper):Bool:=
 V2 v ops oj oi||(xtr oj.op&&(oj.guard.isNone&&(Rb oi.op&&(oi.guard.isNone&&(oi.dst.isNone&&oj.apart ops.toArray oi)))))||(lkp oj.op&&(oj.guard.isNone&&(qop oi.op&&(!Cd oi.op&&(!isV v oi.op&&(oi.guard.isNone&&oj.apart ops.toArray oi))))))
def V6 (v:List Nat) (ops:List Oper) (b:Nat→Nat):Bool:=ops.zipIdx.all fun p=>(ops.take p.2).zipIdx.all fun q=>(b p.2).testBit q.2||Ub v ops q.1 p.1
def Ago (v:List Nat) (ops:List Oper):Bool:=Jx ops [] fun l=>Mv ops (fun i=>l.getD i 0)&&V6 v ops (fun i=>l.getD i 0)
theorem P6 {ops:List Oper} {oj oi:Oper} (h:Ub r.v ops oj oi=true):H5 P r N ops oj∧Jq P r N ops oj oi:=by
 simp only [Ub,Bool.or_eq_true] at h
 rcases h with (h | h) | h
 ·exact Pf h
 ·simp only [Bool.and_eq_true,Option.isNone_iff_eq_none] at h
  obtain ⟨h1,h2,h3,h4,h5,h6⟩:=h
  exact ⟨E2 (Am3 h1).1 (Rk (Am3 h1).2.1),Wn h1 h2 h3 h4 h5 h6⟩
 ·simp only [Bool.and_eq_true,Option.isNone_iff_eq_none,Bool.not_eq_true'] at h
  obtain ⟨h1,h2,h3,h4,h5,h6,h7⟩:=h
  exact ⟨Aeu h1 h2,Af3 h1 h2 h3 h4 h5 h6 h7⟩
theorem Wo {ops:List Oper} {b:Nat→Nat} (h:V6 r.v ops b=true):∀ (i j:Nat) (oi oj:Oper),j < i→ops[i]?=some oi→ops[j]?=some oj→(b i).testBit j=false→H5 P r N ops oj∧Jq P r N ops oj oi:=by
 intro i j oi oj hj hi hoj ht
 unfold V6 at h
 rw [List.all_eq_true] at h
 have h1:=h (oi,i) (List.mem_zipIdx_iff_getElem?.2 hi)
 rw [List.all_eq_true] at h1
 have h2:=h1 (oj,j) (List.mem_zipIdx_iff_getElem?.2 (by rw [List.getElem?_take,if_pos hj]; exact hoj))
 simp only [ht,Bool.false_or] at h2
 exact P6 h2
theorem Vj {ops:List Oper} {id:Nat} {st:St} {Q:AEx→St→Prop} (hm:P.follows .mixedOrders=true) (hchk:Ago r.v ops=true) (h:EL P r N ops ops st (Q .normal)):AWP P r N (.region id ops.toArray true) st Q:=by
 obtain ⟨l,hl⟩:=Hv hchk
 rw [Bool.and_eq_true] at hl
 exact Vt hm (Ft hl.1) (Wo hl.2) h
end
end AM
end
/- Plain facts: how many lists of numbers a brewhouse has. -/
section
namespace AM.Wort
open Go AM
theorem Aki (l:List Rng) (r:Rng) (n:Int):Ma (l++[r]) n=Ma l n * Fa r:=by
 induction l generalizing n with
 | nil=>rfl
 | cons x l ih=>exact ih _
theorem Ui {l:List Rng} {k:Nat} (h:k < l.length):Ma (l.take (k+1)) 1=Ma (l.take k) 1 * Fa (l.getD k default):=by
 rw [List.take_add_one,List.getElem?_eq_getElem h]
 simp only [Option.toList_some]
 rw [Aki]; simp [List.getD,h]
theorem Du {α:Type} {l:List α} {k:Nat} (d:α) (h:k < l.length):l.getD k d ∈ l:=by
 rw [← List.getElem_eq_getD (h:=h)]; exact List.getElem_mem _
theorem Um {l:List Rng} (hl:∀ r ∈ l,1≤Fa r∧Fa r≤3):∀ k,k≤l.length→1≤Ma (l.take k) 1∧Ma (l.take k) 1≤3 ^ k
 | 0,_=>by simp [Ma]
 | k+1,h=>by
  have ih:=Um hl k (by omega)
  have hs:=hl _ (Du default (show k < l.length by omega))
  rw [Ui (by omega)]
  generalize Ma (l.take k) 1=p at ih
  generalize Fa (l.getD k default)=s at hs
  rw [Int.pow_succ]
  constructor
  ·have:=Int.mul_le_mul ih.1 hs.1 (by omega) (by omega); omega
  ·exact Int.mul_le_mul ih.2 hs.2 (by omega) (by have:=ih.1; omega)
theorem Ask {k:Nat} (h:k≤14):(3:Int) ^ k≤4782969:=by
 have:=Nat.pow_le_pow_right (show 0 < 3 by omega) h
 have e:((3 ^ k:Nat):Int)=(3:Int) ^ k:=by simp
 rw [← e]; omega
theorem Pu {r:Rng} {m:Int} (h:Hz r m=true):1≤Fa r∧Fa r≤3:=by
 simp only [Hz,Bool.and_eq_true,decide_eq_true_eq] at h; unfold Fa; omega
theorem Da {r:Rng} {m:Int} (h:Hz r m=true):0≤r.lo∧r.lo≤r.hi∧r.hi≤m∧r.hi - r.lo≤2:=by
 simpa only [Hz,Bool.and_eq_true,decide_eq_true_eq] using h
theorem C9 {v:Ves} (h:Er v=true):Hz v.g 60=true∧Hz v.d 120=true∧0≤v.room∧v.room≤60:=by
 simpa only [Er,inB,Bool.and_eq_true,decide_eq_true_eq] using h
theorem Fp {n:Int} {s:Stp} (h:F4 n s=true):(0≤s.kind∧s.kind≤2)∧(0≤s.frm∧s.frm≤n - 1)∧(0≤s.to∧s.to≤n - 1)∧(s.frm=s.to↔s.kind≠0)∧Hz s.g 60=true:=by
 simp only [F4,inB,Bool.and_eq_true,decide_eq_true_eq,beq_iff_eq] at h
 obtain ⟨h1,h2,h3,h4,h5⟩:=h
 refine ⟨h1,h2,h3,?_,h5⟩
 by_cases e:s.frm=s.to <;> by_cases e2:s.kind=0 <;> simp_all
theorem Yo {b:Eg} (h1:b.vs.all Er=true) (h2:b.ss.all (F4 b.vs.length)=true):∀ r ∈ Fy b,1≤Fa r∧Fa r≤3:=by
 intro r hr
 simp only [Fy,List.mem_append,List.mem_map] at hr
 rcases hr with (⟨v,hv,rfl⟩ | ⟨v,hv,rfl⟩) | ⟨s,hs,rfl⟩
 ·exact Pu (C9 (List.all_eq_true.1 h1 v hv)).1
 ·exact Pu (C9 (List.all_eq_true.1 h1 v hv)).2.1
 ·exact Pu (Fp (List.all_eq_true.1 h2 s hs)).2.2.2.2
theorem Qo {b:Eg}:(Fy b).length=b.vs.length+b.vs.length+b.ss.length:=by simp [Fy]; omega
theorem Afu {b:Eg} (h:B5 b=0):b.vs.length≤4∧b.ss.length≤6∧0 < b.vs.length∧b.vs.all Er=true∧b.ss.all (F4 b.vs.length)=true∧N1 b≤2000:=by
 unfold B5 at h
 split at h
 ·omega
 ·split at h
  ·omega
  ·split at h
   ·omega
   ·split at h
    ·omega
    ·split at h
     ·omega
     ·rename_i h1 h2 h3 h4 h5
      refine ⟨by omega,by omega,by omega,?_,?_,by omega⟩
      ·cases hb:b.vs.all Er <;> simp_all
      ·cases hb:b.ss.all (F4 b.vs.length) <;> simp_all
def tot:List Liq→Int
 | []=>0
 | l :: v=>l.e+tot v
theorem Th:∀ {v:List Liq} {k:Nat} {a:Liq},k < v.length→tot (v.set k a)=tot v - (B6 v k).e+a.e
 | l :: v,0,a,_=>by simp [tot]; omega
 | l :: v,k+1,a,h=>by
  have:=Th (v:=v) (k:=k) (a:=a) (by simpa using h)
  simp [tot] at this ⊢
  omega
structure OkV (v:List Liq):Prop where
 len:v.length=4
 g:∀ k,0≤(v.getD k default).g∧(v.getD k default).g≤60
 e:∀ k,0≤(v.getD k default).e
 t:tot v≤28800
theorem Vu:∀ {v:List Liq},(∀ k,0≤(v.getD k default).e)→0≤tot v
 | [],_=>by simp [tot]
 | l :: v,h=>by
  have h0:=h 0
  have:=Vu (v:=v) fun k=>by simpa using h (k+1)
  simp [tot] at *; omega
theorem Apm:∀ {v:List Liq},(∀ k,0≤(v.getD k default).e)→∀ k,(v.getD k default).e≤tot v
 | [],_,k=>by
  show (default:Liq).e≤0
  exact Int.le_refl _
 | l :: v,h,0=>by
  have:=Vu (v:=v) fun k=>by simpa using h (k+1)
  simp [tot]; omega
 | l :: v,h,k+1=>by
  have h0:=h 0
  have:=Apm (v:=v) (fun k=>by simpa using h (k+1)) k
  simp [tot] at *; omega
theorem OkV.small {v:List Liq} (h:OkV v):G1 v:=fun k=>by
 have h1:=h.g k
 have h2:=h.e k
 have h3:=Apm h.e k
 have h4:=h.t
 exact ⟨⟨h1.1,by omega⟩,h2,by omega⟩
theorem Fv {v:List Liq} {k j:Nat} {a:Liq}:(v.set k a).getD j default=if j=k∧k < v.length then a else v.getD j default:=Mx
theorem OkV.set {v:List Liq} (h:OkV v) {k:Nat} (hk:k < 4) {a:Liq} (hg:0≤a.g∧a.g≤60) (he:0≤a.e) (ht:tot v - (v.getD k default).e+a.e≤28800):OkV (v.set k a):=by
 have hl:=h.len
 refine ⟨by rw [List.length_set]; exact hl,fun j=>?_,fun j=>?_,?_⟩
 ·rw [Fv]; split
  ·exact hg
  ·exact h.g j
 ·rw [Fv]; split
  ·exact he
  ·exact h.e j
 ·rw [Th (by omega)]; exact ht
theorem Apd {vs:List Ves} {v:List Liq} {s:Stp} {n:Int} (h:OkV v) (hvs:vs.length≤4) (hv:vs.all Er=true) (hs:F4 vs.length s=true) (hn:0≤n) (hd:(doS vs v s n).2=true):OkV (doS vs v s n).1:=by
 obtain ⟨hk,hf,ht,hft,_⟩:=Fp hs
 have hroom:∀ k,k < vs.length→(vs.getD k default).room≤60:=fun k hk=>(C9 (List.all_eq_true.1 hv _ (Du default hk))).2.2.2
 have hr:=hroom s.to.toNat (by omega)
 simp only [doS,Bool.and_eq_true,decide_eq_true_eq] at hd ⊢
 obtain ⟨ha,hb⟩:=hd
 have hl:=h.len
 have g1:=h.g s.frm.toNat
 have g2:=h.e s.frm.toNat
 have g3:=h.g s.to.toNat
 have g4:=h.e s.to.toNat
 have htt:=h.t
 by_cases k0:s.kind=0
 ·have hne:s.frm≠s.to:=fun e=>(hft.1 e) k0
  have hne2:s.frm.toNat≠s.to.toNat:=by omega
  simp only [Gv,if_pos k0] at ha hb ⊢
  unfold G8 at ha hb ⊢
  split at ha
  ·cases ha
  ·rename_i h1
   rw [if_neg h1] at hb ⊢
   by_cases hn0:0 < n
   ·rw [if_pos hn0] at hb ⊢
    have hx:=Uz (n:=n) (g:=(B6 v s.frm.toNat).g) hn (by omega) g2 (by omega)
    have hx1:0≤G2 v s.frm.toNat n:=hx.1
    have hx2:G2 v s.frm.toNat n≤(v.getD s.frm.toNat default).e:=hx.2
    have e1:(J1 v s.frm.toNat n).getD s.to.toNat default=v.getD s.to.toNat default:=by
     unfold J1; rw [Fv,if_neg (fun e=>hne2 e.1.symm)]
    have o1:OkV (J1 v s.frm.toNat n):=h.set (by omega) ⟨by show 0≤_ - n; unfold B6 at h1 ⊢; omega,by show _ - n≤60; unfold B6; omega⟩ (by show 0≤_ - _; unfold B6; omega) (by show tot v - _+(_ - _)≤_; unfold B6; omega)
    have t1:tot (J1 v s.frm.toNat n)=tot v - (v.getD s.frm.toNat default).e+((v.getD s.frm.toNat default).e - G2 v s.frm.toNat n):=Th (by omega)
    have l1:(J1 v s.frm.toNat n).length=4:=o1.len
    have e2:(Mj v s.frm.toNat s.to.toNat n).getD s.to.toNat default=⟨(v.getD s.to.toNat default).g+n,(v.getD s.to.toNat default).e+G2 v s.frm.toNat n⟩:=by
     unfold Mj; rw [Fv,if_pos ⟨rfl,by omega⟩]; unfold B6; rw [e1]
    have hb2:(v.getD s.to.toNat default).g+n≤(vs.getD s.to.toNat default).room:=by
     unfold B6 at hb; rw [e2] at hb; exact hb
    unfold Mj
    refine o1.set (by omega) ⟨?_,?_⟩ ?_ ?_
    ·show 0≤(B6 _ _).g+n; unfold B6; rw [e1]; omega
    ·show (B6 _ _).g+n≤60; unfold B6; rw [e1]; omega
    ·show 0≤(B6 _ _).e+_; unfold B6; rw [e1]; omega
    ·show _ - _+((B6 _ _).e+_)≤_; unfold B6; rw [e1,t1]; omega
   ·rw [if_neg hn0]; exact h
 ·simp only [Gv,if_neg k0] at ha hb ⊢
  by_cases k1:s.kind=1
  ·simp only [if_pos k1] at ha hb ⊢
   unfold P0 at hb ⊢
   have hb2:(v.getD s.to.toNat default).g+n≤(vs.getD s.to.toNat default).room:=by
    have:B6 (v.set s.to.toNat ⟨(B6 v s.to.toNat).g+n,(B6 v s.to.toNat).e⟩) s.to.toNat=⟨(B6 v s.to.toNat).g+n,(B6 v s.to.toNat).e⟩:=by
     unfold B6; rw [Fv,if_pos ⟨rfl,by omega⟩]
    simp only [this] at hb; exact hb
   exact h.set (by omega) ⟨by show 0≤_+n; unfold B6; omega,by show _+n≤60; unfold B6; omega⟩ (by show 0≤(B6 _ _).e; exact g4) (by show _ - _+(B6 _ _).e≤_; unfold B6; omega)
  ·simp only [if_neg k1] at ha hb ⊢
   unfold Yd at ha ⊢
   have hg0:0≤(v.getD s.frm.toNat default).g - n:=by
    unfold B6 at ha
    simp only [Bool.or_eq_true,Bool.and_eq_true,decide_eq_true_eq] at ha
    omega
   exact h.set (by omega) ⟨hg0,by show _ - n≤60; unfold B6; omega⟩ (by show 0≤(B6 _ _).e; exact g2) (by show _ - _+(B6 _ _).e≤_; unfold B6; omega)
def Gb:List Ves→List Int→List Int→Nat→List Liq→List Liq × Bool
 | [],_,_,_,v=>(v,true)
 | x :: vs,gs,ds,i,v=>if x.room < gs.getD i 0 then (v,false) else Gb vs gs ds (i+1) (v.set i ⟨gs.getD i 0,gs.getD i 0 * ds.getD i 0⟩)
def M7 (vs:List Ves) (gs ds:List Int):List Liq × Bool:=Gb vs gs ds 0 v0
def Kx (vs:List Ves) (m:List Int):List Stp→Nat→List Liq × Bool→List Liq × Bool
 | [],_,r=>r
 | s :: ss,i,r=>if r.2=false then (r.1,false) else Kx vs m ss (i+1) (doS vs r.1 s (m.getD i 0))
def Md (b:Eg) (t:Tru):List Liq × Bool:=Kx b.vs t.m b.ss 0 (M7 b.vs t.g t.d)
def F7 (b:Eg) (t:Tru):Bool:=
  decide (t.g.length=b.vs.length)&&(decide (t.d.length=b.vs.length)&&(decide (t.m.length=b.ss.length) &&
    ((List.range b.vs.length).all (fun k=>Jk (b.vs.getD k default).g (t.g.getD k 0)&&Jk (b.vs.getD k default).d (t.d.getD k 0)) &&
     (List.range b.ss.length).all fun k=>Jk (b.ss.getD k default).g (t.m.getD k 0))))
theorem Dk {b:Eg} {t:Tru} (h:F7 b t=true):t.g.length=b.vs.length∧t.d.length=b.vs.length∧t.m.length=b.ss.length ∧
    (∀ k,k < b.vs.length→((b.vs.getD k default).g.lo≤t.g.getD k 0∧t.g.getD k 0≤(b.vs.getD k default).g.hi)∧(b.vs.getD k default).d.lo≤t.d.getD k 0∧t.d.getD k 0≤(b.vs.getD k default).d.hi) ∧
    ∀ k,k < b.ss.length→(b.ss.getD k default).g.lo≤t.m.getD k 0∧t.m.getD k 0≤(b.ss.getD k default).g.hi:=by
  simp only [F7,Jk,inB,Bool.and_eq_true,decide_eq_true_eq,List.all_eq_true,List.mem_range] at h
  exact h
structure N3 (b:Eg):Prop where
  nv:b.vs.length≤4
  ns:b.ss.length≤6
  v:b.vs.all Er=true
  s:b.ss.all (F4 b.vs.length)=true
theorem Adn {b:Eg} (h:B5 b=0):N3 b:=by
  obtain ⟨h1,h2,_,h4,h5,_⟩:=Afu h
  exact ⟨h1,h2,h4,h5⟩
theorem N3.ves {b:Eg} (h:N3 b) {k:Nat} (hk:k < b.vs.length):Er (b.vs.getD k default)=true:=List.all_eq_true.1 h.v _ (Du default hk)
theorem N3.stp {b:Eg} (h:N3 b) {k:Nat} (hk:k < b.ss.length):F4 b.vs.length (b.ss.getD k default)=true:=List.all_eq_true.1 h.s _ (Du default hk)
theorem Lc {b:Eg} {t:Tru} (hv:N3 b) (h:F7 b t=true):(∀ k,0≤t.g.getD k 0∧t.g.getD k 0≤60)∧(∀ k,0≤t.d.getD k 0∧t.d.getD k 0≤120)∧∀ k,0≤t.m.getD k 0∧t.m.getD k 0≤60:=by
  obtain ⟨h1,h2,h3,h4,h5⟩:=Dk h
  have out:∀ (l:List Int) (k:Nat),l.length≤k→l.getD k 0=0:=fun l k hk=>by
    rw [List.getD_eq_getElem?_getD,List.getElem?_eq_none hk]; rfl
  refine ⟨fun k=>?_,fun k=>?_,fun k=>?_⟩
  · by_cases hk:k < b.vs.length
    · obtain ⟨q1,q2,_⟩:=C9 (hv.ves hk)
      have:=Da q1; have:=(h4 k hk).1; omega
    · rw [out _ _ (by omega)]; omega
  · by_cases hk:k < b.vs.length
    · obtain ⟨q1,q2,_⟩:=C9 (hv.ves hk)
      have:=Da q2; have:=(h4 k hk).2; omega
    · rw [out _ _ (by omega)]; omega
  · by_cases hk:k < b.ss.length
    · have:=Da (Fp (hv.stp hk)).2.2.2.2; have:=h5 k hk; omega
    · rw [out _ _ (by omega)]; omega
theorem Wb:∀ {vs:List Ves} {gs ds:List Int} {i:Nat} {v:List Liq},i+vs.length≤4→(∀ k,0≤gs.getD k 0∧gs.getD k 0≤60)→(∀ k,0≤ds.getD k 0∧ds.getD k 0≤120) →
    OkV v→tot v≤7200 * (i:Int)→(∀ k,i≤k→(v.getD k default).e=0)→OkV (Gb vs gs ds i v).1
  | [],_,_,_,_,_,_,_,h,_,_=>h
  | x :: vs,gs,ds,i,v,hi,hg,hd,h,ht,hz=>by
    unfold Gb
    split
    · exact h
    · have g1:=hg i
      have d1:=hd i
      have e1:0≤gs.getD i 0 * ds.getD i 0:=Int.mul_nonneg g1.1 d1.1
      have e2:gs.getD i 0 * ds.getD i 0≤7200:=by
        have:=Int.mul_le_mul g1.2 d1.2 d1.1 (by omega); omega
      have hz0:=hz i (Nat.le_refl _)
      have hl:=h.len
      simp only [List.length_cons] at hi
      have t2:tot (v.set i ⟨gs.getD i 0,gs.getD i 0 * ds.getD i 0⟩)=tot v - (v.getD i default).e+gs.getD i 0 * ds.getD i 0:=Th (by omega)
      refine Wb (by omega) hg hd (h.set (by omega) g1 e1 (by show _ - _+gs.getD i 0 * ds.getD i 0≤_; rw [hz0]; omega)) (by rw [t2,hz0]; omega) fun k hk=>?_
      rw [Fv,if_neg (by omega)]
      exact hz k (by omega)
theorem Ale:OkV v0:=by
  refine ⟨rfl,fun k=>?_,fun k=>?_,by decide⟩
  · match k with
    | 0=>decide
    | 1=>decide
    | 2=>decide
    | 3=>decide
    | k+4=>exact ⟨Int.le_refl _,by show (0:Int)≤60; omega⟩
  · match k with
    | 0=>decide
    | 1=>decide
    | 2=>decide
    | 3=>decide
    | k+4=>exact Int.le_refl _
theorem Xm {b:Eg} {t:Tru} (hv:N3 b) (h:F7 b t=true):OkV (M7 b.vs t.g t.d).1:=by
  obtain ⟨h1,h2,_⟩:=Lc hv h
  refine Wb (by have:=hv.nv; omega) h1 h2 Ale (by decide) fun k _=>?_
  match k with
  | 0=>rfl
  | 1=>rfl
  | 2=>rfl
  | 3=>rfl
  | k+4=>rfl
theorem Aex {vs:List Ves} {m:List Int} {ss:List Stp} {k:Nat} {r R:List Liq × Bool} (h:k < ss.length) (hr:r.2=true) (hp:Kx vs m (ss.drop k) k r=R):Kx vs m (ss.drop (k+1)) (k+1) (doS vs r.1 (ss.getD k default) (m.getD k 0))=R:=by
  have:ss.drop k=ss.getD k default :: ss.drop (k+1):=by rw [List.drop_eq_getElem_cons h]; simp [List.getD,h]
  rw [this] at hp; unfold Kx at hp; rw [if_neg (by rw [hr]; decide)] at hp; exact hp
theorem Un {vs:List Ves} {m:List Int} {ss:List Stp} {k:Nat} {r R:List Liq × Bool} (h:k < ss.length) (hr:r.2=false) (hp:Kx vs m (ss.drop k) k r=R):R=(r.1,false):=by
  have:ss.drop k=ss.getD k default :: ss.drop (k+1):=by rw [List.drop_eq_getElem_cons h]; simp [List.getD,h]
  rw [this] at hp; unfold Kx at hp; rw [if_pos hr] at hp; exact hp.symm
theorem Y9 {vs:List Ves} {m:List Int} {ss:List Stp} {k:Nat} {r R:List Liq × Bool} (h:ss.length≤k) (hp:Kx vs m (ss.drop k) k r=R):R=r:=by
  rw [List.drop_of_length_le h] at hp; exact hp.symm
end AM.Wort
end
/- The abstract machine, part 51: what slices.Grow does to a nil slice. -/
section
namespace AM
open Go
section
variable {P:Program} {r:RB} {nb N B:Nat} {S:Nat→Prop} {θ:Nat→Loc} {M:Nat→Prop} {w:World} {st:St} {a:Act} {o:Oper} {K:St→Prop}
theorem B2.ofOk {dd:Nat} (hnd:∀ c,o.op≠.defer c) {st':St} (h:K st') (hok:∀ B S θ M w a,Ar N B S θ M w st a→Dn P r.b N B S θ M w st' o a):B2 P r N o st K:=by
 intro B S θ M w a Q hs
 obtain ⟨v,w',hr,hadv⟩:=hok B S θ M w a hs
 refine ⟨fun _ _=>trivial,?_⟩
 rw [Oper.semAt_eq _ _ _ hnd]
 rcases hr with hr | ⟨hr,rfl⟩
 ·rw [hr]; exact ⟨st',h,hadv.toM,by cases o.dst <;> rfl⟩
 ·rw [hr]; exact ⟨st',h,hadv.toM,by cases o.dst <;> rfl⟩
theorem Qz {t e:TypeId} {x:Operand} (ho:o.op=.call ⟨.builtin .cap,#[x],#[t]⟩) (hd:∀ k,o.dst=some k→k < N) (ht:(Aa P t).k=.sl e) (hx:ev st.t x=.p (.val (.slice none 0 0))) (h:K (st.put o.dst (.p (.val (.int .i64 0))))):B2 P r N o st K:=
 B2.ofOk (dd:=0) (by rw [ho]; intro c h; cases h) h fun B S θ M w a hs=>by
  have hv:=D2 (Ao hs x) hx
  exact Bv hs hd (v:=.int .i64 0) (by simp [execOp,ho,resolve,invoke,builtin,Builtin.cap_,A5 (D3 ht),hv,goInt]) (.p _ _ (.val _ rfl)) (AV.lives_p _ _)
theorem Wf {t e:TypeId} {x y:Operand} (ho:o.op=.slice t x none (some y) none) (hd:∀ k,o.dst=some k→k < N) (ht:(Aa P t).k=.sl e) (hg:(Aa P e).agg.isSome=true) (hx:ev st.t x=.p (.val (.slice none 0 0))) (hy:ev st.t y=.p (.val (.int .i64 0))) (h:K (st.put o.dst (.p (.val (.slice none 0 0))))):B2 P r N o st K:=
 B2.ofOk (dd:=0) (by rw [ho]; intro c h; cases h) h fun B S θ M w a hs=>by
  have hv:=D2 (Ao hs x) hx
  have hu:=D3 ht
  have hS:=Bs (P:=P) (w:=w) (Ch hg)
  have hb:=H9 (P:=P) (w:=w) hs (isS:=true) (len:=0) (cap:=0) (Nat.le_refl _) (lo:=none) (hi:=some y) (l:=0) (hh:=0) rfl (by simp only [Ba,hy]) (by omega) (by omega) (by omega)
  refine Bv hs hd (v:=.slice none 0 0) ?_ (.p _ _ (.val _ rfl)) (AV.lives_p _ _)
  simp only [Option.map_none,Option.map_some] at hb
  simp [execOp,ho,hv,Instr.sliceAt,A5 hu,Instr.slice,hb,hS]
theorem Aqs {z:Array Value} {zs:List Value} (hz:z.toList=zs) (h:zs.all Value.oneCell'=true) (n c:Nat):FL M w zs.length (List.replicate n (zs.map .val)) ((Builtin.zeroCells z n).toList++(Builtin.zeroCells z c).toList):=by
 intro i e j x hi hj
 rw [List.getElem?_replicate] at hi
 split at hi
 ·rename_i hlt
  cases hi
  rw [List.getElem?_map,Option.map_eq_some_iff] at hj
  obtain ⟨u,hu,rfl⟩:=hj
  have hjl:j < zs.length:=(List.getElem?_eq_some_iff.1 hu).1
  have hs:z.size=zs.length:=by rw [← hz]; simp
  have hlt2:i * zs.length+j < n * zs.length:=by
   have:(i+1) * zs.length≤n * zs.length:=Nat.mul_le_mul_right _ (by omega)
   rw [Nat.add_mul] at this; omega
  refine ⟨u,?_,.val u (List.all_eq_true.1 h u (List.mem_of_getElem? hu))⟩
  rw [List.getElem?_append,if_pos (by rw [Amm,hs]; exact hlt2)]
  have hm:(i * zs.length+j) % z.size=j:=by rw [hs,Nat.mul_comm,Nat.mul_add_mod]; exact Nat.mod_eq_of_lt hjl
  simp only [Builtin.zeroCells,Array.toList_map,List.getElem?_map,Array.toList_range,hs,List.getElem?_range hlt2,Option.map_some]
  rw [hs] at hm
  rw [hm]
  have hz2:z[j]?=some u:=by rw [← hz] at hu; simpa using hu
  congr 1
  rw [getElem!_pos z j (by rw [hs]; exact hjl)]
  exact (Array.getElem?_eq_some_iff.1 hz2).2
 ·cases hi
theorem Wp {t t' e:TypeId} {k:IntKind} {s x:Operand} {n:Nat} (ho:o.op=.call ⟨.builtin .append,#[s,x],#[t,t']⟩) {dk:Nat} (hdst:o.dst=some dk) (hdN:dk < N) (hfree:st.o (r.b+dk)=none)
  (ht:(Aa P t).k=.sl e) (ht':(Aa P t').k=.int k) (hg:(Aa P e).agg.isSome=true) (hsz:(Aa P e).sz=(Aa P e).zero.length) (hpos:0 < (Aa P e).sz) (hz:(Aa P e).zero.all Value.oneCell'=true)
  (hs:ev st.t s=.p (.val (.slice none 0 0))) (hx:ev st.t x=.p (.val (.int .i64 n))) (hn:0 < n) (h6:n≤1000000) (hby:n * (Aa P e).bytes≤140737488355328)
  (h:K ((st.setO (r.b+dk) (.arr (Aa P e).sz (List.replicate n ((Aa P e).zero.map .val)))).put o.dst (.own (r.b+dk) n))):B2 P r N o st K:=
 B2.ofOk (dd:=0) (by rw [ho]; intro c h; cases h) h fun B S θ M w a hsr=>by
  have hv:=D2 (Ao hsr s) hs
  have hxv:=D2 (Ao hsr x) hx
  obtain ⟨i,z,T,hbb⟩:=Ang (t':=t) ht ht (Ch hg) hsz hpos hz
  have hwr:IntKind.i64.wrap (n:Int)=n:=Fc (by omega) (by omega)
  have hk:=T.hk
  have hb48:¬ (281474976710656 < (n:Int) * (i.bytes:Int)):=by rw [hbb]; omega
  have hfit:=growslice_fits (need:=n) (old:=0) (bytes:=i.bytes) hn (by rw [hbb]; exact hby)
  have hfit':¬ (281474976710656 < Builtin.nextslicecap n 0 * i.bytes):=by omega
  have hne:¬ n * i.size=0:=by
   rw [hk]; intro h; rcases Nat.mul_eq_zero.1 h with h | h <;> omega
  have h63:¬ (9223372036854775807 < (n:Int)):=by omega
  have hn0:¬ n=0:=by omega
  have hlt0:¬ ((n:Int) < 0):=by omega
  have hrun:(execOp a.eval o).run P w=.ok (.value (.slice (some ⟨w.heap.size,0,none⟩) n (grownCap w n 0 e))) (w.drew.alloc (.cells (#[]++Builtin.zeroCells z.cells n++Builtin.zeroCells z.cells (grownCap w n 0 e - n)) e)):=by
   simp [execOp,ho,resolve,invoke,builtin,Builtin.append_,A5 (D3 ht),A5 (Ac6 ht'),hv,hxv,asInt,asIntOf,hwr,hlt0,Go.sizeOf,typeInfo,T.hi,hb48,Builtin.lenOf,hn0,h63,hfit',Question.forced,Builtin.firstCells,zeroValue,T.hz,hne,newRow,grownCap]
  have hge:=grownCap_ge w n 0 e
  have hadv:=Jf (o:=o) (t:=e) (w1:=w.drew) (es:=List.replicate n ((Aa P e).zero.map .val)) (k:=(Aa P e).sz) (cap:=grownCap w n 0 e) (vs:=(Builtin.zeroCells z.cells n).toList++(Builtin.zeroCells z.cells (grownCap w n 0 e - n)).toList) hsr hdst hdN (Nat.le_add_right r.b dk) hfree (.inr rfl)
   (fun i e' hi=>by rw [List.getElem?_replicate] at hi; split at hi <;> cases hi; rw [List.length_map,hsz])
   (by rw [List.length_replicate]; exact hge)
   (by rw [List.length_append,Amm,Amm,T.hzs,← Nat.add_mul]; congr 1; omega)
   (fun i u hu=>by
    rw [List.getElem?_append] at hu
    split at hu
    ·exact Gr T.hzl T.hone _ _ u hu
    ·exact Gr T.hzl T.hone _ _ u hu)
   (by rw [hsz]; exact Aqs T.hzl hz n _)
  rw [List.length_replicate] at hadv
  refine ⟨_,_,.inl hrun,?_⟩
  have he:(#[]++Builtin.zeroCells z.cells n++Builtin.zeroCells z.cells (grownCap w n 0 e - n))=((Builtin.zeroCells z.cells n).toList++(Builtin.zeroCells z.cells (grownCap w n 0 e - n)).toList).toArray:=by
   apply Array.ext'; simp
  rw [he]
  exact hadv
theorem Td {t e:TypeId} {x y:Operand} {n len k:Nat} {es:List (List PV)} (ho:o.op=.slice t x none (some y) none) {dk:Nat} (hdst:o.dst=some dk) (hdN:dk < N) (ht:(Aa P t).k=.sl e) (hg:(Aa P e).agg.isSome=true)
  (hx:ev st.t x=.own n len) (hlen:0 < len) (hn:st.o n=some (.arr k es)) (hfree:(st.purge n).o (r.b+dk)=none) (hy:ev st.t y=.p (.val (.int .i64 0)))
  (h:K (((st.purge n).setO (r.b+dk) (.arr k [])).put o.dst (.own (r.b+dk) 0))):B2 P r N o st K:=
 B2.ofOk (dd:=0) (by rw [ho]; intro c h; cases h) h fun B S θ M w a hs=>by
  have hu:=D3 ht
  have hS:=Bs (P:=P) (w:=w) (Ch hg)
  have hrel:=Ao hs x
  rw [hx] at hrel
  obtain ⟨hk0,hob⟩:=hs.ob n _ hn
  rcases Np hrel with ⟨_,h0,_⟩ | ⟨hnil,hcap,hsv⟩
  ·omega
  rcases hob with ⟨h0,_⟩ | ⟨_,hc1,cur,te,hb,hs1,ho1,hx1⟩
  ·rw [h0] at hnil; cases hnil
  have hb2:=H9 (P:=P) (w:=w) hs (isS:=true) (len:=len) (cap:=(θ n).cap) hcap (lo:=none) (hi:=some y) (l:=0) (hh:=0) rfl (by simp only [Ba,hy]) (by omega) (by omega) (by omega)
  simp only [Option.map_none,Option.map_some] at hb2
  have hrun:(execOp a.eval o).run P w=.ok (.value (.slice (some ⟨(θ n).blk,0,none⟩) 0 (θ n).cap)) w:=by
   have e1:(if (θ n).cap=0 then some (⟨(θ n).blk,0,none⟩:Addr) else some ((⟨(θ n).blk,0,none⟩:Addr).add 0))=some ⟨(θ n).blk,0,none⟩:=by rw [Ed]; simp
   simp [execOp,ho,hsv,Instr.sliceAt,A5 hu,Instr.slice,hb2,hS,Ed]
  have hP:=hs.purge n
  have hpl:=hP.place (d:=r.b+dk) hfree (w':=w) (l:=θ n) (o:=.arr k []) rfl (fun _ _=>rfl) (hs.lv n _ hn hnil).1 (hs.lv n _ hn hnil).2 (fun m o hm hmn eb=>by
    by_cases em:m=n
    ·subst em; rw [St.purge_o_same] at hm; cases hm
    ·rw [St.purge_o_other st em,Option.map_eq_some_iff] at hm
     obtain ⟨o',ho',_⟩:=hm
     exact em (hs.inj m n (by simp [ho']) (by simp [hn]) hmn hnil eb))
   ⟨by simp,.inr ⟨hnil,Nat.zero_le _,cur,te,hb,hs1,ho1,by simp⟩⟩ (AO.lives_arr _ _ _)
  refine ⟨_,w,.inl hrun,_,_,hpl.put (d:=o.dst) (fun k e=>by rw [hdst] at e; cases e; exact hdN) (x:=.own (r.b+dk) 0) ?_ ?_,A8.refl _ _,fun n hn=>Az (by omega),fun _ _ h=>h⟩
  ·have:=Ak.own (θ:=Dc θ (r.b+dk) (θ n)) (M:=M) (w:=w) (r.b+dk) 0 (by simpa using hnil) (Nat.zero_le _)
   simpa using this
  ·intro m hm
   simp only [AV.clean,bne_eq_false_iff_eq] at hm
   subst hm
   simp [St.setO]
end
section
variable {P:Program} {r:RB} {N B:Nat} {S:Nat→Prop} {θ:Nat→Loc} {M M2:Nat→Prop} {w:World} {st:St} {a:Act} {Q:AEx→St→Prop}
theorem Jv {all rest:List Oper} {K:St→Prop} {dst:Option Nat} {op:Op} {ty:TypeId} {pos:String} {after:Array Edge} (h:EO P r N ⟨dst,op,ty,pos,after,none⟩ st (fun s'=>AL P r N all rest s' K)):AL P r N all (⟨dst,op,ty,pos,after,none⟩ :: rest) st K:=AL.step (Fg h)
end
def rn (c m n:Nat):Nat:=if n=c then m else n
def AV.ren (c m:Nat):AV→AV
  | .p x=>.p x
  | .ptr n off=>.ptr (rn c m n) off
  | .eptr n k i off=>.eptr (rn c m n) k i off
  | .own n len=>.own (rn c m n) len
  | .csl n off k len=>.csl (rn c m n) off k len
  | .fn f fs cs=>.fn f (renL c m fs) (renL c m cs)
  | .yld n=>.yld (rn c m n)
  | .mp n=>.mp (rn c m n)
  | .agg cs=>.agg (renL c m cs)
  | .tup cs=>.tup (renL c m cs)
  | .undef=>.undef
  where renL (c m:Nat):List AV→List AV
  | []=>[]
  | x :: r=>x.ren c m :: renL c m r
theorem Kr (c m:Nat) (l:List AV):AV.ren.renL c m l=l.map (AV.ren c m):=by
  induction l with
  | nil=>rfl
  | cons x l ih=>simp only [AV.ren.renL,List.map_cons,ih]
def AO.ren (c m:Nat):AO→AO
  | .cells cs=>.cells (cs.map (AV.ren c m))
  | .arr k es=>.arr k es
  | .obj X=>.obj X
  | .it n X=>.it (rn c m n) X
  | .loop k tm=>.loop k (tm.map fun p=>(p.1,p.2.ren c m))
def St.ren (c m:Nat) (s:St):St:=⟨fun i=>(s.t i).ren c m,fun n=>if n=m then (s.o c).map (AO.ren c m) else if n=c then none else (s.o n).map (AO.ren c m)⟩
section
variable {θ:Nat→Loc} {M:Nat→Prop} {w:World} {c m:Nat}
theorem Mh {n:Nat} (h:n≠m):Dc θ m (θ c) (rn c m n)=θ n:=by
  unfold rn
  split
  · rename_i e; subst e; simp
  · exact Az h
theorem Ak.ren {x:AV} {v:Value} (h:Ak θ M w x v):x.clean m=true→Ak (Dc θ m (θ c)) M w (x.ren c m) v:=by
  have hl:∀ {l:List AV} {i:Nat} {y:AV},(AV.ren.renL c m l)[i]?=some y→∃ z,l[i]?=some z∧y=z.ren c m:=fun h=>by
    rw [Kr,List.getElem?_map,Option.map_eq_some_iff] at h
    obtain ⟨z,h1,h2⟩:=h
    exact ⟨z,h1,h2.symm⟩
  induction h with
  | p x v h=>exact fun _=>.p x v h
  | ptr n off=>intro hc; have:=Ak.ptr (θ:=Dc θ m (θ c)) (M:=M) (w:=w) (rn c m n) off; rwa [Mh (by simpa [AV.clean] using hc)] at this
  | eptr n k i off=>intro hc; have:=Ak.eptr (θ:=Dc θ m (θ c)) (M:=M) (w:=w) (rn c m n) k i off; rwa [Mh (by simpa [AV.clean] using hc)] at this
  | own n len h0 h=>
    intro hc
    have e:Dc θ m (θ c) (rn c m n)=θ n:=Mh (by simpa [AV.clean] using hc)
    have:=Ak.own (θ:=Dc θ m (θ c)) (M:=M) (w:=w) (rn c m n) len (by rw [e]; exact h0) (by rw [e]; exact h)
    rwa [e] at this
  | ownNil n h0=>
    intro hc
    have e:Dc θ m (θ c) (rn c m n)=θ n:=Mh (by simpa [AV.clean] using hc)
    exact .ownNil _ (by rw [e]; exact h0)
  | csl n off k len cap h=>intro hc; have:=Ak.csl (θ:=Dc θ m (θ c)) (M:=M) (w:=w) (rn c m n) off k len cap h; rwa [Mh (by simpa [AV.clean] using hc)] at this
  | fn f fs cs vf vc hf hcs _ _ ih1 ih2=>
    intro h
    simp only [AV.clean,Bool.and_eq_true,Be] at h
    refine .fn f _ _ vf vc (by rw [Kr,List.length_map]; exact hf) (by rw [Kr,List.length_map]; exact hcs) (fun i x hx=>?_) (fun i x hx=>?_)
    · obtain ⟨z,h1,rfl⟩:=hl hx
      exact ih1 i z h1 (h.1 i z h1)
    · obtain ⟨z,h1,rfl⟩:=hl hx
      exact ih2 i z h1 (h.2 i z h1)
  | yld n=>intro hc; have:=Ak.yld (θ:=Dc θ m (θ c)) (M:=M) (w:=w) (rn c m n); rwa [Mh (by simpa [AV.clean] using hc)] at this
  | mp n=>intro hc; have:=Ak.mp (θ:=Dc θ m (θ c)) (M:=M) (w:=w) (rn c m n); rwa [Mh (by simpa [AV.clean] using hc)] at this
  | agg cs vs hs ho _ ih=>
    intro h
    simp only [AV.clean,Be] at h
    refine .agg _ vs (by rw [Kr,List.length_map]; exact hs) (fun i hi=>ho i (by rwa [Kr,List.length_map] at hi)) (fun i x hx=>?_)
    obtain ⟨z,h1,rfl⟩:=hl hx
    exact ih i z h1 (h i z h1)
  | tup cs vs hs _ ih=>
    intro h
    simp only [AV.clean,Be] at h
    refine .tup _ vs (by rw [Kr,List.length_map]; exact hs) (fun i x hx=>?_)
    obtain ⟨z,h1,rfl⟩:=hl hx
    exact ih i z h1 (h i z h1)
  | undef v=>exact fun _=>.undef v
theorem Ko {x:AV} (n:Nat) (hx:x.clean m=true):(x.ren c m).clean n=false→(n=m∧x.clean c=false)∨(n≠c∧x.clean n=false):=by
  have key:∀ k,k≠m→(rn c m k != n)=false→(n=m∧(k != c)=false)∨(n≠c∧(k != n)=false):=fun k hk h=>by
    simp only [bne_eq_false_iff_eq] at h ⊢
    unfold rn at h
    split at h
    · rename_i e; exact .inl ⟨h.symm,e⟩
    · rename_i e; subst h; exact .inr ⟨e,rfl⟩
  have hll:∀ (l:List AV),(∀ x ∈ l,x.clean m=true→(x.ren c m).clean n=false→(n=m∧x.clean c=false)∨(n≠c∧x.clean n=false))→AV.clean.cleanL m l=true→AV.clean.cleanL n (AV.ren.renL c m l)=false→(n=m∧AV.clean.cleanL c l=false)∨(n≠c∧AV.clean.cleanL n l=false):=by
    intro l
    induction l with
    | nil=>intro _ _ h; simp [AV.ren.renL,AV.clean.cleanL] at h
    | cons y l ih=>
      intro h1 h2 h3
      simp only [AV.clean.cleanL,Bool.and_eq_true] at h2
      simp only [AV.ren.renL,AV.clean.cleanL,Bool.and_eq_false_iff] at h3 ⊢
      rcases h3 with h3 | h3
      · rcases h1 y (by simp) h2.1 h3 with h | h
        · exact .inl ⟨h.1,.inl h.2⟩
        · exact .inr ⟨h.1,.inl h.2⟩
      · rcases ih (fun x hx=>h1 x (by simp [hx])) h2.2 h3 with h | h
        · exact .inl ⟨h.1,.inr h.2⟩
        · exact .inr ⟨h.1,.inr h.2⟩
  match x,hx with
  | .p _,_=>intro h; simp [AV.ren,AV.clean] at h
  | .ptr k _,hx=>intro h; simp only [AV.ren,AV.clean] at *; exact key k (by simpa using hx) h
  | .eptr k _ _ _,hx=>intro h; simp only [AV.ren,AV.clean] at *; exact key k (by simpa using hx) h
  | .own k _,hx=>intro h; simp only [AV.ren,AV.clean] at *; exact key k (by simpa using hx) h
  | .csl k _ _ _,hx=>intro h; simp only [AV.ren,AV.clean] at *; exact key k (by simpa using hx) h
  | .yld k,hx=>intro h; simp only [AV.ren,AV.clean] at *; exact key k (by simpa using hx) h
  | .mp k,hx=>intro h; simp only [AV.ren,AV.clean] at *; exact key k (by simpa using hx) h
  | .fn f fs cs,hx=>
    intro h
    simp only [AV.ren,AV.clean,Bool.and_eq_true,Bool.and_eq_false_iff] at *
    rcases h with h | h
    · rcases hll fs (fun x _ hx=>Ko n hx) hx.1 h with h | h
      · exact .inl ⟨h.1,.inl h.2⟩
      · exact .inr ⟨h.1,.inl h.2⟩
    · rcases hll cs (fun x _ hx=>Ko n hx) hx.2 h with h | h
      · exact .inl ⟨h.1,.inr h.2⟩
      · exact .inr ⟨h.1,.inr h.2⟩
  | .agg cs,hx=>intro h; simp only [AV.ren,AV.clean] at *; exact hll cs (fun x _ hx=>Ko n hx) hx h
  | .tup cs,hx=>intro h; simp only [AV.ren,AV.clean] at *; exact hll cs (fun x _ hx=>Ko n hx) hx h
  | .undef,_=>intro h; simp [AV.ren,AV.clean] at h
  termination_by sizeOf x
  decreasing_by all_goals (simp_wf; first | (have:=List.sizeOf_lt_of_mem ‹_›; omega) | omega)
end
section
variable {P:Program} {r:RB} {N B:Nat} {S:Nat→Prop} {θ:Nat→Loc} {M:Nat→Prop} {w:World} {st:St} {a:Act} {Q:AEx→St→Prop} {c m:Nat}
theorem N7 {x:AV} {os:Nat→Option AO} (hx:x.lives os) (hm:os m=none):x.clean m=true:=by
  cases h:x.clean m with
  | true=>rfl
  | false=>have:=hx m h; rw [hm] at this; cases this
theorem U6 {x:AO} {os:Nat→Option AO} (hx:x.lives os) (hm:os m=none):x.clean m=true:=by
  cases h:x.clean m with
  | true=>rfl
  | false=>have:=hx m h; rw [hm] at this; cases this
theorem Ng {x:AV} (hx:x.lives st.o) (hm:st.o m=none) (_:c≠m):(x.ren c m).lives (st.ren c m).o:=by
  intro n hn
  simp only [St.ren]
  rcases Ko n (N7 hx hm) hn with ⟨e,h⟩ | ⟨e,h⟩
  · rw [if_pos e,Option.isSome_map]; exact hx c h
  · have h1:=hx n h
    have h2:n≠m:=fun e=>by rw [e,hm] at h1; cases h1
    rw [if_neg h2,if_neg e,Option.isSome_map]; exact h1
theorem Lf.ren {l:Loc} {o:AO} (h:Lf θ M w l o) (hc:o.clean m=true):Lf (Dc θ m (θ c)) M w l (o.ren c m):=by
  cases o with
  | arr k es=>exact h
  | obj X=>exact h
  | it n X=>
    obtain ⟨h0,ob,h1,h2⟩:=h
    have hn:n≠m:=by simpa [AO.clean] using hc
    exact ⟨h0,ob,h1,by rw [Mh hn]; exact h2⟩
  | cells cs=>
    obtain ⟨h0,cur,e,hb,hs,ho,hx⟩:=h
    refine ⟨h0,cur,e,hb,by simpa using hs,fun i hi=>ho i (by simpa using hi),fun i x hi=>?_⟩
    rw [List.getElem?_map,Option.map_eq_some_iff] at hi
    obtain ⟨y,hy,rfl⟩:=hi
    exact (hx i y hy).ren ((Be m _).1 hc i y hy)
  | loop k tm=>
    obtain ⟨h0,fn,tmps,D,hb,hn,hx⟩:=h
    refine ⟨h0,fn,tmps,D,hb,hn,fun i p hi=>?_⟩
    rw [List.getElem?_map,Option.map_eq_some_iff] at hi
    obtain ⟨q,hq,rfl⟩:=hi
    exact (hx i q hq).ren ((Be m _).1 hc i q.2 (by simp [hq]))
theorem Ae6 {x:AO} (hx:x.lives st.o) (hm:st.o m=none) (hcm:c≠m):(x.ren c m).lives (st.ren c m).o:=by
  cases x with
  | arr k es=>exact AO.lives_arr _ _ _
  | obj X=>exact AO.lives_obj _ _
  | it n X=>exact Ng (x:=.ptr n 0) (fun q hq=>hx q hq) hm hcm
  | cells cs=>
    rw [AO.lives_cells] at hx
    rw [AO.ren,AO.lives_cells]
    intro i y hi
    rw [List.getElem?_map,Option.map_eq_some_iff] at hi
    obtain ⟨z,hz,rfl⟩:=hi
    exact Ng (hx i z hz) hm hcm
  | loop k tm=>
    rw [AO.lives_loop] at hx
    rw [AO.ren,AO.lives_loop]
    intro i p hi
    rw [List.getElem?_map,Option.map_eq_some_iff] at hi
    obtain ⟨q,hq,rfl⟩:=hi
    exact Ng (hx i q hq) hm hcm
theorem Ar.ren (h:Ar N B S θ M w st a) (hm:st.o m=none) (hcm:c≠m):Ar N B S (Dc θ m (θ c)) M w (st.ren c m) a:=by
  have hcase:∀ n o,(st.ren c m).o n=some o→∃ n' o',st.o n'=some o'∧o=o'.ren c m∧Dc θ m (θ c) n=θ n'∧n=rn c m n'∧n'≠m:=by
    intro n o hn
    simp only [St.ren] at hn
    split at hn
    · rename_i e
      rw [Option.map_eq_some_iff] at hn
      obtain ⟨o',h1,h2⟩:=hn
      exact ⟨c,o',h1,h2.symm,by rw [e]; simp,by rw [e]; simp [rn],hcm⟩
    · rename_i e
      split at hn
      · cases hn
      · rename_i e2
        rw [Option.map_eq_some_iff] at hn
        obtain ⟨o',h1,h2⟩:=hn
        exact ⟨n,o',h1,h2.symm,Az e,by simp [rn,e2],e⟩
  refine ⟨h.size,fun i=>(h.tm i).ren (N7 (h.cl.1 i) hm),fun n o hn=>?_,fun n o hn hnil=>?_,fun n k hn hk h1 h2 hb=>?_,h.base,h.mlt,fun i=>Ng (h.cl.1 i) hm hcm,fun n o hn=>?_⟩
  · obtain ⟨n',o',h1,rfl,e,_,_⟩:=hcase n o hn
    rw [e]
    exact (h.ob n' o' h1).ren (U6 (h.cl.2 n' o' h1) hm)
  · obtain ⟨n',o',h1,rfl,e,_,_⟩:=hcase n o hn
    rw [e] at hnil ⊢
    exact h.lv n' o' h1 hnil
  · obtain ⟨o1,ho1⟩:=Option.isSome_iff_exists.1 hn
    obtain ⟨o2,ho2⟩:=Option.isSome_iff_exists.1 hk
    obtain ⟨n',o1',g1,_,e1,r1,_⟩:=hcase n o1 ho1
    obtain ⟨k',o2',g2,_,e2,r2,_⟩:=hcase k o2 ho2
    rw [e1] at h1 hb
    rw [e2] at h2 hb
    have:=h.inj n' k' (by rw [g1]; rfl) (by rw [g2]; rfl) h1 h2 hb
    rw [r1,r2,this]
  · obtain ⟨n',o',h1,rfl,_,_,_⟩:=hcase n o hn
    exact Ae6 (h.cl.2 n' o' h1) hm hcm
theorem AWP.ren {cd:Code} (h:AWP P r N cd st (fun e s=>Q e s∨∃ c m,s.o m=none∧c≠m∧(r.mv m∨r.b≤m)∧Q e (s.ren c m))):AWP P r N cd st Q:=by
  intro B S θ M w a hs
  refine wpIn_mono (h B S θ M w a hs) ?_
  rintro e a' w' ⟨ae,st',rfl,hq,⟨θ',M',hs',hk,ht,hm⟩,hd⟩
  rcases hq with hq | ⟨c,m,h1,h2,h3,hq⟩
  · exact ⟨ae,st',rfl,hq,⟨θ',M',hs',hk,ht,hm⟩,hd⟩
  · refine ⟨ae,_,rfl,hq,⟨_,M',hs'.ren h1 h2,hk,fun n hn hv=>?_,hm⟩,hd⟩
    rw [Az (fun e=>by
                                subst e; rcases h3 with h3 | h3
                                · exact hv h3
                                · omega)]
    exact ht n hn hv
structure St.wk (s1 s:St):Prop where
  t:∀ i,s1.t i=.undef∨s1.t i=s.t i
  o:∀ n,s1.o n=none∨s1.o n=s.o n∨∃ cs cs':List AV,s.o n=some (.cells cs)∧s1.o n=some (.cells cs')∧cs'.length=cs.length∧∀ (i:Nat) (x:AV),cs'[i]?=some x→x=.undef∨cs[i]?=some x
  cl:s1.closed
end
section
variable {P:Program} {r:RB} {N:Nat} {st:St} {Q:AEx→St→Prop} {c m:Nat}
theorem Ahi {cd:Code} (c m:Nat) (h1:st.o m=none) (h2:c≠m) (h3:r.mv m∨r.b≤m) (h:AWP P r N cd (st.ren c m) Q):AWP P r N cd st Q:=by
  intro B S θ M w a hs
  refine wpIn_mono (h B S _ M w a (hs.ren h1 h2)) ?_
  rintro e a' w' ⟨ae,st',rfl,hq,⟨θ',M',hs',hk,ht,hm⟩,hd⟩
  refine ⟨ae,st',rfl,hq,⟨θ',M',hs',hk,fun n hn hv=>?_,hm⟩,hd⟩
  rw [ht n hn hv,Az (fun e=>by
                                          subst e; rcases h3 with h3 | h3
                                          · exact hv h3
                                          · omega)]
def W7 (c m:Nat):List (Nat × AV)→List (Nat × AV)
  | []=>[]
  | (j,x) :: l=>(j,x.ren c m) :: W7 c m l
def Aag (c m:Nat):List (Nat × AO)→List (Nat × AO)
  | []=>[]
  | (j,x) :: l=>(rn c m j,x.ren c m) :: Aag c m l
theorem Avx {l:List (Nat × AV)}:(fun i=>(T l i).ren c m)=T (W7 c m l):=by
  funext i
  induction l with
  | nil=>rfl
  | cons p l ih=>
    obtain ⟨j,x⟩:=p
    simp only [T,W7]
    split
    · rfl
    · exact ih
theorem Avc:∀ {l:List (Nat × AO)},(l.all fun p=>p.1 != m)=true→c≠m→(fun n=>if n=m then (O l c).map (AO.ren c m) else if n=c then none else (O l n).map (AO.ren c m))=O (Aag c m l)
  | [],_,_=>by funext n; simp [O,Aag]
  | (j,x) :: l,h,hne=>by
    simp only [List.all_cons,Bool.and_eq_true,bne_iff_ne] at h
    have ih:=Avc h.2 hne
    funext n
    have ih:=congrFun ih n
    simp only [O,Aag]
    rw [← ih]
    by_cases e1:n=m
    · subst e1
      rw [if_pos rfl,if_pos rfl]
      by_cases e2:c=j
      · subst e2; simp [rn]
      · rw [if_neg e2,if_neg (by unfold rn; split <;> omega)]
    · rw [if_neg e1,if_neg e1]
      by_cases e2:n=c
      · subst e2
        rw [if_pos rfl,if_pos rfl,if_neg (by unfold rn; split <;> omega)]
      · rw [if_neg e2,if_neg e2]
        by_cases e3:n=j
        · subst e3; rw [if_pos rfl,if_pos (by unfold rn; rw [if_neg e2])]; rfl
        · rw [if_neg e3,if_neg (by unfold rn; split <;> omega)]
theorem Axx {l:List (Nat × AV)} {o:List (Nat × AO)} (h:(o.all fun p=>p.1 != m)=true) (hne:c≠m):St.ren c m ⟨T l,O o⟩=⟨T (W7 c m l),O (Aag c m o)⟩:=by
  unfold St.ren; rw [Avx,Avc h hne]
theorem Vw {cd:Code} {l:List (Nat × AV)} {o:List (Nat × AO)} (c m:Nat) (h1:(o.all fun p=>p.1 != m)=true) (h2:c≠m) (h3:r.b≤m) (h:AWP P r N cd ⟨T (W7 c m l),O (Aag c m o)⟩ Q):AWP P r N cd ⟨T l,O o⟩ Q:=by
  refine Ahi c m ?_ h2 (.inr h3) (by rw [Axx h1 h2]; exact h)
  show O o m=none
  induction o with
  | nil=>rfl
  | cons p o ih=>
    obtain ⟨j,x⟩:=p
    simp only [List.all_cons,Bool.and_eq_true,bne_iff_ne] at h1
    simp only [O]; rw [if_neg (fun e=>h1.1 e.symm)]
    clear h
    exact (by
      have:=h1.2
      clear ih
      induction o with
      | nil=>rfl
      | cons q o ih=>
        obtain ⟨k,y⟩:=q
        simp only [List.all_cons,Bool.and_eq_true,bne_iff_ne] at this
        simp only [O]; rw [if_neg (fun e=>this.1 e.symm)]
        exact ih ⟨h1.1,this.2⟩ this.2)
end
section
variable {P:Program} {r:RB} {N:Nat} {ops:List Oper}
theorem Hn {all:List Oper} {K:St→Prop}:∀ {l1 l2:List Oper} {s:St},EL P r N all (l1++l2) s K=EL P r N all l1 s (fun s'=>EL P r N all l2 s' K)
 | [],_,_=>rfl
 | o :: l1,l2,s=>by
  simp only [List.cons_append,EL]
  have e:(fun s'=>EL P r N all (l1++l2) s' K)=fun s'=>EL P r N all l1 s' (fun s'=>EL P r N all l2 s' K):=funext fun s'=>Hn
  rw [e]
  split
  ·rfl
  ·split
   ·rfl
   ·split
    ·rw [Hn]
    ·rw [Hn]
    ·rfl
def Tl (m:Nat):Nat→Bool
 | 0=>true
 | k+1=>m.testBit k&&Tl m k
theorem Ra {m:Nat}:∀ {k:Nat},Tl m k=true→∀ j,j < k→m.testBit j=true
 | 0,_,j,hj=>by omega
 | k+1,h,j,hj=>by
  simp only [Tl,Bool.and_eq_true] at h
  by_cases e:j=k
  ·subst e; exact h.1
  ·exact Ra h.2 j (by omega)
end
section
variable {P:Program} {r:RB} {N:Nat} {ops:List Oper}
def Anj (v:List Nat) (ops:List Oper) (i j:Nat):Bool:=match ops[i]?,ops[j]? with
 | some oi,some oj=>Ub v ops oj oi
 | _,_=>false
def Qw (v:List Nat) (ops:List Oper) (b:Nat→Nat) (rem:List Nat):Bool:=rem.all fun i=>rem.all fun j=>decide (i≤j)||((b i).testBit j||Anj v ops i j)
def An9 (b:Nat→Nat) (rem:List Nat) (i:Nat):Bool:=rem.all fun j=>decide (i≤j)||!(b i).testBit j
def AT (P:Program) (r:RB) (N:Nat) (ops:List Oper) (b:Nat→Nat) (K:St→Prop):Nat→List Nat→St→Prop
 | 0,rem,s=>Qw r.v ops b rem=true∧EL P r N ops (rem.filterMap (ops[·]?)) s K
 | n+1,rem,s=>(Qw r.v ops b rem=true∧EL P r N ops (rem.filterMap (ops[·]?)) s K)∨∀ i ∈ rem,An9 b rem i=true→∃ o,ops[i]?=some o∧EL P r N ops [o] s fun s'=>AT P r N ops b K n (rem.erase i) s'
theorem Zf {v:List Nat} {b:Nat→Nat} {rem:List Nat} (h:Qw v ops b rem=true) {i j:Nat} {oi oj:Oper} (hi:i ∈ rem) (hj:j ∈ rem) (hij:j < i) (hoi:ops[i]?=some oi) (hoj:ops[j]?=some oj) (ht:(b i).testBit j=false):Ub v ops oj oi=true:=by
 have h1:=List.all_eq_true.1 (List.all_eq_true.1 h i hi) j hj
 simp only [ht,Bool.false_or,Bool.or_eq_true,decide_eq_true_eq,Anj,hoi,hoj] at h1
 rcases h1 with h1 | h1
 ·omega
 ·exact h1
theorem Ajd {v:List Nat} {b:Nat→Nat} {rem rem':List Nat} (h:Qw v ops b rem=true) (hs:∀ x ∈ rem',x ∈ rem):Qw v ops b rem'=true:=
 List.all_eq_true.2 fun i hi=>List.all_eq_true.2 fun j hj=>List.all_eq_true.1 (List.all_eq_true.1 h i (hs i hi)) j (hs j hj)
theorem D1 {b:Nat→Nat} {K:St→Prop} {n:Nat} {rem:List Nat} {s:St} (h1:Qw r.v ops b rem=true) (h2:EL P r N ops (rem.filterMap (ops[·]?)) s K):AT P r N ops b K n rem s:=by
 cases n with
 | zero=>exact ⟨h1,h2⟩
 | succ n=>exact .inl ⟨h1,h2⟩
theorem Amc {b:Nat→Nat} (hb:Sw ops b) {K:St→Prop} {Q:Exit→Act→World→Prop} :
  ∀ (fuel n:Nat) (listed:Array Bool) (s:St) (B:Nat) (S:Nat→Prop) (θ:Nat→Loc) (M:Nat→Prop) (w:World) (a:Act),Ar N B S θ M w s a→listed.size=ops.length→Nq ops listed→(Bt ops.length listed).length≤fuel→n < (Bt ops.length listed).length+1 →
   AT P r N ops b K n (Bt ops.length listed) s→(∀ s' a' w',K s'→Fin r N B S θ M w a s' a' w'→Q .normal a' w')→wpAnyIn (Wd r.rd) 0 P .any ops.toArray Q fuel listed a w:=by
 intro fuel
 have hready:∀ {listed:Array Bool} {x:Nat},x ∈ Region.ready .any ops.toArray listed→x ∈ Bt ops.length listed:=fun h=>((Cr rfl).1 h).1
 induction fuel with
 | zero=>
  intro n listed s B S θ M w a hs hsz hcl hf hn hE hQ
  have hnil:Bt ops.length listed=[]:=List.length_eq_zero_iff.1 (by omega)
  refine ⟨List.eq_nil_iff_forall_not_mem.2 fun x hx=>?_,?_⟩
  ·have:=hready hx
   rw [hnil] at this; cases this
  ·rw [hnil] at hE hn
   obtain rfl:n=0:=by simpa using hn
   exact hQ s a w hE.2 ⟨G6.refl hs,rfl⟩
 | succ fuel ih=>
  intro n listed s B S θ M w a hs hsz hcl hf hn hE hQ
  refine ⟨fun hr=>?_,fun i hi=>?_⟩
  ·
   have hnil:Bt ops.length listed=[]:=by
    cases hrem:Bt ops.length listed with
    | nil=>rfl
    | cons x l=>
     exfalso
     have hx:x ∈ Bt ops.length listed:=by rw [hrem]; simp
     have hsort:(Bt ops.length listed).Pairwise (· < ·):=(List.pairwise_lt_range).filter _
     rw [hrem,List.pairwise_cons] at hsort
     obtain ⟨hxn,hxl⟩:=C0.1 hx
     have:x ∈ Region.ready .any ops.toArray listed:=(Cr rfl).2 ⟨hx,ops[x],by simp [hxn],fun e he hbe=>by
      have hlt:=hb.lt x ops[x] (by simp [hxn]) e he hbe
      cases hl:listed.getD e.on false with
      | true=>rfl
      | false=>
       exfalso
       have hen:e.on < ops.length:=Nat.lt_trans hlt hxn
       have:e.on ∈ Bt ops.length listed:=C0.2 ⟨hen,by
        rw [Array.getD_eq_getD_getElem?] at hl ⊢
        have hsz':e.on < listed.size:=by omega
        simp only [Array.getElem?_eq_getElem hsz',Option.getD_some] at hl ⊢
        exact hl⟩
       rw [hrem] at this
       rcases List.mem_cons.1 this with h | h
       ·omega
       ·have:=hsort.1 _ h; omega⟩
     rw [hr] at this; cases this
   rw [hnil] at hE hn
   obtain rfl:n=0:=by simpa using hn
   exact hQ s a w hE.2 ⟨G6.refl hs,rfl⟩
  ·obtain ⟨hrem,o,ho,hafter⟩:=(Cr rfl).1 hi
   obtain ⟨pre,post,he,hpre,hset⟩:=Jj hsz hrem
   have hpl:∀ j ∈ pre,listed.getD j true=false:=fun j hj=>(C0.1 (show j ∈ Bt ops.length listed by rw [he]; simp [hj])).2
   have hml:∀ j ∈ pre,(b i).testBit j=false:=fun j hj=>by
    cases ht:(b i).testBit j with
    | false=>rfl
    | true=>
     have:=F2 hb hcl i o ho hafter (hpre j hj) ht
     rw [Qk (hpl j hj)] at this; cases this
   have hall:(Qw r.v ops b (Bt ops.length listed)=true∧EL P r N ops ((Bt ops.length listed).filterMap (ops[·]?)) s K)→EL P r N ops [o] s fun s'=>AT P r N ops b K 0 (pre++post) s':=fun ⟨h1,h2⟩=>by
    rw [he,List.filterMap_append,List.filterMap_cons] at h2
    simp only [ho] at h2
    have h3:=Zw hs.cl (fun oj hoj=>by
     obtain ⟨j,hj,hoj⟩:=List.mem_filterMap.1 hoj
     exact P6 (Zf h1 (by rw [he]; simp) (by rw [he]; simp [hj]) (hpre j hj) ho hoj (hml j hj))) h2
    rw [show o :: (pre.filterMap (ops[·]?)++post.filterMap (ops[·]?))=[o]++(pre++post).filterMap (ops[·]?) by simp,Hn] at h3
    have hok:Qw r.v ops b (pre++post)=true:=Ajd h1 fun x hx=>by rw [he]; simp only [List.mem_append,List.mem_cons] at hx ⊢; rcases hx with h | h <;> simp [h]
    rw [show (fun s'=>AT P r N ops b K 0 (pre++post) s')=fun s'=>EL P r N ops ((pre++post).filterMap (ops[·]?)) s' K from funext fun s'=>propext ⟨fun h=>h.2,fun h=>⟨hok,h⟩⟩]
    exact h3
   have hE':∃ m,m < (pre++post).length+1∧EL P r N ops [o] s fun s'=>AT P r N ops b K m (pre++post) s':=by
    cases n with
    | zero=>exact ⟨0,by omega,hall hE⟩
    | succ n=>
     have hle:(Bt ops.length listed).length=(pre++post).length+1:=by rw [he]; simp; omega
     rcases hE with hE | hE
     ·exact ⟨0,by omega,hall hE⟩
     ·obtain ⟨o',ho',h⟩:=hE i (by rw [he]; simp) (List.all_eq_true.2 fun j hj=>by
       by_cases hij:i≤j
       ·simp [hij]
       ·rw [he] at hj
        rcases List.mem_append.1 hj with h | h
        ·simp [hml j h]
        ·rcases List.mem_cons.1 h with h | h
         ·omega
         ·exfalso
          have hsort:(Bt ops.length listed).Pairwise (· < ·):=(List.pairwise_lt_range).filter _
          rw [he,List.pairwise_append] at hsort
          have:=(List.pairwise_cons.1 hsort.2.1).1 j h
          omega)
      rw [ho] at ho'; cases ho'
      refine ⟨n,by omega,?_⟩
      rw [he,List.erase_append_right _ (fun h=>by have:=hpre i h; omega),List.erase_cons_head] at h
      exact h
   obtain ⟨m,hm,hE'⟩:=hE'
   refine wpOpIn_mono ?_ (Tn ho hs hE')
   rintro a' w' ⟨s1,hE1,hF⟩
   obtain ⟨θ',M',hs',hcomp⟩:=hF.comp
   refine ih m _ s1 B S θ' M' w' a' hs' (by simpa using hsz) ?_ ?_ ?_ ?_ (fun s' a'' w'' hK hF'=>hQ s' a'' w'' hK (hcomp _ _ _ hF'))
   ·intro k ok hk hl e hek hbe
    have hmono:∀ m,listed.getD m false=true→(listed.setIfInBounds i true).getD m false=true:=fun m hm=>by
     rw [Array.getD_eq_getD_getElem?] at hm ⊢
     rw [Array.getElem?_setIfInBounds]
     split
     ·split <;> simp_all
     ·exact hm
    by_cases hki:k=i
    ·subst hki
     rw [ho] at hk; cases hk
     exact hmono _ (hafter e hek hbe)
    ·have:listed.getD k false=true:=by
      rw [Array.getD_eq_getD_getElem?] at hl ⊢
      rw [Array.getElem?_setIfInBounds,if_neg (Ne.symm hki)] at hl
      exact hl
     exact hmono _ (hcl k ok hk this e hek hbe)
   ·rw [hset]
    rw [he] at hf
    simp only [List.length_append,List.length_cons] at hf ⊢
    omega
   ·rw [hset]; exact hm
   ·rw [hset]; exact hE1
theorem Apj {ops:List Oper} {id n:Nat} {l:List Nat} {st:St} {Q:AEx→St→Prop} (hm:P.follows .mixedOrders=true) (hb:Mv ops (fun i=>l.getD i 0)=true) (hn:decide (n≤ops.length)=true) (h:AT P r N ops (fun i=>l.getD i 0) (Q .normal) n (List.range ops.length) st):AWP P r N (.region id ops.toArray true) st Q:=by
 intro B S θ M w a hs
 refine wpIn_region_any hm ?_
 have hn:=of_decide_eq_true hn
 have hrem:Bt ops.length (Array.replicate ops.length false)=List.range ops.length:=Hw _
 refine Amc (Ft hb) ops.toArray.size n (Array.replicate ops.toArray.size false) st B S θ M _ a (hs.drawn _) (by simp) (fun k o hk hL=>?_) ?_ ?_ ?_ (fun s' a' w' hk hF=>⟨.normal,s',rfl,hk,?_⟩)
 ·simp only [Array.getD_eq_getD_getElem?,Array.getElem?_replicate] at hL
  split at hL <;> simp at hL
 ·simp only [List.size_toArray]; rw [hrem]; simp
 ·simp only [List.size_toArray]; rw [hrem]; simp; omega
 ·simp only [List.size_toArray]; rw [hrem]; exact h
 ·obtain ⟨⟨θ',M',h1,h2,h3,h4⟩,h5⟩:=hF
  exact ⟨⟨θ',M',h1,⟨h2.size,h2.same,h2.os,h2.tape,h2.output⟩,h3,h4⟩,h5⟩
def ATs (P:Program) (r:RB) (N:Nat) (ops:List Oper) (b:Nat→Nat) (K:St→Prop) (n:Nat) (rem:List Nat) (s:St):List Nat→Prop
 | []=>True
 | i :: l=>(∃ o,ops[i]?=some o∧EL P r N ops [o] s fun s'=>AT P r N ops b K n (rem.erase i) s')∧ATs P r N ops b K n rem s l
theorem Agr {b:Nat→Nat} {K:St→Prop} {n:Nat} {rem:List Nat} {s:St}:∀ {l:List Nat},ATs P r N ops b K n rem s l→∀ i ∈ l,∃ o,ops[i]?=some o∧EL P r N ops [o] s fun s'=>AT P r N ops b K n (rem.erase i) s'
 | i :: l,h,k,hk=>by
  rcases List.mem_cons.1 hk with rfl | hk
  ·exact h.1
  ·exact Agr h.2 k hk
theorem Fi {l:List Nat} {K:St→Prop} {n:Nat} {rem ls:List Nat} {s:St} (h:rem.filter (An9 (fun i=>l.getD i 0) rem)=ls) (hs:ATs P r N ops (fun i=>l.getD i 0) K n rem s ls):AT P r N ops (fun i=>l.getD i 0) K (n+1) rem s:=
 .inr fun i hi hr=>Agr hs i (by rw [← h]; exact List.mem_filter.2 ⟨hi,hr⟩)
theorem Dz {b:Nat→Nat} {K:St→Prop} {n i:Nat} {rem rem':List Nat} {s:St} {o:Oper} (he:rem.erase i=rem') (ho:ops[i]?=some o) (h:EL P r N ops [o] s fun s'=>AT P r N ops b K n rem' s'):∃ o,ops[i]?=some o∧EL P r N ops [o] s fun s'=>AT P r N ops b K n (rem.erase i) s':=by
 subst he; exact ⟨o,ho,h⟩
def Aof (l1:List (Nat × AV)) (m1:List (Nat × AO)) (e:AEx) (s':St):Prop:=e=.normal∧leT s'.t l1∧leO s'.o m1
theorem Ah7 (l1:List (Nat × AV)) (m1:List (Nat × AO)) {cd rest:Code} {K:St→Prop} {Q2 Q3:AEx→St→Prop} {s:St} (hK:∀ s',AWP P r N rest s' Q2→K s') (h3:nmT (Ki m1) l1=true) (h4:Vv (Ki m1) m1=true) (h1:AWP P r N cd s (Aof l1 m1)) (h2:∀ K':St→Prop,(∀ s',AWP P r N rest s' Q2→K' s')→K' ⟨T l1,O m1⟩):AWP P r N cd s (Jp K Q3):=
 h1.mono fun e s' ⟨he,hl,ho⟩=>by subst he; exact hK s' (Adr l1 m1 hl ho h3 h4 (h2 (fun s=>AWP P r N rest s Q2) fun _ h=>h))
end
end AM
end
/- Plain facts: a truth is played. -/
section
namespace AM.Wort
open Go AM
def Bby (l:Liq):Sta:=⟨l.g,l.e,Q8 l⟩
def Js (t:Tru):List Int:=[t.g,t.d,t.m].flatten
theorem An8 (t:Tru):(Js t).length=t.g.length+(t.d.length+t.m.length):=by simp [Js]
theorem Fo {α:Type} {l r:List α} {k:Nat} (d:α) (h:k < l.length):(l++r).getD k d=l.getD k d:=by
 simp [List.getD,List.getElem?_append_left h]
theorem Ej {α:Type} {l r:List α} {k:Nat} (d:α):(l++r).getD (l.length+k) d=r.getD k d:=by
 simp [List.getD,List.getElem?_append_right]
theorem Ajj {b:Eg} {t:Tru} (h1:t.g.length=b.vs.length) (h2:t.d.length=b.vs.length) (h3:t.m.length=b.ss.length)
  (h:∀ k,k < (Fy b).length→Jk ((Fy b).getD k default) ((Js t).getD k 0)=true):F7 b t=true:=by
 have hl:=Qo (b:=b)
 have e:Js t=t.g++(t.d++t.m):=by simp [Js]
 have e2:Fy b=b.vs.map (·.g)++(b.vs.map (·.d)++b.ss.map (·.g)):=by simp [Fy]
 have a1:∀ k,k < b.vs.length→Jk (b.vs.getD k default).g (t.g.getD k 0)=true:=fun k hk=>by
  have:=h k (by omega)
  rw [e,e2,Fo _ (by simp; omega),Fo _ (by omega),Cp (·.g) default default hk] at this
  exact this
 have a2:∀ k,k < b.vs.length→Jk (b.vs.getD k default).d (t.d.getD k 0)=true:=fun k hk=>by
  have:=h (b.vs.length+k) (by omega)
  rw [e,e2] at this
  have w1:(b.vs.map (·.g)).length=b.vs.length:=List.length_map _
  rw [← w1,Ej,w1,← h1,Ej,Fo _ (by simp; omega),Fo _ (by omega),Cp (·.d) default default hk] at this
  exact this
 have a3:∀ k,k < b.ss.length→Jk (b.ss.getD k default).g (t.m.getD k 0)=true:=fun k hk=>by
  have:=h (b.vs.length+(b.vs.length+k)) (by omega)
  rw [e,e2] at this
  have w1:(b.vs.map (·.g)).length=b.vs.length:=List.length_map _
  have w2:(b.vs.map (·.d)).length=b.vs.length:=List.length_map _
  have q1:(b.vs.map (·.g)++(b.vs.map (·.d)++b.ss.map (·.g))).getD (b.vs.length+(b.vs.length+k)) default=(b.ss.map (·.g)).getD k default:=by
   conv=>lhs; rw [show b.vs.length+(b.vs.length+k)=(b.vs.map (·.g)).length+((b.vs.map (·.d)).length+k) by rw [w1,w2]]
   rw [Ej,Ej]
  have q2:(t.g++(t.d++t.m)).getD (b.vs.length+(b.vs.length+k)) 0=t.m.getD k 0:=by
   conv=>lhs; rw [show b.vs.length+(b.vs.length+k)=t.g.length+(t.d.length+k) by rw [h1,h2]]
   rw [Ej,Ej]
  rw [q1,q2,Cp (·.g) default default hk] at this
  exact this
 simp only [F7,Bool.and_eq_true,decide_eq_true_eq,List.all_eq_true,List.mem_range]
 exact ⟨h1,h2,h3,fun k hk=>⟨a1 k hk,a2 k hk⟩,a3⟩
theorem Kn {b:Eg} {t:Tru} (h:F7 b t=true) {k:Nat} (hk:k < (Fy b).length):Jk ((Fy b).getD k default) ((Js t).getD k 0)=true:=by
 have hl:=Qo (b:=b)
 have e:Js t=t.g++(t.d++t.m):=by simp [Js]
 have e2:Fy b=b.vs.map (·.g)++(b.vs.map (·.d)++b.ss.map (·.g)):=by simp [Fy]
 have w1:(b.vs.map (·.g)).length=b.vs.length:=List.length_map _
 have w2:(b.vs.map (·.d)).length=b.vs.length:=List.length_map _
 obtain ⟨h1,h2,h3,h4,h5⟩:=Dk h
 rw [e,e2]
 by_cases c1:k < b.vs.length
 ·rw [Fo _ (by omega),Fo _ (by omega),Cp (·.g) default default c1]
  simp only [Jk,inB,Bool.and_eq_true,decide_eq_true_eq]; exact (h4 k c1).1
 ·obtain ⟨j,rfl⟩:∃ j,k=b.vs.length+j:=⟨k - b.vs.length,by omega⟩
  have q1:(b.vs.map (·.g)++(b.vs.map (·.d)++b.ss.map (·.g))).getD (b.vs.length+j) default=(b.vs.map (·.d)++b.ss.map (·.g)).getD j default:=by
   conv=>lhs; rw [show b.vs.length+j=(b.vs.map (·.g)).length+j by rw [w1]]
   rw [Ej]
  have q2:(t.g++(t.d++t.m)).getD (b.vs.length+j) 0=(t.d++t.m).getD j 0:=by
   conv=>lhs; rw [show b.vs.length+j=t.g.length+j by rw [h1]]
   rw [Ej]
  rw [q1,q2]
  by_cases c2:j < b.vs.length
  ·rw [Fo _ (by omega),Fo _ (by omega),Cp (·.d) default default c2]
   simp only [Jk,inB,Bool.and_eq_true,decide_eq_true_eq]; exact (h4 j c2).2
  ·obtain ⟨i,rfl⟩:∃ i,j=b.vs.length+i:=⟨j - b.vs.length,by omega⟩
   have q1:(b.vs.map (·.d)++b.ss.map (·.g)).getD (b.vs.length+i) default=(b.ss.map (·.g)).getD i default:=by
    conv=>lhs; rw [show b.vs.length+i=(b.vs.map (·.d)).length+i by rw [w2]]
    rw [Ej]
   have q2:(t.d++t.m).getD (b.vs.length+i) 0=t.m.getD i 0:=by
    conv=>lhs; rw [show b.vs.length+i=t.d.length+i by rw [h2]]
    rw [Ej]
   rw [q1,q2,Cp (fun s:Stp=>s.g) default default (by omega)]
   simp only [Jk,inB,Bool.and_eq_true,decide_eq_true_eq]; exact h5 i (by omega)
theorem Abn {b:Eg} (hv:N3 b) {m:List Int} (hm:∀ k,0≤m.getD k 0):∀ (ss:List Stp) (k:Nat) (r:List Liq × Bool),ss.all (F4 b.vs.length)=true→r.1.length=4→(r.2=true→OkV r.1)→(Kx b.vs m ss k r).1.length=4∧((Kx b.vs m ss k r).2=true→OkV (Kx b.vs m ss k r).1)
 | [],_,_,_,h1,h2=>⟨h1,h2⟩
 | s :: ss,k,r,hs,h1,h2=>by
  unfold Kx
  split
  ·exact ⟨h1,fun h=>by cases h⟩
  ·rename_i hr
   have hr:r.2=true:=by simpa using hr
   rw [List.all_cons,Bool.and_eq_true] at hs
   exact Abn hv hm ss (k+1) _ hs.2 (by rw [Aaw]; exact h1) fun hd=>Apd (h2 hr) hv.nv hv.v hs.1 (hm k) hd
theorem Ano {b:Eg} {t:Tru} (hv:N3 b) (h:F7 b t=true):(Md b t).1.length=4∧((Md b t).2=true→OkV (Md b t).1):=by
 have h0:=Xm hv h
 obtain ⟨_,_,h3⟩:=Lc hv h
 exact Abn hv (fun k=>(h3 k).1) b.ss 0 _ hv.s h0.len fun _=>h0
end AM.Wort
end
/- The abstract machine, part 62: closed runs: quick tests; the commonest operations. -/
section
namespace AM
open Go
def eqN (a b:Nat):Bool:=Nat.beq a b
theorem Bn {a b:Nat}:eqN a b=true↔a=b:=⟨Nat.eq_of_beq_eq_true,fun e=>by subst e; exact Nat.beq_refl a⟩
theorem G7 {a b:Nat}:eqN a b=false↔a≠b:=by rw [← Bool.not_eq_true,Bn]
def leN (a b:Nat):Bool:=Nat.ble a b
theorem Em {a b:Nat}:leN a b=true↔a≤b:=⟨Nat.le_of_ble_eq_true,Nat.ble_eq_true_of_le⟩
def ltN (a b:Nat):Bool:=Nat.ble (Nat.succ a) b
theorem F6 {a b:Nat}:ltN a b=true↔a < b:=⟨Nat.le_of_ble_eq_true,Nat.ble_eq_true_of_le⟩
def Sa (n:Nat):List Nat→Bool
 | []=>false
 | m :: l=>match eqN n m with
  | true=>true
  | false=>Sa n l
theorem Ahl {n:Nat}:∀ {l:List Nat},Sa n l=l.contains n
 | []=>rfl
 | m :: l=>by
  simp only [Sa,List.contains_cons]
  split
  ·rename_i h; rw [Bn] at h; simp [h]
  ·rename_i h; rw [G7] at h; rw [Ahl,beq_eq_false_iff_ne.2 h]; rfl
def Fk:List (Nat × AV)→Nat→AV
 | [],_=>.undef
 | (j,x) :: l,i=>match eqN i j with
  | true=>x
  | false=>Fk l i
theorem Hi (l:List (Nat × AV)):Fk l=T l:=by
 funext i
 induction l with
 | nil=>rfl
 | cons p l ih=>
  obtain ⟨j,x⟩:=p
  simp only [Fk,Af]
  split
  ·rename_i h; rw [Bn] at h; rw [if_pos h]
  ·rename_i h; rw [G7] at h; rw [if_neg h]; exact ih
def Amo {α:Type} (n:Nat):List (Nat × α)→List (Nat × α)
 | []=>[]
 | (j,x) :: l=>match eqN j n with
  | true=>Amo n l
  | false=>(j,x) :: Amo n l
def leI:Int→Int→Bool
 | .ofNat a,.ofNat b=>leN a b
 | .ofNat _,.negSucc _=>false
 | .negSucc _,.ofNat _=>true
 | .negSucc a,.negSucc b=>leN b a
theorem Zj {a b:Int}:leI a b=true↔a≤b:=by
 cases a <;> cases b <;> simp only [leI,Em,Int.ofNat_eq_natCast] <;> first | omega | (constructor <;> intro h <;> first | trivial | rfl | omega | (cases h; done))
def eqI:Int→Int→Bool
 | .ofNat a,.ofNat b=>eqN a b
 | .negSucc a,.negSucc b=>eqN a b
 | _,_=>false
theorem Qq {a b:Int}:eqI a b=true↔a=b:=by
 cases a <;> cases b <;> simp only [eqI,Bn,Int.ofNat_eq_natCast] <;> first | omega | (constructor <;> intro h <;> first | trivial | rfl | omega | (cases h; done))
def w64 (n:Int):Option Value:=match leI (-9223372036854775808) n&&leI n 9223372036854775807 with
 | true=>some (.int .i64 n)
 | false=>none
theorem Qx {n:Int} {v:Value} (h:w64 n=some v):v=.int .i64 (IntKind.i64.wrap n):=by
 unfold w64 at h
 split at h
 ·rename_i hc
  simp only [Bool.and_eq_true,Zj] at hc
  cases h
  rw [Fc hc.1 (by omega)]
 ·cases h
def Ax0 (op:BinOp) (a b:Int):Option Value:=match op with
 | .add=>w64 (a+b)
 | .sub=>w64 (a - b)
 | .mul=>w64 (a * b)
 | .quo=>match eqI b 0 with
  | true=>none
  | false=>w64 (a.tdiv b)
 | .eql=>some (.bool (eqI a b))
 | .neq=>some (.bool (!eqI a b))
 | .lss=>some (.bool (!leI b a))
 | .leq=>some (.bool (leI a b))
 | .gtr=>some (.bool (!leI a b))
 | .geq=>some (.bool (leI b a))
 | _=>none
theorem Agj {a b:Int}:leI a b=decide (a≤b):=by
 cases h:leI a b with
 | true=>rw [Zj] at h; exact (decide_eq_true h).symm
 | false=>exact (decide_eq_false (fun e=>by rw [Zj.2 e] at h; cases h)).symm
theorem Ani {a b:Int}:(!leI a b)=decide (b < a):=by
 rw [Agj,← decide_not]
 exact decide_eq_decide.2 (by omega)
theorem Aq3 {a b:Int}:eqI a b=(a == b):=by
 cases h:eqI a b with
 | true=>rw [Qq] at h; subst h; simp
 | false=>
  have:a≠b:=fun e=>by rw [Qq.2 e] at h; cases h
  simp [this]
theorem Ais {op:BinOp} {a b:Int} {v:Value} (h:Ax0 op a b=some v):Gz op .i64 a b=some v:=by
 cases op <;> simp only [Ax0] at h <;> first | (cases h; done) | skip
 ·rw [Qx h]; rfl
 ·rw [Qx h]; rfl
 ·rw [Qx h]; rfl
 ·split at h
  ·cases h
  ·rename_i hb
   rw [Qx h]
   simp only [Gz]
   rw [if_neg (fun e=>by rw [Qq.2 e] at hb; cases hb)]
 all_goals
  cases h
  simp only [Gz,Aq3,Ani,bne]
  try simp only [Agj]
def Aro (op:BinOp):Value→Value→Option Value
 | .int .i64 a,.int .i64 b=>Ax0 op a b
 | _,_=>none
theorem Aip {op:BinOp} {x y v:Value} (h:Aro op x y=some v):Ji op x y=some v:=by
 unfold Aro at h
 split at h
 ·rename_i a b
  have:=Ais h
  unfold Ji
  cases op <;> first | exact this | (cases this; done) | (simp only [if_true]; exact this)
 ·cases h
def M8 (g:Bool) (sz:Nat) (cs:List AV):Option AV:=match g with
 | true=>match leN sz cs.length with
  | true=>some (.agg (cs.take sz))
  | false=>none
 | false=>cs.head?
theorem Mz {g:Bool} {sz:Nat} {cs:List AV}:M8 g sz cs=Ai g sz cs:=by
 unfold M8 Ai
 cases g with
 | false=>rfl
 | true=>
  simp only [if_true]
  split
  ·rename_i h; rw [Em] at h; rw [if_pos h]
  ·rename_i h; rw [if_neg (fun e=>by rw [Em.2 e] at h; cases h)]
def Mc (ty:TypeId→TI) (d:Nat) (op:Op) (ρ:Operand→AV) (os:Nat→Option AO):Option Eff:=
 match op with
 | .move x=>some (.pure (ρ x))
 | .assign x=>some (.pure (ρ x))
 | .pick c a b=>match ρ c with
  | .p (.val (.bool true))=>some (.pure (ρ a))
  | .p (.val (.bool false))=>some (.pure (ρ b))
  | _=>none
 | .alloc t=>match (ty t).zero.all Value.oneCell'&&(eqN (ty t).sz (ty t).zero.length&&(ltN 0 (ty t).sz&&(ty t).agg.isSome)) with
  | true=>some (.new (.cells (D5 (ty t).zero)) (.ptr d 0))
  | false=>none
 | .box _ x=>(ρ x).cs?.map fun cs=>.new (.cells cs) (.ptr d 0)
 | .load t x=>match ρ x with
  | .ptr n off=>match (ty t).agg with
   | some g=>match os n with
    | some (.cells cs)=>(M8 g (ty t).sz (cs.drop off)).map .pure
    | _=>none
   | none=>none
  | .p (.ro cs)=>match (ty t).agg with
   | some g=>(M8 g (ty t).sz (cs.map .p)).map .pure
   | none=>none
  | _=>none
 | .store t x v=>match ρ x with
  | .ptr n off=>match (ρ v).cs? with
   | some vs=>match (ty t).agg with
    | some _=>match eqN vs.length (ty t).sz with
     | true=>match os n with
      | some (.cells cs)=>match leN (off+vs.length) cs.length with
       | true=>some (.upd n (.cells (A1 cs off vs)))
       | false=>none
      | _=>none
     | false=>none
    | none=>none
   | none=>none
  | _=>none
 | .fieldAddr t x f=>match (ty t).k with
  | .struct fs=>match fs[f]? with
   | some (o,ft)=>match eqN (ty ft).sz 0 with
    | true=>none
    | false=>match ρ x with
     | .ptr n off=>some (.pure (.ptr n (off+o)))
     | .p (.ro cs)=>some (.pure (.p (.ro (cs.drop o))))
     | _=>none
   | none=>none
  | _=>none
 | .field t x f=>match (ty t).k with
  | .struct fs=>match ρ x with
   | .agg cs=>match fs[f]? with
    | some (o,ft)=>match (ty ft).agg with
     | some g=>match leN (o+(ty ft).sz) cs.length with
      | true=>(M8 g (ty ft).sz (cs.drop o)).map .pure
      | false=>none
     | none=>none
    | none=>none
   | _=>none
  | _=>none
 | .indexAddr t x i=>match ρ i with
  | .p (.val (.int _ (.ofNat n)))=>match (ty t).k with
   | .sl e=>match ρ x with
    | .p (.sl es)=>match ltN n es.length&&(eqN (es.getD n []).length (ty e).sz&&(ty e).agg.isSome) with
     | true=>some (.pure (.p (.ro (es.getD n []))))
     | false=>none
    | .csl m off k len=>match ltN n len&&(eqN k (ty e).sz&&(ty e).agg.isSome) with
     | true=>some (.pure (.ptr m (off+n * k)))
     | false=>none
    | _=>none
   | .arr len e=>match ρ x with
    | .ptr m off=>match ltN n len&&(ty e).agg.isSome with
     | true=>some (.pure (.ptr m (off+n * (ty e).sz)))
     | false=>none
    | _=>none
   | _=>none
  | _=>none
 | .index t x i=>match ρ i with
  | .p (.val (.int _ (.ofNat n)))=>match (ty t).k with
   | .arr len e=>match ρ x with
    | .agg cs=>match (ty e).agg with
     | some g=>match ltN n len&&leN (n * (ty e).sz+(ty e).sz) cs.length with
      | true=>(M8 g (ty e).sz (cs.drop (n * (ty e).sz))).map .pure
      | false=>none
     | none=>none
    | _=>none
   | _=>none
  | _=>none
 | .binOp o _ x y _=>match ρ x with
  | .p (.val a)=>match ρ y with
   | .p (.val b)=>(Aro o a b).map fun v=>.pure (.p (.val v))
   | _=>none
  | _=>none
 | .unOp o _ x=>match o with
  | .not=>match ρ x with
   | .p (.val (.bool b))=>some (.pure (.p (.val (.bool !b))))
   | _=>none
  | _=>none
 | .makeFunc f first captured=>some (.pure (.fn f (first.toList.map ρ) (captured.toList.map ρ)))
 | .extract x i=>match ρ x with
  | .tup vs=>(vs[i]?).map .pure
  | _=>none
 | .nilCheck x=>match ρ x with
  | .ptr n off=>some (.pure (.ptr n off))
  | _=>none
 | _=>none
theorem Ajx {P:Program} {ty:TypeId→TI} (hty:∀ t,ty t=Aa P t) {d:Nat} {op:Op} {ρ:Operand→AV} {os:Nat→Option AO} {e:Eff} (h:Mc ty d op ρ os=some e):eff P d op ρ os=some e:=by
 have e0:ty=Aa P:=funext hty
 subst e0
 unfold Mc at h
 split at h
 ·exact h
 ·exact h
 ·simp only [eff]
  split at h
  ·rename_i hc; rw [hc]; exact h
  ·rename_i hc; rw [hc]; exact h
  ·cases h
 ·split at h
  ·rename_i hc
   simp only [Bool.and_eq_true,Bn,F6] at hc
   simp only [eff]
   rw [if_pos hc]; exact h
  ·cases h
 ·exact h
 ·simp only [eff]
  split at h
  ·rename_i n off hx
   split at h
   ·rename_i g hg
    split at h
    ·rename_i cs ho
     rw [Mz] at h
     simp only [hg,hx,ho]; exact h
    ·cases h
   ·cases h
  ·rename_i cs hx
   split at h
   ·rename_i g hg
    rw [Mz] at h
    simp only [hg,hx]; exact h
   ·cases h
  ·cases h
 ·simp only [eff]
  split at h
  ·rename_i n off hx
   split at h
   ·rename_i vs hv
    split at h
    ·rename_i g hg
     split at h
     ·rename_i hl
      rw [Bn] at hl
      split at h
      ·rename_i cs ho
       split at h
       ·rename_i hle
        rw [Em] at hle
        simp only [hx,hv,hg,ho,if_pos hl,if_pos hle]; exact h
       ·cases h
      ·cases h
     ·cases h
    ·cases h
   ·cases h
  ·cases h
 ·simp only [eff]
  split at h
  ·rename_i fs hk
   split at h
   ·rename_i o ft hf
    split at h
    ·cases h
    ·rename_i hz
     rw [G7] at hz
     split at h
     ·rename_i n off hx
      simp only [hk,hf,if_neg hz,hx]; exact h
     ·rename_i cs hx
      simp only [hk,hf,if_neg hz,hx]; exact h
     ·cases h
   ·cases h
  ·cases h
 ·simp only [eff]
  split at h
  ·rename_i fs hk
   split at h
   ·rename_i cs hx
    split at h
    ·rename_i o ft hf
     split at h
     ·rename_i g hg
      split at h
      ·rename_i hle
       rw [Em] at hle
       rw [Mz] at h
       simp only [hk,hx,hf,hg,if_pos hle]; exact h
      ·cases h
     ·cases h
    ·cases h
   ·cases h
  ·cases h
 ·simp only [eff]
  split at h
  ·rename_i q n hi
   split at h
   ·rename_i e1 hk
    split at h
    ·rename_i es hx
     split at h
     ·rename_i hc
      simp only [Bool.and_eq_true,Bn,F6] at hc
      simp only [hk,hi,hx]
      rw [if_pos ⟨Int.natCast_nonneg n,by show (n:Int) < es.length; omega,hc.2.1,hc.2.2⟩]; exact h
     ·cases h
    ·rename_i m off k len hx
     split at h
     ·rename_i hc
      simp only [Bool.and_eq_true,Bn,F6] at hc
      simp only [hk,hi,hx]
      rw [if_pos ⟨Int.natCast_nonneg n,by show (n:Int) < len; omega,hc.2.1,hc.2.2⟩]; exact h
     ·cases h
    ·cases h
   ·rename_i len e1 hk
    split at h
    ·rename_i m off hx
     split at h
     ·rename_i hc
      simp only [Bool.and_eq_true,F6] at hc
      simp only [hk,hi,hx]
      rw [if_pos ⟨Int.natCast_nonneg n,by show (n:Int) < len; omega,hc.2⟩]; exact h
     ·cases h
    ·cases h
   ·cases h
  ·cases h
 ·simp only [eff]
  split at h
  ·rename_i q n hi
   split at h
   ·rename_i len e1 hk
    split at h
    ·rename_i cs hx
     split at h
     ·rename_i g hg
      split at h
      ·rename_i hc
       simp only [Bool.and_eq_true,Em,F6] at hc
       rw [Mz] at h
       simp only [hk,hi,hx,hg]
       rw [if_pos ⟨Int.natCast_nonneg n,by show (n:Int) < len; omega,hc.2⟩]; exact h
      ·cases h
     ·cases h
    ·cases h
   ·cases h
  ·cases h
 ·simp only [eff]
  split at h
  ·rename_i a hx
   split at h
   ·rename_i b hy
    obtain ⟨v,hv,rfl⟩:=Option.map_eq_some_iff.1 h
    have hb:∀ c c',¬ (a=.bool c∧b=.bool c'):=fun c c' hc=>by rw [hc.1,hc.2] at hv; cases hv
    have:=Aip hv
    rw [hx,hy]
    cases a <;> first | (simp only [this]; rfl) | skip
    cases b <;> first | (simp only [this]; rfl) | exact absurd ⟨rfl,rfl⟩ (hb _ _)
   ·cases h
  ·cases h
 ·simp only [eff]
  split at h
  ·split at h
   ·rename_i hx; rw [hx]; exact h
   ·cases h
  ·cases h
 ·exact h
 ·exact h
 ·simp only [eff]
  split at h
  ·rename_i hx; rw [hx]; exact h
  ·cases h
 ·cases h
inductive CK where
 | mv (x:Operand)
 | pick (c a b:Operand)
 | alloc (z:List AV)
 | box (x:Operand)
 | load (g:Bool) (sz:Nat) (x:Operand)
 | store (sz:Nat) (x v:Operand)
 | fa (o:Nat) (x:Operand)
 | fld (g:Bool) (o sz:Nat) (x:Operand)
 | ias (sz:Nat) (x i:Operand)
 | iaa (len sz:Nat) (x i:Operand)
 | ix (g:Bool) (len sz:Nat) (x i:Operand)
 | bin (o:BinOp) (x y:Operand)
 | not (x:Operand)
 | mk (f:Fn) (first captured:List Operand)
 | ext (x:Operand) (i:Nat)
 | nc (x:Operand)
 | call (f:Nat) (as:List Operand)
 | callv (i:Nat) (as:List Operand)
 | other
def Zm (i:TI):CK:=match i.zero.all Value.oneCell'&&(eqN i.sz i.zero.length&&(ltN 0 i.sz&&i.agg.isSome)) with
 | true=>.alloc (D5 i.zero)
 | false=>.other
def Ag8 (x:Operand) (sz:Nat):Option Bool→CK
 | some g=>.load g sz x
 | none=>.other
def Aa1 (x v:Operand) (sz:Nat):Option Bool→CK
 | some _=>.store sz x v
 | none=>.other
def cFa (x:Operand) (o:Nat):Bool→CK
 | true=>.other
 | false=>.fa o x
def Asr (ty:TypeId→TI) (x:Operand):Option (Nat × Nat)→CK
 | some (o,ft)=>cFa x o (eqN (ty ft).sz 0)
 | none=>.other
def Ar3 (x:Operand) (o sz:Nat):Option Bool→CK
 | some g=>.fld g o sz x
 | none=>.other
def Ahq (ty:TypeId→TI) (x:Operand):Option (Nat × Nat)→CK
 | some (o,ft)=>Ar3 x o (ty ft).sz (ty ft).agg
 | none=>.other
def cIa (ty:TypeId→TI) (x i:Operand):TK→CK
 | .sl e=>match (ty e).agg.isSome with
  | true=>.ias (ty e).sz x i
  | false=>.other
 | .arr len e=>match (ty e).agg.isSome with
  | true=>.iaa len (ty e).sz x i
  | false=>.other
 | _=>.other
def cIx (ty:TypeId→TI) (x i:Operand):TK→CK
 | .arr len e=>match (ty e).agg with
  | some g=>.ix g len (ty e).sz x i
  | none=>.other
 | _=>.other
def cK (ty:TypeId→TI):Op→CK
 | .move x=>.mv x
 | .assign x=>.mv x
 | .pick c a b=>.pick c a b
 | .alloc t=>Zm (ty t)
 | .box _ x=>.box x
 | .load t x=>Ag8 x (ty t).sz (ty t).agg
 | .store t x v=>Aa1 x v (ty t).sz (ty t).agg
 | .fieldAddr t x f=>match (ty t).k with
  | .struct fs=>Asr ty x fs[f]?
  | _=>.other
 | .field t x f=>match (ty t).k with
  | .struct fs=>Ahq ty x fs[f]?
  | _=>.other
 | .indexAddr t x i=>cIa ty x i (ty t).k
 | .index t x i=>cIx ty x i (ty t).k
 | .binOp o _ x y _=>.bin o x y
 | .unOp .not _ x=>.not x
 | .makeFunc f first captured=>.mk f first.toList captured.toList
 | .extract x i=>.ext x i
 | .nilCheck x=>.nc x
 | .call ⟨.value (.func f),xs,_⟩=>.call f xs.toList
 | .call ⟨.value (.tmp i),xs,_⟩=>.callv i xs.toList
 | _=>.other
def At1 (a b:AV):AV→Option Eff
 | .p (.val (.bool true))=>some (.pure a)
 | .p (.val (.bool false))=>some (.pure b)
 | _=>none
def Anw (g:Bool) (sz off:Nat):Option AO→Option Eff
 | some (.cells cs)=>(M8 g sz (cs.drop off)).map .pure
 | _=>none
def Aut (g:Bool) (sz:Nat) (os:Nat→Option AO):AV→Option Eff
 | .ptr n off=>Anw g sz off (os n)
 | .p (.ro cs)=>(M8 g sz (cs.map .p)).map .pure
 | _=>none
def Agl (n off:Nat) (vs:List AV):Option AO→Option Eff
 | some (.cells cs)=>match leN (off+vs.length) cs.length with
  | true=>some (.upd n (.cells (A1 cs off vs)))
  | false=>none
 | _=>none
def Ahx (sz n off:Nat) (os:Nat→Option AO):Option (List AV)→Option Eff
 | some vs=>match eqN vs.length sz with
  | true=>Agl n off vs (os n)
  | false=>none
 | none=>none
def Aoi (sz:Nat) (os:Nat→Option AO) (v:Option (List AV)):AV→Option Eff
 | .ptr n off=>Ahx sz n off os v
 | _=>none
def kFa (o:Nat):AV→Option Eff
 | .ptr n off=>some (.pure (.ptr n (off+o)))
 | .p (.ro cs)=>some (.pure (.p (.ro (cs.drop o))))
 | _=>none
def Bav (g:Bool) (o sz:Nat):AV→Option Eff
 | .agg cs=>match leN (o+sz) cs.length with
  | true=>(M8 g sz (cs.drop o)).map .pure
  | false=>none
 | _=>none
def Bdd (sz n:Nat):AV→Option Eff
 | .p (.sl es)=>match ltN n es.length&&eqN (es.getD n []).length sz with
  | true=>some (.pure (.p (.ro (es.getD n []))))
  | false=>none
 | .csl m off k len=>match ltN n len&&eqN k sz with
  | true=>some (.pure (.ptr m (off+n * k)))
  | false=>none
 | _=>none
def Bco (len sz n:Nat):AV→Option Eff
 | .ptr m off=>match ltN n len with
  | true=>some (.pure (.ptr m (off+n * sz)))
  | false=>none
 | _=>none
def kIx (g:Bool) (len sz n:Nat):AV→Option Eff
 | .agg cs=>match ltN n len&&leN (n * sz+sz) cs.length with
  | true=>(M8 g sz (cs.drop (n * sz))).map .pure
  | false=>none
 | _=>none
def Ajf (k:Nat→Option Eff):AV→Option Eff
 | .p (.val (.int _ (.ofNat n)))=>k n
 | _=>none
def Azv (o:BinOp):AV→AV→Option Eff
 | .p (.val a),.p (.val b)=>(Aro o a b).map fun v=>.pure (.p (.val v))
 | _,_=>none
def Bc4:AV→Option Eff
 | .p (.val (.bool b))=>some (.pure (.p (.val (.bool !b))))
 | _=>none
def Bcf (i:Nat):AV→Option Eff
 | .tup vs=>(vs[i]?).map .pure
 | _=>none
def kNc:AV→Option Eff
 | .ptr n off=>some (.pure (.ptr n off))
 | _=>none
def Pq (d:Nat) (ρ:Operand→AV) (os:Nat→Option AO):CK→Option Eff
 | .mv x=>some (.pure (ρ x))
 | .pick c a b=>At1 (ρ a) (ρ b) (ρ c)
 | .alloc z=>some (.new (.cells z) (.ptr d 0))
 | .box x=>(ρ x).cs?.map fun cs=>.new (.cells cs) (.ptr d 0)
 | .load g sz x=>Aut g sz os (ρ x)
 | .store sz x v=>Aoi sz os (ρ v).cs? (ρ x)
 | .fa o x=>kFa o (ρ x)
 | .fld g o sz x=>Bav g o sz (ρ x)
 | .ias sz x i=>Ajf (fun n=>Bdd sz n (ρ x)) (ρ i)
 | .iaa len sz x i=>Ajf (fun n=>Bco len sz n (ρ x)) (ρ i)
 | .ix g len sz x i=>Ajf (fun n=>kIx g len sz n (ρ x)) (ρ i)
 | .bin o x y=>Azv o (ρ x) (ρ y)
 | .not x=>Bc4 (ρ x)
 | .mk f first captured=>some (.pure (.fn f (first.map ρ) (captured.map ρ)))
 | .ext x i=>Bcf i (ρ x)
 | .nc x=>kNc (ρ x)
 | _=>none
theorem Aiz {ty:TypeId→TI} {d:Nat} {op:Op} {ρ:Operand→AV} {os:Nat→Option AO} {e:Eff} (h:Pq d ρ os (cK ty op)=some e):Mc ty d op ρ os=some e:=by
 unfold cK at h
 split at h
 ·exact h
 ·exact h
 ·simp only [Pq,At1] at h
  simp only [Mc]
  exact h
 ·simp only [Mc]
  unfold Zm at h
  split at h
  ·exact h
  ·cases h
 ·exact h
 ·rename_i t x
  unfold Ag8 at h
  simp only [Mc]
  split at h
  ·rename_i g hg
   simp only [Pq] at h
   unfold Aut at h
   try simp only [hg]
   split at h
   ·rename_i hx
    unfold Anw at h
    (try rw [hx]); exact h
   ·rename_i hx
    (try rw [hx]); exact h
   ·cases h
  ·cases h
 ·rename_i t x v
  unfold Aa1 at h
  simp only [Mc]
  split at h
  ·rename_i g hg
   simp only [Pq] at h
   unfold Aoi at h
   try simp only [hg]
   split at h
   ·rename_i hx
    unfold Ahx at h
    try rw [hx]
    split at h
    ·rename_i vs hv
     try rw [hv]
     try dsimp only
     split at h
     ·rename_i hl
      try rw [hl]
      try dsimp only
      unfold Agl at h
      exact h
     ·cases h
    ·cases h
   ·cases h
  ·cases h
 ·simp only [Mc]
  split at h
  ·rename_i fs hk
   try rw [hk]
   try dsimp only
   unfold Asr at h
   split at h
   ·rename_i o ft hf
    try rw [hf]
    try dsimp only
    unfold cFa at h
    split at h
    ·cases h
    ·rename_i hz
     try rw [hz]
     try dsimp only
     simp only [Pq] at h
     unfold kFa at h
     exact h
   ·cases h
  ·cases h
 ·simp only [Mc]
  split at h
  ·rename_i fs hk
   try rw [hk]
   try dsimp only
   unfold Ahq at h
   split at h
   ·rename_i o ft hf
    unfold Ar3 at h
    split at h
    ·rename_i g hg
     simp only [Pq] at h
     unfold Bav at h
     split at h
     ·rename_i cs hx
      try rw [hx]
      try dsimp only
      try rw [hf]
      try dsimp only
      try rw [hg]
      try dsimp only
      exact h
     ·cases h
    ·cases h
   ·cases h
  ·cases h
 ·simp only [Mc]
  unfold cIa at h
  split at h
  ·rename_i e1 hk
   split at h
   ·rename_i ha
    simp only [Pq] at h
    unfold Ajf at h
    split at h
    ·rename_i hi
     try rw [hi]
     try dsimp only
     try rw [hk]
     try dsimp only
     unfold Bdd at h
     split at h
     ·rename_i hx
      try rw [hx]
      try dsimp only
      try rw [ha,Bool.and_true]
      exact h
     ·rename_i hx
      try rw [hx]
      try dsimp only
      try rw [ha,Bool.and_true]
      exact h
     ·cases h
    ·cases h
   ·cases h
  ·rename_i len e1 hk
   split at h
   ·rename_i ha
    simp only [Pq] at h
    unfold Ajf at h
    split at h
    ·rename_i hi
     try rw [hi]
     try dsimp only
     try rw [hk]
     try dsimp only
     unfold Bco at h
     split at h
     ·rename_i hx
      try rw [hx]
      try dsimp only
      try rw [ha,Bool.and_true]
      exact h
     ·cases h
    ·cases h
   ·cases h
  ·cases h
 ·simp only [Mc]
  unfold cIx at h
  split at h
  ·rename_i len e1 hk
   split at h
   ·rename_i g hg
    simp only [Pq] at h
    unfold Ajf at h
    split at h
    ·rename_i hi
     try rw [hi]
     try dsimp only
     try rw [hk]
     try dsimp only
     unfold kIx at h
     split at h
     ·rename_i hx
      try rw [hx]
      try dsimp only
      try rw [hg]
      try dsimp only
      exact h
     ·cases h
    ·cases h
   ·cases h
  ·cases h
 ·simp only [Mc]
  simp only [Pq] at h
  unfold Azv at h
  split at h
  ·rename_i hx hy
   (try rw [hx,hy]); exact h
  ·cases h
 ·simp only [Mc]
  simp only [Pq] at h
  unfold Bc4 at h
  exact h
 ·exact h
 ·simp only [Mc]
  simp only [Pq] at h
  unfold Bcf at h
  exact h
 ·simp only [Mc]
  simp only [Pq] at h
  unfold kNc at h
  exact h
 ·cases h
 ·cases h
 ·cases h
section
variable {P:Program} {b:Frame} {a:Act} {k:List Item} {cs:List Frame} {w:World} {F:Fence} {n:Nat} {Q:Exit→Act→World→Prop}
theorem Fs {c:Code}:step P (lone (b.atR a (.code (.scope c) :: k)) cs w)=.next (lone (b.atR a (.code c :: .inScope c :: k)) cs w):=
 step_lone_go (by simp [stepG,stepG.exec,Frame.atR])
theorem Wt {c:Code}:step P (lone (b.atR a (.inScope c :: k)) cs w)=.next (lone (b.atR a k) cs w):=
 step_lone_go (by simp [stepG,stepG.exec,Frame.atR])
theorem Hc {c:Code} (h:c.wpIn F n P (Exit.noGoto Q) a w):(Code.scope c).wpIn F n P Q a w:=by
 intro b k cs hro hb hr
 have h0:(lone (b.atR a (.code (.scope c) :: k)) cs w).fenced P F:=fenced_calm hb hr rfl
 obtain ⟨e,a₁,w₁,hq,harr⟩:=h b (.inScope c :: k) cs hro hb hr
 cases e with
 | normal=>exact ⟨.normal,a₁,w₁,hq,.head h0 Fs (StepsIn.trans harr (.one (fenced_calm hb hr rfl) Wt))⟩
 | exit id=>
  have hx:exitTo id (.inScope c :: k)=exitTo id k:=by simp [exitTo]
  exact ⟨.exit id,a₁,w₁,hq,fun k' hk=>.head h0 Fs (harr.1 k' (by rw [hx]; exact hk)),
   fun hr' hk=>let ⟨k₁,h1,h2⟩:=harr.2 hr' (by rw [hx]; exact hk); ⟨k₁,h1,.head h0 Fs h2⟩⟩
 | goto l=>exact hq.elim
 | ret=>exact ⟨_,a₁,w₁,hq,.of_steps (.one h0 Fs) harr⟩
 | panic ch=>exact ⟨_,a₁,w₁,hq,.of_steps (.one h0 Fs) harr⟩
 | outgrown=>exact ⟨_,a₁,w₁,hq,.of_steps (.one h0 Fs) harr⟩
end
theorem Akf {P:Program} {r:RB} {N:Nat} {c:Code} {st:St} {Q:AEx→St→Prop} (h:AWP P r N c st Q):AWP P r N (.scope c) st Q:=by
 intro B S θ M w a hs
 refine Hc (wpIn_mono (h B S θ M w a hs) ?_)
 rintro e a' w' ⟨ae,st',rfl,h2,h3⟩
 cases ae with
 | normal=>exact ⟨.normal,st',rfl,h2,h3⟩
 | exit id=>exact ⟨.exit id,st',rfl,h2,h3⟩
 | ret=>exact ⟨.ret,st',rfl,h2,h3⟩
def xop (P:Program):Op→Bool
 | .fieldAddr ..=>true
 | .indexAddr ..=>true
 | .build ..=>true
 | .buildSlice ..=>true
 | .load t _=>(Aa P t).agg == some false
 | _=>false
section
variable {P:Program} {r:RB} {N:Nat} {all:List Oper} {d:Nat} {op:Op} {ρ ρ':Operand→AV} {os os':Nat→Option AO} {s:St}
theorem Bbg (h:xop P op=true):qop op=true∧Cd op=false∧De op=false∧isM op=false:=by
 cases op <;> first | (simp [xop] at h; done) | exact ⟨rfl,rfl,rfl,rfl⟩
theorem Wj {n:Nat} {x:AV} (h:x.purge n=x) (hu:x≠.undef):x.clean n=true:=by
 unfold AV.purge at h
 split at h
 ·assumption
 ·exact absurd h.symm hu
theorem Lp {zero:List AV} {place:Nat→Option (Nat × Nat)}:∀ {l:List (Nat × AV)} {cs:List AV},Bp zero place l=some cs→∀ p ∈ l,p.2≠.undef
 | [],_,_,p,hp=>by cases hp
 | (i,x) :: l,cs,h,p,hp=>by
  simp only [Bp] at h
  split at h
  ·rename_i off sz cs' g1 g2
   split at h
   ·rcases List.mem_cons.1 hp with rfl | hp
    ·intro e
     dsimp only at e; subst e; simp [AV.cs?] at g2
    ·exact Lp h p hp
   ·cases h
  ·cases h
theorem Q1 {k:Nat}:∀ {l:List (Nat × AV)} {i:Nat} {es:List (List PV)},Bf k i l=some es→∀ p ∈ l,p.2≠.undef
 | [],_,_,_,p,hp=>by cases hp
 | (j,x) :: l,i,es,h,p,hp=>by
  simp only [Bf] at h
  split at h
  ·rename_i c es' g1 g2
   split at h
   ·rcases List.mem_cons.1 hp with rfl | hp
    ·intro e
     dsimp only at e; subst e; simp [AV.cs?] at g1
    ·exact Q1 g2 p hp
   ·cases h
  ·cases h
theorem Pv {n:Nat} {l:List (Nat × Operand)} (hρ:∀ p ∈ l,ρ' p.2=(ρ p.2).purge n) (h:∀ p ∈ l.map fun p=>(p.1,ρ' p.2),p.2≠.undef):(l.map fun p=>(p.1,ρ' p.2))=l.map fun p=>(p.1,ρ p.2):=by
 refine List.map_congr_left fun p hp=>?_
 have h1:=h (p.1,ρ' p.2) (List.mem_map.2 ⟨p,hp,rfl⟩)
 have h2:=hρ p hp
 rcases Ca n (ρ p.2) with e | e
 ·rw [h2,e]
 ·exact absurd (h2.trans e) h1
theorem Akt (h:xop P op=true) {n:Nat} (hρ:∀ x ∈ op.operands.toList,ρ' x=(ρ x).purge n) (ho:∀ m,m≠n→os' m=(os m).map (AO.purge n)) {e:Eff} (he:eff P d op ρ' os'=some e) (hgood:∀ y,e=.pure y→y.clean n=true) :
  (∃ y y',e=.pure y∧y=y'.purge n∧eff P d op ρ os=some (.pure y'))∨(∃ k es len,e=.new (.arr k es) (.own d len)∧eff P d op ρ os=some e):=by
 cases op with
 | load t x=>
  have hld:∀ ρ os,eff P d (.load t x) ρ os=Eb (Aa P t).agg (Aa P t).sz os (ρ x):=fun _ _=>rfl
  rw [hld] at he ⊢
  have hx:=hρ x (by simp [Op.operands])
  have hag:(Aa P t).agg=some false:=by simpa [xop] using h
  rw [hag] at he ⊢
  rcases Ca n (ρ x) with e1 | e1
  ·have hxx:ρ' x=ρ x:=hx.trans e1
   rw [hxx] at he
   left
   cases hv:ρ x with
   | ptr m off=>
    have hmn:m≠n:=fun em=>by
     have hcl:=Wj e1 (by rw [hv]; intro h; cases h)
     rw [hv] at hcl; simp [AV.clean,em] at hcl
    rw [hv,Ei,ho m hmn] at he
    rw [Ei]
    cases hm:os m with
    | none=>rw [hm] at he; cases he
    | some o=>
     rw [hm,Option.map_some] at he
     cases o with
     | cells cs=>
      simp only [AO.purge,Hj,Ai,Bool.false_eq_true,if_false,← List.map_drop,List.head?_map] at he ⊢
      cases hc:(cs.drop off).head? with
      | none=>rw [hc] at he; cases he
      | some z=>
       rw [hc] at he
       cases he
       exact ⟨_,z,rfl,rfl,rfl⟩
     | arr k es=>cases he
     | obj X=>cases he
     | it k X=>(simp only [AO.purge] at he; split at he <;> cases he)
     | loop k tm=>cases he
   | eptr m k i off=>
    have hmn:m≠n:=fun em=>by
     have hcl:=Wj e1 (by rw [hv]; intro h; cases h)
     rw [hv] at hcl; simp [AV.clean,em] at hcl
    rw [hv,E0,ho m hmn] at he
    rw [E0]
    cases hm:os m with
    | none=>rw [hm] at he; cases he
    | some o=>
     rw [hm,Option.map_some] at he
     cases o with
     | cells cs=>cases he
     | arr k es=>
      simp only [AO.purge] at he
      simp only [Vy] at he ⊢
      split at he
      ·rename_i hcnd
       rw [if_pos hcnd]
       simp only [Ai,Bool.false_eq_true,if_false] at he ⊢
       rw [List.head?_map] at he ⊢
       cases hc:((es.getD i []).drop off).head? with
       | none=>rw [hc] at he; cases he
       | some z=>rw [hc] at he; cases he; exact ⟨_,.p z,rfl,rfl,rfl⟩
      ·cases he
     | obj X=>cases he
     | it k X=>(simp only [AO.purge] at he; split at he <;> cases he)
     | loop k tm=>cases he
   | p z=>
    cases z with
    | ro cs=>
     rw [hv,H1] at he
     rw [H1]
     simp only [Ai,Bool.false_eq_true,if_false,List.head?_map] at he ⊢
     cases hc:cs.head? with
     | none=>rw [hc] at he; cases he
     | some z=>rw [hc] at he; cases he; exact ⟨_,.p z,rfl,rfl,rfl⟩
    | val v=>rw [hv] at he; cases he
    | sl es=>rw [hv] at he; cases he
   | _=>rw [hv] at he; cases he
  ·rw [hx,e1] at he; cases he
 | fieldAddr t x f=>
  have hx:=hρ x (by simp [Op.operands])
  left
  rcases Ca n (ρ x) with e1 | e1
  ·have hxx:ρ' x=ρ x:=hx.trans e1
   simp only [eff,hxx] at he ⊢
   split at he
   ·split at he
    ·split at he
     ·cases he
     ·rename_i hz
      rw [if_neg hz]
      split at he
      ·rename_i m off hv
       cases he
       exact ⟨_,_,rfl,(if_pos (hgood _ rfl)).symm,rfl⟩
      ·rename_i m k i off hv
       cases he
       exact ⟨_,_,rfl,(if_pos (hgood _ rfl)).symm,rfl⟩
      ·cases he
       exact ⟨_,_,rfl,rfl,rfl⟩
      ·cases he
    ·cases he
   ·cases he
  ·simp only [eff,hx,e1] at he
   split at he
   ·split at he
    ·split at he <;> cases he
    ·cases he
   ·cases he
 | build t parts=>
  left
  have key:∀ p ∈ parts.toList,ρ' p.2=(ρ p.2).purge n:=fun p hp=>hρ p.2 (by simp only [Op.operands]; exact List.mem_map.2 ⟨p,hp,rfl⟩)
  simp only [eff] at he ⊢
  split at he
  ·rename_i hz
   rw [if_pos hz]
   split at he
   ·split at he
    ·cases he
    ·rename_i hb
     rw [if_neg hb]
     obtain ⟨cs,h1,rfl⟩:=Option.map_eq_some_iff.1 he
     have hs:=Pv key (Lp h1)
     rw [hs] at h1
     exact ⟨_,.agg cs,rfl,(if_pos (hgood _ rfl)).symm,by rw [h1]; rfl⟩
   ·split at he
    ·cases he
    ·rename_i hb
     rw [if_neg hb]
     obtain ⟨cs,h1,rfl⟩:=Option.map_eq_some_iff.1 he
     have hs:=Pv key (Lp h1)
     rw [hs] at h1
     exact ⟨_,.agg cs,rfl,(if_pos (hgood _ rfl)).symm,by rw [h1]; rfl⟩
   ·cases he
  ·cases he
 | buildSlice t len parts=>
  right
  have key:∀ p ∈ parts.toList,ρ' p.2=(ρ p.2).purge n:=fun p hp=>hρ p.2 (by simp only [Op.operands]; exact List.mem_map.2 ⟨p,hp,rfl⟩)
  simp only [eff] at he ⊢
  split at he
  ·split at he
   ·rename_i es h1
    have hs:=Pv key (Q1 h1)
    rw [hs] at h1
    rw [h1]
    dsimp only
    split at he
    ·rename_i hc
     rw [if_pos hc]
     cases he
     exact ⟨_,_,_,rfl,rfl⟩
    ·cases he
   ·cases he
  ·cases he
 | indexAddr t x i=>
  left
  have hx:=hρ x (by simp [Op.operands])
  have hi:=hρ i (by simp [Op.operands])
  have hii:ρ' i=ρ i∨ρ' i=.undef:=by
   rcases Ca n (ρ i) with e1 | e1
   ·exact .inl (hi.trans e1)
   ·exact .inr (hi.trans e1)
  have hxx:ρ' x=ρ x∨ρ' x=.undef:=by
   rcases Ca n (ρ x) with e1 | e1
   ·exact .inl (hx.trans e1)
   ·exact .inr (hx.trans e1)
  rcases hii with hii | hii
  ·rcases hxx with hxx | hxx
   ·have hcl:ρ x≠.undef→(ρ x).clean n=true:=fun hu=>Wj (hx.symm.trans hxx) hu
    simp only [eff,hii,hxx] at he ⊢
    split at he
    ·split at he
     ·split at he
      ·rename_i hc
       rw [if_pos hc]; cases he
       exact ⟨_,_,rfl,rfl,rfl⟩
      ·cases he
     ·rename_i m len hv
      have hcl:=hcl (by rw [hv]; intro h; cases h)
      rw [hv] at hcl
      have hmn:m≠n:=fun em=>by simp [AV.clean,em] at hcl
      rw [ho m hmn] at he
      cases hm:os m with
      | none=>rw [hm] at he; cases he
      | some o=>
       rw [hm] at he
       cases o with
       | arr k es=>
        simp only [Option.map_some,AO.purge] at he ⊢
        split at he
        ·rename_i hc
         rw [if_pos hc]; cases he
         exact ⟨_,_,rfl,(if_pos (hgood _ rfl)).symm,rfl⟩
        ·cases he
       | cells cs=>cases he
       | obj X=>cases he
       | it k X=>(by_cases hkn:k=n <;> simp [AO.purge,hkn] at he)
       | loop k tm=>cases he
     ·rename_i m off k len hv
      split at he
      ·rename_i hc
       rw [if_pos hc]; cases he
       exact ⟨_,_,rfl,(if_pos (hgood _ rfl)).symm,rfl⟩
      ·cases he
     ·cases he
    ·split at he
     ·rename_i m off hv
      split at he
      ·rename_i hc
       rw [if_pos hc]; cases he
       exact ⟨_,_,rfl,(if_pos (hgood _ rfl)).symm,rfl⟩
      ·cases he
     ·split at he
      ·rename_i hc
       rw [if_pos hc]; cases he
       exact ⟨_,_,rfl,rfl,rfl⟩
      ·cases he
     ·cases he
    ·cases he
   ·simp only [eff,hxx] at he
    split at he <;> first | cases he | (split at he <;> cases he)
  ·simp only [eff,hii] at he
   split at he <;> first | contradiction | (cases he; done)
 | _=>simp [xop] at h
theorem Api {x:AV} (h:∀ m,x.clean m=false→os' m=os m):C5 os' x=C5 os x:=by
 cases x with
 | own m len=>simp only [C5]; rw [h m (by simp [AV.clean])]
 | csl m off k len=>simp only [C5]; rw [h m (by simp [AV.clean])]
 | _=>rfl
theorem Ak7 (h:Jl op=true) (ho:∀ x ∈ op.operands.toList,∀ m,(ρ x).clean m=false→os' m=os m):eff P d op ρ os'=eff P d op ρ os:=by
 unfold Jl at h
 split at h
 ·rename_i az ts
  have hm:∀ x ∈ az.toList,∀ m,(ρ x).clean m=false→os' m=os m:=fun x hx=>ho x (by simp [Op.operands,Call.operands]; simpa using hx)
  simp only [eff]
  cases hts:ts.toList with
  | nil=>rfl
  | cons t r=>cases r with
   | nil=>rfl
   | cons t' r=>cases r with
    | cons _ _=>rfl
    | nil=>cases hargs:az.toList with
     | nil=>rfl
     | cons x l=>cases l with
      | nil=>rfl
      | cons y l=>cases l with
       | cons _ _=>rfl
       | nil=>
        rw [hargs] at hm
        have h1:=hm x (by simp)
        have h2:=Api (hm y (by simp))
        simp only [h2]
        by_cases hz:∃ n len,ρ x=.own n len
        ·obtain ⟨n,len,e⟩:=hz
         rw [e] at h1 ⊢
         have h3:=h1 n (by simp [AV.clean])
         simp only [h3]
        ·split
         ·split
          ·split
           ·split
            ·rename_i e; simp only []
            ·rename_i n len e; exact absurd ⟨n,len,e⟩ hz
            ·rfl
           ·rfl
          ·rfl
         ·rfl
 ·cases h
def Ahg (r:RB) (s:St) (i:Oper):Prop:=∀ d,i.dst=some d→s.o (r.b+d)=none
def Ti (r:RB) (o:Oper) (s s1:St):Prop:=∀ m,s.o m=none→(∀ d,o.dst=some d→m≠r.b+d)→s1.o m=none
def Gs (v:List Nat) (o:Oper):Bool:=o.guard.isNone&&!isM o.op&&!isV v o.op&&!Cd o.op&&!De o.op&&(qop o.op||Jl o.op||Rb o.op)
theorem Pm {v:List Nat} {o:Oper} (h:Gs v o=true):o.guard=none∧isM o.op=false∧isV v o.op=false∧Cd o.op=false∧De o.op=false∧(qop o.op=true∨Jl o.op=true∨Rb o.op=true):=by
 simp only [Gs,Bool.and_eq_true,Bool.or_eq_true,Bool.not_eq_true',Option.isNone_iff_eq_none] at h
 obtain ⟨⟨⟨⟨⟨h1,h2⟩,h3⟩,h4⟩,h5⟩,h6⟩:=h
 exact ⟨h1,h2,h3,h4,h5,h6.elim (fun h=>h.elim .inl fun h=>.inr (.inl h)) fun h=>.inr (.inr h)⟩
theorem U3 {o:Oper} (h:Gs r.v o=true) (hc:s.closed) {e:Eff} {s1:St} (he:eff P (r.b+o.dst.getD 0) o.op (ev s.t) s.o=some e) (hs:e.apply r.b o.dst s=some s1):s1.closed∧Ti r o s s1:=by
 obtain ⟨h1,h2,h3,h4,h5,h6⟩:=Pm h
 rcases h6 with h6 | h6 | h6
 ·have hg:=Mp (P:=P) (d:=r.b+o.dst.getD 0) h6 h4 hc e he
  cases e with
  | pure x=>
   cases hs
   exact ⟨Db hc hg,fun m hm _=>by cases o.dst <;> exact hm⟩
  | new a x=>
   obtain ⟨d,hd,hn,rfl⟩:=Dq hs
   refine ⟨Dv hc hg.1 (fun m hm=>by have:=hg.2 m hm; rw [hd] at this; exact this),fun m hm hne=>?_⟩
   show upd s.o (r.b+d) _ m=none
   rw [Aq (hne d hd)]; exact hm
  | upd n a=>exact hg.elim
  | app n a x=>exact hg.elim
 ·rcases H3 h6 he with ⟨k,es,len,rfl⟩ | ⟨n,k,es,len,rfl⟩
  ·obtain ⟨d,hd,_,rfl⟩:=Dq hs
   refine ⟨Dv hc (AO.lives_arr _ _ _) (fun m hm=>by rw [hd] at hm; exact Eh m hm),fun m hm hne=>?_⟩
   show upd s.o (r.b+d) _ m=none
   rw [Aq (hne d hd)]; exact hm
  ·obtain ⟨d,hd,_,rfl⟩:=Fl hs
   refine ⟨Dv (E8 hc n) (AO.lives_arr _ _ _) (fun m hm=>by rw [hd] at hm; exact Eh m hm),fun m hm hne=>?_⟩
   show upd (s.purge n).o (r.b+d) _ m=none
   rw [Aq (hne d hd)]
   by_cases e:m=n
   ·subst e; exact St.purge_o_same ..
   ·rw [St.purge_o_other s e,hm]; rfl
 ·obtain ⟨n,ob,rfl,h5,h7⟩:=Ku h6 hc he
  cases hs
  refine ⟨Db (Jt hc h5) (AV.lives_undef _),fun m hm _=>?_⟩
  have:((s.setO n ob).put o.dst .undef).o m=upd s.o n (some ob) m:=by cases o.dst <;> rfl
  rw [this,Aq (fun e=>by subst e; rw [hm] at h7; cases h7)]
  exact hm
def Aai:Op→Bool
 | .load ..=>true
 | _=>false
theorem X9 {d:Nat} {op:Op} {ρ:Operand→AV} {os:Nat→Option AO} {e:Eff} (h:Aai op=true) (he:eff P d op ρ os=some e):∃ y,e=.pure y:=by
 cases op <;> first | (simp [Aai] at h; done) | skip
 rename_i t x
 have he:Eb (Aa P t).agg (Aa P t).sz os (ρ x)=some e:=he
 unfold Eb at he
 split at he
 ·cases he
 ·split at he
  ·split at he
   ·obtain ⟨y,_,rfl⟩:=Option.map_eq_some_iff.1 he; exact ⟨y,rfl⟩
   ·cases he
  ·split at he
   ·split at he
    ·obtain ⟨y,_,rfl⟩:=Option.map_eq_some_iff.1 he; exact ⟨y,rfl⟩
    ·cases he
   ·cases he
  ·obtain ⟨y,_,rfl⟩:=Option.map_eq_some_iff.1 he; exact ⟨y,rfl⟩
  ·cases he
theorem Uw {j i:Oper} {l:List Oper} {K:St→Prop} (hj:Jl j.op=true) (hjg:j.guard=none) (hi:xop P i.op=true) (hig:i.guard=none) (hap:j.apart all.toArray i=true) (hc:s.closed) (hfr:Aai i.op=false→Ahg r s i) (hE:EL P r N all (j :: i :: l) s K):EL P r N all (i :: j :: l) s K:=by
 obtain ⟨f1,f2,f3⟩:=Gm hj
 obtain ⟨q1,q2,q3,q4⟩:=Bbg hi
 obtain ⟨a1,a2,a3⟩:=Oper.apart_spec hap
 rw [Bj hjg f1 f2 f3] at hE
 obtain ⟨h1,e,s1,he,hs1,h2⟩:=hE
 rw [Bj hig q2 q3 q4] at h2
 obtain ⟨h3,e2,s2,he2,hs2,h4⟩:=h2
 have hlook:∀ x ∈ i.op.operands.toList,∀ d,j.dst=some d→x≠.tmp d:=fun x hx d hd hxd=>a1 d hd (Di hx hxd)
 have hlook2:∀ x ∈ j.op.operands.toList,∀ d,i.dst=some d→x≠.tmp d:=fun x hx d hd hxd=>a3 d hd (Di hx hxd)
 have done:∀ s' e2',eff P (r.b+i.dst.getD 0) i.op (ev s.t) s.o=some e2'→e2'.apply r.b i.dst s=some s'→eff P (r.b+j.dst.getD 0) j.op (ev s'.t) s'.o=some e→e.apply r.b j.dst s'=some s2→EL P r N all (i :: j :: l) s K:=fun s' e2' g1 g2 g3 g4=>by
  rw [Bj hig q2 q3 q4]
  refine ⟨h3,e2',s',g1,g2,?_⟩
  rw [Bj hjg f1 f2 f3]
  exact ⟨h1,e,s2,g3,g4,h4⟩
 have live:∀ x:Operand,∀ m,(ev s.t x).clean m=false→(s.o m).isSome=true:=fun x m hm=>Km hc x m hm
 rcases H3 hj he with ⟨k,es,len,rfl⟩ | ⟨n,k,es,len,rfl⟩
 ·obtain ⟨d,hd,hn,rfl⟩:=Dq hs1
  have he0:eff P (r.b+i.dst.getD 0) i.op (ev s.t) s.o=some e2:=by
   rw [← he2]
   refine (Kv q1 q2 ⟨fun x hx=>Py (hlook x hx d hd),fun x hx m hm=>?_⟩).symm
   show upd s.o (r.b+d) _ m=s.o m
   refine Aq fun em=>?_
   have:=live x m hm
   rw [em,hn] at this; cases this
  have hg:=Mp (P:=P) (d:=r.b+i.dst.getD 0) q1 q2 hc e2 he0
  cases e2 with
  | pure y=>
   have hs2:s2=((s.setO (r.b+d) (.arr k es)).put (some d) (.own (r.b+j.dst.getD 0) len)).put i.dst y:=by cases hs2; rfl
   have ho:(s.put i.dst y).o=s.o:=by cases i.dst <;> rfl
   refine done (s.put i.dst y) (.pure y) he0 rfl ?_ ?_
   ·rw [ho,← he]; exact Gp hj fun x hx=>Lw (hlook2 x hx)
   ·rw [hs2,hd]
    have:((s.put i.dst y).o (r.b+d)).isNone=true:=by rw [ho,hn]; rfl
    simp only [Eff.apply,this,if_true,Option.some.injEq]
    cases hid:i.dst with
    | none=>rfl
    | some d2=>
     have hne:d2≠d:=fun e=>a2 d hd (by rw [hid,e])
     simp only [St.put,St.setO,Dm hne]
  | new a x=>
   obtain ⟨d2,hd2,hn2,rfl⟩:=Dq hs2
   have hne:d2≠d:=fun e=>a2 d hd (by rw [hd2,e])
   have hldf:Aai i.op=false:=by
    cases hl:Aai i.op with
    | false=>rfl
    | true=>obtain ⟨y,hy⟩:=X9 hl he0; cases hy
   have hfree:=hfr hldf d2 hd2
   refine done ((s.setO (r.b+d2) a).put (some d2) x) (.new a x) he0 (by rw [hd2]; simp [Eff.apply,hfree]) ?_ ?_
   ·rw [← he]
    have e1:eff P (r.b+j.dst.getD 0) j.op (ev ((s.setO (r.b+d2) a).put (some d2) x).t) ((s.setO (r.b+d2) a).put (some d2) x).o=eff P (r.b+j.dst.getD 0) j.op (ev s.t) ((s.setO (r.b+d2) a).put (some d2) x).o:=Gp hj fun x hx=>Py (hlook2 x hx d2 hd2)
    rw [e1]
    refine Ak7 hj fun x hx m hm=>?_
    show upd s.o (r.b+d2) _ m=s.o m
    refine Aq fun em=>?_
    have:=live x m hm
    rw [em,hfree] at this; cases this
   ·rw [hd]
    have:(((s.setO (r.b+d2) a).put (some d2) x).o (r.b+d)).isNone=true:=by
     show (upd s.o (r.b+d2) _ (r.b+d)).isNone=true
     rw [Aq (by omega),hn]; rfl
    simp only [Eff.apply,this,if_true,Option.some.injEq]
    simp only [St.put,St.setO]
    rw [Dm (f:=s.t) hne,Dm (f:=s.o) (show r.b+d2≠r.b+d by omega)]
  | upd n a=>exact hg.elim
  | app n a x=>exact hg.elim
 ·obtain ⟨d,hd,hn,rfl⟩:=Fl hs1
  have hcp:=E8 hc n
  have he0:eff P (r.b+i.dst.getD 0) i.op (ev (s.purge n).t) (s.purge n).o=some e2:=by
   rw [← he2]
   refine (Kv q1 q2 ⟨fun x hx=>Py (hlook x hx d hd),fun x hx m hm=>?_⟩).symm
   show upd (s.purge n).o (r.b+d) _ m=(s.purge n).o m
   refine Aq fun em=>?_
   have:=Km hcp x m hm
   rw [em,hn] at this; cases this
  have hg:=Mp (P:=P) (d:=r.b+i.dst.getD 0) q1 q2 hcp e2 he0
  have hgood:∀ y,e2=.pure y→y.clean n=true:=fun y hy=>by
   subst hy
   cases hcl:y.clean n with
   | true=>rfl
   | false=>
    have:=hg n hcl
    rw [St.purge_o_same] at this; cases this
  rcases Akt hi (fun x _=>Ado x) (fun m hm=>St.purge_o_other s hm) he0 hgood with ⟨y,y',rfl,hy,he'⟩ | ⟨k2,es2,len2,rfl,he'⟩
  ·have hs2:s2=(((s.purge n).setO (r.b+d) (.arr k es)).put (some d) (.own (r.b+j.dst.getD 0) len)).put i.dst y:=by cases hs2; rfl
   have ho:(s.put i.dst y').o=s.o:=by cases i.dst <;> rfl
   refine done (s.put i.dst y') (.pure y') he' rfl ?_ ?_
   ·rw [ho,← he]; exact Gp hj fun x hx=>Lw (hlook2 x hx)
   ·rw [hs2,hd]
    have hp:((s.put i.dst y').purge n).o=(s.purge n).o:=by cases i.dst <;> rfl
    have:(((s.put i.dst y').purge n).o (r.b+d)).isNone=true:=by rw [hp,hn]; rfl
    simp only [Eff.apply,this,if_true,Option.some.injEq]
    cases hid:i.dst with
    | none=>rfl
    | some d2=>
     have hne:d2≠d:=fun e=>a2 d hd (by rw [hid,e])
     simp only [St.put,St.setO]
     congr 1
     show upd (fun i=>(upd s.t d2 y' i).purge n) d _=upd (upd (fun i=>(s.t i).purge n) d _) d2 y
     rw [Dm (Ne.symm hne)]
     congr 1
     funext q
     unfold upd
     by_cases hq:q=d2
     ·subst hq; simp [hy]
     ·simp [hq]
  ·obtain ⟨d2,hd2,hn2,rfl⟩:=Dq hs2
   have hne:d2≠d:=fun e=>a2 d hd (by rw [hd2,e])
   have hldf:Aai i.op=false:=by
    cases hl:Aai i.op with
    | false=>rfl
    | true=>obtain ⟨y,hy⟩:=X9 hl he0; cases hy
   have hfree:=hfr hldf d2 hd2
   have hown:(AV.own (r.b+i.dst.getD 0) len2).purge n=.own (r.b+i.dst.getD 0) len2:=by
    refine if_pos ?_
    obtain ⟨k3,es3,h3⟩:=Ag0 hj he
    simp only [AV.clean,hd2,Option.getD_some,bne_iff_ne,ne_eq]
    intro em
    rw [← em,hfree] at h3; cases h3
   have hnn:r.b+d2≠n:=fun em=>by
    obtain ⟨k3,es3,h3⟩:=Ag0 hj he
    rw [← em,hfree] at h3; cases h3
   refine done ((s.setO (r.b+d2) (.arr k2 es2)).put (some d2) (.own (r.b+i.dst.getD 0) len2)) _ he' (by rw [hd2]; simp [Eff.apply,hfree]) ?_ ?_
   ·rw [← he]
    have e1:eff P (r.b+j.dst.getD 0) j.op (ev ((s.setO (r.b+d2) (.arr k2 es2)).put (some d2) (.own (r.b+i.dst.getD 0) len2)).t) ((s.setO (r.b+d2) (.arr k2 es2)).put (some d2) (.own (r.b+i.dst.getD 0) len2)).o=eff P (r.b+j.dst.getD 0) j.op (ev s.t) ((s.setO (r.b+d2) (.arr k2 es2)).put (some d2) (.own (r.b+i.dst.getD 0) len2)).o:=Gp hj fun x hx=>Py (hlook2 x hx d2 hd2)
    rw [e1]
    refine Ak7 hj fun x hx m hm=>?_
    show upd s.o (r.b+d2) _ m=s.o m
    refine Aq fun em=>?_
    have:=live x m hm
    rw [em,hfree] at this; cases this
   ·rw [hd]
    have hpo:(((s.setO (r.b+d2) (.arr k2 es2)).put (some d2) (.own (r.b+i.dst.getD 0) len2)).purge n).o=upd (s.purge n).o (r.b+d2) (some (.arr k2 es2)):=by
     funext m
     show (if m=n then none else (upd s.o (r.b+d2) (some (.arr k2 es2)) m).map (AO.purge n))=_
     by_cases em:m=r.b+d2
     ·subst em
      rw [if_neg hnn]
      unfold upd; simp [AO.purge]
     ·rw [Aq em,Aq em]; rfl
    have hpt:(((s.setO (r.b+d2) (.arr k2 es2)).put (some d2) (.own (r.b+i.dst.getD 0) len2)).purge n).t=upd (s.purge n).t d2 (.own (r.b+i.dst.getD 0) len2):=by
     funext q
     show (upd s.t d2 (.own (r.b+i.dst.getD 0) len2) q).purge n=upd (fun i=>(s.t i).purge n) d2 _ q
     unfold upd
     by_cases hq:q=d2
     ·subst hq; simp [hown]
     ·simp [hq]
    have:((((s.setO (r.b+d2) (.arr k2 es2)).put (some d2) (.own (r.b+i.dst.getD 0) len2)).purge n).o (r.b+d)).isNone=true:=by
     rw [hpo,Aq (by omega),hn]; rfl
    simp only [Eff.apply,this,if_true,Option.some.injEq]
    simp only [St.put,St.setO] at hpo hpt ⊢
    rw [hpo,hpt]
    rw [Dm (f:=(s.purge n).t) hne,Dm (f:=(s.purge n).o) (show r.b+d2≠r.b+d by omega)]
end
section
variable {P:Program} {r:RB} {N:Nat} {all:List Oper} {s:St}
theorem Amy {o:Oper} (h:Gs r.v o=true) {l l':List Oper} {K:St→Prop} (hc:s.closed) (hl:∀ s1:St,s1.closed→Ti r o s s1→EL P r N all l s1 K→EL P r N all l' s1 K) (hE:EL P r N all (o :: l) s K):EL P r N all (o :: l') s K:=by
 obtain ⟨h1,h2,h3,h4,h5,h6⟩:=Pm h
 rw [Bj h1 h4 h5 h2] at hE ⊢
 obtain ⟨g1,e,s1,g2,g3,g4⟩:=hE
 obtain ⟨k1,k2⟩:=U3 h hc g2 g3
 exact ⟨g1,e,s1,g2,g3,hl s1 k1 k2 g4⟩
def Aeh (P:Program) (ops:List Oper) (oj oi:Oper):Bool:=Jl oj.op&&oj.guard.isNone&&xop P oi.op&&oi.guard.isNone&&oj.apart ops.toArray oi
theorem Ag6 {D:(Nat→AV)→Prop} {oi:Oper} {post:List Oper} {K:St→Prop} (hK:∀ s':St,K s'→D s'.t):∀ {pre:List Oper} {s:St},s.closed→(xop P oi.op=true→Ahg r s oi)→(∀ p1 oj p2,pre=p1++oj :: p2→Gs r.v oj=true∧(∀ d,oi.dst=some d→oj.dst≠some d)∧(H4 P r N all D oj oi (p2++post)∨Aeh P all oj oi=true)) →
  EL P r N all (pre++oi :: post) s K→EL P r N all (oi :: (pre++post)) s K
 | [],_,_,_,_,h=>h
 | oj :: pre,s,hc,hf,hp,h=>by
  obtain ⟨hj1,hj2,hj3⟩:=hp [] oj pre rfl
  have h1:=Amy (l':=oi :: (pre++post)) hj1 hc (fun s1 hc1 hn h1=>Ag6 hK hc1 (fun hx d hd=>hn _ (hf hx d hd) (fun d2 hd2 e=>by
   have e:d=d2:=Nat.add_left_cancel e
   subst e
   exact hj2 d hd hd2)) (fun p1 o2 p2 e=>hp (oj :: p1) o2 p2 (by rw [e]; rfl)) h1) h
  rcases hj3 with hj3 | hj3
  ·exact hj3 s K hc hK h1
  ·simp only [Aeh,Bool.and_eq_true,Option.isNone_iff_eq_none] at hj3
   obtain ⟨⟨⟨⟨k1,k2⟩,k3⟩,k4⟩,k5⟩:=hj3
   exact Uw k1 k2 k3 k4 k5 hc (fun _=>hf k3) h1
end
section
variable {P:Program} {r:RB} {N:Nat} {ops:List Oper}
theorem Amg {o:Oper} {l:List Oper} {s:St} {K:St→Prop} {i:Nat} {B:Nat} {S:Nat→Prop} {θ:Nat→Loc} {M:Nat→Prop} {w:World} {a:Act} {Q:Exit→Act→World→Prop}
  (hp:Gs r.v o=true) (hi:ops[i]?=some o) (hs:Ar N B S θ M w s a) (h:EL P r N ops (o :: l) s K) :
  wpOpIn (Wd r.rd) 0 P ops.toArray Q i (fun a' w'=>∃ s1,(EL P r N ops l s1 K∧Ti r o s s1)∧Fin r N B S θ M w a s1 a' w') a w:=by
 obtain ⟨h1,h2,h3,h4,h5,h6⟩:=Pm hp
 rw [Bj h1 h4 h5 h2] at h
 obtain ⟨g1,e,s1,g2,g3,g4⟩:=h
 obtain ⟨_,k2⟩:=U3 hp hs.cl g2 g3
 have hi':ops.toArray[i]?=some o:=by simpa using hi
 unfold wpOpIn
 simp only [hi']
 have hw:Region.wanted o (yielded ops.toArray a.tmps)=true:=by unfold Region.wanted; rw [h1]
 rw [if_pos hw]
 have hEO:EO P r N o s (fun s'=>EL P r N ops l s' K∧Ti r o s s'):=by
  unfold EO
  rw [h2,h3,h4,h5]
  simp only [Bool.false_eq_true,if_false,true_and]
  refine ⟨g1,?_⟩
  unfold EA
  simp only [g2,g3]
  exact ⟨g4,k2⟩
 exact Fg hEO B S θ M w a Q hs
theorem Akb {D:(Nat→AV)→Prop} {b:Nat→Nat} (hb:Sw ops b) (hpl:∀ (i:Nat) (o:Oper),ops[i]?=some o→Gs r.v o=true)
  (hdist:∀ (i j:Nat) (oi oj:Oper),i≠j→ops[i]?=some oi→ops[j]?=some oj→∀ d,oi.dst=some d→oj.dst≠some d)
  (hsw:∀ (i j:Nat) (oi oj:Oper) (rest:List Nat),j < i→ops[i]?=some oi→ops[j]?=some oj→(b i).testBit j=false→(∀ k ∈ rest,j < k∧k≠i∧(k < i→(b i).testBit k=false))→H4 P r N ops D oj oi (rest.filterMap (ops[·]?))∨Aeh P ops oj oi=true)
  {K:St→Prop} (hK:∀ s':St,K s'→D s'.t) {Q:Exit→Act→World→Prop} :
  ∀ (fuel:Nat) (listed:Array Bool) (s:St) (B:Nat) (S:Nat→Prop) (θ:Nat→Loc) (M:Nat→Prop) (w:World) (a:Act),Ar N B S θ M w s a→listed.size=ops.length→Nq ops listed→(∀ i ∈ Bt ops.length listed,∀ o,ops[i]?=some o→xop P o.op=true→Ahg r s o)→(Bt ops.length listed).length≤fuel →
   EL P r N ops ((Bt ops.length listed).filterMap (ops[·]?)) s K→(∀ s' a' w',K s'→Fin r N B S θ M w a s' a' w'→Q .normal a' w')→wpAnyIn (Wd r.rd) 0 P .any ops.toArray Q fuel listed a w:=by
 intro fuel
 have hready:∀ {listed:Array Bool} {x:Nat},x ∈ Region.ready .any ops.toArray listed→x ∈ Bt ops.length listed:=fun h=>((Cr rfl).1 h).1
 induction fuel with
 | zero=>
  intro listed s B S θ M w a hs hsz hcl hfr hf hE hQ
  have hnil:Bt ops.length listed=[]:=List.length_eq_zero_iff.1 (by omega)
  refine ⟨List.eq_nil_iff_forall_not_mem.2 fun x hx=>?_,?_⟩
  ·have:=hready hx
   rw [hnil] at this; cases this
  ·rw [hnil] at hE
   exact hQ s a w hE ⟨G6.refl hs,rfl⟩
 | succ fuel ih=>
  intro listed s B S θ M w a hs hsz hcl hfr hf hE hQ
  refine ⟨fun hr=>?_,fun i hi=>?_⟩
  ·have hnil:Bt ops.length listed=[]:=by
    cases hrem:Bt ops.length listed with
    | nil=>rfl
    | cons x l=>
     exfalso
     have hx:x ∈ Bt ops.length listed:=by rw [hrem]; simp
     have hsort:(Bt ops.length listed).Pairwise (· < ·):=(List.pairwise_lt_range).filter _
     rw [hrem,List.pairwise_cons] at hsort
     obtain ⟨hxn,hxl⟩:=C0.1 hx
     have:x ∈ Region.ready .any ops.toArray listed:=(Cr rfl).2 ⟨hx,ops[x],by simp [hxn],fun e he hbe=>by
      have hlt:=hb.lt x ops[x] (by simp [hxn]) e he hbe
      cases hl:listed.getD e.on false with
      | true=>rfl
      | false=>
       exfalso
       have hen:e.on < ops.length:=Nat.lt_trans hlt hxn
       have:e.on ∈ Bt ops.length listed:=C0.2 ⟨hen,by
        rw [Array.getD_eq_getD_getElem?] at hl ⊢
        have hsz':e.on < listed.size:=by omega
        simp only [Array.getElem?_eq_getElem hsz',Option.getD_some] at hl ⊢
        exact hl⟩
       rw [hrem] at this
       rcases List.mem_cons.1 this with h | h
       ·omega
       ·have:=hsort.1 _ h; omega⟩
     rw [hr] at this; cases this
   rw [hnil] at hE
   exact hQ s a w hE ⟨G6.refl hs,rfl⟩
  ·obtain ⟨hrem,o,ho,hafter⟩:=(Cr rfl).1 hi
   obtain ⟨pre,post,he,hpre,hset⟩:=Jj hsz hrem
   have hsort:(pre++i :: post).Pairwise (· < ·):=by rw [← he]; exact (List.pairwise_lt_range).filter _
   have hnl:∀ k ∈ pre++i :: post,listed.getD k true=false:=fun k hk=>(C0.1 (show k ∈ Bt ops.length listed by rw [he]; exact hk)).2
   have hne:∀ k ∈ pre++post,k≠i:=fun k hk e=>by
    subst e
    have h4:=List.pairwise_append.1 hsort
    rcases List.mem_append.1 hk with h | h
    ·have:=h4.2.2 k h k (by simp); omega
    ·have:=(List.pairwise_cons.1 h4.2.1).1 k h; omega
   have hfree:∀ k ∈ pre++post,k < i→(b i).testBit k=false:=fun k hk hki=>by
    cases ht:(b i).testBit k with
    | false=>rfl
    | true=>
     have h1:=F2 hb hcl i o ho hafter hki ht
     have h2:=hnl k (by
      rcases List.mem_append.1 hk with h | h
      ·simp [h]
      ·simp [h])
     rw [Qk h2] at h1; cases h1
   rw [he,List.filterMap_append,List.filterMap_cons] at hE
   simp only [ho] at hE
   have hE':=Ag6 hK hs.cl (fun hx=>hfr i hrem o ho hx) (fun p1 oj p2 hp=>by
    obtain ⟨l1,j,l2,e1,e2,e3⟩:=D8 hp
    have hjp:j ∈ pre:=by rw [e1]; simp
    refine ⟨hpl j oj e2,hdist i j o oj (by have:=hpre j hjp; omega) ho e2,?_⟩
    have:=hsw i j o oj (l2++post) (hpre j hjp) ho e2 (hfree j (by simp [hjp]) (hpre j hjp)) (fun k hk=>by
     rw [e1,List.append_assoc,List.pairwise_append] at hsort
     have h3:=(List.pairwise_cons.1 hsort.2.1).1
     have hk':k ∈ l2++i :: post:=by
      rcases List.mem_append.1 hk with h | h
      ·simp [h]
      ·simp [h]
     refine ⟨h3 k hk',hne k (by
      rcases List.mem_append.1 hk with h | h
      ·rw [e1]; simp [h]
      ·simp [h]),hfree k (by
      rcases List.mem_append.1 hk with h | h
      ·rw [e1]; simp [h]
      ·simp [h])⟩)
    rw [List.filterMap_append,e3] at this
    exact this) hE
   refine wpOpIn_mono ?_ (Amg (hpl i o ho) ho hs hE')
   rintro a' w' ⟨s1,⟨hE1,hN1⟩,hF⟩
   obtain ⟨θ',M',hs',hcomp⟩:=hF.comp
   refine ih _ s1 B S θ' M' w' a' hs' (by simpa using hsz) ?_ ?_ ?_ ?_ (fun s' a'' w'' hK hF'=>hQ s' a'' w'' hK (hcomp _ _ _ hF'))
   ·intro k ok hk hl e hek hbe
    have hmono:∀ m,listed.getD m false=true→(listed.setIfInBounds i true).getD m false=true:=fun m hm=>by
     rw [Array.getD_eq_getD_getElem?] at hm ⊢
     rw [Array.getElem?_setIfInBounds]
     split
     ·split <;> simp_all
     ·exact hm
    by_cases hki:k=i
    ·subst hki
     rw [ho] at hk; cases hk
     exact hmono _ (hafter e hek hbe)
    ·have:listed.getD k false=true:=by
      rw [Array.getD_eq_getD_getElem?] at hl ⊢
      rw [Array.getElem?_setIfInBounds,if_neg (Ne.symm hki)] at hl
      exact hl
     exact hmono _ (hcl k ok hk this e hek hbe)
   ·intro k hk ok hok hx d hd
    rw [hset] at hk
    have hki:=hne k hk
    refine hN1 _ (hfr k (by rw [he]; rcases List.mem_append.1 hk with h | h <;> simp [h]) ok hok hx d hd) fun d2 hd2 e=>?_
    have e:d=d2:=Nat.add_left_cancel e
    subst e
    exact hdist k i ok o hki hok ho d hd hd2
   ·rw [hset]
    rw [he] at hf
    simp only [List.length_append,List.length_cons] at hf ⊢
    omega
   ·rw [hset,List.filterMap_append]
    exact hE1
def Ao6 (P:Program) (v q:List Nat) (ops tl:List Oper) (m:Nat) (i j:Nat) (oi oj:Oper):Option (List Cf):=match Ye P v q ops tl m i j oi oj with
 | some c=>some c
 | none=>if Aeh P ops oj oi=true then some [] else none
def Ajy (P:Program) (v q:List Nat) (ops tl:List Oper) (m i:Nat) (oi:Oper):List (Oper × Nat)→Option (List Cf)
 | []=>some []
 | (oj,j) :: r=>if m.testBit j=true then Ajy P v q ops tl m i oi r else
  match Ao6 P v q ops tl m i j oi oj,Ajy P v q ops tl m i oi r with
  | some a,some b=>some (a++b)
  | _,_=>none
def Xu (P:Program) (v q:List Nat) (ops tl:List Oper) (b:Nat→Nat):List (Oper × Nat)→Option (List Cf)
 | []=>some []
 | (oi,i) :: r=>match Ajy P v q ops tl (b i) i oi (ops.take i).zipIdx,Xu P v q ops tl b r with
  | some a,some c=>some (a++c)
  | _,_=>none
def Aak:List Oper→Bool
 | []=>true
 | o :: l=>(l.all fun p=>match o.dst,p.dst with
  | some a,some b=>a != b
  | _,_=>true)&&Aak l
def Qi (P:Program) (v q:List Nat) (ops:List Oper) (cfs:List Cf):Bool:=(ops.all (Gs v))&&(Aak ops&&Jx ops [] fun l=>Mv ops (fun i=>l.getD i 0)&&match Xu P v q ops ops (fun i=>l.getD i 0) ops.zipIdx with
 | some c=>X3 c cfs
 | none=>false)
theorem Sr:∀ {ops:List Oper},Aak ops=true→∀ (i j:Nat) (oi oj:Oper),i≠j→ops[i]?=some oi→ops[j]?=some oj→∀ d,oi.dst=some d→oj.dst≠some d
 | [],_,i,_,_,_,_,hi,_,_,_=>by simp at hi
 | o :: l,h,i,j,oi,oj,hij,hi,hj,d,hd=>by
  simp only [Aak,Bool.and_eq_true] at h
  obtain ⟨h1,h2⟩:=h
  rw [List.all_eq_true] at h1
  have key:∀ p ∈ l,∀ d,o.dst=some d→p.dst≠some d:=fun p hp d hd hp2=>by
   have:=h1 p hp
   rw [hd,hp2] at this
   simp at this
  cases i with
  | zero=>cases j with
   | zero=>exact absurd rfl hij
   | succ j=>
    simp at hi; subst hi
    simp only [List.getElem?_cons_succ] at hj
    exact key oj (List.mem_of_getElem? hj) d hd
  | succ i=>cases j with
   | zero=>
    simp at hj; subst hj
    simp only [List.getElem?_cons_succ] at hi
    exact fun h3=>key oi (List.mem_of_getElem? hi) d h3 hd
   | succ j=>
    simp only [List.getElem?_cons_succ] at hi hj
    exact Sr h2 i j oi oj (by omega) hi hj d hd
theorem Rx {P:Program} {tl:List Oper} {v q:List Nat} {m i:Nat} {oi:Oper}:∀ {l:List (Oper × Nat)} {c:List Cf},Ajy P v q ops tl m i oi l=some c→∀ p ∈ l,m.testBit p.2=false→∃ c',Ao6 P v q ops tl m i p.2 oi p.1=some c'∧∀ x ∈ c',x ∈ c
 | [],_,_,p,hp,_=>by cases hp
 | (oj,j) :: l,c,h,p,hp,ht=>by
  simp only [Ajy] at h
  split at h
  ·rename_i hj
   rcases List.mem_cons.1 hp with e | hp
   ·subst e; rw [ht] at hj; cases hj
   ·exact Rx h p hp ht
  ·split at h
   ·rename_i a b h1 h2
    cases h
    rcases List.mem_cons.1 hp with e | hp
    ·subst e; exact ⟨a,h1,fun x hx=>by simp [hx]⟩
    ·obtain ⟨c',g1,g2⟩:=Rx h2 p hp ht
     exact ⟨c',g1,fun x hx=>by simp [g2 x hx]⟩
   ·cases h
theorem Vd {P:Program} {tl:List Oper} {v q:List Nat} {b:Nat→Nat}:∀ {l:List (Oper × Nat)} {c:List Cf},Xu P v q ops tl b l=some c→∀ p ∈ l,∃ c',Ajy P v q ops tl (b p.2) p.2 p.1 (ops.take p.2).zipIdx=some c'∧∀ x ∈ c',x ∈ c
 | [],_,_,p,hp=>by cases hp
 | (oi,i) :: l,c,h,p,hp=>by
  simp only [Xu] at h
  split at h
  ·rename_i a d h1 h2
   cases h
   rcases List.mem_cons.1 hp with e | hp
   ·subst e; exact ⟨a,h1,fun x hx=>by simp [hx]⟩
   ·obtain ⟨c',g1,g2⟩:=Vd h2 p hp
    exact ⟨c',g1,fun x hx=>by simp [g2 x hx]⟩
  ·cases h
def Ax3 (P:Program) (r:RB) (s:St) (ops:List Oper):Prop:=∀ o ∈ ops,xop P o.op=true→Ahg r s o
def Pc (P:Program):List Oper→List Nat
 | []=>[]
 | o :: l=>if xop P o.op=true then (match o.dst with | some d=>d :: Pc P l | none=>Pc P l) else Pc P l
theorem Y5 {s:St}:∀ {ops:List Oper},(∀ d ∈ Pc P ops,s.o (r.b+d)=none)→Ax3 P r s ops
 | [],_,o,ho,_,_,_=>by cases ho
 | p :: l,h,o,ho,hx,d,hd=>by
  rcases List.mem_cons.1 ho with rfl | ho
  ·refine h d ?_
   simp only [Pc,hx,if_true,hd]; simp
  ·refine Y5 (ops:=l) (fun d hd=>h d ?_) o ho hx d hd
   simp only [Pc]
   split
   ·split
    ·exact List.mem_cons_of_mem _ hd
    ·exact hd
   ·exact hd
theorem Ac2 {id:Nat} {st:St} {Q:AEx→St→Prop} (cfs:List Cf) (hm:P.follows .mixedOrders=true) (hchk:Qi P r.v r.q ops cfs=true) (hfr:∀ d ∈ Pc P ops,st.o (r.b+d)=none) (h:EL P r N ops ops st (fun s=>(cfs.all fun c=>c.ok s.t)=true∧Q .normal s)):AWP P r N (.region id ops.toArray true) st Q:=by
 unfold Qi at hchk
 simp only [Bool.and_eq_true] at hchk
 obtain ⟨hpl,hds,hchk⟩:=hchk
 rw [List.all_eq_true] at hpl
 obtain ⟨l,hl⟩:=Hv hchk
 rw [Bool.and_eq_true] at hl
 obtain ⟨hl1,hl2⟩:=hl
 clear hchk
 have hrows:Xu P r.v r.q ops ops (fun i=>l.getD i 0) ops.zipIdx=some cfs:=by
  revert hl2
  cases Xu P r.v r.q ops ops (fun i=>l.getD i 0) ops.zipIdx with
  | none=>intro h; cases h
  | some c=>intro h; rw [Q7 h]
 generalize hbb:(fun i=>l.getD i 0)=bb at *
 clear hl2
 intro B S θ M w a hs
 refine wpIn_region_any hm ?_
 have hrem:Bt ops.length (Array.replicate ops.length false)=List.range ops.length:=Hw _
 refine Akb (D:=fun f=>∀ x ∈ cfs,x.ok f=true) (K:=fun s=>(cfs.all fun c=>c.ok s.t)=true∧Q .normal s) (Ft hl1) (fun i o ho=>hpl o (List.mem_of_getElem? ho)) (Sr hds) (fun i j oi oj rest hji hi hj hbit hrest=>?_) (fun s' hs'=>List.all_eq_true.1 hs'.1) ops.toArray.size (Array.replicate ops.toArray.size false) st B S θ M _ a (hs.drawn _) (by simp) (fun k o hk hL=>?_) (fun i _ o ho=>Y5 hfr o (List.mem_of_getElem? ho)) ?_ ?_ (fun s' a' w' hk hF=>⟨.normal,s',rfl,hk.2,?_⟩)
 ·obtain ⟨c1,g1,g2⟩:=Vd hrows (oi,i) (List.mem_zipIdx_iff_getElem?.2 hi)
  obtain ⟨c2,g3,g4⟩:=Rx g1 (oj,j) (List.mem_zipIdx_iff_getElem?.2 (by rw [List.getElem?_take,if_pos hji]; exact hj)) hbit
  unfold Ao6 at g3
  split at g3
  ·rename_i c3 hc3
   cases g3
   exact .inl (Pp (b:=bb) hc3 (fun x hx=>g2 x (g4 x hx)) hji hi hj hbit hrest (fun k _ o ho=>List.mem_of_getElem? ho)).2
  ·split at g3
   ·rename_i hx; exact .inr hx
   ·cases g3
 ·simp only [Array.getD_eq_getD_getElem?,Array.getElem?_replicate] at hL
  split at hL <;> simp at hL
 ·simp only [List.size_toArray]; rw [hrem]; simp
 ·simp only [List.size_toArray]; rw [hrem,C1]; exact h
 ·obtain ⟨⟨θ',M',h1,h2,h3,h4⟩,h5⟩:=hF
  exact ⟨⟨θ',M',h1,⟨h2.size,h2.same,h2.os,h2.tape,h2.output⟩,h3,h4⟩,h5⟩
def Aa9 (os:Nat→Option AO) (b:Nat):List Nat→Prop
 | []=>True
 | d :: l=>os (b+d)=none∧Aa9 os b l
theorem R0 {os:Nat→Option AO} {b:Nat}:∀ {l:List Nat},Aa9 os b l→∀ d ∈ l,os (b+d)=none
 | [],_,d,hd=>by cases hd
 | x :: l,h,d,hd=>by
  rcases List.mem_cons.1 hd with rfl | hd
  ·exact h.1
  ·exact R0 h.2 d hd
theorem Yp:∀ {ops:List Oper},∀ d ∈ Pc P ops,d ∈ ops.filterMap (·.dst)
 | [],d,hd=>by cases hd
 | o :: l,d,hd=>by
  have ih:=Yp (ops:=l) d
  simp only [Pc] at hd
  rw [List.filterMap_cons]
  split at hd
  ·split at hd
   ·rename_i d2 hd2
    rw [hd2]
    rcases List.mem_cons.1 hd with rfl | hd
    ·simp
    ·exact List.mem_cons_of_mem _ (ih hd)
   ·rename_i hd2
    rw [hd2]; exact ih hd
  ·cases o.dst with
   | none=>exact ih hd
   | some d2=>exact List.mem_cons_of_mem _ (ih hd)
theorem Ajr {id:Nat} {st:St} {Q:AEx→St→Prop} (cfs:List Cf) (ds:List Nat) (hm:P.follows .mixedOrders=true) (hchk:Qi P r.v r.q ops cfs=true) (hds:ops.filterMap (·.dst)=ds) (hfr:Aa9 st.o r.b ds) (h:EL P r N ops ops st (fun s=>(cfs.all fun c=>c.ok s.t)=true∧Q .normal s)):AWP P r N (.region id ops.toArray true) st Q:=
 Ac2 cfs hm hchk (fun d hd=>R0 hfr d (by rw [← hds]; exact Yp d hd)) h
end
inductive XO where
 | cells (cs:List AV)
 | arr (k:Nat) (es:List (List PV))
 | map (n:Nat) (kv:List (List Int × Value))
 | loop (i st:Nat) (pd:Option (Option Nat))
structure LK where
 n:Nat
 ps:List Nat
 assign:Code
 body:Code
 tm:List (Nat × AV)
def stS:Nat→LoopState
 | 0=>.ready
 | 1=>.busy
 | 2=>.done
 | _=>.exhausted
def pdC:Option (Option Nat)→Option Code
 | none=>none
 | some none=>some .ret
 | some (some i)=>some (.exit i)
def LK.k (x:LK) (st:Nat) (pd:Option (Option Nat)):F0:=⟨x.n,x.ps,x.assign,x.body,stS st,pdC pd⟩
def XO.ao (L:List LK):XO→AO
 | .cells cs=>.cells cs
 | .arr k es=>.arr k es
 | .map n kv=>.obj (U1 n kv)
 | .loop i st pd=>match L[i]? with
  | some x=>.loop (x.k st pd) x.tm
  | none=>.cells []
def AO.xo:AO→Option XO
 | .cells cs=>some (.cells cs)
 | .arr k es=>some (.arr k es)
 | _=>none
theorem Am4 {L:List LK} {o:AO} {x:XO} (h:o.xo=some x):x.ao L=o:=by cases o <;> cases h <;> rfl
abbrev Es:=List (Nat × XO)
abbrev SG:=List (Nat × Es)
structure XS where
 t:List (Nat × AV)
 o:SG
section
variable {L:List LK}
def Kj (L:List LK):Es→Nat→Option AO
 | [],_=>none
 | (j,x) :: l,i=>match eqN i j with
  | true=>some (x.ao L)
  | false=>Kj L l i
def Vr:Es→Nat→Option XO
 | [],_=>none
 | (j,x) :: l,i=>match eqN i j with
  | true=>some x
  | false=>Vr l i
theorem Ac9 {n:Nat}:∀ {l:Es},Kj L l n=(Vr l n).map (XO.ao L)
 | []=>rfl
 | (j,x) :: l=>by
  simp only [Kj,Vr]
  split
  ·rfl
  ·exact Ac9
def Ar2 (i:Nat):Es→Bool
 | []=>false
 | (j,_) :: l=>match eqN i j with
  | true=>true
  | false=>Ar2 i l
theorem Agn {i:Nat}:∀ {l:Es},Ar2 i l=(Kj L l i).isSome
 | []=>rfl
 | (j,x) :: l=>by
  simp only [Ar2,Kj]
  split
  ·rfl
  ·exact Agn
def Amt (n:Nat) (x:XO):Es→Es
 | []=>[(n,x)]
 | (j,y) :: l=>match eqN j n with
  | true=>(n,x) :: l
  | false=>(j,y) :: Amt n x l
theorem Aci {n m:Nat} {x:XO}:∀ {l:Es},Kj L (Amt n x l) m=if m=n then some (x.ao L) else Kj L l m
 | []=>by
  simp only [Amt,Kj]
  split
  ·rename_i h; rw [Bn] at h; rw [if_pos h]
  ·rename_i h; rw [G7] at h; rw [if_neg h]
 | (j,y) :: l=>by
  simp only [Amt]
  split
  ·rename_i h; rw [Bn] at h; subst h
   simp only [Kj]
   split
   ·rename_i h; rw [Bn] at h; rw [if_pos h]
   ·rename_i h; rw [G7] at h; rw [if_neg h]
  ·rename_i h; rw [G7] at h
   simp only [Kj]
   split
   ·rename_i h2; rw [Bn] at h2; subst h2; rw [if_neg h]
   ·exact Aci
theorem Kq {n m:Nat} {x:XO} {l:Es}:Kj L ((n,x) :: l) m=if m=n then some (x.ao L) else Kj L l m:=by
 simp only [Kj]
 split
 ·rename_i h; rw [Bn] at h; rw [if_pos h]
 ·rename_i h; rw [G7] at h; rw [if_neg h]
def Aja (c:Nat) (f:XO→XO):Es→Es
 | []=>[]
 | (j,x) :: l=>match eqN j c with
  | true=>Aja c f l
  | false=>(j,f x) :: Aja c f l
def Uy (a b:Nat):Nat:=match leN a b with
 | true=>b
 | false=>a
theorem Nl {a b:Nat}:Uy a b=max a b:=by
 unfold Uy
 split
 ·rename_i h; rw [Em] at h; omega
 ·rename_i h; have:¬ a≤b:=fun e=>by rw [Em.2 e] at h; cases h
  omega
def Aqq:Es→Nat
 | []=>0
 | (j,_) :: l=>Uy (Nat.succ j) (Aqq l)
theorem Y3 {n:Nat}:∀ {l:Es},Aqq l≤n→Kj L l n=none
 | [],_=>rfl
 | (j,x) :: l,h=>by
  simp only [Aqq,Nl] at h
  rw [Kq,if_neg (by omega)]
  exact Y3 (by omega)
def G4 (L:List LK):SG→Nat→Option AO
 | [],_=>none
 | (b,es) :: r,n=>match leN b n with
  | true=>Kj L es n
  | false=>G4 L r n
abbrev OX (L:List LK) (o:SG):Nat→Option AO:=G4 L o
abbrev XS.st (L:List LK) (s:XS):St:=⟨T s.t,OX L s.o⟩
def Jn (n:Nat):SG→Option XO
 | []=>none
 | (b,es) :: r=>match leN b n with
  | true=>Vr es n
  | false=>Jn n r
theorem L1 {n:Nat}:∀ {o:SG},OX L o n=(Jn n o).map (XO.ao L)
 | []=>rfl
 | (b,es) :: r=>by
  simp only [OX,G4,Jn]
  split
  ·exact Ac9
  ·exact L1
theorem E4 {n:Nat} {x:XO} {o:SG} (h:Jn n o=some x):OX L o n=some (x.ao L):=by rw [L1,h]; rfl
def N0 (n:Nat):SG→Bool
 | []=>false
 | (b,es) :: r=>match leN b n with
  | true=>Ar2 n es
  | false=>N0 n r
theorem Aac {n:Nat}:∀ {o:SG},N0 n o=(OX L o n).isSome
 | []=>rfl
 | (b,es) :: r=>by
  simp only [OX,G4,N0]
  split
  ·exact Agn
  ·exact Aac
theorem Q6 {n:Nat} {o:SG} (h:N0 n o=false):OX L o n=none:=by
 rw [Aac (L:=L)] at h
 cases he:OX L o n with
 | none=>rfl
 | some x=>rw [he] at h; cases h
def Ws (n:Nat) (x:XO):SG→SG
 | []=>[(n,[(n,x)])]
 | (b,es) :: r=>match leN b n with
  | true=>(b,(n,x) :: es) :: r
  | false=>(b,es) :: Ws n x r
theorem Zl {n:Nat} {x:XO}:∀ (o:SG),OX L (Ws n x o)=upd (OX L o) n (some (x.ao L))
 | []=>by
  funext m
  simp only [OX,Ws,G4,upd]
  split
  ·rw [Kq]; rfl
  ·rename_i h
   rw [if_neg (fun e=>by subst e; rw [Em.2 (Nat.le_refl _)] at h; cases h)]
 | (b,es) :: r=>by
  funext m
  simp only [OX,Ws,upd]
  split
  ·rename_i hb
   simp only [G4]
   split
   ·rw [Kq]
   ·rename_i h
    rw [if_neg (fun e=>by subst e; rw [hb] at h; cases h)]
  ·rename_i hb
   simp only [G4]
   split
   ·rename_i h
    rw [if_neg (fun e=>by subst e; rw [hb] at h; cases h)]
   ·have:=congrFun (Zl (n:=n) (x:=x) r) m
    exact this
def Qm (n:Nat) (x:XO):SG→SG
 | []=>[(n,[(n,x)])]
 | (b,es) :: r=>match leN b n with
  | true=>(b,Amt n x es) :: r
  | false=>(b,es) :: Qm n x r
theorem Aap {n:Nat} {x:XO}:∀ (o:SG),OX L (Qm n x o)=upd (OX L o) n (some (x.ao L))
 | []=>by
  funext m
  simp only [OX,Qm,G4,upd]
  split
  ·rw [Kq]; rfl
  ·rename_i h
   rw [if_neg (fun e=>by subst e; rw [Em.2 (Nat.le_refl _)] at h; cases h)]
 | (b,es) :: r=>by
  funext m
  simp only [OX,Qm,upd]
  split
  ·rename_i hb
   simp only [G4]
   split
   ·rw [Aci]
   ·rename_i h
    rw [if_neg (fun e=>by subst e; rw [hb] at h; cases h)]
  ·rename_i hb
   simp only [G4]
   split
   ·rename_i h
    rw [if_neg (fun e=>by subst e; rw [hb] at h; cases h)]
   ·have:=congrFun (Aap (n:=n) (x:=x) r) m
    exact this
def Nx:SG→Nat
 | []=>0
 | (b,es) :: _=>Uy b (Aqq es)
theorem Ns {n:Nat} {o:SG} (h:Nx o≤n):OX L o n=none:=by
 cases o with
 | nil=>rfl
 | cons p r=>
  obtain ⟨b,es⟩:=p
  simp only [Nx,Nl] at h
  simp only [OX,G4]
  rw [Em.2 (by omega)]
  exact Y3 (by omega)
def Vo (c:Nat) (f:XO→XO):SG→SG
 | []=>[]
 | (b,es) :: r=>(b,Aja c f es) :: Vo c f r
def Arh (p:XO→Bool):Es→Bool
 | []=>true
 | (_,x) :: l=>match p x with
  | true=>Arh p l
  | false=>false
def Aem (p:XO→Bool):SG→Bool
 | []=>true
 | (_,es) :: r=>match Arh p es with
  | true=>Aem p r
  | false=>false
theorem Abr {p:XO→Bool} {n:Nat} {x:XO}:∀ {l:Es},Arh p l=true→Vr l n=some x→p x=true
 | [],_,h=>by cases h
 | (j,y) :: l,ha,h=>by
  simp only [Arh] at ha
  simp only [Vr] at h
  split at ha
  ·split at h
   ·cases h; assumption
   ·exact Abr ha h
  ·cases ha
theorem Mg {p:XO→Bool} {n:Nat} {x:XO}:∀ {o:SG},Aem p o=true→Jn n o=some x→p x=true
 | [],_,h=>by cases h
 | (b,es) :: r,ha,h=>by
  simp only [Aem] at ha
  simp only [Jn] at h
  split at ha
  ·rename_i he
   split at h
   ·exact Abr he h
   ·exact Mg ha h
  ·cases ha
theorem Uj {c n:Nat} {f:XO→XO}:∀ {l:Es},Vr (Aja c f l) n=if n=c then none else (Vr l n).map f
 | []=>by simp [Vr,Aja]
 | (j,x) :: l=>by
  simp only [Aja]
  split
  ·rename_i h; rw [Bn] at h; subst h
   rw [Uj]
   by_cases e:n=j
   ·rw [if_pos e,if_pos e]
   ·rw [if_neg e,if_neg e]
    simp only [Vr]
    split
    ·rename_i h2; rw [Bn] at h2; exact absurd h2 e
    ·rfl
  ·rename_i h; rw [G7] at h
   simp only [Vr]
   split
   ·rename_i h2; rw [Bn] at h2; subst h2
    rw [if_neg h]; rfl
   ·exact Uj
theorem Ab1 {c n:Nat} {f:XO→XO}:∀ {o:SG},Jn n (Vo c f o)=if n=c then none else (Jn n o).map f
 | []=>by simp [Jn,Vo]
 | (b,es) :: r=>by
  simp only [Vo,Jn]
  split
  ·exact Uj
  ·exact Ab1
theorem Ad5 {c:Nat} {f:XO→XO} {g:AO→AO} {p:XO→Bool} (hp:∀ x,p x=true→(f x).ao L=g (x.ao L)) {o:SG} (h:Aem p o=true):OX L (Vo c f o)=fun n=>if n=c then none else (OX L o n).map g:=by
 funext n
 rw [L1,L1,Ab1]
 split
 ·rfl
 ·cases hx:Jn n o with
  | none=>rfl
  | some x=>exact congrArg some (hp x (Mg h hx))
def Axz {α:Type} (n:Nat) (x:α) (l:List (Nat × α)):List (Nat × α):=(n,x) :: Amo n l
theorem Ao2 {n i:Nat} (h:i≠n):∀ l:List (Nat × AV),T (Amo n l) i=T l i
 | []=>rfl
 | (j,x) :: l=>by
  simp only [Amo]
  split
  ·rename_i e; rw [Bn] at e; subst e
   rw [Ao2 h l,Af,if_neg h]
  ·rw [Af,Af,Ao2 h l]
theorem Aw4 {n:Nat} {x:AV} {l:List (Nat × AV)}:T (Axz n x l)=upd (T l) n x:=by
 funext i
 unfold Axz upd
 rw [Af]
 split
 ·rfl
 ·rename_i h; exact Ao2 h l
def Nz (d:Option Nat) (x:AV) (s:XS):XS:=match d with
 | some d=>⟨(d,x) :: s.t,s.o⟩
 | none=>s
theorem E7 {d:Option Nat} {x:AV} {s:XS}:(Nz d x s).st L=(s.st L).put d x:=by
 cases d with
 | none=>rfl
 | some d=>rfl
def Azd (n:Nat) (x:XO) (s:XS):XS:=⟨s.t,Qm n x s.o⟩
theorem Ag2 {n:Nat} {x:XO} {s:XS}:(Azd n x s).st L=(s.st L).setO n (x.ao L):=by
 show St.mk (T s.t) (OX L (Qm n x s.o))=_
 rw [Aap]; rfl
def An0 (n:Nat) (x:XO) (s:XS):XS:=⟨s.t,Ws n x s.o⟩
theorem Tm {n:Nat} {x:XO} {s:XS}:(An0 n x s).st L=(s.st L).setO n (x.ao L):=by
 show St.mk (T s.t) (OX L (Ws n x s.o))=_
 rw [Zl]; rfl
def Afa (L:List LK) (n:Nat):XO→Bool
 | .loop i _ _=>match L[i]? with | some x=>AV.clean.cleanL n (x.tm.map (·.2)) | none=>true
 | _=>true
abbrev Kc (L:List LK) (n:Nat) (o:SG):Bool:=Aem (Afa L n) o
def XO.purge (n:Nat):XO→XO
 | .cells cs=>.cells (cs.map (AV.purge n))
 | x=>x
theorem Adi {n:Nat}:∀ {tm:List (Nat × AV)},AV.clean.cleanL n (tm.map (·.2))=true→(tm.map fun p=>(p.1,p.2.purge n))=tm
 | [],_=>rfl
 | (j,x) :: l,h=>by
  simp only [List.map_cons,AV.clean.cleanL,Bool.and_eq_true] at h ⊢
  rw [Adi h.2]
  unfold AV.purge
  rw [if_pos h.1]
theorem Aly {n:Nat} (x:XO) (h:Afa L n x=true):(x.purge n).ao L=(x.ao L).purge n:=by
 cases x with
 | loop i st pd=>
  simp only [Afa] at h
  simp only [XO.purge,XO.ao]
  cases hi:L[i]? with
  | none=>rfl
  | some y=>
   rw [hi] at h
   simp only [AO.purge,Adi h]
 | _=>rfl
def Aqz (n:Nat) (s:XS):XS:=⟨Ter n s.t,Vo n (XO.purge n) s.o⟩
theorem Aaj {n:Nat} {s:XS} (h:Kc L n s.o=true):(Aqz n s).st L=(s.st L).purge n:=by
 show St.mk (T (Ter n s.t)) (OX L (Vo n (XO.purge n) s.o))=_
 rw [Ad5 (g:=AO.purge n) Aly h]
 unfold St.purge
 simp only [← Zx]
def XO.ren (c m:Nat):XO→XO
 | .cells cs=>.cells (cs.map (AV.ren c m))
 | x=>x
mutual
theorem Aoe {c m:Nat}:∀ x:AV,x.clean c=true→x.ren c m=x
 | .p _,_=>rfl
 | .ptr n _,h=>by simp only [AV.clean,bne_iff_ne] at h; simp only [AV.ren,rn,if_neg h]
 | .eptr n _ _ _,h=>by simp only [AV.clean,bne_iff_ne] at h; simp only [AV.ren,rn,if_neg h]
 | .own n _,h=>by simp only [AV.clean,bne_iff_ne] at h; simp only [AV.ren,rn,if_neg h]
 | .csl n _ _ _,h=>by simp only [AV.clean,bne_iff_ne] at h; simp only [AV.ren,rn,if_neg h]
 | .yld n,h=>by simp only [AV.clean,bne_iff_ne] at h; simp only [AV.ren,rn,if_neg h]
 | .mp n,h=>by simp only [AV.clean,bne_iff_ne] at h; simp only [AV.ren,rn,if_neg h]
 | .fn f fs cs,h=>by
  simp only [AV.clean,Bool.and_eq_true] at h
  simp only [AV.ren,Qp fs h.1,Qp cs h.2]
 | .agg cs,h=>by simp only [AV.ren,Qp cs h]
 | .tup cs,h=>by simp only [AV.ren,Qp cs h]
 | .undef,_=>rfl
theorem Qp {c m:Nat}:∀ l:List AV,AV.clean.cleanL c l=true→AV.ren.renL c m l=l
 | [],_=>rfl
 | x :: r,h=>by
  simp only [AV.clean.cleanL,Bool.and_eq_true] at h
  simp only [AV.ren.renL,Aoe x h.1,Qp r h.2]
end
theorem An3 {c m:Nat}:∀ {tm:List (Nat × AV)},AV.clean.cleanL c (tm.map (·.2))=true→(tm.map fun p=>(p.1,p.2.ren c m))=tm
 | [],_=>rfl
 | (j,x) :: l,h=>by
  simp only [List.map_cons,AV.clean.cleanL,Bool.and_eq_true] at h ⊢
  rw [An3 h.2,Aoe x h.1]
theorem Amk {c m:Nat} (x:XO) (h:Afa L c x=true):(x.ren c m).ao L=(x.ao L).ren c m:=by
 cases x with
 | loop i st pd=>
  simp only [Afa] at h
  simp only [XO.ren,XO.ao]
  cases hi:L[i]? with
  | none=>rfl
  | some y=>
   rw [hi] at h
   simp only [AO.ren,An3 h]
 | _=>rfl
def Bce (c m:Nat) (x:XO) (s:XS):XS:=⟨W7 c m s.t,Ws m (x.ren c m) (Vo c (XO.ren c m) s.o)⟩
theorem Aqy {c m:Nat} {x:XO} {s:XS} (hx:Jn c s.o=some x) (_:OX L s.o m=none) (h:Kc L c s.o=true):(Bce c m x s).st L=(s.st L).ren c m:=by
 show St.mk (T (W7 c m s.t)) (OX L (Ws m (x.ren c m) (Vo c (XO.ren c m) s.o)))=_
 rw [Zl,Ad5 (g:=AO.ren c m) Amk h]
 unfold St.ren
 rw [Avx]
 congr 1
 funext n
 unfold upd
 split
 ·show some _=Option.map (AO.ren c m) (OX L s.o c)
  rw [E4 hx,Option.map_some,Amk x (Mg h hx)]
 ·rfl
def XO.frz (n:Nat) (es:List (List PV)):XO→XO
 | .cells cs=>.cells (cs.map (AV.frz n es))
 | x=>x
theorem Ays {n:Nat} {es:List (List PV)} (x:XO) (h:Afa L n x=true):(x.frz n es).ao L=(x.ao L).frz n es:=by
 cases x with
 | loop i st pd=>
  simp only [Afa] at h
  simp only [XO.frz,XO.ao]
  cases hi:L[i]? with
  | none=>rfl
  | some y=>
   rw [hi] at h
   exact (AO.frz_id (.loop (y.k st pd) y.tm) h).symm
 | _=>rfl
def Bbi (n:Nat) (es:List (List PV)) (s:XS):XS:=⟨Wr n es s.t,Vo n (XO.frz n es) s.o⟩
theorem Ark {n:Nat} {es:List (List PV)} {s:XS} (h:Kc L n s.o=true):(Bbi n es s).st L=(s.st L).frz n es:=by
 show St.mk (T (Wr n es s.t)) (OX L (Vo n (XO.frz n es) s.o))=_
 rw [Ad5 (g:=AO.frz n es) Ays h]
 unfold St.frz
 rw [Aul]
def Ab5 (nb:Nat) (dst:Option Nat) (s:XS) (L:List LK):Eff→Option XS
 | .pure x=>some (Nz dst x s)
 | .new o x=>match dst,o.xo with
  | some d,some xo=>match N0 (nb+d) s.o with
   | true=>none
   | false=>some (Nz (some d) x (An0 (nb+d) xo s))
  | _,_=>none
 | .upd n o=>match o.xo with
  | some xo=>some (Nz dst .undef (Azd n xo s))
  | none=>none
 | .app n o x=>match dst,o.xo with
  | some d,some xo=>match Kc L n s.o with
   | true=>match N0 (nb+d) (Aqz n s).o with
    | true=>none
    | false=>some (Nz (some d) x (An0 (nb+d) xo (Aqz n s)))
   | false=>none
  | _,_=>none
theorem Ajz {nb:Nat} {dst:Option Nat} {s s':XS} {e:Eff} (h:Ab5 nb dst s L e=some s'):e.apply nb dst (s.st L)=some (s'.st L):=by
 cases e with
 | pure x=>cases h; exact congrArg some E7.symm
 | new o x=>
  simp only [Ab5] at h
  split at h
  ·rename_i d xo hxo
   split at h
   ·cases h
   ·rename_i hn; cases h
    have hn:((s.st L).o (nb+d)).isNone=true:=Option.isNone_iff_eq_none.2 (Q6 hn)
    simp only [Eff.apply]
    rw [if_pos hn,E7,Tm,Am4 hxo]
  ·cases h
 | upd n o=>
  simp only [Ab5] at h
  split at h
  ·rename_i xo hxo; cases h
   simp only [Eff.apply]
   rw [E7,Ag2,Am4 hxo]
  ·cases h
 | app n o x=>
  simp only [Ab5] at h
  split at h
  ·rename_i d xo hxo
   split at h
   ·rename_i hl
    split at h
    ·cases h
    ·rename_i hn; cases h
     have hn:(((s.st L).purge n).o (nb+d)).isNone=true:=by rw [← Aaj hl]; exact Option.isNone_iff_eq_none.2 (Q6 hn)
     simp only [Eff.apply]
     rw [if_pos hn,E7,Tm,Aaj hl,Am4 hxo]
   ·cases h
  ·cases h
mutual
def nmS (o:SG):AV→Bool
 | .p _=>true
 | .ptr m _=>N0 m o
 | .eptr m _ _ _=>N0 m o
 | .own m _=>N0 m o
 | .csl m _ _ _=>N0 m o
 | .fn _ fs cs=>Zk o fs&&Zk o cs
 | .yld m=>N0 m o
 | .mp m=>N0 m o
 | .agg cs=>Zk o cs
 | .tup cs=>Zk o cs
 | .undef=>true
def Zk (o:SG):List AV→Bool
 | []=>true
 | x :: r=>nmS o x&&Zk o r
end
theorem Xz {o:SG} {m n:Nat} (h:N0 m o=true) (hn:(m != n)=false):(OX L o n).isSome=true:=by
 rw [bne_eq_false_iff_eq] at hn
 subst hn
 rw [← Aac]; exact h
mutual
theorem Nj {o:SG}:∀ x:AV,nmS o x=true→x.lives (OX L o)
 | .p _,_=>AV.lives_p _ _
 | .ptr _ _,h=>fun _ hn=>Xz h hn
 | .eptr _ _ _ _,h=>fun _ hn=>Xz h hn
 | .own _ _,h=>fun _ hn=>Xz h hn
 | .csl _ _ _ _,h=>fun _ hn=>Xz h hn
 | .yld _,h=>fun _ hn=>Xz h hn
 | .mp _,h=>fun _ hn=>Xz h hn
 | .fn f fs cs,h=>fun n hn=>by
  simp only [nmS,Bool.and_eq_true] at h
  simp only [AV.clean,Bool.and_eq_false_iff] at hn
  rcases hn with hn | hn
  ·exact Fm fs h.1 n hn
  ·exact Fm cs h.2 n hn
 | .agg cs,h=>fun n hn=>Fm cs h n hn
 | .tup cs,h=>fun n hn=>Fm cs h n hn
 | .undef,_=>AV.lives_undef _
theorem Fm {o:SG}:∀ l:List AV,Zk o l=true→∀ n,AV.clean.cleanL n l=false→(OX L o n).isSome=true
 | [],_,n,hn=>by simp [AV.clean.cleanL] at hn
 | x :: r,h,n,hn=>by
  simp only [Zk,Bool.and_eq_true] at h
  simp only [AV.clean.cleanL,Bool.and_eq_false_iff] at hn
  rcases hn with hn | hn
  ·exact Nj x h.1 n hn
  ·exact Fm r h.2 n hn
end
def nmX (L:List LK) (o:SG):XO→Bool
 | .cells cs=>Zk o cs
 | .loop i _ _=>match L[i]? with | some x=>Zk o (x.tm.map (·.2)) | none=>true
 | _=>true
theorem Ai4 {o:SG} {x:XO} (h:nmX L o x=true):(x.ao L).lives (OX L o):=by
 cases x with
 | cells cs=>exact fun n hn=>Fm cs h n hn
 | arr k es=>exact AO.lives_arr _ _ _
 | map n kv=>exact AO.lives_obj _ _
 | loop i st pd=>
  simp only [nmX] at h
  simp only [XO.ao]
  cases hi:L[i]? with
  | none=>intro n hn; simp [AO.clean,AV.clean.cleanL] at hn
  | some y=>
   rw [hi] at h
   exact fun n hn=>Fm _ h n hn
abbrev Asn (L:List LK) (o:SG):Bool:=Aem (nmX L o) o
theorem Z8 {o:SG} (h:Asn L o=true):(Hp (OX L o)).closed:=⟨fun _=>AV.lives_undef _,fun m a hm=>by
 have hm:OX L o m=some a:=hm
 rw [L1] at hm
 obtain ⟨x,hx,rfl⟩:=Option.map_eq_some_iff.1 hm
 exact Ai4 (Mg h hx)⟩
def Asy (o:SG) (x:AV):AV:=match nmS o x with
 | true=>x
 | false=>.undef
def Qb (o:SG):List (Nat × AV)→List (Nat × AV)
 | []=>[]
 | (j,x) :: l=>(j,Asy o x) :: Qb o l
theorem Ld {o:SG} (l:List (Nat × AV)) (i:Nat):(T (Qb o l) i=.undef∨T (Qb o l) i=T l i)∧(T (Qb o l) i).lives (OX L o):=by
 induction l with
 | nil=>exact ⟨.inl rfl,AV.lives_undef _⟩
 | cons p r ih=>
  obtain ⟨j,x⟩:=p
  simp only [Qb]
  rw [Af,Af]
  split
  ·unfold Asy
   split
   ·rename_i hx; exact ⟨.inr rfl,Nj x hx⟩
   ·exact ⟨.inl rfl,AV.lives_undef _⟩
  ·exact ih
def okX (n:Nat):XO→Bool
 | .loop i _ _=>ltN i n
 | _=>true
abbrev okL (n:Nat) (o:SG):Bool:=Aem (okX n) o
theorem An1 {x:LK} {o:SG} (h:okL L.length o=true):OX (L++[x]) o=OX L o:=by
 funext n
 rw [L1,L1]
 cases hx:Jn n o with
 | none=>rfl
 | some y=>
  have h1:=Mg h hx
  refine congrArg some ?_
  cases y with
  | loop i st pd=>
   simp only [okX,F6] at h1
   simp only [XO.ao]
   rw [List.getElem?_append_left h1]
  | _=>rfl
def Ak1 (p:Nat→Bool):Es→Es
 | []=>[]
 | (j,x) :: l=>match p j with
  | true=>(j,x) :: Ak1 p l
  | false=>Ak1 p l
def Af0 (p:Nat→Bool):SG→SG
 | []=>[]
 | (b,es) :: r=>(b,Ak1 p es) :: Af0 p r
theorem Uu {p:Nat→Bool} {n:Nat}:∀ {l:Es},Kj L (Ak1 p l) n=if p n=true then Kj L l n else none
 | []=>by simp [Ak1,Kj]
 | (j,x) :: l=>by
  simp only [Ak1]
  split
  ·rename_i hj
   simp only [Kj]
   split
   ·rename_i e; rw [Bn] at e; subst e; rw [if_pos hj]
   ·exact Uu
  ·rename_i hj
   rw [Uu,Kq]
   by_cases e:n=j
   ·subst e; rw [if_neg (by rw [hj]; decide),if_neg (by rw [hj]; decide)]
   ·rw [if_neg e]
theorem Qf {p:Nat→Bool} {n:Nat}:∀ {o:SG},OX L (Af0 p o) n=if p n=true then OX L o n else none
 | []=>by simp [Af0,OX,G4]
 | (b,es) :: r=>by
  simp only [Af0,OX,G4]
  split
  ·exact Uu
  ·exact Qf
def Awn (bd:Nat):SG→Nat
 | []=>0
 | (b,_) :: r=>match leN bd b with
  | true=>Nat.succ (Awn bd r)
  | false=>0
def Ag5 (bd:Nat):SG→SG
 | []=>[]
 | (b,es) :: r=>match leN bd b with
  | true=>Ag5 bd r
  | false=>(b,es) :: r
theorem Yg {bd n:Nat} (h:n < bd):∀ {o:SG},OX L (Ag5 bd o) n=OX L o n
 | []=>rfl
 | (b,es) :: r=>by
  simp only [Ag5]
  split
  ·rename_i hb
   rw [Em] at hb
   simp only [OX,G4]
   split
   ·rename_i h2; rw [Em] at h2; omega
   ·exact Yg h
  ·rfl
def Ar8 (bd:Nat) (o:SG):SG:=Af0 (fun n=>ltN n bd) (Ag5 bd o)
theorem Ana {bd n:Nat} {o:SG}:OX L (Ar8 bd o) n=none∨OX L (Ar8 bd o) n=OX L o n:=by
 unfold Ar8
 rw [Qf]
 split
 ·rename_i h; rw [F6] at h; exact .inr (Yg h)
 ·exact .inl rfl
end
end AM
end
/- The abstract machine, part 63: closed runs: operations. -/
section
namespace AM
open Go
structure RP where
 ty:TypeId→TI
 v:List Nat
 q:List Nat
 fz:List Nat
 kn:Nat→List AV→Option (Nat × List (List PV))
 mt:Nat→Option (Nat × Value)
 qe:Nat→Nat→Bool
 cf:Nat→Nat→Option (Option Nat × List Cf)
 lv:Nat→Nat→Option (List Nat)
structure Pn (P:Program) (p:RP):Prop where
 ty:∀ t,p.ty t=Aa P t
 mix:P.follows .mixedOrders=true
 kn:∀ f as k es,p.kn f as=some (k,es)→H7 P f as k es
 mt:∀ t n z,p.mt t=some (n,z)→∃ k e,(Aa P t).k=.mp k e∧(∀ w,(zeroValue e).run P w=.ok z w)∧D4 z=true∧Kd P k n
 qe:∀ t n,p.qe t n=true→Ml P t n
structure CI where
 c:Option (Bool × Nat × List Operand)
 k:CK
 op:Op
 dst:Option Nat
 gd:Option (Option Nat × Bool)
inductive Cmd where
 | code (L:List LK) (b N:Nat) (d:Bool) (c:Code) (s:XS)
 | rounds (L:List LK) (b N:Nat) (c:Code) (s:XS)
 | call (L:List LK) (th bd:Nat) (fv:AV) (args:List AV) (o:SG)
 | pcall (f:Nat) (args:List AV)
inductive Out where
 | code (e:AEx) (s:XS)
 | call (res:AV) (o:SG)
 | pcall (res:AV)
 | err (L:List LK) (b N id:Nat) (cs:List CI) (s:XS)
abbrev rbX (p:RP) (rd:Option Nat) (b:Nat):RB:=⟨⟨rd,fun _=>False⟩,b,p.v,p.q⟩
def Ahu (P:Program) (r:RB) (N:Nat) (c:Code) (Q:AEx→St→Prop):Nat→St→Prop
 | 0,_=>False
 | m+1,s=>AWP P r N c s (Jp (Ahu P r N c Q m) Q)
structure L7 (P:Program) (p:RP) (rec:Cmd→Option Out):Prop where
 code:∀ {L b N c s e s'},rec (.code L b N false c s)=some (.code e s')→∀ rd Q,Q e (s'.st L)→AWP P (rbX p rd b) N c (s.st L) Q
 coded:∀ {L b N c s e s'},rec (.code L b N true c s)=some (.code e s')→∀ Q,Q e (s'.st L)→Ex P (rbX p none b) N c (s.st L) Q
 rounds:∀ {L b N c s e s'},rec (.rounds L b N c s)=some (.code e s')→∃ m,∀ rd Q,Q e (s'.st L)→Ahu P (rbX p rd b) N c Q m (s.st L)
 call:∀ {L th bd fv args o res o'},rec (.call L th bd fv args o)=some (.call res o')→Bh P bd fv args (OX L o) (fun r os=>r=res∧os=OX L o')
 pcall:∀ {f args res},rec (.pcall f args)=some (.pcall res)→Bu P f args res
noncomputable def Ax7 (P:Program) (p:RP) (d:Nat) (op:Op) (ρ:Operand→AV) (os:Nat→Option AO):Option Eff:=
 match op with
 | .binOp o t x y u=>match ρ x,ρ y with
  | .agg cs,.agg ds=>match Cn cs,Cn ds with
   | some a,some b=>if p.qe t a.length&&(a.length == b.length&&(a.all inR&&b.all inR)) then match o with
     | .eql=>some (.pure (bl (decide (a=b))))
     | .neq=>some (.pure (bl (!decide (a=b))))
     | _=>none
    else none
   | _,_=>none
  | _,_=>eff P d (.binOp o t x y u) ρ os
 | op=>eff P d op ρ os
theorem Akz {P:Program} {p:RP} (hp:Pn P p) {d:Nat} {op:Op} {ρ:Operand→AV} {os:Nat→Option AO} {e:Eff} (h:Ax7 P p d op ρ os=some e):eff P d op ρ os=some e:=by
 unfold Ax7 at h
 split at h
 ·rename_i o t x y u
  split at h
  ·rename_i cs ds hx hy
   split at h
   ·rename_i a b ha hb
    split at h
    ·rename_i hc
     simp only [Bool.and_eq_true,beq_iff_eq] at hc
     obtain ⟨h1,h2,h3,h4⟩:=hc
     have hq:=hp.qe _ _ h1
     simp only [eff,hx,hy,ha,hb]
     cases o <;> first | (cases h; exact Nk hq h2 h3 h4) | (cases h; exact Ym hq h2 h3 h4) | cases h
    ·cases h
   ·cases h
  ·exact h
 ·exact h
theorem Aik {os:Nat→Option AO}:∀ {x y:AV},Eo os x=some y→x.isP=true→y=x:=by
 have vC:∀ {x y:AV},Fb os x=some y→x.isP=true→y=x:=by
  intro x y h hp
  cases x with
  | p x=>cases h; rfl
  | fn f fs cs=>
   cases fs with
   | nil=>cases cs with
    | nil=>cases h; rfl
    | cons a r=>cases h
   | cons a r=>cases h
  | own n l=>cases hp
  | csl n o k l=>cases hp
  | _=>cases h
 have vL:∀ {l l':List AV},Hb os l=some l'→AV.isP.isPL l=true→l'=l:=by
  intro l
  induction l with
  | nil=>intro l' h _; cases h; rfl
  | cons x r ih=>
   intro l' h hp
   simp only [AV.isP.isPL,Bool.and_eq_true] at hp
   simp only [Hb] at h
   split at h
   ·rename_i y ys h1 h2
    cases h
    rw [vC h1 hp.1,ih h2 hp.2]
   ·cases h
 intro x y h hp
 cases x with
 | agg cs=>
  simp only [Eo] at h
  cases hl:Hb os cs with
  | none=>rw [hl] at h; cases h
  | some l'=>
   rw [hl] at h; cases h
   rw [vL hl hp]
 | _=>exact vC h hp
theorem Wa {os:Nat→Option AO}:∀ {l l':List AV},Dh os l=some l'→l.all AV.isP=true→l'=l
 | [],l',h,_=>by cases h; rfl
 | x :: r,l',h,hp=>by
  simp only [List.all_cons,Bool.and_eq_true] at hp
  simp only [Dh] at h
  split at h
  ·rename_i y ys h1 h2
   cases h
   rw [Aik h1 hp.1,Wa h2 hp.2]
  ·cases h
def eqV:Value→Value→Bool
 | .int k a,.int k' b=>decide (k=k')&&eqI a b
 | .bool a,.bool b=>a == b
 | .slice none 0 0,.slice none 0 0=>true
 | _,_=>false
theorem Abh {x y:Value} (h:eqV x y=true):x=y:=by
 unfold eqV at h
 split at h
 ·simp only [Bool.and_eq_true,decide_eq_true_eq,Qq] at h; rw [h.1,h.2]
 ·rw [eq_of_beq h]
 ·rfl
 ·cases h
mutual
def eqP:PV→PV→Bool
 | .val a,.val b=>eqV a b
 | .sl a,.sl b=>Aen a b
 | .ro a,.ro b=>Aek a b
 | _,_=>false
def Aek:List PV→List PV→Bool
 | [],[]=>true
 | x :: l,y :: r=>eqP x y&&Aek l r
 | _,_=>false
def Aen:List (List PV)→List (List PV)→Bool
 | [],[]=>true
 | x :: l,y :: r=>Aek x y&&Aen l r
 | _,_=>false
end
mutual
theorem Adu:∀ (x y:PV),eqP x y=true→x=y
 | .val a,.val b,h=>by rw [eqP] at h; rw [Abh h]
 | .sl a,.sl b,h=>by rw [eqP] at h; rw [R5 a b h]
 | .ro a,.ro b,h=>by rw [eqP] at h; rw [R2 a b h]
 | .val _,.sl _,h=>by simp [eqP] at h
 | .val _,.ro _,h=>by simp [eqP] at h
 | .sl _,.val _,h=>by simp [eqP] at h
 | .sl _,.ro _,h=>by simp [eqP] at h
 | .ro _,.val _,h=>by simp [eqP] at h
 | .ro _,.sl _,h=>by simp [eqP] at h
theorem R2:∀ (x y:List PV),Aek x y=true→x=y
 | [],[],_=>rfl
 | x :: l,y :: r,h=>by
  rw [Aek,Bool.and_eq_true] at h
  rw [Adu x y h.1,R2 l r h.2]
 | [],_ :: _,h=>by simp [Aek] at h
 | _ :: _,[],h=>by simp [Aek] at h
theorem R5:∀ (x y:List (List PV)),Aen x y=true→x=y
 | [],[],_=>rfl
 | x :: l,y :: r,h=>by
  rw [Aen,Bool.and_eq_true] at h
  rw [R2 x y h.1,R5 l r h.2]
 | [],_ :: _,h=>by simp [Aen] at h
 | _ :: _,[],h=>by simp [Aen] at h
end
def Aza:Fn→Fn→Bool
 | .func f,.func g=>f == g
 | _,_=>false
theorem Akd {f g:Fn} (h:Aza f g=true):f=g:=by
 unfold Aza at h
 split at h
 ·rw [eq_of_beq h]
 ·cases h
mutual
def eqA:AV→AV→Bool
 | .p a,.p b=>eqP a b
 | .ptr n o,.ptr n' o'=>n == n'&&o == o'
 | .eptr n k i o,.eptr n' k' i' o'=>n == n'&&(k == k'&&(i == i'&&o == o'))
 | .own n l,.own n' l'=>n == n'&&l == l'
 | .csl n o k l,.csl n' o' k' l'=>n == n'&&(o == o'&&(k == k'&&l == l'))
 | .fn f a b,.fn f' a' b'=>Aza f f'&&(W6 a a'&&W6 b b')
 | .yld n,.yld n'=>n == n'
 | .mp n,.mp n'=>n == n'
 | .agg a,.agg b=>W6 a b
 | .tup a,.tup b=>W6 a b
 | .undef,.undef=>true
 | _,_=>false
def W6:List AV→List AV→Bool
 | [],[]=>true
 | x :: l,y :: r=>eqA x y&&W6 l r
 | _,_=>false
end
mutual
theorem Acq:∀ (x y:AV),eqA x y=true→x=y
 | .p a,y,h=>by
  cases y <;> first | (simp [eqA] at h; done) | (rw [eqA] at h; rw [Adu _ _ h])
 | .ptr n o,y,h=>by
  cases y <;> first | (simp [eqA] at h; done) | (simp only [eqA,Bool.and_eq_true,beq_iff_eq] at h; rw [h.1,h.2])
 | .eptr n k i o,y,h=>by
  cases y <;> first | (simp [eqA] at h; done) | (simp only [eqA,Bool.and_eq_true,beq_iff_eq] at h; rw [h.1,h.2.1,h.2.2.1,h.2.2.2])
 | .own n l,y,h=>by
  cases y <;> first | (simp [eqA] at h; done) | (simp only [eqA,Bool.and_eq_true,beq_iff_eq] at h; rw [h.1,h.2])
 | .csl n o k l,y,h=>by
  cases y <;> first | (simp [eqA] at h; done) | (simp only [eqA,Bool.and_eq_true,beq_iff_eq] at h; rw [h.1,h.2.1,h.2.2.1,h.2.2.2])
 | .fn f a b,y,h=>by
  cases y <;> first | (simp [eqA] at h; done) | skip
  rename_i f' a' b'
  simp only [eqA,Bool.and_eq_true] at h
  rw [Akd h.1,Ho a a' h.2.1,Ho b b' h.2.2]
 | .yld n,y,h=>by
  cases y <;> first | (simp [eqA] at h; done) | (simp only [eqA,beq_iff_eq] at h; rw [h])
 | .mp n,y,h=>by
  cases y <;> first | (simp [eqA] at h; done) | (simp only [eqA,beq_iff_eq] at h; rw [h])
 | .agg a,y,h=>by
  cases y <;> first | (simp [eqA] at h; done) | (rename_i b; rw [eqA] at h; rw [Ho a b h])
 | .tup a,y,h=>by
  cases y <;> first | (simp [eqA] at h; done) | (rename_i b; rw [eqA] at h; rw [Ho a b h])
 | .undef,y,h=>by
  cases y <;> first | (simp [eqA] at h; done) | rfl
theorem Ho:∀ (x y:List AV),W6 x y=true→x=y
 | [],[],_=>rfl
 | x :: l,y :: r,h=>by
  rw [W6,Bool.and_eq_true] at h
  rw [Acq x y h.1,Ho l r h.2]
 | [],_ :: _,h=>by simp [W6] at h
 | _ :: _,[],h=>by simp [W6] at h
end
def Ah1:List Value→List Value→Bool
 | [],[]=>true
 | x :: l,y :: r=>eqV x y&&Ah1 l r
 | _,_=>false
theorem Y0:∀ {x y:List Value},Ah1 x y=true→x=y
 | [],[],_=>rfl
 | x :: l,y :: r,h=>by
  rw [Ah1,Bool.and_eq_true] at h
  rw [Abh h.1,Y0 h.2]
 | [],_ :: _,h=>by simp [Ah1] at h
 | _ :: _,[],h=>by simp [Ah1] at h
def eqW:Value→Value→Bool
 | .agg a,.agg b=>Ah1 a.toList b.toList
 | _,_=>false
theorem Aoc {x y:Value} (h:eqW x y=true):x=y:=by
 unfold eqW at h
 split at h
 ·rename_i a b
  have:=Y0 h
  rw [Array.toList_inj.1 this]
 ·cases h
def Akj:List Int→List Int→Bool
 | [],[]=>true
 | x :: l,y :: r=>eqI x y&&Akj l r
 | _,_=>false
theorem Yt:∀ {x y:List Int},Akj x y=true→x=y
 | [],[],_=>rfl
 | x :: l,y :: r,h=>by
  rw [Akj,Bool.and_eq_true,Qq] at h
  rw [h.1,Yt h.2]
 | [],_ :: _,h=>by simp [Akj] at h
 | _ :: _,[],h=>by simp [Akj] at h
def Ah0:List (List Int × Value)→List (List Int × Value)→Bool
 | [],[]=>true
 | (a,v) :: l,(b,w) :: r=>Akj a b&&(eqW v w&&Ah0 l r)
 | _,_=>false
theorem Xw:∀ {x y:List (List Int × Value)},Ah0 x y=true→x=y
 | [],[],_=>rfl
 | (a,v) :: l,(b,w) :: r,h=>by
  simp only [Ah0,Bool.and_eq_true] at h
  rw [Yt h.1,Aoc h.2.1,Xw h.2.2]
 | [],_ :: _,h=>by simp [Ah0] at h
 | _ :: _,[],h=>by simp [Ah0] at h
def eqX:XO→XO→Bool
 | .cells a,.cells b=>W6 a b
 | .arr k a,.arr k' b=>k == k'&&Aen a b
 | .map n a,.map n' b=>n == n'&&Ah0 a b
 | .loop i s p,.loop i' s' p'=>i == i'&&(s == s'&&p == p')
 | _,_=>false
theorem Alk {x y:XO} (h:eqX x y=true):x=y:=by
 unfold eqX at h
 split at h
 ·rw [Ho _ _ h]
 ·simp only [Bool.and_eq_true,beq_iff_eq] at h; rw [h.1,R5 _ _ h.2]
 ·simp only [Bool.and_eq_true,beq_iff_eq] at h; rw [h.1,Xw h.2]
 ·simp only [Bool.and_eq_true,beq_iff_eq] at h; rw [h.1,h.2.1,h.2.2]
 ·cases h
def Air:Es→Es→Bool
 | [],[]=>true
 | (i,x) :: l,(j,y) :: r=>eqN i j&&(eqX x y&&Air l r)
 | _,_=>false
theorem Xi:∀ {x y:Es},Air x y=true→x=y
 | [],[],_=>rfl
 | (i,x) :: l,(j,y) :: r,h=>by
  simp only [Air,Bool.and_eq_true,Bn] at h
  rw [h.1,Alk h.2.1,Xi h.2.2]
 | [],_ :: _,h=>by simp [Air] at h
 | _ :: _,[],h=>by simp [Air] at h
def Ake:SG→SG→Bool
 | [],[]=>true
 | (i,x) :: l,(j,y) :: r=>eqN i j&&(Air x y&&Ake l r)
 | _,_=>false
theorem X7:∀ {x y:SG},Ake x y=true→x=y
 | [],[],_=>rfl
 | (i,x) :: l,(j,y) :: r,h=>by
  simp only [Ake,Bool.and_eq_true,Bn] at h
  rw [h.1,Xi h.2.1,X7 h.2.2]
 | [],_ :: _,h=>by simp [Ake] at h
 | _ :: _,[],h=>by simp [Ake] at h
def Auv:List AV→Option Nat
 | []=>none
 | .own n _ :: _=>some n
 | _ :: l=>Auv l
def Bd1 (p:RP):AV→Bool
 | .fn (.func f) _ _=>Sa f p.fz
 | _=>false
section
variable {P:Program} {p:RP} {rec:Cmd→Option Out} {L:List LK} {b N:Nat} {rd:Option Nat} {K:St→Prop}
def vc0 (rec:Cmd→Option Out) (L:List LK) (b N:Nat) (dst:Option Nat) (fv:AV) (args:List AV) (s:XS):Option XS:=
 match rec (.call L 12 (Uy (b+N) (Nx s.o)) fv args s.o) with
 | some (.call res o')=>some (Nz dst res ⟨Qb o' s.t,o'⟩)
 | _=>none
theorem T9 (hs:L7 P p rec) {dst:Option Nat} {fv:AV} {args:List AV} {s s':XS} (hd:Bx N dst=true) (h:vc0 rec L b N dst fv args s=some s') (hK:K (s'.st L)):Arm P (rbX p rd b) N fv args dst (s.st L) K:=by
 unfold vc0 at h
 rw [Nl] at h
 split at h
 ·rename_i res o' hr
  cases h
  refine ⟨hd,fun _=>False,max (b+N) (Nx s.o),_,hs.call hr,fun n hn=>Ns (by omega),?_,fun _ h=>h.elim,?_⟩
  ·show b≤max (b+N) (Nx s.o)
   omega
  ·rintro res' os' ⟨rfl,rfl⟩ _ _
   refine ⟨T (Qb o' s.t),fun i=>(Ld (L:=L) s.t i).1.imp id (fun e=>⟨e,fun _ hm=>hm.elim⟩),fun i=>(Ld (L:=L) s.t i).2,?_⟩
   rw [E7] at hK
   exact hK
 ·cases h
def vcX (p:RP) (rec:Cmd→Option Out) (L:List LK) (b N:Nat) (dst:Option Nat) (fv:AV) (args:List AV) (s:XS):Option XS:=
 match Bd1 p fv with
 | true=>match Auv args with
  | some n=>match Jn n s.o with
   | some (.arr _ es)=>match Kc L n s.o with
    | true=>vc0 rec L b N dst (fv.frz n es) (args.map (AV.frz n es)) (Bbi n es s)
    | false=>none
   | _=>none
  | none=>vc0 rec L b N dst fv args s
 | false=>vc0 rec L b N dst fv args s
theorem Abj (hs:L7 P p rec) {dst:Option Nat} {fv:AV} {args:List AV} {s s':XS} (hd:Bx N dst=true) (h:vcX p rec L b N dst fv args s=some s') (hK:K (s'.st L)):EVk P (rbX p rd b) N fv args dst (s.st L) K:=by
 unfold vcX at h
 split at h
 ·split at h
  ·rename_i n _
   split at h
   ·rename_i k es hg
    split at h
    ·rename_i hl
     refine .inr (.inl ⟨n,k,es,E4 hg,?_⟩)
     rw [← Ark hl]
     exact T9 hs hd h hK
    ·cases h
   ·cases h
  ·exact .inl (T9 hs hd h hK)
 ·exact .inl (T9 hs hd h hK)
def qcX (rec:Cmd→Option Out) (L:List LK) (b N:Nat) (dst:Option Nat) (fv:AV) (args:List AV) (s:XS):Option XS:=
 match rec (.call L 0 (Uy (b+N) (Nx s.o)) fv args s.o) with
 | some (.call res o')=>match res.isP&&Ake o' s.o with
  | true=>some (Nz dst res s)
  | false=>none
 | _=>none
theorem Am6 (hs:L7 P p rec) {dst:Option Nat} {fv:AV} {args:List AV} {s s':XS} (hd:Bx N dst=true) (h:qcX rec L b N dst fv args s=some s') (hK:K (s'.st L)):EVq P (rbX p rd b) N fv args dst (s.st L) K:=by
 unfold qcX at h
 rw [Nl] at h
 split at h
 ·rename_i res o' hr
  split at h
  ·rename_i hc
   cases h
   simp only [Bool.and_eq_true] at hc
   have e:=X7 hc.2
   subst e
   refine ⟨hd,max (b+N) (Nx s.o),res,hs.call hr,fun n hn=>Ns (by omega),by show b≤max (b+N) (Nx s.o); omega,hc.1,?_⟩
   rw [E7] at hK; exact hK
  ·cases h
 ·cases h
def pcX (P:Program) (p:RP) (rec:Cmd→Option Out) (L:List LK) (b N:Nat) (dst:Option Nat) (f:Nat) (avs:List AV) (s:XS):Option XS:=
 match A7 P f with
 | true=>match Dh (G4 L s.o) avs with
  | some args=>match p.kn f args with
   | some (k,es)=>match dst with
    | some d=>match ltN d N,N0 (b+d) s.o with
     | true,false=>some (Nz (some d) (.own (b+d) es.length) (An0 (b+d) (.arr k es) s))
     | _,_=>none
    | none=>none
   | none=>match rec (.pcall f args) with
    | some (.pcall res)=>match res.scal||avs.all AV.isP with
     | true=>some (Nz dst res s)
     | false=>none
    | _=>none
  | none=>none
 | false=>none
theorem Al1 (hp:Pn P p) (hs:L7 P p rec) {dst:Option Nat} {f:Nat} {as:Array Operand} {ts:Array TypeId} {s s':XS} (h:pcX P p rec L b N dst f (as.toList.map (ev (T s.t))) s=some s') (hK:K (s'.st L)) :
  EC P (s.st L) (fun x=>K ((s.st L).put dst x)) (.call ⟨.value (.func f),as,ts⟩)∨EN P b dst (s.st L) K (.call ⟨.value (.func f),as,ts⟩):=by
 unfold pcX at h
 split at h
 ·rename_i hcal
  split at h
  ·rename_i args hv
   split at h
   ·rename_i k es hkn
    split at h
    ·rename_i d
     split at h
     ·rename_i hn
      cases h
      refine .inr ⟨hcal,args,k,es,d,hv,hp.kn _ _ _ _ hkn,rfl,Q6 hn,?_⟩
      rw [E7,Tm] at hK
      exact hK
     ·cases h
    ·cases h
   ·split at h
    ·rename_i res hr
     split at h
     ·rename_i hc
      cases h
      refine .inl ⟨hcal,args,res,hv,hs.pcall hr,?_,?_⟩
      ·simp only [Bool.or_eq_true] at hc
       rcases hc with hc | hc
       ·exact .inl hc
       ·exact .inr (.inl (Wa hv hc).symm)
      ·rw [E7] at hK; exact hK
     ·cases h
    ·cases h
  ·cases h
 ·cases h
def Aay:List AV→Option (List Value)
 | []=>some []
 | .p (.val v) :: l=>if v.oneCell'=true then (Aay l).map (v :: ·) else none
 | _=>none
def Aoq:AV→Option Value
 | .agg cs=>(Aay cs).map fun l=>.agg l.toArray
 | _=>none
theorem Sz:∀ {cs:List AV} {l:List Value},Aay cs=some l→(l.all Value.oneCell'=true)∧(l.map fun c=>AV.p (.val c))=cs
 | [],l,h=>by cases h; exact ⟨rfl,rfl⟩
 | x :: r,l,h=>by
  unfold Aay at h
  split at h
  ·rename_i he; cases he
  ·rename_i v l' heq
   cases heq
   split at h
   ·rename_i hv
    obtain ⟨m,h1,rfl⟩:=Option.map_eq_some_iff.1 h
    obtain ⟨h2,h3⟩:=Sz h1
    exact ⟨by simp [hv,h2],by simp [h3]⟩
   ·cases h
  ·cases h
theorem Ael {x:AV} {v:Value} (h:Aoq x=some v):D4 v=true∧x=Bd v:=by
 unfold Aoq at h
 split at h
 ·obtain ⟨l,h1,rfl⟩:=Option.map_eq_some_iff.1 h
  obtain ⟨h2,h3⟩:=Sz h1
  refine ⟨h2,?_⟩
  rw [Gw (by simpa using h2),← h3]
 ·cases h
def Aox (p:RP) (dst:Option Nat) (t:TypeId) (x i:AV) (s:XS):Option XS:=
 match p.mt t,x,i with
 | some (n,z),.mp m,.agg cs=>match Jn m s.o,Cn cs with
  | some (.map n' kv),some ks=>if n'=n∧ks.length=n∧ks.all inR=true then match Ha ks kv with
    | some v=>if D4 v=true then some (Nz dst (.tup [Bd v,.p (.val (.bool true))]) s) else none
    | none=>some (Nz dst (.tup [Bd z,.p (.val (.bool false))]) s)
   else none
  | _,_=>none
 | _,_,_=>none
theorem Afd (hp:Pn P p) {dst:Option Nat} {t:TypeId} {x i:AV} {s s':XS} (h:Aox p dst t x i s=some s') (hK:K (s'.st L)):∃ A B,LV P t x i (OX L s.o) A B∧K ((s.st L).put dst A)∧K ((s.st L).put dst B):=by
 unfold Aox at h
 split at h
 ·rename_i n z m cs hmt
  obtain ⟨k,e,g1,g2,g3,g4⟩:=hp.mt _ _ _ hmt
  split at h
  ·rename_i n' kv ks hg hi
   split at h
   ·rename_i hc
    obtain ⟨rfl,h1,h2⟩:=hc
    have hO:=E4 (L:=L) hg
    split at h
    ·rename_i v hv
     split at h
     ·rename_i hf
      cases h
      rw [E7] at hK
      exact ⟨_,_,⟨k,e,m,n',z,cs,ks,g1,g2,g3,g4,rfl,rfl,hi,h1,h2,.inr ⟨kv,hO,rfl,.inl ⟨v,hv,hf,rfl⟩⟩⟩,hK,hK⟩
     ·cases h
    ·rename_i hv
     cases h
     rw [E7] at hK
     exact ⟨_,_,⟨k,e,m,n',z,cs,ks,g1,g2,g3,g4,rfl,rfl,hi,h1,h2,.inr ⟨kv,hO,rfl,.inr ⟨hv,rfl⟩⟩⟩,hK,hK⟩
   ·cases h
  ·cases h
 ·cases h
def Ayt (p:RP) (t:TypeId) (x i y:AV) (s:XS):Option XS:=
 match p.mt t,x,i with
 | some (n,_),.mp m,.agg cs=>match Jn m s.o,Cn cs,Aoq y with
  | some (.map n' kv),some ks,some v=>if n'=n∧ks.length=n∧ks.all inR=true∧(Ha ks kv).isNone=true∧W2 n (kv++[(ks,v)])=true then some (Azd m (.map n (kv++[(ks,v)])) s) else none
  | _,_,_=>none
 | _,_,_=>none
theorem Ah6 (hp:Pn P p) {t:TypeId} {x i y:AV} {s s':XS} (h:Ayt p t x i y s=some s'):UV P t x i y (s.st L) (s'.st L):=by
 unfold Ayt at h
 split at h
 ·rename_i n z m cs hmt
  obtain ⟨k,e,g1,g2,g3,g4⟩:=hp.mt _ _ _ hmt
  split at h
  ·rename_i n' kv ks v hg hi hv
   split at h
   ·rename_i hc
    obtain ⟨rfl,h1,h2,h3,h4⟩:=hc
    cases h
    obtain ⟨f1,f2⟩:=Ael hv
    exact ⟨k,e,m,n',cs,ks,g1,g4,rfl,rfl,hi,h1,h2,.inr ⟨kv,v,E4 hg,Option.isNone_iff_eq_none.1 h3,h4,f1,f2,Ag2⟩⟩
   ·cases h
  ·cases h
 ·cases h
noncomputable def oX (P:Program) (p:RP) (rec:Cmd→Option Out) (L:List LK) (b N:Nat) (dst:Option Nat) (s:XS):Op→Option XS
 | .makeMap t none=>match p.mt t,dst with
  | some (n,_),some d=>match ltN d N,N0 (b+d) s.o with
   | true,false=>some (Nz (some d) (.mp (b+d)) (An0 (b+d) (.map n []) s))
   | _,_=>none
  | _,_=>none
 | .lookup t x i true=>Aox p dst t (ev (Fk s.t) x) (ev (Fk s.t) i) s
 | .mapUpdate t x i y=>match dst with
  | none=>Ayt p t (ev (Fk s.t) x) (ev (Fk s.t) i) (ev (Fk s.t) y) s
  | some _=>none
 | .call ⟨.value (.func f),as,_⟩=>match Sa f p.v with
  | true=>match Sa f p.q with
   | true=>qcX rec L b N dst (.fn (.func f) [] []) (as.toList.map (ev (Fk s.t))) s
   | false=>vcX p rec L b N dst (.fn (.func f) [] []) (as.toList.map (ev (Fk s.t))) s
  | false=>pcX P p rec L b N dst f (as.toList.map (ev (Fk s.t))) s
 | .call ⟨.value (.tmp i),as,_⟩=>vcX p rec L b N dst (Fk s.t i) (as.toList.map (ev (Fk s.t))) s
 | op=>match isM op||(Cd op||De op) with
  | true=>none
  | false=>match Mc p.ty (b+dst.getD 0) op (ev (Fk s.t)) (G4 L s.o) with
   | some e=>Ab5 b dst s L e
   | none=>match Ax7 P p (b+dst.getD 0) op (ev (Fk s.t)) (G4 L s.o) with
    | some e=>Ab5 b dst s L e
    | none=>none
theorem Agh (hp:Pn P p) (hs:L7 P p rec) {o:Oper} {s s':XS} (hd:Bx N o.dst=true) (h:oX P p rec L b N o.dst s o.op=some s') (hK:K (s'.st L)):EO P (rbX p rd b) N o (s.st L) K:=by
 obtain ⟨dst,op,ty,pos,after,g⟩:=o
 dsimp only at h hd ⊢
 unfold oX at h
 simp only [Hi] at h
 split at h
 ·split at h
  ·rename_i n z d hmt
   split at h
   ·rename_i hlt hn
    cases h
    rw [E7,Tm] at hK
    rw [T0]
    exact ⟨d,_,.inr ⟨n,rfl⟩,rfl,F6.1 hlt,Q6 hn,hK⟩
   ·cases h
  ·cases h
 ·rw [Yf]
  exact ⟨hd,Afd hp h hK⟩
 ·split at h
  ·rw [Q0]
   exact ⟨rfl,_,Ah6 hp h,hK⟩
  ·cases h
 ·rename_i f as ts
  simp only [Ahl] at h
  split at h
  ·rename_i hv
   unfold EO
   rw [if_neg (by simp [isM]),if_pos (by exact hv)]
   show (if p.q.contains f=true then EVq _ _ _ _ _ _ _ _ else EVk _ _ _ _ _ _ _ _)
   split at h
   ·rename_i hq
    rw [if_pos hq]
    exact Am6 hs hd h hK
   ·rename_i hq
    rw [if_neg (by rw [hq]; decide)]
    exact Abj hs hd h hK
  ·rename_i hv
   unfold EO
   rw [if_neg (by simp [isM]),if_neg (by show ¬ (p.v.contains f=true); rw [hv]; decide),if_pos (by rfl)]
   exact ⟨hd,Al1 hp hs h hK⟩
 ·rename_i i as ts
  rw [Ab6]
  exact Abj hs hd h hK
 ·split at h
  ·cases h
  ·rename_i hc
   simp only [Bool.or_eq_false_iff] at hc
   obtain ⟨c1,c2,c3⟩:=hc
   have key:∀ e,eff P (b+dst.getD 0) op (ev (T s.t)) (OX L s.o)=some e→Ab5 b dst s L e=some s'→EO P (rbX p rd b) N ⟨dst,op,ty,pos,after,g⟩ (s.st L) K:=by
    intro e he h
    unfold EO
    rw [if_neg (by simp [c1]),if_neg (by simp [Rk c2]),if_neg (by simp [c2])]
    refine ⟨⟨c3,hd⟩,?_⟩
    show EA b dst (s.st L) K (eff P (b+dst.getD 0) op (ev (T s.t)) (OX L s.o))
    rw [he]
    simp only [EA]
    rw [Ajz h]
    exact hK
   split at h
   ·rename_i e he
    exact key e (Ajx hp.ty he) h
   ·split at h
    ·rename_i e he
     exact key e (Akz hp he) h
    ·cases h
def Axh (N:Nat):Option Nat→Bool
 | none=>true
 | some d=>ltN d N
theorem Aj0 {d:Option Nat} (h:Axh N d=true):Bx N d=true:=by
 cases d with
 | none=>rfl
 | some d=>exact decide_eq_true (F6.1 h)
def eqB:Bool→Bool→Bool
 | true,true=>true
 | false,false=>true
 | _,_=>false
theorem Agw {a b:Bool}:eqB a b=true↔a=b:=by cases a <;> cases b <;> decide
noncomputable def Ade (P:Program) (p:RP) (rec:Cmd→Option Out) (L:List LK) (b N:Nat) (all:List Oper):List Oper→XS→Option XS
 | [],s=>some s
 | o :: rest,s=>match Axh N o.dst with
  | false=>none
  | true=>match o.guard with
   | none=>match oX P p rec L b N o.dst s o.op with
    | some s1=>Ade P p rec L b N all rest s1
    | none=>none
   | some (j,want)=>match He all j with
    | none=>none
    | some t=>match Fk s.t t with
     | .p (.val (.bool c))=>match eqB c want with
      | true=>match oX P p rec L b N o.dst s o.op with
       | some s1=>Ade P p rec L b N all rest s1
       | none=>none
      | false=>Ade P p rec L b N all rest (Nz o.dst Cg s)
     | .tup []=>Ade P p rec L b N all rest (Nz o.dst Cg s)
     | _=>none
theorem E6 (hp:Pn P p) (hs:L7 P p rec) {all:List Oper}:∀ {l:List Oper} {s s':XS},Ade P p rec L b N all l s=some s'→K (s'.st L)→EL P (rbX p rd b) N all l (s.st L) K
 | [],s,s',h,hK=>by cases h; exact hK
 | o :: rest,s,s',h,hK=>by
  simp only [Ade,Hi] at h
  simp only [EL]
  split at h
  ·cases h
  ·rename_i hd
   have hd:=Aj0 hd
   split at h
   ·rename_i hg
    rw [hg]
    split at h
    ·rename_i s1 h1
     exact Agh (K:=fun s'=>EL P (rbX p rd b) N all rest s' K) hp hs hd h1 (E6 hp hs h hK)
    ·cases h
   ·rename_i j want hg
    split at h
    ·cases h
    ·rename_i t ht
     split at h
     ·rename_i c hc
      rw [hg]
      simp only [ht,hc]
      split at h
      ·rename_i hcw
       rw [Agw] at hcw
       split at h
       ·rename_i s1 h1
        refine ⟨hd,fun _=>Agh (K:=fun s'=>EL P (rbX p rd b) N all rest s' K) hp hs hd h1 (E6 hp hs h hK),fun e=>?_⟩
        rw [hcw] at e; cases want <;> cases e
       ·cases h
      ·rename_i hcw
       refine ⟨hd,fun e=>?_,fun _=>?_⟩
       ·rw [Agw.2 e] at hcw; cases hcw
       ·have:=E6 hp hs h hK
        rw [E7] at this
        exact this
     ·rename_i hc
      rw [hg]
      simp only [ht,hc]
      refine ⟨hd,?_⟩
      have:=E6 hp hs h hK
      rw [E7] at this
      exact this
     ·cases h
def Rg:CK→Option (Bool × Nat × List Operand)
 | .call f xs=>some (true,f,xs)
 | .callv i xs=>some (false,i,xs)
 | _=>none
def cI (ty:TypeId→TI) (all:List Oper) (o:Oper):CI:=⟨Rg (cK ty o.op),cK ty o.op,o.op,o.dst,o.guard.map fun g=>(He all g.1,g.2)⟩
def cIs (ty:TypeId→TI) (all:List Oper):List Oper→List CI
 | []=>[]
 | o :: r=>cI ty all o :: cIs ty all r
noncomputable def oE (P:Program) (p:RP) (rec:Cmd→Option Out) (L:List LK) (b N:Nat) (dst:Option Nat) (s:XS) (op:Op):Option Eff→Option XS
 | some e=>Ab5 b dst s L e
 | none=>oX P p rec L b N dst s op
def oF (P:Program) (p:RP) (rec:Cmd→Option Out) (L:List LK) (b N:Nat) (dst:Option Nat) (s:XS) (f:Nat) (as:List AV):Bool→Bool→Option XS
 | true,true=>qcX rec L b N dst (.fn (.func f) [] []) as s
 | true,false=>vcX p rec L b N dst (.fn (.func f) [] []) as s
 | false,_=>pcX P p rec L b N dst f as s
noncomputable def oC (P:Program) (p:RP) (rec:Cmd→Option Out) (L:List LK) (b N:Nat) (s:XS) (dst:Option Nat) (k:CK) (op:Op):Option (Bool × Nat × List Operand)→Option XS
 | some (true,f,xs)=>oF P p rec L b N dst s f (xs.map (ev (Fk s.t))) (Sa f p.v) (Sa f p.q)
 | some (false,i,xs)=>vcX p rec L b N dst (Fk s.t i) (xs.map (ev (Fk s.t))) s
 | none=>oE P p rec L b N dst s op (Pq (b+dst.getD 0) (ev (Fk s.t)) (G4 L s.o) k)
theorem Ae0 {op:Op} {f:Nat} {xs:List Operand} (h:Rg (cK p.ty op)=some (true,f,xs)):∃ (ys:Array Operand) (ts:Array TypeId),op=.call ⟨.value (.func f),ys,ts⟩∧ys.toList=xs:=by
 unfold cK Zm Ag8 Aa1 Asr cFa Ahq Ar3 cIa cIx at h
 repeat' split at h
 all_goals first
  | (simp only [Rg,Option.some.injEq,Prod.mk.injEq,Bool.false_eq_true,false_and,reduceCtorEq] at h; done)
  | (simp only [Rg,Option.some.injEq,Prod.mk.injEq,true_and] at h; obtain ⟨rfl,rfl⟩:=h; exact ⟨_,_,rfl,rfl⟩)
theorem Adw {op:Op} {i:Nat} {xs:List Operand} (h:Rg (cK p.ty op)=some (false,i,xs)):∃ (ys:Array Operand) (ts:Array TypeId),op=.call ⟨.value (.tmp i),ys,ts⟩∧ys.toList=xs:=by
 unfold cK Zm Ag8 Aa1 Asr cFa Ahq Ar3 cIa cIx at h
 repeat' split at h
 all_goals first
  | (simp only [Rg,Option.some.injEq,Prod.mk.injEq,Bool.true_eq_false,false_and,reduceCtorEq] at h; done)
  | (simp only [Rg,Option.some.injEq,Prod.mk.injEq,true_and] at h; obtain ⟨rfl,rfl⟩:=h; exact ⟨_,_,rfl,rfl⟩)
theorem Aev {ty:TypeId→TI} {d:Nat} {op:Op} {ρ:Operand→AV} {os:Nat→Option AO} {e:Eff} (h:Mc ty d op ρ os=some e):(isM op||(Cd op||De op))=false:=by
 cases op <;> first | rfl | (simp only [Mc,reduceCtorEq] at h; done)
theorem Ahd {s s':XS} {dst:Option Nat} {op:Op} (h:oC P p rec L b N s dst (cK p.ty op) op (Rg (cK p.ty op))=some s'):oX P p rec L b N dst s op=some s':=by
 cases hc:Rg (cK p.ty op) with
 | some q=>
  obtain ⟨q1,f,xs⟩:=q
  rw [hc] at h
  cases q1 with
  | true=>
   obtain ⟨ys,ts,rfl,rfl⟩:=Ae0 hc
   simp only [oC] at h
   unfold oX
   dsimp only
   cases h1:Sa f p.v with
   | true=>
    rw [h1] at h
    cases h2:Sa f p.q with
    | true=>rw [h2] at h; exact h
    | false=>rw [h2] at h; exact h
   | false=>rw [h1] at h; exact h
  | false=>
   obtain ⟨ys,ts,rfl,rfl⟩:=Adw hc
   exact h
 | none=>
  rw [hc] at h
  simp only [oC] at h
  cases he:Pq (b+dst.getD 0) (ev (Fk s.t)) (G4 L s.o) (cK p.ty op) with
  | none=>rw [he] at h; exact h
  | some e=>
   rw [he] at h
   have h1:=Aiz he
   have h2:=Aev h1
   unfold oX
   split
   all_goals first
    | (cases h2; done)
    | (rw [h2]; dsimp only; rw [h1]; exact h)
noncomputable def U2 (P:Program) (p:RP) (rec:Cmd→Option Out) (L:List LK) (b N:Nat):List CI→XS→Option XS
 | [],s=>some s
 | c :: rest,s=>match Axh N c.dst with
  | false=>none
  | true=>match c.gd with
   | none=>match oC P p rec L b N s c.dst c.k c.op c.c with
    | some s1=>U2 P p rec L b N rest s1
    | none=>none
   | some (none,_)=>none
   | some (some t,want)=>match Fk s.t t with
    | .p (.val (.bool x))=>match eqB x want with
     | true=>match oC P p rec L b N s c.dst c.k c.op c.c with
      | some s1=>U2 P p rec L b N rest s1
      | none=>none
     | false=>U2 P p rec L b N rest (Nz c.dst Cg s)
    | .tup []=>U2 P p rec L b N rest (Nz c.dst Cg s)
    | _=>none
theorem E9 {all:List Oper}:∀ {l:List Oper} {s s':XS},U2 P p rec L b N (cIs p.ty all l) s=some s'→Ade P p rec L b N all l s=some s'
 | [],s,s',h=>h
 | o :: rest,s,s',h=>by
  simp only [cIs,U2,cI] at h
  simp only [Ade]
  split at h
  ·cases h
  ·rename_i hd
   try rw [hd]
   try dsimp only
   cases hg:o.guard with
   | none=>
    rw [hg] at h
    dsimp only [Option.map] at h ⊢
    split at h
    ·rename_i s1 h1
     rw [Ahd h1]
     exact E9 h
    ·cases h
   | some g=>
    obtain ⟨j,want⟩:=g
    rw [hg] at h
    dsimp only [Option.map] at h ⊢
    cases ht:He all j with
    | none=>rw [ht] at h; cases h
    | some t=>
     rw [ht] at h
     dsimp only at h ⊢
     split at h
     ·rename_i x hx
      try rw [hx]
      try dsimp only
      split at h
      ·rename_i hw
       try rw [hw]
       try dsimp only
       split at h
       ·rename_i s1 h1
        rw [Ahd h1]
        exact E9 h
       ·cases h
      ·rename_i hw
       try rw [hw]
       exact E9 h
     ·rename_i hx
      try rw [hx]
      exact E9 h
     ·cases h
end
section
variable {P:Program} {r:RB} {N:Nat} {ops:List Oper}
theorem Aoj {b:Nat→Nat} (hb:Sw ops b) {Pr:List Nat→St→Prop} {K:St→Prop} (hdone:∀ s,Pr [] s→K s)
  (hstep:∀ (pre post:List Nat) (i:Nat) (o:Oper) (s:St),s.closed→(pre++i :: post).Pairwise (· < ·)→(∀ k ∈ pre++i :: post,k < ops.length)→(∀ k ∈ pre++post,k < i→(b i).testBit k=false)→ops[i]?=some o→Pr (pre++i :: post) s→∃ K',EL P r N ops [o] s K'∧∀ s',K' s'→Pr (pre++post) s')
  {Q:Exit→Act→World→Prop} :
  ∀ (fuel:Nat) (listed:Array Bool) (s:St) (B:Nat) (S:Nat→Prop) (θ:Nat→Loc) (M:Nat→Prop) (w:World) (a:Act),Ar N B S θ M w s a→listed.size=ops.length→Nq ops listed→(Bt ops.length listed).length≤fuel →
   Pr (Bt ops.length listed) s→(∀ s' a' w',K s'→Fin r N B S θ M w a s' a' w'→Q .normal a' w')→wpAnyIn (Wd r.rd) 0 P .any ops.toArray Q fuel listed a w:=by
 intro fuel
 have hready:∀ {listed:Array Bool} {x:Nat},x ∈ Region.ready .any ops.toArray listed→x ∈ Bt ops.length listed:=fun h=>((Cr rfl).1 h).1
 induction fuel with
 | zero=>
  intro listed s B S θ M w a hs hsz hcl hf hE hQ
  have hnil:Bt ops.length listed=[]:=List.length_eq_zero_iff.1 (by omega)
  refine ⟨List.eq_nil_iff_forall_not_mem.2 fun x hx=>?_,?_⟩
  ·have:=hready hx
   rw [hnil] at this; cases this
  ·rw [hnil] at hE
   exact hQ s a w (hdone s hE) ⟨G6.refl hs,rfl⟩
 | succ fuel ih=>
  intro listed s B S θ M w a hs hsz hcl hf hE hQ
  refine ⟨fun hr=>?_,fun i hi=>?_⟩
  ·have hnil:Bt ops.length listed=[]:=by
    cases hrem:Bt ops.length listed with
    | nil=>rfl
    | cons x l=>
     exfalso
     have hx:x ∈ Bt ops.length listed:=by rw [hrem]; simp
     have hsort:(Bt ops.length listed).Pairwise (· < ·):=(List.pairwise_lt_range).filter _
     rw [hrem,List.pairwise_cons] at hsort
     obtain ⟨hxn,hxl⟩:=C0.1 hx
     have:x ∈ Region.ready .any ops.toArray listed:=(Cr rfl).2 ⟨hx,ops[x],by simp [hxn],fun e he hbe=>by
      have hlt:=hb.lt x ops[x] (by simp [hxn]) e he hbe
      cases hl:listed.getD e.on false with
      | true=>rfl
      | false=>
       exfalso
       have hen:e.on < ops.length:=Nat.lt_trans hlt hxn
       have:e.on ∈ Bt ops.length listed:=C0.2 ⟨hen,by
        rw [Array.getD_eq_getD_getElem?] at hl ⊢
        have hsz':e.on < listed.size:=by omega
        simp only [Array.getElem?_eq_getElem hsz',Option.getD_some] at hl ⊢
        exact hl⟩
       rw [hrem] at this
       rcases List.mem_cons.1 this with h | h
       ·omega
       ·have:=hsort.1 _ h; omega⟩
     rw [hr] at this; cases this
   rw [hnil] at hE
   exact hQ s a w (hdone s hE) ⟨G6.refl hs,rfl⟩
  ·obtain ⟨hrem,o,ho,hafter⟩:=(Cr rfl).1 hi
   obtain ⟨pre,post,he,hpre,hset⟩:=Jj hsz hrem
   have hsort:(pre++i :: post).Pairwise (· < ·):=by rw [← he]; exact (List.pairwise_lt_range).filter _
   have hlt:∀ k ∈ pre++i :: post,k < ops.length:=fun k hk=>(C0.1 (show k ∈ Bt ops.length listed by rw [he]; exact hk)).1
   have hnl:∀ k ∈ pre++i :: post,listed.getD k true=false:=fun k hk=>(C0.1 (show k ∈ Bt ops.length listed by rw [he]; exact hk)).2
   have hfree:∀ k ∈ pre++post,k < i→(b i).testBit k=false:=fun k hk hki=>by
    cases ht:(b i).testBit k with
    | false=>rfl
    | true=>
     have h1:=F2 hb hcl i o ho hafter hki ht
     have h2:=hnl k (by
      rcases List.mem_append.1 hk with h | h
      ·simp [h]
      ·simp [h])
     rw [Qk h2] at h1; cases h1
   rw [he] at hE
   obtain ⟨K',hE',hK'⟩:=hstep pre post i o s hs.cl hsort hlt hfree ho hE
   refine wpOpIn_mono ?_ (Tn (l:=[]) ho hs hE')
   rintro a' w' ⟨s1,hE1,hF⟩
   have hE1:=hK' s1 hE1
   obtain ⟨θ',M',hs',hcomp⟩:=hF.comp
   refine ih _ s1 B S θ' M' w' a' hs' (by simpa using hsz) ?_ ?_ ?_ (fun s' a'' w'' hK hF'=>hQ s' a'' w'' hK (hcomp _ _ _ hF'))
   ·intro k ok hk hl e hek hbe
    have hmono:∀ m,listed.getD m false=true→(listed.setIfInBounds i true).getD m false=true:=fun m hm=>by
     rw [Array.getD_eq_getD_getElem?] at hm ⊢
     rw [Array.getElem?_setIfInBounds]
     split
     ·split <;> simp_all
     ·exact hm
    by_cases hki:k=i
    ·subst hki
     rw [ho] at hk; cases hk
     exact hmono _ (hafter e hek hbe)
    ·have:listed.getD k false=true:=by
      rw [Array.getD_eq_getD_getElem?] at hl ⊢
      rw [Array.getElem?_setIfInBounds,if_neg (Ne.symm hki)] at hl
      exact hl
     exact hmono _ (hcl k ok hk this e hek hbe)
   ·rw [hset]
    rw [he] at hf
    simp only [List.length_append,List.length_cons] at hf ⊢
    omega
   ·rw [hset]; exact hE1
def Pe (m n:Nat):List Nat:=(List.range (n - m)).map (·+m)
theorem Gx {m n k:Nat}:k ∈ Pe m n↔m≤k∧k < n:=by
 unfold Pe
 rw [List.mem_map]
 constructor
 ·rintro ⟨x,hx,rfl⟩
  rw [List.mem_range] at hx; omega
 ·rintro ⟨h1,h2⟩
  exact ⟨k - m,List.mem_range.2 (by omega),by omega⟩
def PS (P:Program) (r:RB) (N:Nat) (ops:List Oper) (m:Nat) (K2 K:St→Prop) (rem:List Nat) (s:St):Prop:=
 (∃ l,l≠[]∧rem=l++Pe m ops.length∧(∀ k ∈ l,k < m)∧EL P r N ops (l.filterMap (ops[·]?)) s K2)∨((∀ k ∈ rem,m≤k)∧EL P r N ops (rem.filterMap (ops[·]?)) s K)
def Azm (n m:Nat) (b:Nat→Nat):Bool:=(Pe m n).all fun k=>Tl (b k) m
def Agt (P:Program) (v q:List Nat) (ops tl:List Oper) (m:Nat) (i j:Nat) (oi oj:Oper):Option (List Cf):=match Ye P v q ops tl m i j oi oj with
 | some c=>some c
 | none=>if (Aeh P ops oj oi&&Aai oi.op)=true then some [] else none
def Aid (P:Program) (v q:List Nat) (ops tl:List Oper) (m i:Nat) (oi:Oper):List (Oper × Nat)→Option (List Cf)
 | []=>some []
 | (oj,j) :: r=>if m.testBit j=true then Aid P v q ops tl m i oi r else
  match Agt P v q ops tl m i j oi oj,Aid P v q ops tl m i oi r with
  | some a,some b=>some (a++b)
  | _,_=>none
def Y2 (P:Program) (v q:List Nat) (ops tl:List Oper) (b:Nat→Nat):List (Oper × Nat)→Option (List Cf)
 | []=>some []
 | (oi,i) :: r=>match Aid P v q ops tl (b i) i oi (ops.take i).zipIdx,Y2 P v q ops tl b r with
  | some a,some c=>some (a++c)
  | _,_=>none
theorem Rm {P:Program} {tl:List Oper} {v q:List Nat} {m i:Nat} {oi:Oper}:∀ {l:List (Oper × Nat)} {c:List Cf},Aid P v q ops tl m i oi l=some c→∀ p ∈ l,m.testBit p.2=false→∃ c',Agt P v q ops tl m i p.2 oi p.1=some c'∧∀ x ∈ c',x ∈ c
 | [],_,_,p,hp,_=>by cases hp
 | (oj,j) :: l,c,h,p,hp,ht=>by
  simp only [Aid] at h
  split at h
  ·rename_i hj
   rcases List.mem_cons.1 hp with e | hp
   ·subst e; rw [ht] at hj; cases hj
   ·exact Rm h p hp ht
  ·split at h
   ·rename_i a b h1 h2
    cases h
    rcases List.mem_cons.1 hp with e | hp
    ·subst e; exact ⟨a,h1,fun x hx=>by simp [hx]⟩
    ·obtain ⟨c',g1,g2⟩:=Rm h2 p hp ht
     exact ⟨c',g1,fun x hx=>by simp [g2 x hx]⟩
   ·cases h
theorem Wh {P:Program} {tl:List Oper} {v q:List Nat} {b:Nat→Nat}:∀ {l:List (Oper × Nat)} {c:List Cf},Y2 P v q ops tl b l=some c→∀ p ∈ l,∃ c',Aid P v q ops tl (b p.2) p.2 p.1 (ops.take p.2).zipIdx=some c'∧∀ x ∈ c',x ∈ c
 | [],_,_,p,hp=>by cases hp
 | (oi,i) :: l,c,h,p,hp=>by
  simp only [Y2] at h
  split at h
  ·rename_i a d h1 h2
   cases h
   rcases List.mem_cons.1 hp with e | hp
   ·subst e; exact ⟨a,h1,fun x hx=>by simp [hx]⟩
   ·obtain ⟨c',g1,g2⟩:=Wh h2 p hp
    exact ⟨c',g1,fun x hx=>by simp [g2 x hx]⟩
  ·cases h
theorem Ak4 {D:(Nat→AV)→Prop} {oi oj:Oper} {l:List Oper} (h:(Aeh P ops oj oi&&Aai oi.op)=true):H5 P r N ops oj∧H4 P r N ops D oj oi l:=by
 simp only [Aeh,Bool.and_eq_true,Option.isNone_iff_eq_none] at h
 obtain ⟨⟨⟨⟨⟨k1,k2⟩,k3⟩,k4⟩,k5⟩,k6⟩:=h
 obtain ⟨f1,f2,f3⟩:=Gm k1
 have hv:isV r.v oj.op=false:=by
  cases ho:oj.op <;> first | rfl | (rw [ho] at k1; cases k1; done) | skip
  rename_i c
  rw [ho] at k1
  obtain ⟨f,_,_⟩:=c
  cases f <;> first | rfl | cases k1
 have hpl:Gs r.v oj=true:=by
  simp [Gs,k2,f1,f2,f3,hv,k1]
 refine ⟨fun l l' s K hc hl hE=>Amy hpl hc (fun s1 h1 _ h2=>hl s1 h1 h2) hE,fun s K hc _ hE=>Uw k1 k2 k3 k4 k5 hc (fun h=>by rw [k6] at h; cases h) hE⟩
theorem Aga {tl:List Oper} {b:Nat→Nat} {cfs c:List Cf} {i j:Nat} {oi oj:Oper} {rest:List Nat} (hc:Agt P r.v r.q ops tl (b i) i j oi oj=some c) (hsub:∀ x ∈ c,x ∈ cfs) (hji:j < i) (hi:ops[i]?=some oi) (hj:ops[j]?=some oj) (hbit:(b i).testBit j=false)
  (hrest:∀ k ∈ rest,j < k∧k≠i∧(k < i→(b i).testBit k=false)) (htl:∀ k ∈ rest,∀ o,ops[k]?=some o→o ∈ tl):H5 P r N ops oj∧H4 P r N ops (fun f=>∀ x ∈ cfs,x.ok f=true) oj oi (rest.filterMap (ops[·]?)):=by
 unfold Agt at hc
 split at hc
 ·rename_i c' hc'
  cases hc
  exact Pp (b:=b) hc' hsub hji hi hj hbit hrest htl
 ·split at hc
  ·rename_i h
   exact Ak4 h
  ·cases hc
def Aha (P:Program) (v q:List Nat) (m:Nat) (ops:List Oper) (cfs:List Cf):Bool:=Jx ops [] fun l=>Mv ops (fun i=>l.getD i 0)&&(decide (m≤ops.length)&&(Azm ops.length m (fun i=>l.getD i 0)&&(Qw v ops (fun i=>l.getD i 0) (Pe m ops.length)&&match Y2 P v q ops (ops.take m) (fun i=>l.getD i 0) (ops.take m).zipIdx with | some c=>X3 c cfs | none=>false)))
theorem Ah4 {pre post l:List Nat} {i m n:Nat} (h:pre++i :: post=l++Pe m n) (hi:i < m) (_:∀ k ∈ l,k < m):∃ post',post=post'++Pe m n∧l=pre++i :: post':=by
 have hmem:i ∈ l:=by
  have:i ∈ l++Pe m n:=by rw [← h]; simp
  rcases List.mem_append.1 this with h | h
  ·exact h
  ·have:=(Gx.1 h).1; omega
 rcases List.append_eq_append_iff.1 h with ⟨c,h1,h2⟩ | ⟨c,h1,h2⟩
 ·cases c with
  | nil=>
   rw [List.nil_append] at h2
   have:i ∈ Pe m n:=by rw [← h2]; simp
   have:=(Gx.1 this).1; omega
  | cons x c=>
   rw [List.cons_append] at h2
   injection h2 with h3 h4
   subst h3
   exact ⟨c,h4,h1⟩
 ·cases c with
  | nil=>
   rw [List.nil_append] at h2
   have:i ∈ Pe m n:=by rw [h2]; simp
   have:=(Gx.1 this).1; omega
  | cons x c=>
   have:i ∈ Pe m n:=by rw [h2]; simp
   have:=(Gx.1 this).1; omega
theorem Ug {id:Nat} {st:St} {Q:AEx→St→Prop} (m:Nat) (cfs:List Cf) (hm:P.follows .mixedOrders=true) (hchk:Aha P r.v r.q m ops cfs=true)
  (h:EL P r N ops (ops.take m) st (fun s=>(cfs.all fun c=>c.ok s.t)=true∧EL P r N ops (ops.drop m) s (Q .normal))):AWP P r N (.region id ops.toArray true) st Q:=by
 obtain ⟨l,hl⟩:=Hv hchk
 simp only [Bool.and_eq_true,decide_eq_true_eq] at hl
 obtain ⟨hl1,hmn,hl3,hl4,hl2⟩:=hl
 clear hchk
 have hrows:Y2 P r.v r.q ops (ops.take m) (fun i=>l.getD i 0) (ops.take m).zipIdx=some cfs:=by
  revert hl2
  cases Y2 P r.v r.q ops (ops.take m) (fun i=>l.getD i 0) (ops.take m).zipIdx with
  | none=>intro h; cases h
  | some c=>intro h; rw [Q7 h]
 clear hl2
 generalize hbb:(fun i=>l.getD i 0)=bb at *
 have hb:=Ft hl1
 have hsuf:∀ k,m≤k→k < ops.length→∀ j,j < m→(bb k).testBit j=true:=fun k h1 h2 j hj=>
  Ra (List.all_eq_true.1 hl3 k (Gx.2 ⟨h1,h2⟩)) j hj
 have hget:∀ {i:Nat},i < m→∀ {o:Oper},ops[i]?=some o→(ops.take m)[i]?=some o:=fun {i} hi {o} ho=>by
  rw [List.getElem?_take,if_pos hi]; exact ho
 have htk:(List.range m).filterMap (ops[·]?)=ops.take m:=by
  have e1:(List.range m).filterMap (ops[·]?)=(List.range (ops.take m).length).filterMap ((ops.take m)[·]?):=by
   rw [List.length_take,Nat.min_eq_left hmn]
   have:∀ (l:List Nat),(∀ x ∈ l,x < m)→l.filterMap (ops[·]?)=l.filterMap ((ops.take m)[·]?):=by
    intro l
    induction l with
    | nil=>intro _; rfl
    | cons y l ih=>
     intro h
     rw [List.filterMap_cons,List.filterMap_cons,List.getElem?_take,if_pos (h y (by simp)),ih (fun x hx=>h x (by simp [hx]))]
   exact this _ (fun x hx=>by simpa using hx)
  rw [e1,C1]
 have hrg:List.range ops.length=List.range m++Pe m ops.length:=by
  unfold Pe
  have:ops.length=m+(ops.length - m):=by omega
  conv=>lhs; rw [this]
  rw [List.range_add]
  congr 1
  exact List.map_congr_left fun x _=>by omega
 have hdr:(Pe m ops.length).filterMap (ops[·]?)=ops.drop m:=by
  have h1:(List.range ops.length).filterMap (ops[·]?)=ops:=C1 ops
  rw [hrg,List.filterMap_append,htk] at h1
  have h2:ops.take m++(Pe m ops.length).filterMap (ops[·]?)=ops.take m++ops.drop m:=by rw [h1,List.take_append_drop]
  exact List.append_cancel_left h2
 intro B S θ M w a hs
 refine wpIn_region_any hm ?_
 have hrem:Bt ops.length (Array.replicate ops.length false)=List.range ops.length:=Hw _
 refine Aoj (Pr:=PS P r N ops m (fun s=>(cfs.all fun c=>c.ok s.t)=true∧EL P r N ops (ops.drop m) s (Q .normal)) (Q .normal)) (K:=Q .normal) hb (fun s hp=>?_) (fun pre post i o s hc hsort hlt hfree ho hp=>?_) ops.toArray.size (Array.replicate ops.toArray.size false) st B S θ M _ a (hs.drawn _) (by simp) (fun k o hk hL=>?_) ?_ ?_ (fun s' a' w' hk hF=>⟨.normal,s',rfl,hk,?_⟩)
 ·rcases hp with ⟨l,h1,h2,_,_⟩ | ⟨_,h2⟩
  ·exact absurd (List.append_eq_nil_iff.1 h2.symm).1 h1
  ·exact h2
 ·rcases hp with ⟨l,hne,el,hlm,hE⟩ | ⟨hall,hE⟩
  ·have hi:i < m:=by
    cases Nat.lt_or_ge i m with
    | inl h=>exact h
    | inr h'=>
     exfalso
     obtain ⟨j,hj⟩:=List.exists_mem_of_ne_nil l hne
     have hjm:=hlm j hj
     have hjr:j ∈ pre++i :: post:=by rw [el]; simp [hj]
     have hjp:j ∈ pre++post:=by
      simp only [List.mem_append,List.mem_cons] at hjr ⊢
      rcases hjr with h | h | h
      ·exact .inl h
      ·omega
      ·exact .inr h
     have h1:=hfree j hjp (by omega)
     rw [hsuf i h' (hlt i (by simp)) j hjm] at h1; cases h1
   obtain ⟨post',e1,e2⟩:=Ah4 el hi hlm
   rw [e2,List.filterMap_append,List.filterMap_cons] at hE
   simp only [ho] at hE
   have hpm:∀ k ∈ post',k < m:=fun k hk=>hlm k (by rw [e2]; simp [hk])
   have hprm:∀ k ∈ pre,k < m:=fun k hk=>hlm k (by rw [e2]; simp [hk])
   have hprelt:∀ k ∈ pre,k < i:=fun k hk=>by
    have:=(List.pairwise_append.1 hsort).2.2 k hk i (by simp); exact this
   have hE':=Aau (D:=fun f=>∀ x ∈ cfs,x.ok f=true) (fun s' h=>List.all_eq_true.1 h.1) hc (fun p1 oj p2 hp=>by
    obtain ⟨l1,j,l2,f1,f2,f3⟩:=D8 hp
    have hjp:j ∈ pre:=by rw [f1]; simp
    have hji:=hprelt j hjp
    obtain ⟨c1,g1,g2⟩:=Wh hrows (o,i) (List.mem_zipIdx_iff_getElem?.2 (hget hi ho))
    obtain ⟨c2,g3,g4⟩:=Rm g1 (oj,j) (List.mem_zipIdx_iff_getElem?.2 (by rw [List.getElem?_take,if_pos hji]; first | exact hget (hprm j hjp) f2 | exact f2)) (hfree j (by simp [hjp]) hji)
    have hpp:=Aga (N:=N) (b:=bb) (rest:=l2++post') g3 (fun x hx=>g2 x (g4 x hx)) hji ho f2 (hfree j (by simp [hjp]) hji) (fun k hk=>by
     have hk9:k ∈ l2++post:=by
      rcases List.mem_append.1 hk with h | h
      ·simp [h]
      ·rw [e1]; simp [h]
     have hsort2:=hsort
     rw [f1,List.append_assoc,List.pairwise_append] at hsort2
     have h3:=(List.pairwise_cons.1 hsort2.2.1).1
     have hk':k ∈ l2++i :: post:=by
      rcases List.mem_append.1 hk9 with h | h
      ·simp [h]
      ·simp [h]
     refine ⟨h3 k hk',fun e=>?_,hfree k (by
      rcases List.mem_append.1 hk9 with h | h
      ·rw [f1]; simp [h]
      ·simp [h])⟩
     subst e
     have h4:=List.pairwise_append.1 (show (l2++k :: post).Pairwise (· < ·) from (List.pairwise_cons.1 hsort2.2.1).2)
     rcases List.mem_append.1 hk9 with h | h
     ·have:=h4.2.2 k h k (by simp); omega
     ·have:=(List.pairwise_cons.1 h4.2.1).1 k h; omega) (fun k hk o ho=>List.mem_of_getElem? (hget (by
      rcases List.mem_append.1 hk with h | h
      ·exact hprm k (by rw [f1]; simp [h])
      ·exact hpm k h) ho))
    rw [List.filterMap_append,f3] at hpp
    exact hpp) hE
   rw [show o :: (pre.filterMap (ops[·]?)++post'.filterMap (ops[·]?))=[o]++(pre++post').filterMap (ops[·]?) by simp,Hn] at hE'
   by_cases hnil:pre++post'=[]
   ·rw [hnil] at hE'
    obtain ⟨hp0,hp1⟩:=List.append_eq_nil_iff.1 hnil
    refine ⟨_,hE',fun s' h'=>?_⟩
    right
    have h':(cfs.all fun c=>c.ok s'.t)=true∧EL P r N ops (ops.drop m) s' (Q .normal):=h'
    rw [hp0,e1,hp1,List.nil_append,List.nil_append]
    exact ⟨fun k hk=>(Gx.1 hk).1,by rw [hdr]; exact h'.2⟩
   ·refine ⟨_,hE',fun s' h'=>?_⟩
    left
    exact ⟨pre++post',hnil,by rw [e1]; simp,fun k hk=>by
     rcases List.mem_append.1 hk with h | h
     ·exact hprm k h
     ·exact hpm k h,h'⟩
  ·rw [List.filterMap_append,List.filterMap_cons] at hE
   simp only [ho] at hE
   have hprelt:∀ k ∈ pre,k < i:=fun k hk=>by
    have:=(List.pairwise_append.1 hsort).2.2 k hk i (by simp); exact this
   have h3:=Zw hc (fun oj hoj=>by
    obtain ⟨j,hj,hoj⟩:=List.mem_filterMap.1 hoj
    exact P6 (Zf hl4 (Gx.2 ⟨hall i (by simp),hlt i (by simp)⟩) (Gx.2 ⟨hall j (by simp [hj]),hlt j (by simp [hj])⟩) (hprelt j hj) ho hoj (hfree j (by simp [hj]) (hprelt j hj)))) hE
   rw [show o :: (pre.filterMap (ops[·]?)++post.filterMap (ops[·]?))=[o]++(pre++post).filterMap (ops[·]?) by simp,Hn] at h3
   refine ⟨_,h3,fun s' h'=>?_⟩
   exact .inr ⟨fun k hk=>hall k (by simp only [List.mem_append,List.mem_cons] at hk ⊢; rcases hk with h | h <;> simp [h]),h'⟩
 ·simp only [Array.getD_eq_getD_getElem?,Array.getElem?_replicate] at hL
  split at hL <;> simp at hL
 ·simp only [List.size_toArray]; rw [hrem]; simp
 ·simp only [List.size_toArray]; rw [hrem]
  by_cases hm0:m=0
  ·right
   subst hm0
   refine ⟨fun k _=>Nat.zero_le k,?_⟩
   rw [C1]
   rw [List.take_zero] at h
   exact h.2
  ·left
   refine ⟨List.range m,fun e=>hm0 (by have:=congrArg List.length e; simpa using this),hrg,fun k hk=>by simpa using hk,by rw [htk]; exact h⟩
 ·obtain ⟨⟨θ',M',h1,h2,h3,h4⟩,h5⟩:=hF
  exact ⟨⟨θ',M',h1,⟨h2.size,h2.same,h2.os,h2.tape,h2.output⟩,h3,h4⟩,h5⟩
end
section
variable {P:Program} {r:RB} {N:Nat} {st:St} {Q:AEx→St→Prop}
theorem Vn {c:Code} (m:Nat) (h:Ahu P r N c Q m st):AWP P r N (.loop c) st Q:=by
 intro B S θ M w a hs
 refine wpIn_loop_rounds m ?_
 have key:∀ m st a1 w1,Ahu P r N c Q m st→Fin r N B S θ M w a st a1 w1→Code.roundsIn (Wd r.rd) 0 P c (fun e a' w'=>∃ ae st',e=ae.toExit∧Q ae st'∧Fin r N B S θ M w a st' a' w') m a1 w1:=by
  intro m
  induction m with
  | zero=>intro st a1 w1 h _; exact h.elim
  | succ m ih=>
   intro st a1 w1 h hf
   refine wpIn_mono (AWP.at h hf) fun e a' w' ⟨ae,st',h1,h2,h3⟩=>?_
   subst h1
   cases ae with
   | normal=>exact ih st' a' w' h2 h3
   | exit id=>exact ⟨.exit id,st',rfl,h2,h3⟩
   | ret=>exact ⟨.ret,st',rfl,h2,h3⟩
 exact key m st a w h ⟨G6.refl hs,rfl⟩
theorem AWP.purge {cd:Code} (n:Nat) (h:AWP P r N cd (st.purge n) Q):AWP P r N cd st Q:=fun B S θ M w a hs=>h B S θ M w a (hs.purge n)
theorem Ex.le_end {cd:Code} (h:Ex P r N cd st (fun e s=>∃ s1:St,s1.le s∧Q e s1)):Ex P r N cd st Q:=by
 intro B S θ M w a hs
 refine wpIn_mono (h B S θ M w a hs) ?_
 rintro e a' w' ⟨ae,st',rfl,⟨s1,h1,hq⟩,θ',M',hs',hk,ht,hm,LD,d1,d2,d3⟩
 refine ⟨ae,s1,rfl,hq,θ',M',hs'.weaken h1,hk,ht,hm,LD,d1,d2,fun D hD=>?_⟩
 obtain ⟨e1,e2,e3,e4⟩:=d3 D hD
 refine ⟨e1,e2,e3,fun n o hn hnil=>?_⟩
 rcases h1.o n with h2 | h2
 ·rw [h2] at hn; cases hn
 ·rw [h2] at hn; exact e4 n o hn hnil
theorem AWP.cl {cd:Code} (h:AWP P r N cd st (fun e s=>s.closed→Q e s)):AWP P r N cd st Q:=by
 intro B S θ M w a hs
 refine wpIn_mono (h B S θ M w a hs) ?_
 rintro e a' w' ⟨ae,st',rfl,hq,⟨θ',M',hs',hk,ht,hm⟩,hd⟩
 exact ⟨ae,st',rfl,hq hs'.cl,⟨θ',M',hs',hk,ht,hm⟩,hd⟩
theorem Ex.cl {cd:Code} (h:Ex P r N cd st (fun e s=>s.closed→Q e s)):Ex P r N cd st Q:=by
 intro B S θ M w a hs
 refine wpIn_mono (h B S θ M w a hs) ?_
 rintro e a' w' ⟨ae,st',rfl,hq,θ',M',hs',hk,ht,hm,LD⟩
 exact ⟨ae,st',rfl,hq hs'.cl,θ',M',hs',hk,ht,hm,LD⟩
theorem AWP.cut {cd:Code} {t':Nat→AV} (ht:∀ i,t' i=.undef∨t' i=st.t i) (h:AWP P r N cd ⟨t',st.o⟩ Q):AWP P r N cd st Q:=fun B S θ M w a hs=>
 h B S θ M w a (hs.weaken ⟨ht,fun _=>.inr rfl,⟨fun i=>by
  rcases ht i with e | e
  ·show (t' i).lives st.o
   rw [e]; exact AV.lives_undef _
  ·show (t' i).lives st.o
   rw [e]; exact hs.cl.1 i,hs.cl.2⟩⟩)
theorem Afg {c:Code} (h:Ex P r N c st Q):Ex P r N (.scope c) st Q:=by
 intro B S θ M w a hs
 refine Hc (wpIn_mono (h B S θ M w a hs) ?_)
 rintro e a' w' ⟨ae,st',rfl,h2,h3⟩
 cases ae with
 | normal=>exact ⟨.normal,st',rfl,h2,h3⟩
 | exit id=>exact ⟨.exit id,st',rfl,h2,h3⟩
 | ret=>exact ⟨.ret,st',rfl,h2,h3⟩
theorem Yu {c:Operand} {x y:Code} {b:Bool} (hc:ev st.t c=.p (.val (.bool b))) (ht:b=true→Ex P r N x st Q) (hf:b=false→Ex P r N y st Q):Ex P r N (.cond c x y) st Q:=by
 intro B S θ M w a hs
 exact wpIn_cond_split (Qe (Ao hs c) hc) (fun e=>ht e B S θ M w a hs) (fun e=>hf e B S θ M w a hs)
end
def T4:AV→List Nat
 | .p _=>[]
 | .ptr n _=>[n]
 | .eptr n _ _ _=>[n]
 | .own n _=>[n]
 | .csl n _ _ _=>[n]
 | .fn _ fs cs=>namesL fs++namesL cs
 | .yld n=>[n]
 | .mp n=>[n]
 | .agg cs=>namesL cs
 | .tup cs=>namesL cs
 | .undef=>[]
 where namesL:List AV→List Nat
 | []=>[]
 | x :: r=>T4 x++namesL r
def Al0 (L:List LK):XO→List Nat
 | .cells cs=>T4.namesL cs
 | .loop i _ _=>match L[i]? with | some x=>T4.namesL (x.tm.map (·.2)) | none=>[]
 | _=>[]
def V3 (L:List LK) (o:SG):Nat→List Nat→List Nat→List Nat
 | 0,_,ks=>ks
 | _+1,[],ks=>ks
 | f+1,n :: l,ks=>match Sa n ks with
  | true=>V3 L o f l ks
  | false=>match Jn n o with
   | some x=>V3 L o f (Al0 L x++l) (n :: ks)
   | none=>V3 L o f l ks
def Aff (bd:Nat) (L:List LK):Es→List Nat
 | []=>[]
 | (j,x) :: l=>match ltN j bd with
  | true=>j :: (Al0 L x++Aff bd L l)
  | false=>Aff bd L l
def Anr (bd:Nat) (L:List LK):SG→List Nat
 | []=>[]
 | (_,es) :: r=>Aff bd L es++Anr bd L r
def gcX (L:List LK) (bd:Nat) (ns:List Nat) (o:SG):SG:=match V3 L o 5000 (ns++Anr bd L o) [] with
 | ks=>Af0 (fun n=>Sa n ks) o
theorem Anf {L:List LK} {bd:Nat} {ns:List Nat} {o:SG} (n:Nat):OX L (gcX L bd ns o) n=none∨OX L (gcX L bd ns o) n=OX L o n:=by
 unfold gcX
 dsimp only
 rw [Qf]
 split
 ·exact .inr rfl
 ·exact .inl rfl
def Ax8 (L:List LK) (n:Nat):XO→Bool
 | .cells cs=>AV.clean.cleanL n cs
 | .loop i _ _=>match L[i]? with | some x=>AV.clean.cleanL n (x.tm.map (·.2)) | none=>true
 | _=>true
def Ape (d c:Nat):List (Nat × AV)→Bool
 | []=>true
 | (j,x) :: l=>match eqN j d with
  | true=>Ape d c l
  | false=>match x.clean c with
   | true=>Ape d c l
   | false=>false
def Af4 (L:List LK) (c:Nat):Es→Bool
 | []=>true
 | (j,x) :: l=>match eqN j c with
  | true=>Af4 L c l
  | false=>match Ax8 L c x with
   | true=>Af4 L c l
   | false=>false
def Au2 (L:List LK) (c:Nat):SG→Bool
 | []=>true
 | (_,es) :: r=>match Af4 L c es with
  | true=>Au2 L c r
  | false=>false
def Sy (L:List LK) (b N:Nat):List Nat→XS→XS
 | [],s=>s
 | d :: ds,s=>match Jn (b+d) s.o with
  | some x=>match Kc L (b+d) s.o with
   | true=>match Ape d (b+d) s.t&&Au2 L (b+d) s.o with
    | true=>Sy L b N ds (Aqz (b+d) s)
    | false=>Sy L b N ds (Bce (b+d) (Uy (b+N) (Nx s.o)) x s)
   | false=>Sy L b N ds s
  | none=>Sy L b N ds s
theorem Gl {P:Program} {r:RB} {NN:Nat} {Q:AEx→St→Prop} {cd:Code} {L:List LK} {N:Nat}:∀ {ds:List Nat} {s:XS},AWP P r NN cd ((Sy L r.b N ds s).st L) Q→AWP P r NN cd (s.st L) Q
 | [],s,h=>h
 | d :: ds,s,h=>by
  simp only [Sy] at h
  split at h
  ·rename_i x hd
   split at h
   ·rename_i hl
    split at h
    ·have h:=Gl h
     rw [Aaj hl] at h
     exact h.purge _
    ·have h:=Gl h
     rw [Nl] at h
     have hfree:OX L s.o (max (r.b+N) (Nx s.o))=none:=Ns (by omega)
     rw [Aqy hd hfree hl] at h
     refine Ahi (r.b+d) (max (r.b+N) (Nx s.o)) hfree (fun e=>?_) (.inr (by omega)) h
     rw [← e,E4 hd] at hfree; cases hfree
   ·exact Gl h
  ·exact Gl h
def Agv (L:List LK) (b:Nat) (o:SG):List Nat→Bool
 | []=>true
 | d :: l=>!N0 (b+d) o&&Agv L b o l
theorem Wc {L:List LK} {b:Nat} {o:SG}:∀ {l:List Nat},Agv L b o l=true→Aa9 (OX L o) b l
 | [],_=>trivial
 | d :: l,h=>by
  simp only [Agv,Bool.and_eq_true,Bool.not_eq_true'] at h
  exact ⟨Q6 h.1,Wc h.2⟩
def Axk (_:List Nat):Op→Bool
 | .alloc _=>true
 | .box _ _=>true
 | .makeMap _ _=>true
 | .makeSlice _ _ _=>true
 | .buildSlice _ _ _=>true
 | .call _=>true
 | _=>false
def Zc (v:List Nat):List Oper→List Nat
 | []=>[]
 | o :: l=>match Axk v o.op,o.dst with
  | true,some d=>d :: Zc v l
  | _,_=>Zc v l
noncomputable def Ayb (P:Program) (p:RP) (rec:Cmd→Option Out) (L:List LK) (b N id:Nat) (ops:List Oper) (draw:Bool) (s:XS):Option XS:=
 match draw with
 | true=>match p.cf N (id * 100+ops.length) with
  | none=>match Ago p.v ops with
   | true=>U2 P p rec L b N (cIs p.ty ops ops) s
   | false=>none
  | some (some m,cfs)=>match Aha P p.v p.q m ops cfs with
   | true=>match U2 P p rec L b N (cIs p.ty ops (ops.take m)) s with
    | some s'=>match cfs.all fun c=>c.ok (Fk s'.t) with
     | true=>U2 P p rec L b N (cIs p.ty ops (ops.drop m)) s'
     | false=>none
    | none=>none
   | false=>none
  | some (none,cfs)=>match Qi P p.v p.q ops cfs&&Agv L b s.o (ops.filterMap (·.dst)) with
   | true=>match U2 P p rec L b N (cIs p.ty ops ops) s with
    | some s'=>match cfs.all fun c=>c.ok (Fk s'.t) with
     | true=>some s'
     | false=>none
    | none=>none
   | false=>none
 | false=>U2 P p rec L b N (cIs p.ty ops ops) s
theorem Yy {P:Program} {p:RP} {rec:Cmd→Option Out} {L:List LK} {b N id:Nat} {rd:Option Nat} {Q:AEx→St→Prop} (hp:Pn P p) (hs:L7 P p rec) {ops:List Oper} {draw:Bool} {s s':XS} (h:Ayb P p rec L b N id ops draw s=some s') (hQ:Q .normal (s'.st L)):AWP P (rbX p rd b) N (.region id ops.toArray draw) (s.st L) Q:=by
 unfold Ayb at h
 simp only [Hi] at h
 split at h
 ·split at h
  ·split at h
   ·rename_i hc
    exact Vj hp.mix hc (E6 hp hs (E9 h) hQ)
   ·cases h
  ·rename_i m cfs hcf
   split at h
   ·rename_i hc
    split at h
    ·rename_i s1 h1
     split at h
     ·rename_i hok
      exact Ug m cfs hp.mix hc (E6 (K:=fun s=>(cfs.all fun c=>c.ok s.t)=true∧EL P (rbX p rd b) N ops (ops.drop m) s (Q .normal)) hp hs (E9 h1) ⟨hok,E6 hp hs (E9 h) hQ⟩)
     ·cases h
    ·cases h
   ·cases h
  ·rename_i cfs hcf
   split at h
   ·rename_i hc
    rw [Bool.and_eq_true] at hc
    split at h
    ·rename_i s1 h1
     split at h
     ·rename_i hok
      cases h
      exact Ajr cfs _ hp.mix hc.1 rfl (Wc hc.2) (E6 (K:=fun s=>(cfs.all fun c=>c.ok s.t)=true∧Q .normal s) hp hs (E9 h1) ⟨hok,hQ⟩)
     ·cases h
    ·cases h
   ·cases h
 ·exact Ah (E6 hp hs (E9 h) hQ)
def Ms:List Nat→List AV→List (Nat × AV)→List (Nat × AV)
 | p :: ps,x :: xs,t=>Ms ps xs (Axz p x t)
 | _,_,t=>t
theorem Sq:∀ (ps:List Nat) (xs:List AV) (t:List (Nat × AV)),T (Ms ps xs t)=Jb ps xs (T t)
 | [],_,_=>by simp [Ms,Jb]
 | _ :: _,[],_=>by simp [Ms,Jb]
 | p :: ps,x :: xs,t=>by
  simp only [Ms]
  rw [Sq ps xs,Aw4]
  simp [Jb]
def tmN (l:List (Nat × AV)):List (Nat × AV):=l.map fun p=>(p.1,T l p.1)
theorem Bdf {l:List (Nat × AV)}:T (tmN l)=T l:=by
 have key:∀ (k:List (Nat × AV)) (i:Nat),(T (k.map fun p=>(p.1,T l p.1)) i=T l i)∨(T (k.map fun p=>(p.1,T l p.1)) i=.undef∧T k i=.undef):=by
  intro k i
  induction k with
  | nil=>exact .inr ⟨rfl,rfl⟩
  | cons p k ih=>
   obtain ⟨j,x⟩:=p
   rw [List.map_cons,Af,Af]
   by_cases e:i=j
   ·subst e; rw [if_pos rfl]; exact .inl rfl
   ·rw [if_neg e,if_neg e]; exact ih
 funext i
 rcases key l i with h | ⟨h1,h2⟩
 ·exact h
 ·exact h1.trans h2.symm
def Bdy:Option (Option Nat)→AEx
 | none=>.normal
 | some none=>.ret
 | some (some i)=>.exit i
def Adm (L:List LK) (bd:Nat) (tm:List (Nat × AV)) (o':SG):SG:=match V3 L o' 5000 (T4.namesL (tm.map (·.2))++Anr bd L o') [] with
 | ks=>Af0 (fun n=>Sa n ks&&!eqN n bd) o'
def Bar (L:List LK) (bd:Nat) (tm:List (Nat × AV)) (o':SG):Option Out:=match Jn bd o' with
 | some (.loop i st pd)=>match eqN i L.length&&!eqN st 1 with
  | true=>match Adm L bd tm o' with
   | o1=>match okL L.length o1&&Asn L o1 with
    | true=>some (.code (Bdy pd) ⟨Qb o1 tm,o1⟩)
    | false=>none
  | false=>none
 | _=>none
def Awr (L:List LK) (res:AV) (o1:SG) (o2:SG):Option SG:=match Asn L o1&&nmS o1 res with
 | true=>some o1
 | false=>match Asn L o2&&nmS o2 res with
  | true=>some o2
  | false=>none
def Ao0 (L:List LK) (th bd:Nat) (res:AV) (o:SG):Option SG:=match leN (Awn bd o) th with
 | true=>some o
 | false=>Awr L res (Ar8 bd o) (gcX L bd (T4 res) o)
theorem Yq {L:List LK} {th bd:Nat} {res:AV} {o o':SG} (h:Ao0 L th bd res o=some o') (hcl:(Hp (OX L o)).closed) (hres:res.lives (OX L o)):(∀ n,OX L o' n=none∨OX L o' n=OX L o n)∧(Hp (OX L o')).closed∧res.lives (OX L o'):=by
 unfold Ao0 at h
 split at h
 ·cases h; exact ⟨fun _=>.inr rfl,hcl,hres⟩
 ·unfold Awr at h
  split at h
  ·rename_i hk
   cases h
   rw [Bool.and_eq_true] at hk
   exact ⟨fun n=>Ana,Z8 hk.1,Nj res hk.2⟩
  ·split at h
   ·rename_i hk
    cases h
    rw [Bool.and_eq_true] at hk
    exact ⟨fun n=>Anf n,Z8 hk.1,Nj res hk.2⟩
   ·cases h
def Apx (L:List LK) (th bd n i:Nat) (s:XS) (e:AEx):Option Out:=match Jn n s.o with
 | some (.loop i' 1 none)=>match eqN i' i with
  | true=>match e with
   | .normal=>fin (Qm n (.loop i 0 none) s.o) true
   | .ret=>fin (Qm n (.loop i 2 (some none)) s.o) false
   | .exit j=>fin (Qm n (.loop i 2 (some (some j))) s.o) false
  | false=>none
 | _=>none
 where fin (o:SG) (b:Bool):Option Out:=(Ao0 L th bd (bl b) o).map (.call (bl b))
def Ad1 (ty:TypeId→TI) (L:List LK) (s:XS):ResultVar→Option AV
 | .tmp i=>some (Fk s.t i)
 | .cell i t=>match Fk s.t i with
  | .ptr n off=>match (ty t).agg with
   | some g=>match G4 L s.o n with
    | some (.cells cs)=>M8 g (ty t).sz (cs.drop off)
    | _=>none
   | none=>none
  | _=>none
def Ut (ty:TypeId→TI) (L:List LK) (s:XS):List ResultVar→Option (List AV)
 | []=>some []
 | x :: r=>match Ad1 ty L s x with
  | some y=>match Ut ty L s r with
   | some ys=>some (y :: ys)
   | none=>none
  | none=>none
theorem Acu {P:Program} {L:List LK} {s:XS} {x:ResultVar}:Ad1 (Aa P) L s x=F1 P (s.st L) x:=by
 cases x with
 | tmp i=>simp only [Ad1,F1,Hi]
 | cell i t=>
  simp only [Ad1,F1,Hi,Mz,OX]
  generalize T s.t i=x
  generalize (Aa P t).agg=g
  cases x with
  | ptr n off=>
   cases g with
   | none=>rfl
   | some g=>
    dsimp only
    generalize G4 L s.o n=o
    cases o with
    | none=>rfl
    | some o=>cases o <;> rfl
  | _=>rfl
theorem Xt {P:Program} {L:List LK} {s:XS}:∀ {l:List ResultVar},Ut (Aa P) L s l=Cw P (s.st L) l
 | []=>rfl
 | x :: r=>by
  simp only [Ut,Cw,Acu,Xt]
  cases F1 P (s.st L) x with
  | none=>rfl
  | some y=>
   cases Cw P (s.st L) r with
   | none=>rfl
   | some ys=>rfl
theorem Z9 {P:Program} {st:St} (hcl:st.closed) {x:ResultVar} {y:AV} (h:F1 P st x=some y):y.lives st.o:=by
 cases x with
 | tmp i=>cases h; exact hcl.1 i
 | cell i t=>
  simp only [F1] at h
  split at h
  ·rename_i n off g hx hg
   split at h
   ·rename_i cs hc
    have hl:=AO.lives_cells.1 (hcl.2 n _ hc)
    unfold Ai at h
    split at h
    ·split at h
     ·cases h
      refine AV.lives_agg.2 fun k z hz=>?_
      rw [List.getElem?_take] at hz
      split at hz
      ·rw [List.getElem?_drop] at hz; exact hl _ z hz
      ·cases hz
     ·cases h
    ·rw [List.head?_eq_getElem?,List.getElem?_drop] at h
     exact hl _ y h
   ·cases h
  ·cases h
theorem Pd {P:Program} {st:St} (hcl:st.closed):∀ {l:List ResultVar} {ys:List AV},Cw P st l=some ys→∀ (i:Nat) (y:AV),ys[i]?=some y→y.lives st.o
 | [],ys,h,i,y,hy=>by cases h; simp at hy
 | x :: r,ys,h,i,y,hy=>by
  simp only [Cw] at h
  split at h
  ·rename_i z zs h1 h2
   cases h
   cases i with
   | zero=>cases hy; exact Z9 hcl h1
   | succ i=>exact Pd hcl h2 i y (by simpa using hy)
  ·cases h
theorem Afc {os:Nat→Option AO} {ys:List AV} (h:∀ (i:Nat) (y:AV),ys[i]?=some y→y.lives os):(Df ys).lives os:=by
 unfold Df
 split
 ·exact h 0 _ rfl
 ·exact AV.lives_tup.2 h
def Bdh (p:RP) (L:List LK) (th bd:Nat) (rs:List ResultVar) (s:XS):AEx→Option Out
 | .exit _=>none
 | _=>match (Ut p.ty L s rs).map Df with
  | some res=>(Ao0 L th bd res s.o).map (.call res)
  | none=>none
def Agk (ty:TypeId→TI) (s:XS):ResultVar→Option AV
 | .tmp i=>Eo (G4 [] s.o) (Fk s.t i)
 | .cell i t=>match Ad1 ty [] s (.cell i t) with
  | some x=>Eo (G4 [] s.o) x
  | none=>none
def Uh (ty:TypeId→TI) (s:XS):List ResultVar→Option (List AV)
 | []=>some []
 | x :: r=>match Agk ty s x with
  | some y=>match Uh ty s r with
   | some ys=>some (y :: ys)
   | none=>none
  | none=>none
def Bc8 (p:RP) (rs:List ResultVar) (s:XS):AEx→Option Out
 | .exit _=>none
 | _=>match (Uh p.ty s rs).map Df with
  | some res=>match res.isP with
   | true=>some (.pcall res)
   | false=>none
  | none=>none
def Aa3:Option Out→(AEx→XS→Option Out)→Option Out
 | some (.code e s),k=>k e s
 | some (.err L b N id cs s),_=>some (.err L b N id cs s)
 | _,_=>none
def Out.isErr:Out→Bool
 | .err ..=>true
 | _=>false
theorem E5 {o:Option Out} {k:AEx→XS→Option Out} {x:Out} (h:Aa3 o k=some x) (hx:x.isErr=false:=by rfl):∃ e s,o=some (.code e s)∧k e s=some x:=by
 unfold Aa3 at h
 split at h
 ·exact ⟨_,_,rfl,h⟩
 ·cases h; cases hx
 ·cases h
noncomputable def Ab9 (P:Program) (p:RP) (rec:Cmd→Option Out) (L:List LK) (b N:Nat) (d:Bool) (s:XS):Code→Option Out
 | .skip=>some (.code .normal s)
 | .label _=>some (.code .normal s)
 | .exit i=>some (.code (.exit i) s)
 | .ret=>some (.code .ret s)
 | .seq x y=>Aa3 (rec (.code L b N d x s)) fun e s1=>match e with
  | .normal=>rec (.code L b N d y s1)
  | e=>some (.code e s1)
 | .cond c x y=>match ev (Fk s.t) c with
  | .p (.val (.bool true))=>rec (.code L b N d x s)
  | .p (.val (.bool false))=>rec (.code L b N d y s)
  | _=>none
 | .block id c=>Aa3 (rec (.code L b N d c s)) fun e s1=>match e with
  | .exit i=>match eqN i id with
   | true=>some (.code .normal s1)
   | false=>some (.code (.exit i) s1)
  | e=>some (.code e s1)
 | .loop c=>rec (.rounds L b N c s)
 | .scope c=>rec (.code L b N d c s)
 | .region id ops draw=>match Ayb P p rec L b N id ops.toList draw (Sy L b N (Zc p.v ops.toList) s) with
  | some s1=>some (.code .normal s1)
  | none=>some (.err L b N id (cIs p.ty ops.toList ops.toList) (Sy L b N (Zc p.v ops.toList) s))
 | .rangeFunc g ps assign body=>match d with
  | true=>match ev (Fk s.t) g with
   | .fn (.func f) fs cs=>match A7 P f&&okL L.length s.o with
    | true=>match rec (.call (L++[⟨N,ps.toList,assign,body,tmN s.t⟩]) 12 (Nat.succ (Uy (b+N) (Nx s.o))) (.fn (.func f) fs cs) [.yld (Uy (b+N) (Nx s.o))] (Ws (Uy (b+N) (Nx s.o)) (.loop L.length 0 none) s.o)) with
     | some (.call _ o')=>Bar L (Uy (b+N) (Nx s.o)) (tmN s.t) o'
     | some (.err L b N id cs s)=>some (.err L b N id cs s)
     | _=>none
    | false=>none
   | _=>none
  | false=>none
 | _=>none
def Qg:Code→Nat
 | .region id _ _=>id
 | .seq a _=>Qg a
 | .block _ a=>Qg a
 | .loop a=>Qg a
 | .scope a=>Qg a
 | _=>0
def Aoz (K:List Nat) (l:List (Nat × AV)):List (Nat × AV):=K.map fun i=>(i,Fk l i)
theorem Xp {l:List (Nat × AV)}:∀ (K:List Nat) (i:Nat),T (Aoz K l) i=.undef∨T (Aoz K l) i=T l i
 | [],_=>.inl rfl
 | k :: K,i=>by
  have e:Aoz (k :: K) l=(k,Fk l k) :: Aoz K l:=rfl
  rw [e,Af]
  split
  ·rename_i e; subst e; rw [Hi]; exact .inr rfl
  ·exact Xp K i
def Ba5 (K:Option (List Nat)) (s:XS):XS:=match K with
 | some K=>⟨Aoz K s.t,s.o⟩
 | none=>s
theorem Sb {P:Program} {r:RB} {N:Nat} {cd:Code} {L:List LK} {K:Option (List Nat)} {s:XS} {Q:AEx→St→Prop} (h:AWP P r N cd ((Ba5 K s).st L) Q):AWP P r N cd (s.st L) Q:=by
 cases K with
 | none=>exact h
 | some K=>exact AWP.cut (fun i=>Xp K i) h
noncomputable def Agg (P:Program) (p:RP) (rec:Cmd→Option Out):Cmd→Option Out
 | .code L b N d c s=>Ab9 P p rec L b N d s c
 | .rounds L b N c s=>Aa3 (rec (.code L b N false c (Ba5 (p.lv N (Qg c)) s))) fun e s1=>match e with
  | .normal=>rec (.rounds L b N c s1)
  | e=>some (.code e s1)
 | .call L th bd fv args o=>match fv with
  | .fn (.func f) fs cs=>match P.funcs[f]? with
   | some fn=>match fn.body with
    | some body=>match A7 P f with
     | true=>Aa3 (rec (.code L bd fn.ntmps true body ⟨ixs 0 (fs++args++cs),(bd,[]) :: o⟩)) fun e s1=>Bdh p L th bd fn.results.toList s1 e
     | false=>none
    | none=>none
   | none=>none
  | .yld n=>match Jn n o with
   | some (.loop i 0 none)=>match L[i]? with
    | some x=>match eqN args.length x.ps.length&&x.ps.all fun p=>ltN p x.n with
     | true=>Aa3 (rec (.code L bd x.n false x.assign ⟨Ms x.ps args x.tm,(bd,[]) :: o⟩)) fun e s1=>match e,Jn n s1.o with
       | .normal,some (.loop i' 0 none)=>match eqN i' i with
        | true=>Aa3 (rec (.code L bd x.n false x.body ⟨s1.t,Qm n (.loop i 1 none) s1.o⟩)) fun e s2=>Apx L th bd n i s2 e
        | false=>none
       | _,_=>none
     | false=>none
    | none=>none
   | _=>none
  | _=>none
 | .pcall f args=>match P.funcs[f]? with
  | some fn=>match fn.body with
   | some body=>match args.all AV.isP with
    | true=>Aa3 (rec (.code [] 0 fn.ntmps true body ⟨ixs 0 args,[(0,[])]⟩)) fun e s1=>Bc8 p fn.results.toList s1 e
    | false=>none
   | none=>none
  | none=>none
noncomputable def run (P:Program) (p:RP):Nat→Cmd→Option Out
 | 0,_=>none
 | n+1,c=>Agg P p (run P p n) c
section
variable {P:Program} {p:RP} {rec:Cmd→Option Out} {L:List LK} {b N:Nat}
theorem Ane {L:List LK} {bd:Nat} {o:SG} (h:∀ n,bd≤n→OX L o n=none):OX L ((bd,[]) :: o)=OX L o:=by
 funext n
 simp only [OX,G4]
 split
 ·rename_i hb; rw [Em] at hb; exact (h n hb).symm
 ·rfl
theorem Ae4 (hp:Pn P p) (hs:L7 P p rec) {c:Code} {s s':XS} {e:AEx} (h:Ab9 P p rec L b N false s c=some (.code e s')) (rd:Option Nat) (Q:AEx→St→Prop) (hQ:Q e (s'.st L)):AWP P (rbX p rd b) N c (s.st L) Q:=by
 unfold Ab9 at h
 simp only [Hi] at h
 split at h
 ·cases h; exact Am hQ
 ·cases h; exact Yx hQ
 ·cases h; exact Bq hQ
 ·cases h; exact Aj hQ
 ·obtain ⟨e1,s1,h1,h2⟩:=E5 h
  refine Agq (hs.code h1 rd _ ?_)
  cases e1 with
  | normal=>exact hs.code h2 rd _ hQ
  | exit i=>cases h2; exact hQ
  | ret=>cases h2; exact hQ
 ·split at h
  ·rename_i hc; exact Al hc (fun _=>hs.code h rd _ hQ) (fun e=>by cases e)
  ·rename_i hc; exact Al hc (fun e=>by cases e) (fun _=>hs.code h rd _ hQ)
  ·cases h
 ·rename_i id c
  obtain ⟨e1,s1,h1,h2⟩:=E5 h
  refine Au (hs.code h1 rd _ ?_)
  cases e1 with
  | normal=>cases h2; exact hQ
  | ret=>cases h2; exact hQ
  | exit i=>
   simp only at h2
   rw [Sj]
   split at h2
   ·rename_i hi; cases h2; rw [if_pos (Bn.1 hi)]; exact hQ
   ·rename_i hi; cases h2; rw [if_neg (G7.1 hi)]; exact hQ
 ·obtain ⟨m,hm⟩:=hs.rounds h
  exact Vn m (hm rd Q hQ)
 ·exact Akf (hs.code h rd Q hQ)
 ·rename_i id ops draw
  split at h
  case h_2=>cases h
  rename_i s1 h1
  cases h
  refine Gl (r:=rbX p rd b) (N:=N) (ds:=Zc p.v ops.toList) ?_
  have:=Yy (rd:=rd) hp hs h1 hQ
  simpa using this
 ·cases h
 ·cases h
theorem Ab0 (hp:Pn P p) (hs:L7 P p rec) {c:Code} {s s':XS} {e:AEx} (h:Ab9 P p rec L b N true s c=some (.code e s')) (Q:AEx→St→Prop) (hQ:Q e (s'.st L)):Ex P (rbX p none b) N c (s.st L) Q:=by
 unfold Ab9 at h
 simp only [Hi] at h
 split at h
 ·cases h; exact D0 (Am hQ)
 ·cases h; exact D0 (Yx hQ)
 ·cases h; exact D0 (Bq hQ)
 ·cases h; exact D0 (Aj hQ)
 ·obtain ⟨e1,s1,h1,h2⟩:=E5 h
  refine T5 (hs.coded h1 _ ?_)
  cases e1 with
  | normal=>exact hs.coded h2 _ hQ
  | exit i=>cases h2; exact hQ
  | ret=>cases h2; exact hQ
 ·split at h
  ·rename_i hc; exact Yu hc (fun _=>hs.coded h _ hQ) (fun e=>by cases e)
  ·rename_i hc; exact Yu hc (fun e=>by cases e) (fun _=>hs.coded h _ hQ)
  ·cases h
 ·rename_i id c
  obtain ⟨e1,s1,h1,h2⟩:=E5 h
  refine Vm (hs.coded h1 _ ?_)
  cases e1 with
  | normal=>cases h2; exact hQ
  | ret=>cases h2; exact hQ
  | exit i=>
   simp only at h2
   rw [Sj]
   split at h2
   ·rename_i hi; cases h2; rw [if_pos (Bn.1 hi)]; exact hQ
   ·rename_i hi; cases h2; rw [if_neg (G7.1 hi)]; exact hQ
 ·obtain ⟨m,hm⟩:=hs.rounds h
  exact D0 (Vn m (hm none Q hQ))
 ·exact Afg (hs.coded h Q hQ)
 ·rename_i id ops draw
  split at h
  case h_2=>cases h
  rename_i s1 h1
  cases h
  refine D0 (Gl (r:=rbX p none b) (N:=N) (ds:=Zc p.v ops.toList) ?_)
  have:=Yy (rd:=none) hp hs h1 hQ
  simpa using this
 ·rename_i g ps assign body
  split at h
  ·rename_i f fs cs hg
   split at h
   ·rename_i hc
    rw [Bool.and_eq_true] at hc
    obtain ⟨hcal,hok⟩:=hc
    split at h
    ·rename_i res o' hr
     rw [Nl] at h hr
     generalize hbd:max (b+N) (Nx s.o)=bd at h hr
     unfold Bar at h
     split at h
     ·rename_i i st pd hx
      split at h
      ·rename_i hi
       simp only [Bool.and_eq_true,Bool.not_eq_true',Bn,G7] at hi
       obtain ⟨rfl,hst⟩:=hi
       simp only at h
       split at h
       ·rename_i hk
        rw [Bool.and_eq_true] at hk
        cases h
        have hLL:(L++[⟨N,ps.toList,assign,body,tmN s.t⟩])[L.length]?=some (⟨N,ps.toList,assign,body,tmN s.t⟩:LK):=by simp
        have hos:OX (L++[⟨N,ps.toList,assign,body,tmN s.t⟩]) (Ws bd (.loop L.length 0 none) s.o)=upd (OX L s.o) bd (some (.loop ⟨N,ps.toList,assign,body,.ready,none⟩ (tmN s.t))):=by
         rw [Zl]
         simp only [XO.ao,hLL]
         rw [An1 hok]
         rfl
        have hcall:=hs.call hr
        rw [hos] at hcall
        refine Ex.le_end (My (bd:=bd) (tm:=tmN s.t) rfl (fun n hn=>Ns (by omega)) (by show b≤bd; omega) hg hcal (fun i=>.inr (by rw [Bdf])) (fun j q hq=>?_) (by rw [hg]; exact hcall) (fun res' os' hR hcl=>?_))
        ·right
         unfold tmN at hq
         rw [List.getElem?_map,Option.map_eq_some_iff] at hq
         obtain ⟨q',_,rfl⟩:=hq
         rfl
        ·obtain ⟨rfl,rfl⟩:=hR
         have hget:∀ n,OX (L++[⟨N,ps.toList,assign,body,tmN s.t⟩]) (Adm L bd (tmN s.t) o') n=none∨(n≠bd∧OX (L++[⟨N,ps.toList,assign,body,tmN s.t⟩]) (Adm L bd (tmN s.t) o') n=OX (L++[⟨N,ps.toList,assign,body,tmN s.t⟩]) o' n):=fun n=>by
          unfold Adm
          dsimp only
          rw [Qf]
          split
          ·rename_i h
           rw [Bool.and_eq_true,Bool.not_eq_true',G7] at h
           exact .inr ⟨h.2,rfl⟩
          ·exact .inl rfl
         generalize Adm L bd (tmN s.t) o'=o1 at hk hQ hget
         have hfin:∀ X,(XS.st L ⟨Qb o1 (tmN s.t),o1⟩).le ⟨T (tmN s.t),upd (OX (L++[⟨N,ps.toList,assign,body,tmN s.t⟩]) o') bd X⟩:=fun X=>by
          refine ⟨fun i=>(Ld (L:=L) _ i).1,fun n=>?_,⟨fun i=>(Ld (L:=L) _ i).2,(Z8 hk.2).2⟩⟩
          have e1:OX L o1 n=OX (L++[⟨N,ps.toList,assign,body,tmN s.t⟩]) o1 n:=by
           rw [An1 hk.1]
          rcases hget n with e2 | ⟨e,e2⟩
          ·left
           show OX L _ n=none
           rw [e1]; exact e2
          ·right
           show OX L _ n=upd _ _ _ n
           rw [Aq e,e1,e2]
         refine ⟨(⟨N,ps.toList,assign,body,tmN s.t⟩:LK).k st pd,?_,?_,?_⟩
         ·have:=E4 (L:=L++[⟨N,ps.toList,assign,body,tmN s.t⟩]) hx
          simp only [XO.ao,hLL] at this
          exact this
         ·show stS st≠.busy
          match st,hst with
          | 0,_=>intro h; cases h
          | 1,h=>exact absurd rfl h
          | 2,_=>intro h; cases h
          | _+3,_=>intro h; cases h
         ·match pd,hQ with
          | none,hQ=>exact ⟨_,hfin _,hQ⟩
          | some none,hQ=>exact ⟨_,hfin _,hQ⟩
          | some (some i),hQ=>exact ⟨_,hfin _,hQ⟩
       ·cases h
      ·cases h
     ·cases h
    ·cases h
    ·cases h
   ·cases h
  ·cases h
 ·cases h
theorem Aji (hp:Pn P p) {rs:List ResultVar} {th bd:Nat} {s:XS} {e:AEx} {res:AV} {o':SG} (h:Bdh p L th bd rs s e=some (.call res o')) (hcl:(s.st L).closed):Afs P rs (fun r os=>r=res∧os=OX L o') e (s.st L):=by
 have hty:p.ty=Aa P:=funext hp.ty
 have key:(match (Ut p.ty L s rs).map Df with
  | some res=>(Ao0 L th bd res s.o).map (Out.call res)
  | none=>none)=some (.call res o')→Acx P rs (fun r os=>r=res∧os=OX L o') (s.st L):=by
  intro h
  rw [hty,Xt] at h
  split at h
  ·rename_i res' hr
   obtain ⟨o1,h1,h2⟩:=Option.map_eq_some_iff.1 h
   cases h2
   have hl:res.lives (OX L s.o):=by
    obtain ⟨ys,g1,rfl⟩:=Option.map_eq_some_iff.1 hr
    exact Afc (Pd hcl g1)
   obtain ⟨g1,g2,g3⟩:=Yq h1 ⟨fun _=>AV.lives_undef _,hcl.2⟩ hl
   exact ⟨_,_,hr,g1,g2,g3,rfl,rfl⟩
  ·cases h
 cases e with
 | exit i=>cases h
 | normal=>exact key h
 | ret=>exact key h
theorem Ak8 {s:XS} {x:ResultVar}:Agk (Aa P) s x=Ez P (s.st []) x:=by
 cases x with
 | tmp i=>simp only [Agk,Ez,Hi]
 | cell i t=>
  simp only [Agk,Acu,F1,Ez,OX]
  generalize T s.t i=x
  generalize (Aa P t).agg=g
  cases x with
  | ptr n off=>
   cases g with
   | none=>rfl
   | some g=>
    dsimp only
    generalize G4 [] s.o n=o
    cases o with
    | none=>rfl
    | some o=>
     cases o with
     | cells cs=>
      dsimp only
      cases Ai g (Aa P t).sz (cs.drop off) <;> rfl
     | _=>rfl
  | _=>rfl
theorem Yr {s:XS}:∀ {l:List ResultVar},Uh (Aa P) s l=C6 P (s.st []) l
 | []=>rfl
 | x :: r=>by
  simp only [Uh,C6,Ak8,Yr]
  cases Ez P (s.st []) x with
  | none=>rfl
  | some y=>
   cases C6 P (s.st []) r with
   | none=>rfl
   | some ys=>rfl
theorem Ail (hp:Pn P p) {rs:List ResultVar} {s:XS} {e:AEx} {res:AV} (h:Bc8 p rs s e=some (.pcall res)):Ret P rs res e (s.st [])∧res.isP=true:=by
 have hty:p.ty=Aa P:=funext hp.ty
 have key:(match (Uh p.ty s rs).map Df with
  | some res=>match res.isP with
   | true=>some (Out.pcall res)
   | false=>none
  | none=>none)=some (.pcall res)→(C6 P (s.st []) rs).map Df=some res∧res.isP=true:=by
  intro h
  rw [hty,Yr] at h
  split at h
  ·rename_i res' hr
   split at h
   ·rename_i hk; cases h; exact ⟨hr,hk⟩
   ·cases h
  ·cases h
 cases e with
 | exit i=>cases h
 | normal=>exact key h
 | ret=>exact key h
theorem Adk {st:St} (hcl:st.closed) {n:Nat} {k k':F0} {tm:List (Nat × AV)} (hn:st.o n=some (.loop k tm)):(Hp (upd st.o n (some (.loop k' tm)))).closed:=by
 have hmono:∀ m,(st.o m).isSome=true→(upd st.o n (some (.loop k' tm)) m).isSome=true:=fun m hm=>by
  unfold upd; split
  ·rfl
  ·exact hm
 refine ⟨fun _=>AV.lives_undef _,fun m o hm=>?_⟩
 have hm:upd st.o n (some (.loop k' tm)) m=some o:=hm
 unfold upd at hm
 split at hm
 ·cases hm
  exact fun q hq=>hmono q (hcl.2 n _ hn q hq)
 ·exact fun q hq=>hmono q (hcl.2 m o hm q hq)
theorem Aj7 {th bd n i:Nat} {s:XS} {e:AEx} {x:LK} (hx:L[i]?=some x) {res:AV} {o':SG} (h:Apx L th bd n i s e=some (.call res o')) (hcl:(s.st L).closed):U7 n (x.k 0 none) x.tm (fun r os=>r=res∧os=OX L o') e (s.st L):=by
 unfold Apx at h
 split at h
 ·rename_i i' hg
  split at h
  ·rename_i hi
   rw [Bn] at hi
   subst hi
   have hb:(s.st L).o n=some (.loop (x.k 1 none) x.tm):=by
    have:=E4 (L:=L) hg
    simp only [XO.ao,hx] at this
    exact this
   have key:∀ (st:Nat) (pd:Option (Option Nat)) (b:Bool),Apx.fin L th bd (Qm n (.loop i' st pd) s.o) b=some (.call res o')→res=bl b∧(∀ m,OX L o' m=none∨OX L o' m=upd (OX L s.o) n (some (.loop (x.k st pd) x.tm)) m)∧(Hp (OX L o')).closed:=by
    intro st pd b h
    unfold Apx.fin at h
    obtain ⟨o1,h1,h2⟩:=Option.map_eq_some_iff.1 h
    cases h2
    have e1:OX L (Qm n (.loop i' st pd) s.o)=upd (OX L s.o) n (some (.loop (x.k st pd) x.tm)):=by
     rw [Aap]; simp only [XO.ao,hx]
    obtain ⟨g1,g2,_⟩:=Yq h1 (by rw [e1]; exact Adk hcl hb) (AV.lives_p _ _)
    rw [e1] at g1
    exact ⟨rfl,g1,g2⟩
   cases e with
   | normal=>
    obtain ⟨rfl,h1,h2⟩:=key _ _ _ h
    exact ⟨hb,_,h1,h2,rfl,rfl⟩
   | ret=>
    obtain ⟨rfl,h1,h2⟩:=key _ _ _ h
    exact ⟨hb,_,h1,h2,rfl,rfl⟩
   | exit j=>
    obtain ⟨rfl,h1,h2⟩:=key _ _ _ h
    exact ⟨hb,_,h1,h2,rfl,rfl⟩
  ·cases h
 ·cases h
theorem Acs (hp:Pn P p) (hs:L7 P p rec):L7 P p (Agg P p rec) where
 code h rd Q hQ:=Ae4 hp hs h rd Q hQ
 coded h Q hQ:=Ab0 hp hs h Q hQ
 rounds {L b N c s e s'} h:=by
  obtain ⟨e1,s1,h1,h2⟩:=E5 h
  cases e1 with
  | normal=>
   obtain ⟨m,hm⟩:=hs.rounds h2
   exact ⟨m+1,fun rd Q hQ=>Sb (hs.code h1 rd _ (hm rd Q hQ))⟩
  | exit i=>cases h2; exact ⟨1,fun rd Q hQ=>Sb (hs.code h1 rd _ hQ)⟩
  | ret=>cases h2; exact ⟨1,fun rd Q hQ=>Sb (hs.code h1 rd _ hQ)⟩
 call {L th bd fv args o res o'} h:=by
  simp only [Agg] at h
  split at h
  ·rename_i f fs cs
   split at h
   ·rename_i fn hf
    split at h
    ·rename_i body hb
     split at h
     ·rename_i hcal
      obtain ⟨e1,s1,h1,h2⟩:=E5 h
      refine Xs (v:=p.v) (q:=p.q) hf hb hcal rfl rfl fun _ hfree=>?_
      rw [← Ane hfree]
      exact Ex.cl (hs.coded h1 _ (fun hcl=>Aji hp h2 hcl))
     ·cases h
    ·cases h
   ·cases h
  ·rename_i n
   split at h
   ·rename_i i hg
    split at h
    ·rename_i x hx
     split at h
     ·rename_i hc
      obtain ⟨e1,s1,h1,h2⟩:=E5 h
      have hos:OX L o n=some (.loop (x.k 0 none) x.tm):=by
       have:=E4 (L:=L) hg
       simp only [XO.ao,hx] at this
       exact this
      rw [Bool.and_eq_true,Bn] at hc
      refine Sn (k:=x.k 0 none) (v:=p.v) (q:=p.q) (fun h=>h) hos rfl hc.1 (fun q hq=>F6.1 (List.all_eq_true.1 hc.2 q hq)) fun _ hfree l=>?_
      have e0:(⟨Jb x.ps args (T x.tm),OX L o⟩:St)=XS.st L ⟨Ms x.ps args x.tm,(bd,[]) :: o⟩:=by
       show _=St.mk (T (Ms x.ps args x.tm)) (OX L ((bd,[]) :: o))
       rw [Sq,Ane hfree]
      show AWP P (rbX p (some l) bd) x.n x.assign ⟨Jb x.ps args (T x.tm),OX L o⟩ _
      rw [e0]
      refine hs.code h1 (some l) _ ?_
      split at h2
      ·rename_i i' hg2
       split at h2
       ·rename_i hi
        rw [Bn] at hi
        subst hi
        obtain ⟨e2,s2,h3,h4⟩:=E5 h2
        refine ⟨?_,?_⟩
        ·have:=E4 (L:=L) hg2
         simp only [XO.ao,hx] at this
         exact this
        ·have e3:(⟨(s1.st L).t,upd (s1.st L).o n (some (.loop { x.k 0 none with state:=.busy } x.tm))⟩:St)=XS.st L ⟨s1.t,Qm n (.loop i' 1 none) s1.o⟩:=by
          show _=St.mk (T s1.t) (OX L (Qm n (.loop i' 1 none) s1.o))
          rw [Aap]
          simp only [XO.ao,hx]
          rfl
         rw [e3]
         exact AWP.cl (hs.code h3 (some l) _ (fun hcl=>Aj7 hx h4 hcl))
       ·cases h2
      ·cases h2
     ·cases h
    ·cases h
   ·cases h
  ·cases h
 pcall {f args res} h:=by
  simp only [Agg] at h
  split at h
  ·rename_i fn hf
   split at h
   ·rename_i body hb
    split at h
    ·rename_i ha
     obtain ⟨e1,s1,h1,h2⟩:=E5 h
     obtain ⟨h3,h4⟩:=Ail hp h2
     exact Ak5 (v:=p.v) (q:=p.q) hf hb rfl rfl ha h4 (hs.coded h1 _ h3)
    ·cases h
   ·cases h
  ·cases h
theorem Xq (hp:Pn P p):∀ n,L7 P p (run P p n)
 | 0=>by constructor <;> (intros; rename_i h; first | (cases h; done) | skip) <;> (intros; contradiction)
 | n+1=>Acs hp (Xq hp n)
def okP (o:Option Out) (x:AV):Bool:=match o with
 | some (.pcall r)=>eqA r x
 | _=>false
theorem Hu (hp:Pn P p) (n:Nat) {f:Nat} {args:List AV} {res:AV} (h:okP (run P p n (.pcall f args)) res=true):Bu P f args res:=by
 unfold okP at h
 split at h
 ·rename_i r hr
  have:=Acq _ _ h
  subst this
  exact (Xq hp n).pcall hr
 ·cases h
end
end AM
end
/- Beers in plain Lean: what was lost, the original gravity, the brewings. -/
section
namespace AM.Wort
open Go AM
def J8 (last n:Int):Int × Bool:=(n,inB n (IntKind.i64.wrap (last+1)) 120)
def Aav (l:List Int):Bool:=(Gn J8 (-1) l).2
def Ja (l:List Int):Int:=if 12 < (l.length:Int) then 3 else if (l.length:Int) < 2∨Aav l=false∨l.getD 0 0≠0 then 1 else 0
def Ce (l:List Int) (s:Int):Int:=min (s / 10) ((l.length:Int) - 2)
def T2 (l:List Int) (s:Int):Int:=l.getD (Ce l s).toNat 0 * (10 - (s - Ce l s * 10))+l.getD ((Ce l s).toNat+1) 0 * (s - Ce l s * 10)
def Qn (l:List Int) (s:Int):Int:=(2 * T2 l s+10) / 20
structure R6 (l:List Int):Prop where
 len:2≤l.length
 len2:l.length≤12
 bnd:∀ x ∈ l,0≤x∧x≤120
 srt:l.Pairwise (· < ·)
theorem Yk:∀ (l:List Int) (last:Int),-1≤last→last≤120→(Gn J8 last l).2=true→(∀ x ∈ l,last < x∧x≤120)∧l.Pairwise (· < ·)
 | [],_,_,_,_=>⟨by simp,.nil⟩
 | x :: l,last,h1,h2,h=>by
  simp only [Gn] at h
  split at h
  ·rename_i hx
   have hw:IntKind.i64.wrap (last+1)=last+1:=Fc (by omega) (by omega)
   simp only [J8,inB,hw,Bool.and_eq_true,decide_eq_true_eq] at hx
   obtain ⟨g1,g2⟩:=Yk l x (by omega) (by omega) h
   refine ⟨fun y hy=>?_,List.pairwise_cons.2 ⟨fun y hy=>(g1 y hy).1,g2⟩⟩
   rcases List.mem_cons.1 hy with rfl | hy
   ·omega
   ·have:=g1 y hy; omega
  ·cases h
theorem Aym {l:List Int} (h:Ja l=0):R6 l:=by
 unfold Ja at h
 split at h
 ·cases h
 ·split at h
  ·cases h
  ·rename_i h1 h2
   have h3:¬ ((l.length:Int) < 2):=fun e=>h2 (.inl e)
   have h4:Aav l=true:=by
    cases hr:Aav l with
    | true=>rfl
    | false=>exact absurd (.inr (.inl hr)) h2
   obtain ⟨g1,g2⟩:=Yk l (-1) (by omega) (by omega) h4
   exact ⟨by omega,by omega,fun x hx=>by have:=g1 x hx; omega,g2⟩
theorem La {l:List Int} (h:R6 l) (k:Nat):0≤l.getD k 0∧l.getD k 0≤120:=by
 by_cases hk:k < l.length
 ·have:=h.bnd (l.getD k 0) (by rw [← List.getElem_eq_getD (h:=hk)]; exact List.getElem_mem _)
  exact this
 ·have:l.getD k 0=0:=by simp [List.getD,List.getElem?_eq_none (show l.length≤k by omega)]
  omega
theorem Ps {l:List Int} (hl:R6 l) {s:Int} (h1:0≤s) (h2:s≤10 * ((l.length:Int) - 1)):0≤Ce l s∧(Ce l s).toNat+1 < l.length∧0≤s - Ce l s * 10∧s - Ce l s * 10≤10∧0≤T2 l s∧T2 l s≤1200∧0≤Qn l s∧Qn l s≤120:=by
 have a1:=hl.len
 have a2:=hl.len2
 have k1:0≤Ce l s:=by unfold Ce; omega
 have k2:Ce l s≤(l.length:Int) - 2:=by unfold Ce; omega
 have k3:Ce l s≤s / 10:=by unfold Ce; omega
 have k4:0≤s - Ce l s * 10:=by omega
 have k5:s - Ce l s * 10≤10:=by
  by_cases e:s / 10≤(l.length:Int) - 2
  ·have:Ce l s=s / 10:=by unfold Ce; omega
   omega
  ·have:Ce l s=(l.length:Int) - 2:=by unfold Ce; omega
   omega
 have b1:=La hl (Ce l s).toNat
 have b2:=La hl ((Ce l s).toNat+1)
 have n1:0≤T2 l s∧T2 l s≤1200:=by
  unfold T2
  generalize s - Ce l s * 10=p at *
  have e1:=Int.mul_nonneg b1.1 (show 0≤10 - p by omega)
  have e2:=Int.mul_nonneg b2.1 k4
  have e3:=Int.mul_le_mul b1.2 (Int.le_refl (10 - p)) (by omega) (by omega)
  have e4:=Int.mul_le_mul b2.2 (Int.le_refl p) (by omega) (by omega)
  omega
 refine ⟨k1,by omega,k4,k5,n1.1,n1.2,?_,?_⟩
 ·unfold Qn; omega
 ·unfold Qn; omega
theorem Ama {l:List Int} (hl:R6 l) {s:Int} (h1:0≤s) (h2:s≤10 * ((l.length:Int) - 1)) :
  IntKind.i64.wrap ((IntKind.i64.wrap (IntKind.i64.wrap (2 * IntKind.i64.wrap (IntKind.i64.wrap (l.getD (Ce l s).toNat 0 * (10 - (s - Ce l s * 10)))+IntKind.i64.wrap (l.getD (Ce l s+1).toNat 0 * (s - Ce l s * 10))))+10)).tdiv 20)=Qn l s:=by
 obtain ⟨k1,k2,k3,k4,n1,n2,f1,f2⟩:=Ps hl h1 h2
 have b1:=La hl (Ce l s).toNat
 have b2:=La hl ((Ce l s).toNat+1)
 have ek:(Ce l s+1).toNat=(Ce l s).toNat+1:=by omega
 have en:T2 l s=l.getD (Ce l s).toNat 0 * (10 - (s - Ce l s * 10))+l.getD ((Ce l s).toNat+1) 0 * (s - Ce l s * 10):=rfl
 rw [ek]
 unfold Qn at f1 f2 ⊢
 rw [en] at n1 n2 f1 f2 ⊢
 generalize s - Ce l s * 10=p at *
 have e1:=Int.mul_nonneg b1.1 (show 0≤10 - p by omega)
 have e2:=Int.mul_nonneg b2.1 k3
 generalize l.getD (Ce l s).toNat 0 * (10 - p)=x at *
 generalize l.getD ((Ce l s).toNat+1) 0 * p=y at *
 have w1:IntKind.i64.wrap x=x:=Fc (by omega) (by omega)
 have w2:IntKind.i64.wrap y=y:=Fc (by omega) (by omega)
 have w3:IntKind.i64.wrap (x+y)=x+y:=Fc (by omega) (by omega)
 have w4:IntKind.i64.wrap (2 * (x+y))=2 * (x+y):=Fc (by omega) (by omega)
 have w5:IntKind.i64.wrap (2 * (x+y)+10)=2 * (x+y)+10:=Fc (by omega) (by omega)
 rw [w1,w2,w3,w4,w5,Int.tdiv_eq_ediv_of_nonneg (by omega)]
 exact Fc (by omega) (by omega)
def Aw5 (l:List Int) (lo s:Int):Nat→List Int
 | 0=>[]
 | j+1=>(lo+j+Qn l s) :: Aw5 l lo s j
def Rl (r:Rng):Nat:=(r.hi - r.lo+1).toNat
def Aq4 (l:List Int) (g sp:Rng):Nat→List Int
 | 0=>[]
 | k+1=>Aw5 l g.lo (sp.lo+k) (Rl g)++Aq4 l g sp k
def Ny (l:List Int) (g sp:Rng):List Int:=Aq4 l g sp (Rl sp)
def Jg (S:List Int) (b:List Rng) (k:Nat):List Nat:=(List.range k).filter fun i=>S.any (Jk (b.getD i default))
theorem Acl {S:List Int} {b:List Rng} {k:Nat} (h:S.any (Jk (b.getD k default))=true):Jg S b (k+1)=Jg S b k++[k]:=by
 unfold Jg; rw [List.range_succ,List.filter_append]; simp only [List.filter_cons,h,if_true,List.filter_nil]
theorem Ahw {S:List Int} {b:List Rng} {k:Nat} (h:S.any (Jk (b.getD k default))=false):Jg S b (k+1)=Jg S b k:=by
 unfold Jg; rw [List.range_succ,List.filter_append]; simp only [List.filter_cons,h,Bool.false_eq_true,if_false,List.filter_nil,List.append_nil]
theorem Aob {S:List Int} {b:List Rng} {k:Nat}:(Jg S b k).length≤k:=by
 unfold Jg; exact Nat.le_trans (List.length_filter_le _ _) (by simp)
abbrev Arl (k:Nat):List PV:=[iv (k:Int)]
def Jy (r o:Rng):Bool:=decide (o.lo≤o.hi)&&(Jk r o.lo&&Jk r o.hi)
def Sk (l:List Int) (g sp:Rng) (b:List Rng):Bool:=Jy ⟨0,120⟩ g&&(Jy ⟨0,10 * ((l.length:Int) - 1)⟩ sp&&b.all fun r=>decide (r.lo≤r.hi))
def Ks (l:List Int) (g sp:Rng) (b:List Rng):AV:=if Ja l≠0 then .tup [C4,i64 (Ja l)] else if Sk l g sp b=true then .tup [.p (.sl ((Jg (Ny l g sp) b b.length).map Arl)),i64 0] else .tup [C4,i64 2]
end AM.Wort
end
