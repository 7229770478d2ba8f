/- Lemmas for the proof: more of the program's functions, walked on the abstract machine. -/
import Derived.Test.YtbgiddcgdgdmbaaGreatQ6
import Derived.Laws.Cover3
/- The abstract machine: both branches of a condition, told apart by a mark, so that what comes behind them is walked by one text. -/
section
namespace AM
open Go Go.Proofs
structure MT (p:Prop):Prop where
 x:p
structure ME (p:Prop):Prop where
 x:p
theorem nrm:(∀ b:Bool,(!b)=true↔b=false)∧(∀ (p:Prop) [Decidable p],decide p=true↔p)∧(∀ (p:Prop) [Decidable p],decide p=false↔¬ p)∧(∀ b c:Bool,(b&&c)=true↔b=true∧c=true)∧(∀ b:Bool,(!b)=false↔b=true)∧(∀ b:Bool,(!!b)=b)∧(∀ (p:Prop) [Decidable p],decide (¬ p)=!decide p)∧(!true)=false∧(!false)=true:=by
 refine ⟨fun b=>?_,fun p _=>?_,fun p _=>?_,fun b c=>?_,fun b=>?_,fun b=>?_,fun p _=>?_,rfl,rfl⟩ <;> simp
section
variable {P:Program} {r:RB} {N B:Nat} {S:Nat→Prop} {θ:Nat→Loc} {M M2:Nat→Prop} {w:World} {st:St} {a:Act} {Q:AEx→St→Prop} {n:Nat} {es:List (List PV)}
def frzO (n:Nat) (es:List (List PV)):List (Nat × AO)→List (Nat × AO)
 | []=>[]
 | (j,x) :: l=>if j=n then frzO n es l else (j,x.frz n es) :: frzO n es l
theorem frz_O {l:List (Nat × AO)}:(fun m=>if m=n then none else (O l m).map (AO.frz n es))=O (frzO n es l):=by
 funext m
 induction l with
 | nil=>simp [O,frzO]
 | cons p l ih=>
  obtain ⟨j,x⟩:=p
  simp only [O,frzO]
  by_cases e:m=n
  ·subst e
   simp only [if_true] at ih ⊢
   split
   ·exact ih
   ·simp only [O]
    rw [if_neg (fun h=>by omega)]; exact ih
  ·rw [if_neg e] at ih ⊢
   by_cases e2:m=j
   ·subst e2
    rw [if_neg e]
    simp [O]
   ·rw [if_neg e2]
    split
    ·exact ih
    ·simp only [O]; rw [if_neg e2]; exact ih
theorem frz_mk {l:List (Nat × AV)} {m:List (Nat × AO)}:St.frz n es ⟨T l,O m⟩=⟨T (Xf n es l),O (frzO n es m)⟩:=by
 unfold St.frz; rw [Awe,frz_O]
end
end AM
namespace AM
open Go
theorem thenQ_exit {K:St→Prop} {Q:AEx→St→Prop} {s:St} {i:Nat}:Jr K Q (.exit i) s=Q (.exit i) s:=rfl
end AM
namespace AM
open Go
end AM
namespace AM
open Go
section
variable {P:Program} {r:RB} {N:Nat} {s:St} {K:St→Prop} {dst:Option Nat} {ty:TypeId} {pos:String} {after:Array Edge} {g:Option (Nat × Bool)}
def fSlP (esz:Nat→Nat) (ea:Nat→Option Bool) (e:Nat):Option (List (List PV))→Option Int→(Nat→Option Int)→Option Eff
 | some es,some l,hf=>match hf es.length with
  | some h=>if 0≤l∧l≤h∧h≤es.length∧(ea e).isSome∧(es.all fun c=>c.length=esz e) then some (.pure (.p (.sl ((es.take h.toNat).drop l.toNat)))) else none
  | none=>none
 | _,_,_=>none
theorem EO_sliceP {t:TypeId} {x:Operand} {lo hi:Option Operand} {e:Nat} (hk:(Ab P t).k=.sl e):EO P r N ⟨dst,.slice t x lo hi none,ty,pos,after,g⟩ s K=EOp r.b N dst s K (fSlP (fun e=>(Ab P e).sz) (fun e=>(Ab P e).agg) e ((ev s.t x).pv?.bind PV.list?) (A9 (ev s.t) 0 lo) (fun n=>A9 (ev s.t) n hi)):=by
 refine C7 rfl rfl ?_
 simp only [eff,hk]
 cases (ev s.t x).pv?.bind PV.list? with
 | none=>rfl
 | some es=>cases A9 (ev s.t) 0 lo with
  | none=>rfl
  | some l=>
   simp only [fSlP]
   cases A9 (ev s.t) es.length hi <;> rfl
def fSl3 (esz:Nat→Nat) (ea:Nat→Option Bool) (e:Nat):Option (List (List PV))→Option Int→Option Int→Option Int→Option Eff
 | some es,some l,some h,some m=>if 0≤l∧l≤h∧h≤m∧m≤es.length∧(ea e).isSome∧(es.all fun c=>c.length=esz e) then some (.pure (.p (.sl ((es.take h.toNat).drop l.toNat)))) else none
 | _,_,_,_=>none
theorem EO_slice3 {t:TypeId} {x hi mx:Operand} {lo:Option Operand} {e:Nat} (hk:(Ab P t).k=.sl e):EO P r N ⟨dst,.slice t x lo (some hi) (some mx),ty,pos,after,g⟩ s K=EOp r.b N dst s K (fSl3 (fun e=>(Ab P e).sz) (fun e=>(Ab P e).agg) e ((ev s.t x).pv?.bind PV.list?) (A9 (ev s.t) 0 lo) (A9 (ev s.t) 0 (some hi)) (A9 (ev s.t) 0 (some mx))):=by
 refine C7 rfl rfl ?_
 simp only [eff,hk]
 cases (ev s.t x).pv?.bind PV.list? <;> cases A9 (ev s.t) 0 lo <;> cases A9 (ev s.t) 0 (some hi) <;> cases A9 (ev s.t) 0 (some mx) <;> rfl
theorem fSlP_some {esz:Nat→Nat} {ea:Nat→Option Bool} {e:Nat} {es:List (List PV)} {l:Int} {hf:Nat→Option Int} {h:Int} (hh:hf es.length=some h) (h0:0≤l) (h1:l≤h) (h2:h≤es.length) (h3:(ea e).isSome=true) (h4:(es.all fun c=>c.length=esz e)=true):fSlP esz ea e (some es) (some l) hf=some (.pure (.p (.sl ((es.take h.toNat).drop l.toNat)))):=by
 simp only [fSlP,hh]; rw [if_pos ⟨h0,h1,h2,h3,h4⟩]
theorem fSl3_some {esz:Nat→Nat} {ea:Nat→Option Bool} {e:Nat} {es:List (List PV)} {l h m:Int} (h0:0≤l) (h1:l≤h) (h2:h≤m) (h3:m≤es.length) (h5:(ea e).isSome=true) (h4:(es.all fun c=>c.length=esz e)=true):fSl3 esz ea e (some es) (some l) (some h) (some m)=some (.pure (.p (.sl ((es.take h.toNat).drop l.toNat)))):=by
 simp only [fSl3]; rw [if_pos ⟨h0,h1,h2,h3,h5,h4⟩]
def fMk (k by8:Nat) (z:List PV) (d:Nat):AV→AV→Option Eff
 | .p (.val (.int .i64 n)),.p (.val (.int .i64 m))=>if n=m∧0≤n∧n≤4611686018427387904∧by8 * n≤281474976710656 then some (.new (.arr k (List.replicate n.toNat z)) (.own d n.toNat)) else none
 | _,_=>none
theorem EO_mk {t e:TypeId} {l c:Operand} {d k by8:Nat} {z:List Value} (hk:(Ab P t).k=.sl e) (h1:(Ab P e).sz=k) (h2:(Ab P e).bytes=by8) (h3:(Ab P e).zero=z) (h4:z.all Value.oneCell'=true) (h5:k=z.length) (h6:0 < k) (h7:(Ab P e).agg.isSome=true) :
  EO P r N ⟨some d,.makeSlice t l c,ty,pos,after,g⟩ s K=EOp r.b N (some d) s K (fMk k by8 (z.map .val) (r.b+d) (ev s.t l) (ev s.t c)):=by
 refine C7 rfl rfl ?_
 have e5:(k=z.length)=True:=eq_true h5
 have e6:(0 < k)=True:=eq_true h6
 simp only [eff,hk]
 cases ev s.t l with
 | p q=>cases q with
  | val v=>cases v with
   | int kd n=>cases kd <;> (cases ev s.t c with
    | p q'=>cases q' with
     | val v'=>cases v' with
      | int kd' m=>cases kd' <;> simp only [fMk,h1,h2,h3,h4,h7,e5,e6,and_true,Option.getD_some]
      | _=>rfl
     | _=>rfl
    | _=>rfl)
   | _=>rfl
  | _=>rfl
 | _=>rfl
end
end AM
namespace AM
open Go
theorem awp_adoptC {P:Program} {r:RB} {N:Nat} {c:Code} {s:St} {Q:AEx→St→Prop} (n k m off:Nat) {cs:List AV} (hn4:r.b≤n) (hm:s.o m=some (.cells cs)) (hi:cs[off]?=some (.p (.val (.slice none 0 0)))) (hfree:s.o n=none)
  (h:AWP P r N c ⟨s.t,upd (upd s.o n (some (.arr k []))) m (some (.cells (cs.set off (.own n 0))))⟩ Q):AWP P r N c s Q:=by
 intro B S θ M w a hs
 have hmn:m≠n:=fun e=>by rw [e,hfree] at hm; cases hm
 have hS:=hs.new (d:=n) hfree (w':=w) (l:=⟨0,0,true⟩) (o:=.arr k []) (Nat.le_refl _) (fun _ _=>rfl) (fun e=>by cases e)
  ⟨fun i e he=>by simp at he,.inl ⟨rfl,rfl⟩⟩ (AO.lives_arr _ _ _)
 have hm1:(s.setO n (.arr k [])).o m=some (.cells cs):=by show upd s.o n _ m=_; rw [Ar hmn]; exact hm
 have hsome:∀ j,(upd (upd s.o n (some (.arr k []))) m (some (.cells (cs.set off (.own n 0)))) j).isSome=((s.setO n (.arr k [])).o j).isSome:=fun j=>by
  by_cases e:j=m
  ·subst e; rw [Ev,hm1]; rfl
  ·rw [Ar e]; rfl
 have hS2:Aq N B S (Db θ n ⟨0,0,true⟩) (fun b=>M b∨((true:Bool)=false∧b=0)) w ⟨s.t,upd (upd s.o n (some (.arr k []))) m (some (.cells (cs.set off (.own n 0))))⟩ a:=by
  refine ⟨hS.size,hS.tm,fun j o hj=>?_,fun j o hj hnil=>?_,fun i j hi hj=>hS.inj i j (by rw [← hsome]; exact hi) (by rw [← hsome]; exact hj),hS.base,hS.mlt,⟨fun j=>AV.lives_mono (fun i hi=>(hsome i).trans hi) (hS.cl.1 j),fun j o hj=>?_⟩⟩
  ·have hj:upd (upd s.o n (some (.arr k []))) m (some (.cells (cs.set off (.own n 0)))) j=some o:=hj
   by_cases e:j=m
   ·subst e
    rw [Ev] at hj
    cases hj
    obtain ⟨h1,cur,e,h2,h3,h4,h5⟩:=hS.ob j _ hm1
    refine ⟨h1,cur,e,h2,by simpa using h3,fun i hi=>h4 i (by simpa using hi),fun i x hx=>?_⟩
    rw [List.getElem?_set] at hx
    split at hx
    ·rename_i hoff
     split at hx
     ·cases hx
      have hv:=Rd (h5 off _ hi)
      rw [← hoff,hv]
      exact .ownNil n (by simp)
     ·cases hx
    ·exact h5 i x hx
   ·rw [Ar e] at hj
    exact hS.ob j o hj
  ·have hj:upd (upd s.o n (some (.arr k []))) m (some (.cells (cs.set off (.own n 0)))) j=some o:=hj
   by_cases e:j=m
   ·subst e; exact hS.lv j _ hm1 hnil
   ·rw [Ar e] at hj; exact hS.lv j o hj hnil
  ·have hj:upd (upd s.o n (some (.arr k []))) m (some (.cells (cs.set off (.own n 0)))) j=some o:=hj
   have hmono:∀ i,((s.setO n (.arr k [])).o i).isSome=true→(upd (upd s.o n (some (.arr k []))) m (some (.cells (cs.set off (.own n 0)))) i).isSome=true:=fun i hi=>(hsome i).trans hi
   by_cases e:j=m
   ·subst e
    rw [Ev] at hj
    cases hj
    rw [AO.lives_cells]
    intro i x hx
    rw [List.getElem?_set] at hx
    split at hx
    ·split at hx
     ·cases hx
      intro p hp
      simp only [AV.clean,bne_eq_false_iff_eq] at hp
      subst hp
      refine hmono n ?_
      show (upd s.o n _ n).isSome=true
      simp
     ·cases hx
    ·exact AV.lives_mono hmono (AO.lives_cells.1 (hS.cl.2 j _ hm1) i x hx)
   ·rw [Ar e] at hj
    exact AO.lives_mono hmono (hS.cl.2 j o hj)
 have:=h B S _ _ w a hS2
 refine wpIn_mono this ?_
 rintro e a' w' ⟨ae,st',h1,h2,⟨⟨θ',M',h3,h4,h5,h6⟩,h7⟩⟩
 exact ⟨ae,st',h1,h2,⟨⟨θ',M',h3,h4,fun m hm hv=>(h5 m hm hv).trans (Ay (by omega)),fun b hb hm=>h6 b hb (.inl hm)⟩,h7⟩⟩
theorem awp_adoptC' {P:Program} {r:RB} {N:Nat} {c:Code} {l:List (Nat × AV)} {mm:List (Nat × AO)} {Q:AEx→St→Prop} (n k m off:Nat) {cs:List AV} (hn4:r.b≤n) (hm:O mm m=some (.cells cs)) (hi:cs[off]?=some (.p (.val (.slice none 0 0)))) (hfree:O mm n=none)
  (h:AWP P r N c ⟨T l,O ((m,.cells (cs.set off (.own n 0))) :: (n,.arr k []) :: mm)⟩ Q):AWP P r N c ⟨T l,O mm⟩ Q:=awp_adoptC n k m off hn4 hm hi hfree h
end AM
end
/- Worts in plain Lean, and how they lie in abstract values. -/
section
namespace AM.Wort
open Go AM Go.Proofs
theorem encA_getD {l:List Sta} {k:Nat} (h:k < l.length):(l.map Bb7).getD k []=Bb7 (l.getD k default):=Cp _ _ _ h
end AM.Wort
end
/- The abstract machine, part 42: an object gets another name. -/
section
namespace AM
open Go Go.Proofs
section
variable {P:Program} {r:RB} {N B:Nat} {S:Nat→Prop} {θ:Nat→Loc} {M:Nat→Prop} {w:World} {st:St} {a:Act} {Q:AEx→St→Prop} {c m:Nat}
theorem Aq.wk {s1:St} (h:Aq N B S θ M w st a) (hw:s1.wk st):Aq N B S θ M w s1 a:=by
 have hob:∀ n o,s1.o n=some o→∃ o',st.o n=some o'∧(Lu θ M w (θ n) o'→Lu θ M w (θ n) o):=fun n o hn=>by
  rcases hw.o n with e | e | ⟨cs,cs',e1,e2,e3,e4⟩
  ·rw [e] at hn; cases hn
  ·rw [e] at hn; exact ⟨o,hn,id⟩
  ·rw [e2] at hn; cases hn
   refine ⟨_,e1,fun ⟨h0,cur,e,hb,hs,ho,hx⟩=>⟨h0,cur,e,hb,by rw [hs,e3],fun i hi=>ho i (by rw [← e3]; exact hi),fun i x hi=>?_⟩⟩
   rcases e4 i x hi with rfl | h
   ·exact .undef _
   ·exact hx i x h
 refine ⟨h.size,fun i=>?_,fun n o hn=>?_,fun n o hn hnil=>?_,fun n m hn hm=>?_,h.base,h.mlt,hw.cl⟩
 ·rcases hw.t i with e | e
  ·rw [e]; exact .undef _
  ·rw [e]; exact h.tm i
 ·obtain ⟨o',h1,h2⟩:=hob n o hn
  exact h2 (h.ob n o' h1)
 ·obtain ⟨o',h1,_⟩:=hob n o hn
  exact h.lv n o' h1 hnil
 ·obtain ⟨o1,ho1⟩:=Option.isSome_iff_exists.1 hn
  obtain ⟨o2,ho2⟩:=Option.isSome_iff_exists.1 hm
  obtain ⟨o1',g1,_⟩:=hob n o1 ho1
  obtain ⟨o2',g2,_⟩:=hob m o2 ho2
  exact h.inj n m (by rw [g1]; rfl) (by rw [g2]; rfl)
theorem AWP.wk {cd:Code} (h:AWP P r N cd st (fun e s=>∃ s1:St,s1.wk s∧Q e s1)):AWP P r N cd st Q:=by
 intro B S θ M w a hs
 refine wpIn_mono (h B S θ M w a hs) ?_
 rintro e a' w' ⟨ae,st',rfl,⟨s1,h1,hq⟩,⟨θ',M',hs',hk,ht,hm⟩,hd⟩
 exact ⟨ae,s1,rfl,hq,⟨θ',M',hs'.wk h1,hk,ht,hm⟩,hd⟩
end
section
variable {P:Program} {r:RB} {N:Nat} {st:St} {Q:AEx→St→Prop} {c m:Nat}
theorem awp_frz' {cd:Code} {l:List (Nat × AV)} {o:List (Nat × AO)} {k:Nat} (n:Nat) {es:List (List PV)} (hn:O o n=some (.arr k es)) (h:AWP P r N cd ⟨T (Xf n es l),O (frzO n es o)⟩ Q):AWP P r N cd ⟨T l,O o⟩ Q:=
 Aro n hn (by rw [frz_mk]; exact h)
end
end AM
end
/- Ranges over functions that yield values; searches of the beginning of an array. -/
section
namespace AM
open Go AM AM.Duty Go.Proofs
open Nat renaming reduceLT→sA,reduceAdd→sB,reduceMul→sC,reduceSub→sD,reduceLeDiff→sE,reduceEqDiff→sF,reduceBEq→sG
open Int renaming reduceAdd→sH,reduceSub→sI,reduceMul→sJ,reduceLT→sK,reduceLE→sL,reduceNeg→sM,reduceToNat→sN,reduceEq→sO
set_option maxHeartbeats 4000000
theorem Ag6.drop {P:Program} {fv:AV} {F:Nat→Prop} {σ α:Type} {arg:α→AV} {l:List α} {go:σ→Prop} {I:σ→(Nat→Option AO)→Prop} {step:σ→α→σ × Bool} (hT:Ag6 P fv F arg l go I step) {os os2:Nat→Option AO} {bd:Nat} (hcl:(Hp os).closed) (hfree:∀ n,bd≤n→os n=none) {s s':σ} (hs:I s os) (hI:I s' os2) (hfr:∀ n,n < bd→¬ F n→os2 n=os n) :
  (Hp (Dt bd os2)).closed∧I s' (Dt bd os2)∧∀ n,¬ F n→Dt bd os2 n=os n:=by
 have hF:∀ n,F n→n < bd:=fun n hn=>by obtain ⟨o,h,_⟩:=hT.foot s os n hs hn; exact Ao hfree h
 have hfr2:∀ n,¬ F n→Dt bd os2 n=os n:=fun n hn=>by
  by_cases h:n < bd
  ·rw [Fv h]; exact hfr n h hn
  ·rw [Sg (by omega),hfree n (by omega)]
 refine ⟨⟨fun _=>AV.lives_undef _,fun n o hn=>?_⟩,hT.stable s' os2 _ hI (fun n hn=>Fv (hF n hn)),hfr2⟩
 have hn:Dt bd os2 n=some o:=hn
 by_cases hFn:F n
 ·obtain ⟨o',h1,h2⟩:=hT.foot s' os2 n hI hFn
  rw [Fv (hF n hFn),h1] at hn
  cases hn
  intro m hm
  obtain ⟨o'',h3,_⟩:=hT.foot s' os2 m hI (h2 m hm)
  show (Dt bd os2 m).isSome=true
  rw [Fv (hF m (h2 m hm)),h3]; rfl
 ·rw [hfr2 n hFn] at hn
  intro m hm
  have h3:=hcl.2 n o hn m hm
  show (Dt bd os2 m).isSome=true
  by_cases hFm:F m
  ·obtain ⟨o',h1,_⟩:=hT.foot s' os2 m hI hFm
   rw [Fv (hF m hFm),h1]; rfl
  ·rw [hfr2 m hFm]; exact h3
theorem allS_go' {σ α:Type} {step:σ→α→σ × Bool} {go:σ→Prop}:∀ {l:List α} {s:σ},(∀ s x,x ∈ l→go s→(step s x).2=true→go (step s x).1)→go s→(Fm step s l).2=true→go (Fm step s l).1
 | [],_,_,hg,_=>hg
 | x :: l,s,hn,hg,h=>by
  simp only [Fm] at h ⊢
  split at h
  ·rename_i h1
   rw [if_pos h1]
   exact allS_go' (fun s y hy=>hn s y (by simp [hy])) (hn s x (by simp) hg h1) h
  ·cases h
end AM
end
/- All lists of numbers of some ranges, one after the other. -/
section
namespace AM.Wort
open Go AM Go.Proofs
def listsN (f:Int→List (List Int)):Nat→Int→List (List Int)
 | 0,_=>[]
 | c+1,n=>f n++listsN f c (n+1)
def listsR:List Rng→List Int→List (List Int)
 | [],p=>[p]
 | r :: rs,p=>listsN (fun n=>listsR rs (p++[n])) (Fa r).toNat r.lo
theorem listsN_next {f:Int→List (List Int)} {sz n:Nat} {lo:Int} (h:n < sz):listsN f (sz - n) (lo+n)=f (lo+n)++listsN f (sz - (n+1)) (lo+(n+1:Nat)):=by
 rw [show sz - n=(sz - (n+1))+1 by omega,show lo+((n+1:Nat):Int)=lo+n+1 by omega]; rfl
theorem listsN_end {f:Int→List (List Int)} {sz n:Nat} {lo:Int} (h:sz≤n):listsN f (sz - n) lo=[]:=by
 rw [show sz - n=0 by omega]; rfl
theorem listsN_mem {f:Int→List (List Int)} {x:List Int}:∀ (c:Nat) (n:Int) (k:Nat),k < c→x ∈ f (n+k)→x ∈ listsN f c n
 | 0,_,k,hk,_=>by omega
 | c+1,n,0,_,h=>by
  simp only [listsN,List.mem_append]
  left; simpa using h
 | c+1,n,k+1,hk,h=>by
  simp only [listsN,List.mem_append]
  right
  refine listsN_mem c (n+1) k (by omega) ?_
  rw [show n+1+(k:Int)=n+((k+1:Nat):Int) by omega]; exact h
theorem listsN_get {f:Int→List (List Int)} {x:List Int}:∀ (c:Nat) (n:Int),x ∈ listsN f c n→∃ k:Nat,k < c∧x ∈ f (n+k)
 | 0,_,h=>by cases h
 | c+1,n,h=>by
  simp only [listsN,List.mem_append] at h
  rcases h with h | h
  ·exact ⟨0,by omega,by simpa using h⟩
  ·obtain ⟨k,h1,h2⟩:=listsN_get c (n+1) h
   exact ⟨k+1,by omega,by rw [show n+((k+1:Nat):Int)=n+1+k by omega]; exact h2⟩
theorem drop_getD' {α:Type} {l:List α} {i:Nat} (d:α) (h:i < l.length):l.drop i=l.getD i d :: l.drop (i+1):=by
 rw [List.drop_eq_getElem_cons h]; simp [List.getD,h]
theorem lists_here {rs:List Rng} {cur:List Int} {d:Rng} (h:cur.length < rs.length):listsR (rs.drop cur.length) cur=listsN (fun n=>listsR (rs.drop (cur.length+1)) (cur++[n])) ((Fa (rs.getD cur.length d)).toNat - 0) ((rs.getD cur.length d).lo+(0:Nat)):=by
 rw [drop_getD' d h,Nat.sub_zero]; simp only [listsR,Int.natCast_zero,Int.add_zero]
theorem lists_end {rs:List Rng} {cur:List Int} (h:rs.length≤cur.length):listsR (rs.drop cur.length) cur=[cur]:=by
 rw [List.drop_of_length_le h]; rfl
def allIn:List Rng→List Int→Prop
 | [],[]=>True
 | r :: rs,x :: l=>(r.lo≤x∧x≤r.hi)∧allIn rs l
 | _,_=>False
theorem mem_lists:∀ (rs:List Rng) (p x:List Int),x ∈ listsR rs p↔∃ y,x=p++y∧allIn rs y
 | [],p,x=>by
  simp only [listsR,List.mem_singleton]
  constructor
  ·intro h; exact ⟨[],by simpa using h,trivial⟩
  ·rintro ⟨y,rfl,hy⟩
   cases y with
   | nil=>simp
   | cons a l=>exact hy.elim
 | r :: rs,p,x=>by
  simp only [listsR]
  constructor
  ·intro h
   obtain ⟨k,h1,h2⟩:=listsN_get _ _ h
   obtain ⟨y,rfl,hy⟩:=(mem_lists rs _ x).1 h2
   refine ⟨(r.lo+k) :: y,by simp,⟨?_,?_⟩,hy⟩
   ·omega
   ·unfold Fa at h1; omega
  ·rintro ⟨y,rfl,hy⟩
   cases y with
   | nil=>exact hy.elim
   | cons a l=>
    obtain ⟨⟨h1,h2⟩,h3⟩:=hy
    refine listsN_mem _ _ (a - r.lo).toNat (by unfold Fa; omega) ((mem_lists rs _ _).2 ⟨l,?_,h3⟩)
    rw [show r.lo+((a - r.lo).toNat:Int)=a by omega]; simp
theorem allIn_len:∀ {rs:List Rng} {l:List Int},allIn rs l→l.length=rs.length
 | [],[],_=>rfl
 | [],_ :: _,h=>h.elim
 | _ :: _,[],h=>h.elim
 | _ :: rs,_ :: l,h=>by simp [allIn_len h.2]
end AM.Wort
end
/- The abstract machine, part 70: the beginning of a slice that is a value. -/
section
namespace AM
open Go Go.Proofs
theorem pvl_sl {es:List (List PV)}:(AV.p (.sl es)).pv?.bind PV.list?=some es:=rfl
end AM
end
/- Lists of numbers as truths. -/
section
namespace AM.Wort
open Go AM Go.Proofs
def truT (k:Nat) (x:List Int):Tru:=⟨x.take k,(x.take (2 * k)).drop k,x.drop (2 * k)⟩
theorem truT_app {k:Nat} {x:List Int}:(truT k x).g++((truT k x).d++(truT k x).m)=x:=by
 show x.take k++((x.take (2 * k)).drop k++x.drop (2 * k))=x
 rw [← List.append_assoc]
 have:x.take k++(x.take (2 * k)).drop k=x.take (2 * k):=by
  rw [show x.take k=(x.take (2 * k)).take k by rw [List.take_take]; congr 1; omega]
  exact List.take_append_drop _ _
 rw [this]; exact List.take_append_drop _ _
theorem allIn_get:∀ {rs:List Rng} {x:List Int},allIn rs x→∀ k,k < rs.length→Jn (rs.getD k default) (x.getD k 0)=true
 | [],[],_,k,hk=>by simp at hk
 | [],_ :: _,h,_,_=>h.elim
 | _ :: _,[],h,_,_=>h.elim
 | r :: rs,n :: x,h,0,_=>by
  simp only [Jn,inB,List.getD_cons_zero,Bool.and_eq_true,decide_eq_true_eq]
  exact h.1
 | r :: rs,n :: x,h,k+1,hk=>by
  simp only [List.getD_cons_succ]
  exact allIn_get h.2 k (by simpa using hk)
theorem listed_tru {b:Ee} {x:List Int} (h:x ∈ listsR (Fz b) []):F1 b (truT b.vs.length x)=true:=by
 obtain ⟨y,e,hy⟩:=(mem_lists _ _ _).1 h
 rw [List.nil_append] at e
 subst e
 have hl:=allIn_len hy
 rw [Qo] at hl
 refine Ak1 (by simp [truT]; omega) (by simp [truT]; omega) (by simp [truT]; omega) fun k hk=>?_
 rw [show Jt (truT b.vs.length x)=x by
  have e:Jt (truT b.vs.length x)=(truT b.vs.length x).g++((truT b.vs.length x).d++(truT b.vs.length x).m):=by simp [Jt]
  rw [e,truT_app]]
 exact allIn_get hy k hk
theorem wI_in {v:List Liq} (h:OkV v):(wI v).all inR=true:=by
 have hk:=Bay (s:=⟨0,0,0,⟨0,0⟩⟩) (n:=0) (v:=v) (by decide) (by decide) h.small
 unfold kD at hk
 simp only [List.all_cons,Bool.and_eq_true] at hk
 exact hk.2.2.2.2.2.2
theorem wI_inj:∀ {v w:List Liq},wI v=wI w→v=w
 | [],[],_=>rfl
 | [],_ :: _,h=>by simp [wI] at h
 | _ :: _,[],h=>by simp [wI] at h
 | l :: v,m :: w,h=>by
  have h':l.g :: l.e :: wI v=m.g :: m.e :: wI w:=h
  injection h' with h1 h2
  injection h2 with h2 h3
  rw [wI_inj h3]
  cases l; cases m; cases h1; cases h2; rfl
theorem intsOf_cW (v:List Liq):Cn (cW v)=some (wI v):=Uv _
end AM.Wort
end
/- Ranges over functions whose loop's state tells when it may go on. -/
section
namespace AM
open Go AM AM.Duty Go.Proofs
open Nat renaming reduceLT→sA,reduceAdd→sB,reduceMul→sC,reduceSub→sD,reduceLeDiff→sE,reduceEqDiff→sF,reduceBEq→sG
open Int renaming reduceAdd→sH,reduceSub→sI,reduceMul→sJ,reduceLT→sK,reduceLE→sL,reduceNeg→sM,reduceToNat→sN,reduceEq→sO
structure RoundsG (P:Program) (bdL:Nat) (k:F8) (tm:List (Nat × AV)) (v q:List Nat) (F:Nat→Prop) {σ α:Type} (arg:α→AV) (l:List α) (go:σ→Prop) (I:σ→(Nat→Option AO)→Prop) (bst:σ→α→σ × Option Code):Prop where
 ready:k=Alv k none
 lenp:k.ps.length=1
 psn:∀ p ∈ k.ps,p < k.n
 notF:¬ F bdL
 tmF:∀ m,(AO.loop k tm).clean m=false→F m
 stable:∀ s os os',I s os→(∀ n,F n→os' n=os n)→I s os'
 foot:∀ s os n,I s os→F n→∃ o,os n=some o∧∀ m,o.clean m=false→F m
 next:∀ s x,x ∈ l→go s→(bst s x).2=none→go (bst s x).1
 body:∀ s x os bd,x ∈ l→go s→I s os→os bdL=some (.loop k tm)→(Hp os).closed→(∀ n,bd≤n→os n=none)→bdL < bd →
  ∀ rl,AWP P ⟨⟨some rl,fun _=>False⟩,bd,v,q⟩ k.n k.assign ⟨H1 k.ps [arg x] (T tm),os⟩ (Jr (fun s1=>s1.o bdL=some (.loop k tm)∧AWP P ⟨⟨some rl,fun _=>False⟩,bd,v,q⟩ k.n k.body ⟨s1.t,upd s1.o bdL (some (.loop { k with state:=.busy } tm))⟩
   (V5 bdL k tm fun res os'=>res=bl (bst s x).2.isNone∧(I (bst s x).1 os'∧os' bdL=some (.loop (Alv k (bst s x).2) tm))∧∀ n,¬ (F n∨n=bdL)→os' n=os n)) (fun _ _=>False))
theorem RoundsG.yields {P:Program} {bdL:Nat} {k:F8} {tm:List (Nat × AV)} {v q:List Nat} {F:Nat→Prop} {σ α:Type} {arg:α→AV} {l:List α} {go:σ→Prop} {I:σ→(Nat→Option AO)→Prop} {bst:σ→α→σ × Option Code} (h:RoundsG P bdL k tm v q F arg l go I bst) :
  Ag6 P (.yld bdL) (fun n=>F n∨n=bdL) arg l (fun (s:σ × Option Code)=>s.2=none∧go s.1) (fun s os=>I s.1 os∧os bdL=some (.loop (Alv k s.2) tm)) (fun s x=>(bst s.1 x,(bst s.1 x).2.isNone)) where
 live s os hI:=by rw [Q0,hI.2]; rfl
 stable s os os' hI he:=⟨h.stable s.1 os os' hI.1 (fun n hn=>he n (.inl hn)),(he bdL (.inr rfl)).trans hI.2⟩
 foot s os n hI hn:=by
  rcases hn with hn | rfl
  ·obtain ⟨o,h1,h2⟩:=h.foot s.1 os n hI.1 hn
   exact ⟨o,h1,fun m hm=>.inl (h2 m hm)⟩
  ·exact ⟨_,hI.2,fun m hm=>.inl (h.tmF m hm)⟩
 next s x hx hg hs:=⟨Option.isNone_iff_eq_none.1 hs,h.next s.1 x hx hg.2 (Option.isNone_iff_eq_none.1 hs)⟩
 call s x os bd hx hg hI hcl0:=by
  have hloop:os bdL=some (.loop k tm):=by
   have:=hI.2
   rw [hg.1,← h.ready] at this
   exact this
  intro hfree
  have hb:=Ao hfree hloop
  refine Sr (fun hm=>hm) (k:=k) (tm:=tm) (v:=v) (q:=q) hloop (by rw [h.ready]; rfl) (by rw [h.lenp]; rfl) h.psn (fun hcl _ rl=>?_) hfree
  exact h.body s.1 x os bd hx hg.2 hI.1 hloop hcl hfree hb rl
end AM
end
/- Bounds of what vessels have. -/
section
namespace AM.Wort
open Go AM Go.Proofs
structure Bnd where
 g:Rng
 e:Rng
 k:Rng
instance:Inhabited Bnd:=⟨⟨⟨0,0⟩,⟨0,0⟩,⟨0,0⟩⟩⟩
def widR (r:Rng) (n:Int) (f:Bool):Rng:=if f=true then ⟨n,n⟩ else ⟨min r.lo n,if r.hi < n then n else r.hi⟩
def widB (x:Bnd) (l:Liq) (k:Int) (f:Bool):Bnd:=⟨widR x.g l.g f,widR x.e l.e f,widR x.k k f⟩
def encBn (x:Bnd):List PV:=[iv x.g.lo,iv x.g.hi,iv x.e.lo,iv x.e.hi,iv x.k.lo,iv x.k.hi]
def gravX (e g:Int):Int:=if g=0 then 0 else if g≤2 * (e - e / g * g) then e / g+1 else e / g
theorem gravX_eq {l:Liq} (hg:0≤l.g):gravX l.e l.g=Qd l:=by
 obtain ⟨g,e⟩:=l
 unfold gravX Qd
 dsimp only at hg ⊢
 split
 ·rfl
 ·rename_i h
  have hp:0 < g:=by omega
  have h1:=Int.mul_ediv_add_emod e g
  have h2:=Int.emod_nonneg e h
  have h3:=Int.emod_lt_of_pos e hp
  rw [Int.mul_comm] at h1
  generalize e / g=q at *
  generalize e % g=r at *
  have e0:q * (2 * g)=2 * (q * g):=by rw [← Int.mul_assoc,Int.mul_comm q 2,Int.mul_assoc]
  have e1:2 * e+g=(2 * r+g)+q * (2 * g):=by omega
  rw [e1,Int.add_mul_ediv_right _ _ (by omega)]
  split
  ·have a1:1≤(2 * r+g) / (2 * g):=Int.le_ediv_of_mul_le (by omega) (by omega)
   have a2:(2 * r+g) / (2 * g) < 2:=Int.ediv_lt_of_lt_mul (by omega) (by omega)
   omega
  ·rw [Int.ediv_eq_zero_of_lt (by omega) (by omega)]; omega
def roomF:List Ves→List Int→Nat→Bool
 | [],_,_=>true
 | x :: vs,gs,i=>decide (gs.getD i 0≤x.room)&&roomF vs gs (i+1)
def restG:List Ves→List Int→List Int→Nat→List Liq
 | [],_,_,_=>[]
 | _ :: vs,gs,ds,i=>⟨gs.getD i 0,gs.getD i 0 * ds.getD i 0⟩ :: restG vs gs ds (i+1)
def fillF:List Ves→List Int→List Int→Nat→List Liq→List Liq
 | [],_,_,_,v=>v
 | _ :: vs,gs,ds,i,v=>fillF vs gs ds (i+1) (v.set i ⟨gs.getD i 0,gs.getD i 0 * ds.getD i 0⟩)
theorem room_step {vs:List Ves} {gs:List Int} {k:Nat} (h:k < vs.length):roomF (vs.drop k) gs k=(decide (gs.getD k 0≤(vs.getD k default).room)&&roomF (vs.drop (k+1)) gs (k+1)):=by
 have:vs.drop k=vs.getD k default :: vs.drop (k+1):=by rw [List.drop_eq_getElem_cons h]; simp [List.getD,h]
 rw [this]; rfl
theorem rest_step {vs:List Ves} {gs ds:List Int} {k:Nat} (h:k < vs.length):restG (vs.drop k) gs ds k=⟨gs.getD k 0,gs.getD k 0 * ds.getD k 0⟩ :: restG (vs.drop (k+1)) gs ds (k+1):=by
 have:vs.drop k=vs.getD k default :: vs.drop (k+1):=by rw [List.drop_eq_getElem_cons h]; simp [List.getD,h]
 rw [this]; rfl
theorem room_end {vs:List Ves} {gs:List Int} {k:Nat} (h:vs.length≤k):roomF (vs.drop k) gs k=true:=by rw [List.drop_of_length_le h]; rfl
theorem rest_end {vs:List Ves} {gs ds:List Int} {k:Nat} (h:vs.length≤k):restG (vs.drop k) gs ds k=[]:=by rw [List.drop_of_length_le h]; rfl
theorem begin_room:∀ {vs:List Ves} {gs ds:List Int} {i:Nat} {v:List Liq},(Gh vs gs ds i v).2=roomF vs gs i∧(roomF vs gs i=true→(Gh vs gs ds i v).1=fillF vs gs ds i v)
 | [],_,_,_,_=>⟨rfl,fun _=>rfl⟩
 | x :: vs,gs,ds,i,v=>by
  unfold Gh roomF fillF
  split
  ·rename_i h
   rw [decide_eq_false (by omega)]
   exact ⟨rfl,fun h=>by cases h⟩
  ·rename_i h
   rw [decide_eq_true (by omega),Bool.true_and]
   exact begin_room
theorem fill_take:∀ {vs:List Ves} {gs ds:List Int} {i:Nat} {v:List Liq},i+vs.length≤v.length→(fillF vs gs ds i v).take (i+vs.length)=v.take i++restG vs gs ds i
 | [],_,_,_,_,_=>by simp [fillF,restG]
 | x :: vs,gs,ds,i,v,h=>by
  simp only [List.length_cons] at h
  unfold fillF restG
  have:=fill_take (vs:=vs) (gs:=gs) (ds:=ds) (i:=i+1) (v:=v.set i ⟨gs.getD i 0,gs.getD i 0 * ds.getD i 0⟩) (by rw [List.length_set]; omega)
  rw [show i+(x :: vs).length=i+1+vs.length by simp only [List.length_cons]; omega,this,List.take_add_one,List.take_set,List.getElem?_set_self (by omega)]
  rw [List.set_eq_of_length_le (by rw [List.length_take]; omega)]
  simp
theorem fill_ok:∀ {vs:List Ves} {gs ds:List Int} {i:Nat} {v:List Liq},i+vs.length≤4→(∀ k,0≤gs.getD k 0∧gs.getD k 0≤60)→(∀ k,0≤ds.getD k 0∧ds.getD k 0≤120) →
  OkV v→tot v≤7200 * (i:Int)→(∀ k,i≤k→(v.getD k default).e=0)→OkV (fillF vs gs ds i v)
 | [],_,_,_,_,_,_,_,h,_,_=>h
 | x :: vs,gs,ds,i,v,hi,hg,hd,h,ht,hz=>by
  unfold fillF
  have g1:=hg i
  have d1:=hd i
  have e1:0≤gs.getD i 0 * ds.getD i 0:=Int.mul_nonneg g1.1 d1.1
  have e2:gs.getD i 0 * ds.getD i 0≤7200:=by
   have:=Int.mul_le_mul g1.2 d1.2 d1.1 (by omega); omega
  have hz0:=hz i (Nat.le_refl _)
  have hl:=h.len
  simp only [List.length_cons] at hi
  have t2:tot (v.set i ⟨gs.getD i 0,gs.getD i 0 * ds.getD i 0⟩)=tot v - (v.getD i default).e+gs.getD i 0 * ds.getD i 0:=Tm (by omega)
  refine fill_ok (by omega) hg hd (h.set (by omega) g1 e1 (by show _ - _+gs.getD i 0 * ds.getD i 0≤_; rw [hz0]; omega)) (by rw [t2,hz0]; omega) fun k hk=>?_
  rw [Fu,if_neg (by omega)]
  exact hz k (by omega)
def OkN (n:Nat) (v:List Liq):Prop:=∃ w,OkV w∧v=w.take n
def beginX (vs:List Ves) (gs ds:List Int):List Liq:=restG vs gs ds 0
theorem beginX_ok {b:Ee} {t:Tru} (hv:N6 b) (h:F1 b t=true):OkN b.vs.length (beginX b.vs t.g t.d):=by
 obtain ⟨h1,h2,_⟩:=L0 hv h
 refine ⟨fillF b.vs t.g t.d 0 v0,fill_ok (by have:=hv.nv; omega) h1 h2 Ala (by decide) fun k _=>?_,?_⟩
 ·match k with
  | 0=>rfl
  | 1=>rfl
  | 2=>rfl
  | 3=>rfl
  | k+4=>rfl
 ·have:=fill_take (vs:=b.vs) (gs:=t.g) (ds:=t.d) (i:=0) (v:=v0) (by have:=hv.nv; simp; omega)
  rw [Nat.zero_add] at this
  exact this.symm
def roomX (vs:List Ves) (gs:List Int):Bool:=roomF vs gs 0
def RoomV (vs:List Ves) (v:List Liq):Prop:=∀ k,k < vs.length→(B0 v k).g≤(vs.getD k default).room
theorem OkN.len {n:Nat} {v:List Liq} (h:OkN n v) (hn:n≤4):v.length=n:=by
 obtain ⟨w,hw,rfl⟩:=h
 rw [List.length_take,hw.len]; omega
theorem getL_take {w:List Liq} {n k:Nat} (h:k < n):B0 (w.take n) k=B0 w k:=by
 unfold B0
 rw [List.getD_eq_getElem?_getD,List.getD_eq_getElem?_getD,List.getElem?_take,if_pos h]
theorem OkN.at {n:Nat} {v:List Liq} (h:OkN n v) (k:Nat):(0≤(B0 v k).g∧(B0 v k).g≤60)∧0≤(B0 v k).e∧(B0 v k).e≤28800:=by
 obtain ⟨w,hw,rfl⟩:=h
 by_cases hk:k < n
 ·rw [getL_take hk]
  have:=Apr hw.e k
  have:=hw.t
  exact ⟨hw.g k,hw.e k,by unfold B0; omega⟩
 ·have:B0 (w.take n) k=⟨0,0⟩:=by
   unfold B0
   rw [List.getD_eq_getElem?_getD,List.getElem?_eq_none (by rw [List.length_take]; omega)]; rfl
  rw [this]; decide
theorem set_take {w:List Liq} {n k:Nat} {a:Liq}:(w.take n).set k a=(w.set k a).take n:=by rw [List.take_set]
theorem do_take {vs:List Ves} {w:List Liq} {s:Stp} {m:Int} (hs:F7 vs.length s=true):doS vs (w.take vs.length) s m=((doS vs w s m).1.take vs.length,(doS vs w s m).2):=by
 obtain ⟨hk,hf,ht,_,_⟩:=Fy hs
 have f1:s.frm.toNat < vs.length:=by omega
 have t1:s.to.toNat < vs.length:=by omega
 have a:G3 (w.take vs.length) s m=((G3 w s m).1.take vs.length,(G3 w s m).2):=by
  unfold G3
  split
  ·unfold Ff
   rw [getL_take f1]
   split
   ·rfl
   ·split
    ·simp only [L5,J1,G6,getL_take f1,set_take]
     rw [getL_take t1]
    ·rfl
  ·split
   ·simp only [P1,getL_take t1,set_take]
   ·simp only [X7,getL_take f1,set_take]
 simp only [doS,a]
 rw [getL_take t1]
def doX (vs:List Ves) (v:List Liq) (s:Stp) (n:Int):List Liq × Bool:=if (doS vs v s n).2=true then doS vs v s n else (v,false)
theorem doX_two {vs:List Ves} {v:List Liq} {s:Stp} {n:Int}:(doX vs v s n).2=(doS vs v s n).2:=by
 unfold doX; split
 ·rfl
 ·rename_i h; simpa using h
theorem doX_ok {vs:List Ves} {v:List Liq} {s:Stp} {n:Int} (h:OkN vs.length v) (hvs:vs.length≤4) (hv:vs.all Eu=true) (hs:F7 vs.length s=true) (hn:0≤n):OkN vs.length (doX vs v s n).1:=by
 unfold doX; split
 ·rename_i hd
  obtain ⟨w,hw,rfl⟩:=h
  rw [do_take hs] at hd ⊢
  exact ⟨_,Am5 hw hvs hv hs hn hd,rfl⟩
 ·exact h
theorem act_room {vs:List Ves} {v:List Liq} {s:Stp} {n:Int} (h:RoomV vs v) (hs:F7 vs.length s=true) (hn:0≤n) (_:v.length=vs.length):∀ k,k < vs.length→k≠s.to.toNat→(B0 (G3 v s n).1 k).g≤(vs.getD k default).room:=by
 intro k hk hne
 have hr:=h k hk
 obtain ⟨_,hf,ht,hft,_⟩:=Fy hs
 unfold G3
 split
 ·unfold Ff
  split
  ·exact hr
  ·split
   ·unfold L5 J1
    rw [M6,if_neg (fun e=>hne e.1),M6]
    split
    ·rename_i e; rw [e.1] at hr ⊢; show _ - n≤_; omega
    ·exact hr
   ·exact hr
 ·split
  ·unfold P1
   rw [M6,if_neg (fun e=>hne e.1)]; exact hr
  ·unfold X7
   rw [M6]
   split
   ·rename_i e; rw [e.1] at hr ⊢; show _ - n≤_; omega
   ·exact hr
theorem doX_room {vs:List Ves} {v:List Liq} {s:Stp} {n:Int} (h:RoomV vs v) (hs:F7 vs.length s=true) (hn:0≤n) (hl:v.length=vs.length):RoomV vs (doX vs v s n).1:=by
 unfold doX; split
 ·rename_i hd
  intro k hk
  simp only [doS,Bool.and_eq_true,decide_eq_true_eq] at hd ⊢
  by_cases e:k=s.to.toNat
  ·rw [e]; exact hd.2
  ·exact act_room h hs hn hl k hk e
 ·exact h
def playXF (vs:List Ves) (m:List Int):List Stp→Nat→List Liq × Bool→List Liq × Bool
 | [],_,r=>r
 | s :: ss,i,r=>if r.2=false then r else playXF vs m ss (i+1) (doX vs r.1 s (m.getD i 0))
def playX (b:Ee) (t:Tru):List Liq × Bool:=playXF b.vs t.m b.ss 0 (beginX b.vs t.g t.d,roomX b.vs t.g)
theorem playX_step {vs:List Ves} {m:List Int} {ss:List Stp} {k:Nat} {r R:List Liq × Bool} (h:k < ss.length) (hr:r.2=true) (hp:playXF vs m (ss.drop k) k r=R):playXF vs m (ss.drop (k+1)) (k+1) (doX vs r.1 (ss.getD k default) (m.getD k 0))=R:=by
 have:ss.drop k=ss.getD k default :: ss.drop (k+1):=by rw [List.drop_eq_getElem_cons h]; simp [List.getD,h]
 rw [this] at hp; unfold playXF at hp; rw [if_neg (by rw [hr]; decide)] at hp; exact hp
theorem playX_stop {vs:List Ves} {m:List Int} {ss:List Stp} {k:Nat} {r R:List Liq × Bool} (h:k < ss.length) (hr:r.2=false) (hp:playXF vs m (ss.drop k) k r=R):R=r:=by
 have:ss.drop k=ss.getD k default :: ss.drop (k+1):=by rw [List.drop_eq_getElem_cons h]; simp [List.getD,h]
 rw [this] at hp; unfold playXF at hp; rw [if_pos hr] at hp; exact hp.symm
theorem playX_end {vs:List Ves} {m:List Int} {ss:List Stp} {k:Nat} {r R:List Liq × Bool} (h:ss.length≤k) (hp:playXF vs m (ss.drop k) k r=R):R=r:=by
 rw [List.drop_of_length_le h] at hp; exact hp.symm
theorem playXF_false {vs:List Ves} {m:List Int}:∀ {ss:List Stp} {i:Nat} {v:List Liq},(playXF vs m ss i (v,false)).2=false
 | [],_,_=>rfl
 | _ :: _,_,_=>by unfold playXF; rw [if_pos rfl]
theorem playF_false {vs:List Ves} {m:List Int}:∀ {ss:List Stp} {i:Nat} {v:List Liq},(J9 vs m ss i (v,false)).2=false
 | [],_,_=>rfl
 | _ :: _,_,_=>by unfold J9; rw [if_pos rfl]
theorem play_take {vs:List Ves} {m:List Int}:∀ {ss:List Stp} {i:Nat} {w:List Liq},ss.all (F7 vs.length)=true →
  (J9 vs m ss i (w,true)).2=(playXF vs m ss i (w.take vs.length,true)).2∧((J9 vs m ss i (w,true)).2=true→(J9 vs m ss i (w,true)).1.take vs.length=(playXF vs m ss i (w.take vs.length,true)).1)
 | [],_,_,_=>⟨rfl,fun _=>rfl⟩
 | s :: ss,i,w,hs=>by
  rw [List.all_cons,Bool.and_eq_true] at hs
  unfold J9 playXF
  rw [if_neg (fun h=>by cases h),if_neg (fun h=>by cases h)]
  dsimp only
  have e:=do_take (w:=w) (m:=m.getD i 0) hs.1
  cases hd:(doS vs w s (m.getD i 0)).2 with
  | true=>
   have e2:doX vs (w.take vs.length) s (m.getD i 0)=((doS vs w s (m.getD i 0)).1.take vs.length,true):=by
    unfold doX; rw [e,hd]; rfl
   have e3:doS vs w s (m.getD i 0)=((doS vs w s (m.getD i 0)).1,true):=by rw [← hd]
   rw [e2,e3]
   exact play_take hs.2
  | false=>
   have e2:doX vs (w.take vs.length) s (m.getD i 0)=(w.take vs.length,false):=by
    unfold doX; rw [e,hd]; rfl
   have e3:doS vs w s (m.getD i 0)=((doS vs w s (m.getD i 0)).1,false):=by rw [← hd]
   rw [e2,e3,playF_false,playXF_false]
   exact ⟨rfl,fun h=>by cases h⟩
theorem play_eq {b:Ee} (t:Tru) (hv:N6 b):(Mo b t).2=(playX b t).2∧((Mo b t).2=true→(Mo b t).1.take b.vs.length=(playX b t).1):=by
 unfold Mo playX Mu roomX
 obtain ⟨h1,h2⟩:=begin_room (vs:=b.vs) (gs:=t.g) (ds:=t.d) (i:=0) (v:=v0)
 have h3:=fill_take (vs:=b.vs) (gs:=t.g) (ds:=t.d) (i:=0) (v:=v0) (by have:=hv.nv; simp; omega)
 rw [Nat.zero_add] at h3
 cases hr:roomF b.vs t.g 0 with
 | true=>
  have e:Gh b.vs t.g t.d 0 v0=(fillF b.vs t.g t.d 0 v0,true):=by rw [← h2 hr,← hr,← h1]
  rw [e]
  have e2:beginX b.vs t.g t.d=(fillF b.vs t.g t.d 0 v0).take b.vs.length:=h3.symm
  rw [e2]
  exact play_take hv.s
 | false=>
  have e:Gh b.vs t.g t.d 0 v0=((Gh b.vs t.g t.d 0 v0).1,false):=by rw [← hr,← h1]
  rw [e,playF_false,playXF_false]
  exact ⟨rfl,fun h=>by cases h⟩
def twoV (l:List Ves):List Rng:=l.flatMap fun v=>[v.g,v.d]
theorem prodR_mul:∀ (l:List Rng) (n c:Int),Mb l (n * c)=Mb l n * c
 | [],_,_=>rfl
 | r :: l,n,c=>by
  show Mb l (n * c * Fa r)=Mb l (n * Fa r) * c
  rw [show n * c * Fa r=n * Fa r * c by rw [Int.mul_assoc,Int.mul_comm c,← Int.mul_assoc],prodR_mul]
theorem prodR_append (a b:List Rng) (n:Int):Mb (a++b) n=Mb b (Mb a n):=by
 induction a generalizing n with
 | nil=>rfl
 | cons x a ih=>exact ih _
theorem prodR_perm {a b:List Rng} (h:a.Perm b):∀ n,Mb a n=Mb b n:=by
 induction h with
 | nil=>intro n; rfl
 | cons x _ ih=>intro n; exact ih _
 | swap x y l=>intro n; show Mb l (n * _ * _)=Mb l (n * _ * _); rw [Int.mul_assoc,Int.mul_comm (Fa y),← Int.mul_assoc]
 | trans _ _ ih1 ih2=>intro n; rw [ih1,ih2]
theorem twoV_perm:∀ l:List Ves,(twoV l).Perm (l.map (·.g)++l.map (·.d))
 | []=>.nil
 | v :: l=>by
  show (v.g :: v.d :: twoV l).Perm (v.g :: (l.map (·.g)++v.d :: l.map (·.d)))
  exact .cons _ ((List.Perm.cons _ (twoV_perm l)).trans List.perm_middle.symm)
def manyX (b:Ee):Int:=Mb (twoV b.vs++b.ss.map (·.g)) 1
theorem manyX_eq (b:Ee):manyX b=Pb b:=prodR_perm ((twoV_perm b.vs).append_right _) 1
theorem two_take {l:List Ves} {k:Nat} (h:k < l.length):Mb (twoV (l.take (k+1))) 1=Mb (twoV (l.take k)) 1 * (Fa (l.getD k default).g * Fa (l.getD k default).d):=by
 rw [List.take_add_one,List.getElem?_eq_getElem h]
 unfold twoV
 rw [List.flatMap_append,prodR_append]
 simp [Mb,List.getD,h,Int.mul_assoc]
theorem steps_take {l:List Stp} {k:Nat} {n:Int} (h:k < l.length):Mb ((l.take (k+1)).map (·.g)) n=Mb ((l.take k).map (·.g)) n * Fa (l.getD k default).g:=by
 rw [List.take_add_one,List.getElem?_eq_getElem h,List.map_append,prodR_append]
 simp [Mb,List.getD,h]
theorem two_len (l:List Ves):(twoV l).length=2 * l.length:=by
 induction l with
 | nil=>rfl
 | cons v l ih=>show (v.g :: v.d :: twoV l).length=_; simp only [List.length_cons,ih]; omega
theorem prod_all {l:List Rng} (hl:∀ r ∈ l,1≤Fa r∧Fa r≤3) (hn:l.length≤14):1≤Mb l 1∧Mb l 1≤4782969:=by
 have h:=Vg hl l.length (Nat.le_refl _)
 rw [List.take_length] at h
 exact ⟨h.1,Int.le_trans h.2 (Aq1 hn)⟩
theorem two_bound {b:Ee} (hv:b.vs.all Eu=true) (hn:b.vs.length≤4) (k:Nat):1≤Mb (twoV (b.vs.take k)) 1∧Mb (twoV (b.vs.take k)) 1≤4782969:=by
 refine prod_all (fun r hr=>?_) (by rw [two_len,List.length_take]; omega)
 simp only [twoV,List.mem_flatMap,List.mem_cons,List.not_mem_nil,or_false] at hr
 obtain ⟨v,hv',hr⟩:=hr
 have hp:=C9 (List.all_eq_true.1 hv v (List.mem_of_mem_take hv'))
 rcases hr with rfl | rfl
 ·exact P4 hp.1
 ·exact P4 hp.2.1
theorem many_bound {b:Ee} (hv:N6 b) (k:Nat):1≤Mb (twoV b.vs++(b.ss.take k).map (·.g)) 1∧Mb (twoV b.vs++(b.ss.take k).map (·.g)) 1≤4782969:=by
 refine prod_all (fun r hr=>?_) (by have:=hv.nv; have:=hv.ns; rw [List.length_append,two_len,List.length_map,List.length_take]; omega)
 rw [List.mem_append] at hr
 rcases hr with hr | hr
 ·simp only [twoV,List.mem_flatMap,List.mem_cons,List.not_mem_nil,or_false] at hr
  obtain ⟨v,hv',hr⟩:=hr
  have hp:=C9 (List.all_eq_true.1 hv.v v hv')
  rcases hr with rfl | rfl
  ·exact P4 hp.1
  ·exact P4 hp.2.1
 ·obtain ⟨s,hs,rfl⟩:=List.mem_map.1 hr
  exact P4 (Fy (List.all_eq_true.1 hv.s s (List.mem_of_mem_take hs))).2.2.2.2
section
variable {α:Type} {p:α→Bool} {l:List α} {k:Nat} {d:α}
theorem all_stepA (hk:k < l.length) (h:(l.take k).all p=true) (hp:p (l.getD k d)=true):(l.take (k+1)).all p=true:=by
 rw [List.take_add_one,List.all_append,h]
 simp [hk,List.getD] at hp ⊢
 exact hp
theorem all_failA (hk:k < l.length) (hp:p (l.getD k d)=false):l.all p=false:=by
 have:l.getD k d ∈ l:=by rw [← List.getElem_eq_getD (h:=hk)]; exact List.getElem_mem _
 cases h:l.all p with
 | false=>rfl
 | true=>rw [List.all_eq_true] at h; rw [h _ this] at hp; cases hp
theorem all_doneA (hk:l.length≤k) (h:(l.take k).all p=true):l.all p=true:=by rwa [List.take_of_length_le hk] at h
end
theorem fault3 {b:Ee} (h:4 < b.vs.length∨6 < b.ss.length):B5 b=3:=by unfold B5; rw [if_pos h]
theorem fault1 {b:Ee} (h:¬ (4 < b.vs.length∨6 < b.ss.length)) (h2:b.vs.length=0∨b.vs.all Eu=false∨b.ss.all (F7 b.vs.length)=false):B5 b=1:=by
 unfold B5; rw [if_neg h]
 split
 ·rfl
 ·rename_i h3
  rcases h2 with h2 | h2 | h2
  ·exact absurd h2 h3
  ·rw [if_pos h2]
  ·split
   ·rfl
   ·first | rfl | rw [if_pos h2]
theorem fault_of {b:Ee} (h:b.vs.length≤4) (h1:b.ss.length≤6) (h2:0 < b.vs.length) (hv:b.vs.all Eu=true) (hs:b.ss.all (F7 b.vs.length)=true):B5 b=if 2000 < manyX b then 3 else 0:=by
 unfold B5; rw [if_neg (by omega),if_neg (by omega),if_neg (by rw [hv]; decide),if_neg (by rw [hs]; decide),manyX_eq]
theorem listed_all {b:Ee} {t:Tru} (h1:t.g.length=b.vs.length) (h2:t.d.length=b.vs.length) (h3:t.m.length=b.ss.length)
  (h4:∀ j,j < b.vs.length→inB (t.g.getD j 0) (b.vs.getD j default).g.lo (b.vs.getD j default).g.hi=true∧inB (t.d.getD j 0) (b.vs.getD j default).d.lo (b.vs.getD j default).d.hi=true)
  (h5:∀ j,j < b.ss.length→inB (t.m.getD j 0) (b.ss.getD j default).g.lo (b.ss.getD j default).g.hi=true):F1 b t=true:=by
 simp only [F1,Bool.and_eq_true,decide_eq_true_eq,List.all_eq_true,List.mem_range]
 exact ⟨h1,h2,h3,fun k hk=>h4 k hk,h5⟩
def prA (s:Sta):Liq:=⟨s.g,s.e⟩
def wei (s:Sta):Sta:=⟨s.g,s.e,gravX s.e s.g⟩
def rawA (l:Liq):Sta:=⟨l.g,l.e,0⟩
def stL (v:List Liq):List (List PV):=v.map fun l=>Bb7 (Azh l)
theorem stL_map (v:List Liq):stL v=(v.map Azh).map Bb7:=by unfold stL; rw [List.map_map]; rfl
theorem wei_map {S:List Sta} (h:∀ s ∈ S,0≤s.g):S.map wei=(S.map prA).map Azh:=by
 rw [List.map_map]
 refine List.map_congr_left fun s hs=>?_
 have:=gravX_eq (l:=prA s) (h s hs)
 show (⟨s.g,s.e,gravX s.e s.g⟩:Sta)=⟨s.g,s.e,Qd (prA s)⟩
 rw [← this]; rfl
theorem pr_sta (v:List Liq):(v.map Azh).map prA=v:=by
 rw [List.map_map]; exact (List.map_congr_left fun l _=>rfl).trans (List.map_id v)
theorem pr_raw (v:List Liq):(v.map rawA).map prA=v:=by
 rw [List.map_map]; exact (List.map_congr_left fun l _=>rfl).trans (List.map_id v)
theorem encA_all (S:List Sta):((S.map Bb7).all fun c=>decide (c.length=3))=true:=by simp
theorem encA_setM {S:List Sta} {k:Nat} {x y z:Int}:(S.map Bb7).set k [iv x,iv y,iv z]=(S.set k ⟨x,y,z⟩).map Bb7:=by rw [List.map_set]
theorem getA_set {S:List Sta} {k j:Nat} {a:Sta}:(S.set k a).getD j default=if j=k∧k < S.length then a else S.getD j default:=by
 rw [List.getD_eq_getElem?_getD,List.getD_eq_getElem?_getD,List.getElem?_set]
 by_cases h:k=j
 ·subst h
  by_cases h2:k < S.length
  ·simp [h2]
  ·simp [h2]
 ·rw [if_neg h,if_neg (fun e=>h e.1.symm)]
theorem getA_sta {v:List Liq} {k:Nat} (h:k < v.length):(v.map Azh).getD k default=Azh (B0 v k):=by
 unfold B0; rw [List.getD_eq_getElem?_getD,List.getD_eq_getElem?_getD,List.getElem?_map,List.getElem?_eq_getElem h]; rfl
theorem gravX_bound {e g:Int} (he:0≤e) (hg:0 < g):(0≤e / g∧e / g≤e)∧(0≤e / g * g∧e / g * g≤e):=by
 have h1:0≤e / g:=Int.ediv_nonneg he (by omega)
 exact ⟨⟨h1,Int.ediv_le_self _ he⟩,Int.mul_nonneg h1 (by omega),Int.ediv_mul_le e (by omega)⟩
theorem OkN.mem {n:Nat} {v:List Liq} (h:OkN n v) {l:Liq} (hl:l ∈ v):(0≤l.g∧l.g≤60)∧0≤l.e∧l.e≤28800:=by
 obtain ⟨k,hk⟩:=List.mem_iff_getElem?.1 hl
 have:=h.at k
 unfold B0 at this
 rwa [List.getD_eq_getElem?_getD,hk] at this
theorem raw_at (v:List Liq) (k:Nat):(v.map rawA).getD k default=rawA (B0 v k):=by
 unfold B0; rw [List.getD_eq_getElem?_getD,List.getD_eq_getElem?_getD,List.getElem?_map]
 cases v[k]? <;> rfl
theorem raw_small {n:Nat} {v:List Liq} (h:OkN n v) (k:Nat):(0≤((v.map rawA).getD k default).e∧((v.map rawA).getD k default).e≤1000000000)∧0≤((v.map rawA).getD k default).g∧((v.map rawA).getD k default).g≤1000000:=by
 have:=h.at k
 rw [raw_at]; simp only [rawA]; omega
theorem raw_wei {n:Nat} {v:List Liq} (h:OkN n v):((v.map rawA).map wei).map Bb7=stL v:=by
 rw [wei_map,pr_raw,stL_map]
 intro s hs
 obtain ⟨l,hl,rfl⟩:=List.mem_map.1 hs
 exact (h.mem hl).1.1
abbrev begL (gs ds:List Int) (k:Nat):Liq:=⟨gs.getD k 0,gs.getD k 0 * ds.getD k 0⟩
theorem beg_step {acc R:List Liq} {is B:Bool} {vs:List Ves} {gs ds:List Int} (hk:acc.length < vs.length) (h1:acc++restG (vs.drop acc.length) gs ds acc.length=R) (h2:(is&&roomF (vs.drop acc.length) gs acc.length)=B) :
  (acc++[begL gs ds acc.length]).length≤vs.length ∧
  acc++[begL gs ds acc.length]++restG (vs.drop (acc++[begL gs ds acc.length]).length) gs ds (acc++[begL gs ds acc.length]).length=R ∧
  (is&&decide (gs.getD acc.length 0≤(vs.getD acc.length default).room)&&roomF (vs.drop (acc++[begL gs ds acc.length]).length) gs (acc++[begL gs ds acc.length]).length)=B:=by
 rw [rest_step hk] at h1
 rw [room_step hk] at h2
 have hl:(acc++[begL gs ds acc.length]).length=acc.length+1:=by simp
 rw [hl]
 refine ⟨by omega,?_,?_⟩
 ·rw [List.append_assoc]; exact h1
 ·rw [Bool.and_assoc]; exact h2
theorem mulX1 {a b:Int} (h1:0≤a∧a≤100000) (h2:0≤b∧b≤100000):0≤a * b∧a * b≤10000000000:=by
 have e1:=Int.mul_nonneg h1.1 h2.1
 have e2:=Int.mul_le_mul h1.2 h2.2 h2.1 (by omega)
 omega
theorem staG (l:Liq):(Azh l).g=l.g:=rfl
theorem staE (l:Liq):(Azh l).e=l.e:=rfl
theorem getA_eq {S:List Sta} {k:Nat} {a:Sta} (h:k < S.length):(S.set k a).getD k default=a:=by rw [getA_set,if_pos ⟨rfl,h⟩]
theorem getA_ne {S:List Sta} {k j:Nat} {a:Sta} (h:j≠k):(S.set k a).getD j default=S.getD j default:=by rw [getA_set,if_neg fun e=>h e.1]
def SmA (S:List Sta):Prop:=∀ k,(0≤(S.getD k default).e∧(S.getD k default).e≤1000000000)∧0≤(S.getD k default).g∧(S.getD k default).g≤1000000
theorem sm_set {S:List Sta} {k:Nat} {a:Sta} (h:SmA S) (ha:(0≤a.e∧a.e≤1000000000)∧0≤a.g∧a.g≤1000000):SmA (S.set k a):=fun j=>by
 rw [getA_set]; split
 ·exact ha
 ·exact h j
theorem sta_at (v:List Liq) (k:Nat):(v.map Azh).getD k default=Azh (B0 v k):=by
 unfold B0; rw [List.getD_eq_getElem?_getD,List.getD_eq_getElem?_getD,List.getElem?_map]
 cases v[k]? <;> rfl
theorem sm_sta {n:Nat} {v:List Liq} (h:OkN n v):SmA (v.map Azh):=fun k=>by
 have:=h.at k
 rw [sta_at,staG,staE]; omega
theorem fin_wei {S:List Sta} {w:List Liq} (h:SmA S) (hw:S.map prA=w):(S.map wei).map Bb7=(w.map Azh).map Bb7:=by
 rw [wei_map (fun s hs=>?_),hw]
 obtain ⟨k,hk⟩:=List.mem_iff_getElem?.1 hs
 have:=(h k).2.1
 rwa [List.getD_eq_getElem?_getD,hk] at this
theorem set_same {v:List Liq} {k:Nat} (h:k < v.length) {a:Liq} (ha:a=B0 v k):v.set k a=v:=by
 subst ha
 refine List.ext_getElem? fun i=>?_
 rw [List.getElem?_set]
 split
 ·rename_i e; subst e; unfold B0; simp [List.getD,h]
 ·rfl
section
variable {vs:List Ves} {v:List Liq} {s:Stp} {n:Int}
theorem doX_false (h:(doS vs v s n).2=false):doX vs v s n=(v,false):=by
 unfold doX; rw [if_neg (by rw [h]; decide)]
theorem doX_true {w:List Liq} (h:doS vs v s n=(w,true)):doX vs v s n=(w,true):=by
 unfold doX; rw [h]; rfl
theorem do_m1 (hk:s.kind=0) (h:(B0 v s.frm.toNat).g < n):doX vs v s n=(v,false):=by
 refine doX_false ?_
 unfold doS G3 Ff; rw [if_pos hk,if_pos h]; rfl
theorem do_x1 (hk:s.kind≠1) (hs:F7 vs.length s=true) (_:v.length=vs.length) (h:(B0 v s.frm.toNat).g < n):doX vs v s n=(v,false):=by
 by_cases h0:s.kind=0
 ·exact do_m1 h0 h
 ·obtain ⟨_,q2,q3,q4,_⟩:=Fy hs
  refine doX_false ?_
  unfold doS G3 X7; rw [if_neg h0,if_neg hk]
  dsimp only
  rw [decide_eq_false (show ¬ 0 < (B0 v s.frm.toNat).g - n by omega),decide_eq_false (show ¬ (B0 v s.frm.toNat).g - n=0 by omega)]; rfl
theorem doA {v w:List Liq} {S:List Sta} {b:Bool} (hS:S=v.map Azh) (h:doX vs v s n=(w,b)) (hw:w=v) (hb:b=false):(AV.tup [.p (.sl (S.map Bb7)),.p (.val (.bool false))])=.tup [.p (.sl (((doX vs v s n).1.map Azh).map Bb7)),bl (doX vs v s n).2]:=by
 rw [h,hS,hw,hb]
theorem doB {v w:List Liq} {S:List Sta} (h:doS vs v s n=(w,true)) (hs:SmA S) (hw:S.map prA=w):(AV.tup [.p (.sl ((S.map wei).map Bb7)),.p (.val (.bool true))])=.tup [.p (.sl (((doX vs v s n).1.map Azh).map Bb7)),bl (doX vs v s n).2]:=by
 rw [doX_true h,fin_wei hs hw]
theorem do_move (hk:s.kind=0) (hs:F7 vs.length s=true) (hl:v.length=vs.length) (h:¬ (B0 v s.frm.toNat).g < n) (hn:0 < n) :
  doS vs v s n=((v.set s.frm.toNat ⟨(B0 v s.frm.toNat).g - n,(B0 v s.frm.toNat).e - G6 v s.frm.toNat n⟩).set s.to.toNat ⟨(B0 v s.to.toNat).g+n,(B0 v s.to.toNat).e+G6 v s.frm.toNat n⟩,decide ((B0 v s.to.toNat).g+n≤(vs.getD s.to.toNat default).room)):=by
 obtain ⟨_,q2,q3,q4,_⟩:=Fy hs
 have hne:¬ (s.to.toNat=s.frm.toNat∧s.frm.toNat < v.length):=by omega
 unfold doS G3 Ff; rw [if_pos hk,if_neg h,if_pos hn]
 unfold L5 J1
 dsimp only
 rw [M6 (v:=v.set _ _),if_pos ⟨rfl,by rw [List.length_set]; omega⟩,M6,if_neg hne]
 simp
theorem do_move0 (hk:s.kind=0) (h:¬ (B0 v s.frm.toNat).g < n) (hn:¬ 0 < n):doS vs v s n=(v,decide ((B0 v s.to.toNat).g≤(vs.getD s.to.toNat default).room)):=by
 unfold doS G3 Ff; rw [if_pos hk,if_neg h,if_neg hn]; simp
theorem do_water (hk:s.kind=1) (hs:F7 vs.length s=true) (hl:v.length=vs.length):doS vs v s n=(v.set s.to.toNat ⟨(B0 v s.to.toNat).g+n,(B0 v s.to.toNat).e⟩,decide ((B0 v s.to.toNat).g+n≤(vs.getD s.to.toNat default).room)):=by
 obtain ⟨_,q2,q3,q4,_⟩:=Fy hs
 unfold doS G3 P1; rw [if_neg (by omega),if_pos hk]
 dsimp only
 rw [M6,if_pos ⟨rfl,by omega⟩]
 simp
theorem do_boil (hk:s.kind=2) (hs:F7 vs.length s=true) (hl:v.length=vs.length) (hr:RoomV vs v) (hn:0≤n):doS vs v s n=(v.set s.frm.toNat ⟨(B0 v s.frm.toNat).g - n,(B0 v s.frm.toNat).e⟩,decide (0 < (B0 v s.frm.toNat).g - n)||(decide ((B0 v s.frm.toNat).g - n=0)&&decide ((B0 v s.frm.toNat).e=0))):=by
 obtain ⟨_,q2,q3,q4,_⟩:=Fy hs
 have e:s.to.toNat=s.frm.toNat:=by omega
 have hrr:=hr s.frm.toNat (by omega)
 unfold doS G3 X7; rw [if_neg (by omega),if_neg (by omega)]
 dsimp only
 rw [e,M6,if_pos ⟨rfl,by omega⟩]
 rw [decide_eq_true (show (B0 v s.frm.toNat).g - n≤(vs.getD s.frm.toNat default).room by omega),Bool.and_true]
end
theorem room_rest:∀ {vs:List Ves} {gs ds:List Int} {i:Nat},roomF vs gs i=true→∀ k,k < vs.length→(B0 (restG vs gs ds i) k).g≤(vs.getD k default).room
 | [],_,_,_,_,k,hk=>by cases hk
 | x :: vs,gs,ds,i,h,k,hk=>by
  unfold roomF at h
  rw [Bool.and_eq_true,decide_eq_true_eq] at h
  unfold restG
  cases k with
  | zero=>exact h.1
  | succ k=>exact room_rest h.2 k (by simpa using hk)
theorem begin_roomV {vs:List Ves} {gs ds:List Int} (h:roomX vs gs=true):RoomV vs (beginX vs gs ds):=fun k hk=>room_rest h k hk
def nthV:List Ves→Int→List Int × List Int × Int
 | [],n=>([],[],n)
 | v :: l,n=>((v.g.lo+n % Fa v.g) :: (nthV l (n / Fa v.g / Fa v.d)).1,(v.d.lo+n / Fa v.g % Fa v.d) :: (nthV l (n / Fa v.g / Fa v.d)).2.1,(nthV l (n / Fa v.g / Fa v.d)).2.2)
def nthS:List Stp→Int→List Int
 | [],_=>[]
 | s :: l,n=>(s.g.lo+n % Fa s.g) :: nthS l (n / Fa s.g)
def nthX (b:Ee) (n:Int):Tru:=⟨(nthV b.vs n).1,(nthV b.vs n).2.1,nthS b.ss (nthV b.vs n).2.2⟩
theorem drop_get' {α:Type} {l:List α} {k:Nat} (d:α) (h:k < l.length):l.drop k=l.getD k d :: l.drop (k+1):=by
 rw [List.drop_eq_getElem_cons h]; simp [List.getD,h]
abbrev nextV (v:Ves) (n:Int):Int:=n / Fa v.g / Fa v.d
def accV (gs ds:List Int) (r:List Int × List Int × Int):List Int × List Int × Int:=(gs++r.1,ds++r.2.1,r.2.2)
theorem acc_step {vs:List Ves} {gs ds:List Int} {n:Int} {R:List Int × List Int × Int} (hk:gs.length < vs.length) (h:accV gs ds (nthV (vs.drop gs.length) n)=R) (a c:Int)
  (ha:a=(vs.getD gs.length default).g.lo+n % Fa (vs.getD gs.length default).g) (hc:c=(vs.getD gs.length default).d.lo+n / Fa (vs.getD gs.length default).g % Fa (vs.getD gs.length default).d) :
  accV (gs++[a]) (ds++[c]) (nthV (vs.drop (gs++[a]).length) (nextV (vs.getD gs.length default) n))=R:=by
 subst ha hc
 rw [drop_get' default hk] at h
 rw [List.length_append,List.length_singleton]
 rw [← h]
 simp [accV,nthV]
theorem acc_end {vs:List Ves} {gs ds:List Int} {n:Int} {R:List Int × List Int × Int} (hk:vs.length≤gs.length) (h:accV gs ds (nthV (vs.drop gs.length) n)=R):R=(gs,ds,n):=by
 rw [List.drop_of_length_le hk] at h
 rw [← h]; simp [accV,nthV]
theorem nthS_step {ss:List Stp} {ms:List Int} {n:Int} {R:List Int} (hk:ms.length < ss.length) (h:ms++nthS (ss.drop ms.length) n=R) (a:Int) (ha:a=(ss.getD ms.length default).g.lo+n % Fa (ss.getD ms.length default).g) :
  (ms++[a])++nthS (ss.drop (ms++[a]).length) (n / Fa (ss.getD ms.length default).g)=R:=by
 subst ha
 rw [drop_get' default hk] at h
 rw [List.length_append,List.length_singleton,← h]
 simp [nthS]
theorem nthS_end {ss:List Stp} {ms:List Int} {n:Int} {R:List Int} (hk:ss.length≤ms.length) (h:ms++nthS (ss.drop ms.length) n=R):R=ms:=by
 rw [List.drop_of_length_le hk] at h
 rw [← h]; simp [nthS]
theorem div_nn {m s:Int} (h0:0≤m) (h1:1≤s):0≤m / s∧m / s≤m:=⟨Int.ediv_nonneg h0 (by omega),Int.ediv_le_self _ h0⟩
theorem mod_nn {m s:Int} (h1:1≤s):0≤m % s∧m % s < s:=⟨Int.emod_nonneg _ (by omega),Int.emod_lt_of_pos _ (by omega)⟩
theorem nthV_len:∀ (l:List Ves) (n:Int),(nthV l n).1.length=l.length∧(nthV l n).2.1.length=l.length
 | [],_=>⟨rfl,rfl⟩
 | v :: l,n=>by
  obtain ⟨h1,h2⟩:=nthV_len l (n / Fa v.g / Fa v.d)
  unfold nthV
  simp only [List.length_cons,h1,h2,and_self]
theorem nthS_len:∀ (l:List Stp) (n:Int),(nthS l n).length=l.length
 | [],_=>rfl
 | s :: l,n=>by unfold nthS; rw [List.length_cons,nthS_len,List.length_cons]
theorem has_mod {r:Rng} {n:Int} (h:1≤Fa r):inB (r.lo+n % Fa r) r.lo r.hi=true:=by
 have:=mod_nn (m:=n) h
 unfold Fa at *
 simp only [inB,Bool.and_eq_true,decide_eq_true_eq]; omega
theorem nthV_in:∀ {l:List Ves} (n:Int),l.all Eu=true→∀ k,k < l.length→inB ((nthV l n).1.getD k 0) (l.getD k default).g.lo (l.getD k default).g.hi=true∧inB ((nthV l n).2.1.getD k 0) (l.getD k default).d.lo (l.getD k default).d.hi=true
 | [],_,_,k,hk=>by cases hk
 | v :: l,n,hv,k,hk=>by
  rw [List.all_cons,Bool.and_eq_true] at hv
  obtain ⟨h1,h2,_⟩:=C9 hv.1
  cases k with
  | zero=>exact ⟨has_mod (P4 h1).1,has_mod (P4 h2).1⟩
  | succ k=>exact nthV_in (n / Fa v.g / Fa v.d) hv.2 k (by simpa using hk)
theorem nthS_in:∀ {l:List Stp} {c:Int} (n:Int),l.all (F7 c)=true→∀ k,k < l.length→inB ((nthS l n).getD k 0) (l.getD k default).g.lo (l.getD k default).g.hi=true
 | [],_,_,_,k,hk=>by cases hk
 | s :: l,c,n,hv,k,hk=>by
  rw [List.all_cons,Bool.and_eq_true] at hv
  have h1:=(Fy hv.1).2.2.2.2
  cases k with
  | zero=>exact has_mod (P4 h1).1
  | succ k=>exact nthS_in (n / Fa s.g) hv.2 k (by simpa using hk)
theorem nth_listed {b:Ee} (hv:N6 b) (n:Int):F1 b (nthX b n)=true:=by
 obtain ⟨h1,h2⟩:=nthV_len b.vs n
 exact listed_all h1 h2 (nthS_len _ _) (nthV_in n hv.v) (nthS_in _ hv.s)
theorem stL_get {v:List Liq} {k:Nat} (h:k < v.length):(stL v).getD k []=Bb7 (Azh (B0 v k)):=by
 unfold stL B0
 rw [List.getD_eq_getElem?_getD,List.getD_eq_getElem?_getD,List.getElem?_map,List.getElem?_eq_getElem h]; rfl
theorem playXF_ok {b:Ee} (hv:N6 b) {m:List Int} (hm:∀ k,0≤m.getD k 0):∀ (ss:List Stp) (k:Nat) (r:List Liq × Bool),ss.all (F7 b.vs.length)=true→OkN b.vs.length r.1→OkN b.vs.length (playXF b.vs m ss k r).1
 | [],_,_,_,h=>h
 | s :: ss,k,r,hs,h=>by
  rw [List.all_cons,Bool.and_eq_true] at hs
  unfold playXF
  split
  ·exact h
  ·exact playXF_ok hv hm ss (k+1) _ hs.2 (doX_ok h hv.nv hv.v hs.1 (hm k))
theorem playX_ok {b:Ee} {t:Tru} (hv:N6 b) (hl:F1 b t=true):OkN b.vs.length (playX b t).1:=
 playXF_ok hv (fun k=>((L0 hv hl).2.2 k).1) _ _ _ hv.s (beginX_ok hv hl)
theorem playXF_room {b:Ee} (hv:N6 b) {m:List Int} (hm:∀ k,0≤m.getD k 0):∀ (ss:List Stp) (k:Nat) (r:List Liq × Bool),ss.all (F7 b.vs.length)=true→OkN b.vs.length r.1→(r.2=true→RoomV b.vs r.1)→(playXF b.vs m ss k r).2=true→RoomV b.vs (playXF b.vs m ss k r).1
 | [],_,_,_,_,h,h2=>h h2
 | s :: ss,k,r,hs,ho,h,h2=>by
  rw [List.all_cons,Bool.and_eq_true] at hs
  unfold playXF at h2 ⊢
  split at h2
  ·rename_i hf; rw [hf] at h2; cases h2
  ·rename_i hf
   rw [if_neg hf]
   exact playXF_room hv hm ss (k+1) _ hs.2 (doX_ok ho hv.nv hv.v hs.1 (hm k)) (fun _=>doX_room (h (by simpa using hf)) hs.1 (hm k) (ho.len hv.nv)) h2
theorem playX_room {b:Ee} {t:Tru} (hv:N6 b) (hl:F1 b t=true) (h:(playX b t).2=true):RoomV b.vs (playX b t).1:=
 playXF_room hv (fun k=>((L0 hv hl).2.2 k).1) _ _ _ hv.s (beginX_ok hv hl) begin_roomV h
theorem digit {s x n:Int} (h0:0≤x) (h1:x < s) (hn:0≤n):(x+s * n) % s=x∧(x+s * n) / s=n∧0≤x+s * n∧∀ R,n < R→x+s * n < s * R:=by
 refine ⟨?_,?_,?_,fun R hR=>?_⟩
 ·rw [Int.add_mul_emod_self_left,Int.emod_eq_of_lt h0 h1]
 ·rw [Int.add_mul_ediv_left _ _ (by omega),Int.ediv_eq_zero_of_lt h0 h1]; omega
 ·have:=Int.mul_nonneg (show 0≤s by omega) hn; omega
 ·have:=Int.mul_le_mul_of_nonneg_left (show n+1≤R by omega) (show 0≤s by omega)
  rw [Int.mul_add,Int.mul_one] at this
  omega
theorem prodR_cons (r:Rng) (l:List Rng):Mb (r :: l) 1=Fa r * Mb l 1:=by
 show Mb l (1 * Fa r)=_
 rw [prodR_mul,Int.mul_comm]
theorem nthS_onto:∀ (l:List Stp) (ms:List Int),ms.length=l.length→(∀ k,k < l.length→(l.getD k default).g.lo≤ms.getD k 0∧ms.getD k 0≤(l.getD k default).g.hi)→∃ n,0≤n∧n < Mb (l.map (·.g)) 1∧nthS l n=ms
 | [],[],_,_=>⟨0,Int.le_refl _,by decide,rfl⟩
 | [],_ :: _,h,_=>by cases h
 | _ :: _,[],h,_=>by cases h
 | s :: l,m :: ms,hl,h=>by
  obtain ⟨n,h1,h2,h3⟩:=nthS_onto l ms (by simpa using hl) (fun k hk=>h (k+1) (by simpa using hk))
  have h0:=h 0 (by simp)
  simp only [List.getD_cons_zero] at h0
  obtain ⟨d1,d2,d3,d4⟩:=digit (s:=Fa s.g) (x:=m - s.g.lo) (n:=n) (by omega) (by unfold Fa; omega) h1
  refine ⟨m - s.g.lo+Fa s.g * n,d3,?_,?_⟩
  ·rw [List.map_cons,prodR_cons]; exact d4 _ h2
  ·unfold nthS
   rw [d1,d2,h3,show s.g.lo+(m - s.g.lo)=m by omega]
theorem nthV_onto:∀ (l:List Ves) (gs ds:List Int) (r:Int),gs.length=l.length→ds.length=l.length→0≤r →
  (∀ k,k < l.length→((l.getD k default).g.lo≤gs.getD k 0∧gs.getD k 0≤(l.getD k default).g.hi)∧(l.getD k default).d.lo≤ds.getD k 0∧ds.getD k 0≤(l.getD k default).d.hi) →
  ∃ n,0≤n∧(∀ R,r < R→n < Mb (twoV l) 1 * R)∧nthV l n=(gs,ds,r)
 | [],[],[],r,_,_,hr,_=>⟨r,hr,fun R h=>by show r < 1 * R; omega,rfl⟩
 | [],_ :: _,_,_,h,_,_,_=>by cases h
 | [],_,_ :: _,_,_,h,_,_=>by cases h
 | _ :: _,[],_,_,h,_,_,_=>by cases h
 | _ :: _,_,[],_,_,h,_,_=>by cases h
 | v :: l,g :: gs,d :: ds,r,hg,hd,hr,h=>by
  obtain ⟨n,h1,h2,h3⟩:=nthV_onto l gs ds r (by simpa using hg) (by simpa using hd) hr (fun k hk=>h (k+1) (by simpa using hk))
  have h0:=h 0 (by simp)
  simp only [List.getD_cons_zero] at h0
  obtain ⟨a1,a2,a3,a4⟩:=digit (s:=Fa v.d) (x:=d - v.d.lo) (n:=n) (by omega) (by unfold Fa; omega) h1
  obtain ⟨b1,b2,b3,b4⟩:=digit (s:=Fa v.g) (x:=g - v.g.lo) (n:=d - v.d.lo+Fa v.d * n) (by omega) (by unfold Fa; omega) a3
  refine ⟨_,b3,fun R hR=>?_,?_⟩
  ·have e:Mb (twoV (v :: l)) 1=Fa v.g * (Fa v.d * Mb (twoV l) 1):=by
    show Mb (v.g :: v.d :: twoV l) 1=_
    rw [prodR_cons,prodR_cons]
   rw [e,Int.mul_assoc,Int.mul_assoc]
   exact b4 _ (a4 _ (h2 R hR))
  ·unfold nthV
   rw [b2,b1,a2,a1,h3,show v.g.lo+(g - v.g.lo)=g by omega,show v.d.lo+(d - v.d.lo)=d by omega]
theorem nth_onto {b:Ee} {t:Tru} (h:F1 b t=true):∃ n,0≤n∧n < manyX b∧nthX b n=t:=by
 obtain ⟨h1,h2,h3,h4,h5⟩:=Dj h
 obtain ⟨r,r1,r2,r3⟩:=nthS_onto b.ss t.m h3 h5
 obtain ⟨n,n1,n2,n3⟩:=nthV_onto b.vs t.g t.d r h1 h2 r1 h4
 refine ⟨n,n1,?_,?_⟩
 ·have e:manyX b=Mb (twoV b.vs) 1 * Mb (b.ss.map (·.g)) 1:=by
   unfold manyX
   rw [prodR_append]
   conv=>lhs; rw [← Int.one_mul (Mb (twoV b.vs) 1)]
   rw [prodR_mul,Int.mul_comm]
  rw [e]; exact n2 _ r2
 ·unfold nthX; rw [n3,r3]
def EndP (b:Ee) (v:List Liq):Prop:=∃ t,F1 b t=true∧(playX b t).2=true∧v=(playX b t).1
def endsTo (b:Ee):Nat→List (List Liq)
 | 0=>[]
 | k+1=>if (playX b (nthX b k)).2=true then endsTo b k++[(playX b (nthX b k)).1] else endsTo b k
def endsX (b:Ee):List (List Liq):=endsTo b (manyX b).toNat
theorem endsTo_mem {b:Ee} {v:List Liq}:∀ k:Nat,v ∈ endsTo b k↔∃ n,n < k∧(playX b (nthX b (n:Nat))).2=true∧v=(playX b (nthX b n)).1
 | 0=>by
  constructor
  ·intro h; cases h
  ·rintro ⟨n,h,_⟩; omega
 | k+1=>by
  have ih:=endsTo_mem (b:=b) (v:=v) k
  unfold endsTo
  constructor
  ·intro h
   split at h
   ·rename_i hx
    rcases List.mem_append.1 h with h | h
    ·obtain ⟨n,h1,h2⟩:=ih.1 h; exact ⟨n,by omega,h2⟩
    ·exact ⟨k,by omega,hx,List.mem_singleton.1 h⟩
   ·obtain ⟨n,h1,h2⟩:=ih.1 h; exact ⟨n,by omega,h2⟩
  ·rintro ⟨n,h1,h2,h3⟩
   by_cases e:n=k
   ·subst e
    rw [if_pos h2]; exact List.mem_append_right _ (List.mem_singleton.2 h3)
   ·have:=ih.2 ⟨n,by omega,h2,h3⟩
    split
    ·exact List.mem_append_left _ this
    ·exact this
theorem ends_iff {b:Ee} (hv:N6 b) {v:List Liq}:v ∈ endsX b↔EndP b v:=by
 unfold endsX
 rw [endsTo_mem]
 constructor
 ·rintro ⟨n,_,h2,h3⟩; exact ⟨_,nth_listed hv n,h2,h3⟩
 ·rintro ⟨t,h1,h2,h3⟩
  obtain ⟨n,a1,a2,rfl⟩:=nth_onto h1
  refine ⟨n.toNat,by omega,?_⟩
  rw [show ((n.toNat:Nat):Int)=n by omega]
  exact ⟨h2,h3⟩
theorem allIn_of:∀ {rs:List Rng} {x:List Int},x.length=rs.length→(∀ k,k < rs.length→Jn (rs.getD k default) (x.getD k 0)=true)→allIn rs x
 | [],[],_,_=>trivial
 | [],_ :: _,h,_=>by cases h
 | _ :: _,[],h,_=>by cases h
 | r :: rs,n :: x,hl,h=>by
  refine ⟨?_,allIn_of (by simpa using hl) fun k hk=>h (k+1) (by simpa using hk)⟩
  have:=h 0 (by simp)
  simpa only [Jn,inB,List.getD_cons_zero,Bool.and_eq_true,decide_eq_true_eq] using this
theorem tru_listed {b:Ee} {t:Tru} (h:F1 b t=true):∃ x ∈ listsR (Fz b) [],truT b.vs.length x=t:=by
 obtain ⟨h1,h2,h3,_⟩:=Dj h
 have e:Jt t=t.g++(t.d++t.m):=by simp [Jt]
 refine ⟨Jt t,(mem_lists _ _ _).2 ⟨Jt t,rfl,allIn_of (by rw [Ane,Qo]; omega) fun k hk=>Kn h hk⟩,?_⟩
 unfold truT
 rw [e]
 have a1:(t.g++(t.d++t.m)).take b.vs.length=t.g:=by rw [← h1]; exact List.take_left
 have a2:(t.g++(t.d++t.m)).drop (2 * b.vs.length)=t.m:=by
  rw [← List.append_assoc,show 2 * b.vs.length=(t.g++t.d).length by rw [List.length_append]; omega]
  exact List.drop_left
 have a3:((t.g++(t.d++t.m)).take (2 * b.vs.length)).drop b.vs.length=t.d:=by
  rw [← List.append_assoc,show 2 * b.vs.length=(t.g++t.d).length by rw [List.length_append]; omega,List.take_left,← h1]
  exact List.drop_left
 rw [a1,a2,a3]
theorem end_play {b:Ee} (hv:N6 b) {v:List Liq}:EndP b v↔∃ x ∈ listsR (Fz b) [],(Mo b (truT b.vs.length x)).2=true∧v=(Mo b (truT b.vs.length x)).1.take b.vs.length:=by
 constructor
 ·rintro ⟨t,h1,h2,rfl⟩
  obtain ⟨x,hx,rfl⟩:=tru_listed h1
  obtain ⟨e1,e2⟩:=play_eq (truT b.vs.length x) hv
  exact ⟨x,hx,e1.trans h2,(e2 (e1.trans h2)).symm⟩
 ·rintro ⟨x,hx,h2,rfl⟩
  obtain ⟨e1,e2⟩:=play_eq (truT b.vs.length x) hv
  exact ⟨_,listed_tru hx,e1.symm.trans h2,e2 h2⟩
def IsW (P:Int→Prop) (r:Rng):Prop:=P r.lo∧P r.hi∧∀ x,P x→r.lo≤x∧x≤r.hi
theorem IsW.unique {P:Int→Prop} {r s:Rng} (h:IsW P r) (h2:IsW P s):r=s:=by
 obtain ⟨a1,a2,a3⟩:=h
 obtain ⟨b1,b2,b3⟩:=h2
 have:=a3 _ b1; have:=a3 _ b2; have:=b3 _ a1; have:=b3 _ a2
 cases r; cases s
 simp only [Rng.mk.injEq]
 dsimp only at *
 omega
theorem IsW.congr {P Q:Int→Prop} {r:Rng} (h:IsW P r) (hPQ:∀ x,P x↔Q x):IsW Q r:=
 ⟨(hPQ _).1 h.1,(hPQ _).1 h.2.1,fun x hx=>h.2.2 x ((hPQ x).2 hx)⟩
theorem isW_one (n:Int):IsW (fun x=>x=n) ⟨n,n⟩:=⟨rfl,rfl,fun x h=>by dsimp only; omega⟩
theorem isW_wid {P:Int→Prop} {r:Rng} (h:IsW P r) (n:Int):IsW (fun x=>P x∨x=n) (widR r n false):=by
 obtain ⟨h1,h2,h3⟩:=h
 have hw:widR r n false=⟨min r.lo n,if r.hi < n then n else r.hi⟩:=rfl
 have:=h3 _ h1; have:=h3 _ h2
 rw [hw]
 refine ⟨?_,?_,fun x hx=>?_⟩
 ·dsimp only
  by_cases e:r.lo≤n
  ·rw [show min r.lo n=r.lo by omega]; exact .inl h1
  ·rw [show min r.lo n=n by omega]; exact .inr rfl
 ·dsimp only
  split
  ·exact .inr rfl
  ·exact .inl h2
 ·dsimp only
  rcases hx with hx | rfl
  ·have:=h3 x hx; split <;> omega
  ·split <;> omega
def wideF (l:List Int):Nat→Rng
 | 0=>⟨l.getD 0 0,l.getD 0 0⟩
 | k+1=>⟨if l.getD k 0 < (wideF l k).lo then l.getD k 0 else (wideF l k).lo,if (wideF l k).hi < l.getD k 0 then l.getD k 0 else (wideF l k).hi⟩
def wideX (l:List Int):Rng:=wideF l l.length
theorem wide_to {l:List Int} (h:0 < l.length):∀ k,k≤l.length→IsW (fun x=>x=l.getD 0 0∨∃ j,j < k∧x=l.getD j 0) (wideF l k)
 | 0,_=>(isW_one _).congr fun x=>⟨.inl,fun h=>h.elim id fun ⟨_,h,_⟩=>by omega⟩
 | k+1,hk=>by
  have ih:=isW_wid (wide_to h k (by omega)) (l.getD k 0)
  have e:widR (wideF l k) (l.getD k 0) false=wideF l (k+1):=by
   show (⟨_,_⟩:Rng)=⟨_,_⟩
   simp only [Rng.mk.injEq,and_true]
   split <;> omega
  rw [e] at ih
  refine ih.congr fun x=>⟨?_,?_⟩
  ·rintro ((h | ⟨j,h1,h2⟩) | h)
   ·exact .inl h
   ·exact .inr ⟨j,by omega,h2⟩
   ·exact .inr ⟨k,by omega,h⟩
  ·rintro (h | ⟨j,h1,h2⟩)
   ·exact .inl (.inl h)
   ·by_cases e:j=k
    ·subst e; exact .inr h2
    ·exact .inl (.inr ⟨j,by omega,h2⟩)
theorem wide_is {l:List Int} (h:l≠[]):IsW (· ∈ l) (wideX l):=by
 have hl:0 < l.length:=List.length_pos_iff.2 h
 refine (wide_to hl l.length (Nat.le_refl _)).congr fun x=>⟨?_,fun hx=>?_⟩
 ·rintro (rfl | ⟨j,h1,rfl⟩)
  ·exact Dy 0 hl
  ·exact Dy 0 h1
 ·obtain ⟨j,hj⟩:=List.mem_iff_getElem?.1 hx
  have hj2:j < l.length:=by
   rcases Nat.lt_or_ge j l.length with h | h
   ·exact h
   ·rw [List.getElem?_eq_none h] at hj; cases hj
  exact .inr ⟨j,hj2,by rw [List.getD_eq_getElem?_getD,hj]; rfl⟩
def AttP (b:Ee) (k:Nat) (f:Liq→Int) (x:Int):Prop:=∃ v,EndP b v∧f (B0 v k)=x
theorem att_wide {b:Ee} (hv:N6 b) (h:endsX b≠[]) (k:Nat) (f:Liq→Int):IsW (AttP b k f) (wideX ((endsX b).map fun v=>f (B0 v k))):=
 (wide_is (by simpa using h)).congr fun x=>by
  simp only [List.mem_map]
  exact ⟨fun ⟨v,h1,h2⟩=>⟨v,(ends_iff hv).1 h1,h2⟩,fun ⟨v,h1,h2⟩=>⟨v,(ends_iff hv).2 h1,h2⟩⟩
def sumTo (f:Nat→Int):Nat→Int
 | 0=>0
 | k+1=>sumTo f k+f k
theorem sumTo_sub (f g:Nat→Int):∀ n,sumTo (fun j=>f j - g j) n=sumTo f n - sumTo g n
 | 0=>rfl
 | n+1=>by simp only [sumTo,sumTo_sub f g n]; omega
theorem sumTo_congr {f g:Nat→Int}:∀ n,(∀ j,j < n→f j=g j)→sumTo f n=sumTo g n
 | 0,_=>rfl
 | n+1,h=>by simp only [sumTo,sumTo_congr n fun j hj=>h j (by omega),h n (by omega)]
theorem sumTo_bound {f:Nat→Int} {m M:Int}:∀ n,(∀ j,j < n→m≤f j∧f j≤M)→m * n≤sumTo f n∧sumTo f n≤M * n
 | 0,_=>by simp [sumTo]
 | n+1,h=>by
  have h1:=sumTo_bound n fun j hj=>h j (by omega)
  have h2:=h n (by omega)
  simp only [sumTo]
  rw [Int.natCast_add,Int.mul_add,Int.mul_add]
  omega
theorem sumTo_set (f:Liq→Int) {v:List Liq} {k:Nat} {a:Liq} (hk:k < v.length):∀ n,sumTo (fun j=>f (B0 (v.set k a) j)) n=sumTo (fun j=>f (B0 v j)) n+if k < n then f a - f (B0 v k) else 0
 | 0=>by simp [sumTo]
 | n+1=>by
  simp only [sumTo,sumTo_set f hk n]
  rw [M6]
  by_cases e:n=k
  ·subst e
   rw [if_neg (by omega),if_pos ⟨rfl,hk⟩,if_pos (by omega)]; omega
  ·rw [if_neg (show ¬ (n=k∧k < v.length) by omega)]
   by_cases e2:k < n
   ·rw [if_pos e2,if_pos (by omega)]; omega
   ·rw [if_neg e2,if_neg (by omega)]; omega
def flowS (s:Stp) (n:Int):Int:=(if s.kind=1 then n else 0) - if s.kind=2 then n else 0
theorem doX_sum {vs:List Ves} {v:List Liq} {s:Stp} {n:Int} (hs:F7 vs.length s=true) (hl:v.length=vs.length) (hr:RoomV vs v) (hn:0≤n) (hd:(doX vs v s n).2=true) :
  sumTo (fun j=>(B0 (doX vs v s n).1 j).g) vs.length=sumTo (fun j=>(B0 v j).g) vs.length+flowS s n ∧
  sumTo (fun j=>(B0 (doX vs v s n).1 j).e) vs.length=sumTo (fun j=>(B0 v j).e) vs.length:=by
 obtain ⟨q1,q2,q3,q4,_⟩:=Fy hs
 rw [doX_two] at hd
 have e:doX vs v s n=doS vs v s n:=by unfold doX; rw [if_pos hd]
 rw [e]
 unfold flowS
 by_cases k0:s.kind=0
 ·rw [if_neg (by omega),if_neg (by omega)]
  by_cases h1:(B0 v s.frm.toNat).g < n
  ·rw [← doX_two,do_m1 k0 h1] at hd; cases hd
  ·by_cases hn0:0 < n
   ·rw [do_move k0 hs hl h1 hn0]
    dsimp only
    have hf:s.frm.toNat < vs.length:=by omega
    have ht:s.to.toNat < vs.length:=by omega
    have e1:∀ a,B0 (v.set s.frm.toNat a) s.to.toNat=B0 v s.to.toNat:=fun a=>by rw [M6,if_neg (by omega)]
    have g1:=fun a b=>sumTo_set (·.g) (v:=v.set s.frm.toNat a) (k:=s.to.toNat) (a:=b) (by rw [List.length_set]; omega) vs.length
    have g2:=fun a=>sumTo_set (·.g) (v:=v) (k:=s.frm.toNat) (a:=a) (by omega) vs.length
    have g3:=fun a b=>sumTo_set (·.e) (v:=v.set s.frm.toNat a) (k:=s.to.toNat) (a:=b) (by rw [List.length_set]; omega) vs.length
    have g4:=fun a=>sumTo_set (·.e) (v:=v) (k:=s.frm.toNat) (a:=a) (by omega) vs.length
    simp only [e1,if_pos hf,if_pos ht] at g1 g2 g3 g4
    rw [g1,g2,g3,g4]
    dsimp only
    omega
   ·rw [do_move0 k0 h1 hn0]
    dsimp only
    omega
 ·by_cases k1:s.kind=1
  ·rw [do_water k1 hs hl,if_pos k1,if_neg (by omega)]
   dsimp only
   rw [sumTo_set (·.g) (by omega),sumTo_set (·.e) (by omega),if_pos (by omega),if_pos (by omega)]
   dsimp only
   omega
  ·have k2:s.kind=2:=by omega
   rw [do_boil k2 hs hl hr hn,if_neg k1,if_pos k2]
   dsimp only
   rw [sumTo_set (·.g) (by omega),sumTo_set (·.e) (by omega),if_pos (by omega),if_pos (by omega)]
   dsimp only
   omega
theorem sumTo_shift {f:Nat→Int}:∀ n,sumTo f (n+1)=f 0+sumTo (fun j=>f (j+1)) n
 | 0=>by simp [sumTo]
 | n+1=>by rw [sumTo,sumTo_shift n,sumTo]; omega
theorem playXF_sum {b:Ee} (hv:N6 b) {m:List Int} (hm:∀ k,0≤m.getD k 0):∀ (ss:List Stp) (k:Nat) (r:List Liq × Bool),ss.all (F7 b.vs.length)=true→OkN b.vs.length r.1→(r.2=true→RoomV b.vs r.1)→(playXF b.vs m ss k r).2=true →
  sumTo (fun j=>(B0 (playXF b.vs m ss k r).1 j).g) b.vs.length=sumTo (fun j=>(B0 r.1 j).g) b.vs.length+sumTo (fun j=>flowS (ss.getD j default) (m.getD (k+j) 0)) ss.length ∧
  sumTo (fun j=>(B0 (playXF b.vs m ss k r).1 j).e) b.vs.length=sumTo (fun j=>(B0 r.1 j).e) b.vs.length
 | [],_,_,_,_,_,_=>by simp [playXF,sumTo]
 | s :: ss,k,r,hs,ho,h,h2=>by
  rw [List.all_cons,Bool.and_eq_true] at hs
  unfold playXF at h2 ⊢
  split at h2
  ·rename_i hf; rw [hf] at h2; cases h2
  ·rename_i hf
   rw [if_neg hf]
   have hr2:r.2=true:=by simpa using hf
   have hd:(doX b.vs r.1 s (m.getD k 0)).2=true:=by
    cases hd:(doX b.vs r.1 s (m.getD k 0)).2 with
    | true=>rfl
    | false=>
     rw [show doX b.vs r.1 s (m.getD k 0)=((doX b.vs r.1 s (m.getD k 0)).1,false) from by rw [← hd],playXF_false] at h2
     cases h2
   obtain ⟨a1,a2⟩:=doX_sum hs.1 (ho.len hv.nv) (h hr2) (hm k) hd
   obtain ⟨b1,b2⟩:=playXF_sum hv hm ss (k+1) _ hs.2 (doX_ok ho hv.nv hv.v hs.1 (hm k)) (fun _=>doX_room (h hr2) hs.1 (hm k) (ho.len hv.nv)) h2
   refine ⟨?_,b2.trans a2⟩
   rw [b1,a1,List.length_cons,sumTo_shift]
   have e:sumTo (fun j=>flowS (ss.getD j default) (m.getD (k+1+j) 0)) ss.length=sumTo (fun j=>flowS ((s :: ss).getD (j+1) default) (m.getD (k+(j+1)) 0)) ss.length:=
    sumTo_congr _ fun j _=>by rw [List.getD_cons_succ,show k+1+j=k+(j+1) by omega]
   rw [e]
   simp only [List.getD_cons_zero,Nat.add_zero]
   omega
theorem rest_get:∀ {vs:List Ves} {gs ds:List Int} {i k:Nat},k < vs.length→B0 (restG vs gs ds i) k=⟨gs.getD (i+k) 0,gs.getD (i+k) 0 * ds.getD (i+k) 0⟩
 | [],_,_,_,_,h=>by cases h
 | v :: vs,gs,ds,i,0,_=>rfl
 | v :: vs,gs,ds,i,k+1,h=>by
  have:=rest_get (vs:=vs) (gs:=gs) (ds:=ds) (i:=i+1) (k:=k) (by simpa using h)
  rw [show i+1+k=i+(k+1) by omega] at this
  exact this
theorem play_sum {b:Ee} {t:Tru} (hv:N6 b) (hl:F1 b t=true) (h:(playX b t).2=true) :
  sumTo (fun j=>t.g.getD j 0 - (B0 (playX b t).1 j).g) b.vs.length+sumTo (fun j=>flowS (b.ss.getD j default) (t.m.getD j 0)) b.ss.length=0 ∧
  sumTo (fun j=>t.g.getD j 0 * t.d.getD j 0 - (B0 (playX b t).1 j).e) b.vs.length=0:=by
 obtain ⟨h1,h2⟩:=playXF_sum hv (fun k=>((L0 hv hl).2.2 k).1) b.ss 0 _ hv.s (beginX_ok hv hl) begin_roomV h
 have hb:∀ k,k < b.vs.length→B0 (beginX b.vs t.g t.d) k=⟨t.g.getD k 0,t.g.getD k 0 * t.d.getD k 0⟩:=fun k hk=>by
  have:=rest_get (gs:=t.g) (ds:=t.d) (i:=0) hk
  rwa [Nat.zero_add] at this
 rw [sumTo_congr (f:=fun j=>(B0 (beginX b.vs t.g t.d) j).g) (g:=fun j=>t.g.getD j 0) _ (fun j hj=>by rw [hb j hj])] at h1
 rw [sumTo_congr (f:=fun j=>(B0 (beginX b.vs t.g t.d) j).e) (g:=fun j=>t.g.getD j 0 * t.d.getD j 0) _ (fun j hj=>by rw [hb j hj])] at h2
 simp only [Nat.zero_add] at h1
 rw [sumTo_sub,sumTo_sub]
 unfold playX
 omega
end AM.Wort
end
/- The program: all lists of numbers, yielded one after the other. -/
section
namespace AM.Try
open Go AM AM.Wort Go.Proofs
open Nat renaming reduceLT→sA,reduceAdd→sB,reduceMul→sC,reduceSub→sD,reduceLeDiff→sE,reduceEqDiff→sF,reduceBEq→sG
open Int renaming reduceAdd→sH,reduceSub→sI,reduceMul→sJ,reduceLT→sK,reduceLE→sL,reduceNeg→sM,reduceToNat→sN,reduceEq→sO
set_option maxRecDepth 100000
set_option maxHeartbeats 16000000
theorem allS_append {σ α:Type} {step:σ→α→σ × Bool}:∀ (l1 l2:List α) (s:σ),Fm step s (l1++l2)=if (Fm step s l1).2=true then Fm step (Fm step s l1).1 l2 else Fm step s l1
  | [],l2,s=>rfl
  | x :: l1,l2,s=>by
    simp only [List.cons_append,Fm]
    split
    · rw [allS_append l1 l2]
    · rename_i h; simp
theorem allS_one {σ α:Type} {step:σ→α→σ × Bool} {s:σ} {x:α}:Fm step s [x]=step s x:=by
  simp only [Fm]
  split
  · rename_i h; exact Prod.ext rfl h.symm
  · rename_i h; exact Prod.ext rfl (Bool.eq_false_iff.2 h).symm
theorem Bg.of_nil0 {P:Program} {bd:Nat} {fv:AV} {os:Nat→Option AO} {R:AV→(Nat→Option AO)→Prop} (h:Bg P bd fv [.p (.sl [])] os R):Bg P bd fv [C3] os R:=by
  intro hfree S θ M w vf vs h1 h2 h3 h4 h5 h6
  refine h hfree S θ M w vf vs h1 h2 h3 (fun i x hx=>?_) h5 (fun i x hx=>?_)
  · match i,hx with
    | 0,hx=>
      cases hx
      have:=Rd (h4 0 C3 rfl)
      rw [this]; exact .p _ _ .nil
  · match i,hx with
    | 0,hx=>cases hx; exact AV.lives_p _ _
theorem EO_sl3N {r:RB} {N:Nat} {s:St} {K:St→Prop} {dst:Option Nat} {ty:TypeId} {pos:String} {after:Array Edge} {g:Option (Nat × Bool)} {x hi mx:Operand} {lo:Option Operand}:EO Tryz.prog r N ⟨dst,.slice 26 x lo (some hi) (some mx),ty,pos,after,g⟩ s K=EOp r.b N dst s K (fSl3 (fun e=>(Ab Tryz.prog e).sz) (fun e=>(Ab Tryz.prog e).agg) 3 ((ev s.t x).pv?.bind PV.list?) (A9 (ev s.t) 0 lo) (A9 (ev s.t) 0 (some hi)) (A9 (ev s.t) 0 (some mx))):=EO_slice3 (by rw [Bau])
theorem EO_slN' {r:RB} {N:Nat} {s:St} {K:St→Prop} {dst:Option Nat} {ty:TypeId} {pos:String} {after:Array Edge} {g:Option (Nat × Bool)} {x:Operand} {lo hi:Option Operand}:EO Tryz.prog r N ⟨dst,.slice 26 x lo hi none,ty,pos,after,g⟩ s K=EOp r.b N dst s K (fSlP (fun e=>(Ab Tryz.prog e).sz) (fun e=>(Ab Tryz.prog e).agg) 3 ((ev s.t x).pv?.bind PV.list?) (A9 (ev s.t) 0 lo) (fun n=>A9 (ev s.t) n hi)):=EO_sliceP (by rw [Bau])
theorem islN_len1 (l:List Int):((l.map fun n=>[iv n]).all fun c=>decide (c.length=(Ab Tryz.prog 3).sz))=true:=by
  simp only [amT]; simp
theorem sl3I {l:List Int} {lo hi m:Int} (h0:0≤lo) (h1:lo≤hi) (h2:hi≤m) (h3:m≤l.length):fSl3 (fun e=>(Ab Tryz.prog e).sz) (fun e=>(Ab Tryz.prog e).agg) 3 (some (l.map fun n=>[iv n])) (some lo) (some hi) (some m)=some (.pure (isl ((l.take hi.toNat).drop lo.toNat))):=by
  rw [fSl3_some h0 h1 h2 (by simpa using h3) (by simp only [amT]; rfl) (islN_len1 l),← List.map_take,← List.map_drop]
theorem slPI {l:List Int} {lo:Int} (h0:0≤lo) (h1:lo≤l.length):fSlP (fun e=>(Ab Tryz.prog e).sz) (fun e=>(Ab Tryz.prog e).agg) 3 (some (l.map fun n=>[iv n])) (some lo) (fun n=>some (n:Int))=some (.pure (isl (l.drop lo.toNat))):=by
  rw [fSlP_some (h:=(l.length:Int)) (by simp) h0 h1 (by simp) (by simp only [amT]; rfl) (islN_len1 l),← List.map_take,← List.map_drop,List.take_of_length_le (by simp)]
theorem sl_appI {bd:Nat} {fv:AV} {p:List Int} {x:Int} {os:Nat→Option AO} {R:AV→(Nat→Option AO)→Prop} (h:Bg Tryz.prog bd fv [isl (p++[x])] os R):Bg Tryz.prog bd fv [.p (.sl ((p.map fun n=>[iv n])++[[iv x]]))] os R:=by
  rw [show isl (p++[x])=.p (.sl ((p.map fun n=>[iv n])++[[iv x]])) from by simp [List.map_append]] at h; exact h
theorem args_frz1 {n len:Nat} {es:List (List PV)} (h:len=es.length):[AV.own n len].map (AV.frz n es)=[.p (.sl es)]:=by
  subst h
  show [(AV.own n es.length).frz n es]=_
  simp only [AV.frz,if_true,Nat.le_refl,List.take_length]
abbrev avL (k:Nat) (x:List Int):AV:=.agg [isl (x.take k),isl ((x.take (2 * k)).drop k),isl (x.drop (2 * k))]
abbrev chF (nr ny nk nc:Nat):AV:=.fn (.func 130) [] [.ptr nr 0,.ptr ny 0,.ptr nk 0,.ptr nc 0]
theorem ch_frz {n nr ny nk nc:Nat} {es:List (List PV)} (h1:nr≠n) (h2:ny≠n) (h3:nk≠n) (h4:nc≠n):(chF nr ny nk nc).frz n es=chF nr ny nk nc:=by
  simp only [AV.frz,AV.frz.frzL,h1,h2,h3,h4,if_false]
structure Chs (rs:List Rng) (k nr ny nk nc:Nat) (yv:AV) (os:Nat→Option AO):Prop where
  r:os nr=some (.cells [.p (.sl (rs.map H9))])
  y:os ny=some (.cells [yv])
  k:os nk=some (.cells [i64 (k:Int)])
  c:os nc=some (.cells [chF nr ny nk nc])
theorem c_choose {rs:List Rng} {k:Nat} {yv:AV} {F:Nat→Prop} {σ:Type} {L:List (List Int)} {go:σ→Prop} {I:σ→(Nat→Option AO)→Prop} {step:σ→List Int→σ × Bool} (hY:Ag6 Tryz.prog yv F (avL k) L go I step) (hrs:∀ r ∈ rs,0≤r.lo∧r.lo≤r.hi∧r.hi≤1000) (hn:rs.length≤100) (hk:2 * k≤rs.length) {nr ny nk nc:Nat} (f1:¬ F nr) (f2:¬ F ny) (f3:¬ F nk) (f4:¬ F nc) (m:Nat) :
    ∀ (cur:List Int) (s:σ) (os:Nat→Option AO) (bd:Nat),rs.length - cur.length=m→cur.length≤rs.length→(∀ x ∈ listsR (rs.drop cur.length) cur,x ∈ L)→Chs rs k nr ny nk nc yv os→go s→I s os →
    Bg Tryz.prog bd (chF nr ny nk nc) [isl cur] os fun res os'=>res=bl (Fm step s (listsR (rs.drop cur.length) cur)).2∧I (Fm step s (listsR (rs.drop cur.length) cur)).1 os'∧∀ n,¬ F n→os' n=os n:=by
  induction m using Nat.strongRecOn with
  | ind m ih=>
  intro cur s os bd hm hcu hL hch hg hI
  refine B2 (v:=[]) (q:=[]) (N:=54) (rs:=[.tmp 6]) Tryz.func130 rfl (by kernel_rfl) rfl rfl (fun hcl hfree=>?_)
  obtain ⟨o1,o2,o3,o4⟩:=hch
  have hfr0:∀ k,os (bd+k)=none:=fun k=>hfree _ (by omega)
  have b1:=Ao hfree o1
  have b2:=Ao hfree o2
  have b3:=Ao hfree o3
  have b4:=Ao hfree o4
  have hF:∀ n,F n→n < bd:=fun n hn=>by obtain ⟨o,h,_⟩:=hY.foot s os n hI hn; exact Ao hfree h
  have hlv:=hY.live _ _ hI
  have hpg:∀ j,pgO (bd+j) os=os:=fun j=>Abk hcl (hfr0 j)
  have hpf:∀ j,AV.purge (bd+j) (chF nr ny nk nc)=chF nr ny nk nc:=fun j=>by
    unfold AV.purge
    refine if_pos ?_
    simp [AV.clean,AV.clean.cleanL]; omega
  have hw2:IntKind.i64.wrap (2 * (k:Int))=2 * k:=Fc (by omega) (by omega)
  refine Aa fun K1 hK1=>?_
  refine Ac ?_
  simp (disch:=omega) only [amL,sA,sB]
  refine hK1 _ ?_
  refine Aa fun K2 hK2=>?_
  refine Aa fun K3 hK3=>?_
  refine Ac ?_
  simp (disch:=omega) only [o1,amL,amT,sA,sF,↓reduceIte,reduceCtorEq]
  refine hK3 _ ?_
  refine Aj rfl (fun h=>MT.x ?_) (fun h=>ME.x ?_)
  all_goals
   first
   |refine MT.mk ?_
    first
    |exact Bool.noConfusion h
    |skip
     try simp only [nrm] at h
     refine Aa fun K4 hK4=>?_
     refine Ce (by kernel_rfl) (by kernel_rfl) ?_
     have hone:=lists_end (rs:=rs) (cur:=cur) (by omega)
     simp (disch:=omega) only [o2,o3,hw2,EO_sl3N,EO_slN',pvl_sl,Bk,Bj,B1,sl3I,slPI,List.map_cons,List.map_nil,amL,amT,sA,sB,sE,sF,sN,↓reduceIte,reduceCtorEq]
     have hcall:=hY.call s cur os (bd+54) (hL cur (by rw [hone]; exact List.mem_singleton.2 rfl)) hg hI hcl
     refine A1 [] (by decide) hcall (fun q hq=>hfree q (by omega)) (Nat.le_add_right _ _) (fun res os4 hR hcl4 hlvr=>?_)
     obtain ⟨rfl,hI4,hfr4⟩:=hR
     simp (disch:=omega) only [amL,sA,↓reduceIte]
     refine hK4 _ ?_
     refine Ah ?_
     try simp (disch:=omega) only [amL]
     first
       | (refine A3 (res:=bl (step s cur).2) os4 rfl (Sub.refl _) hcl4 (A5 _ rfl) ⟨?_,?_,hfr4⟩
          · rw [hone,allS_one]
          · rw [hone,allS_one]; exact hI4)
       | (have hf:=h
          refine A3 (res:=bl false) (Dt bd os4) rfl hsb4 hd4.1 (A5 _ rfl) ⟨?_,?_,hd4.2.2⟩
          · rw [← hall,listsN_next (by omega),allS_append,if_neg (by rw [hf]; decide),hf]
          · rw [← hall,listsN_next (by omega),allS_append,if_neg (by rw [hf]; decide)]; exact hd4.2.1)
       | (rw [listsN_end (by omega)] at hall
          refine A3 (res:=bl true) os1 (by simp (disch:=omega) only [o1,o2,o3,o4,hw2,hfr0,Ad,Bw,Bh,EO_sl3N,EO_slN',pvl_sl,Bk,Bj,B1,sl3I,slPI,hpf,hpg,Hr,Ni,Kp,Ex,Gg,List.map_cons,List.map_nil,Lk,if_true,amL,amT,sA,sB,sC,sD,sE,sF,sG,sH,sI,sJ,sK,sL,sM,sN,sO,↓reduceIte,reduceCtorEq]; try rfl) (fun q=>?_) hcl1 (A5 _ rfl) ⟨?_,?_,hfr1⟩
          · by_cases e:q=bd+7
            · subst e; left; exact hfr0 7
            · right; simp only [Ad e]
          · rw [← hall]; rfl
          · rw [← hall]; exact hI1)
   |refine ME.mk ?_
    first
    |exact Bool.noConfusion h
    |skip
     try simp only [nrm] at h
     refine Ak ?_
     refine hK2 _ ?_
  all_goals
   skip
   refine Aa fun K5 hK5=>?_
   refine Ac ?_
   have hcl3:cur.length < rs.length:=by omega
   obtain ⟨q1,q2,q3⟩:=hrs (rs.getD cur.length default) (AM.Wort.Dy default hcl3)
   have hhere:=lists_here (d:=default) hcl3
   have hsz:Fa (rs.getD cur.length default)=(rs.getD cur.length default).hi - (rs.getD cur.length default).lo+1:=rfl
   simp (disch:=omega) only [o1,hfr0,Bw,Bh,List.map_cons,List.map_nil,amL,amT,sA,sB,sF,↓reduceIte,reduceCtorEq]
   refine hK5 _ ?_
   refine Aa fun K6 hK6=>?_
   refine Aa fun K7 hK7=>?_
   refine Ac ?_
   simp (disch:=omega) only [List.map_cons,List.map_nil,amL,amT,sA,sB,↓reduceIte]
   repeat' first | (refine Aw (by kernel_rfl) rfl (Aeq (rs.getD cur.length default) (by omega) (by omega)) (by first | exact .inl rfl | exact .inr (.inl rfl)) ?_ ; simp (disch:=omega) only [amL,sA])
   refine hK7 _ ?_
   refine Ap ?_
   skip
   refine Be (α:=Nat × σ × (Nat→Option AO)) (fun x=>⟨T [(0,isl cur),(1,.ptr nr 0),(2,.ptr ny 0),(3,.ptr nk 0),(4,.ptr nc 0),(7,.ptr (bd+7) 0),(38,i64 (Fa (rs.getD cur.length default))),(39,i64 (x.1:Int))],upd x.2.2 (bd+7) (some (.cells [i64 (rs.getD cur.length default).lo,i64 (rs.getD cur.length default).hi]))⟩) (fun x=>(Fa (rs.getD cur.length default)).toNat - x.1) (fun x=>x.1≤(Fa (rs.getD cur.length default)).toNat∧go x.2.1∧I x.2.1 x.2.2∧(Hp x.2.2).closed∧(∀ n,¬ F n→x.2.2 n=os n)∧Fm step x.2.1 (listsN (fun n=>listsR (rs.drop (cur.length+1)) (cur++[n])) ((Fa (rs.getD cur.length default)).toNat - x.1) ((rs.getD cur.length default).lo+(x.1:Nat)))=Fm step s (listsR (rs.drop cur.length) cur)) (0,s,os) ?_ ?_ (fun x hx8 K8 hK8=>?_)
   · exact ⟨Nat.zero_le _,hg,hI,hcl,fun _ _=>rfl,by rw [hhere]⟩
   · refine F9 ?_ ?_ ?_ ?_ <;> (try simp (disch:=omega) only [o1,o2,o3,o4,Ad,amL,sF,↓reduceIte,reduceCtorEq]); all_goals first | exact Sub.refl _ | exact F6 hcl (by simp [AV.isP]) | trace_state
   obtain ⟨n,s1,os1⟩:=x; dsimp only at hx8 ⊢; obtain ⟨hn1,hg1,hI1,hcl1,hfr1,hall⟩:=hx8; have o1:=(hfr1 nr f1).trans o1; have o2:=(hfr1 ny f2).trans o2; have o3:=(hfr1 nk f3).trans o3; have o4:=(hfr1 nc f4).trans o4; have hfreeI:∀ q,bd≤q→os1 q=none:=fun q hq=>(hfr1 q (fun h=>by have:=hF q h; omega)).trans (hfree q hq); have hfr0:∀ k,os1 (bd+k)=none:=fun k=>hfreeI _ (by omega); have hpg:∀ j,pgO (bd+j) os1=os1:=fun j=>Abk hcl1 (hfr0 j)
   refine Aa fun K9 hK9=>?_
   refine Ac ?_
   simp (disch:=omega) only [amL,amT,sA,sF,↓reduceIte,reduceCtorEq]
   refine hK9 _ ?_
   refine Aa fun K10 hK10=>?_
   refine Aj rfl (fun h=>MT.x ?_) (fun h=>ME.x ?_)
   all_goals
    first
    |refine MT.mk ?_
     first
     |exact Bool.noConfusion h
     |skip
      try simp only [nrm] at h
      refine Ak ?_
      refine hK10 _ ?_
    |refine ME.mk ?_
     first
     |exact Bool.noConfusion h
     |skip
      try simp only [nrm] at h
      refine Bo ?_
      refine hK6 _ ?_
      refine Aa fun K11 hK11=>?_
      refine Ac ?_
      simp (disch:=omega) only [amL,sA]
      refine hK11 _ ?_
      refine Ah ?_
      try simp (disch:=omega) only [amL]
      first
        | (refine A3 (res:=bl (step s cur).2) os4 rfl (Sub.refl _) hcl4 (A5 _ rfl) ⟨?_,?_,hfr4⟩
           · rw [hone,allS_one]
           · rw [hone,allS_one]; exact hI4)
        | (have hf:=h
           refine A3 (res:=bl false) (Dt bd os4) rfl hsb4 hd4.1 (A5 _ rfl) ⟨?_,?_,hd4.2.2⟩
           · rw [← hall,listsN_next (by omega),allS_append,if_neg (by rw [hf]; decide),hf]
           · rw [← hall,listsN_next (by omega),allS_append,if_neg (by rw [hf]; decide)]; exact hd4.2.1)
        | (rw [listsN_end (by omega)] at hall
           refine A3 (res:=bl true) os1 (by simp (disch:=omega) only [amL,↓reduceIte]; try rfl) (fun q=>?_) hcl1 (A5 _ rfl) ⟨?_,?_,hfr1⟩
           · by_cases e:q=bd+7
             · subst e; left; exact hfr0 7
             · right; simp only [Ad e]
           · rw [← hall]; rfl
           · rw [← hall]; exact hI1)
   all_goals
    skip
    refine Aa fun K12 hK12=>?_
    refine Ap ?_
    refine Aa fun K13 hK13=>?_
    refine Ac ?_
    simp (disch:=omega) only [amL,sA,sF,↓reduceIte,reduceCtorEq]
    refine hK13 _ ?_
    refine Aa fun K14 hK14=>?_
    have hw3:IntKind.i64.wrap ((rs.getD cur.length default).lo+(n:Int))=(rs.getD cur.length default).lo+n:=Fc (by omega) (by omega)
    refine V4 9 [.app [4]] (by kernel_rfl) (by kernel_rfl) ?_
    simp only [List.take_succ_cons,List.take_zero,List.drop_succ_cons,List.drop_zero]
    simp (disch:=omega) only [o4,Ad,List.map_cons,List.map_nil,amL,amT,sA,sF,↓reduceIte,reduceCtorEq]
    refine V9 (by kernel_rfl) (by decide) (Aoz (cur.map fun n=>[iv n]) (by simp) (by simp [PV.isVal]) (by rw [List.length_map]; omega)) (by simp (disch:=omega) only [hfr0,Ad]) ?_
    simp (disch:=omega) only [hfr0,Ad,hpf,hpg,Hr,Ni,Kp,Ex,Gg,List.map_cons,List.map_nil,Lk,amL,amT,sA,sE,sF,↓reduceIte,reduceCtorEq]
    refine ⟨rfl,?_⟩
    have hin:∀ x ∈ listsR (rs.drop (cur.length+1)) (cur++[(rs.getD cur.length default).lo+(n:Int)]),x ∈ L:=fun x hx=>hL x (by rw [hhere]; exact listsN_mem _ _ n (by omega) (by simpa using hx))
    have hcall:=ih (rs.length - (cur++[(rs.getD cur.length default).lo+(n:Int)]).length) (by rw [List.length_append,List.length_singleton]; omega) (cur++[(rs.getD cur.length default).lo+(n:Int)]) s1 (upd (upd os1 (bd+7) (some (.cells [i64 (rs.getD cur.length default).lo,i64 (rs.getD cur.length default).hi]))) (bd+49) (some (.arr 1 [[iv ((rs.getD cur.length default).lo+(n:Int))]]))) (bd+54) rfl (by rw [List.length_append,List.length_singleton]; omega) (by rw [List.length_append,List.length_singleton]; exact hin) ⟨by simp (disch:=omega) only [Ad]; exact o1,by simp (disch:=omega) only [Ad]; exact o2,by simp (disch:=omega) only [Ad]; exact o3,by simp (disch:=omega) only [Ad]; exact o4⟩ hg1 (hY.stable _ _ _ hI1 (fun q hq=>by have:=hF q hq; simp (disch:=omega) only [Ad]))
    rw [List.length_append,List.length_singleton] at hcall
    refine Af0 (bd:=bd+54) (bd+50) Bb _ [(0,isl cur),(1,.ptr nr 0),(2,.ptr ny 0),(3,.ptr nk 0),(4,.ptr nc 0),(7,.ptr (bd+7) 0),(38,i64 (Fa (rs.getD cur.length default))),(39,i64 (n:Int))] ((Abt (Ns (F6 hcl1 (by simp [AV.isP]))) (by simp (disch:=omega) only [Ad]; exact hfr0 _)).trans rfl) (by decide) (by
      rw [ch_frz (by omega) (by omega) (by omega) (by omega),args_frz1 (by simp)]
      exact sl_appI hcall) (fun q hq=>by simp (disch:=omega) only [Ad]; exact hfreeI q (by omega)) (Nat.le_add_right _ _) (fun res os4 hR hcl4 hlv4=>?_)
    obtain ⟨rfl,hI4,hfr4⟩:=hR
    simp (disch:=omega) only [Xf,AV.frz,if_neg]
    have hd4:=hY.drop hcl hfree hI hI4 (fun q hq1 hq2=>(hfr4 q hq2).trans (by simp (disch:=omega) only [Ad]; exact hfr1 q hq2))
    have h74:os4 (bd+7)=some (.cells [i64 (rs.getD cur.length default).lo,i64 (rs.getD cur.length default).hi]):=(hfr4 (bd+7) (fun h=>by have:=hF _ h; omega)).trans (by simp (disch:=omega) only [Ad,Bb])
    have hsb4:Sub (Dt bd os4) os4:=Ly bd os4
    have hsub4:Sub (upd (Dt bd os4) (bd+7) (some (.cells [i64 (rs.getD cur.length default).lo,i64 (rs.getD cur.length default).hi]))) os4:=fun q=>by
      by_cases e:q=bd+7
      · subst e; right; rw [Bb,h74]
      · rw [Ad e]; exact hsb4 q
    simp (disch:=omega) only [amL,sA,sF,↓reduceIte,reduceCtorEq]
    refine ⟨⟨by rw [hfr4 nr f1]; simp (disch:=omega) only [Ad]; rw [o1]; rfl,by rw [hfr4 ny f2]; simp (disch:=omega) only [Ad]; rw [o2]; rfl,by rw [hfr4 nk f3]; simp (disch:=omega) only [Ad]; rw [o3]; rfl,by rw [hfr4 nc f4]; simp (disch:=omega) only [Ad]; rw [o4]; rfl,by rw [h74]; rfl⟩,?_⟩
    refine hK14 _ ?_
    refine Aj rfl (fun h=>MT.x ?_) (fun h=>ME.x ?_)
    all_goals
     first
     |refine MT.mk ?_
      first
      |exact Bool.noConfusion h
      |skip
       try simp only [nrm] at h
       refine Aa fun K15 hK15=>?_
       refine Ac ?_
       simp (disch:=omega) only [amL,sA]
       refine hK15 _ ?_
       refine Ah ?_
       try simp (disch:=omega) only [amL]
       first
         | (refine A3 (res:=bl (step s cur).2) os4 rfl (Sub.refl _) hcl4 (A5 _ rfl) ⟨?_,?_,hfr4⟩
            · rw [hone,allS_one]
            · rw [hone,allS_one]; exact hI4)
         | (have hf:=h
            refine A3 (res:=bl false) (Dt bd os4) rfl hsb4 hd4.1 (A5 _ rfl) ⟨?_,?_,hd4.2.2⟩
            · rw [← hall,listsN_next (by omega),allS_append,if_neg (by rw [hf]; decide),hf]
            · rw [← hall,listsN_next (by omega),allS_append,if_neg (by rw [hf]; decide)]; exact hd4.2.1)
         | (rw [listsN_end (by omega)] at hall
            refine A3 (res:=bl true) os1 (by simp (disch:=omega) only [o1,o2,o3,o4,hw2,hfr0,Ad,Bw,Bh,EO_sl3N,EO_slN',pvl_sl,Bk,Bj,B1,sl3I,slPI,hpf,hpg,Hr,Ni,Kp,Ex,Gg,List.map_cons,List.map_nil,Lk,if_true,amL,amT,sA,sB,sC,sD,sE,sF,sG,sH,sI,sJ,sK,sL,sM,sN,sO,↓reduceIte,reduceCtorEq]; try rfl) (fun q=>?_) hcl1 (A5 _ rfl) ⟨?_,?_,hfr1⟩
            · by_cases e:q=bd+7
              · subst e; left; exact hfr0 7
              · right; simp only [Ad e]
            · rw [← hall]; rfl
            · rw [← hall]; exact hI1)
     |refine ME.mk ?_
      first
      |exact Bool.noConfusion h
      |skip
       try simp only [nrm] at h
       refine Ak ?_
       refine hK12 _ ?_
    all_goals
     skip
     refine Ac ?_
     simp (disch:=omega) only [amL,amT,sA,sF,↓reduceIte,reduceCtorEq]
     refine hK8 (n+1,(Fm step s1 (listsR (rs.drop (cur.length+1)) (cur++[(rs.getD cur.length default).lo+(n:Nat)]))).1,Dt bd os4) _ ?_ ?_ (F9 ?_ ?_ ?_ ?_)
     all_goals (try simp (disch:=omega) only [Ad,amL,sF,↓reduceIte,reduceCtorEq])
     all_goals first | omega | exact hsub4 | exact F6 hd4.1 (by simp [AV.isP]) | exact ⟨by omega,allS_go' (fun s x hx=>hY.next s x (hin x hx)) hg1 h,hd4.2.1,hd4.1,hd4.2.2,by rw [← hall,listsN_next (by omega),allS_append,if_pos h]; rfl⟩ | exact ⟨by rw [hd4.2.2 nr f1,← hfr1 nr f1,o1]; rfl,by rw [hd4.2.2 ny f2,← hfr1 ny f2,o2]; rfl,by rw [hd4.2.2 nk f3,← hfr1 nk f3,o3]; rfl,by rw [hd4.2.2 nc f4,← hfr1 nc f4,o4]; rfl⟩ | trace_state
theorem c_truths {b:Ee} {nw m:Nat} {os:Nat→Option AO} {bd:Nat} (hl:b.vs.length < 1000000) (hl2:b.ss.length < 1000000) (hw:os nw=some (.cells [.p (slV b.vs),.p (slS b.ss),.mp m])) :
  Bg Tryz.prog bd (.fn (.func 110) [] []) [.ptr nw 0] os fun res os'=>res=.fn (.func 129) [] [.ptr (bd+3) 0,.ptr (bd+4) 0]∧os'=upd (upd os (bd+3) (some (.cells [.p (.sl ((Fz b).map H9))]))) (bd+4) (some (.cells [i64 b.vs.length])):=by
 refine B2 (v:=[]) (q:=[]) (N:=17) (rs:=[.tmp 2]) Tryz.func110 rfl (by kernel_rfl) rfl rfl (fun hcl hfree=>?_)
 have hfr0:∀ k,os (bd+k)=none:=fun k=>hfree _ (by omega)
 have hb:=Ao hfree hw
 refine Aa fun K1 hK1=>?_
 refine Ac ?_
 simp (disch:=omega) only [amL,sA]
 refine hK1 _ ?_
 refine Aa fun K2 hK2=>?_
 refine Ac ?_
 simp (disch:=omega) only [hw,amL,amT,sA,sB,sE,↓reduceIte,reduceCtorEq]
 repeat' first | (refine Aw (by kernel_rfl) rfl (Ad6 b hl hl2) (by first | exact .inl rfl | exact .inr (.inl rfl)) ?_ ; simp (disch:=omega) only [hfr0,amL,amT,sA,sF,↓reduceIte])
 refine hK2 _ ?_
 refine Aa fun K3 hK3=>?_
 refine Ac ?_
 simp (disch:=omega) only [hw,hfr0,Ad,amL,amT,sA,sF,↓reduceIte,reduceCtorEq]
 refine hK3 _ ?_
 refine Aa fun K4 hK4=>?_
 refine Ac ?_
 simp (disch:=omega) only [amL,sA,sF,↓reduceIte]
 refine hK4 _ ?_
 refine Ah ?_
 try simp (disch:=omega) only [amL]
 refine A3 (res:=.fn (.func 129) [] [.ptr (bd+3) 0,.ptr (bd+4) 0]) (upd (upd os (bd+3) (some (.cells [.p (.sl ((Fz b).map H9))]))) (bd+4) (some (.cells [i64 b.vs.length]))) (by simp (disch:=omega) only [amL,↓reduceIte]; try rfl) (by simp only [Bw]; exact Sub.refl _) (F6 (F6 hcl (by simp [AV.isP])) (by simp [AV.isP])) ?_ ⟨rfl,rfl⟩
 ·rw [Fr]; simp (disch:=omega) only [Ct,Cl,C5,Ad,Bb,Option.isSome_some,and_self]
theorem c_truthsY {rs:List Rng} {k:Nat} {yv:AV} {F:Nat→Prop} {σ:Type} {go:σ→Prop} {I:σ→(Nat→Option AO)→Prop} {step:σ→List Int→σ × Bool} (hY:Ag6 Tryz.prog yv F (avL k) (listsR rs []) go I step) (hcs:yv.cs?=some [yv]) (hrs:∀ r ∈ rs,0≤r.lo∧r.lo≤r.hi∧r.hi≤1000) (hn:rs.length≤100) (hk:2 * k≤rs.length) {nr nk:Nat} (f1:¬ F nr) (f3:¬ F nk) {s:σ} {os:Nat→Option AO} {bd:Nat} (o1:os nr=some (.cells [.p (.sl (rs.map H9))])) (o3:os nk=some (.cells [i64 (k:Int)])) (hg:go s) (hI:I s os) :
  Bg Tryz.prog bd (.fn (.func 129) [] [.ptr nr 0,.ptr nk 0]) [yv] os fun res os'=>res=.tup []∧I (Fm step s (listsR rs [])).1 os'∧∀ n,¬ F n→os' n=os n:=by
 refine B2 (v:=[]) (q:=[]) (N:=8) (rs:=[]) Tryz.func129 rfl (by kernel_rfl) rfl rfl (fun hcl hfree=>?_)
 have hfr0:∀ k,os (bd+k)=none:=fun k=>hfree _ (by omega)
 have b1:=Ao hfree o1
 have b3:=Ao hfree o3
 have hF:∀ n,F n→n < bd:=fun n hn=>by obtain ⟨o,h,_⟩:=hY.foot s os n hI hn; exact Ao hfree h
 have hlv:=hY.live _ _ hI
 refine Aa fun K1 hK1=>?_
 refine Ac ?_
 simp (disch:=omega) only [hfr0,hcs,amL,sA,sB,↓reduceIte]
 refine hK1 _ ?_
 refine Aa fun K2 hK2=>?_
 refine Ac ?_
 simp (disch:=omega) only [hfr0,Ad,amL,amT,sA,↓reduceIte]
 refine hK2 _ ?_
 refine Aa fun K3 hK3=>?_
 refine Ac ?_
 simp (disch:=omega) only [Bw,amL,amT,sA,sF,↓reduceIte,reduceCtorEq]
 refine hK3 _ ?_
 refine Ac ?_
 simp (disch:=omega) only [amL,amT,sA,sF,↓reduceIte]
 have hcall:=Bg.of_nil0 (c_choose hY hrs hn hk (nr:=nr) (ny:=bd+3) (nk:=nk) (nc:=bd+4) f1 (fun h=>by have:=hF _ h; omega) f3 (fun h=>by have:=hF _ h; omega) rs.length [] s (upd (upd os (bd+3) (some (.cells [yv]))) (bd+4) (some (.cells [chF nr (bd+3) nk (bd+4)]))) (bd+8) rfl (Nat.zero_le _) (fun x hx=>hx) ⟨by simp (disch:=omega) only [Ad]; exact o1,by simp (disch:=omega) only [Ad,Bb],by simp (disch:=omega) only [Ad]; exact o3,Bb⟩ hg (hY.stable _ _ _ hI (fun q hq=>by have:=hF q hq; simp (disch:=omega) only [Ad])))
 refine A1 [] (by decide) hcall (fun q hq=>by simp (disch:=omega) only [Ad]; exact hfree q (by omega)) (Nat.le_add_right _ _) (fun res os4 hR hcl4 hlv4=>?_)
 obtain ⟨rfl,hI4,hfr4⟩:=hR
 have hd4:=hY.drop hcl hfree hI hI4 (fun q hq1 hq2=>(hfr4 q hq2).trans (by simp (disch:=omega) only [Ad]))
 simp (disch:=omega) only [amL]
 try simp (disch:=omega) only [o1,o3,hfr0,Ad,Bw,hcs,amL,amT,sA,sB,sC,sD,sE,sF,sG,sH,sI,sJ,sK,sL,sM,sN,sO,↓reduceIte,reduceCtorEq]
 refine A3 (res:=.tup []) (Dt bd os4) rfl (Ly bd os4) hd4.1 (A5 _ rfl) ⟨rfl,hd4.2.1,hd4.2.2⟩
theorem intsV8:Mh Tryz.prog 120 8:=R2 (by kernel_rfl)
theorem eqV {v w:List Liq} (hv:OkV v) (hw:OkV w):G2 Tryz.prog .eql 120 (Cn (cW v)) (Cn (cW w))=some (.pure (bl (decide (v=w)))):=by
 have l1:(wI v).length=8:=by rw [Azb,hv.len]
 have l2:(wI w).length=8:=by rw [Azb,hw.len]
 rw [intsOf_cW,intsOf_cW,Nk (by rw [l1]; exact intsV8) (by rw [l1,l2]) (wI_in hv) (wI_in hw)]
 by_cases e:v=w
 ·subst e; rw [decide_eq_true rfl,decide_eq_true rfl]
 ·rw [decide_eq_false e,decide_eq_false (fun h=>e (wI_inj h))]
theorem c_ends {nw:Nat} {os:Nat→Option AO} {bd:Nat} (hw:(os nw).isSome=true) :
  Bg Tryz.prog bd (.fn (.func 71) [] []) [.ptr nw 0] os fun res os'=>res=.fn (.func 109) [] [.ptr (bd+1) 0]∧os'=upd os (bd+1) (some (.cells [.ptr nw 0])):=by
 refine B2 (v:=[]) (q:=[]) (N:=4) (rs:=[.tmp 2]) Tryz.func71 rfl (by kernel_rfl) rfl rfl (fun hcl hfree=>?_)
 have hfr0:∀ k,os (bd+k)=none:=fun k=>hfree _ (by omega)
 have hb:nw < bd:=by
  cases Nat.lt_or_ge nw bd with
  | inl h=>exact h
  | inr h=>rw [hfree nw h] at hw; cases hw
 refine Aa fun K1 hK1=>?_
 refine Ac ?_
 simp (disch:=omega) only [hfr0,amL,sA,↓reduceIte]
 refine hK1 _ ?_
 refine Aa fun K2 hK2=>?_
 refine Ac ?_
 simp (disch:=omega) only [amL,sA,sF,↓reduceIte]
 refine hK2 _ ?_
 refine Ah ?_
 try simp (disch:=omega) only [amL]
 refine A3 (res:=.fn (.func 109) [] [.ptr (bd+1) 0]) (upd os (bd+1) (some (.cells [.ptr nw 0]))) (by simp (disch:=omega) only [amL,↓reduceIte]; try rfl) (by simp only []; exact Sub.refl _) (Cq hcl ?_) ?_ ⟨rfl,rfl⟩
 ·rw [Dv]; simp (disch:=omega) only [Ct,Cl,C5,Ad,hw,and_self]
 ·rw [Fr]; simp (disch:=omega) only [Ct,Cl,C5,Bb,Option.isSome_some,and_self]
abbrev tmE (n1 ny nl nf:Nat):List (Nat × AV):=[(1,.ptr n1 0),(2,.ptr ny 0),(3,.ptr nl 0),(4,.ptr nf 0)]
def endV (b:Ee) (x:List Int):List Liq:=(Mo b (truT b.vs.length x)).1
def endB (b:Ee) (x:List Int):Bool:=(Mo b (truT b.vs.length x)).2
def bstE {σ:Type} (b:Ee) (step:σ→List Liq→σ × Bool) (s:σ × List Liq × Bool) (x:List Int):(σ × List Liq × Bool) × Option Code:=
  if endB b x=false∨(s.2.2=false∧endV b x=s.2.1) then (s,none)
  else if (step s.1 (endV b x)).2=true then (((step s.1 (endV b x)).1,endV b x,false),none) else (((step s.1 (endV b x)).1,s.2.1,s.2.2),some .ret)
theorem bstE_no {σ:Type} {b:Ee} {step:σ→List Liq→σ × Bool} {s:σ × List Liq × Bool} {x:List Int} (h:endB b x=false∨(s.2.2=false∧endV b x=s.2.1)):bstE b step s x=(s,none):=if_pos h
theorem bstE_go {σ:Type} {b:Ee} {step:σ→List Liq→σ × Bool} {s:σ × List Liq × Bool} {x:List Int} (h:¬ (endB b x=false∨(s.2.2=false∧endV b x=s.2.1))) (h2:(step s.1 (endV b x)).2=true):bstE b step s x=(((step s.1 (endV b x)).1,endV b x,false),none):=(if_neg h).trans (if_pos h2)
theorem bstE_ret {σ:Type} {b:Ee} {step:σ→List Liq→σ × Bool} {s:σ × List Liq × Bool} {x:List Int} (h:¬ (endB b x=false∨(s.2.2=false∧endV b x=s.2.1))) (h2:(step s.1 (endV b x)).2=false):bstE b step s x=(((step s.1 (endV b x)).1,s.2.1,s.2.2),some .ret):=(if_neg h).trans (if_neg (by rw [h2]; decide))
structure EnI {σ:Type} (b:Ee) (yv:AV) (I:σ→(Nat→Option AO)→Prop) (n1 nw m ny nl nf:Nat) (s:σ × List Liq × Bool) (os:Nat→Option AO):Prop where
  i:I s.1 os
  w1:os n1=some (.cells [.ptr nw 0])
  wk:Wk b.vs b.ss nw m os
  y:os ny=some (.cells [yv])
  l:os nl=some (.cells (cW s.2.1))
  f:os nf=some (.cells [bl s.2.2])
  ok:OkV s.2.1
def FE (F:Nat→Prop) (n1 nw m ny nl nf n:Nat):Prop:=F n∨n=n1∨n=nw∨n=m∨n=ny∨n=nl∨n=nf
theorem c_playE {b:Ee} {x:List Int} {nw m:Nat} {os:Nat→Option AO} {bd:Nat} (hW:Wk b.vs b.ss nw m os) (hv:N6 b) (hx:x ∈ listsR (Fz b) []) :
    Bg Tryz.prog bd (.fn (.func 61) [] []) [.ptr nw 0,avL b.vs.length x] os fun res os'=>res=.tup [avW (endV b x),bl (endB b x)]∧os'=os:=Ek (t:=truT b.vs.length x) hW hv (listed_tru hx)
theorem rounds_e {b:Ee} {yv:AV} {F:Nat→Prop} {σ:Type} {L:List (List Liq)} {go:σ→Prop} {I:σ→(Nat→Option AO)→Prop} {step:σ→List Liq→σ × Bool} (hY:Ag6 Tryz.prog yv F avW L go I step) (hL:∀ x ∈ listsR (Fz b) [],endB b x=true→endV b x ∈ L) (hv:N6 b) (own:∀ q,yv.clean q=false→F q) {n1 nw m ny nl nf bdL:Nat} (f1:¬ F n1) (fw:¬ F nw) (fm:¬ F m) (fy:¬ F ny) (fl:¬ F nl) (ff:¬ F nf) (fL:¬ F bdL) (d1:n1 < ny) (dw:nw < ny) (dm:m < ny) (dy:ny < nl) (dl:nl < nf) (df:nf < bdL)
    {A B:Code} (hcode:(Tryz.f109.body.bind Nt)=some (A,B)) :
    RoundsG Tryz.prog bdL ⟨33,[10],A,B,.ready,none⟩ (tmE n1 ny nl nf) [61] [] (FE F n1 nw m ny nl nf) (avL b.vs.length) (listsR (Fz b) []) (fun s=>go s.1) (EnI b yv I n1 nw m ny nl nf) (bstE b step) where
  ready:=rfl
  lenp:=rfl
  psn q hq:=by
    simp only [List.mem_cons,List.not_mem_nil,or_false] at hq
    subst hq; exact (by decide:10 < 33)
  notF h:=by
    rcases h with h | h | h | h | h | h | h
    · exact fL h
    all_goals omega
  tmF q hq:=by
    simp [AO.clean,AV.clean,AV.clean.cleanL] at hq
    unfold FE; omega
  stable s o1 o2 hI he:=⟨hY.stable _ _ _ hI.i (fun n hn=>he n (.inl hn)),(he n1 (by unfold FE; omega)).trans hI.w1,⟨(he nw (by unfold FE; omega)).trans hI.wk.ow,(he m (by unfold FE; omega)).trans hI.wk.om⟩,(he ny (by unfold FE; omega)).trans hI.y,(he nl (by unfold FE; omega)).trans hI.l,(he nf (by unfold FE; omega)).trans hI.f,hI.ok⟩
  foot s o1 n hI hn:=by
    rcases hn with h | rfl | rfl | rfl | rfl | rfl | rfl
    · obtain ⟨o,h1,h2⟩:=hY.foot _ _ _ hI.i h
      exact ⟨o,h1,fun q hq=>.inl (h2 q hq)⟩
    · exact ⟨_,hI.w1,fun q hq=>by simp [AO.clean,AV.clean,AV.clean.cleanL] at hq; unfold FE; omega⟩
    · exact ⟨_,hI.wk.ow,fun q hq=>by simp [AO.clean,AV.clean,AV.clean.cleanL] at hq; unfold FE; omega⟩
    · exact ⟨_,hI.wk.om,fun q hq=>by simp [AO.clean] at hq⟩
    · exact ⟨_,hI.y,fun q hq=>.inl (own q (by simpa [AO.clean,AV.clean.cleanL] using hq))⟩
    · exact ⟨_,hI.l,fun q hq=>by rw [show (AO.cells (cW s.2.1)).clean q=true from Amh] at hq; cases hq⟩
    · exact ⟨_,hI.f,fun q hq=>by simp [AO.clean,AV.clean,AV.clean.cleanL] at hq⟩
  next s x hx hg hb:=by
    unfold bstE at hb ⊢
    split at hb
    · rename_i h; rw [if_pos h]; exact hg
    · rename_i h
      rw [if_neg h]
      split at hb
      · rename_i h2
        rw [if_pos h2]
        refine hY.next _ _ (hL x hx ?_) hg h2
        cases he:endB b x with
        | true=>rfl
        | false=>exact absurd (.inl he) h
      · cases hb
  body s x o1 bd1 hx hg hI hl hcl1 hfree1 hb1 rl:=by
    obtain ⟨s,last,first⟩:=s
    obtain ⟨hi,a1,⟨aw,am⟩,ay,al,af,hok⟩:=hI
    dsimp only at hi al af hok hg
    have hfr0:∀ k,o1 (bd1+k)=none:=fun k=>hfree1 _ (by omega)
    have hpp:=Amq hv (listed_tru hx)
    have hp4:(endV b x).length=4:=hpp.1
    have hpo:endB b x=true→OkV (endV b x):=hpp.2
    have hlast:=hok.len
    have b1:=Ao hfree1 a1
    have bw:=Ao hfree1 aw
    have bm:=Ao hfree1 am
    have b2:=Ao hfree1 ay
    have b3:=Ao hfree1 al
    have b4:=Ao hfree1 af
    have hF:∀ q,F q→q < bd1∧q≠bdL∧q≠nl∧q≠nf:=fun q hq=>by
      obtain ⟨o,h,_⟩:=hY.foot s o1 q hi hq
      exact ⟨Ao hfree1 h,fun e=>fL (e ▸ hq),fun e=>fl (e ▸ hq),fun e=>ff (e ▸ hq)⟩
    have hlq:∀ {q:Nat} {kk:F8},(AO.loop kk (tmE n1 ny nl nf)).clean q=false→(o1 q).isSome=true∧(q=n1∨q=ny∨q=nl∨q=nf):=fun {q kk} hq=>by
      have e:q=n1∨q=ny∨q=nl∨q=nf:=by
        simp [AO.clean,AV.clean,AV.clean.cleanL] at hq; omega
      refine ⟨?_,e⟩
      rcases e with e | e | e | e <;> rw [e]
      · rw [a1]; rfl
      · rw [ay]; rfl
      · rw [al]; rfl
      · rw [af]; rfl
    have hclL:∀ {os:Nat→Option AO} {kk:F8},(Hp os).closed→(os n1).isSome=true→(os ny).isSome=true→(os nl).isSome=true→(os nf).isSome=true→(Hp (upd os bdL (some (.loop kk (tmE n1 ny nl nf))))).closed:=fun {os kk} hc h1 h2 h3 h4=>Cq hc (fun q hq=>by
      obtain ⟨_,e⟩:=hlq hq
      unfold upd
      split
      · rfl
      · rcases e with e | e | e | e <;> rw [e] <;> assumption)
    have hlv:=hY.live _ _ hi
    have key:(endB b x=false∧(endB b x=false∨(first=false∧endV b x=last)))∨(endB b x=true∧first=true∧¬ (endB b x=false∨(first=false∧endV b x=last)))∨(endB b x=true∧first=false∧endV b x=last∧(endB b x=false∨(first=false∧endV b x=last)))∨(endB b x=true∧first=false∧¬ endV b x=last∧¬ (endB b x=false∨(first=false∧endV b x=last))):=by
      cases he:endB b x with
      | false=>exact .inl ⟨rfl,.inl rfl⟩
      | true=>cases first with
        | true=>exact .inr (.inl ⟨rfl,rfl,by simp⟩)
        | false=>
                   by_cases hev:endV b x=last
                   · exact .inr (.inr (.inl ⟨rfl,rfl,hev,.inr ⟨rfl,hev⟩⟩))
                   · exact .inr (.inr (.inr ⟨rfl,rfl,hev,by simp [hev]⟩))
    rcases key with ⟨he,hC⟩ | ⟨he,hf,hC⟩ | ⟨he,hf,hev,hC⟩ | ⟨he,hf,hev,hC⟩
    all_goals
      first
        | (have hce:G2 Tryz.prog .eql 120 (Cn (cW (endV b x))) (Cn (cW last))=some (.pure (bl true)):=by rw [eqV (hpo he) hok,decide_eq_true hev])
        | (have hce:G2 Tryz.prog .eql 120 (Cn (cW (endV b x))) (Cn (cW last))=some (.pure (bl false)):=by rw [eqV (hpo he) hok,decide_eq_false hev])
        | (have hce:=he)
      cases (show some (_,_)=some (A,B) from hcode)
      have he:=he
      have hce:=hce
      first | (have hf:=hf) | (have hf:=he)
      show AWP _ _ 33 _ ⟨T [(10,avL b.vs.length x),(1,.ptr n1 0),(2,.ptr ny 0),(3,.ptr nl 0),(4,.ptr nf 0)],o1⟩ _
      refine Ac ?_
      simp (disch:=omega) only [hl,hfr0,Ad,Bw,amL,amT,sA,sB,sF,↓reduceIte]
      try simp (disch:=omega) only [hl,hfr0,Ad,Bw,amL,amT,sA,sB,sC,sD,sE,sF,sG,sH,sI,sJ,sK,sL,sM,sN,sO,↓reduceIte,reduceCtorEq]
      skip
      refine Ap ?_
      refine Aa fun K1 hK1=>?_
      refine Ac ?_
      simp (disch:=(first | assumption | omega)) only [a1,Ad,hf,amL,amT,sA,sB,sF,↓reduceIte]
      refine Cb (bd:=bd1+33) (by decide) (c_playE (b:=b) (x:=x) (nw:=nw) (m:=m) ⟨by simp (disch:=omega) only [Ad]; exact aw,by simp (disch:=omega) only [Ad]; exact am⟩ hv hx) (fun q hq=>by simp (disch:=omega) only [Ad]; exact hfree1 q (by omega)) (Nat.le_add_right _ _) (D1 _ _) ?_
      simp (disch:=(first | assumption | omega)) only [hfr0,Ad,Bw,Az,Aeb,he,amL,amT,sA,sB,sF,↓reduceIte]
      refine hK1 _ ?_
      refine Aa fun K2 hK2=>?_
      refine Aa fun K3 hK3=>?_
      refine Ac ?_
      simp (disch:=(first | assumption | omega)) only [al,af,Ad,Bq,Az,hce,hf,amL,amT,sA,sF,↓reduceIte]
      repeat' first | (refine E0 (fun h=>?_) (fun h=>?_) <;> simp (disch:=(first | assumption | omega)) only [h,a1,aw,am,ay,al,af,hl,hfr0,Ad,Bw,Bq,Az,Aeb,he,hce,hf,ne_eq,Wr,Aem,amL,amT,sA,sB,sC,sD,sE,sF,sG,sH,sI,sJ,sK,sL,sM,sN,sO,↓reduceIte,reduceCtorEq]) | (refine Cz (fun h=>?_) (fun h=>?_) <;> simp (disch:=(first | assumption | omega)) only [h,a1,aw,am,ay,al,af,hl,hfr0,Ad,Bw,Bq,Az,Aeb,he,hce,hf,ne_eq,Wr,Aem,amL,amT,sA,sB,sC,sD,sE,sF,sG,sH,sI,sJ,sK,sL,sM,sN,sO,↓reduceIte,reduceCtorEq])
      all_goals
       skip
       refine hK3 _ ?_
       refine Aj rfl (fun h=>MT.x ?_) (fun h=>ME.x ?_)
       all_goals
        first
        |refine MT.mk ?_
         first
         |exact Bool.noConfusion h
         |skip
          try simp only [] at h
          refine Bo ?_
          try simp (disch:=(first | assumption | omega)) only [hf]
          first
            | (try subst hf
               have hb:=bstE_no (step:=step) (s:=(s,last,_)) hC
               simp only [thenQ_exit,Sz,reduceIte,Wr]
               refine Rg o1 (by simp (disch:=omega) only [Ad,Bb]) (fun z=>?_) hcl1 ⟨by rw [hb] ; first | done | rfl,⟨by rw [hb]; exact ⟨hi,a1,⟨aw,am⟩,ay,al,af,hok⟩,by rw [hb]; exact hl⟩,fun _ _=>rfl⟩
               by_cases e1:z=bdL
               · subst e1; right; rw [Bb]; exact hl
               · by_cases e4:bd1≤z
                 · left; exact hfree1 z e4
                 · right; simp (disch:=omega) only [Ad])
            | (try subst hf
               have hst:(step s (endV b x)).2=false:=by assumption
               have hb:=bstE_ret (step:=step) (s:=(s,last,_)) hC hst
               dsimp only at hb
               refine Rg (upd (Dt bd1 os4) bdL (some (.loop (Alv _ (some .ret)) (tmE n1 ny nl nf)))) rL (fun z=>?_) (hclL hd4.1 (by rw [g1]; rfl) (by rw [gy]; rfl) (by rw [gl]; rfl) (by rw [gf]; rfl)) ⟨by rw [hb] ; first | done | rfl,⟨?_,by rw [hb,Bb]⟩,fun n hn=>?_⟩
               · by_cases e1:z=bdL
                 · subst e1; right; rw [Bb,Bb] ; first | done | rfl
                 · rw [Ad e1,Ad e1]; exact Ly bd1 os4 z
               · rw [hb]
                 exact ⟨hY.stable _ _ _ hd4.2.1 (fun q hq=>Ad (hF q hq).2.1),(Ad (by omega)).trans g1,⟨(Ad (by omega)).trans gw,(Ad (by omega)).trans gm⟩,(Ad (by omega)).trans gy,(Ad (by omega)).trans gl,(Ad (by omega)).trans gf,hok⟩
               · have e1:n≠bdL:=fun e=>hn (.inr e)
                 rw [Ad e1,gL n (fun h=>hn (.inl (.inl h))),Ad e1])
            | (try subst hf
               have hst:(step s (endV b x)).2=true:=by assumption
               have hb:=bstE_go (step:=step) (s:=(s,last,_)) hC hst
               dsimp only at hb
               refine Rg (upd (upd (upd (Dt bd1 os4) nl (some (.cells (cW (endV b x))))) nf (some (.cells [bl false]))) bdL (some (.loop (Alv _ none) (tmE n1 ny nl nf)))) (by simp (disch:=omega) only [Ad]; exact rL) (fun z=>?_) (hclL (F6 (D9 hd4.1) (by simp [AV.isP])) (by simp (disch:=omega) only [Ad]; rw [g1]; rfl) (by simp (disch:=omega) only [Ad]; rw [gy]; rfl) (by simp (disch:=omega) only [Ad,Bb,Option.isSome_some]) (by simp (disch:=omega) only [Bb,Option.isSome_some])) ⟨by rw [hb] ; first | done | rfl,⟨?_,by rw [hb,Bb]⟩,fun n hn=>?_⟩
               · by_cases e1:z=bdL
                 · subst e1; right; rw [Bb,Bb] ; first | done | rfl
                 · by_cases e2:z=nf
                   · subst e2; right; simp (disch:=omega) only [Ad,Bb]
                   · by_cases e3:z=nl
                     · subst e3; right; simp (disch:=omega) only [Ad,Bb] ; first | done | rfl | (rw [B7 (by omega)])
                     · rw [Ad e1,Ad e2,Ad e3]
                       rcases Ly bd1 os4 z with h0 | h0
                       · exact .inl h0
                       · right; rw [h0]; simp (disch:=omega) only [Ad]
               · rw [hb]
                 exact ⟨hY.stable _ _ _ hd4.2.1 (fun q hq=>by obtain ⟨_,_,_,_⟩:=hF q hq; simp (disch:=omega) only [Ad]),by simp (disch:=omega) only [Ad]; exact g1,⟨by simp (disch:=omega) only [Ad]; exact gw,by simp (disch:=omega) only [Ad]; exact gm⟩,by simp (disch:=omega) only [Ad]; exact gy,by simp (disch:=omega) only [Ad,Bb],by simp (disch:=omega) only [Ad,Bb],hpo he⟩
               · have e1:n≠bdL:=fun e=>hn (.inr e)
                 have e2:n≠nl:=fun e=>hn (.inl (by unfold FE; omega))
                 have e3:n≠nf:=fun e=>hn (.inl (by unfold FE; omega))
                 rw [Ad e1,Ad e3,Ad e2,gL n (fun h=>hn (.inl (.inl h))),Ad e1])
        |refine ME.mk ?_
         first
         |exact Bool.noConfusion h
         |skip
          try simp only [] at h
          refine Ak ?_
          refine hK2 _ ?_
       all_goals
        skip
        refine Aa fun K4 hK4=>?_
        refine Aa fun K5 hK5=>?_
        refine Ac ?_
        simp (disch:=(first | assumption | omega)) only [ay,Ad,Bq,Az,hf,amL,amT,sA,sF,↓reduceIte]
        have hcall:=fun os h1 h2=>hY.call s (endV b x) os (bd1+33) (hL x hx he) hg h1 h2
        refine A1 [(1,.ptr n1 0),(2,.ptr ny 0),(3,.ptr nl 0),(4,.ptr nf 0),(6,.ptr (bd1+6) 0)] (by decide) (hcall _ (hY.stable _ _ _ hi (fun q hq=>by obtain ⟨_,_,_,_⟩:=hF q hq; simp (disch:=omega) only [Ad])) (D9 (hclL (F6 hcl1 (by simp [AV.isP])) (by simp (disch:=omega) only [Ad,a1,Option.isSome_some]) (by simp (disch:=omega) only [Ad,ay,Option.isSome_some]) (by simp (disch:=omega) only [Ad,al,Option.isSome_some]) (by simp (disch:=omega) only [Ad,af,Option.isSome_some])))) (fun q hq=>by simp (disch:=omega) only [Ad]; exact hfree1 q (by omega)) (Nat.le_add_right _ _) (fun res os4 hR hcl4 hlv4=>?_)
        obtain ⟨rfl,hI4,hfr4⟩:=hR
        have r1:os4 n1=some (.cells [.ptr nw 0]):=(hfr4 n1 f1).trans (by simp (disch:=omega) only [Ad]; exact a1)
        have rw':os4 nw=some (.cells [.p (slV b.vs),.p (slS b.ss),.mp m]):=(hfr4 nw fw).trans (by simp (disch:=omega) only [Ad]; exact aw)
        have rm:os4 m=some (.obj (Gb 14 (Sl b.vs))):=(hfr4 m fm).trans (by simp (disch:=omega) only [Ad]; exact am)
        have ry:os4 ny=some (.cells [yv]):=(hfr4 ny fy).trans (by simp (disch:=omega) only [Ad]; exact ay)
        have rl':os4 nl=some (.cells (cW last)):=(hfr4 nl fl).trans (by simp (disch:=omega) only [Ad]; exact al)
        have rf:os4 nf=some (.cells [bl first]):=(hfr4 nf ff).trans (by simp (disch:=omega) only [Ad]; exact af)
        have r6:os4 (bd1+6)=some (.cells (cW (endV b x))):=(hfr4 (bd1+6) (fun h=>by have:=(hF _ h).1; omega)).trans Bb
        have rL:os4 bdL=_:=(hfr4 bdL fL).trans ((Ad (by omega)).trans Bb)
        have hd4:=hY.drop (bd:=bd1) (os:=upd o1 bdL (os4 bdL)) (os2:=os4) (by rw [rL]; exact hclL hcl1 (by rw [a1]; rfl) (by rw [ay]; rfl) (by rw [al]; rfl) (by rw [af]; rfl)) (fun q hq=>(Ad (by omega)).trans (hfree1 q hq)) (hY.stable _ _ _ hi (fun q hq=>Ad (hF q hq).2.1)) hI4 (fun q hq1 hq2=>by
          by_cases e:q=bdL
          · subst e; rw [Bb]
          · rw [Ad e]; exact (hfr4 q hq2).trans (by simp (disch:=omega) only [Ad]))
        have g1:=(Fv b1).trans r1
        have gw:=(Fv bw).trans rw'
        have gm:=(Fv bm).trans rm
        have gy:=(Fv b2).trans ry
        have gl:=(Fv b3).trans rl'
        have gf:=(Fv b4).trans rf
        have gL:=hd4.2.2
        simp (disch:=(first | assumption | omega)) only [amL,sA,sF,↓reduceIte]
        refine ⟨⟨by rw [r1]; rfl,by rw [ry]; rfl,by rw [rl']; rfl,by rw [rf]; rfl,by rw [r6]; rfl⟩,?_⟩
        refine hK5 _ ?_
        refine Aj rfl (fun h=>MT.x ?_) (fun h=>ME.x ?_)
        all_goals
         first
         |refine MT.mk ?_
          first
          |exact Bool.noConfusion h
          |skip
           try simp only [nrm] at h
           refine Ah ?_
           try simp (disch:=(first | assumption | omega)) only [hf,Aem,amL]
           first
             | (try subst hf
                have hb:=bstE_no (step:=step) (s:=(s,last,_)) hC
                simp only [thenQ_exit,Sz,reduceIte,Wr]
                refine Rg o1 (by simp (disch:=omega) only [Ad,Bb]) (fun z=>?_) hcl1 ⟨by rw [hb] ; first | done | rfl,⟨by rw [hb]; exact ⟨hi,a1,⟨aw,am⟩,ay,al,af,hok⟩,by rw [hb]; exact hl⟩,fun _ _=>rfl⟩
                by_cases e1:z=bdL
                · subst e1; right; rw [Bb]; exact hl
                · by_cases e4:bd1≤z
                  · left; exact hfree1 z e4
                  · right; simp (disch:=omega) only [Ad])
             | (try subst hf
                have hst:(step s (endV b x)).2=false:=by assumption
                have hb:=bstE_ret (step:=step) (s:=(s,last,_)) hC hst
                dsimp only at hb
                refine Rg (upd (Dt bd1 os4) bdL (some (.loop (Alv _ (some .ret)) (tmE n1 ny nl nf)))) rL (fun z=>?_) (hclL hd4.1 (by rw [g1]; rfl) (by rw [gy]; rfl) (by rw [gl]; rfl) (by rw [gf]; rfl)) ⟨by rw [hb] ; first | done | rfl,⟨?_,by rw [hb,Bb]⟩,fun n hn=>?_⟩
                · by_cases e1:z=bdL
                  · subst e1; right; rw [Bb,Bb] ; first | done | rfl
                  · rw [Ad e1,Ad e1]; exact Ly bd1 os4 z
                · rw [hb]
                  exact ⟨hY.stable _ _ _ hd4.2.1 (fun q hq=>Ad (hF q hq).2.1),(Ad (by omega)).trans g1,⟨(Ad (by omega)).trans gw,(Ad (by omega)).trans gm⟩,(Ad (by omega)).trans gy,(Ad (by omega)).trans gl,(Ad (by omega)).trans gf,hok⟩
                · have e1:n≠bdL:=fun e=>hn (.inr e)
                  rw [Ad e1,gL n (fun h=>hn (.inl (.inl h))),Ad e1])
             | (try subst hf
                have hst:(step s (endV b x)).2=true:=by assumption
                have hb:=bstE_go (step:=step) (s:=(s,last,_)) hC hst
                dsimp only at hb
                refine Rg (upd (upd (upd (Dt bd1 os4) nl (some (.cells (cW (endV b x))))) nf (some (.cells [bl false]))) bdL (some (.loop (Alv _ none) (tmE n1 ny nl nf)))) (by simp (disch:=omega) only [Ad]; exact rL) (fun z=>?_) (hclL (F6 (D9 hd4.1) (by simp [AV.isP])) (by simp (disch:=omega) only [Ad]; rw [g1]; rfl) (by simp (disch:=omega) only [Ad]; rw [gy]; rfl) (by simp (disch:=omega) only [Ad,Bb,Option.isSome_some]) (by simp (disch:=omega) only [Bb,Option.isSome_some])) ⟨by rw [hb] ; first | done | rfl,⟨?_,by rw [hb,Bb]⟩,fun n hn=>?_⟩
                · by_cases e1:z=bdL
                  · subst e1; right; rw [Bb,Bb] ; first | done | rfl
                  · by_cases e2:z=nf
                    · subst e2; right; simp (disch:=omega) only [Ad,Bb]
                    · by_cases e3:z=nl
                      · subst e3; right; simp (disch:=omega) only [Ad,Bb] ; first | done | rfl | (rw [B7 (by omega)])
                      · rw [Ad e1,Ad e2,Ad e3]
                        rcases Ly bd1 os4 z with h0 | h0
                        · exact .inl h0
                        · right; rw [h0]; simp (disch:=omega) only [Ad]
                · rw [hb]
                  exact ⟨hY.stable _ _ _ hd4.2.1 (fun q hq=>by obtain ⟨_,_,_,_⟩:=hF q hq; simp (disch:=omega) only [Ad]),by simp (disch:=omega) only [Ad]; exact g1,⟨by simp (disch:=omega) only [Ad]; exact gw,by simp (disch:=omega) only [Ad]; exact gm⟩,by simp (disch:=omega) only [Ad]; exact gy,by simp (disch:=omega) only [Ad,Bb],by simp (disch:=omega) only [Ad,Bb],hpo he⟩
                · have e1:n≠bdL:=fun e=>hn (.inr e)
                  have e2:n≠nl:=fun e=>hn (.inl (by unfold FE; omega))
                  have e3:n≠nf:=fun e=>hn (.inl (by unfold FE; omega))
                  rw [Ad e1,Ad e3,Ad e2,gL n (fun h=>hn (.inl (.inl h))),Ad e1])
         |refine ME.mk ?_
          first
          |exact Bool.noConfusion h
          |skip
           try simp only [nrm] at h
           refine Ak ?_
           refine hK4 _ ?_
        all_goals
         skip
         refine Ac ?_
         simp (disch:=(first | assumption | omega)) only [rl',rf,r6,Bq,Az,Ad,Bq,Az,hf,Wr,amL,amT,sF,↓reduceIte]
         try simp (disch:=(first | assumption | omega)) only [a1,aw,am,ay,al,af,hl,hfr0,Ad,Bw,Bq,Az,Aeb,he,hce,hf,ne_eq,Wr,Aem,amL,amT,sA,sB,sC,sD,sE,sF,sG,sH,sI,sJ,sK,sL,sM,sN,sO,↓reduceIte,reduceCtorEq]
         first
           | (try subst hf
              have hb:=bstE_no (step:=step) (s:=(s,last,_)) hC
              simp only [thenQ_exit,Sz,reduceIte,Wr]
              refine Rg o1 (by simp (disch:=omega) only [Ad,Bb]) (fun z=>?_) hcl1 ⟨by rw [hb] ; first | done | rfl,⟨by rw [hb]; exact ⟨hi,a1,⟨aw,am⟩,ay,al,af,hok⟩,by rw [hb]; exact hl⟩,fun _ _=>rfl⟩
              by_cases e1:z=bdL
              · subst e1; right; rw [Bb]; exact hl
              · by_cases e4:bd1≤z
                · left; exact hfree1 z e4
                · right; simp (disch:=omega) only [Ad])
           | (try subst hf
              have hst:(step s (endV b x)).2=false:=by assumption
              have hb:=bstE_ret (step:=step) (s:=(s,last,_)) hC hst
              dsimp only at hb
              refine Rg (upd (Dt bd1 os4) bdL (some (.loop (Alv _ (some .ret)) (tmE n1 ny nl nf)))) rL (fun z=>?_) (hclL hd4.1 (by rw [g1]; rfl) (by rw [gy]; rfl) (by rw [gl]; rfl) (by rw [gf]; rfl)) ⟨by rw [hb] ; first | done | rfl,⟨?_,by rw [hb,Bb]⟩,fun n hn=>?_⟩
              · by_cases e1:z=bdL
                · subst e1; right; rw [Bb,Bb] ; first | done | rfl
                · rw [Ad e1,Ad e1]; exact Ly bd1 os4 z
              · rw [hb]
                exact ⟨hY.stable _ _ _ hd4.2.1 (fun q hq=>Ad (hF q hq).2.1),(Ad (by omega)).trans g1,⟨(Ad (by omega)).trans gw,(Ad (by omega)).trans gm⟩,(Ad (by omega)).trans gy,(Ad (by omega)).trans gl,(Ad (by omega)).trans gf,hok⟩
              · have e1:n≠bdL:=fun e=>hn (.inr e)
                rw [Ad e1,gL n (fun h=>hn (.inl (.inl h))),Ad e1])
           | (try subst hf
              have hst:(step s (endV b x)).2=true:=by assumption
              have hb:=bstE_go (step:=step) (s:=(s,last,_)) hC hst
              dsimp only at hb
              refine Rg (upd (upd (upd (Dt bd1 os4) nl (some (.cells (cW (endV b x))))) nf (some (.cells [bl false]))) bdL (some (.loop (Alv _ none) (tmE n1 ny nl nf)))) (by simp (disch:=omega) only [Ad]; exact rL) (fun z=>?_) (hclL (F6 (D9 hd4.1) (by simp [AV.isP])) (by simp (disch:=omega) only [Ad]; rw [g1]; rfl) (by simp (disch:=omega) only [Ad]; rw [gy]; rfl) (by simp (disch:=omega) only [Ad,Bb,Option.isSome_some]) (by simp (disch:=omega) only [Bb,Option.isSome_some])) ⟨by rw [hb] ; first | done | rfl,⟨?_,by rw [hb,Bb]⟩,fun n hn=>?_⟩
              · by_cases e1:z=bdL
                · subst e1; right; rw [Bb,Bb] ; first | done | rfl
                · by_cases e2:z=nf
                  · subst e2; right; simp (disch:=omega) only [Ad,Bb]
                  · by_cases e3:z=nl
                    · subst e3; right; simp (disch:=omega) only [Ad,Bb] ; first | done | rfl | (rw [B7 (by omega)])
                    · rw [Ad e1,Ad e2,Ad e3]
                      rcases Ly bd1 os4 z with h0 | h0
                      · exact .inl h0
                      · right; rw [h0]; simp (disch:=omega) only [Ad]
              · rw [hb]
                exact ⟨hY.stable _ _ _ hd4.2.1 (fun q hq=>by obtain ⟨_,_,_,_⟩:=hF q hq; simp (disch:=omega) only [Ad]),by simp (disch:=omega) only [Ad]; exact g1,⟨by simp (disch:=omega) only [Ad]; exact gw,by simp (disch:=omega) only [Ad]; exact gm⟩,by simp (disch:=omega) only [Ad]; exact gy,by simp (disch:=omega) only [Ad,Bb],by simp (disch:=omega) only [Ad,Bb],hpo he⟩
              · have e1:n≠bdL:=fun e=>hn (.inr e)
                have e2:n≠nl:=fun e=>hn (.inl (by unfold FE; omega))
                have e3:n≠nf:=fun e=>hn (.inl (by unfold FE; omega))
                rw [Ad e1,Ad e3,Ad e2,gL n (fun h=>hn (.inl (.inl h))),Ad e1])
def endsF (b:Ee):List Liq→Bool→List (List Int)→List (List Liq)
 | _,_,[]=>[]
 | last,first,x :: l=>if endB b x=false∨(first=false∧endV b x=last) then endsF b last first l else endV b x :: endsF b (endV b x) false l
def endsL (b:Ee):List (List Liq):=endsF b v0 true (listsR (Fz b) [])
theorem allS_E {σ:Type} {b:Ee} {step:σ→List Liq→σ × Bool}:∀ (l:List (List Int)) (s:σ) (last:List Liq) (first:Bool),
  (Fm (fun (s:(σ × List Liq × Bool) × Option Code) x=>(bstE b step s.1 x,(bstE b step s.1 x).2.isNone)) ((s,last,first),none) l).1.1.1=(Fm step s (endsF b last first l)).1 ∧
  ((Fm (fun (s:(σ × List Liq × Bool) × Option Code) x=>(bstE b step s.1 x,(bstE b step s.1 x).2.isNone)) ((s,last,first),none) l).1.2=none∨(Fm (fun (s:(σ × List Liq × Bool) × Option Code) x=>(bstE b step s.1 x,(bstE b step s.1 x).2.isNone)) ((s,last,first),none) l).1.2=some .ret)
 | [],s,last,first=>⟨rfl,.inl rfl⟩
 | x :: l,s,last,first=>by
  by_cases hC:endB b x=false∨(first=false∧endV b x=last)
  ·have hb:=bstE_no (step:=step) (s:=(s,last,first)) hC
   simp only [Fm,hb,Option.isNone_none,if_true,endsF,if_pos hC]
   exact allS_E l s last first
  ·cases hs:(step s (endV b x)).2 with
   | true=>
    have hb:=bstE_go (step:=step) (s:=(s,last,first)) hC hs
    simp only [Fm,hb,Option.isNone_none,if_true,endsF,if_neg hC,hs]
    exact allS_E l _ _ _
   | false=>
    have hb:=bstE_ret (step:=step) (s:=(s,last,first)) hC hs
    simp only [Fm,hb,Option.isNone_some,Bool.false_eq_true,if_false,endsF,if_neg hC,hs]
    exact ⟨trivial,.inr trivial⟩
theorem rngs_ok {b:Ee} (hv:N6 b):∀ r ∈ Fz b,0≤r.lo∧r.lo≤r.hi∧r.hi≤1000:=by
 intro r hr
 unfold Fz at hr
 simp only [List.mem_append,List.mem_map] at hr
 rcases hr with (⟨v,h1,rfl⟩ | ⟨v,h1,rfl⟩) | ⟨s,h1,rfl⟩
 ·have h:=C8 (C9 (List.all_eq_true.1 hv.v v h1)).1
  omega
 ·have h:=C8 (C9 (List.all_eq_true.1 hv.v v h1)).2.1
  omega
 ·have h:=C8 (Fy (List.all_eq_true.1 hv.s s h1)).2.2.2.2
  omega
abbrev osE (os:Nat→Option AO) (bd:Nat) (b:Ee) (yv:AV):Nat→Option AO:=
 upd (upd (upd (upd (upd os (bd+2) (some (.cells [yv]))) (bd+3) (some (.cells (cW v0)))) (bd+4) (some (.cells [bl true]))) (bd+33+3) (some (.cells [.p (.sl ((Fz b).map H9))]))) (bd+33+4) (some (.cells [i64 b.vs.length]))
theorem c_endsY {b:Ee} {yv:AV} {F:Nat→Prop} {σ:Type} {L:List (List Liq)} {go:σ→Prop} {I:σ→(Nat→Option AO)→Prop} {step:σ→List Liq→σ × Bool} (hY:Ag6 Tryz.prog yv F avW L go I step) (hcs:yv.cs?=some [yv]) (hL:∀ x ∈ listsR (Fz b) [],endB b x=true→endV b x ∈ L) (hv:N6 b) (own:∀ q,yv.clean q=false→F q) {n1 nw m:Nat} (f1:¬ F n1) (fw:¬ F nw) (fm:¬ F m) {s:σ} {os:Nat→Option AO} {bd:Nat} (o1:os n1=some (.cells [.ptr nw 0])) (hW:Wk b.vs b.ss nw m os) (hg:go s) (hI:I s os) :
  Bg Tryz.prog bd (.fn (.func 109) [] [.ptr n1 0]) [yv] os fun res os'=>res=.tup []∧I (Fm step s (endsL b)).1 os'∧∀ n,¬ F n→os' n=os n:=by
 refine Xp (v:=[110]) (q:=[]) (N:=33) (rs:=[]) Tryz.func109 rfl (by kernel_rfl) rfl rfl (fun hcl hfree=>?_)
 have hfr0:∀ k,os (bd+k)=none:=fun k=>hfree _ (by omega)
 have ow:=hW.ow
 have om:=hW.om
 have b1:=Ao hfree o1
 have bw:=Ao hfree ow
 have bm:=Ao hfree om
 have hF:∀ q,F q→q < bd:=fun q hq=>by obtain ⟨o,h,_⟩:=hY.foot s os q hI hq; exact Ao hfree h
 have hFb:∀ k,¬ F (bd+k):=fun k h=>by have:=hF _ h; omega
 have hlv:=hY.live _ _ hI
 have hnv:=hv.nv
 have hns:=hv.ns
 obtain ⟨A,B,hcode⟩:∃ A B,(Tryz.f109.body.bind Nt)=some (A,B):=⟨_,_,rfl⟩
 have hRd:=rounds_e (step:=step) (n1:=n1) (nw:=nw) (m:=m) (ny:=bd+2) (nl:=bd+3) (nf:=bd+4) (bdL:=bd+40) hY hL hv own f1 fw fm (hFb 2) (hFb 3) (hFb 4) (hFb 40) (by omega) (by omega) (by omega) (by omega) (by omega) (by omega) hcode
 refine Lm fun K1 hK1=>?_
 refine Ac ?_
 simp (disch:=(first | assumption | omega)) only [hfr0,hcs,amL,sA,sB,↓reduceIte]
 refine hK1 _ ?_
 refine Lm fun K2 hK2=>?_
 refine Ac ?_
 simp (disch:=(first | assumption | omega)) only [hfr0,Ad,amL,amT,sA,sB,↓reduceIte]
 refine hK2 _ ?_
 refine Lm fun K3 hK3=>?_
 refine Ac ?_
 simp (disch:=(first | assumption | omega)) only [hfr0,Ad,Bw,amL,amT,sA,↓reduceIte]
 refine hK3 _ ?_
 refine Lm fun K4 hK4=>?_
 refine Ac ?_
 simp (disch:=(first | assumption | omega)) only [o1,Ad,amL,amT,sA,sF,↓reduceIte,reduceCtorEq]
 refine A1 [(1,.ptr n1 0),(2,.ptr (bd+2) 0),(3,.ptr (bd+3) 0),(4,.ptr (bd+4) 0)] (by decide) (c_truths (b:=b) (nw:=nw) (m:=m) (bd:=bd+33) (by omega) (by omega) (by simp (disch:=omega) only [Ad]; exact ow)) (fun q hq=>by simp (disch:=omega) only [Ad]; exact hfree q (by omega)) (Nat.le_add_right _ _) (fun res os2 hR hcl2 hlv2=>?_)
 obtain ⟨rfl,rfl⟩:=hR
 simp (disch:=(first | assumption | omega)) only [o1,Ad,amL,sF,↓reduceIte,reduceCtorEq]
 refine hK4 _ ?_
 refine T6 ?_
 have hI0:EnI b yv I n1 nw m (bd+2) (bd+3) (bd+4) (s,v0,true) (upd (osE os bd b yv) (bd+40) (some (.loop ⟨33,[10],A,B,.ready,none⟩ (tmE n1 (bd+2) (bd+3) (bd+4))))):=⟨hY.stable _ _ _ hI (fun q hq=>by have:=hF q hq; simp (disch:=omega) only [Ad]),by simp (disch:=omega) only [Ad]; exact o1,⟨by simp (disch:=omega) only [Ad]; exact ow,by simp (disch:=omega) only [Ad]; exact om⟩,by simp (disch:=omega) only [Ad,Bb],by simp (disch:=omega) only [Ad,Bb],by simp (disch:=omega) only [Ad,Bb],Ala⟩
 have hnF:∀ k,k=36∨k=37→¬ (FE F n1 nw m (bd+2) (bd+3) (bd+4) (bd+k)∨bd+k=bd+40):=fun k hk h=>by
  rcases h with h | h
  ·unfold FE at h
   rcases h with h | h
   ·exact hFb k h
   ·omega
  ·omega
 have hc:=c_truthsY hRd.yields rfl (rngs_ok hv) (by rw [Qo]; omega) (by rw [Qo]; omega) (nr:=bd+33+3) (nk:=bd+33+4) (s:=((s,v0,true),none)) (bd:=bd+41) (os:=upd (osE os bd b yv) (bd+40) (some (.loop ⟨33,[10],A,B,.ready,none⟩ (tmE n1 (bd+2) (bd+3) (bd+4))))) (hnF 36 (.inl rfl)) (hnF 37 (.inr rfl)) (by simp (disch:=omega) only [Ad,Bb]) (by simp (disch:=omega) only [Ad,Bb]) ⟨rfl,hg⟩ ⟨hI0,Bb⟩
 cases (show some (_,_)=some (A,B) from hcode)
 refine Mg (bd:=bd+40) (tm:=tmE n1 (bd+2) (bd+3) (bd+4)) rfl (fun q hq=>by simp (disch:=omega) only [Ad]; exact hfree q (by omega)) (by simp only []; omega) rfl (by kernel_rfl) (fun i=>Z1 (by simp (disch:=(first | assumption | omega)) only [amL,sF,↓reduceIte]) i) (Aw4 (by simp (disch:=(first | assumption | omega)) only [amL,sF,↓reduceIte])) hc (fun res os2 hR hcl2=>?_)
 obtain ⟨rfl,hI2,hfr2⟩:=hR
 obtain ⟨e1,e2⟩:=allS_E (b:=b) (step:=step) (listsR (Fz b) []) s v0 true
 have hfin:∀ X,Ado Tryz.prog [] (fun res os'=>res=.tup []∧I (Fm step s (endsL b)).1 os'∧∀ n,¬ F n→os' n=os n) ⟨T (tmE n1 (bd+2) (bd+3) (bd+4)),upd os2 (bd+40) X⟩:=fun X=>by
  have hI3:=hI2.1.i
  rw [e1] at hI3
  have hd:=hY.drop (bd:=bd) hcl hfree hI hI3 (fun q hq1 hq2=>by
   by_cases c1:q=n1
   ·rw [c1,hI2.1.w1,o1]
   ·by_cases c2:q=nw
    ·rw [c2,hI2.1.wk.ow,ow]
    ·by_cases c3:q=m
     ·rw [c3,hI2.1.wk.om,om]
     ·rw [hfr2 q (fun h=>by
       rcases h with h | h
       ·unfold FE at h
        rcases h with h | h
        ·exact hq2 h
        ·omega
       ·omega)]
      simp (disch:=omega) only [Ad])
  exact A3 (res:=.tup []) (Dt bd os2) rfl (fun n=>by
   by_cases e:n=bd+40
   ·left; rw [e]; exact Sg (by omega)
   ·show Dt bd os2 n=none∨Dt bd os2 n=upd os2 (bd+40) X n
    rw [Ad e]; exact Ly bd os2 n) hd.1 (A5 _ rfl) ⟨rfl,hd.2.1,hd.2.2⟩
 rcases e2 with e2 | e2
 ·refine ⟨_,hI2.2,by rw [e2]; simp [],?_⟩
  rw [e2]
  exact hfin _
 ·refine ⟨_,hI2.2,by rw [e2]; simp [],?_⟩
  rw [e2]
  exact hfin _
theorem c_wider (r:Rng) (n:Int) (first:Bool):Bt Tryz.prog 72 [avR r,i64 n,bl first] (avR (widR r n first)):=by
  refine Bn (v:=[]) (q:=[]) (N:=21) (rs:=[.cell 6 58]) Tryz.func72 rfl rfl rfl rfl rfl ?_
  refine Aa fun K1 hK1=>?_
  refine Ac ?_
  simp (disch:=omega) only [amL,amT,sA,sB,sF,↓reduceIte]
  refine hK1 _ ?_
  refine Aa fun K2 hK2=>?_
  refine Aa fun K3 hK3=>?_
  refine Ac ?_
  simp (disch:=omega) only [amL,sA,sF,↓reduceIte,reduceCtorEq]
  refine hK3 _ ?_
  refine Aj rfl (fun h=>?_) (fun h=>?_)
  ·first
   | exact Bool.noConfusion h
   |skip
    try simp only [Bool.not_eq_true',decide_eq_true_eq,decide_eq_false_iff_not,Bool.and_eq_true,Bool.not_eq_false',Bool.not_not,decide_not,Bool.not_true,Bool.not_false] at h
    refine Aa fun K4 hK4=>?_
    refine Ac ?_
    simp (disch:=omega) only [amL,amT,sA,sB,sE,sF,↓reduceIte,reduceCtorEq]
    refine hK4 _ ?_
    refine Ah ?_
    try simp (disch:=omega) only [amL,amT,sB,sF,↓reduceIte]
    all_goals first | (rw [show first=true by assumption]; rfl) | (rw [show first=false by assumption]; rfl) | trace_state
  ·first
   | exact Bool.noConfusion h
   |skip
    try simp only [Bool.not_eq_true',decide_eq_true_eq,decide_eq_false_iff_not,Bool.and_eq_true,Bool.not_eq_false',Bool.not_not,decide_not,Bool.not_true,Bool.not_false] at h
    refine Ak ?_
    refine hK2 _ ?_
    refine Aa fun K5 hK5=>?_
    refine Ce (by kernel_rfl) (by kernel_rfl) ?_
    simp (disch:=omega) only [amL,amT,sA,sB,sE,sF,↓reduceIte,reduceCtorEq]
    repeat' first | (refine Aw (by kernel_rfl) rfl (Xk _ _) (by first | exact .inl rfl | exact .inr (.inl rfl)) ?_ ; simp (disch:=omega) only [amL,amT,sA,sB,sE,sF,↓reduceIte,reduceCtorEq])
    refine hK5 _ ?_
    refine Ah ?_
    try simp (disch:=omega) only [amL,amT,sB,sF,↓reduceIte]
    all_goals first | (rw [show first=true by assumption]; rfl) | (rw [show first=false by assumption]; rfl) | trace_state
theorem encBn_getD {l:List Bnd} {k:Nat} (h:k < l.length):(l.map encBn).getD k []=encBn (l.getD k default):=by
  simp [List.getD,h]
theorem encBn_eq (x:Bnd):encBn x=[iv x.g.lo,iv x.g.hi,iv x.e.lo,iv x.e.hi,iv x.k.lo,iv x.k.hi]:=rfl
theorem set_encBn {l:List Bnd} {i:Nat} {a b c d e f:Int}:(l.map encBn).set i [iv a,iv b,iv c,iv d,iv e,iv f]=(l.set i ⟨⟨a,b⟩,⟨c,d⟩,⟨e,f⟩⟩).map encBn:=(List.map_set (f:=encBn) (a:=⟨⟨a,b⟩,⟨c,d⟩,⟨e,f⟩⟩)).symm
theorem ldLi {x:List Liq} {i:Nat} (h:i < x.length):(if 2≤(List.drop (i * 2) (cW x)).length then some (AV.agg (List.take 2 (List.drop (i * 2) (cW x)))) else none)=some (.agg [i64 (x.getD i default).g,i64 (x.getD i default).e]):=by
  rw [Ca h]; simp
def bndF (v:List Liq) (f:Bool) (l:List Bnd):Nat→List Bnd
  | 0=>l
  | i+1=>(bndF v f l i).set i (widB ((bndF v f l i).getD i default) (v.getD i default) (Qd (v.getD i default)) f)
theorem bndF_len {v:List Liq} {f:Bool} {l:List Bnd}:∀ i,(bndF v f l i).length=l.length
  | 0=>rfl
  | i+1=>by simp only [bndF,List.length_set]; exact bndF_len i
abbrev tmB (n5 n6:Nat):List (Nat × AV):=[(5,.ptr n5 0),(6,.ptr n6 0)]
structure BnI (n n5 n6 nA:Nat) (s:List Bnd × Bool) (os:Nat→Option AO):Prop where
  o:os n5=some (.cells [.own nA n])
  a:os nA=some (.arr 6 (s.1.map encBn))
  f:os n6=some (.cells [bl s.2])
  len:s.1.length=n
def bstB (n:Nat) (s:List Bnd × Bool) (v:List Liq):(List Bnd × Bool) × Option Code:=((bndF v s.2 s.1 n,false),none)
theorem sub_b {o1 X:Nat→Option AO} {nA bdL b7:Nat} {LP:Option AO} {es:List (List PV)} {c:List AV} (h1:b7≠nA) (h2:b7≠bdL) (h3:nA≠bdL) (x7:X b7=some (.cells c)) (xA:X nA=some (.arr 6 es)) (xL:X bdL=LP) (hX:∀ q,q≠b7→q≠nA→q≠bdL→X q=o1 q):Sub (upd (upd (upd o1 bdL LP) nA (some (.arr 6 es))) b7 (some (.cells c))) X:=fun q=>by
  right
  by_cases e7:q=b7
  · subst e7; rw [Bb,x7]
  · by_cases eA:q=nA
    · subst eA; rw [Ad e7,Bb,xA]
    · by_cases eL:q=bdL
      · subst eL; rw [Ad e7,Ad eA,Bb,xL]
      · rw [Ad e7,Ad eA,Ad eL,hX q e7 eA eL]
theorem rounds_b {L:List (List Liq)} {n n5 n6 nA bdL:Nat} (hn:n≤4) (hL:∀ v ∈ L,OkV v) (d1:n5 < n6) (d2:n6 < nA) (d3:nA < bdL) {A B:Code} (hcode:(Tryz.f24.body.bind Nt)=some (A,B)) :
    Zp Tryz.prog bdL ⟨67,[22],A,B,.ready,none⟩ (tmB n5 n6) [] [] (fun q=>q=n5∨q=n6∨q=nA) avW L (BnI n n5 n6 nA) (bstB n) where
  ready:=rfl
  lenp:=rfl
  psn q hq:=by
    simp only [List.mem_cons,List.not_mem_nil,or_false] at hq
    subst hq; exact (by decide:22 < 67)
  notF h:=by omega
  tmF q hq:=by
    simp [AO.clean,AV.clean,AV.clean.cleanL] at hq
    omega
  stable s o1 o2 hI he:=⟨(he n5 (by omega)).trans hI.o,(he nA (by omega)).trans hI.a,(he n6 (by omega)).trans hI.f,hI.len⟩
  foot s o1 q hI hq:=by
    rcases hq with rfl | rfl | rfl
    · exact ⟨_,hI.o,fun m hm=>by simp [AO.clean,AV.clean,AV.clean.cleanL] at hm; omega⟩
    · exact ⟨_,hI.f,fun m hm=>by simp [AO.clean,AV.clean,AV.clean.cleanL] at hm⟩
    · exact ⟨_,hI.a,fun m hm=>by simp [AO.clean] at hm⟩
  body s x o1 bd1 hx hI hl hcl1 hfree1 hb1 rl:=by
    obtain ⟨l,f⟩:=s
    obtain ⟨a5,aA,a6,hlen⟩:=hI
    dsimp only at aA a6 hlen
    have hok:=hL x hx
    have hx4:=hok.len
    have hsm:=hok.small
    have hfr0:∀ k,o1 (bd1+k)=none:=fun k=>hfree1 _ (by omega)
    obtain ⟨LP,hLP⟩:∃ LP:Option AO,LP=some (.loop ⟨67,[22],A,B,.busy,none⟩ (tmB n5 n6)):=⟨_,rfl⟩
    have b5:=Ao hfree1 a5
    have b6:=Ao hfree1 a6
    have bA:=Ao hfree1 aA
    have hclL:∀ {os:Nat→Option AO} {kk:F8},(Hp os).closed→(os n5).isSome=true→(os n6).isSome=true→(Hp (upd os bdL (some (.loop kk (tmB n5 n6))))).closed:=fun {os kk} hc h1 h2=>Cq hc (fun q hq=>by
      have e:q=n5∨q=n6:=by
        simp [AO.clean,AV.clean,AV.clean.cleanL] at hq; omega
      unfold upd
      split
      · rfl
      · rcases e with e | e <;> rw [e] <;> assumption)
    have hcl2:(Hp (upd o1 bdL LP)).closed:=by rw [hLP]; exact hclL hcl1 (by rw [a5]; rfl) (by rw [a6]; rfl)
    cases (show some (_,_)=some (A,B) from hcode)
    show AWP _ _ 67 _ ⟨T [(22,avW x),(5,.ptr n5 0),(6,.ptr n6 0)],o1⟩ _
    refine Ac ?_
    simp (disch:=(first | assumption | omega)) only [hl,hfr0,Ad,Bw,Az,Aeb,amL,amT,sA,sB,sF,↓reduceIte]
    try simp (disch:=(first | assumption | omega)) only [hl,hfr0,Ad,Bw,Bq,Az,Aeb,amL,amT,sA,sB,sC,sD,sE,sF,sG,sH,sI,sJ,sK,sL,sM,sN,sO,↓reduceIte,reduceCtorEq]
    skip
    refine Ap ?_
    refine Aa fun K1 hK1=>?_
    refine Aa fun K2 hK2=>?_
    refine Ac ?_
    simp (disch:=(first | assumption | omega)) only [a5,Ad,amL,amT,sA,sF,↓reduceIte]
    refine hK2 _ ?_
    refine Ap ?_
    rw [← hLP]
    refine Be (α:=Nat) (fun i=>⟨T [(5,.ptr n5 0),(6,.ptr n6 0),(7,.ptr (bd1+7) 0),(24,i64 (n:Int)),(25,i64 (i:Int))],upd (upd (upd o1 bdL LP) nA (some (.arr 6 ((bndF x f l i).map encBn)))) (bd1+7) (some (.cells (cW x)))⟩) (fun i=>n - i) (fun i=>i≤n) 0 ?_ ?_ (fun i hx3 K3 hK3=>?_)
    · exact Nat.zero_le _
    · refine F9 ?_ ?_ ?_ ?_ <;> (try simp (disch:=(first | assumption | omega)) only [a5,a6,Ad,amL,sF,↓reduceIte]); all_goals first | exact D9 (Ns hcl2) | exact sub_b (by omega) (by omega) (by omega) (by simp (disch:=omega) only [Ad,Bb]) (by simp (disch:=omega) only [Ad] ; first | done | rfl | exact aA) (by simp (disch:=omega) only [Bb]) (fun q h1 h2 h3=>by simp (disch:=omega) only [Ad]) | trace_state
    have hi:=hx3; have hbl:=bndF_len (v:=x) (f:=f) (l:=l) i
    refine Aa fun K4 hK4=>?_
    refine Ac ?_
    simp (disch:=(first | assumption | omega)) only [amL,amT,sA,sF,↓reduceIte]
    refine hK4 _ ?_
    refine Aa fun K5 hK5=>?_
    refine Aj rfl (fun h=>MT.x ?_) (fun h=>ME.x ?_)
    all_goals
     first
     |refine MT.mk ?_
      first
      |exact Bool.noConfusion h
      |skip
       try simp only [nrm] at h
       refine Ak ?_
       refine hK5 _ ?_
     |refine ME.mk ?_
      first
      |exact Bool.noConfusion h
      |skip
       try simp only [nrm] at h
       refine Bo ?_
       refine hK1 _ ?_
       refine Ac ?_
       simp (disch:=(first | assumption | omega)) only [a6,Ad,Wr,amL,amT,sF,↓reduceIte]
       try simp (disch:=(first | assumption | omega)) only [a5,aA,a6,hl,hfr0,Ad,Bw,Bq,Az,Kl,Jp,Lp,ldLi,encBn_getD,encBn_eq,set_encBn,Vw,Wr,Aem,amL,amT,sA,sB,sC,sD,sE,sF,sG,sH,sI,sJ,sK,sL,sM,sN,sO,↓reduceIte,reduceCtorEq]
       first
         | (obtain rfl:i=n:=by omega
            refine Rg (upd (upd (upd o1 nA (some (.arr 6 ((bndF x f l i).map encBn)))) n6 (some (.cells [bl false]))) bdL (some (.loop (Alv _ none) (tmB n5 n6)))) (by simp (disch:=omega) only [Ad,Bb]; exact hLP) (fun z=>?_) (hclL (F6 (Ns hcl1) (by simp [AV.isP])) (by simp (disch:=omega) only [Ad]; rw [a5]; rfl) (by rw [Bb]; rfl)) ⟨rfl,⟨⟨by simp (disch:=omega) only [Ad]; exact a5,by simp (disch:=omega) only [Ad,Bb]; rfl,by simp (disch:=omega) only [Ad,Bb]; rfl,hbl.trans hlen⟩,by rw [Bb]; rfl⟩,fun q hq=>by simp (disch:=omega) only [Ad]⟩
            by_cases e1:z=bdL
            · subst e1; right; rw [Bb,Bb] ; first | done | rfl
            · by_cases e2:z=n6
              · subst e2; right; simp (disch:=omega) only [Ad,Bb]
              · by_cases e3:z=nA
                · subst e3; right; simp (disch:=omega) only [Ad,Bb]
                · by_cases e4:z=bd1+7
                  · left; subst e4; simp (disch:=omega) only [Ad]; exact hfr0 7
                  · right; simp (disch:=omega) only [Ad])
         | trace_state
    all_goals
     skip
     refine Aa fun K6 hK6=>?_
     refine Ap ?_
     refine Aa fun K7 hK7=>?_
     refine Ac ?_
     simp (disch:=(first | assumption | omega)) only [amL,sA,sF,↓reduceIte]
     refine hK7 _ ?_
     refine Aa fun K8 hK8=>?_
     refine Ac ?_
     simp (disch:=(first | assumption | omega)) only [a5,Ad,amL,amT,sA,sF,↓reduceIte]
     refine hK8 _ ?_
     refine Ce (by kernel_rfl) (by kernel_rfl) ?_
     simp (disch:=(first | assumption | omega)) only [a6,Ad,Jp,encBn_getD,encBn_eq,amL,amT,sA,sB,sE,sF,sH,↓reduceIte,reduceCtorEq]
     repeat' first | (refine Aw (by kernel_rfl) rfl (c_wider _ _ _) (by first | exact .inl rfl | exact .inr (.inl rfl)) ?_ ; simp (disch:=(first | assumption | omega)) only [a6,Ad,Lp,ldLi,encBn_getD,encBn_eq,set_encBn,amL,amT,sA,sB,sE,sF,sH,↓reduceIte,reduceCtorEq]) | (refine Aw (by kernel_rfl) rfl (Zb _ (hsm i)) (by first | exact .inl rfl | exact .inr (.inl rfl)) ?_ ; simp (disch:=(first | assumption | omega)) only [a6,Ad,amL,amT,sA,sF,↓reduceIte])
     refine hK6 _ ?_
     refine Ac ?_
     simp (disch:=(first | assumption | omega)) only [amL,amT,sA,sF,↓reduceIte]
     refine hK3 (i+1) _ ?_ ?_ (F9 ?_ ?_ ?_ ?_)
     all_goals (try simp (disch:=(first | assumption | omega)) only [a5,a6,Ad,amL,sF,↓reduceIte])
     all_goals first | omega | exact D9 (Ns hcl2) | exact sub_b (by omega) (by omega) (by omega) (by simp (disch:=omega) only [Ad,Bb]) (by simp (disch:=omega) only [Bb] ; first | done | rfl | exact aA) (by simp (disch:=omega) only [Ad,Bb]) (fun q h1 h2 h3=>by simp (disch:=omega) only [Ad]) | trace_state
theorem EO_mkBn {r:RB} {N:Nat} {s:St} {K:St→Prop} {d:Nat} {ty:TypeId} {pos:String} {after:Array Edge} {g:Option (Nat × Bool)} {l c:Operand}:EO Tryz.prog r N ⟨some d,.makeSlice 49 l c,ty,pos,after,g⟩ s K=EOp r.b N (some d) s K (fMk 6 48 [iv 0,iv 0,iv 0,iv 0,iv 0,iv 0] (r.b+d) (ev s.t l) (ev s.t c)):=
  EO_mk (e:=60) (z:=[.int .i64 0,.int .i64 0,.int .i64 0,.int .i64 0,.int .i64 0,.int .i64 0]) (by simp only [amT]) (by simp only [amT]) (by simp only [amT]) (by simp only [amT]) (by decide) rfl (by decide) (by simp only [amT]; rfl)
theorem fMkBn {d n:Nat} (h:n≤4):fMk 6 48 [iv 0,iv 0,iv 0,iv 0,iv 0,iv 0] d (i64 (n:Int)) (i64 (n:Int))=some (.new (.arr 6 ((List.replicate n (default:Bnd)).map encBn)) (.own d n)):=by
  rw [List.map_replicate]
  show (if (n:Int)=(n:Int)∧0≤(n:Int)∧(n:Int)≤4611686018427387904∧((48:Nat):Int) * (n:Int)≤281474976710656 then some (Eff.new (AO.arr 6 (List.replicate (n:Int).toNat [iv 0,iv 0,iv 0,iv 0,iv 0,iv 0])) (AV.own d (n:Int).toNat)) else none)=_
  rw [if_pos ⟨rfl,by omega,by omega,by omega⟩,Int.toNat_natCast]; rfl
def bndS (n:Nat) (s:List Bnd × Bool) (l:List (List Liq)):List Bnd × Bool:=l.foldl (fun s v=>(bstB n s v).1) s
theorem allS_B {n:Nat}:∀ (l:List (List Liq)) (s:List Bnd × Bool),(Fm (fun (s:(List Bnd × Bool) × Option Code) x=>(bstB n s.1 x,(bstB n s.1 x).2.isNone)) (s,none) l).1=(bndS n s l,none)
  | [],s=>rfl
  | x :: l,s=>by
    show (if (bstB n s x).2.isNone=true then Fm _ (bstB n s x) l else _).1=_
    rw [if_pos (show (bstB n s x).2.isNone=true from rfl)]
    exact allS_B l (bstB n s x).1
def boundsA (b:Ee):AV:=
  if B5 b=0 then match bndS b.vs.length (List.replicate b.vs.length default,true) (endsL b) with
    | (_,true)=>.tup [C3,i64 9]
    | (l,false)=>.tup [.p (.sl (l.map encBn)),i64 0]
  else .tup [C3,i64 (B5 b)]
theorem boundsA_isP (b:Ee):(boundsA b).isP=true:=by
  unfold boundsA; split
  · split <;> rfl
  · rfl
theorem endsF_ok {b:Ee} {P:List Liq→Prop}:∀ (l:List (List Int)) (last:List Liq) (first:Bool),(∀ x ∈ l,endB b x=true→P (endV b x))→∀ v ∈ endsF b last first l,P v
  | [],_,_,_,v,hv=>by cases hv
  | x :: l,last,first,h,v,hv=>by
    unfold endsF at hv
    split at hv
    · exact endsF_ok l _ _ (fun y hy=>h y (by simp [hy])) v hv
    · rename_i hC
      rcases List.mem_cons.1 hv with rfl | hv
      · refine h x (by simp) ?_
        cases he:endB b x with
        | true=>rfl
        | false=>exact absurd (.inl he) hC
      · exact endsF_ok l _ _ (fun y hy=>h y (by simp [hy])) v hv
theorem endsF_mem {b:Ee} {x:List Int}:∀ (l:List (List Int)) (last:List Liq) (first:Bool),x ∈ l→endB b x=true→endV b x ∈ endsF b last first l∨(first=false∧endV b x=last)
  | [],_,_,h,_=>by cases h
  | y :: l,last,first,h,he=>by
    unfold endsF
    split
    · rename_i hC
      rcases List.mem_cons.1 h with rfl | h
      · rcases hC with hC | hC
        · rw [he] at hC; cases hC
        · exact .inr hC
      · exact endsF_mem l last first h he
    · rcases List.mem_cons.1 h with rfl | h
      · exact .inl (List.mem_cons_self ..)
      · rcases endsF_mem l (endV b y) false h he with h1 | h1
        · exact .inl (List.mem_cons_of_mem _ h1)
        · left; rw [h1.2]; exact List.mem_cons_self ..
theorem c_bounds (b:Ee) (hl:b.vs.length < 1000000) (hl2:b.ss.length < 1000000):Bt Tryz.prog 24 [avB b] (boundsA b):=by
  refine Ajt (v:=[60,71]) (q:=[]) (N:=67) (rs:=[.tmp 2,.tmp 3]) Tryz.func24 rfl rfl rfl rfl (boundsA_isP b) ?_
  obtain ⟨A,B,hcode⟩:∃ A B,(Tryz.f24.body.bind Nt)=some (A,B):=⟨_,_,rfl⟩
  refine Lm fun K1 hK1=>?_
  refine Ac ?_
  simp (disch:=(first | assumption | omega)) only [amL,sA,↓reduceIte]
  refine hK1 _ ?_
  refine Lm fun K2 hK2=>?_
  refine Aa fun K3 hK3=>?_
  refine Ac ?_
  simp (disch:=(first | assumption | omega)) only [amL,amT,sA,sB,sF,sG,↓reduceIte]
  repeat' first | (refine Aw (by kernel_rfl) rfl (Ag7 b hl hl2) (by first | exact .inl rfl | exact .inr (.inl rfl)) ?_ ; simp (disch:=(first | assumption | omega)) only [amL,sA,↓reduceIte])
  refine hK3 _ ?_
  refine Aa fun K4 hK4=>?_
  refine Ac ?_
  simp (disch:=(first | assumption | omega)) only [ne_eq,amL,amT,sA,↓reduceIte]
  refine hK4 _ ?_
  refine Aj rfl (fun h=>?_) (fun h=>?_)
  ·first
   | exact Bool.noConfusion h
   |skip
    try simp only [Bool.not_eq_true',decide_eq_false_iff_not,decide_not] at h
    refine Aa fun K5 hK5=>?_
    refine Ac ?_
    simp (disch:=(first | assumption | omega)) only [amL,sA,sF,↓reduceIte]
    refine hK5 _ ?_
    refine Ah ?_
    try simp (disch:=(first | assumption | omega)) only [amL,sF,↓reduceIte]
    first
      | (unfold boundsA; rw [if_neg (by assumption)]; done)
      | (unfold boundsA; rw [if_pos (by omega),hb,show f2=true by assumption]; done)
      | (have hl2:b.vs.length≤(l2.map encBn).length:=by rw [List.length_map]; omega
         unfold boundsA; rw [if_pos (by omega),hb,show f2=false by assumption,qA,Art,if_pos hl2,List.take_of_length_le (by rw [List.length_map]; omega)]; rfl)
      | trace_state
  ·first
   | exact Bool.noConfusion h
   |skip
    try simp only [decide_eq_true_eq,Bool.not_eq_false',decide_not] at h
    refine Ak ?_
    refine hK2 _ ?_
    refine Lm fun K6 hK6=>?_
    refine Ac ?_
    have hf0:B5 b=0:=by omega
    have hval:=Abs hf0
    have hnv:=hval.nv
    simp (disch:=(first | assumption | omega)) only [EO_mkBn,fMkBn,amL,amT,sA,sF,↓reduceIte,reduceCtorEq]
    refine hK6 _ ?_
    refine Lm fun K7 hK7=>?_
    refine Ac ?_
    simp (disch:=(first | assumption | omega)) only [amL,amT,sA,sF,↓reduceIte]
    refine hK7 _ ?_
    refine Ad8 fun K8 hK8=>?_
    refine Lm fun K9 hK9=>?_
    refine Ac ?_
    simp (disch:=(first | assumption | omega)) only [amL,amT,sA,sB,sF,sG,↓reduceIte]
    refine A1 [(5,.ptr 5 0),(6,.ptr 6 0)] (by decide) (Dp (b:=b) (bd:=67)) (Lx rfl) (by decide) (fun res os2 hR hcl2 hlv2=>?_)
    obtain ⟨rfl,rfl⟩:=hR
    simp (disch:=(first | assumption | omega)) only [amL,sB,sF,sG,↓reduceIte]
    refine A1 [(5,.ptr 5 0),(6,.ptr 6 0)] (by decide) (c_ends (nw:=73) (bd:=80) rfl) (Lx rfl) (by decide) (fun res os2 hR hcl3 hlv3=>?_)
    obtain ⟨rfl,rfl⟩:=hR
    simp (disch:=(first | assumption | omega)) only [amL,sB,sF,↓reduceIte]
    refine hK9 _ ?_
    refine T6 ?_
    have hLk:∀ v ∈ endsL b,OkV v:=endsF_ok (P:=OkV) _ _ _ (fun x hx he=>(Amq hval (listed_tru hx)).2 he)
    have hRd:=rounds_b (L:=endsL b) (n:=b.vs.length) (n5:=5) (n6:=6) (nA:=18) (bdL:=82) hnv hLk (by decide) (by decide) (by decide) hcode
    have hmem:∀ x ∈ listsR (Fz b) [],endB b x=true→endV b x ∈ endsL b:=fun x hx he=>by
      rcases endsF_mem (b:=b) _ v0 true hx he with h | h
      · exact h
      · exact absurd h.1 (by decide)
    have hc:=c_endsY (b:=b) (F:=fun q=>(q=5∨q=6∨q=18)∨q=82) hRd.yields rfl hmem hval (fun q hq=>by
      simp only [AV.clean,bne_eq_false_iff_eq] at hq
      exact .inr hq.symm) (n1:=81) (nw:=73) (m:=71) (by decide) (by decide) (by decide) (s:=((List.replicate b.vs.length default,true),none)) (bd:=83) (os:=O [(82,.loop ⟨67,[22],A,B,.ready,none⟩ (tmB 5 6)),(81,.cells [.ptr 73 0]),(73,.cells [.p (slV b.vs),.p (slS b.ss),.mp 71]),(71,.obj (Gb 14 (Sl b.vs))),(6,.cells [bl true]),(6,.cells [bl false]),(5,.cells [.own 18 b.vs.length]),(5,.cells [C3]),(18,.arr 6 ((List.replicate b.vs.length default).map encBn)),(1,.cells (cB b))]) rfl ⟨rfl,rfl⟩ rfl ⟨⟨rfl,rfl,rfl,List.length_replicate⟩,rfl⟩
    cases (show some (_,_)=some (A,B) from hcode)
    refine Mg (bd:=82) (tm:=tmB 5 6) rfl (Lx rfl) (by decide) rfl (by kernel_rfl) (fun i=>Z1 (by simp (disch:=(first | assumption | omega)) only [amL,sF,↓reduceIte]) i) (Aw4 (by simp (disch:=(first | assumption | omega)) only [amL,sF,↓reduceIte])) hc (fun res os2 hR hcl2=>?_)
    obtain ⟨rfl,hI2,hfr2⟩:=hR
    rw [allS_B] at hI2
    generalize hb:bndS b.vs.length (List.replicate b.vs.length default,true) (endsL b)=bb at hI2
    obtain ⟨l2,f2⟩:=bb
    obtain ⟨⟨q5,qA,q6,qn⟩,q7⟩:=hI2
    dsimp only at q5 qA q6 qn q7
    refine ⟨_,q7,by simp [],?_⟩
    show L1 0 _ .normal _
    simp only [Pd,Qt]
    refine hK8 _ ?_
    refine Lm fun K10 hK10=>?_
    refine Aa fun K11 hK11=>?_
    refine Ac ?_
    simp (disch:=(first | assumption | omega)) only [q6,Ad,amL,amT,sA,sF,↓reduceIte]
    refine hK11 _ ?_
    refine Aj rfl (fun h=>?_) (fun h=>?_)
    ·first
     | exact Bool.noConfusion h
     |skip
      try simp only [Bool.not_eq_true',decide_eq_true_eq,decide_eq_false_iff_not,Bool.and_eq_true,Bool.not_eq_false',Bool.not_not,decide_not,Bool.not_true,Bool.not_false] at h
      refine Aa fun K12 hK12=>?_
      refine Ac ?_
      simp (disch:=(first | assumption | omega)) only [amL,sA]
      refine hK12 _ ?_
      refine Ah ?_
      try simp (disch:=(first | assumption | omega)) only [amL,sF,↓reduceIte]
      first
        | (unfold boundsA; rw [if_neg (by assumption)]; done)
        | (unfold boundsA; rw [if_pos (by omega),hb,show f2=true by assumption]; done)
        | (have hl2:b.vs.length≤(l2.map encBn).length:=by rw [List.length_map]; omega
           unfold boundsA; rw [if_pos (by omega),hb,show f2=false by assumption,qA,Art,if_pos hl2,List.take_of_length_le (by rw [List.length_map]; omega)]; rfl)
        | trace_state
    ·first
     | exact Bool.noConfusion h
     |skip
      try simp only [Bool.not_eq_true',decide_eq_true_eq,decide_eq_false_iff_not,Bool.and_eq_true,Bool.not_eq_false',Bool.not_not,decide_not,Bool.not_true,Bool.not_false] at h
      refine Ak ?_
      refine hK10 _ ?_
      refine Lm fun K13 hK13=>?_
      refine Ac ?_
      simp (disch:=(first | assumption | omega)) only [q5,Ad,amL,amT,sA,sF,↓reduceIte]
      refine hK13 _ ?_
      refine Dz ?_
      refine Ah ?_
      try simp (disch:=(first | assumption | omega)) only [Ad,amL,sF,↓reduceIte]
      first
        | (unfold boundsA; rw [if_neg (by assumption)]; done)
        | (unfold boundsA; rw [if_pos (by omega),hb,show f2=true by assumption]; done)
        | (have hl2:b.vs.length≤(l2.map encBn).length:=by rw [List.length_map]; omega
           unfold boundsA; rw [if_pos (by omega),hb,show f2=false by assumption,qA,Art,if_pos hl2,List.take_of_length_le (by rw [List.length_map]; omega)]; rfl)
        | trace_state
theorem c_rin (n lo hi:Int):Bt Tryz.prog 30 [i64 n,i64 lo,i64 hi] (bl (inB n lo hi)):=by
  refine Bn (v:=[]) (q:=[]) (N:=15) (rs:=[.tmp 6]) Tryz.func30 rfl rfl rfl rfl rfl ?_
  refine Aa fun K1 hK1=>?_
  refine Ac ?_
  simp (disch:=omega) only [amL,sA,sB]
  refine hK1 _ ?_
  refine Aa fun K2 hK2=>?_
  refine Ac ?_
  simp (disch:=omega) only [amL,amT,sA,sF,↓reduceIte,reduceCtorEq]
  repeat' first | (refine E0 (fun h=>?_) (fun h=>?_) <;> simp (disch:=omega) only [h,amL,amT,sA,sF,↓reduceIte,reduceCtorEq]) | (refine Cz (fun h=>?_) (fun h=>?_) <;> simp (disch:=omega) only [h,amL,amT,sA,sB,sC,sD,sE,sF,sG,sH,sI,sJ,sK,sL,sM,sN,sO,↓reduceIte,reduceCtorEq])
  all_goals
   skip
   refine hK2 _ ?_
   refine Ah ?_
   try simp (disch:=omega) only [amL,↓reduceIte]
   simp [inB,h]
theorem isRngE {r:Rng} {most:Int}:Hx r most=(inB r.lo 0 r.hi&&(decide (r.hi≤most)&&decide (r.hi - r.lo≤2))):=by
  unfold Hx inB; rw [Bool.and_assoc]
theorem c_rrng (r:Rng) (most:Int) (hm:most < 1000000):Bt Tryz.prog 102 [avR r,i64 most] (bl (Hx r most)):=by
  refine Bn (v:=[]) (q:=[]) (N:=24) (rs:=[.tmp 4]) Tryz.func102 rfl rfl rfl rfl rfl ?_
  have hin:inB r.lo 0 r.hi=true→0≤r.lo∧r.lo≤r.hi:=fun h=>by simpa [inB] using h
  refine Aa fun K1 hK1=>?_
  refine Ac ?_
  simp (disch:=omega) only [amL,sA,sB,↓reduceIte]
  refine hK1 _ ?_
  refine Aa fun K2 hK2=>?_
  refine Ac ?_
  simp (disch:=omega) only [amL,amT,sA,sF,↓reduceIte,reduceCtorEq]
  repeat' first | (refine E0 (fun h=>?_) (fun h=>?_) <;> simp (disch:=omega) only [h,amL,amT,sA,sF,↓reduceIte,reduceCtorEq]) | (refine Cz (fun h=>?_) (fun h=>?_) <;> simp (disch:=omega) only [h,amL,amT,sA,sF,↓reduceIte,reduceCtorEq]) | (refine Aw (by kernel_rfl) rfl (c_rin _ _ _) (by first | exact .inl rfl | exact .inr (.inl rfl)) ?_ ; simp (disch:=omega) only [amL,sA,↓reduceIte]) | (have hin2:=hin (by assumption); simp (disch:=omega) only [amL])
  all_goals
   skip
   refine hK2 _ ?_
   refine Ah ?_
   try simp (disch:=omega) only [amL,↓reduceIte]
   all_goals (simp_all [isRngE] <;> omega)
theorem isStpE {n:Int} {s:Stp}:F7 n s=(inB s.kind 0 2&&(inB s.frm 0 (n - 1)&&(inB s.to 0 (n - 1)&&(Hx s.g 60&&(decide (s.frm=s.to) == !decide (s.kind=0)))))):=by
  unfold F7; rw [Bool.and_comm (Hx s.g 60)]
theorem c_rstp (s:Stp) (n:Nat) (hn:n < 1000000):Bt Tryz.prog 90 [avS s,i64 (n:Int)] (bl (F7 n s)):=by
  refine Bn (v:=[]) (q:=[]) (N:=44) (rs:=[.tmp 4]) Tryz.func90 rfl rfl rfl rfl rfl ?_
  refine Aa fun K1 hK1=>?_
  refine Ac ?_
  simp (disch:=omega) only [amL,sA,sB,↓reduceIte]
  refine hK1 _ ?_
  refine Aa fun K2 hK2=>?_
  refine Aa fun K3 hK3=>?_
  refine Ac ?_
  simp (disch:=omega) only [amL,amT,sA,sF,↓reduceIte,reduceCtorEq]
  repeat' first | (refine E0 (fun h=>?_) (fun h=>?_) <;> simp (disch:=omega) only [h,amL,amT,sA,sB,sC,sD,sE,sF,sG,sH,sI,sJ,sK,sL,sM,sN,sO,↓reduceIte,reduceCtorEq]) | (refine Cz (fun h=>?_) (fun h=>?_) <;> simp (disch:=omega) only [h,amL,amT,sA,sB,sF,↓reduceIte,reduceCtorEq]) | (refine Aw (by kernel_rfl) rfl (c_rin _ _ _) (by first | exact .inl rfl | exact .inr (.inl rfl)) ?_ ; simp (disch:=omega) only [amL,sA,sF,↓reduceIte]) | (refine Aw (by kernel_rfl) rfl (c_rrng ⟨_,_⟩ _ (by omega)) (by first | exact .inl rfl | exact .inr (.inl rfl)) ?_ ; simp (disch:=omega) only [amL,sA,sF,↓reduceIte])
  all_goals
   skip
   refine hK3 _ ?_
   refine Aj rfl (fun h=>MT.x ?_) (fun h=>ME.x ?_)
   all_goals
    first
    |refine MT.mk ?_
     first
     |exact Bool.noConfusion h
     |skip
      try simp only [nrm] at h
      refine Aa fun K4 hK4=>?_
      refine Ac ?_
      simp (disch:=omega) only [amL,sA]
      refine hK4 _ ?_
      refine Ah ?_
      try simp (disch:=omega) only [amL,↓reduceIte]
      all_goals simp_all [isStpE]
    |refine ME.mk ?_
     first
     |exact Bool.noConfusion h
     |skip
      try simp only [nrm] at h
      refine Ak ?_
      refine hK2 _ ?_
   all_goals
    skip
    refine Aa fun K5 hK5=>?_
    refine Aa fun K6 hK6=>?_
    refine Ac ?_
    simp (disch:=omega) only [amL,amT,sA,sF,↓reduceIte,reduceCtorEq]
    refine hK6 _ ?_
    refine Aj rfl (fun h=>MT.x ?_) (fun h=>ME.x ?_)
    all_goals
     first
     |refine MT.mk ?_
      first
      |exact Bool.noConfusion h
      |skip
       try simp only [nrm] at h
       refine Aa fun K7 hK7=>?_
       refine Ac ?_
       simp (disch:=omega) only [amL,amT,sA,sF,↓reduceIte,reduceCtorEq]
       refine hK7 _ ?_
       refine Ah ?_
       try simp (disch:=omega) only [amL,↓reduceIte]
       all_goals simp_all [isStpE]
     |refine ME.mk ?_
      first
      |exact Bool.noConfusion h
      |skip
       try simp only [nrm] at h
       refine Ak ?_
       refine hK5 _ ?_
    all_goals
     skip
     refine Aa fun K8 hK8=>?_
     refine Ac ?_
     simp (disch:=omega) only [amL,amT,sA,sF,↓reduceIte,reduceCtorEq]
     refine hK8 _ ?_
     refine Ah ?_
     try simp (disch:=omega) only [amL,↓reduceIte]
     all_goals simp_all [isStpE]
theorem c_rsize (r:Rng) (h1:-9223372036854775808≤r.hi - r.lo) (h2:r.hi - r.lo < 9223372036854775807):Bt Tryz.prog 89 [avR r] (i64 (Fa r)):=by
  refine Bn (v:=[]) (q:=[]) (N:=9) (rs:=[.tmp 2]) Tryz.func89 rfl rfl rfl rfl rfl ?_
  refine Aa fun K1 hK1=>?_
  refine Ac ?_
  simp (disch:=omega) only [amL,sA,↓reduceIte]
  refine hK1 _ ?_
  refine Aa fun K2 hK2=>?_
  refine Ac ?_
  simp (disch:=omega) only [amL,amT,sA,sF,↓reduceIte,reduceCtorEq]
  refine hK2 _ ?_
  refine Ah ?_
  try simp (disch:=omega) only [amL,↓reduceIte]
  rfl
theorem mul_small2 {p s:Int} (h1:1≤p) (h2:p≤4782969) (h3:1≤s) (h4:s≤9):-9223372036854775808≤p * s∧p * s < 9223372036854775808:=by
  have e1:=Int.mul_le_mul h2 h4 (by omega) (by omega)
  have e2:=Int.mul_nonneg (show 0≤p by omega) (show 0≤s by omega)
  omega
theorem mul_nine {p s:Int} (h1:1≤p) (h2:p≤3) (h3:1≤s) (h4:s≤3):1≤p * s∧p * s≤9:=by
  have e1:=Int.mul_le_mul h2 h4 (by omega) (by omega)
  have e2:=Int.mul_le_mul h1 h3 (by omega) (by omega)
  omega
theorem c_rmany (b:Ee) (hv:N6 b):Bt Tryz.prog 45 [avB b] (i64 (manyX b)):=by
  refine Bn (v:=[]) (q:=[]) (N:=47) (rs:=[.tmp 2]) Tryz.func45 rfl rfl rfl rfl rfl ?_
  have hnv:=hv.nv
  have hns:=hv.ns
  refine Aa fun K1 hK1=>?_
  refine Ac ?_
  simp (disch:=omega) only [amL,sA,↓reduceIte]
  refine hK1 _ ?_
  refine Aa fun K2 hK2=>?_
  refine Ac ?_
  simp (disch:=omega) only [amL,sA]
  refine hK2 _ ?_
  refine Aa fun K3 hK3=>?_
  refine Aa fun K4 hK4=>?_
  refine Ac ?_
  simp (disch:=omega) only [amL,sA]
  refine hK4 _ ?_
  refine Ap ?_
  skip
  refine Be (α:=Nat) (fun k=>⟨T [(1,.ptr 1 0),(3,i64 (Mb (twoV (b.vs.take k)) 1)),(4,i64 (k:Int))],O [(1,.cells (cB b))]⟩) (fun k=>b.vs.length - k) (fun k=>k≤b.vs.length) 0 ?_ ?_ (fun k hx5 K5 hK5=>?_)
  · exact Nat.zero_le _
  · refine De ?_ ?_ ?_ ?_ <;> (try simp (disch:=omega) only [amL,sF,↓reduceIte]); all_goals rfl
  have hk:=hx5
  refine Aa fun K6 hK6=>?_
  refine Aa fun K7 hK7=>?_
  refine Ac ?_
  simp (disch:=omega) only [amL,amT,sA,sF,↓reduceIte,reduceCtorEq]
  refine hK7 _ ?_
  refine Aj rfl (fun h=>MT.x ?_) (fun h=>ME.x ?_)
  all_goals
   first
   |refine MT.mk ?_
    first
    |exact Bool.noConfusion h
    |skip
     try simp only [nrm] at h
     refine Ak ?_
     refine hK6 _ ?_
   |refine ME.mk ?_
    first
    |exact Bool.noConfusion h
    |skip
     try simp only [nrm] at h
     refine Bo ?_
     refine hK3 _ ?_
     refine Aa fun K8 hK8=>?_
     refine Aa fun K9 hK9=>?_
     refine Ac ?_
     simp (disch:=omega) only [amL,sA]
     refine hK9 _ ?_
     refine Ap ?_
     skip
     refine Be (α:=Nat) (fun k=>⟨T [(1,.ptr 1 0),(3,i64 (Mb (twoV b.vs++(b.ss.take k).map (·.g)) 1)),(5,i64 (k:Int))],O [(1,.cells (cB b))]⟩) (fun k=>b.ss.length - k) (fun k=>k≤b.ss.length) 0 ?_ ?_ (fun k hx10 K10 hK10=>?_)
     · exact Nat.zero_le _
     · refine De ?_ ?_ ?_ ?_ <;> (try simp (disch:=omega) only [amL,sF,↓reduceIte]); all_goals first | rfl | (rw [List.take_of_length_le (by omega)]; done) | (rw [List.take_of_length_le (by omega),List.take_zero,List.map_nil,List.append_nil]; done) | trace_state
     have hk:=hx10
     refine Aa fun K11 hK11=>?_
     refine Aa fun K12 hK12=>?_
     refine Ac ?_
     simp (disch:=omega) only [amL,amT,sA,sF,↓reduceIte,reduceCtorEq]
     refine hK12 _ ?_
     refine Aj rfl (fun h=>MT.x ?_) (fun h=>ME.x ?_)
     all_goals
      first
      |refine MT.mk ?_
       first
       |exact Bool.noConfusion h
       |skip
        try simp only [nrm] at h
        refine Ak ?_
        refine hK11 _ ?_
      |refine ME.mk ?_
       first
       |exact Bool.noConfusion h
       |skip
        try simp only [nrm] at h
        refine Bo ?_
        refine hK8 _ ?_
        refine Aa fun K13 hK13=>?_
        refine Ac ?_
        simp (disch:=omega) only [amL,sA,sF,↓reduceIte]
        refine hK13 _ ?_
        refine Ah ?_
        try simp (disch:=omega) only [amL,↓reduceIte]
        rw [List.take_of_length_le (by omega)]; rfl
     all_goals
      skip
      refine Aa fun K14 hK14=>?_
      refine Ap ?_
      refine Ac ?_
      have hk2:k < b.ss.length:=by omega
      have hp1:=(Fy (hv.stp hk2)).2.2.2.2
      have z1:=P4 hp1
      have hb0:=many_bound hv k
      have hms:=mul_small2 hb0.1 hb0.2 z1.1 (by omega)
      have hw:IntKind.i64.wrap (Mb (twoV b.vs++(b.ss.take k).map (·.g)) 1 * Fa (b.ss.getD k default).g)=_:=Fc hms.1 hms.2
      have y1:=C8 hp1
      simp (disch:=omega) only [Xh,amL,amT,sA,sB,sF,↓reduceIte,reduceCtorEq]
      repeat' first | (refine Aw (by kernel_rfl) rfl (by first | exact c_rsize (b.vs.getD k default).g (by omega) (by omega) | exact c_rsize (b.vs.getD k default).d (by omega) (by omega) | exact c_rsize (b.ss.getD k default).g (by omega) (by omega)) (by first | exact .inl rfl | exact .inr (.inl rfl)) ?_ ; simp (disch:=omega) only [hw,amL,amT,sA,sF,↓reduceIte])
      refine hK14 _ ?_
      refine Ac ?_
      simp (disch:=omega) only [amL,amT,sA,sF,↓reduceIte]
      refine hK10 (k+1) _ ?_ ?_ (De ?_ ?_ ?_ ?_)
      all_goals (try simp (disch:=omega) only [amL,sF,↓reduceIte])
      all_goals first | omega | (rw [prodR_append,prodR_append,steps_take (by omega)]) | trace_state
  all_goals
   skip
   refine Aa fun K15 hK15=>?_
   refine Ap ?_
   refine Ce (by kernel_rfl) (by kernel_rfl) ?_
   have hk2:k < b.vs.length:=by omega
   obtain ⟨hp1,hp2,_⟩:=C9 (hv.ves hk2)
   have z1:=P4 hp1
   have z2:=P4 hp2
   have hm9:=mul_nine z1.1 z1.2 z2.1 z2.2
   have hb0:=two_bound hv.v hnv k
   have hms:=mul_small2 hb0.1 hb0.2 hm9.1 hm9.2
   have hw0:IntKind.i64.wrap (Fa (b.vs.getD k default).g * Fa (b.vs.getD k default).d)=_:=Fc (by omega) (by omega)
   have hw:IntKind.i64.wrap (Mb (twoV (b.vs.take k)) 1 * (Fa (b.vs.getD k default).g * Fa (b.vs.getD k default).d))=_:=Fc hms.1 hms.2
   have y1:=C8 hp1
   have y2:=C8 hp2
   simp (disch:=omega) only [Di,amL,amT,sA,sB,sE,sF,↓reduceIte,reduceCtorEq]
   repeat' first | (refine Aw (by kernel_rfl) rfl (by first | exact c_rsize (b.vs.getD k default).g (by omega) (by omega) | exact c_rsize (b.vs.getD k default).d (by omega) (by omega) | exact c_rsize (b.ss.getD k default).g (by omega) (by omega)) (by first | exact .inl rfl | exact .inr (.inl rfl)) ?_ ; simp (disch:=omega) only [hw0,hw,Di,amL,amT,sA,sB,sE,sF,↓reduceIte,reduceCtorEq])
   refine hK15 _ ?_
   refine Ac ?_
   simp (disch:=omega) only [amL,amT,sA,sF,↓reduceIte]
   refine hK5 (k+1) _ ?_ ?_ (De ?_ ?_ ?_ ?_)
   all_goals (try simp (disch:=omega) only [amL,sF,↓reduceIte])
   all_goals first | omega | (rw [two_take (by omega)]) | trace_state
theorem c_rfault (b:Ee) (h1:b.vs.length < 1000000) (h2:b.ss.length < 1000000):Bt Tryz.prog 64 [avB b] (i64 (B5 b)):=by
  refine Bn (v:=[]) (q:=[]) (N:=68) (rs:=[.tmp 2]) Tryz.func64 rfl rfl rfl rfl rfl ?_
  refine Aa fun K1 hK1=>?_
  refine Ac ?_
  simp (disch:=omega) only [amL,sA,↓reduceIte]
  refine hK1 _ ?_
  refine Aa fun K2 hK2=>?_
  refine Aa fun K3 hK3=>?_
  refine Ac ?_
  simp (disch:=omega) only [amL,amT,sA,sF,↓reduceIte,reduceCtorEq]
  repeat' first | (refine E0 (fun h=>?_) (fun h=>?_) <;> simp (disch:=omega) only [h,amL,amT,sA,sF,↓reduceIte,reduceCtorEq]) | (refine Cz (fun h=>?_) (fun h=>?_) <;> simp (disch:=omega) only [h,Di,Xh,amL,amT,sA,sB,sC,sD,sE,sF,sG,sH,sI,sJ,sK,sL,sM,sN,sO,↓reduceIte,reduceCtorEq])
  all_goals
   skip
   refine hK3 _ ?_
   refine Aj rfl (fun h=>MT.x ?_) (fun h=>ME.x ?_)
   all_goals
    first
    |refine MT.mk ?_
     first
     |exact Bool.noConfusion h
     |skip
      try simp only [nrm] at h
      refine Aa fun K4 hK4=>?_
      refine Ac ?_
      simp (disch:=omega) only [amL,sA]
      refine hK4 _ ?_
      refine Ah ?_
      try simp (disch:=omega) only [amL,↓reduceIte]
      all_goals first | (rw [fault3 (by omega)]; done) | (rw [fault1 (by omega) (.inl (by omega))]; done) | (rw [fault1 (by omega) (.inr (.inl (all_failA (d:=default) (k:=k) (by omega) (by simp_all [Eu]))))]; done) | (rw [fault1 (by omega) (.inr (.inr (all_failA (d:=default) (k:=k2) (by omega) (by simpa using h))))]; done) | (rw [fault_of (by omega) (by omega) (by omega) hva hsa,if_pos h]; done) | (rw [fault_of (by omega) (by omega) (by omega) hva hsa,if_neg h]; done) | trace_state
    |refine ME.mk ?_
     first
     |exact Bool.noConfusion h
     |skip
      try simp only [nrm] at h
      refine Ak ?_
      refine hK2 _ ?_
   all_goals
    skip
    refine Aa fun K5 hK5=>?_
    refine Aa fun K6 hK6=>?_
    refine Ac ?_
    simp (disch:=omega) only [amL,amT,sA,sF,↓reduceIte,reduceCtorEq]
    refine hK6 _ ?_
    refine Aj rfl (fun h=>MT.x ?_) (fun h=>ME.x ?_)
    all_goals
     first
     |refine MT.mk ?_
      first
      |exact Bool.noConfusion h
      |skip
       try simp only [nrm] at h
       refine Aa fun K7 hK7=>?_
       refine Ac ?_
       simp (disch:=omega) only [amL,sA]
       refine hK7 _ ?_
       refine Ah ?_
       try simp (disch:=omega) only [amL,↓reduceIte]
       all_goals first | (rw [fault3 (by omega)]; done) | (rw [fault1 (by omega) (.inl (by omega))]; done) | (rw [fault1 (by omega) (.inr (.inl (all_failA (d:=default) (k:=k) (by omega) (by simp_all [Eu]))))]; done) | (rw [fault1 (by omega) (.inr (.inr (all_failA (d:=default) (k:=k2) (by omega) (by simpa using h))))]; done) | (rw [fault_of (by omega) (by omega) (by omega) hva hsa,if_pos h]; done) | (rw [fault_of (by omega) (by omega) (by omega) hva hsa,if_neg h]; done) | trace_state
     |refine ME.mk ?_
      first
      |exact Bool.noConfusion h
      |skip
       try simp only [nrm] at h
       refine Ak ?_
       refine hK5 _ ?_
    all_goals
     skip
     refine Aa fun K8 hK8=>?_
     refine Aa fun K9 hK9=>?_
     refine Ac ?_
     simp (disch:=omega) only [amL,sA]
     refine hK9 _ ?_
     refine Ap ?_
     skip
     refine Be (α:=Nat) (fun k=>⟨T [(1,.ptr 1 0),(3,i64 (k:Int))],O [(1,.cells (cB b))]⟩) (fun k=>b.vs.length - k) (fun k=>k≤b.vs.length∧(b.vs.take k).all Eu=true) 0 ?_ ?_ (fun k hx10 K10 hK10=>?_)
     · exact ⟨Nat.zero_le _,rfl⟩
     · refine De ?_ ?_ ?_ ?_ <;> (try simp (disch:=omega) only [amL,sF,↓reduceIte]); all_goals rfl
     obtain ⟨hk,hpre⟩:=hx10
     refine Aa fun K11 hK11=>?_
     refine Aa fun K12 hK12=>?_
     refine Ac ?_
     simp (disch:=omega) only [amL,amT,sA,sF,↓reduceIte,reduceCtorEq]
     refine hK12 _ ?_
     refine Aj rfl (fun h=>MT.x ?_) (fun h=>ME.x ?_)
     all_goals
      first
      |refine MT.mk ?_
       first
       |exact Bool.noConfusion h
       |skip
        try simp only [nrm] at h
        refine Ak ?_
        refine hK11 _ ?_
      |refine ME.mk ?_
       first
       |exact Bool.noConfusion h
       |skip
        try simp only [nrm] at h
        refine Bo ?_
        refine hK8 _ ?_
        refine Aa fun K13 hK13=>?_
        refine Aa fun K14 hK14=>?_
        refine Ac ?_
        simp (disch:=omega) only [amL,sA]
        refine hK14 _ ?_
        refine Ap ?_
        have hva:b.vs.all Eu=true:=all_doneA (by omega) hpre
        refine Be (α:=Nat) (fun k2=>⟨T [(1,.ptr 1 0),(5,i64 (k2:Int))],O [(1,.cells (cB b))]⟩) (fun k2=>b.ss.length - k2) (fun k2=>k2≤b.ss.length∧(b.ss.take k2).all (F7 b.vs.length)=true) 0 ?_ ?_ (fun k2 hx15 K15 hK15=>?_)
        · exact ⟨Nat.zero_le _,rfl⟩
        · refine De ?_ ?_ ?_ ?_ <;> (try simp (disch:=omega) only [amL,sF,↓reduceIte]); all_goals rfl
        obtain ⟨hk2,hpre2⟩:=hx15
        refine Aa fun K16 hK16=>?_
        refine Aa fun K17 hK17=>?_
        refine Ac ?_
        simp (disch:=omega) only [amL,amT,sA,sF,↓reduceIte,reduceCtorEq]
        refine hK17 _ ?_
        refine Aj rfl (fun h=>MT.x ?_) (fun h=>ME.x ?_)
        all_goals
         first
         |refine MT.mk ?_
          first
          |exact Bool.noConfusion h
          |skip
           try simp only [nrm] at h
           refine Ak ?_
           refine hK16 _ ?_
         |refine ME.mk ?_
          first
          |exact Bool.noConfusion h
          |skip
           try simp only [nrm] at h
           refine Bo ?_
           refine hK13 _ ?_
           refine Aa fun K18 hK18=>?_
           refine Aa fun K19 hK19=>?_
           refine Ac ?_
           have hsa:b.ss.all (F7 b.vs.length)=true:=all_doneA (by omega) hpre2
           simp (disch:=omega) only [amL,amT,sA,sB,sF,↓reduceIte]
           repeat' first | (refine Aw (by kernel_rfl) rfl (c_rmany b ⟨by omega,by omega,hva,hsa⟩) (by first | exact .inl rfl | exact .inr (.inl rfl)) ?_ ; simp (disch:=omega) only [amL,amT,↓reduceIte])
           refine hK19 _ ?_
           refine Aj rfl (fun h=>MT.x ?_) (fun h=>ME.x ?_)
           all_goals
            first
            |refine MT.mk ?_
             first
             |exact Bool.noConfusion h
             |skip
              try simp only [nrm] at h
              refine Aa fun K20 hK20=>?_
              refine Ac ?_
              simp (disch:=omega) only [amL,sA]
              refine hK20 _ ?_
              refine Ah ?_
              try simp (disch:=omega) only [amL,↓reduceIte]
              all_goals first | (rw [fault3 (by omega)]; done) | (rw [fault1 (by omega) (.inl (by omega))]; done) | (rw [fault1 (by omega) (.inr (.inl (all_failA (d:=default) (k:=k) (by omega) (by simp_all [Eu]))))]; done) | (rw [fault1 (by omega) (.inr (.inr (all_failA (d:=default) (k:=k2) (by omega) (by simpa using h))))]; done) | (rw [fault_of (by omega) (by omega) (by omega) hva hsa,if_pos h]; done) | (rw [fault_of (by omega) (by omega) (by omega) hva hsa,if_neg h]; done) | trace_state
            |refine ME.mk ?_
             first
             |exact Bool.noConfusion h
             |skip
              try simp only [nrm] at h
              refine Ak ?_
              refine hK18 _ ?_
           all_goals
            skip
            refine Aa fun K21 hK21=>?_
            refine Ac ?_
            simp (disch:=omega) only [amL,sA]
            refine hK21 _ ?_
            refine Ah ?_
            try simp (disch:=omega) only [amL,↓reduceIte]
            all_goals first | (rw [fault3 (by omega)]; done) | (rw [fault1 (by omega) (.inl (by omega))]; done) | (rw [fault1 (by omega) (.inr (.inl (all_failA (d:=default) (k:=k) (by omega) (by simp_all [Eu]))))]; done) | (rw [fault1 (by omega) (.inr (.inr (all_failA (d:=default) (k:=k2) (by omega) (by simpa using h))))]; done) | (rw [fault_of (by omega) (by omega) (by omega) hva hsa,if_pos h]; done) | (rw [fault_of (by omega) (by omega) (by omega) hva hsa,if_neg h]; done) | trace_state
        all_goals
         skip
         refine Aa fun K22 hK22=>?_
         refine Ap ?_
         refine Aa fun K23 hK23=>?_
         refine Ce (by kernel_rfl) (by kernel_rfl) ?_
         simp (disch:=omega) only [Xh,amL,amT,sA,sB,sF,↓reduceIte,reduceCtorEq]
         repeat' first | (refine Aw (by kernel_rfl) rfl (c_rstp (b.ss.getD k2 default) b.vs.length h1) (by first | exact .inl rfl | exact .inr (.inl rfl)) ?_ ; simp (disch:=omega) only [amL,sA,↓reduceIte])
         refine hK23 _ ?_
         refine Aj rfl (fun h=>MT.x ?_) (fun h=>ME.x ?_)
         all_goals
          first
          |refine MT.mk ?_
           first
           |exact Bool.noConfusion h
           |skip
            try simp only [nrm] at h
            refine Aa fun K24 hK24=>?_
            refine Ac ?_
            simp (disch:=omega) only [amL,sA]
            refine hK24 _ ?_
            refine Ah ?_
            try simp (disch:=omega) only [amL,↓reduceIte]
            all_goals first | (rw [fault3 (by omega)]; done) | (rw [fault1 (by omega) (.inl (by omega))]; done) | (rw [fault1 (by omega) (.inr (.inl (all_failA (d:=default) (k:=k) (by omega) (by simp_all [Eu]))))]; done) | (rw [fault1 (by omega) (.inr (.inr (all_failA (d:=default) (k:=k2) (by omega) (by simpa using h))))]; done) | (rw [fault_of (by omega) (by omega) (by omega) hva hsa,if_pos h]; done) | (rw [fault_of (by omega) (by omega) (by omega) hva hsa,if_neg h]; done) | trace_state
          |refine ME.mk ?_
           first
           |exact Bool.noConfusion h
           |skip
            try simp only [nrm] at h
            refine Ak ?_
            refine hK22 _ ?_
         all_goals
          skip
          refine Ac ?_
          simp (disch:=omega) only [amL,amT,sA,sF,↓reduceIte]
          refine hK15 (k2+1) _ ?_ ?_ (De ?_ ?_ ?_ ?_)
          all_goals (try simp (disch:=omega) only [amL,sF,↓reduceIte])
          all_goals first | omega | exact ⟨by omega,all_stepA (d:=default) (by omega) hpre2 (by simpa using h)⟩ | trace_state
     all_goals
      skip
      refine Aa fun K25 hK25=>?_
      refine Ap ?_
      refine Aa fun K26 hK26=>?_
      refine Ac ?_
      simp (disch:=omega) only [Di,amL,amT,sA,sB,sF,↓reduceIte,reduceCtorEq]
      refine hK26 _ ?_
      refine Aa fun K27 hK27=>?_
      refine Ac ?_
      simp (disch:=omega) only [amL,amT,sA,sB,sE,↓reduceIte,reduceCtorEq]
      repeat' first | (refine E0 (fun h=>?_) (fun h=>?_) <;> simp (disch:=omega) only [h,Di,Xh,amL,amT,sA,sB,sC,sD,sE,sF,sG,sH,sI,sJ,sK,sL,sM,sN,sO,↓reduceIte,reduceCtorEq]) | (refine Cz (fun h=>?_) (fun h=>?_) <;> simp (disch:=omega) only [h,amL,amT,sA,sB,sE,sF,↓reduceIte,reduceCtorEq]) | (refine Aw (by kernel_rfl) rfl (c_rrng ⟨_,_⟩ _ (by omega)) (by first | exact .inl rfl | exact .inr (.inl rfl)) ?_ ; simp (disch:=omega) only [amL,sA,sF,↓reduceIte]) | (refine Aw (by kernel_rfl) rfl (c_rin _ _ _) (by first | exact .inl rfl | exact .inr (.inl rfl)) ?_ ; simp (disch:=omega) only [amL,sA,sF,↓reduceIte])
      all_goals
       skip
       refine hK27 _ ?_
       refine Aj rfl (fun h=>MT.x ?_) (fun h=>ME.x ?_)
       all_goals
        first
        |refine MT.mk ?_
         first
         |exact Bool.noConfusion h
         |skip
          try simp only [nrm] at h
          refine Aa fun K28 hK28=>?_
          refine Ac ?_
          simp (disch:=omega) only [amL,sA]
          refine hK28 _ ?_
          refine Ah ?_
          try simp (disch:=omega) only [amL,↓reduceIte]
          all_goals first | (rw [fault3 (by omega)]; done) | (rw [fault1 (by omega) (.inl (by omega))]; done) | (rw [fault1 (by omega) (.inr (.inl (all_failA (d:=default) (k:=k) (by omega) (by simp_all [Eu]))))]; done) | (rw [fault1 (by omega) (.inr (.inr (all_failA (d:=default) (k:=k2) (by omega) (by simpa using h))))]; done) | (rw [fault_of (by omega) (by omega) (by omega) hva hsa,if_pos h]; done) | (rw [fault_of (by omega) (by omega) (by omega) hva hsa,if_neg h]; done) | trace_state
        |refine ME.mk ?_
         first
         |exact Bool.noConfusion h
         |skip
          try simp only [nrm] at h
          refine Ak ?_
          refine hK25 _ ?_
       all_goals
        skip
        refine Ac ?_
        simp (disch:=omega) only [amL,amT,sA,sF,↓reduceIte]
        refine hK10 (k+1) _ ?_ ?_ (De ?_ ?_ ?_ ?_)
        all_goals (try simp (disch:=omega) only [amL,sF,↓reduceIte])
        all_goals first | omega | exact ⟨by omega,all_stepA (d:=default) (by omega) hpre (by simp_all [Eu])⟩ | trace_state
theorem c_lto (r:Rng):Bt Tryz.prog 27 [avR r] (avR r):=by
  refine Bn (v:=[]) (q:=[]) (N:=8) (rs:=[.cell 2 58]) Tryz.func27 rfl rfl rfl rfl rfl ?_
  refine Aa fun K1 hK1=>?_
  refine Ac ?_
  simp (disch:=omega) only [amL,amT,sA,sB,sF,↓reduceIte]
  refine hK1 _ ?_
  refine Aa fun K2 hK2=>?_
  refine Ac ?_
  simp (disch:=omega) only [amL,amT,sA,sB,sE,sF,↓reduceIte,reduceCtorEq]
  refine hK2 _ ?_
  refine Ah ?_
  try simp (disch:=omega) only [amL,amT,sB,sF,↓reduceIte]
  all_goals rfl
theorem islN_all (l:List Int):((l.map fun n=>[iv n]).all fun c=>decide (c.length=1))=true:=by simp
theorem c_llist (l:List Int) (hl:l.length < 1000000):Bt Tryz.prog 63 [isl l] (isl l):=by
  refine Bn (v:=[]) (q:=[]) (N:=6) (rs:=[.tmp 2]) Tryz.func63 rfl rfl rfl rfl rfl ?_
  refine Aa fun K1 hK1=>?_
  refine Ac ?_
  simp (disch:=omega) only [amL,sA]
  refine hK1 _ ?_
  refine Aa fun K2 hK2=>?_
  refine Ac ?_
  simp (disch:=omega) only [islN_all,amL,amT,sA,sF,↓reduceIte,reduceCtorEq]
  refine hK2 _ ?_
  refine Ah ?_
  try simp (disch:=omega) only [amL,↓reduceIte]
  rw [show l.length=(l.map fun n=>[iv n]).length by simp,List.take_length]
theorem c_lsteps (l:List Stp) (hl:l.length < 1000000):Bt Tryz.prog 36 [.p (slS l)] (.p (slS l)):=by
  refine Bn (v:=[]) (q:=[]) (N:=37) (rs:=[.tmp 2]) Tryz.func36 rfl rfl rfl rfl rfl ?_
  refine Aa fun K1 hK1=>?_
  refine Ac ?_
  simp (disch:=omega) only [amL,sA]
  refine hK1 _ ?_
  refine Aa fun K2 hK2=>?_
  refine Ac ?_
  simp (disch:=omega) only [amL,sA]
  refine hK2 _ ?_
  refine Aa fun K3 hK3=>?_
  refine Aa fun K4 hK4=>?_
  refine Ac ?_
  simp (disch:=omega) only [amL,sA]
  refine hK4 _ ?_
  refine Ap ?_
  refine Po 35 5 3 (by decide) rfl rfl ?_
  refine Be (α:=Nat) (fun k=>⟨T [(0,.p (slS l)),(3,.own 35 k),(4,i64 (k:Int))],O [(35,.arr 5 ((l.take k).map Qa))]⟩) (fun k=>l.length - k) (fun k=>k≤l.length) 0 ?_ ?_ (fun k hx5 K5 hK5=>?_)
  · exact Nat.zero_le _
  · refine De ?_ ?_ ?_ ?_ <;> (try simp (disch:=omega) only [amL,sF,↓reduceIte,reduceCtorEq]); all_goals first | rfl | trace_state
  have hk:=hx5
  refine Aa fun K6 hK6=>?_
  refine Aa fun K7 hK7=>?_
  refine Ac ?_
  simp (disch:=omega) only [amL,amT,sA,sF,↓reduceIte,reduceCtorEq]
  refine hK7 _ ?_
  refine Aj rfl (fun h=>?_) (fun h=>?_)
  ·first
   | exact Bool.noConfusion h
   |skip
    try simp only [decide_eq_true_eq] at h
    refine Ak ?_
    refine hK6 _ ?_
    refine Aa fun K8 hK8=>?_
    refine Ap ?_
    refine Ce (by kernel_rfl) (by kernel_rfl) ?_
    simp (disch:=omega) only [Xh,amL,amT,sA,sB,sF,↓reduceIte,reduceCtorEq]
    repeat' first | (refine Aw (by kernel_rfl) rfl (c_lto ⟨_,_⟩) (by first | exact .inl rfl | exact .inr (.inl rfl)) ?_ ; simp (disch:=omega) only [amL,amT,sA,sB,sC,sE,sF,↓reduceIte,reduceCtorEq])
    refine hK8 _ ?_
    refine Ac ?_
    simp (disch:=omega) only [amL,amT,sA,sF,↓reduceIte,reduceCtorEq]
    refine hK5 (k+1) _ ?_ ?_ (De ?_ ?_ ?_ ?_)
    all_goals (try simp (disch:=omega) only [amL,sF,↓reduceIte,reduceCtorEq])
    all_goals first | omega | exact (congrArg (AO.arr 5) (Ab6 default (by omega))).symm | trace_state
  ·first
   | exact Bool.noConfusion h
   |skip
    try simp only [decide_eq_false_iff_not] at h
    refine Bo ?_
    refine hK3 _ ?_
    refine Aa fun K9 hK9=>?_
    refine Ac ?_
    simp (disch:=omega) only [amL,sA,sF,↓reduceIte,reduceCtorEq]
    refine hK9 _ ?_
    refine Ah ?_
    try simp (disch:=omega) only [amL,↓reduceIte]
    rw [List.take_of_length_le (by simp; omega),List.take_of_length_le (by omega)]
theorem c_lbrew (b:Ee) (h1:b.vs.length < 1000000) (h2:b.ss.length < 1000000):Bt Tryz.prog 16 [avB b] (avB b):=by
  refine Bn (v:=[]) (q:=[]) (N:=37) (rs:=[.cell 2 38]) Tryz.func16 rfl rfl rfl rfl rfl ?_
  refine Aa fun K1 hK1=>?_
  refine Ac ?_
  simp (disch:=omega) only [amL,amT,sA,sB,sF,↓reduceIte]
  refine hK1 _ ?_
  refine Aa fun K2 hK2=>?_
  refine Ac ?_
  simp (disch:=omega) only [amL,amT,sA,sB,sF,↓reduceIte]
  refine hK2 _ ?_
  refine Aa fun K3 hK3=>?_
  refine Aa fun K4 hK4=>?_
  refine Ac ?_
  simp (disch:=omega) only [amL,sA]
  refine hK4 _ ?_
  refine Ap ?_
  refine awp_adoptC' 30 5 3 0 (by decide) rfl rfl rfl ?_
  refine Be (α:=Nat) (fun k=>⟨T [(1,.ptr 1 0),(2,.ptr 2 0),(3,.ptr 3 0),(4,i64 (k:Int))],O [(1,.cells (cB b)),(2,.cells [C3,C3]),(3,.cells [.own 30 k,C3]),(30,.arr 5 ((b.vs.take k).map Aga))]⟩) (fun k=>b.vs.length - k) (fun k=>k≤b.vs.length) 0 ?_ ?_ (fun k hx5 K5 hK5=>?_)
  · exact Nat.zero_le _
  · refine De ?_ ?_ ?_ ?_ <;> (try simp (disch:=omega) only [amL,sF,sG,↓reduceIte]); all_goals first | rfl | trace_state
  have hk:=hx5
  refine Aa fun K6 hK6=>?_
  refine Aa fun K7 hK7=>?_
  refine Ac ?_
  simp (disch:=omega) only [amL,amT,sA,sF,↓reduceIte,reduceCtorEq]
  refine hK7 _ ?_
  refine Aj rfl (fun h=>?_) (fun h=>?_)
  ·first
   | exact Bool.noConfusion h
   |skip
    try simp only [decide_eq_true_eq] at h
    refine Ak ?_
    refine hK6 _ ?_
    refine Aa fun K8 hK8=>?_
    refine Ap ?_
    refine Aa fun K9 hK9=>?_
    refine Ac ?_
    simp (disch:=omega) only [Di,amL,amT,sA,sB,sF,↓reduceIte,reduceCtorEq]
    refine hK9 _ ?_
    refine Ce (by kernel_rfl) (by kernel_rfl) ?_
    simp (disch:=omega) only [amL,amT,sA,sB,sE,sF,↓reduceIte,reduceCtorEq]
    repeat' first | (refine Aw (by kernel_rfl) rfl (c_lto ⟨_,_⟩) (by first | exact .inl rfl | exact .inr (.inl rfl)) ?_ ; simp (disch:=omega) only [amL,amT,sA,sB,sC,sE,sF,↓reduceIte,reduceCtorEq])
    refine hK8 _ ?_
    refine Ac ?_
    simp (disch:=omega) only [amL,amT,sA,sF,↓reduceIte]
    refine hK5 (k+1) _ ?_ ?_ (De ?_ ?_ ?_ ?_)
    all_goals (try simp (disch:=omega) only [amL,sF,sG,↓reduceIte])
    all_goals first | omega | exact (congrArg (AO.arr 5) (Ab6 default (by omega))).symm | trace_state
  ·first
   | exact Bool.noConfusion h
   |skip
    try simp only [decide_eq_false_iff_not] at h
    refine Bo ?_
    refine hK3 _ ?_
    refine Aa fun K10 hK10=>?_
    refine Ac ?_
    simp (disch:=omega) only [amL,amT,sA,sF,↓reduceIte,reduceCtorEq]
    repeat' first | (refine Aw (by kernel_rfl) rfl (c_lsteps b.ss h2) (by first | exact .inl rfl | exact .inr (.inl rfl)) ?_ ; simp (disch:=omega) only [amL,amT,sA,sB,sF,↓reduceIte,reduceCtorEq])
    refine hK10 _ ?_
    refine Aa fun K11 hK11=>?_
    refine Ac ?_
    simp (disch:=omega) only [amL,amT,sB,sF,↓reduceIte]
    refine hK11 _ ?_
    refine Ah ?_
    try simp (disch:=omega) only [amL,amT,sB,sF,↓reduceIte]
    rw [List.take_of_length_le (by simp; omega),List.take_of_length_le (by omega)]
theorem c_ltruth (t:Tru) (h1:t.g.length < 1000000) (h2:t.d.length < 1000000) (h3:t.m.length < 1000000):Bt Tryz.prog 17 [avT t] (avT t):=by
  refine Bn (v:=[]) (q:=[]) (N:=13) (rs:=[.cell 2 40]) Tryz.func17 rfl rfl rfl rfl rfl ?_
  refine Aa fun K1 hK1=>?_
  refine Ac ?_
  simp (disch:=omega) only [amL,amT,sA,sB,sF,↓reduceIte]
  refine hK1 _ ?_
  refine Aa fun K2 hK2=>?_
  refine Ce (by kernel_rfl) (by kernel_rfl) ?_
  simp (disch:=omega) only [amL,amT,sA,sF,↓reduceIte,reduceCtorEq]
  repeat' first | (refine Aw (by kernel_rfl) rfl (by first | exact c_llist t.g h1 | exact c_llist t.d h2 | exact c_llist t.m h3) (by first | exact .inl rfl | exact .inr (.inl rfl)) ?_ ; simp (disch:=omega) only [amL,amT,sA,sB,sE,sF,↓reduceIte,reduceCtorEq])
  refine hK2 _ ?_
  refine Ah ?_
  try simp (disch:=omega) only [amL,amT,sB,sF,↓reduceIte]
  all_goals rfl
theorem c_lfault (b:Ee) (h1:b.vs.length < 1000000) (h2:b.ss.length < 1000000):Bt Tryz.prog 18 [avB b] (i64 (B5 b)):=by
  refine Bn (v:=[]) (q:=[]) (N:=5) (rs:=[.tmp 2]) Tryz.func18 rfl rfl rfl rfl rfl ?_
  refine Aa fun K1 hK1=>?_
  refine Ac ?_
  simp (disch:=omega) only [amL,sA,↓reduceIte]
  refine hK1 _ ?_
  refine Aa fun K2 hK2=>?_
  refine Ac ?_
  simp (disch:=omega) only [amL,amT,sA,sB,sF,↓reduceIte]
  repeat' first | (refine Aw (by kernel_rfl) rfl (c_rfault b h1 h2) (by first | exact .inl rfl | exact .inr (.inl rfl)) ?_ ; simp (disch:=omega) only [amL,sA,↓reduceIte])
  refine hK2 _ ?_
  refine Ah ?_
  try simp (disch:=omega) only [amL,↓reduceIte]
  skip
def thinB (b:Ee) (t:Tru):Bool:=decide ((b.vs.length:Int)≤7)&&(decide ((b.ss.length:Int)≤9)&&(decide ((t.g.length:Int)≤9)&&(decide ((t.d.length:Int)≤9)&&decide ((t.m.length:Int)≤9))))
theorem c_rnth (b:Ee) (n:Int) (hv:N6 b) (hn0:0≤n) (hn1:n≤1000000000):Bt Tryz.prog 44 [avB b,i64 n] (avT (nthX b n)):=by
  refine Bn (v:=[]) (q:=[]) (N:=92) (rs:=[.cell 4 28]) Tryz.func44 rfl rfl rfl rfl rfl ?_
  have hnv:=hv.nv
  have hns:=hv.ns
  refine Aa fun K1 hK1=>?_
  refine Ac ?_
  simp (disch:=omega) only [amL,amT,sA,sB,sF,↓reduceIte]
  refine hK1 _ ?_
  refine Aa fun K2 hK2=>?_
  refine Ac ?_
  simp (disch:=omega) only [amL,amT,sA,sB,sF,↓reduceIte]
  refine hK2 _ ?_
  refine Aa fun K3 hK3=>?_
  refine Aa fun K4 hK4=>?_
  refine Ac ?_
  simp (disch:=omega) only [amL,sA]
  refine hK4 _ ?_
  refine Ap ?_
  refine awp_adoptC' 40 1 5 0 (by decide) rfl rfl rfl ?_
  refine awp_adoptC' 56 1 5 1 (by decide) rfl rfl rfl ?_
  refine Be (α:=(List Int × List Int) × Int) (fun x=>⟨T [(1,i64 x.2),(2,.ptr 2 0),(4,.ptr 4 0),(5,.ptr 5 0),(6,i64 (x.1.1.length:Int))],O [(2,.cells (cB b)),(4,.cells [C3,C3,C3]),(5,.cells [.own 40 x.1.1.length,.own 56 x.1.2.length,C3]),(40,.arr 1 (x.1.1.map J8)),(56,.arr 1 (x.1.2.map J8))]⟩) (fun x=>b.vs.length - x.1.1.length) (fun x=>x.1.1.length≤b.vs.length∧x.1.2.length=x.1.1.length∧(0≤x.2∧x.2≤1000000000)∧accV x.1.1 x.1.2 (nthV (b.vs.drop x.1.1.length) x.2)=nthV b.vs n) (([],[]),n) ?_ ?_ (fun x hx5 K5 hK5=>?_)
  · exact ⟨Nat.zero_le _,rfl,⟨hn0,hn1⟩,rfl⟩
  · refine De ?_ ?_ ?_ ?_ <;> (try simp (disch:=omega) only [amL,sF,sG,↓reduceIte,reduceCtorEq]); all_goals first | rfl | trace_state
  obtain ⟨⟨gs,ds⟩,m⟩:=x; dsimp only at hx5 ⊢; obtain ⟨hk,hk2,⟨hm0,hm1⟩,hr⟩:=hx5
  refine Aa fun K6 hK6=>?_
  refine Aa fun K7 hK7=>?_
  refine Ac ?_
  simp (disch:=omega) only [amL,amT,sA,sF,↓reduceIte,reduceCtorEq]
  refine hK7 _ ?_
  refine Aj rfl (fun h=>MT.x ?_) (fun h=>ME.x ?_)
  all_goals
   first
   |refine MT.mk ?_
    first
    |exact Bool.noConfusion h
    |skip
     try simp only [nrm] at h
     refine Ak ?_
     refine hK6 _ ?_
   |refine ME.mk ?_
    first
    |exact Bool.noConfusion h
    |skip
     try simp only [nrm] at h
     refine Bo ?_
     refine hK3 _ ?_
     refine Aa fun K8 hK8=>?_
     refine Aa fun K9 hK9=>?_
     refine Ac ?_
     simp (disch:=omega) only [amL,sA]
     refine hK9 _ ?_
     refine Ap ?_
     refine awp_adoptC' 85 1 5 2 (by decide) rfl rfl rfl ?_
     refine Be (α:=List Int × Int) (fun x=>⟨T [(1,i64 x.2),(2,.ptr 2 0),(4,.ptr 4 0),(5,.ptr 5 0),(9,i64 (x.1.length:Int))],O [(2,.cells (cB b)),(4,.cells [C3,C3,C3]),(5,.cells [.own 40 gs.length,.own 56 ds.length,.own 85 x.1.length]),(40,.arr 1 (gs.map J8)),(56,.arr 1 (ds.map J8)),(85,.arr 1 (x.1.map J8))]⟩) (fun x=>b.ss.length - x.1.length) (fun x=>x.1.length≤b.ss.length∧(0≤x.2∧x.2≤1000000000)∧x.1++nthS (b.ss.drop x.1.length) x.2=nthS b.ss m) ([],m) ?_ ?_ (fun x hx10 K10 hK10=>?_)
     · exact ⟨Nat.zero_le _,⟨hm0,hm1⟩,rfl⟩
     · refine De ?_ ?_ ?_ ?_ <;> (try simp (disch:=omega) only [amL,sF,sG,↓reduceIte]); all_goals first | rfl | trace_state
     obtain ⟨ms,m2⟩:=x; dsimp only at hx10 ⊢; obtain ⟨hj,⟨hm20,hm21⟩,hr2⟩:=hx10
     refine Aa fun K11 hK11=>?_
     refine Aa fun K12 hK12=>?_
     refine Ac ?_
     simp (disch:=omega) only [amL,amT,sA,sF,↓reduceIte,reduceCtorEq]
     refine hK12 _ ?_
     refine Aj rfl (fun h=>MT.x ?_) (fun h=>ME.x ?_)
     all_goals
      first
      |refine MT.mk ?_
       first
       |exact Bool.noConfusion h
       |skip
        try simp only [nrm] at h
        refine Ak ?_
        refine hK11 _ ?_
      |refine ME.mk ?_
       first
       |exact Bool.noConfusion h
       |skip
        try simp only [nrm] at h
        refine Bo ?_
        refine hK8 _ ?_
        refine Aa fun K13 hK13=>?_
        refine Ac ?_
        simp (disch:=omega) only [amL,amT,sB,sF,↓reduceIte]
        refine hK13 _ ?_
        refine Ah ?_
        try simp (disch:=omega) only [amL,amT,sB,sF,↓reduceIte]
        have e1:=acc_end (by omega) hr
        have e2:=nthS_end (by omega) hr2
        unfold nthX
        rw [e1]
        dsimp only
        rw [e2,List.take_of_length_le (by simp),List.take_of_length_le (by simp),List.take_of_length_le (by simp)]
     all_goals
      skip
      refine Aa fun K14 hK14=>?_
      refine Ap ?_
      refine Aa fun K15 hK15=>?_
      refine Ac ?_
      simp (disch:=omega) only [Xh,amL,amT,sA,sB,sF,↓reduceIte,reduceCtorEq]
      refine hK15 _ ?_
      refine Aa fun K16 hK16=>?_
      refine Ce (by kernel_rfl) (by kernel_rfl) ?_
      have hk3:ms.length < b.ss.length:=by omega
      have hp1:=(Fy (hv.stp hk3)).2.2.2.2
      have z1:=P4 hp1
      have y1:=C8 hp1
      have hmo:=mod_nn (m:=m2) z1.1
      have hdi:=div_nn hm20 z1.1
      have htm:m2.tmod (Fa (b.ss.getD ms.length default).g)=m2 % Fa (b.ss.getD ms.length default).g:=Int.tmod_eq_emod_of_nonneg hm20
      have htd:m2.tdiv (Fa (b.ss.getD ms.length default).g)=m2 / Fa (b.ss.getD ms.length default).g:=Int.tdiv_eq_ediv_of_nonneg hm20
      simp (disch:=omega) only [amL,amT,sA,sB,sF,↓reduceIte,reduceCtorEq]
      repeat' first | (refine Aw (by kernel_rfl) rfl (by first | exact c_rsize (b.vs.getD gs.length default).g (by omega) (by omega) | exact c_rsize (b.vs.getD gs.length default).d (by omega) (by omega) | exact c_rsize (b.ss.getD ms.length default).g (by omega) (by omega)) (by first | exact .inl rfl | exact .inr (.inl rfl)) ?_ ; simp (disch:=omega) only [htm,amL,amT,sA,sB,sE,sF,↓reduceIte,reduceCtorEq])
      refine hK16 _ ?_
      refine Ac ?_
      simp (disch:=omega) only [amL,amT,sA,sB,sF,↓reduceIte]
      repeat' first | (refine Aw (by kernel_rfl) rfl (by first | exact c_rsize (b.vs.getD gs.length default).g (by omega) (by omega) | exact c_rsize (b.vs.getD gs.length default).d (by omega) (by omega) | exact c_rsize (b.ss.getD ms.length default).g (by omega) (by omega)) (by first | exact .inl rfl | exact .inr (.inl rfl)) ?_ ; simp (disch:=omega) only [htd,amL,amT,sA,sF,↓reduceIte])
      refine hK14 _ ?_
      refine Ac ?_
      simp (disch:=omega) only [amL,amT,sA,sF,↓reduceIte]
      refine hK10 (ms++[(b.ss.getD ms.length default).g.lo+m2 % Fa (b.ss.getD ms.length default).g],m2 / Fa (b.ss.getD ms.length default).g) _ ?_ ?_ (De ?_ ?_ ?_ ?_)
      all_goals (try simp (disch:=omega) only [amL,sF,sG,↓reduceIte])
      all_goals first | omega | exact ⟨by simp; omega,⟨by omega,by omega⟩,nthS_step (by omega) hr2 _ rfl⟩ | (simp; omega) | (rw [List.length_append]; rfl) | (rw [List.map_append]; rfl) | (simp; done) | trace_state
  all_goals
   skip
   refine Aa fun K17 hK17=>?_
   refine Ap ?_
   refine Aa fun K18 hK18=>?_
   refine Ab4 [.sto [2] 7,.sto [24] 7,.sto [25,26] 7,.sto [27] 7,.sto [28] 7] (by kernel_rfl) (by kernel_rfl) ?_
   simp (disch:=omega) only [Di,amL,amT,sA,sB,sE,sF,↓reduceIte,reduceCtorEq]
   refine ⟨by simp [Cf.ok,Rr,T,AV.known,AV.clean],?_⟩
   all_goals
    skip
    refine hK18 _ ?_
    refine Aa fun K19 hK19=>?_
    refine Ce (by kernel_rfl) (by kernel_rfl) ?_
    have hk3:gs.length < b.vs.length:=by omega
    obtain ⟨hp1,hp2,_⟩:=C9 (hv.ves hk3)
    have z1:=P4 hp1
    have z2:=P4 hp2
    have y1:=C8 hp1
    have y2:=C8 hp2
    have hmo:=mod_nn (m:=m) z1.1
    have hdi:=div_nn hm0 z1.1
    have htm:m.tmod (Fa (b.vs.getD gs.length default).g)=m % Fa (b.vs.getD gs.length default).g:=Int.tmod_eq_emod_of_nonneg hm0
    have htd:m.tdiv (Fa (b.vs.getD gs.length default).g)=m / Fa (b.vs.getD gs.length default).g:=Int.tdiv_eq_ediv_of_nonneg hm0
    have hmo2:=mod_nn (m:=m / Fa (b.vs.getD gs.length default).g) z2.1
    have hdi2:=div_nn hdi.1 z2.1
    have htm2:(m / Fa (b.vs.getD gs.length default).g).tmod (Fa (b.vs.getD gs.length default).d)=m / Fa (b.vs.getD gs.length default).g % Fa (b.vs.getD gs.length default).d:=Int.tmod_eq_emod_of_nonneg hdi.1
    have htd2:(m / Fa (b.vs.getD gs.length default).g).tdiv (Fa (b.vs.getD gs.length default).d)=m / Fa (b.vs.getD gs.length default).g / Fa (b.vs.getD gs.length default).d:=Int.tdiv_eq_ediv_of_nonneg hdi.1
    simp (disch:=omega) only [amL,amT,sA,sB,sF,↓reduceIte,reduceCtorEq]
    repeat' first | (refine Aw (by kernel_rfl) rfl (by first | exact c_rsize (b.vs.getD gs.length default).g (by omega) (by omega) | exact c_rsize (b.vs.getD gs.length default).d (by omega) (by omega) | exact c_rsize (b.ss.getD ms.length default).g (by omega) (by omega)) (by first | exact .inl rfl | exact .inr (.inl rfl)) ?_ ; simp (disch:=omega) only [htm,amL,amT,sA,sB,sE,sF,↓reduceIte,reduceCtorEq])
    refine hK19 _ ?_
    refine Aa fun K20 hK20=>?_
    refine Ac ?_
    simp (disch:=omega) only [amL,amT,sA,sB,sF,↓reduceIte]
    repeat' first | (refine Aw (by kernel_rfl) rfl (by first | exact c_rsize (b.vs.getD gs.length default).g (by omega) (by omega) | exact c_rsize (b.vs.getD gs.length default).d (by omega) (by omega) | exact c_rsize (b.ss.getD ms.length default).g (by omega) (by omega)) (by first | exact .inl rfl | exact .inr (.inl rfl)) ?_ ; simp (disch:=omega) only [htd,amL,amT,sA,sF,↓reduceIte])
    refine hK20 _ ?_
    refine Aa fun K21 hK21=>?_
    refine Ce (by kernel_rfl) (by kernel_rfl) ?_
    simp (disch:=omega) only [amL,amT,sA,sB,sF,↓reduceIte,reduceCtorEq]
    repeat' first | (refine Aw (by kernel_rfl) rfl (by first | exact c_rsize (b.vs.getD gs.length default).g (by omega) (by omega) | exact c_rsize (b.vs.getD gs.length default).d (by omega) (by omega) | exact c_rsize (b.ss.getD ms.length default).g (by omega) (by omega)) (by first | exact .inl rfl | exact .inr (.inl rfl)) ?_ ; simp (disch:=omega) only [htm2,amL,amT,sA,sB,sE,sF,↓reduceIte,reduceCtorEq])
    refine hK21 _ ?_
    refine Ac ?_
    simp (disch:=omega) only [amL,amT,sA,sB,sF,↓reduceIte]
    repeat' first | (refine Aw (by kernel_rfl) rfl (by first | exact c_rsize (b.vs.getD gs.length default).g (by omega) (by omega) | exact c_rsize (b.vs.getD gs.length default).d (by omega) (by omega) | exact c_rsize (b.ss.getD ms.length default).g (by omega) (by omega)) (by first | exact .inl rfl | exact .inr (.inl rfl)) ?_ ; simp (disch:=omega) only [htd2,amL,amT,sA,sF,↓reduceIte])
    refine hK17 _ ?_
    refine Ac ?_
    simp (disch:=omega) only [amL,amT,sA,sF,↓reduceIte]
    refine hK5 ((gs++[(b.vs.getD gs.length default).g.lo+m % Fa (b.vs.getD gs.length default).g],ds++[(b.vs.getD gs.length default).d.lo+m / Fa (b.vs.getD gs.length default).g % Fa (b.vs.getD gs.length default).d]),nextV (b.vs.getD gs.length default) m) _ ?_ ?_ (De ?_ ?_ ?_ ?_)
    all_goals (try simp (disch:=omega) only [amL,sF,sG,↓reduceIte])
    all_goals first | omega | exact ⟨by simp; omega,by simp [hk2],⟨hdi2.1,Int.le_trans hdi2.2 (Int.le_trans hdi.2 hm1)⟩,acc_step (by omega) hr _ _ rfl rfl⟩ | (simp; omega) | (rw [List.length_append]; rfl) | (rw [List.map_append]; rfl) | (simp; done) | trace_state
theorem c_lthin0 (b:Ee):Bt Tryz.prog 13 [avB b,.agg [C3,C3,C3]] (bl (thinB b ⟨[],[],[]⟩)):=by
  refine Bn (v:=[]) (q:=[]) (N:=33) (rs:=[.tmp 4]) Tryz.func13 rfl rfl rfl rfl rfl ?_
  refine Aa fun K1 hK1=>?_
  refine Ac ?_
  simp (disch:=omega) only [amL,sA,sB,sF,↓reduceIte,reduceCtorEq]
  refine hK1 _ ?_
  refine Aa fun K2 hK2=>?_
  refine Ac ?_
  simp (disch:=omega) only [amL,amT,sA,sF,↓reduceIte,reduceCtorEq]
  repeat' first | (refine E0 (fun h=>?_) (fun h=>?_) <;> simp (disch:=omega) only [h,amL,amT,sA,sF,sL,↓reduceIte,reduceCtorEq]) | (refine Cz (fun h=>?_) (fun h=>?_) <;> simp (disch:=omega) only [h,amL,amT,sA,sB,sC,sD,sE,sF,sG,sH,sI,sJ,sK,sL,sM,sN,sO,↓reduceIte,reduceCtorEq])
  all_goals
   skip
   refine hK2 _ ?_
   refine Ah ?_
   try simp (disch:=omega) only [amL,↓reduceIte]
   all_goals first | (simp only [thinB, *,decide_true,decide_false,Bool.true_and,Bool.false_and]; done) | (simp_all [thinB]; done) | (simp_all [thinB]; omega)
theorem thin0 {b:Ee} {t:Tru} (h:thinB b t=true):b.vs.length < 1000000∧b.ss.length < 1000000:=by
  simp only [thinB,Bool.and_eq_true,decide_eq_true_eq] at h
  omega
def readyB (b:Ee):Bool:=thinB b ⟨[],[],[]⟩&&decide (B5 b=0)
theorem c_lready (b:Ee):Bt Tryz.prog 42 [avB b] (bl (readyB b)):=by
  refine Bn (v:=[]) (q:=[]) (N:=11) (rs:=[.tmp 2]) Tryz.func42 rfl rfl rfl rfl rfl ?_
  refine Aa fun K1 hK1=>?_
  refine Ac ?_
  simp (disch:=omega) only [amL,sA,↓reduceIte]
  refine hK1 _ ?_
  refine Aa fun K2 hK2=>?_
  refine Ac ?_
  simp (disch:=omega) only [amL,amT,sA,sB,sF,↓reduceIte]
  repeat' first | (refine E0 (fun h=>?_) (fun h=>?_) <;> simp (disch:=omega) only [h,amL,amT,sA,sB,sC,sD,sE,sF,sG,sH,sI,sJ,sK,sL,sM,sN,sO,↓reduceIte,reduceCtorEq]) | (refine Cz (fun h=>?_) (fun h=>?_) <;> simp (disch:=omega) only [h,amL,amT,sA,sB,sF,↓reduceIte]) | (refine Aw (by kernel_rfl) rfl (c_lthin0 b) (by first | exact .inl rfl | exact .inr (.inl rfl)) ?_ ; simp (disch:=omega) only [amL,sA,↓reduceIte]) | (refine Aw (by kernel_rfl) rfl (c_lfault b (thin0 (by assumption)).1 (thin0 (by assumption)).2) (by first | exact .inl rfl | exact .inr (.inl rfl)) ?_ ; simp (disch:=omega) only [amL,amT,sA,sF,↓reduceIte])
  all_goals
   skip
   refine hK2 _ ?_
   refine Ah ?_
   try simp (disch:=omega) only [amL,↓reduceIte]
   all_goals first | (simp_all [readyB]; done) | trace_state
theorem c_rgrav (e g:Int) (h1:0≤e∧e≤1000000000) (h2:0≤g∧g≤1000000):Bt Tryz.prog 122 [i64 e,i64 g] (i64 (gravX e g)):=by
  refine Bn (v:=[]) (q:=[]) (N:=22) (rs:=[.tmp 4]) Tryz.func122 rfl rfl rfl rfl rfl ?_
  refine Aa fun K1 hK1=>?_
  refine Ac ?_
  simp (disch:=omega) only [amL,sA,sB]
  refine hK1 _ ?_
  refine Aa fun K2 hK2=>?_
  refine Aa fun K3 hK3=>?_
  refine Ac ?_
  simp (disch:=omega) only [amL,amT,sA,sF,↓reduceIte,reduceCtorEq]
  refine hK3 _ ?_
  refine Aj rfl (fun h=>?_) (fun h=>?_)
  ·first
   | exact Bool.noConfusion h
   |skip
    try simp only [decide_eq_true_eq] at h
    refine Aa fun K4 hK4=>?_
    refine Ac ?_
    simp (disch:=omega) only [amL,sA]
    refine hK4 _ ?_
    refine Ah ?_
    try simp (disch:=omega) only [amL,↓reduceIte]
    first | (rw [gravX,if_pos h]; done) | (rw [gravX,if_neg (by assumption),if_pos (by assumption)]; done) | (rw [gravX,if_neg (by assumption),if_neg (by assumption)]; done) | trace_state
  ·first
   | exact Bool.noConfusion h
   |skip
    try simp only [decide_eq_false_iff_not] at h
    refine Ak ?_
    refine hK2 _ ?_
    refine Aa fun K5 hK5=>?_
    refine Ac ?_
    have hb:=gravX_bound h1.1 (show 0 < g by omega)
    have htd:e.tdiv g=e / g:=Int.tdiv_eq_ediv_of_nonneg h1.1
    have hw1:IntKind.i64.wrap (e / g)=e / g:=Fc (by omega) (by omega)
    simp (disch:=omega) only [htd,hw1,amL,amT,sA,sF,↓reduceIte,reduceCtorEq]
    refine hK5 _ ?_
    refine Aa fun K6 hK6=>?_
    refine Aa fun K7 hK7=>?_
    refine Ac ?_
    have hw2:IntKind.i64.wrap (e / g * g)=e / g * g:=Fc (by omega) (by omega)
    have hw3:IntKind.i64.wrap (e - e / g * g)=e - e / g * g:=Fc (by omega) (by omega)
    simp (disch:=omega) only [hw2,hw3,amL,amT,sA,sF,↓reduceIte,reduceCtorEq]
    refine hK7 _ ?_
    refine Aj rfl (fun h=>?_) (fun h=>?_)
    ·first
     | exact Bool.noConfusion h
     |skip
      try simp only [decide_eq_true_eq] at h
      refine Ac ?_
      simp (disch:=omega) only [amL,amT,sA,sF,↓reduceIte]
      refine hK6 _ ?_
      refine Aa fun K8 hK8=>?_
      refine Ac ?_
      simp (disch:=omega) only [amL,sA,↓reduceIte]
      refine hK8 _ ?_
      refine Ah ?_
      try simp (disch:=omega) only [amL,↓reduceIte]
      first | (rw [gravX,if_pos h]; done) | (rw [gravX,if_neg (by assumption),if_pos (by assumption)]; done) | (rw [gravX,if_neg (by assumption),if_neg (by assumption)]; done) | trace_state
    ·first
     | exact Bool.noConfusion h
     |skip
      try simp only [decide_eq_false_iff_not] at h
      refine Ak ?_
      refine hK6 _ ?_
      refine Aa fun K9 hK9=>?_
      refine Ac ?_
      simp (disch:=omega) only [amL,sA,sF,↓reduceIte]
      refine hK9 _ ?_
      refine Ah ?_
      try simp (disch:=omega) only [amL,↓reduceIte]
      first | (rw [gravX,if_pos h]; done) | (rw [gravX,if_neg (by assumption),if_pos (by assumption)]; done) | (rw [gravX,if_neg (by assumption),if_neg (by assumption)]; done) | trace_state
theorem c_rweighed (l:List Sta) (hl:l.length < 1000000) (hs:∀ k,(0≤(l.getD k default).e∧(l.getD k default).e≤1000000000)∧0≤(l.getD k default).g∧(l.getD k default).g≤1000000):Bt Tryz.prog 92 [.p (.sl (l.map Bb7))] (.p (.sl ((l.map wei).map Bb7))):=by
  refine Bn (v:=[]) (q:=[]) (N:=37) (rs:=[.tmp 2]) Tryz.func92 rfl rfl rfl rfl rfl ?_
  refine Aa fun K1 hK1=>?_
  refine Ac ?_
  simp (disch:=omega) only [amL,sA]
  refine hK1 _ ?_
  refine Aa fun K2 hK2=>?_
  refine Ac ?_
  simp (disch:=omega) only [amL,sA]
  refine hK2 _ ?_
  refine Aa fun K3 hK3=>?_
  refine Aa fun K4 hK4=>?_
  refine Ac ?_
  simp (disch:=omega) only [amL,sA]
  refine hK4 _ ?_
  refine Ap ?_
  refine Po 35 3 3 (by decide) rfl rfl ?_
  refine Be (α:=Nat) (fun k=>⟨T [(0,.p (.sl (l.map Bb7))),(3,.own 35 k),(4,i64 (k:Int))],O [(35,.arr 3 (((l.take k).map wei).map Bb7))]⟩) (fun k=>l.length - k) (fun k=>k≤l.length) 0 ?_ ?_ (fun k hx5 K5 hK5=>?_)
  · exact Nat.zero_le _
  · refine De ?_ ?_ ?_ ?_ <;> (try simp (disch:=omega) only [amL,sF,↓reduceIte,reduceCtorEq]); all_goals first | rfl | trace_state
  have hk:=hx5
  refine Aa fun K6 hK6=>?_
  refine Aa fun K7 hK7=>?_
  refine Ac ?_
  simp (disch:=omega) only [amL,amT,sA,sF,↓reduceIte,reduceCtorEq]
  refine hK7 _ ?_
  refine Aj rfl (fun h=>?_) (fun h=>?_)
  ·first
   | exact Bool.noConfusion h
   |skip
    try simp only [decide_eq_true_eq] at h
    refine Ak ?_
    refine hK6 _ ?_
    refine Aa fun K8 hK8=>?_
    refine Ap ?_
    refine Ce (by kernel_rfl) (by kernel_rfl) ?_
    simp (disch:=omega) only [encA_getD,amL,amT,sA,sB,sF,↓reduceIte,reduceCtorEq]
    repeat' first | (refine Aw (by kernel_rfl) rfl (c_rgrav (l.getD k default).e (l.getD k default).g (hs k).1 (hs k).2) (by first | exact .inl rfl | exact .inr (.inl rfl)) ?_ ; simp (disch:=omega) only [amL,amT,sA,sB,sC,sE,sF,↓reduceIte,reduceCtorEq])
    refine hK8 _ ?_
    refine Ac ?_
    simp (disch:=omega) only [amL,amT,sA,sF,↓reduceIte,reduceCtorEq]
    refine hK5 (k+1) _ ?_ ?_ (De ?_ ?_ ?_ ?_)
    all_goals (try simp (disch:=omega) only [amL,sF,↓reduceIte,reduceCtorEq])
    all_goals first | omega | (rw [Ab6 default (by omega),List.map_append]; rfl) | trace_state
  ·first
   | exact Bool.noConfusion h
   |skip
    try simp only [decide_eq_false_iff_not] at h
    refine Bo ?_
    refine hK3 _ ?_
    refine Aa fun K9 hK9=>?_
    refine Ac ?_
    simp (disch:=omega) only [amL,sA,sF,↓reduceIte,reduceCtorEq]
    refine hK9 _ ?_
    refine Ah ?_
    try simp (disch:=omega) only [amL,↓reduceIte]
    rw [List.take_of_length_le (by simp; omega),List.take_of_length_le (by omega)]
theorem c_rbegin (b:Ee) (t:Tru) (hv:N6 b) (hl:F1 b t=true):Bt Tryz.prog 53 [avB b,avT t] (.tup [.p (.sl (stL (beginX b.vs t.g t.d))),bl (roomX b.vs t.g)]):=by
  refine Bn (v:=[]) (q:=[]) (N:=54) (rs:=[.tmp 4,.tmp 5]) Tryz.func53 rfl rfl rfl rfl rfl ?_
  have hnv:=hv.nv
  obtain ⟨p1,p2,p3,p4,p5⟩:=Dj hl
  obtain ⟨s1,s2,s3⟩:=L0 hv hl
  have hbo:=beginX_ok hv hl
  have hbl:=hbo.len hnv
  refine Aa fun K1 hK1=>?_
  refine Ac ?_
  simp (disch:=omega) only [amL,sA,sB,sF,↓reduceIte,reduceCtorEq]
  refine hK1 _ ?_
  refine Aa fun K2 hK2=>?_
  refine Ac ?_
  simp (disch:=omega) only [amL,sA]
  refine hK2 _ ?_
  refine Aa fun K3 hK3=>?_
  refine Ac ?_
  simp (disch:=omega) only [amL,sA]
  refine hK3 _ ?_
  refine Aa fun K4 hK4=>?_
  refine Aa fun K5 hK5=>?_
  refine Ac ?_
  simp (disch:=omega) only [amL,sA]
  refine hK5 _ ?_
  refine Ap ?_
  refine Po 35 3 6 (by decide) rfl rfl ?_
  refine Be (α:=List Liq × Bool) (fun x=>⟨T [(2,.ptr 2 0),(3,.ptr 3 0),(6,.own 35 x.1.length),(7,bl x.2),(8,i64 (x.1.length:Int))],O [(2,.cells (cB b)),(3,.cells (cT t)),(35,.arr 3 ((x.1.map rawA).map Bb7))]⟩) (fun x=>b.vs.length - x.1.length) (fun x=>x.1.length≤b.vs.length∧x.1++restG (b.vs.drop x.1.length) t.g t.d x.1.length=beginX b.vs t.g t.d∧(x.2&&roomF (b.vs.drop x.1.length) t.g x.1.length)=roomX b.vs t.g) ([],true) ?_ ?_ (fun x hx6 K6 hK6=>?_)
  · exact ⟨Nat.zero_le _,rfl,rfl⟩
  · refine De ?_ ?_ ?_ ?_ <;> (try simp (disch:=omega) only [amL,sF,sG,↓reduceIte]); all_goals first | rfl | trace_state
  obtain ⟨acc,is⟩:=x; dsimp only at hx6 ⊢; obtain ⟨hk,hr1,hr2⟩:=hx6
  refine Aa fun K7 hK7=>?_
  refine Aa fun K8 hK8=>?_
  refine Ac ?_
  simp (disch:=omega) only [amL,amT,sA,sF,↓reduceIte,reduceCtorEq]
  refine hK8 _ ?_
  refine Aj rfl (fun h=>?_) (fun h=>?_)
  ·first
   | exact Bool.noConfusion h
   |skip
    try simp only [decide_eq_true_eq] at h
    refine Ak ?_
    refine hK7 _ ?_
    refine Aa fun K9 hK9=>?_
    refine Ap ?_
    refine Aa fun K10 hK10=>?_
    refine Ce (by kernel_rfl) (by kernel_rfl) ?_
    have g1:=s1 acc.length
    have g2:=s2 acc.length
    have g3:=mulX1 (show 0≤t.g.getD acc.length 0∧t.g.getD acc.length 0≤100000 by omega) (show 0≤t.d.getD acc.length 0∧t.d.getD acc.length 0≤100000 by omega)
    simp (disch:=omega) only [Bl,amL,amT,sA,sB,sC,sE,sF,↓reduceIte,reduceCtorEq]
    refine hK10 _ ?_
    refine Ce (by kernel_rfl) (by kernel_rfl) ?_
    simp (disch:=omega) only [amL,sA,sF,↓reduceIte]
    repeat' first | (refine E0 (fun h=>?_) (fun h=>?_) <;> simp (disch:=omega) only [h,Di,Bl,amL,amT,sA,sB,sC,sD,sE,sF,sG,sH,sI,sJ,sK,sL,sM,sN,sO,↓reduceIte,reduceCtorEq]) | (refine Cz (fun h=>?_) (fun h=>?_) <;> simp (disch:=omega) only [h,Di,Bl,amL,amT,sA,sB,sF,↓reduceIte,reduceCtorEq])
    all_goals
     skip
     refine hK9 _ ?_
     refine Ac ?_
     simp (disch:=omega) only [amL,amT,sA,sF,↓reduceIte]
     refine hK6 (acc++[⟨t.g.getD acc.length 0,t.g.getD acc.length 0 * t.d.getD acc.length 0⟩],is&&decide (t.g.getD acc.length 0≤(b.vs.getD acc.length default).room)) _ ?_ ?_ (De ?_ ?_ ?_ ?_)
     all_goals (try simp (disch:=omega) only [amL,sF,sG,↓reduceIte])
     all_goals first | omega | exact beg_step (by omega) hr1 hr2 | (simp; omega) | exact ⟨by simp,by simp_all,by simp⟩ | (rw [List.map_append,List.map_append]; rfl) | trace_state
  ·first
   | exact Bool.noConfusion h
   |skip
    try simp only [decide_eq_false_iff_not] at h
    refine Bo ?_
    refine hK4 _ ?_
    refine Aa fun K11 hK11=>?_
    have e1:acc=beginX b.vs t.g t.d:=by rw [rest_end (by omega),List.append_nil] at hr1; exact hr1
    have e2:is=roomX b.vs t.g:=by rw [room_end (by omega),Bool.and_true] at hr2; exact hr2
    subst e1 e2
    refine awp_frz' 35 rfl ?_
    simp only [Xf,frzO,AV.frz,AO.frz,List.map_cons,List.map_nil,Nat.reduceEqDiff,if_false,if_true,Nat.le_refl,List.length_map]
    rw [List.take_of_length_le (by simp)]
    refine Ac ?_
    simp (disch:=omega) only [amL,sA,sF,↓reduceIte]
    refine Aw (by kernel_rfl) rfl (c_rweighed ((beginX b.vs t.g t.d).map rawA) (by simp; omega) (raw_small hbo)) (by first | exact .inl rfl | exact .inr (.inl rfl)) ?_
    rw [raw_wei hbo]
    simp (disch:=omega) only [amL,sA,sF,↓reduceIte]
    refine hK11 _ ?_
    refine Ah ?_
    try simp (disch:=omega) only [amL,sF,↓reduceIte]
    skip
theorem c_rdo (b:Ee) (v:List Liq) (s:Stp) (n:Int) (hv:N6 b) (ho:OkN b.vs.length v) (hr:RoomV b.vs v) (hs:F7 b.vs.length s=true) (hn:0≤n∧n≤60) :
    Bt Tryz.prog 70 [avB b,.p (.sl (stL v)),avS s,i64 n] (.tup [.p (.sl (stL (doX b.vs v s n).1)),bl (doX b.vs v s n).2]):=by
  rw [stL_map,stL_map]
  refine Bn (v:=[]) (q:=[]) (N:=126) (rs:=[.tmp 8,.tmp 9]) Tryz.func70 rfl rfl rfl rfl rfl ?_
  have hnv:=hv.nv
  have hvl:=ho.len hnv
  obtain ⟨q1,q2,q3,q4,_⟩:=Fy hs
  obtain ⟨⟨f1,f2⟩,f3,f4⟩:=ho.at s.frm.toNat
  obtain ⟨⟨t1,t2⟩,t3,t4⟩:=ho.at s.to.toNat
  obtain ⟨S,hS⟩:∃ S,S=v.map Azh:=⟨_,rfl⟩
  have hSl:S.length=b.vs.length:=by rw [hS,List.length_map,hvl]
  have hSf:S.getD s.frm.toNat default=Azh (B0 v s.frm.toNat):=by rw [hS]; exact getA_sta (by omega)
  have hSt:S.getD s.to.toNat default=Azh (B0 v s.to.toNat):=by rw [hS]; exact getA_sta (by omega)
  have hSm:SmA S:=by rw [hS]; exact sm_sta ho
  have hSp:S.map prA=v:=by rw [hS]; exact pr_sta v
  rw [← hS]
  refine Aa fun K1 hK1=>?_
  refine Ac ?_
  simp (disch:=(first | omega | (simp only [List.length_set]; omega))) only [amL,sA,sB,sF,↓reduceIte,reduceCtorEq]
  refine hK1 _ ?_
  refine Aa fun K2 hK2=>?_
  refine Ac ?_
  simp (disch:=(first | omega | (simp only [List.length_set]; omega))) only [encA_all,amL,amT,sA,sB,sF,↓reduceIte,reduceCtorEq]
  refine hK2 _ ?_
  refine Aa fun K3 hK3=>?_
  refine Ac ?_
  simp (disch:=(first | omega | (simp only [List.length_set]; omega))) only [amL,sA]
  refine hK3 _ ?_
  refine Aa fun K4 hK4=>?_
  refine Aa fun K5 hK5=>?_
  refine Ac ?_
  simp (disch:=(first | omega | (simp only [List.length_set]; omega))) only [amL,amT,sA,sF,↓reduceIte,reduceCtorEq]
  refine hK5 _ ?_
  refine Aj rfl (fun h=>MT.x ?_) (fun h=>ME.x ?_)
  all_goals
   first
   |refine MT.mk ?_
    first
    |exact Bool.noConfusion h
    |((try simp only [nrm] at h) ; exfalso ; omega)
    |skip
     try simp only [nrm] at h
     refine Aa fun K6 hK6=>?_
     refine Aa fun K7 hK7=>?_
     refine Ac ?_
     simp (disch:=(first | omega | (simp only [List.length_set]; omega))) only [encA_getD,hSf,staG,staE,amL,amT,sA,sF,↓reduceIte,reduceCtorEq]
     refine hK7 _ ?_
     refine Aj rfl (fun h=>MT.x ?_) (fun h=>ME.x ?_)
     all_goals
      first
      |refine MT.mk ?_
       first
       |exact Bool.noConfusion h
       |((try simp only [nrm] at h) ; exfalso ; omega)
       |skip
        try simp only [nrm] at h
        refine Aa fun K8 hK8=>?_
        refine Ac ?_
        simp (disch:=(first | omega | (simp only [List.length_set]; omega))) only [amL,sA,sF,↓reduceIte,reduceCtorEq]
        refine hK8 _ ?_
        refine Ah ?_
        try simp (disch:=(first | omega | (simp only [List.length_set]; omega))) only [amL,sF,↓reduceIte]
        all_goals first | (exfalso; omega) | exact doA hS (do_x1 (by omega) hs hvl (by omega)) rfl rfl | exact doA hS (doX_false (by rw [do_move (by omega) hs hvl (by omega) (by omega)]; exact decide_eq_false (by omega))) rfl rfl | exact doA hS (doX_false (by rw [do_move0 (by omega) (by omega) (by omega)]; exact decide_eq_false (by omega))) rfl rfl | exact doA hS (doX_false (by rw [do_water (by omega) hs hvl]; exact decide_eq_false (by omega))) rfl rfl | exact doA hS (doX_false (by rw [do_boil (by omega) hs hvl hr hn.1,decide_eq_false (by omega),decide_eq_true (by omega),decide_eq_false (by omega)]; rfl)) rfl rfl | exact doB (by rw [do_move (by omega) hs hvl (by omega) (by omega),decide_eq_true (by omega)]) (by repeat' first | exact hSm | refine sm_set ?_ (by dsimp only; omega)) (by simp only [List.map_set,hSp]; rfl) | exact doB (by rw [do_water (by omega) hs hvl,decide_eq_true (by omega)]) (by repeat' first | exact hSm | refine sm_set ?_ (by dsimp only; omega)) (by simp only [List.map_set,hSp]; rfl) | exact doB (by rw [do_boil (by omega) hs hvl hr hn.1,decide_eq_true (by omega)] <;> rfl) (by repeat' first | exact hSm | refine sm_set ?_ (by dsimp only; omega)) (by simp only [List.map_set,hSp,prA,Int.sub_zero]) | exact doB (by rw [do_boil (by omega) hs hvl hr hn.1,decide_eq_false (by omega),decide_eq_true (by omega),decide_eq_true (by omega)] <;> rfl) (by repeat' first | exact hSm | refine sm_set ?_ (by dsimp only; omega)) (by simp only [List.map_set,hSp,prA,Int.sub_zero] <;> rw [show (B0 v s.frm.toNat).g - n=0 by omega]) | exact doB (by rw [do_move0 (by omega) (by omega) (by omega),decide_eq_true (by omega)]) (by repeat' first | exact hSm | refine sm_set ?_ (by dsimp only; omega)) (by simp only [List.map_set,hSp]; rw [set_same (k:=s.frm.toNat) (by omega) (by unfold prA; dsimp only; rw [show n=0 by omega]; simp),set_same (k:=s.to.toNat) (by omega) (by unfold prA; dsimp only; rw [show n=0 by omega]; simp)]) | trace_state
      |refine ME.mk ?_
       first
       |exact Bool.noConfusion h
       |((try simp only [nrm] at h) ; exfalso ; omega)
       |skip
        try simp only [nrm] at h
        refine Ak ?_
        refine hK6 _ ?_
     all_goals
      skip
      refine Aa fun K9 hK9=>?_
      refine Aa fun K10 hK10=>?_
      refine Ac ?_
      simp (disch:=(first | omega | (simp only [List.length_set]; omega))) only [amL,amT,sA,sF,↓reduceIte,reduceCtorEq]
      repeat' first | (refine E0 (fun h=>?_) (fun h=>?_) <;> simp (disch:=(first | omega | (simp only [List.length_set]; omega))) only [h,amL,amT,sA,sF,↓reduceIte,reduceCtorEq]) | (refine Cz (fun h=>?_) (fun h=>?_) <;> simp (disch:=(first | omega | (simp only [List.length_set]; omega))) only [h,encA_all,encA_getD,Di,encA_setM,getA_eq,getA_ne,hSf,hSt,staG,staE,List.set_set,List.length_set,amL,amT,sA,sB,sC,sD,sE,sF,sG,sH,sI,sJ,sK,sL,sM,sN,sO,↓reduceIte,reduceCtorEq])
      all_goals
       skip
       refine hK10 _ ?_
       refine Aj rfl (fun h=>MT.x ?_) (fun h=>ME.x ?_)
       all_goals
        first
        |refine MT.mk ?_
         first
         |exact Bool.noConfusion h
         |((try simp only [nrm] at h) ; exfalso ; omega)
         |skip
          try simp only [nrm] at h
          refine Ce (by kernel_rfl) (by kernel_rfl) ?_
          have hb:=Vm (n:=n) (e:=(B0 v s.frm.toNat).e) (g:=(B0 v s.frm.toNat).g) hn.1 (by omega) f3 (by omega)
          have hx1:0≤G6 v s.frm.toNat n:=hb.1
          have hx2:G6 v s.frm.toNat n≤(B0 v s.frm.toNat).e:=hb.2
          have hb2:=mulX1 (a:=n) (b:=(B0 v s.frm.toNat).e) (by omega) (by omega)
          have hw7:IntKind.i64.wrap (n * (B0 v s.frm.toNat).e)=n * (B0 v s.frm.toNat).e:=Fc (by omega) (by omega)
          have htd:(n * (B0 v s.frm.toNat).e).tdiv (B0 v s.frm.toNat).g=G6 v s.frm.toNat n:=Int.tdiv_eq_ediv_of_nonneg (by omega)
          simp (disch:=(first | omega | (simp only [List.length_set]; omega))) only [hw7,htd,encA_getD,hSf,staG,staE,amL,amT,sA,sF,↓reduceIte,reduceCtorEq]
          refine hK9 _ ?_
        |refine ME.mk ?_
         first
         |exact Bool.noConfusion h
         |((try simp only [nrm] at h) ; exfalso ; omega)
         |skip
          try simp only [nrm] at h
          refine Ak ?_
          refine hK9 _ ?_
       all_goals
        skip
        refine Aa fun K11 hK11=>?_
        refine Ac ?_
        simp (disch:=(first | omega | (simp only [List.length_set]; omega))) only [encA_getD,encA_setM,hSf,staG,staE,amL,amT,sA,sE,sF,↓reduceIte,reduceCtorEq]
        refine hK11 _ ?_
        refine Ac ?_
        simp (disch:=(first | omega | (simp only [List.length_set]; omega))) only [encA_getD,encA_setM,getA_eq,List.set_set,List.length_set,amL,amT,sA,sB,sE,sF,↓reduceIte,reduceCtorEq]
        refine hK4 _ ?_
   |refine ME.mk ?_
    first
    |exact Bool.noConfusion h
    |((try simp only [nrm] at h) ; exfalso ; omega)
    |skip
     try simp only [nrm] at h
     refine Ak ?_
     refine hK4 _ ?_
  all_goals
   skip
   refine Aa fun K12 hK12=>?_
   refine Aa fun K13 hK13=>?_
   refine Ac ?_
   simp (disch:=(first | omega | (simp only [List.length_set]; omega))) only [amL,amT,sA,sF,↓reduceIte,reduceCtorEq]
   refine hK13 _ ?_
   refine Aj rfl (fun h=>MT.x ?_) (fun h=>ME.x ?_)
   all_goals
    first
    |refine MT.mk ?_
     first
     |exact Bool.noConfusion h
     |((try simp only [nrm] at h) ; exfalso ; omega)
     |skip
      try simp only [nrm] at h
      refine Aa fun K14 hK14=>?_
      refine Ac ?_
      simp (disch:=(first | omega | (simp only [List.length_set]; omega))) only [encA_getD,encA_setM,getA_ne,hSt,staG,staE,List.length_set,amL,amT,sA,sE,sF,↓reduceIte,reduceCtorEq]
      refine hK14 _ ?_
      refine Aa fun K15 hK15=>?_
      refine Ac ?_
      simp (disch:=(first | omega | (simp only [List.length_set]; omega))) only [encA_getD,encA_setM,getA_eq,List.set_set,List.length_set,amL,amT,sA,sB,sE,sF,↓reduceIte,reduceCtorEq]
      refine hK15 _ ?_
      refine Aa fun K16 hK16=>?_
      refine Ce (by kernel_rfl) (by kernel_rfl) ?_
      simp (disch:=(first | omega | (simp only [List.length_set]; omega))) only [encA_getD,Di,getA_eq,List.length_set,amL,amT,sA,sB,sF,↓reduceIte,reduceCtorEq]
      refine hK16 _ ?_
      refine Aj rfl (fun h=>MT.x ?_) (fun h=>ME.x ?_)
      all_goals
       first
       |refine MT.mk ?_
        first
        |exact Bool.noConfusion h
        |((try simp only [nrm] at h) ; exfalso ; omega)
        |skip
         try simp only [nrm] at h
         refine Aa fun K17 hK17=>?_
         refine Ac ?_
         simp (disch:=(first | omega | (simp only [List.length_set]; omega))) only [amL,sA,sF,↓reduceIte,reduceCtorEq]
         refine hK17 _ ?_
         refine Ah ?_
         try simp (disch:=(first | omega | (simp only [List.length_set]; omega))) only [amL,sF,↓reduceIte]
         all_goals first | (exfalso; omega) | exact doA hS (do_x1 (by omega) hs hvl (by omega)) rfl rfl | exact doA hS (doX_false (by rw [do_move (by omega) hs hvl (by omega) (by omega)]; exact decide_eq_false (by omega))) rfl rfl | exact doA hS (doX_false (by rw [do_move0 (by omega) (by omega) (by omega)]; exact decide_eq_false (by omega))) rfl rfl | exact doA hS (doX_false (by rw [do_water (by omega) hs hvl]; exact decide_eq_false (by omega))) rfl rfl | exact doA hS (doX_false (by rw [do_boil (by omega) hs hvl hr hn.1,decide_eq_false (by omega),decide_eq_true (by omega),decide_eq_false (by omega)]; rfl)) rfl rfl | exact doB (by rw [do_move (by omega) hs hvl (by omega) (by omega),decide_eq_true (by omega)]) (by repeat' first | exact hSm | refine sm_set ?_ (by dsimp only; omega)) (by simp only [List.map_set,hSp]; rfl) | exact doB (by rw [do_water (by omega) hs hvl,decide_eq_true (by omega)]) (by repeat' first | exact hSm | refine sm_set ?_ (by dsimp only; omega)) (by simp only [List.map_set,hSp]; rfl) | exact doB (by rw [do_boil (by omega) hs hvl hr hn.1,decide_eq_true (by omega)] <;> rfl) (by repeat' first | exact hSm | refine sm_set ?_ (by dsimp only; omega)) (by simp only [List.map_set,hSp,prA,Int.sub_zero]) | exact doB (by rw [do_boil (by omega) hs hvl hr hn.1,decide_eq_false (by omega),decide_eq_true (by omega),decide_eq_true (by omega)] <;> rfl) (by repeat' first | exact hSm | refine sm_set ?_ (by dsimp only; omega)) (by simp only [List.map_set,hSp,prA,Int.sub_zero] <;> rw [show (B0 v s.frm.toNat).g - n=0 by omega]) | exact doB (by rw [do_move0 (by omega) (by omega) (by omega),decide_eq_true (by omega)]) (by repeat' first | exact hSm | refine sm_set ?_ (by dsimp only; omega)) (by simp only [List.map_set,hSp]; rw [set_same (k:=s.frm.toNat) (by omega) (by unfold prA; dsimp only; rw [show n=0 by omega]; simp),set_same (k:=s.to.toNat) (by omega) (by unfold prA; dsimp only; rw [show n=0 by omega]; simp)]) | trace_state
       |refine ME.mk ?_
        first
        |exact Bool.noConfusion h
        |((try simp only [nrm] at h) ; exfalso ; omega)
        |skip
         try simp only [nrm] at h
         refine Ak ?_
         refine hK12 _ ?_
    |refine ME.mk ?_
     first
     |exact Bool.noConfusion h
     |((try simp only [nrm] at h) ; exfalso ; omega)
     |skip
      try simp only [nrm] at h
      refine Aa fun K18 hK18=>?_
      refine Ac ?_
      simp (disch:=(first | omega | (simp only [List.length_set]; omega))) only [encA_getD,getA_eq,List.length_set,amL,amT,sA,sF,↓reduceIte,reduceCtorEq]
      repeat' first | (refine E0 (fun h=>?_) (fun h=>?_) <;> simp (disch:=(first | omega | (simp only [List.length_set]; omega))) only [h,encA_getD,getA_eq,List.length_set,amL,amT,sA,sF,↓reduceIte,reduceCtorEq]) | (refine Cz (fun h=>?_) (fun h=>?_) <;> simp (disch:=(first | omega | (simp only [List.length_set]; omega))) only [h,encA_all,encA_getD,Di,encA_setM,getA_eq,getA_ne,hSf,hSt,staG,staE,List.set_set,List.length_set,amL,amT,sA,sB,sC,sD,sE,sF,sG,sH,sI,sJ,sK,sL,sM,sN,sO,↓reduceIte,reduceCtorEq])
      all_goals
       skip
       refine hK18 _ ?_
       refine Aj rfl (fun h=>MT.x ?_) (fun h=>ME.x ?_)
       all_goals
        first
        |refine MT.mk ?_
         first
         |exact Bool.noConfusion h
         |((try simp only [nrm] at h) ; exfalso ; omega)
         |skip
          try simp only [nrm] at h
          refine Aa fun K19 hK19=>?_
          refine Ac ?_
          simp (disch:=(first | omega | (simp only [List.length_set]; omega))) only [amL,sA,sF,↓reduceIte,reduceCtorEq]
          refine hK19 _ ?_
          refine Ah ?_
          try simp (disch:=(first | omega | (simp only [List.length_set]; omega))) only [amL,sF,↓reduceIte]
          all_goals first | (exfalso; omega) | exact doA hS (do_x1 (by omega) hs hvl (by omega)) rfl rfl | exact doA hS (doX_false (by rw [do_move (by omega) hs hvl (by omega) (by omega)]; exact decide_eq_false (by omega))) rfl rfl | exact doA hS (doX_false (by rw [do_move0 (by omega) (by omega) (by omega)]; exact decide_eq_false (by omega))) rfl rfl | exact doA hS (doX_false (by rw [do_water (by omega) hs hvl]; exact decide_eq_false (by omega))) rfl rfl | exact doA hS (doX_false (by rw [do_boil (by omega) hs hvl hr hn.1,decide_eq_false (by omega),decide_eq_true (by omega),decide_eq_false (by omega)]; rfl)) rfl rfl | exact doB (by rw [do_move (by omega) hs hvl (by omega) (by omega),decide_eq_true (by omega)]) (by repeat' first | exact hSm | refine sm_set ?_ (by dsimp only; omega)) (by simp only [List.map_set,hSp]; rfl) | exact doB (by rw [do_water (by omega) hs hvl,decide_eq_true (by omega)]) (by repeat' first | exact hSm | refine sm_set ?_ (by dsimp only; omega)) (by simp only [List.map_set,hSp]; rfl) | exact doB (by rw [do_boil (by omega) hs hvl hr hn.1,decide_eq_true (by omega)] <;> rfl) (by repeat' first | exact hSm | refine sm_set ?_ (by dsimp only; omega)) (by simp only [List.map_set,hSp,prA,Int.sub_zero]) | exact doB (by rw [do_boil (by omega) hs hvl hr hn.1,decide_eq_false (by omega),decide_eq_true (by omega),decide_eq_true (by omega)] <;> rfl) (by repeat' first | exact hSm | refine sm_set ?_ (by dsimp only; omega)) (by simp only [List.map_set,hSp,prA,Int.sub_zero] <;> rw [show (B0 v s.frm.toNat).g - n=0 by omega]) | exact doB (by rw [do_move0 (by omega) (by omega) (by omega),decide_eq_true (by omega)]) (by repeat' first | exact hSm | refine sm_set ?_ (by dsimp only; omega)) (by simp only [List.map_set,hSp]; rw [set_same (k:=s.frm.toNat) (by omega) (by unfold prA; dsimp only; rw [show n=0 by omega]; simp),set_same (k:=s.to.toNat) (by omega) (by unfold prA; dsimp only; rw [show n=0 by omega]; simp)]) | trace_state
        |refine ME.mk ?_
         first
         |exact Bool.noConfusion h
         |((try simp only [nrm] at h) ; exfalso ; omega)
         |skip
          try simp only [nrm] at h
          refine Ak ?_
          refine hK12 _ ?_
   all_goals
    skip
    refine Aa fun K20 hK20=>?_
    refine awp_frz' 14 rfl ?_
    simp only [Xf,frzO,AV.frz,AO.frz,AV.frz.frzL,List.map_cons,List.map_nil,Nat.reduceEqDiff,if_false,if_true,Nat.le_refl,List.length_map,List.length_set]
    rw [List.take_of_length_le (by simp)]
    refine Ac ?_
    simp (disch:=(first | omega | (simp only [List.length_set]; omega))) only [amL,sA,sF,↓reduceIte]
    refine Aw (by kernel_rfl) rfl (c_rweighed _ (by simp only [List.length_set]; omega) (by repeat' first | exact hSm | refine sm_set ?_ (by dsimp only; omega))) (by first | exact .inl rfl | exact .inr (.inl rfl)) ?_
    simp (disch:=(first | omega | (simp only [List.length_set]; omega))) only [amL,sA,↓reduceIte]
    refine hK20 _ ?_
    refine Ah ?_
    try simp (disch:=(first | omega | (simp only [List.length_set]; omega))) only [amL,sF,↓reduceIte]
    all_goals first | (exfalso; omega) | exact doA hS (do_x1 (by omega) hs hvl (by omega)) rfl rfl | exact doA hS (doX_false (by rw [do_move (by omega) hs hvl (by omega) (by omega)]; exact decide_eq_false (by omega))) rfl rfl | exact doA hS (doX_false (by rw [do_move0 (by omega) (by omega) (by omega)]; exact decide_eq_false (by omega))) rfl rfl | exact doA hS (doX_false (by rw [do_water (by omega) hs hvl]; exact decide_eq_false (by omega))) rfl rfl | exact doA hS (doX_false (by rw [do_boil (by omega) hs hvl hr hn.1,decide_eq_false (by omega),decide_eq_true (by omega),decide_eq_false (by omega)]; rfl)) rfl rfl | exact doB (by rw [do_move (by omega) hs hvl (by omega) (by omega),decide_eq_true (by omega)]) (by repeat' first | exact hSm | refine sm_set ?_ (by dsimp only; omega)) (by simp only [List.map_set,hSp]; rfl) | exact doB (by rw [do_water (by omega) hs hvl,decide_eq_true (by omega)]) (by repeat' first | exact hSm | refine sm_set ?_ (by dsimp only; omega)) (by simp only [List.map_set,hSp]; rfl) | exact doB (by rw [do_boil (by omega) hs hvl hr hn.1,decide_eq_true (by omega)] <;> rfl) (by repeat' first | exact hSm | refine sm_set ?_ (by dsimp only; omega)) (by simp only [List.map_set,hSp,prA,Int.sub_zero]) | exact doB (by rw [do_boil (by omega) hs hvl hr hn.1,decide_eq_false (by omega),decide_eq_true (by omega),decide_eq_true (by omega)] <;> rfl) (by repeat' first | exact hSm | refine sm_set ?_ (by dsimp only; omega)) (by simp only [List.map_set,hSp,prA,Int.sub_zero] <;> rw [show (B0 v s.frm.toNat).g - n=0 by omega]) | exact doB (by rw [do_move0 (by omega) (by omega) (by omega),decide_eq_true (by omega)]) (by repeat' first | exact hSm | refine sm_set ?_ (by dsimp only; omega)) (by simp only [List.map_set,hSp]; rw [set_same (k:=s.frm.toNat) (by omega) (by unfold prA; dsimp only; rw [show n=0 by omega]; simp),set_same (k:=s.to.toNat) (by omega) (by unfold prA; dsimp only; rw [show n=0 by omega]; simp)]) | trace_state
theorem c_rplay (b:Ee) (t:Tru) (hv:N6 b) (hl:F1 b t=true):Bt Tryz.prog 21 [avB b,avT t] (.tup [.p (.sl (stL (playX b t).1)),bl (playX b t).2]):=by
  refine Bn (v:=[]) (q:=[]) (N:=43) (rs:=[.tmp 4,.tmp 5]) Tryz.func21 rfl rfl rfl rfl rfl ?_
  have hnv:=hv.nv
  have hns:=hv.ns
  obtain ⟨p1,p2,p3,p4,p5⟩:=Dj hl
  obtain ⟨s1,s2,s3⟩:=L0 hv hl
  refine Aa fun K1 hK1=>?_
  refine Ac ?_
  simp (disch:=omega) only [amL,sA,sB,sF,↓reduceIte,reduceCtorEq]
  refine hK1 _ ?_
  refine Aa fun K2 hK2=>?_
  refine Ac ?_
  simp (disch:=omega) only [amL,amT,sA,sB,sF,↓reduceIte]
  repeat' first | (refine Aw (by kernel_rfl) rfl (c_rbegin b t hv hl) (by first | exact .inl rfl | exact .inr (.inl rfl)) ?_ ; simp (disch:=omega) only [amL,sA,sF,↓reduceIte])
  refine hK2 _ ?_
  refine Aa fun K3 hK3=>?_
  refine Aa fun K4 hK4=>?_
  refine Ac ?_
  simp (disch:=omega) only [amL,sA]
  refine hK4 _ ?_
  refine Ap ?_
  skip
  refine Be (α:=Nat × (List Liq × Bool)) (fun x=>⟨T [(2,.ptr 2 0),(3,.ptr 3 0),(6,.p (.sl (stL x.2.1))),(7,bl x.2.2),(8,i64 (x.1:Int))],O [(2,.cells (cB b)),(3,.cells (cT t))]⟩) (fun x=>b.ss.length - x.1) (fun x=>x.1≤b.ss.length∧OkN b.vs.length x.2.1∧(x.2.2=true→RoomV b.vs x.2.1)∧playXF b.vs t.m (b.ss.drop x.1) x.1 x.2=playX b t) (0,(beginX b.vs t.g t.d,roomX b.vs t.g)) ?_ ?_ (fun x hx5 K5 hK5=>?_)
  · exact ⟨by simp,beginX_ok hv hl,begin_roomV,rfl⟩
  · refine De ?_ ?_ ?_ ?_ <;> (try simp (disch:=omega) only [amL,sF,sG,↓reduceIte]); all_goals first | rfl | trace_state
  obtain ⟨k,v,is⟩:=x; dsimp only at hx5 ⊢; obtain ⟨hk,ho,hr,hp⟩:=hx5
  refine Aa fun K6 hK6=>?_
  refine Aa fun K7 hK7=>?_
  refine Ac ?_
  simp (disch:=omega) only [amL,amT,sA,sF,↓reduceIte,reduceCtorEq]
  repeat' first | (refine E0 (fun h=>?_) (fun h=>?_) <;> simp (disch:=omega) only [h,amL,sA,sF,↓reduceIte]) | (refine Cz (fun h=>?_) (fun h=>?_) <;> simp (disch:=omega) only [h,Xh,Bl,amL,amT,sA,sB,sC,sD,sE,sF,sG,sH,sI,sJ,sK,sL,sM,sN,sO,↓reduceIte,reduceCtorEq])
  all_goals
   skip
   refine hK7 _ ?_
   refine Aj rfl (fun h=>MT.x ?_) (fun h=>ME.x ?_)
   all_goals
    first
    |refine MT.mk ?_
     first
     |exact Bool.noConfusion h
     |skip
      try simp only [nrm] at h
      refine Ak ?_
      refine hK6 _ ?_
    |refine ME.mk ?_
     first
     |exact Bool.noConfusion h
     |skip
      try simp only [] at h
      refine Bo ?_
      refine hK3 _ ?_
      refine Aa fun K8 hK8=>?_
      refine Ac ?_
      simp (disch:=omega) only [amL,sA,sF,↓reduceIte]
      refine hK8 _ ?_
      refine Ah ?_
      try simp (disch:=omega) only [amL,sF,↓reduceIte]
      all_goals first | (rw [playX_end (by omega) hp]; done) | (rw [playX_stop (by omega) (by first | assumption | exact Bool.eq_false_iff.2 (by assumption)) hp]; done) | trace_state
   all_goals
    skip
    refine Aa fun K9 hK9=>?_
    refine Ap ?_
    refine Ce (by kernel_rfl) (by kernel_rfl) ?_
    have his:is=true:=by first | assumption
    have hst:=hv.stp (k:=k) (by omega)
    have hmk:=s3 k
    simp (disch:=omega) only [Xh,Bl,amL,amT,sA,sB,sF,↓reduceIte,reduceCtorEq]
    repeat' first | (refine Aw (by kernel_rfl) rfl (c_rdo b v (b.ss.getD k default) (t.m.getD k 0) hv ho (hr his) hst hmk) (by first | exact .inl rfl | exact .inr (.inl rfl)) ?_ ; simp (disch:=omega) only [amL,sA,sF,↓reduceIte])
    refine hK9 _ ?_
    refine Ac ?_
    simp (disch:=omega) only [amL,amT,sA,sF,↓reduceIte]
    refine hK5 (k+1,doX b.vs v (b.ss.getD k default) (t.m.getD k 0)) _ ?_ ?_ (De ?_ ?_ ?_ ?_)
    all_goals (try simp (disch:=omega) only [amL,sF,sG,↓reduceIte])
    all_goals first | omega | exact ⟨by omega,doX_ok ho hnv hv.v hst hmk.1,fun _=>doX_room (hr his) hst hmk.1 (ho.len hnv),playX_step (by omega) his hp⟩ | trace_state
theorem many_le {b:Ee} (hv:N6 b):1≤manyX b∧manyX b≤4782969:=by
 have h:=many_bound hv b.ss.length
 rwa [List.take_length] at h
theorem bndF_get {v:List Liq} {f:Bool} {l:List Bnd} {k:Nat}:∀ i,i≤l.length→(bndF v f l i).getD k default=if k < i then widB (l.getD k default) (v.getD k default) (Qd (v.getD k default)) f else l.getD k default
 | 0,_=>by rw [if_neg (by omega)]; rfl
 | i+1,h=>by
  have hs:∀ (m:List Bnd) (x:Bnd),i < m.length→(m.set i x).getD k default=if k=i then x else m.getD k default:=fun m x hm=>by
   rw [List.getD_eq_getElem?_getD,List.getD_eq_getElem?_getD,List.getElem?_set]
   by_cases e:i=k
   ·subst e; simp [hm]
   ·rw [if_neg e,if_neg (fun h=>e h.symm)]
  show ((bndF v f l i).set i _).getD k default=_
  rw [hs _ _ (by rw [bndF_len]; omega)]
  by_cases e:k=i
  ·subst e
   rw [if_pos rfl,if_pos (by omega),bndF_get k (by omega),if_neg (by omega)]
  ·rw [if_neg e,bndF_get i (by omega)]
   by_cases e2:k < i
   ·rw [if_pos e2,if_pos (by omega)]
   ·rw [if_neg e2,if_neg (by omega)]
def IsB (P:List Liq→Prop) (k:Nat) (x:Bnd):Prop:=
 IsW (fun y=>∃ v,P v∧(B0 v k).g=y) x.g∧IsW (fun y=>∃ v,P v∧(B0 v k).e=y) x.e∧IsW (fun y=>∃ v,P v∧Qd (B0 v k)=y) x.k
theorem isB_congr {P Q:List Liq→Prop} {k:Nat} {x:Bnd} (h:IsB P k x) (e:∀ v,P v↔Q v):IsB Q k x:=by
 have:P=Q:=funext fun v=>propext (e v)
 rw [← this]; exact h
theorem bndS_spec {n:Nat}:∀ (L:List (List Liq)) (s:List Bnd × Bool) (P:List Liq→Prop),s.1.length=n→((s.2=true∧∀ w,¬ P w)∨(s.2=false∧∀ k,k < n→IsB P k (s.1.getD k default))) →
  (bndS n s L).1.length=n∧(((bndS n s L).2=true∧∀ w,¬ (P w∨w ∈ L))∨((bndS n s L).2=false∧∀ k,k < n→IsB (fun w=>P w∨w ∈ L) k ((bndS n s L).1.getD k default)))
 | [],s,P,hl,h=>⟨hl,h.imp (fun h=>⟨h.1,fun w hw=>h.2 w (hw.elim id (by simp))⟩) fun h=>⟨h.1,fun k hk=>isB_congr (h.2 k hk) fun v=>⟨.inl,fun h=>h.elim id (by simp)⟩⟩⟩
 | v :: L,s,P,hl,h=>by
  have hb:(bstB n s v).1.1.length=n:=(bndF_len n).trans hl
  have ih:=bndS_spec L (bstB n s v).1 (fun w=>P w∨w=v) hb (.inr ⟨rfl,fun k hk=>by
   show IsB _ k ((bndF v s.2 s.1 n).getD k default)
   rw [bndF_get n (by omega),if_pos hk]
   rcases h with ⟨h1,h2⟩ | ⟨h1,h2⟩
   ·rw [h1]
    have e:∀ (f:List Liq→Int) (y:Int),y=f v↔∃ w,(P w∨w=v)∧f w=y:=fun f y=>
     ⟨fun h=>⟨v,.inr rfl,h.symm⟩,fun ⟨w,h3,h4⟩=>by
      rcases h3 with h3 | h3
      ·exact absurd h3 (h2 w)
      ·rw [← h4,h3]⟩
    exact ⟨(isW_one _).congr (e fun w=>(B0 w k).g),(isW_one _).congr (e fun w=>(B0 w k).e),(isW_one _).congr (e fun w=>Qd (B0 w k))⟩
   ·rw [h1]
    obtain ⟨a1,a2,a3⟩:=h2 k hk
    have e:∀ (f:List Liq→Int) (y:Int),((∃ w,P w∧f w=y)∨y=f v)↔∃ w,(P w∨w=v)∧f w=y:=fun f y=>
     ⟨fun h=>h.elim (fun ⟨w,h3,h4⟩=>⟨w,.inl h3,h4⟩) fun h=>⟨v,.inr rfl,h.symm⟩,fun ⟨w,h3,h4⟩=>by
      rcases h3 with h3 | h3
      ·exact .inl ⟨w,h3,h4⟩
      ·right; rw [← h4,h3]⟩
    exact ⟨(isW_wid a1 _).congr (e fun w=>(B0 w k).g),(isW_wid a2 _).congr (e fun w=>(B0 w k).e),(isW_wid a3 _).congr (e fun w=>Qd (B0 w k))⟩⟩)
  have hc:∀ w,((P w∨w=v)∨w ∈ L)↔(P w∨w ∈ v :: L):=fun w=>by rw [List.mem_cons,or_assoc]
  refine ⟨ih.1,ih.2.imp (fun h=>⟨h.1,fun w hw=>h.2 w ((hc w).2 hw)⟩) fun h=>⟨h.1,fun k hk=>isB_congr (h.2 k hk) hc⟩⟩
theorem endsL_iff {b:Ee} {v:List Liq}:v ∈ endsL b↔∃ x ∈ listsR (Fz b) [],endB b x=true∧v=endV b x:=by
 constructor
 ·intro h
  exact endsF_ok (P:=fun v=>∃ x ∈ listsR (Fz b) [],endB b x=true∧v=endV b x) _ _ _ (fun x hx he=>⟨x,hx,he,rfl⟩) v h
 ·rintro ⟨x,h1,h2,rfl⟩
  rcases endsF_mem (b:=b) _ v0 true h1 h2 with h | h
  ·exact h
  ·exact absurd h.1 (by decide)
theorem endsL_end {b:Ee} (hv:N6 b) {v:List Liq}:EndP b v↔∃ w,w ∈ endsL b∧v=w.take b.vs.length:=by
 rw [end_play hv]
 constructor
 ·rintro ⟨x,h1,h2,h3⟩; exact ⟨_,endsL_iff.2 ⟨x,h1,h2,rfl⟩,h3⟩
 ·rintro ⟨w,h1,rfl⟩
  obtain ⟨x,h3,h4,rfl⟩:=endsL_iff.1 h1
  exact ⟨x,h3,h4,rfl⟩
theorem ends_none {b:Ee} (hv:N6 b):(∀ w,¬ w ∈ endsL b)↔endsX b=[]:=by
 rw [List.eq_nil_iff_forall_not_mem]
 constructor
 ·intro h v hv2
  obtain ⟨w,h1,_⟩:=(endsL_end hv).1 ((ends_iff hv).1 hv2)
  exact h w h1
 ·intro h w hw
  exact h _ ((ends_iff hv).2 ((endsL_end hv).2 ⟨w,hw,rfl⟩))
theorem att_iff {b:Ee} (hv:N6 b) {k:Nat} (hk:k < b.vs.length) (f:Liq→Int) (y:Int):(∃ v,v ∈ endsL b∧f (B0 v k)=y)↔AttP b k f y:=by
 constructor
 ·rintro ⟨w,h1,h2⟩
  exact ⟨_,(endsL_end hv).2 ⟨w,h1,rfl⟩,by rw [getL_take hk]; exact h2⟩
 ·rintro ⟨v,h1,h2⟩
  obtain ⟨w,h3,rfl⟩:=(endsL_end hv).1 h1
  exact ⟨w,h3,by rw [getL_take hk] at h2; exact h2⟩
def bndAt (b:Ee) (i:Nat):Bnd:=⟨wideX ((endsX b).map fun v=>(B0 v i).g),wideX ((endsX b).map fun v=>(B0 v i).e),wideX ((endsX b).map fun v=>Qd (B0 v i))⟩
def bndX (b:Ee):List Bnd:=(List.range b.vs.length).map (bndAt b)
theorem bndX_len (b:Ee):(bndX b).length=b.vs.length:=by simp [bndX]
theorem bndX_get {b:Ee} {i:Nat} (h:i < b.vs.length):(bndX b).getD i default=bndAt b i:=by simp [bndX,h,List.getD]
theorem bndAt_is {b:Ee} (hv:N6 b) (h:endsX b≠[]) (i:Nat):IsW (AttP b i (·.g)) (bndAt b i).g∧IsW (AttP b i (·.e)) (bndAt b i).e∧IsW (AttP b i Qd) (bndAt b i).k:=
 ⟨att_wide hv h i (·.g),att_wide hv h i (·.e),att_wide hv h i Qd⟩
theorem boundsA_eq {b:Ee} (hf:B5 b=0):boundsA b=if endsX b=[] then .tup [C3,i64 9] else .tup [.p (.sl ((bndX b).map encBn)),i64 0]:=by
 have hv:=Abs hf
 obtain ⟨h1,h2⟩:=bndS_spec (endsL b) (List.replicate b.vs.length default,true) (fun _=>False) List.length_replicate (.inl ⟨rfl,fun _=>id⟩)
 unfold boundsA
 rw [if_pos hf]
 generalize bndS b.vs.length (List.replicate b.vs.length default,true) (endsL b)=r at h1 h2
 obtain ⟨l,f⟩:=r
 rcases h2 with ⟨h2,h3⟩ | ⟨h2,h3⟩
 ·have h2:f=true:=h2
  subst h2
  rw [if_pos ((ends_none hv).1 fun w hw=>h3 w (.inr hw))]
 ·have h2:f=false:=h2
  subst h2
  have hne:endsX b≠[]:=fun he=>by
   have h0:=(ends_none hv).2 he
   obtain ⟨v,hv0,_⟩:=(h3 0 (Afs hf).2.2.1).1.1
   exact h0 v (hv0.elim False.elim id)
  rw [if_neg hne]
  have hl:l=bndX b:=by
   refine List.ext_getElem (by rw [bndX_len]; exact h1) fun k hk1 hk2=>?_
   have hk:k < b.vs.length:=by rw [bndX_len] at hk2; exact hk2
   obtain ⟨a1,a2,a3⟩:=h3 k hk
   obtain ⟨b1,b2,b3⟩:=bndAt_is hv hne k
   have c:∀ (f:Liq→Int) (y:Int),(∃ v,(False∨v ∈ endsL b)∧f (B0 v k)=y)↔AttP b k f y:=fun f y=>by
    rw [← att_iff hv hk]
    exact ⟨fun ⟨v,h4,h5⟩=>⟨v,h4.elim False.elim id,h5⟩,fun ⟨v,h4,h5⟩=>⟨v,.inr h4,h5⟩⟩
   have e1:=(a1.congr (c (·.g))).unique b1
   have e2:=(a2.congr (c (·.e))).unique b2
   have e3:=(a3.congr (c Qd)).unique b3
   have g1:l[k]=l.getD k default:=by simp [List.getD,hk1]
   have g2:(bndX b)[k]=bndAt b k:=by rw [← bndX_get hk]; simp [List.getD,hk2]
   rw [g1,g2]
   dsimp only at e1 e2 e3
   generalize l.getD k default=x at *
   generalize bndAt b k=y at *
   cases x; cases y
   dsimp only at e1 e2 e3
   rw [e1,e2,e3]
  rw [hl]
theorem bndX_enc {b:Ee} {i:Nat} (h:i < b.vs.length):((bndX b).map encBn).getD i []=[iv (bndAt b i).g.lo,iv (bndAt b i).g.hi,iv (bndAt b i).e.lo,iv (bndAt b i).e.hi,iv (bndAt b i).k.lo,iv (bndAt b i).k.hi]:=by
 rw [encBn_getD (by rw [bndX_len]; exact h),bndX_get h]; rfl
theorem bndX_mlen (b:Ee):((bndX b).map encBn).length=b.vs.length:=by rw [List.length_map,bndX_len]
theorem c_wb1 {b:Ee} (hz:b.vs.length < 1000000∧b.ss.length < 1000000) (hf:B5 b=0) (he:¬ endsX b=[]):Bt Tryz.prog 24 [avB b] (.tup [.p (.sl ((bndX b).map encBn)),i64 0]):=by
 have h:=c_bounds b hz.1 hz.2
 rwa [boundsA_eq hf,if_neg he] at h
theorem playA_ok {b:Ee} {t:Tru} (hf:B5 b=0) (hl:F1 b t=true) (hx:(playX b t).2=true):Dk b t=.tup [.p (.sl (stL (playX b t).1)),i64 0]:=by
 have hv:=Abs hf
 obtain ⟨e1,e2⟩:=play_eq t hv
 have e3:(Mo b t).2=true:=e1.trans hx
 unfold Dk
 rw [if_pos hf,if_pos hl,if_pos e3,e2 e3]; rfl
theorem c_pl {b:Ee} {t:Tru} (hf:B5 b=0) (hl:F1 b t=true) (hx:(playX b t).2=true):Bt Tryz.prog 15 [avB b,avT t] (.tup [.p (.sl (stL (playX b t).1)),i64 0]):=by
 have hv:=Abs hf
 obtain ⟨h1,h2,h3,_⟩:=Dj hl
 have hnv:=hv.nv
 have hns:=hv.ns
 have h:=Ar6 b t (by omega) (by omega) (by rw [Ane]; omega)
 rwa [playA_ok hf hl hx] at h
theorem c_lbr {b:Ee} (hv:N6 b):Bt Tryz.prog 16 [avB b] (avB b):=c_lbrew b (Nat.lt_of_le_of_lt hv.nv (by decide)) (Nat.lt_of_le_of_lt hv.ns (by decide))
theorem c_ltr {b:Ee} {t:Tru} (hv:N6 b) (hl:F1 b t=true):Bt Tryz.prog 17 [avT t] (avT t):=by
 obtain ⟨h1,h2,h3,_⟩:=Dj hl
 have hnv:=hv.nv
 have hns:=hv.ns
 exact c_ltruth t (by omega) (by omega) (by omega)
theorem stL_len (v:List Liq):(stL v).length=v.length:=by unfold stL; rw [List.length_map]
theorem playX_len {b:Ee} {t:Tru} (hf:B5 b=0) (hl:F1 b t=true) (hx:(playX b t).2=true):(playX b t).1.length=b.vs.length:=by
 have hv:=Abs hf
 have hnv:=hv.nv
 obtain ⟨e1,e2⟩:=play_eq t hv
 rw [← e2 (e1.trans hx),List.length_take,(Amq hv hl).1]; omega
theorem c_lin (n:Int) (r:Rng):Bt Tryz.prog 46 [i64 n,avR r] (bl (Jn r n)):=by
  refine Bn (v:=[]) (q:=[]) (N:=15) (rs:=[.tmp 4]) Tryz.func46 rfl rfl rfl rfl rfl ?_
  refine Aa fun K1 hK1=>?_
  refine Ac ?_
  simp (disch:=omega) only [amL,sA,sB,↓reduceIte,reduceCtorEq]
  refine hK1 _ ?_
  refine Aa fun K2 hK2=>?_
  refine Ac ?_
  simp (disch:=omega) only [amL,amT,sA,sF,↓reduceIte,reduceCtorEq]
  repeat' first | (refine E0 (fun h=>?_) (fun h=>?_) <;> simp (disch:=omega) only [h,amL,amT,sA,sF,↓reduceIte,reduceCtorEq]) | (refine Cz (fun h=>?_) (fun h=>?_) <;> simp (disch:=omega) only [h,amL,amT,sA,sB,sC,sD,sE,sF,sG,sH,sI,sJ,sK,sL,sM,sN,sO,↓reduceIte,reduceCtorEq])
  all_goals
   skip
   refine hK2 _ ?_
   refine Ah ?_
   try simp (disch:=omega) only [amL,↓reduceIte]
   all_goals first | (unfold Jn inB; rw [decide_eq_true (show r.lo≤n by omega)]; rfl) | (unfold Jn inB; rw [decide_eq_false (show ¬ r.lo≤n by omega)]; rfl) | trace_state
def plyR (b:Ee) (t:Tru):AV:=if (playX b t).2=true then .tup [.p (.sl (stL (playX b t).1)),bl true,bl true] else .tup [C3,bl false,bl true]
theorem plyR_isP (b:Ee) (t:Tru):(plyR b t).isP=true:=by unfold plyR; split <;> rfl
theorem c_plN {b:Ee} {t:Tru} (hf:B5 b=0) (hl:F1 b t=true) (hx:(playX b t).2=false):Bt Tryz.prog 15 [avB b,avT t] (.tup [C3,i64 11]):=by
  have hv:=Abs hf
  obtain ⟨h1,h2,h3,_⟩:=Dj hl
  have hnv:=hv.nv
  have hns:=hv.ns
  have h:=Ar6 b t (by omega) (by omega) (by rw [Ane]; omega)
  have e:Dk b t=.tup [C3,i64 11]:=by
    unfold Dk
    rw [if_pos hf,if_pos hl,if_neg (by rw [(play_eq t hv).1,hx]; decide)]
  rwa [e] at h
theorem c_lplay (b:Ee) (w:Int) (hf:B5 b=0) (hw:0≤w∧w≤100000000):Bt Tryz.prog 43 [avB b,i64 w] (plyR b (nthX b (w % manyX b))):=by
  refine Bn (v:=[]) (q:=[]) (N:=57) (rs:=[.tmp 4,.tmp 5,.tmp 6]) Tryz.func43 rfl rfl rfl rfl (plyR_isP _ _) ?_
  have hv:=Abs hf
  have hnv:=hv.nv
  have hns:=hv.ns
  have hmb:=many_bound hv b.ss.length
  rw [List.take_length] at hmb
  have hmo:w.tmod (manyX b)=w % manyX b:=Int.tmod_eq_emod_of_nonneg hw.1
  have hmb2:1≤manyX b:=hmb.1
  have hmod:=mod_nn (m:=w) hmb2
  have hmod2:w % manyX b≤w:=by
    have:=Int.mul_ediv_add_emod w (manyX b)
    have:=Int.mul_nonneg (show 0≤manyX b by omega) (Int.ediv_nonneg hw.1 (show 0≤manyX b by omega))
    omega
  obtain ⟨t,ht⟩:∃ t,t=nthX b (w % manyX b):=⟨_,rfl⟩
  have hl:F1 b t=true:=by rw [ht]; exact nth_listed hv _
  have hrn:=c_rnth b (w % manyX b) hv hmod.1 (by omega)
  rw [← ht] at hrn ⊢
  cases hx:(playX b t).2
  all_goals
    first | (have hg:=playX_len hf hl hx) | (have hg:=hmo)
    refine Aa fun K1 hK1=>?_
    refine Ac ?_
    simp (disch:=omega) only [amL,sA,sB,↓reduceIte]
    refine hK1 _ ?_
    refine Aa fun K2 hK2=>?_
    refine Ce (by kernel_rfl) (by kernel_rfl) ?_
    simp (disch:=omega) only [amL,amT,sA,sB,sF,↓reduceIte,reduceCtorEq]
    repeat' first | (refine Aw (by kernel_rfl) rfl (c_rmany b hv) (by first | exact .inl rfl | exact .inr (.inl rfl)) ?_ ; simp (disch:=omega) only [hg,hmo,amL,amT,sA,sF,↓reduceIte]) | (refine Aw (by kernel_rfl) rfl (hrn) (by first | exact .inl rfl | exact .inr (.inl rfl)) ?_ ; simp (disch:=omega) only [amL,amT,sA,sB,sF,↓reduceIte])
    refine hK2 _ ?_
    refine Aa fun K3 hK3=>?_
    refine Ac ?_
    simp (disch:=omega) only [amL,amT,sA,sB,sF,↓reduceIte]
    repeat' first | (refine Aw (by kernel_rfl) rfl (c_rplay b t hv hl) (by first | exact .inl rfl | exact .inr (.inl rfl)) ?_ ; simp (disch:=omega) only [hx,amL,sA,sF,↓reduceIte])
    refine hK3 _ ?_
    refine Aa fun K4 hK4=>?_
    refine Ce (by kernel_rfl) (by kernel_rfl) ?_
    simp (disch:=omega) only [amL,amT,sA,sB,sF,↓reduceIte]
    repeat' first | (refine Aw (by kernel_rfl) rfl (c_lbr hv) (by first | exact .inl rfl | exact .inr (.inl rfl)) ?_ ; simp (disch:=omega) only [amL,amT,sA,sB,sF,↓reduceIte]) | (refine Aw (by kernel_rfl) rfl (c_ltr hv hl) (by first | exact .inl rfl | exact .inr (.inl rfl)) ?_ ; simp (disch:=omega) only [amL,sF,↓reduceIte]) | (refine Aw (by kernel_rfl) rfl (by first | exact c_pl hf hl hx | exact c_plN hf hl hx) (by first | exact .inl rfl | exact .inr (.inl rfl)) ?_ ; simp (disch:=omega) only [amL,sA,sF,↓reduceIte])
    refine hK4 _ ?_
    refine Aa fun K5 hK5=>?_
    refine Ac ?_
    simp (disch:=omega) only [stL_len,hg,amL,amT,sA,sF,sO,↓reduceIte,reduceCtorEq]
    repeat' first | (refine E0 (fun h=>?_) (fun h=>?_) <;> simp (disch:=omega) only [h,hx,stL_len,hg,hmo,amL,amT,sA,sB,sC,sD,sE,sF,sG,sH,sI,sJ,sK,sL,sM,sN,sO,↓reduceIte,reduceCtorEq]) | (refine Cz (fun h=>?_) (fun h=>?_) <;> simp (disch:=omega) only [h,hx,stL_len,hg,hmo,amL,amT,sA,sB,sC,sD,sE,sF,sG,sH,sI,sJ,sK,sL,sM,sN,sO,↓reduceIte,reduceCtorEq])
    all_goals
     skip
     refine hK5 _ ?_
     refine Ah ?_
     try simp (disch:=omega) only [amL]
     all_goals (simp only [plyR,hx,if_true,Bool.false_eq_true,if_false] ; first | done | rfl | trace_state)
theorem staK (l:Liq):(Azh l).k=Qd l:=rfl
theorem flow1 {s:Stp} {m:Int} (h:s.kind=1):flowS s m=m:=by unfold flowS; rw [if_pos h,if_neg (by omega)]; omega
theorem flow2 {s:Stp} {m:Int} (h:s.kind=2):flowS s m=- m:=by unfold flowS; rw [if_neg (by omega),if_pos h]; omega
theorem flow0 {s:Stp} {m:Int} (h:¬ s.kind=1) (h2:¬ s.kind=2):flowS s m=0:=by unfold flowS; rw [if_neg h,if_neg h2]; rfl
def uG (t:Tru) (v:List Liq) (k:Nat):Int:=sumTo (fun j=>t.g.getD j 0 - (B0 v j).g) k
def uE (t:Tru) (v:List Liq) (k:Nat):Int:=sumTo (fun j=>t.g.getD j 0 * t.d.getD j 0 - (B0 v j).e) k
def uF (b:Ee) (t:Tru) (k:Nat):Int:=sumTo (fun j=>flowS (b.ss.getD j default) (t.m.getD j 0)) k
theorem uF_next {b:Ee} {t:Tru} {k:Nat}:uF b t (k+1)=uF b t k+flowS (b.ss.getD k default) (t.m.getD k 0):=rfl
theorem uF1 {b:Ee} {t:Tru} {k:Nat} {G:Int} (h:(b.ss.getD k default).kind=1):G+uF b t k+t.m.getD k 0=G+uF b t (k+1):=by rw [uF_next,flow1 h]; omega
theorem uF2 {b:Ee} {t:Tru} {k:Nat} {G:Int} (h:(b.ss.getD k default).kind=2):G+uF b t k - t.m.getD k 0=G+uF b t (k+1):=by rw [uF_next,flow2 h]; omega
theorem uF0 {b:Ee} {t:Tru} {k:Nat} {G:Int} (h:¬ (b.ss.getD k default).kind=1) (h2:¬ (b.ss.getD k default).kind=2):G+uF b t k=G+uF b t (k+1):=by rw [uF_next,flow0 h h2]; omega
theorem mul_in {a c:Int} (h1:0≤a∧a≤60) (h2:0≤c∧c≤120):0≤a * c∧a * c≤7200:=by
  have e1:=Int.mul_nonneg h1.1 h2.1
  have e2:=Int.mul_le_mul h1.2 h2.2 h2.1 (by omega)
  omega
theorem sum_in {b:Ee} {t:Tru} {v:List Liq} (hv:N6 b) (hl:F1 b t=true) (ho:OkN b.vs.length v) :
    (∀ k,k≤4→-240≤uG t v k∧uG t v k≤240)∧(∀ k,k≤4→-115200≤uE t v k∧uE t v k≤28800)∧∀ k,k≤6→-360≤uF b t k∧uF b t k≤360:=by
  obtain ⟨s1,s2,s3⟩:=L0 hv hl
  refine ⟨fun k hk=>?_,fun k hk=>?_,fun k hk=>?_⟩ <;> (first | unfold uG | unfold uE | unfold uF)
  · have:=sumTo_bound (f:=fun j=>t.g.getD j 0 - (B0 v j).g) (m:=-60) (M:=60) k fun j _=>by
      have:=s1 j; have:=(ho.at j).1; omega
    omega
  · have:=sumTo_bound (f:=fun j=>t.g.getD j 0 * t.d.getD j 0 - (B0 v j).e) (m:=-28800) (M:=7200) k fun j _=>by
      have:=mul_in (s1 j) (s2 j); have:=(ho.at j).2; omega
    omega
  · have:=sumTo_bound (f:=fun j=>flowS (b.ss.getD j default) (t.m.getD j 0)) (m:=-60) (M:=60) k fun j _=>by
      have:=s3 j
      unfold flowS
      split <;> split <;> omega
    omega
theorem hasW {P:Int→Prop} {r:Rng} {x:Int} (h:IsW P r) (hx:P x):Jn r x=true:=by
  have:=h.2.2 x hx
  simp only [Jn,inB,Bool.and_eq_true,decide_eq_true_eq]; exact this
theorem plyR_t {b:Ee} {t:Tru} (h:(playX b t).2=true):plyR b t=.tup [.p (.sl (stL (playX b t).1)),bl true,bl true]:=by unfold plyR; rw [if_pos h]
theorem plyR_f {b:Ee} {t:Tru} (h:¬ (playX b t).2=true):plyR b t=.tup [C3,bl false,bl true]:=by unfold plyR; rw [if_neg h]
theorem c_wortTruth (b:Ee) (w:Nat) (_:An7 b) (hw:w < 65536):Bt Tryz.prog 7 [avB b,.p (.val (.int .u16 w))] (bl true):=by
  refine Bn (v:=[]) (q:=[]) (N:=198) (rs:=[.tmp 4]) Tryz.func7 rfl rfl rfl rfl rfl ?_
  cases hq:readyB b
  case' true=>
    have hth:thinB b ⟨[],[],[]⟩=true:=by simp [readyB] at hq; exact hq.1
    have hf:B5 b=0:=by simp [readyB] at hq; exact hq.2
    have hv:=Abs hf
    have hp:=c_lplay b w hf ⟨by omega,by omega⟩
    obtain ⟨t,ht⟩:∃ t,t=nthX b ((w:Int) % manyX b):=⟨_,rfl⟩
    have hl:F1 b t=true:=by rw [ht]; exact nth_listed hv _
    have hm:=many_le hv
    have hmo:(w:Int).tmod (manyX b)=(w:Int) % manyX b:=Int.tmod_eq_emod_of_nonneg (by omega)
    have hmod:=mod_nn (m:=(w:Int)) hm.1
    have hrn:=c_rnth b ((w:Int) % manyX b) hv hmod.1 (by omega)
    rw [← ht] at hp hrn
    obtain ⟨v,hvd⟩:∃ v,v=(playX b t).1:=⟨_,rfl⟩
    by_cases hx:(playX b t).2=true
  all_goals
    first
    | (rw [plyR_t hx,← hvd] at hp
       have hE:EndP b v:=⟨t,hl,hx,hvd⟩
       have he:¬ endsX b=[]:=fun e=>by have:=(ends_iff hv).2 hE; rw [e] at this; cases this
       have hM:v.length=b.vs.length:=by rw [hvd]; exact playX_len hf hl hx
       have hok:OkN b.vs.length v:=by rw [hvd]; exact playX_ok hv hl
       have hrm:RoomV b.vs v:=by rw [hvd]; exact playX_room hv hl hx
       have hB:=c_wb1 (thin0 hth) hf he
       have hnv:=hv.nv
       have hns:=hv.ns
       obtain ⟨p1,p2,p3,p4,p5⟩:=Dj hl
       obtain ⟨s1,s2,s3⟩:=L0 hv hl
       obtain ⟨sm1,sm2,sm3⟩:=sum_in hv hl hok
       obtain ⟨hz1,hz2⟩:=play_sum hv hl hx
       rw [← hvd] at hz1 hz2
       have hz1:uG t v b.vs.length+uF b t b.ss.length=0:=hz1
       have hz2:uE t v b.vs.length=0:=hz2
       have hb1:∀ i,Jn (bndAt b i).g (B0 v i).g=true:=fun i=>hasW (bndAt_is hv he i).1 ⟨v,hE,rfl⟩
       have hb2:∀ i,Jn (bndAt b i).e (B0 v i).e=true:=fun i=>hasW (bndAt_is hv he i).2.1 ⟨v,hE,rfl⟩
       have hb3:∀ i,Jn (bndAt b i).k (Qd (B0 v i))=true:=fun i=>hasW (bndAt_is hv he i).2.2 ⟨v,hE,rfl⟩
       have hng:∀ i,((B0 v i).g < 0)=False:=fun i=>by have:=(hok.at i).1; exact eq_false (by omega)
       have hrr:∀ i,i < b.vs.length→((b.vs.getD i default).room < (B0 v i).g)=False:=fun i hi=>by have:=hrm i hi; exact eq_false (by omega)
       have hq2:=hq)
    | (rw [plyR_f hx] at hp; have hM:=hq; have hb1:=hq; have hb2:=hq; have hb3:=hq; have hng:=hq; have hrr:=hq; have hz1:=hq; have hz2:=hq; have hq2:=hq)
    | (have hp:=Bdn; have hM:=hq; have hb1:=hq; have hb2:=hq; have hb3:=hq; have hng:=hq; have hrr:=hq; have hz1:=hq; have hz2:=hq; have hq2:=hq; have hmo:=hq)
    refine Aa fun K1 hK1=>?_
    refine Ac ?_
    simp (disch:=omega) only [decide_true,eq_self,amL,sA,sB,↓reduceIte]
    refine hK1 _ ?_
    refine Aa fun K2 hK2=>?_
    refine Aa fun K3 hK3=>?_
    refine Ac ?_
    simp (disch:=omega) only [decide_true,eq_self,amL,amT,sA,sB,sF,↓reduceIte]
    repeat' first | (refine Aw (by kernel_rfl) rfl (c_lready b) (by first | exact .inl rfl | exact .inr (.inl rfl)) ?_ ; simp (disch:=omega) only [hq,decide_true,eq_self,amL,sA,↓reduceIte])
    refine hK3 _ ?_
    refine Aj rfl (fun h=>MT.x ?_) (fun h=>ME.x ?_)
    all_goals
     first
     |refine MT.mk ?_
      first
      |exact Bool.noConfusion h
      |((try simp only [] at h) ; exfalso ; omega)
      |skip
       try simp only [] at h
       refine Aa fun K4 hK4=>?_
       refine Ac ?_
       simp (disch:=omega) only [amL]
       repeat' first | (refine Aw (by kernel_rfl) rfl (Bdn) (by first | exact .inl rfl | exact .inr (.inl rfl)) ?_ ; simp (disch:=omega) only [decide_true,eq_self,amL,sA,↓reduceIte])
       refine hK4 _ ?_
       refine Ah ?_
       try simp (disch:=omega) only [eq_self,amL,↓reduceIte]
       all_goals first | rfl | trace_state
     |refine ME.mk ?_
      first
      |exact Bool.noConfusion h
      |((try simp only [] at h) ; exfalso ; omega)
      |skip
       try simp only [] at h
       refine Ak ?_
       refine hK2 _ ?_
    all_goals
     skip
     refine Aa fun K5 hK5=>?_
     refine Ac ?_
     simp (disch:=omega) only [decide_true,eq_self,amL,amT,sA,sB,sF,↓reduceIte,reduceCtorEq]
     repeat' first | (refine Aw (by kernel_rfl) rfl (hp) (by first | exact .inl rfl | exact .inr (.inl rfl)) ?_ ; simp (disch:=omega) only [decide_true,eq_self,amL,sA,sF,↓reduceIte])
     refine hK5 _ ?_
     refine Aa fun K6 hK6=>?_
     refine Aa fun K7 hK7=>?_
     refine Ac ?_
     simp (disch:=omega) only [decide_true,eq_self,amL,sA,↓reduceIte]
     refine hK7 _ ?_
     refine Aj rfl (fun h=>MT.x ?_) (fun h=>ME.x ?_)
     all_goals
      first
      |refine MT.mk ?_
       first
       |exact Bool.noConfusion h
       |((try simp only [nrm] at h) ; exfalso ; omega)
       |skip
        try simp only [nrm] at h
        refine Aa fun K8 hK8=>?_
        refine Ac ?_
        simp (disch:=omega) only [hq,hM,hz1,hz2,decide_true,hb1,hb2,hb3,hng,hrr,hmo,stL_get,stL_len,staG,staE,staK,bndX_enc,bndX_mlen,bndX_len,Di,Bl,Xh,ne_eq,eq_self,not_true_eq_false,decide_false,List.length_map,amL,amT,sA,sB,sC,sD,sE,sF,sG,sH,sI,sJ,sK,sL,sM,sN,sO,↓reduceIte,reduceCtorEq]
        refine hK8 _ ?_
        refine Ah ?_
        try simp (disch:=omega) only [hq,hM,hz1,hz2,decide_true,hb1,hb2,hb3,hng,hrr,hmo,stL_get,stL_len,staG,staE,staK,bndX_enc,bndX_mlen,bndX_len,Di,Bl,Xh,ne_eq,eq_self,not_true_eq_false,decide_false,List.length_map,amL,amT,sA,sB,sC,sD,sE,sF,sG,sH,sI,sJ,sK,sL,sM,sN,sO,↓reduceIte,reduceCtorEq]
        all_goals first | rfl | trace_state
      |refine ME.mk ?_
       first
       |exact Bool.noConfusion h
       |((try simp only [] at h) ; exfalso ; omega)
       |skip
        try simp only [] at h
        refine Ak ?_
        refine hK6 _ ?_
     all_goals
      skip
      refine Aa fun K9 hK9=>?_
      refine Aa fun K10 hK10=>?_
      refine Ac ?_
      simp (disch:=omega) only [decide_true,eq_self,amL,sA,sF,↓reduceIte]
      refine hK10 _ ?_
      refine Aj rfl (fun h=>MT.x ?_) (fun h=>ME.x ?_)
      all_goals
       first
       |refine MT.mk ?_
        first
        |exact Bool.noConfusion h
        |((try simp only [] at h) ; exfalso ; omega)
        |skip
         try simp only [] at h
         refine Aa fun K11 hK11=>?_
         refine Ac ?_
         simp (disch:=omega) only [amL]
         repeat' first | (refine Aw (by kernel_rfl) rfl (Bdn) (by first | exact .inl rfl | exact .inr (.inl rfl)) ?_ ; simp (disch:=omega) only [decide_true,eq_self,amL,sA,↓reduceIte])
         refine hK11 _ ?_
         refine Ah ?_
         try simp (disch:=omega) only [eq_self,amL,↓reduceIte]
         all_goals first | rfl | trace_state
       |refine ME.mk ?_
        first
        |exact Bool.noConfusion h
        |((try simp only [] at h) ; exfalso ; omega)
        |skip
         try simp only [] at h
         refine Ak ?_
         refine hK9 _ ?_
      all_goals
       skip
       refine Aa fun K12 hK12=>?_
       refine Ac ?_
       simp (disch:=omega) only [decide_true,eq_self,amL,amT,sA,sB,sF,↓reduceIte]
       repeat' first | (refine Aw (by kernel_rfl) rfl (c_lbr hv) (by first | exact .inl rfl | exact .inr (.inl rfl)) ?_ ; simp (disch:=omega) only [eq_self,amL,↓reduceIte]) | (refine Aw (by kernel_rfl) rfl (hB) (by first | exact .inl rfl | exact .inr (.inl rfl)) ?_ ; simp (disch:=omega) only [decide_true,eq_self,amL,sA,sF,↓reduceIte])
       refine hK12 _ ?_
       refine Aa fun K13 hK13=>?_
       refine Aa fun K14 hK14=>?_
       refine Ac ?_
       simp (disch:=omega) only [hM,decide_true,stL_len,bndX_len,ne_eq,eq_self,not_true_eq_false,decide_false,List.length_map,amL,amT,sA,sF,↓reduceIte]
       repeat' first | (refine E0 (fun h=>?_) (fun h=>?_) <;> simp (disch:=omega) only [h,hq,hM,hz1,hz2,decide_true,hb1,hb2,hb3,hng,hrr,hmo,stL_get,stL_len,staG,staE,staK,bndX_enc,bndX_mlen,bndX_len,Di,Bl,Xh,ne_eq,eq_self,not_true_eq_false,decide_false,List.length_map,amL,amT,sA,sB,sC,sD,sE,sF,sG,sH,sI,sJ,sK,sL,sM,sN,sO,↓reduceIte,reduceCtorEq]) | (refine Cz (fun h=>?_) (fun h=>?_) <;> simp (disch:=omega) only [h,hq,hM,hz1,hz2,decide_true,hb1,hb2,hb3,hng,hrr,hmo,stL_get,stL_len,staG,staE,staK,bndX_enc,bndX_mlen,bndX_len,Di,Bl,Xh,ne_eq,eq_self,not_true_eq_false,decide_false,List.length_map,amL,amT,sA,sB,sC,sD,sE,sF,sG,sH,sI,sJ,sK,sL,sM,sN,sO,↓reduceIte,reduceCtorEq])
       all_goals
        skip
        refine hK14 _ ?_
        refine Aj rfl (fun h=>MT.x ?_) (fun h=>ME.x ?_)
        all_goals
         first
         |refine MT.mk ?_
          first
          |exact Bool.noConfusion h
          |((try simp only [nrm] at h) ; exfalso ; omega)
          |skip
           try simp only [nrm] at h
           refine Aa fun K15 hK15=>?_
           refine Ac ?_
           simp (disch:=omega) only [hq,hM,hz1,hz2,decide_true,hb1,hb2,hb3,hng,hrr,hmo,stL_get,stL_len,staG,staE,staK,bndX_enc,bndX_mlen,bndX_len,Di,Bl,Xh,ne_eq,eq_self,not_true_eq_false,decide_false,List.length_map,amL,amT,sA,sB,sC,sD,sE,sF,sG,sH,sI,sJ,sK,sL,sM,sN,sO,↓reduceIte,reduceCtorEq]
           refine hK15 _ ?_
           refine Ah ?_
           try simp (disch:=omega) only [hq,hM,hz1,hz2,decide_true,hb1,hb2,hb3,hng,hrr,hmo,stL_get,stL_len,staG,staE,staK,bndX_enc,bndX_mlen,bndX_len,Di,Bl,Xh,ne_eq,eq_self,not_true_eq_false,decide_false,List.length_map,amL,amT,sA,sB,sC,sD,sE,sF,sG,sH,sI,sJ,sK,sL,sM,sN,sO,↓reduceIte,reduceCtorEq]
           all_goals first | rfl | trace_state
         |refine ME.mk ?_
          first
          |exact Bool.noConfusion h
          |((try simp only [] at h) ; exfalso ; omega)
          |skip
           try simp only [] at h
           refine Ak ?_
           refine hK13 _ ?_
        all_goals
         skip
         refine Aa fun K16 hK16=>?_
         refine Ce (by kernel_rfl) (by kernel_rfl) ?_
         simp (disch:=omega) only [decide_true,eq_self,amL,amT,sA,sB,sF,↓reduceIte,reduceCtorEq]
         repeat' first | (refine Aw (by kernel_rfl) rfl (c_rmany b hv) (by first | exact .inl rfl | exact .inr (.inl rfl)) ?_ ; simp (disch:=omega) only [decide_true,hmo,eq_self,amL,amT,sA,sF,↓reduceIte]) | (refine Aw (by kernel_rfl) rfl (hrn) (by first | exact .inl rfl | exact .inr (.inl rfl)) ?_ ; simp (disch:=omega) only [decide_true,eq_self,amL,amT,sA,sB,sF,↓reduceIte])
         refine hK16 _ ?_
         refine Aa fun K17 hK17=>?_
         refine Ac ?_
         simp (disch:=omega) only [decide_true,eq_self,amL,sA]
         refine hK17 _ ?_
         refine Aa fun K18 hK18=>?_
         refine Aa fun K19 hK19=>?_
         refine Ac ?_
         simp (disch:=omega) only [decide_true,eq_self,amL,sA]
         refine hK19 _ ?_
         refine Ap ?_
         skip
         refine Be (α:=Nat) (fun i=>⟨T [(1,.p (.val (.int .u16 w))),(2,.ptr 2 0),(5,.p (.sl (stL v))),(8,.p (.sl ((bndX b).map encBn))),(10,.ptr 10 0),(11,i64 (uG t v i)),(12,i64 (uE t v i)),(13,i64 (i:Int))],O [(2,.cells (cB b)),(10,.cells (cT t))]⟩) (fun i=>b.vs.length - i) (fun i=>i≤b.vs.length) 0 ?_ ?_ (fun i hx20 K20 hK20=>?_)
         · exact Nat.zero_le _
         · refine De ?_ ?_ ?_ ?_ <;> (try simp (disch:=omega) only [eq_self,amL,sF,sG,↓reduceIte,reduceCtorEq]); all_goals first | rfl | exact ⟨rfl,rfl⟩ | trace_state
         have hk:=hx20; have hS1:=sm1 i (by omega); have hS2:=sm2 i (by omega)
         refine Aa fun K21 hK21=>?_
         refine Aa fun K22 hK22=>?_
         refine Ac ?_
         simp (disch:=omega) only [hM,decide_true,stL_len,eq_self,amL,amT,sA,sF,↓reduceIte]
         refine hK22 _ ?_
         refine Aj rfl (fun h=>MT.x ?_) (fun h=>ME.x ?_)
         all_goals
          first
          |refine MT.mk ?_
           first
           |exact Bool.noConfusion h
           |((try simp only [nrm] at h) ; exfalso ; omega)
           |skip
            try simp only [nrm] at h
            refine Ak ?_
            refine hK21 _ ?_
          |refine ME.mk ?_
           first
           |exact Bool.noConfusion h
           |((try simp only [nrm] at h) ; exfalso ; omega)
           |skip
            try simp only [nrm] at h
            refine Bo ?_
            refine hK18 _ ?_
            refine Aa fun K23 hK23=>?_
            refine Aa fun K24 hK24=>?_
            refine Ac ?_
            simp (disch:=omega) only [decide_true,eq_self,amL,sA]
            refine hK24 _ ?_
            refine Ap ?_
            obtain rfl:i=b.vs.length:=by omega
            refine Be (α:=Nat) (fun k=>⟨T [(2,.ptr 2 0),(10,.ptr 10 0),(11,i64 (uG t v b.vs.length+uF b t k)),(12,i64 (uE t v b.vs.length)),(14,i64 (k:Int))],O [(2,.cells (cB b)),(10,.cells (cT t))]⟩) (fun k=>b.ss.length - k) (fun k=>k≤b.ss.length) 0 ?_ ?_ (fun k hx25 K25 hK25=>?_)
            · exact Nat.zero_le _
            · refine De ?_ ?_ ?_ ?_ <;> (try simp (disch:=omega) only [hz2,eq_self,amL,sF,sG,↓reduceIte]); all_goals first | rfl | (show _=i64 (_+0); rw [Int.add_zero]; done) | trace_state
            have hk3:=hx25; have hS3:=sm3 k (by omega); have hS1:=sm1 b.vs.length (by omega)
            refine Aa fun K26 hK26=>?_
            refine Aa fun K27 hK27=>?_
            refine Ac ?_
            simp (disch:=omega) only [hz2,decide_true,eq_self,List.length_map,amL,amT,sA,sF,↓reduceIte,reduceCtorEq]
            refine hK27 _ ?_
            refine Aj rfl (fun h=>MT.x ?_) (fun h=>ME.x ?_)
            all_goals
             first
             |refine MT.mk ?_
              first
              |exact Bool.noConfusion h
              |((try simp only [nrm] at h) ; exfalso ; omega)
              |skip
               try simp only [nrm] at h
               refine Ak ?_
               refine hK26 _ ?_
             |refine ME.mk ?_
              first
              |exact Bool.noConfusion h
              |((try simp only [nrm] at h) ; exfalso ; omega)
              |skip
               try simp only [nrm] at h
               refine Bo ?_
               refine hK23 _ ?_
               refine Aa fun K28 hK28=>?_
               refine Ac ?_
               obtain rfl:k=b.ss.length:=by omega
               simp (disch:=omega) only [hz1,decide_true,eq_self,amL,amT,sA,sF,↓reduceIte]
               repeat' first | (refine E0 (fun h=>?_) (fun h=>?_) <;> simp (disch:=omega) only [h,hq,hM,hz1,hz2,decide_true,hb1,hb2,hb3,hng,hrr,hmo,stL_get,stL_len,staG,staE,staK,bndX_enc,bndX_mlen,bndX_len,Di,Bl,Xh,ne_eq,eq_self,not_true_eq_false,decide_false,List.length_map,amL,amT,sA,sB,sC,sD,sE,sF,sG,sH,sI,sJ,sK,sL,sM,sN,sO,↓reduceIte,reduceCtorEq]) | (refine Cz (fun h=>?_) (fun h=>?_) <;> simp (disch:=omega) only [h,hq,hM,hz1,hz2,decide_true,hb1,hb2,hb3,hng,hrr,hmo,stL_get,stL_len,staG,staE,staK,bndX_enc,bndX_mlen,bndX_len,Di,Bl,Xh,ne_eq,eq_self,not_true_eq_false,decide_false,List.length_map,amL,amT,sA,sB,sC,sD,sE,sF,sG,sH,sI,sJ,sK,sL,sM,sN,sO,↓reduceIte,reduceCtorEq]) | (refine Aw (by kernel_rfl) rfl (Bdn) (by first | exact .inl rfl | exact .inr (.inl rfl)) ?_ ; simp (disch:=omega) only [decide_true,eq_self,amL,sA,sF,↓reduceIte])
               all_goals
                skip
                refine hK28 _ ?_
                refine Ah ?_
                try simp (disch:=omega) only [eq_self,amL,↓reduceIte]
                all_goals first | rfl | trace_state
            all_goals
             skip
             refine Aa fun K29 hK29=>?_
             refine Ap ?_
             refine Aa fun K30 hK30=>?_
             refine Aa fun K31 hK31=>?_
             refine Ac ?_
             simp (disch:=omega) only [decide_true,Xh,eq_self,List.length_map,amL,amT,sA,sB,sF,↓reduceIte,reduceCtorEq]
             refine hK31 _ ?_
             refine Aj rfl (fun h=>MT.x ?_) (fun h=>ME.x ?_)
             all_goals
              first
              |refine MT.mk ?_
               first
               |exact Bool.noConfusion h
               |((try simp only [nrm] at h) ; exfalso ; omega)
               |skip
                try simp only [nrm] at h
                refine Ac ?_
                have y5:=s3 k
                simp (disch:=omega) only [decide_true,Bl,eq_self,List.length_map,amL,amT,sA,sF,↓reduceIte,reduceCtorEq]
                refine hK30 _ ?_
              |refine ME.mk ?_
               first
               |exact Bool.noConfusion h
               |((try simp only [nrm] at h) ; exfalso ; omega)
               |skip
                try simp only [nrm] at h
                refine Ak ?_
                refine hK30 _ ?_
             all_goals
              skip
              refine Aa fun K32 hK32=>?_
              refine Ac ?_
              simp (disch:=omega) only [decide_true,Xh,eq_self,List.length_map,amL,amT,sA,sB,sF,↓reduceIte,reduceCtorEq]
              refine hK32 _ ?_
              refine Aj rfl (fun h=>MT.x ?_) (fun h=>ME.x ?_)
              all_goals
               first
               |refine MT.mk ?_
                first
                |exact Bool.noConfusion h
                |((try simp only [nrm] at h) ; exfalso ; omega)
                |skip
                 try simp only [nrm] at h
                 refine Ac ?_
                 have y6:=s3 k
                 simp (disch:=omega) only [decide_true,Bl,eq_self,List.length_map,amL,amT,sA,sF,↓reduceIte,reduceCtorEq]
                 refine hK29 _ ?_
               |refine ME.mk ?_
                first
                |exact Bool.noConfusion h
                |((try simp only [nrm] at h) ; exfalso ; omega)
                |skip
                 try simp only [nrm] at h
                 refine Ak ?_
                 refine hK29 _ ?_
              all_goals
               skip
               refine Ac ?_
               simp (disch:=omega) only [decide_true,eq_self,amL,amT,sA,sF,↓reduceIte]
               refine hK25 (k+1) _ ?_ ?_ (De ?_ ?_ ?_ ?_)
               all_goals (try simp (disch:=omega) only [hz2,eq_self,amL,sF,sG,↓reduceIte])
               all_goals first | omega | (rw [uF1 (by assumption)]; done) | (rw [uF2 (by assumption)]; done) | (rw [uF0 (by assumption) (by assumption)]; done) | rfl | trace_state
         all_goals
          skip
          refine Aa fun K33 hK33=>?_
          refine Ap ?_
          refine Aa fun K34 hK34=>?_
          refine Aa fun K35 hK35=>?_
          refine Ce (by kernel_rfl) (by kernel_rfl) ?_
          simp (disch:=omega) only [hM,decide_true,stL_get,stL_len,staG,staE,staK,bndX_enc,bndX_len,eq_self,List.length_map,amL,amT,sA,sB,sE,sF,↓reduceIte,reduceCtorEq]
          repeat' first | (refine E0 (fun h=>?_) (fun h=>?_) <;> simp (disch:=omega) only [h,hq,hM,hz1,hz2,decide_true,hb1,hb2,hb3,hng,hrr,hmo,stL_get,stL_len,staG,staE,staK,bndX_enc,bndX_mlen,bndX_len,Di,Bl,Xh,ne_eq,eq_self,not_true_eq_false,decide_false,List.length_map,amL,amT,sA,sB,sC,sD,sE,sF,sG,sH,sI,sJ,sK,sL,sM,sN,sO,↓reduceIte,reduceCtorEq]) | (refine Cz (fun h=>?_) (fun h=>?_) <;> simp (disch:=omega) only [h,hq,hM,hz1,hz2,decide_true,hb1,hb2,hb3,hng,hrr,hmo,stL_get,stL_len,staG,staE,staK,bndX_enc,bndX_mlen,bndX_len,Di,Bl,Xh,ne_eq,eq_self,not_true_eq_false,decide_false,List.length_map,amL,amT,sA,sB,sC,sD,sE,sF,sG,sH,sI,sJ,sK,sL,sM,sN,sO,↓reduceIte,reduceCtorEq]) | (refine Aw (by kernel_rfl) rfl (by first | exact c_lin _ (bndAt b i).g | exact c_lin _ (bndAt b i).e | exact c_lin _ (bndAt b i).k) (by first | exact .inl rfl | exact .inr (.inl rfl)) ?_ ; simp (disch:=omega) only [hM,decide_true,hb1,hb2,hb3,hng,hrr,stL_get,stL_len,staG,staE,staK,bndX_enc,bndX_len,Di,eq_self,decide_false,List.length_map,amL,amT,sA,sB,sE,sF,↓reduceIte,reduceCtorEq])
          all_goals
           skip
           refine hK35 _ ?_
           refine Aj rfl (fun h=>MT.x ?_) (fun h=>ME.x ?_)
           all_goals
            first
            |refine MT.mk ?_
             first
             |exact Bool.noConfusion h
             |((try simp only [nrm] at h) ; exfalso ; omega)
             |skip
              try simp only [nrm] at h
              refine Aa fun K36 hK36=>?_
              refine Ac ?_
              simp (disch:=omega) only [hq,hM,hz1,hz2,decide_true,hb1,hb2,hb3,hng,hrr,hmo,stL_get,stL_len,staG,staE,staK,bndX_enc,bndX_mlen,bndX_len,Di,Bl,Xh,ne_eq,eq_self,not_true_eq_false,decide_false,List.length_map,amL,amT,sA,sB,sC,sD,sE,sF,sG,sH,sI,sJ,sK,sL,sM,sN,sO,↓reduceIte,reduceCtorEq]
              refine hK36 _ ?_
              refine Ah ?_
              try simp (disch:=omega) only [hq,hM,hz1,hz2,decide_true,hb1,hb2,hb3,hng,hrr,hmo,stL_get,stL_len,staG,staE,staK,bndX_enc,bndX_mlen,bndX_len,Di,Bl,Xh,ne_eq,eq_self,not_true_eq_false,decide_false,List.length_map,amL,amT,sA,sB,sC,sD,sE,sF,sG,sH,sI,sJ,sK,sL,sM,sN,sO,↓reduceIte,reduceCtorEq]
              all_goals first | rfl | trace_state
            |refine ME.mk ?_
             first
             |exact Bool.noConfusion h
             |((try simp only [] at h) ; exfalso ; omega)
             |skip
              try simp only [] at h
              refine Ak ?_
              refine hK34 _ ?_
           all_goals
            skip
            refine Aa fun K37 hK37=>?_
            refine Ce (by kernel_rfl) (by kernel_rfl) ?_
            have y1:=s1 i; have y2:=(hok.at i).1
            simp (disch:=omega) only [hM,decide_true,stL_get,stL_len,staG,staE,staK,Bl,eq_self,List.length_map,amL,amT,sA,sB,sF,↓reduceIte,reduceCtorEq]
            refine hK37 _ ?_
            refine Ce (by kernel_rfl) (by kernel_rfl) ?_
            have y3:=mul_in (s1 i) (s2 i); have y4:=(hok.at i).2
            simp (disch:=omega) only [hM,decide_true,stL_get,stL_len,staE,staK,Bl,eq_self,List.length_map,amL,amT,sA,sB,sF,↓reduceIte,reduceCtorEq]
            refine hK33 _ ?_
            refine Ac ?_
            simp (disch:=omega) only [decide_true,eq_self,amL,amT,sA,sF,↓reduceIte]
            refine hK20 (i+1) _ ?_ ?_ (De ?_ ?_ ?_ ?_)
            all_goals (try simp (disch:=omega) only [eq_self,amL,sF,sG,↓reduceIte])
            all_goals first | omega | exact ⟨rfl,rfl⟩ | rfl | trace_state
end AM.Try
end
