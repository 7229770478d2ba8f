/- Lemmas for the proof: more of the program's functions, walked on the abstract machine. -/
import Derived.Test.YtbgiddcgdgdmbaaGreatQ6
import Derived.Laws.Cover3
/- The abstract machine, part 48: an array of one's own is written no more: what refers to it is a value from then on. -/
section
namespace AM
open Go Go.Proofs
section
variable {P:Program} {r:RB} {N B:Nat} {S:Nat→Prop} {θ:Nat→Loc} {M M2:Nat→Prop} {w:World} {st:St} {a:Act} {Q:AEx→St→Prop} {n:Nat} {es:List (List PV)}
def Bhv (n:Nat) (es:List (List PV)):List (Nat × AO)→List (Nat × AO)
 | []=>[]
 | (j,x) :: l=>if j=n then Bhv n es l else (j,x.frz n es) :: Bhv n es l
theorem Blw {l:List (Nat × AO)}:(fun m=>if m=n then none else (O l m).map (AO.frz n es))=O (Bhv n es l):=by
 funext m
 induction l with
 | nil=>simp [O,Bhv]
 | cons p l ih=>
  obtain ⟨j,x⟩:=p
  simp only [O,Bhv]
  by_cases e:m=n
  ·subst e
   simp only [if_true] at ih ⊢
   split
   ·exact ih
   ·simp only [O]
    rw [if_neg (fun h=>by omega)]; exact ih
  ·rw [if_neg e] at ih ⊢
   by_cases e2:m=j
   ·subst e2
    rw [if_neg e]
    simp [O]
   ·rw [if_neg e2]
    split
    ·exact ih
    ·simp only [O]; rw [if_neg e2]; exact ih
theorem Blg {l:List (Nat × AV)} {m:List (Nat × AO)}:St.frz n es ⟨T l,O m⟩=⟨T (Xf n es l),O (Bhv n es m)⟩:=by
 unfold St.frz; rw [Awe,Blw]
end
end AM
namespace AM
open Go
theorem Bfx {K:St→Prop} {Q:AEx→St→Prop} {s:St} {i:Nat}:Jr K Q (.exit i) s=Q (.exit i) s:=rfl
end AM
namespace AM
open Go
end AM
namespace AM
open Go
structure MT (p:Prop):Prop where
 x:p
structure ME (p:Prop):Prop where
 x:p
theorem Bd2 {P:Program} {r:RB} {N:Nat} {st:St} {Q:AEx→St→Prop} {id:Nat} {ops:List Oper} {c:Code} (h:∀ K:St→Prop,(∀ s,AWP P r N c s Q→K s)→EL P r N ops ops st K):AWP P r N (.seq (.region id ops.toArray false) c) st Q:=
 Aa fun K hK=>Ac (h K hK)
theorem nrm:(∀ b:Bool,(!b)=true↔b=false)∧(∀ (p:Prop) [Decidable p],decide p=true↔p)∧(∀ (p:Prop) [Decidable p],decide p=false↔¬ p)∧(∀ b c:Bool,(b&&c)=true↔b=true∧c=true)∧(∀ b:Bool,(!b)=false↔b=true)∧(∀ b:Bool,(!!b)=b)∧(∀ (p:Prop) [Decidable p],decide (¬ p)=!decide p)∧(!true)=false∧(!false)=true:=by
 refine ⟨fun b=>?_,fun p _=>?_,fun p _=>?_,fun b c=>?_,fun b=>?_,fun b=>?_,fun p _=>?_,rfl,rfl⟩ <;> simp
section
variable {P:Program} {r:RB} {N:Nat} {s:St} {K:St→Prop} {dst:Option Nat} {ty:TypeId} {pos:String} {after:Array Edge} {g:Option (Nat × Bool)}
def Bjd (esz:Nat→Nat) (ea:Nat→Option Bool) (e:Nat):Option (List (List PV))→Option Int→(Nat→Option Int)→Option Eff
 | some es,some l,hf=>match hf es.length with
  | some h=>if 0≤l∧l≤h∧h≤es.length∧(ea e).isSome∧(es.all fun c=>c.length=esz e) then some (.pure (.p (.sl ((es.take h.toNat).drop l.toNat)))) else none
  | none=>none
 | _,_,_=>none
theorem Bje {t:TypeId} {x:Operand} {lo hi:Option Operand} {e:Nat} (hk:(Ab P t).k=.sl e):EO P r N ⟨dst,.slice t x lo hi none,ty,pos,after,g⟩ s K=EOp r.b N dst s K (Bjd (fun e=>(Ab P e).sz) (fun e=>(Ab P e).agg) e ((ev s.t x).pv?.bind PV.list?) (A9 (ev s.t) 0 lo) (fun n=>A9 (ev s.t) n hi)):=by
 refine C7 rfl rfl ?_
 simp only [eff,hk]
 cases (ev s.t x).pv?.bind PV.list? with
 | none=>rfl
 | some es=>cases A9 (ev s.t) 0 lo with
  | none=>rfl
  | some l=>
   simp only [Bjd]
   cases A9 (ev s.t) es.length hi <;> rfl
def Bkh (esz:Nat→Nat) (ea:Nat→Option Bool) (e:Nat):Option (List (List PV))→Option Int→Option Int→Option Int→Option Eff
 | some es,some l,some h,some m=>if 0≤l∧l≤h∧h≤m∧m≤es.length∧(ea e).isSome∧(es.all fun c=>c.length=esz e) then some (.pure (.p (.sl ((es.take h.toNat).drop l.toNat)))) else none
 | _,_,_,_=>none
theorem Bi8 {t:TypeId} {x hi mx:Operand} {lo:Option Operand} {e:Nat} (hk:(Ab P t).k=.sl e):EO P r N ⟨dst,.slice t x lo (some hi) (some mx),ty,pos,after,g⟩ s K=EOp r.b N dst s K (Bkh (fun e=>(Ab P e).sz) (fun e=>(Ab P e).agg) e ((ev s.t x).pv?.bind PV.list?) (A9 (ev s.t) 0 lo) (A9 (ev s.t) 0 (some hi)) (A9 (ev s.t) 0 (some mx))):=by
 refine C7 rfl rfl ?_
 simp only [eff,hk]
 cases (ev s.t x).pv?.bind PV.list? <;> cases A9 (ev s.t) 0 lo <;> cases A9 (ev s.t) 0 (some hi) <;> cases A9 (ev s.t) 0 (some mx) <;> rfl
theorem Bi7 {esz:Nat→Nat} {ea:Nat→Option Bool} {e:Nat} {es:List (List PV)} {l:Int} {hf:Nat→Option Int} {h:Int} (hh:hf es.length=some h) (h0:0≤l) (h1:l≤h) (h2:h≤es.length) (h3:(ea e).isSome=true) (h4:(es.all fun c=>c.length=esz e)=true):Bjd esz ea e (some es) (some l) hf=some (.pure (.p (.sl ((es.take h.toNat).drop l.toNat)))):=by
 simp only [Bjd,hh]; rw [if_pos ⟨h0,h1,h2,h3,h4⟩]
theorem Bjh {esz:Nat→Nat} {ea:Nat→Option Bool} {e:Nat} {es:List (List PV)} {l h m:Int} (h0:0≤l) (h1:l≤h) (h2:h≤m) (h3:m≤es.length) (h5:(ea e).isSome=true) (h4:(es.all fun c=>c.length=esz e)=true):Bkh esz ea e (some es) (some l) (some h) (some m)=some (.pure (.p (.sl ((es.take h.toNat).drop l.toNat)))):=by
 simp only [Bkh]; rw [if_pos ⟨h0,h1,h2,h3,h5,h4⟩]
def fMk (k by8:Nat) (z:List PV) (d:Nat):AV→AV→Option Eff
 | .p (.val (.int .i64 n)),.p (.val (.int .i64 m))=>if n=m∧0≤n∧n≤4611686018427387904∧by8 * n≤281474976710656 then some (.new (.arr k (List.replicate n.toNat z)) (.own d n.toNat)) else none
 | _,_=>none
theorem Bl5 {t e:TypeId} {l c:Operand} {d k by8:Nat} {z:List Value} (hk:(Ab P t).k=.sl e) (h1:(Ab P e).sz=k) (h2:(Ab P e).bytes=by8) (h3:(Ab P e).zero=z) (h4:z.all Value.oneCell'=true) (h5:k=z.length) (h6:0 < k) (h7:(Ab P e).agg.isSome=true) :
  EO P r N ⟨some d,.makeSlice t l c,ty,pos,after,g⟩ s K=EOp r.b N (some d) s K (fMk k by8 (z.map .val) (r.b+d) (ev s.t l) (ev s.t c)):=by
 refine C7 rfl rfl ?_
 have e5:(k=z.length)=True:=eq_true h5
 have e6:(0 < k)=True:=eq_true h6
 simp only [eff,hk]
 cases ev s.t l with
 | p q=>cases q with
  | val v=>cases v with
   | int kd n=>cases kd <;> (cases ev s.t c with
    | p q'=>cases q' with
     | val v'=>cases v' with
      | int kd' m=>cases kd' <;> simp only [fMk,h1,h2,h3,h4,h7,e5,e6,and_true,Option.getD_some]
      | _=>rfl
     | _=>rfl
    | _=>rfl)
   | _=>rfl
  | _=>rfl
 | _=>rfl
end
end AM
namespace AM
open Go
theorem Bie {P:Program} {r:RB} {N:Nat} {c:Code} {s:St} {Q:AEx→St→Prop} (n k m off:Nat) {cs:List AV} (hn4:r.b≤n) (hm:s.o m=some (.cells cs)) (hi:cs[off]?=some (.p (.val (.slice none 0 0)))) (hfree:s.o n=none)
  (h:AWP P r N c ⟨s.t,upd (upd s.o n (some (.arr k []))) m (some (.cells (cs.set off (.own n 0))))⟩ Q):AWP P r N c s Q:=by
 intro B S θ M w a hs
 have hmn:m≠n:=fun e=>by rw [e,hfree] at hm; cases hm
 have hS:=hs.new (d:=n) hfree (w':=w) (l:=⟨0,0,true⟩) (o:=.arr k []) (Nat.le_refl _) (fun _ _=>rfl) (fun e=>by cases e)
  ⟨fun i e he=>by simp at he,.inl ⟨rfl,rfl⟩⟩ (AO.lives_arr _ _ _)
 have hm1:(s.setO n (.arr k [])).o m=some (.cells cs):=by show upd s.o n _ m=_; rw [Ar hmn]; exact hm
 have hsome:∀ j,(upd (upd s.o n (some (.arr k []))) m (some (.cells (cs.set off (.own n 0)))) j).isSome=((s.setO n (.arr k [])).o j).isSome:=fun j=>by
  by_cases e:j=m
  ·subst e; rw [Ev,hm1]; rfl
  ·rw [Ar e]; rfl
 have hS2:Aq N B S (Db θ n ⟨0,0,true⟩) (fun b=>M b∨((true:Bool)=false∧b=0)) w ⟨s.t,upd (upd s.o n (some (.arr k []))) m (some (.cells (cs.set off (.own n 0))))⟩ a:=by
  refine ⟨hS.size,hS.tm,fun j o hj=>?_,fun j o hj hnil=>?_,fun i j hi hj=>hS.inj i j (by rw [← hsome]; exact hi) (by rw [← hsome]; exact hj),hS.base,hS.mlt,⟨fun j=>AV.lives_mono (fun i hi=>(hsome i).trans hi) (hS.cl.1 j),fun j o hj=>?_⟩⟩
  ·have hj:upd (upd s.o n (some (.arr k []))) m (some (.cells (cs.set off (.own n 0)))) j=some o:=hj
   by_cases e:j=m
   ·subst e
    rw [Ev] at hj
    cases hj
    obtain ⟨h1,cur,e,h2,h3,h4,h5⟩:=hS.ob j _ hm1
    refine ⟨h1,cur,e,h2,by simpa using h3,fun i hi=>h4 i (by simpa using hi),fun i x hx=>?_⟩
    rw [List.getElem?_set] at hx
    split at hx
    ·rename_i hoff
     split at hx
     ·cases hx
      have hv:=Rd (h5 off _ hi)
      rw [← hoff,hv]
      exact .ownNil n (by simp)
     ·cases hx
    ·exact h5 i x hx
   ·rw [Ar e] at hj
    exact hS.ob j o hj
  ·have hj:upd (upd s.o n (some (.arr k []))) m (some (.cells (cs.set off (.own n 0)))) j=some o:=hj
   by_cases e:j=m
   ·subst e; exact hS.lv j _ hm1 hnil
   ·rw [Ar e] at hj; exact hS.lv j o hj hnil
  ·have hj:upd (upd s.o n (some (.arr k []))) m (some (.cells (cs.set off (.own n 0)))) j=some o:=hj
   have hmono:∀ i,((s.setO n (.arr k [])).o i).isSome=true→(upd (upd s.o n (some (.arr k []))) m (some (.cells (cs.set off (.own n 0)))) i).isSome=true:=fun i hi=>(hsome i).trans hi
   by_cases e:j=m
   ·subst e
    rw [Ev] at hj
    cases hj
    rw [AO.lives_cells]
    intro i x hx
    rw [List.getElem?_set] at hx
    split at hx
    ·split at hx
     ·cases hx
      intro p hp
      simp only [AV.clean,bne_eq_false_iff_eq] at hp
      subst hp
      refine hmono n ?_
      show (upd s.o n _ n).isSome=true
      simp
     ·cases hx
    ·exact AV.lives_mono hmono (AO.lives_cells.1 (hS.cl.2 j _ hm1) i x hx)
   ·rw [Ar e] at hj
    exact AO.lives_mono hmono (hS.cl.2 j o hj)
 have:=h B S _ _ w a hS2
 refine wpIn_mono this ?_
 rintro e a' w' ⟨ae,st',h1,h2,⟨⟨θ',M',h3,h4,h5,h6⟩,h7⟩⟩
 exact ⟨ae,st',h1,h2,⟨⟨θ',M',h3,h4,fun m hm hv=>(h5 m hm hv).trans (Ay (by omega)),fun b hb hm=>h6 b hb (.inl hm)⟩,h7⟩⟩
theorem Be9 {P:Program} {r:RB} {N:Nat} {c:Code} {l:List (Nat × AV)} {mm:List (Nat × AO)} {Q:AEx→St→Prop} (n k m off:Nat) {cs:List AV} (hn4:r.b≤n) (hm:O mm m=some (.cells cs)) (hi:cs[off]?=some (.p (.val (.slice none 0 0)))) (hfree:O mm n=none)
  (h:AWP P r N c ⟨T l,O ((m,.cells (cs.set off (.own n 0))) :: (n,.arr k []) :: mm)⟩ Q):AWP P r N c ⟨T l,O mm⟩ Q:=Bie n k m off hn4 hm hi hfree h
end AM
end
/- Worts in plain Lean, and how they lie in abstract values. -/
section
namespace AM.Wort
open Go AM Go.Proofs
theorem Beh {l:List Sta} {k:Nat} (h:k < l.length):(l.map Bb7).getD k []=Bb7 (l.getD k default):=Cp _ _ _ h
end AM.Wort
end
/- The abstract machine, part 42: an object gets another name. -/
section
namespace AM
open Go Go.Proofs
section
variable {P:Program} {r:RB} {N B:Nat} {S:Nat→Prop} {θ:Nat→Loc} {M:Nat→Prop} {w:World} {st:St} {a:Act} {Q:AEx→St→Prop} {c m:Nat}
theorem Aq.wk {s1:St} (h:Aq N B S θ M w st a) (hw:s1.wk st):Aq N B S θ M w s1 a:=by
 have hob:∀ n o,s1.o n=some o→∃ o',st.o n=some o'∧(Lu θ M w (θ n) o'→Lu θ M w (θ n) o):=fun n o hn=>by
  rcases hw.o n with e | e | ⟨cs,cs',e1,e2,e3,e4⟩
  ·rw [e] at hn; cases hn
  ·rw [e] at hn; exact ⟨o,hn,id⟩
  ·rw [e2] at hn; cases hn
   refine ⟨_,e1,fun ⟨h0,cur,e,hb,hs,ho,hx⟩=>⟨h0,cur,e,hb,by rw [hs,e3],fun i hi=>ho i (by rw [← e3]; exact hi),fun i x hi=>?_⟩⟩
   rcases e4 i x hi with rfl | h
   ·exact .undef _
   ·exact hx i x h
 refine ⟨h.size,fun i=>?_,fun n o hn=>?_,fun n o hn hnil=>?_,fun n m hn hm=>?_,h.base,h.mlt,hw.cl⟩
 ·rcases hw.t i with e | e
  ·rw [e]; exact .undef _
  ·rw [e]; exact h.tm i
 ·obtain ⟨o',h1,h2⟩:=hob n o hn
  exact h2 (h.ob n o' h1)
 ·obtain ⟨o',h1,_⟩:=hob n o hn
  exact h.lv n o' h1 hnil
 ·obtain ⟨o1,ho1⟩:=Option.isSome_iff_exists.1 hn
  obtain ⟨o2,ho2⟩:=Option.isSome_iff_exists.1 hm
  obtain ⟨o1',g1,_⟩:=hob n o1 ho1
  obtain ⟨o2',g2,_⟩:=hob m o2 ho2
  exact h.inj n m (by rw [g1]; rfl) (by rw [g2]; rfl)
theorem AWP.wk {cd:Code} (h:AWP P r N cd st (fun e s=>∃ s1:St,s1.wk s∧Q e s1)):AWP P r N cd st Q:=by
 intro B S θ M w a hs
 refine wpIn_mono (h B S θ M w a hs) ?_
 rintro e a' w' ⟨ae,st',rfl,⟨s1,h1,hq⟩,⟨θ',M',hs',hk,ht,hm⟩,hd⟩
 exact ⟨ae,s1,rfl,hq,⟨θ',M',hs'.wk h1,hk,ht,hm⟩,hd⟩
end
section
variable {P:Program} {r:RB} {N:Nat} {st:St} {Q:AEx→St→Prop} {c m:Nat}
theorem Bh7 {cd:Code} {l:List (Nat × AV)} {o:List (Nat × AO)} {k:Nat} (n:Nat) {es:List (List PV)} (hn:O o n=some (.arr k es)) (h:AWP P r N cd ⟨T (Xf n es l),O (Bhv n es o)⟩ Q):AWP P r N cd ⟨T l,O o⟩ Q:=
 Aro n hn (by rw [Blg]; exact h)
end
end AM
end
/- Ranges over functions that yield values; searches of the beginning of an array. -/
section
namespace AM
open Go AM AM.Duty Go.Proofs
open Nat renaming reduceLT→sA,reduceAdd→sB,reduceMul→sC,reduceSub→sD,reduceLeDiff→sE,reduceEqDiff→sF,reduceBEq→sG
open Int renaming reduceAdd→sH,reduceSub→sI,reduceMul→sJ,reduceLT→sK,reduceLE→sL,reduceNeg→sM,reduceToNat→sN,reduceEq→sO
set_option maxHeartbeats 4000000
theorem Ag6.drop {P:Program} {fv:AV} {F:Nat→Prop} {σ α:Type} {arg:α→AV} {l:List α} {go:σ→Prop} {I:σ→(Nat→Option AO)→Prop} {step:σ→α→σ × Bool} (hT:Ag6 P fv F arg l go I step) {os os2:Nat→Option AO} {bd:Nat} (hcl:(Hp os).closed) (hfree:∀ n,bd≤n→os n=none) {s s':σ} (hs:I s os) (hI:I s' os2) (hfr:∀ n,n < bd→¬ F n→os2 n=os n) :
  (Hp (Dt bd os2)).closed∧I s' (Dt bd os2)∧∀ n,¬ F n→Dt bd os2 n=os n:=by
 have hF:∀ n,F n→n < bd:=fun n hn=>by obtain ⟨o,h,_⟩:=hT.foot s os n hs hn; exact Ao hfree h
 have hfr2:∀ n,¬ F n→Dt bd os2 n=os n:=fun n hn=>by
  by_cases h:n < bd
  ·rw [Fv h]; exact hfr n h hn
  ·rw [Sg (by omega),hfree n (by omega)]
 refine ⟨⟨fun _=>AV.lives_undef _,fun n o hn=>?_⟩,hT.stable s' os2 _ hI (fun n hn=>Fv (hF n hn)),hfr2⟩
 have hn:Dt bd os2 n=some o:=hn
 by_cases hFn:F n
 ·obtain ⟨o',h1,h2⟩:=hT.foot s' os2 n hI hFn
  rw [Fv (hF n hFn),h1] at hn
  cases hn
  intro m hm
  obtain ⟨o'',h3,_⟩:=hT.foot s' os2 m hI (h2 m hm)
  show (Dt bd os2 m).isSome=true
  rw [Fv (hF m (h2 m hm)),h3]; rfl
 ·rw [hfr2 n hFn] at hn
  intro m hm
  have h3:=hcl.2 n o hn m hm
  show (Dt bd os2 m).isSome=true
  by_cases hFm:F m
  ·obtain ⟨o',h1,_⟩:=hT.foot s' os2 m hI hFm
   rw [Fv (hF m hFm),h1]; rfl
  ·rw [hfr2 m hFm]; exact h3
theorem Bh1 {σ α:Type} {step:σ→α→σ × Bool} {go:σ→Prop}:∀ {l:List α} {s:σ},(∀ s x,x ∈ l→go s→(step s x).2=true→go (step s x).1)→go s→(Fm step s l).2=true→go (Fm step s l).1
 | [],_,_,hg,_=>hg
 | x :: l,s,hn,hg,h=>by
  simp only [Fm] at h ⊢
  split at h
  ·rename_i h1
   rw [if_pos h1]
   exact Bh1 (fun s y hy=>hn s y (by simp [hy])) (hn s x (by simp) hg h1) h
  ·cases h
end AM
end
/- All lists of numbers of some ranges, one after the other. -/
section
namespace AM.Wort
open Go AM Go.Proofs
def Be3 (f:Int→List (List Int)):Nat→Int→List (List Int)
 | 0,_=>[]
 | c+1,n=>f n++Be3 f c (n+1)
def Bea:List Rng→List Int→List (List Int)
 | [],p=>[p]
 | r :: rs,p=>Be3 (fun n=>Bea rs (p++[n])) (Fa r).toNat r.lo
theorem Ber {f:Int→List (List Int)} {sz n:Nat} {lo:Int} (h:n < sz):Be3 f (sz - n) (lo+n)=f (lo+n)++Be3 f (sz - (n+1)) (lo+(n+1:Nat)):=by
 rw [show sz - n=(sz - (n+1))+1 by omega,show lo+((n+1:Nat):Int)=lo+n+1 by omega]; rfl
theorem Bfy {f:Int→List (List Int)} {sz n:Nat} {lo:Int} (h:sz≤n):Be3 f (sz - n) lo=[]:=by
 rw [show sz - n=0 by omega]; rfl
theorem Bfw {f:Int→List (List Int)} {x:List Int}:∀ (c:Nat) (n:Int) (k:Nat),k < c→x ∈ f (n+k)→x ∈ Be3 f c n
 | 0,_,k,hk,_=>by omega
 | c+1,n,0,_,h=>by
  simp only [Be3,List.mem_append]
  left; simpa using h
 | c+1,n,k+1,hk,h=>by
  simp only [Be3,List.mem_append]
  right
  refine Bfw c (n+1) k (by omega) ?_
  rw [show n+1+(k:Int)=n+((k+1:Nat):Int) by omega]; exact h
theorem Bgu {f:Int→List (List Int)} {x:List Int}:∀ (c:Nat) (n:Int),x ∈ Be3 f c n→∃ k:Nat,k < c∧x ∈ f (n+k)
 | 0,_,h=>by cases h
 | c+1,n,h=>by
  simp only [Be3,List.mem_append] at h
  rcases h with h | h
  ·exact ⟨0,by omega,by simpa using h⟩
  ·obtain ⟨k,h1,h2⟩:=Bgu c (n+1) h
   exact ⟨k+1,by omega,by rw [show n+((k+1:Nat):Int)=n+1+k by omega]; exact h2⟩
theorem Bih {α:Type} {l:List α} {i:Nat} (d:α) (h:i < l.length):l.drop i=l.getD i d :: l.drop (i+1):=by
 rw [List.drop_eq_getElem_cons h]; simp [List.getD,h]
theorem Big {rs:List Rng} {cur:List Int} {d:Rng} (h:cur.length < rs.length):Bea (rs.drop cur.length) cur=Be3 (fun n=>Bea (rs.drop (cur.length+1)) (cur++[n])) ((Fa (rs.getD cur.length d)).toNat - 0) ((rs.getD cur.length d).lo+(0:Nat)):=by
 rw [Bih d h,Nat.sub_zero]; simp only [Bea,Int.natCast_zero,Int.add_zero]
theorem Bi9 {rs:List Rng} {cur:List Int} (h:rs.length≤cur.length):Bea (rs.drop cur.length) cur=[cur]:=by
 rw [List.drop_of_length_le h]; rfl
def Bhz:List Rng→List Int→Prop
 | [],[]=>True
 | r :: rs,x :: l=>(r.lo≤x∧x≤r.hi)∧Bhz rs l
 | _,_=>False
theorem Bfs:∀ (rs:List Rng) (p x:List Int),x ∈ Bea rs p↔∃ y,x=p++y∧Bhz rs y
 | [],p,x=>by
  simp only [Bea,List.mem_singleton]
  constructor
  ·intro h; exact ⟨[],by simpa using h,trivial⟩
  ·rintro ⟨y,rfl,hy⟩
   cases y with
   | nil=>simp
   | cons a l=>exact hy.elim
 | r :: rs,p,x=>by
  simp only [Bea]
  constructor
  ·intro h
   obtain ⟨k,h1,h2⟩:=Bgu _ _ h
   obtain ⟨y,rfl,hy⟩:=(Bfs rs _ x).1 h2
   refine ⟨(r.lo+k) :: y,by simp,⟨?_,?_⟩,hy⟩
   ·omega
   ·unfold Fa at h1; omega
  ·rintro ⟨y,rfl,hy⟩
   cases y with
   | nil=>exact hy.elim
   | cons a l=>
    obtain ⟨⟨h1,h2⟩,h3⟩:=hy
    refine Bfw _ _ (a - r.lo).toNat (by unfold Fa; omega) ((Bfs rs _ _).2 ⟨l,?_,h3⟩)
    rw [show r.lo+((a - r.lo).toNat:Int)=a by omega]; simp
theorem Bha:∀ {rs:List Rng} {l:List Int},Bhz rs l→l.length=rs.length
 | [],[],_=>rfl
 | [],_ :: _,h=>h.elim
 | _ :: _,[],h=>h.elim
 | _ :: rs,_ :: l,h=>by simp [Bha h.2]
end AM.Wort
end
/- The abstract machine, part 70: the beginning of a slice that is a value. -/
section
namespace AM
open Go Go.Proofs
theorem Bik {es:List (List PV)}:(AV.p (.sl es)).pv?.bind PV.list?=some es:=rfl
end AM
end
/- Lists of numbers as truths. -/
section
namespace AM.Wort
open Go AM Go.Proofs
def Bfd (k:Nat) (x:List Int):Tru:=⟨x.take k,(x.take (2 * k)).drop k,x.drop (2 * k)⟩
theorem Bkm {k:Nat} {x:List Int}:(Bfd k x).g++((Bfd k x).d++(Bfd k x).m)=x:=by
 show x.take k++((x.take (2 * k)).drop k++x.drop (2 * k))=x
 rw [← List.append_assoc]
 have:x.take k++(x.take (2 * k)).drop k=x.take (2 * k):=by
  rw [show x.take k=(x.take (2 * k)).take k by rw [List.take_take]; congr 1; omega]
  exact List.take_append_drop _ _
 rw [this]; exact List.take_append_drop _ _
theorem Bhb:∀ {rs:List Rng} {x:List Int},Bhz rs x→∀ k,k < rs.length→Jn (rs.getD k default) (x.getD k 0)=true
 | [],[],_,k,hk=>by simp at hk
 | [],_ :: _,h,_,_=>h.elim
 | _ :: _,[],h,_,_=>h.elim
 | r :: rs,n :: x,h,0,_=>by
  simp only [Jn,inB,List.getD_cons_zero,Bool.and_eq_true,decide_eq_true_eq]
  exact h.1
 | r :: rs,n :: x,h,k+1,hk=>by
  simp only [List.getD_cons_succ]
  exact Bhb h.2 k (by simpa using hk)
theorem Bfh {b:Ee} {x:List Int} (h:x ∈ Bea (Fz b) []):F1 b (Bfd b.vs.length x)=true:=by
 obtain ⟨y,e,hy⟩:=(Bfs _ _ _).1 h
 rw [List.nil_append] at e
 subst e
 have hl:=Bha hy
 rw [Qo] at hl
 refine Ak1 (by simp [Bfd]; omega) (by simp [Bfd]; omega) (by simp [Bfd]; omega) fun k hk=>?_
 rw [show Jt (Bfd b.vs.length x)=x by
  have e:Jt (Bfd b.vs.length x)=(Bfd b.vs.length x).g++((Bfd b.vs.length x).d++(Bfd b.vs.length x).m):=by simp [Jt]
  rw [e,Bkm]]
 exact Bhb hy k hk
theorem Blc {v:List Liq} (h:OkV v):(wI v).all inR=true:=by
 have hk:=Bay (s:=⟨0,0,0,⟨0,0⟩⟩) (n:=0) (v:=v) (by decide) (by decide) h.small
 unfold kD at hk
 simp only [List.all_cons,Bool.and_eq_true] at hk
 exact hk.2.2.2.2.2.2
theorem Bj3:∀ {v w:List Liq},wI v=wI w→v=w
 | [],[],_=>rfl
 | [],_ :: _,h=>by simp [wI] at h
 | _ :: _,[],h=>by simp [wI] at h
 | l :: v,m :: w,h=>by
  have h':l.g :: l.e :: wI v=m.g :: m.e :: wI w:=h
  injection h' with h1 h2
  injection h2 with h2 h3
  rw [Bj3 h3]
  cases l; cases m; cases h1; cases h2; rfl
theorem Bhj (v:List Liq):Cn (cW v)=some (wI v):=Uv _
end AM.Wort
end
/- Ranges over functions whose loop's state tells when it may go on. -/
section
namespace AM
open Go AM AM.Duty Go.Proofs
open Nat renaming reduceLT→sA,reduceAdd→sB,reduceMul→sC,reduceSub→sD,reduceLeDiff→sE,reduceEqDiff→sF,reduceBEq→sG
open Int renaming reduceAdd→sH,reduceSub→sI,reduceMul→sJ,reduceLT→sK,reduceLE→sL,reduceNeg→sM,reduceToNat→sN,reduceEq→sO
structure Bho (P:Program) (bdL:Nat) (k:F8) (tm:List (Nat × AV)) (v q:List Nat) (F:Nat→Prop) {σ α:Type} (arg:α→AV) (l:List α) (go:σ→Prop) (I:σ→(Nat→Option AO)→Prop) (bst:σ→α→σ × Option Code):Prop where
 ready:k=Alv k none
 lenp:k.ps.length=1
 psn:∀ p ∈ k.ps,p < k.n
 notF:¬ F bdL
 tmF:∀ m,(AO.loop k tm).clean m=false→F m
 stable:∀ s os os',I s os→(∀ n,F n→os' n=os n)→I s os'
 foot:∀ s os n,I s os→F n→∃ o,os n=some o∧∀ m,o.clean m=false→F m
 next:∀ s x,x ∈ l→go s→(bst s x).2=none→go (bst s x).1
 body:∀ s x os bd,x ∈ l→go s→I s os→os bdL=some (.loop k tm)→(Hp os).closed→(∀ n,bd≤n→os n=none)→bdL < bd →
  ∀ rl,AWP P ⟨⟨some rl,fun _=>False⟩,bd,v,q⟩ k.n k.assign ⟨H1 k.ps [arg x] (T tm),os⟩ (Jr (fun s1=>s1.o bdL=some (.loop k tm)∧AWP P ⟨⟨some rl,fun _=>False⟩,bd,v,q⟩ k.n k.body ⟨s1.t,upd s1.o bdL (some (.loop { k with state:=.busy } tm))⟩
   (V5 bdL k tm fun res os'=>res=bl (bst s x).2.isNone∧(I (bst s x).1 os'∧os' bdL=some (.loop (Alv k (bst s x).2) tm))∧∀ n,¬ (F n∨n=bdL)→os' n=os n)) (fun _ _=>False))
theorem Bho.yields {P:Program} {bdL:Nat} {k:F8} {tm:List (Nat × AV)} {v q:List Nat} {F:Nat→Prop} {σ α:Type} {arg:α→AV} {l:List α} {go:σ→Prop} {I:σ→(Nat→Option AO)→Prop} {bst:σ→α→σ × Option Code} (h:Bho P bdL k tm v q F arg l go I bst) :
  Ag6 P (.yld bdL) (fun n=>F n∨n=bdL) arg l (fun (s:σ × Option Code)=>s.2=none∧go s.1) (fun s os=>I s.1 os∧os bdL=some (.loop (Alv k s.2) tm)) (fun s x=>(bst s.1 x,(bst s.1 x).2.isNone)) where
 live s os hI:=by rw [Q0,hI.2]; rfl
 stable s os os' hI he:=⟨h.stable s.1 os os' hI.1 (fun n hn=>he n (.inl hn)),(he bdL (.inr rfl)).trans hI.2⟩
 foot s os n hI hn:=by
  rcases hn with hn | rfl
  ·obtain ⟨o,h1,h2⟩:=h.foot s.1 os n hI.1 hn
   exact ⟨o,h1,fun m hm=>.inl (h2 m hm)⟩
  ·exact ⟨_,hI.2,fun m hm=>.inl (h.tmF m hm)⟩
 next s x hx hg hs:=⟨Option.isNone_iff_eq_none.1 hs,h.next s.1 x hx hg.2 (Option.isNone_iff_eq_none.1 hs)⟩
 call s x os bd hx hg hI hcl0:=by
  have hloop:os bdL=some (.loop k tm):=by
   have:=hI.2
   rw [hg.1,← h.ready] at this
   exact this
  intro hfree
  have hb:=Ao hfree hloop
  refine Sr (fun hm=>hm) (k:=k) (tm:=tm) (v:=v) (q:=q) hloop (by rw [h.ready]; rfl) (by rw [h.lenp]; rfl) h.psn (fun hcl _ rl=>?_) hfree
  exact h.body s.1 x os bd hx hg.2 hI.1 hloop hcl hfree hb rl
end AM
end
/- Bounds of what vessels have. -/
section
namespace AM.Wort
open Go AM Go.Proofs
structure Bnd where
 g:Rng
 e:Rng
 k:Rng
instance:Inhabited Bnd:=⟨⟨⟨0,0⟩,⟨0,0⟩,⟨0,0⟩⟩⟩
def Biq (r:Rng) (n:Int) (f:Bool):Rng:=if f=true then ⟨n,n⟩ else ⟨min r.lo n,if r.hi < n then n else r.hi⟩
def Blz (x:Bnd) (l:Liq) (k:Int) (f:Bool):Bnd:=⟨Biq x.g l.g f,Biq x.e l.e f,Biq x.k k f⟩
def Bet (x:Bnd):List PV:=[iv x.g.lo,iv x.g.hi,iv x.e.lo,iv x.e.hi,iv x.k.lo,iv x.k.hi]
def Bfr (e g:Int):Int:=if g=0 then 0 else if g≤2 * (e - e / g * g) then e / g+1 else e / g
theorem Bjz {l:Liq} (hg:0≤l.g):Bfr l.e l.g=Qd l:=by
 obtain ⟨g,e⟩:=l
 unfold Bfr Qd
 dsimp only at hg ⊢
 split
 ·rfl
 ·rename_i h
  have hp:0 < g:=by omega
  have h1:=Int.mul_ediv_add_emod e g
  have h2:=Int.emod_nonneg e h
  have h3:=Int.emod_lt_of_pos e hp
  rw [Int.mul_comm] at h1
  generalize e / g=q at *
  generalize e % g=r at *
  have e0:q * (2 * g)=2 * (q * g):=by rw [← Int.mul_assoc,Int.mul_comm q 2,Int.mul_assoc]
  have e1:2 * e+g=(2 * r+g)+q * (2 * g):=by omega
  rw [e1,Int.add_mul_ediv_right _ _ (by omega)]
  split
  ·have a1:1≤(2 * r+g) / (2 * g):=Int.le_ediv_of_mul_le (by omega) (by omega)
   have a2:(2 * r+g) / (2 * g) < 2:=Int.ediv_lt_of_lt_mul (by omega) (by omega)
   omega
  ·rw [Int.ediv_eq_zero_of_lt (by omega) (by omega)]; omega
def Bfa:List Ves→List Int→Nat→Bool
 | [],_,_=>true
 | x :: vs,gs,i=>decide (gs.getD i 0≤x.room)&&Bfa vs gs (i+1)
def Bfg:List Ves→List Int→List Int→Nat→List Liq
 | [],_,_,_=>[]
 | _ :: vs,gs,ds,i=>⟨gs.getD i 0,gs.getD i 0 * ds.getD i 0⟩ :: Bfg vs gs ds (i+1)
def Bfo:List Ves→List Int→List Int→Nat→List Liq→List Liq
 | [],_,_,_,v=>v
 | _ :: vs,gs,ds,i,v=>Bfo vs gs ds (i+1) (v.set i ⟨gs.getD i 0,gs.getD i 0 * ds.getD i 0⟩)
theorem Bji {vs:List Ves} {gs:List Int} {k:Nat} (h:k < vs.length):Bfa (vs.drop k) gs k=(decide (gs.getD k 0≤(vs.getD k default).room)&&Bfa (vs.drop (k+1)) gs (k+1)):=by
 have:vs.drop k=vs.getD k default :: vs.drop (k+1):=by rw [List.drop_eq_getElem_cons h]; simp [List.getD,h]
 rw [this]; rfl
theorem Bja {vs:List Ves} {gs ds:List Int} {k:Nat} (h:k < vs.length):Bfg (vs.drop k) gs ds k=⟨gs.getD k 0,gs.getD k 0 * ds.getD k 0⟩ :: Bfg (vs.drop (k+1)) gs ds (k+1):=by
 have:vs.drop k=vs.getD k default :: vs.drop (k+1):=by rw [List.drop_eq_getElem_cons h]; simp [List.getD,h]
 rw [this]; rfl
theorem Bkn {vs:List Ves} {gs:List Int} {k:Nat} (h:vs.length≤k):Bfa (vs.drop k) gs k=true:=by rw [List.drop_of_length_le h]; rfl
theorem Bj9 {vs:List Ves} {gs ds:List Int} {k:Nat} (h:vs.length≤k):Bfg (vs.drop k) gs ds k=[]:=by rw [List.drop_of_length_le h]; rfl
theorem Bgn:∀ {vs:List Ves} {gs ds:List Int} {i:Nat} {v:List Liq},(Gh vs gs ds i v).2=Bfa vs gs i∧(Bfa vs gs i=true→(Gh vs gs ds i v).1=Bfo vs gs ds i v)
 | [],_,_,_,_=>⟨rfl,fun _=>rfl⟩
 | x :: vs,gs,ds,i,v=>by
  unfold Gh Bfa Bfo
  split
  ·rename_i h
   rw [decide_eq_false (by omega)]
   exact ⟨rfl,fun h=>by cases h⟩
  ·rename_i h
   rw [decide_eq_true (by omega),Bool.true_and]
   exact Bgn
theorem Bga:∀ {vs:List Ves} {gs ds:List Int} {i:Nat} {v:List Liq},i+vs.length≤v.length→(Bfo vs gs ds i v).take (i+vs.length)=v.take i++Bfg vs gs ds i
 | [],_,_,_,_,_=>by simp [Bfo,Bfg]
 | x :: vs,gs,ds,i,v,h=>by
  simp only [List.length_cons] at h
  unfold Bfo Bfg
  have:=Bga (vs:=vs) (gs:=gs) (ds:=ds) (i:=i+1) (v:=v.set i ⟨gs.getD i 0,gs.getD i 0 * ds.getD i 0⟩) (by rw [List.length_set]; omega)
  rw [show i+(x :: vs).length=i+1+vs.length by simp only [List.length_cons]; omega,this,List.take_add_one,List.take_set,List.getElem?_set_self (by omega)]
  rw [List.set_eq_of_length_le (by rw [List.length_take]; omega)]
  simp
theorem Biv:∀ {vs:List Ves} {gs ds:List Int} {i:Nat} {v:List Liq},i+vs.length≤4→(∀ k,0≤gs.getD k 0∧gs.getD k 0≤60)→(∀ k,0≤ds.getD k 0∧ds.getD k 0≤120) →
  OkV v→tot v≤7200 * (i:Int)→(∀ k,i≤k→(v.getD k default).e=0)→OkV (Bfo vs gs ds i v)
 | [],_,_,_,_,_,_,_,h,_,_=>h
 | x :: vs,gs,ds,i,v,hi,hg,hd,h,ht,hz=>by
  unfold Bfo
  have g1:=hg i
  have d1:=hd i
  have e1:0≤gs.getD i 0 * ds.getD i 0:=Int.mul_nonneg g1.1 d1.1
  have e2:gs.getD i 0 * ds.getD i 0≤7200:=by
   have:=Int.mul_le_mul g1.2 d1.2 d1.1 (by omega); omega
  have hz0:=hz i (Nat.le_refl _)
  have hl:=h.len
  simp only [List.length_cons] at hi
  have t2:tot (v.set i ⟨gs.getD i 0,gs.getD i 0 * ds.getD i 0⟩)=tot v - (v.getD i default).e+gs.getD i 0 * ds.getD i 0:=Tm (by omega)
  refine Biv (by omega) hg hd (h.set (by omega) g1 e1 (by show _ - _+gs.getD i 0 * ds.getD i 0≤_; rw [hz0]; omega)) (by rw [t2,hz0]; omega) fun k hk=>?_
  rw [Fu,if_neg (by omega)]
  exact hz k (by omega)
def OkN (n:Nat) (v:List Liq):Prop:=∃ w,OkV w∧v=w.take n
def Bfi (vs:List Ves) (gs ds:List Int):List Liq:=Bfg vs gs ds 0
theorem Bhh {b:Ee} {t:Tru} (hv:N6 b) (h:F1 b t=true):OkN b.vs.length (Bfi b.vs t.g t.d):=by
 obtain ⟨h1,h2,_⟩:=L0 hv h
 refine ⟨Bfo b.vs t.g t.d 0 v0,Biv (by have:=hv.nv; omega) h1 h2 Ala (by decide) fun k _=>?_,?_⟩
 ·match k with
  | 0=>rfl
  | 1=>rfl
  | 2=>rfl
  | 3=>rfl
  | k+4=>rfl
 ·have:=Bga (vs:=b.vs) (gs:=t.g) (ds:=t.d) (i:=0) (v:=v0) (by have:=hv.nv; simp; omega)
  rw [Nat.zero_add] at this
  exact this.symm
def Bgl (vs:List Ves) (gs:List Int):Bool:=Bfa vs gs 0
def Bgv (vs:List Ves) (v:List Liq):Prop:=∀ k,k < vs.length→(B0 v k).g≤(vs.getD k default).room
theorem OkN.len {n:Nat} {v:List Liq} (h:OkN n v) (hn:n≤4):v.length=n:=by
 obtain ⟨w,hw,rfl⟩:=h
 rw [List.length_take,hw.len]; omega
theorem Bes {w:List Liq} {n k:Nat} (h:k < n):B0 (w.take n) k=B0 w k:=by
 unfold B0
 rw [List.getD_eq_getElem?_getD,List.getD_eq_getElem?_getD,List.getElem?_take,if_pos h]
theorem OkN.at {n:Nat} {v:List Liq} (h:OkN n v) (k:Nat):(0≤(B0 v k).g∧(B0 v k).g≤60)∧0≤(B0 v k).e∧(B0 v k).e≤28800:=by
 obtain ⟨w,hw,rfl⟩:=h
 by_cases hk:k < n
 ·rw [Bes hk]
  have:=Apr hw.e k
  have:=hw.t
  exact ⟨hw.g k,hw.e k,by unfold B0; omega⟩
 ·have:B0 (w.take n) k=⟨0,0⟩:=by
   unfold B0
   rw [List.getD_eq_getElem?_getD,List.getElem?_eq_none (by rw [List.length_take]; omega)]; rfl
  rw [this]; decide
theorem Bg0 {w:List Liq} {n k:Nat} {a:Liq}:(w.take n).set k a=(w.set k a).take n:=by rw [List.take_set]
theorem Biw {vs:List Ves} {w:List Liq} {s:Stp} {m:Int} (hs:F7 vs.length s=true):doS vs (w.take vs.length) s m=((doS vs w s m).1.take vs.length,(doS vs w s m).2):=by
 obtain ⟨hk,hf,ht,_,_⟩:=Fy hs
 have f1:s.frm.toNat < vs.length:=by omega
 have t1:s.to.toNat < vs.length:=by omega
 have a:G3 (w.take vs.length) s m=((G3 w s m).1.take vs.length,(G3 w s m).2):=by
  unfold G3
  split
  ·unfold Ff
   rw [Bes f1]
   split
   ·rfl
   ·split
    ·simp only [L5,J1,G6,Bes f1,Bg0]
     rw [Bes t1]
    ·rfl
  ·split
   ·simp only [P1,Bes t1,Bg0]
   ·simp only [X7,Bes f1,Bg0]
 simp only [doS,a]
 rw [Bes t1]
def doX (vs:List Ves) (v:List Liq) (s:Stp) (n:Int):List Liq × Bool:=if (doS vs v s n).2=true then doS vs v s n else (v,false)
theorem Ble {vs:List Ves} {v:List Liq} {s:Stp} {n:Int} (h:OkN vs.length v) (hvs:vs.length≤4) (hv:vs.all Eu=true) (hs:F7 vs.length s=true) (hn:0≤n):OkN vs.length (doX vs v s n).1:=by
 unfold doX; split
 ·rename_i hd
  obtain ⟨w,hw,rfl⟩:=h
  rw [Biw hs] at hd ⊢
  exact ⟨_,Am5 hw hvs hv hs hn hd,rfl⟩
 ·exact h
theorem Bjv {vs:List Ves} {v:List Liq} {s:Stp} {n:Int} (h:Bgv vs v) (hs:F7 vs.length s=true) (hn:0≤n) (_:v.length=vs.length):∀ k,k < vs.length→k≠s.to.toNat→(B0 (G3 v s n).1 k).g≤(vs.getD k default).room:=by
 intro k hk hne
 have hr:=h k hk
 obtain ⟨_,hf,ht,hft,_⟩:=Fy hs
 unfold G3
 split
 ·unfold Ff
  split
  ·exact hr
  ·split
   ·unfold L5 J1
    rw [M6,if_neg (fun e=>hne e.1),M6]
    split
    ·rename_i e; rw [e.1] at hr ⊢; show _ - n≤_; omega
    ·exact hr
   ·exact hr
 ·split
  ·unfold P1
   rw [M6,if_neg (fun e=>hne e.1)]; exact hr
  ·unfold X7
   rw [M6]
   split
   ·rename_i e; rw [e.1] at hr ⊢; show _ - n≤_; omega
   ·exact hr
theorem Bju {vs:List Ves} {v:List Liq} {s:Stp} {n:Int} (h:Bgv vs v) (hs:F7 vs.length s=true) (hn:0≤n) (hl:v.length=vs.length):Bgv vs (doX vs v s n).1:=by
 unfold doX; split
 ·rename_i hd
  intro k hk
  simp only [doS,Bool.and_eq_true,decide_eq_true_eq] at hd ⊢
  by_cases e:k=s.to.toNat
  ·rw [e]; exact hd.2
  ·exact Bjv h hs hn hl k hk e
 ·exact h
def Bex (vs:List Ves) (m:List Int):List Stp→Nat→List Liq × Bool→List Liq × Bool
 | [],_,r=>r
 | s :: ss,i,r=>if r.2=false then r else Bex vs m ss (i+1) (doX vs r.1 s (m.getD i 0))
def Bd6 (b:Ee) (t:Tru):List Liq × Bool:=Bex b.vs t.m b.ss 0 (Bfi b.vs t.g t.d,Bgl b.vs t.g)
theorem Bir {vs:List Ves} {m:List Int} {ss:List Stp} {k:Nat} {r R:List Liq × Bool} (h:k < ss.length) (hr:r.2=true) (hp:Bex vs m (ss.drop k) k r=R):Bex vs m (ss.drop (k+1)) (k+1) (doX vs r.1 (ss.getD k default) (m.getD k 0))=R:=by
 have:ss.drop k=ss.getD k default :: ss.drop (k+1):=by rw [List.drop_eq_getElem_cons h]; simp [List.getD,h]
 rw [this] at hp; unfold Bex at hp; rw [if_neg (by rw [hr]; decide)] at hp; exact hp
theorem Bij {vs:List Ves} {m:List Int} {ss:List Stp} {k:Nat} {r R:List Liq × Bool} (h:k < ss.length) (hr:r.2=false) (hp:Bex vs m (ss.drop k) k r=R):R=r:=by
 have:ss.drop k=ss.getD k default :: ss.drop (k+1):=by rw [List.drop_eq_getElem_cons h]; simp [List.getD,h]
 rw [this] at hp; unfold Bex at hp; rw [if_pos hr] at hp; exact hp.symm
theorem Bjm {vs:List Ves} {m:List Int} {ss:List Stp} {k:Nat} {r R:List Liq × Bool} (h:ss.length≤k) (hp:Bex vs m (ss.drop k) k r=R):R=r:=by
 rw [List.drop_of_length_le h] at hp; exact hp.symm
theorem Bf5 {vs:List Ves} {m:List Int}:∀ {ss:List Stp} {i:Nat} {v:List Liq},(Bex vs m ss i (v,false)).2=false
 | [],_,_=>rfl
 | _ :: _,_,_=>by unfold Bex; rw [if_pos rfl]
theorem Bge {vs:List Ves} {m:List Int}:∀ {ss:List Stp} {i:Nat} {v:List Liq},(J9 vs m ss i (v,false)).2=false
 | [],_,_=>rfl
 | _ :: _,_,_=>by unfold J9; rw [if_pos rfl]
theorem Bhf {vs:List Ves} {m:List Int}:∀ {ss:List Stp} {i:Nat} {w:List Liq},ss.all (F7 vs.length)=true →
  (J9 vs m ss i (w,true)).2=(Bex vs m ss i (w.take vs.length,true)).2∧((J9 vs m ss i (w,true)).2=true→(J9 vs m ss i (w,true)).1.take vs.length=(Bex vs m ss i (w.take vs.length,true)).1)
 | [],_,_,_=>⟨rfl,fun _=>rfl⟩
 | s :: ss,i,w,hs=>by
  rw [List.all_cons,Bool.and_eq_true] at hs
  unfold J9 Bex
  rw [if_neg (fun h=>by cases h),if_neg (fun h=>by cases h)]
  dsimp only
  have e:=Biw (w:=w) (m:=m.getD i 0) hs.1
  cases hd:(doS vs w s (m.getD i 0)).2 with
  | true=>
   have e2:doX vs (w.take vs.length) s (m.getD i 0)=((doS vs w s (m.getD i 0)).1.take vs.length,true):=by
    unfold doX; rw [e,hd]; rfl
   have e3:doS vs w s (m.getD i 0)=((doS vs w s (m.getD i 0)).1,true):=by rw [← hd]
   rw [e2,e3]
   exact Bhf hs.2
  | false=>
   have e2:doX vs (w.take vs.length) s (m.getD i 0)=(w.take vs.length,false):=by
    unfold doX; rw [e,hd]; rfl
   have e3:doS vs w s (m.getD i 0)=((doS vs w s (m.getD i 0)).1,false):=by rw [← hd]
   rw [e2,e3,Bge,Bf5]
   exact ⟨rfl,fun h=>by cases h⟩
theorem Bf7 {b:Ee} (t:Tru) (hv:N6 b):(Mo b t).2=(Bd6 b t).2∧((Mo b t).2=true→(Mo b t).1.take b.vs.length=(Bd6 b t).1):=by
 unfold Mo Bd6 Mu Bgl
 obtain ⟨h1,h2⟩:=Bgn (vs:=b.vs) (gs:=t.g) (ds:=t.d) (i:=0) (v:=v0)
 have h3:=Bga (vs:=b.vs) (gs:=t.g) (ds:=t.d) (i:=0) (v:=v0) (by have:=hv.nv; simp; omega)
 rw [Nat.zero_add] at h3
 cases hr:Bfa b.vs t.g 0 with
 | true=>
  have e:Gh b.vs t.g t.d 0 v0=(Bfo b.vs t.g t.d 0 v0,true):=by rw [← h2 hr,← hr,← h1]
  rw [e]
  have e2:Bfi b.vs t.g t.d=(Bfo b.vs t.g t.d 0 v0).take b.vs.length:=h3.symm
  rw [e2]
  exact Bhf hv.s
 | false=>
  have e:Gh b.vs t.g t.d 0 v0=((Gh b.vs t.g t.d 0 v0).1,false):=by rw [← hr,← h1]
  rw [e,Bge,Bf5]
  exact ⟨rfl,fun h=>by cases h⟩
def Be6 (l:List Ves):List Rng:=l.flatMap fun v=>[v.g,v.d]
theorem Bf9:∀ (l:List Rng) (n c:Int),Mb l (n * c)=Mb l n * c
 | [],_,_=>rfl
 | r :: l,n,c=>by
  show Mb l (n * c * Fa r)=Mb l (n * Fa r) * c
  rw [show n * c * Fa r=n * Fa r * c by rw [Int.mul_assoc,Int.mul_comm c,← Int.mul_assoc],Bf9]
theorem Bey (a b:List Rng) (n:Int):Mb (a++b) n=Mb b (Mb a n):=by
 induction a generalizing n with
 | nil=>rfl
 | cons x a ih=>exact ih _
theorem Bil {a b:List Rng} (h:a.Perm b):∀ n,Mb a n=Mb b n:=by
 induction h with
 | nil=>intro n; rfl
 | cons x _ ih=>intro n; exact ih _
 | swap x y l=>intro n; show Mb l (n * _ * _)=Mb l (n * _ * _); rw [Int.mul_assoc,Int.mul_comm (Fa y),← Int.mul_assoc]
 | trans _ _ ih1 ih2=>intro n; rw [ih1,ih2]
theorem Bg7:∀ l:List Ves,(Be6 l).Perm (l.map (·.g)++l.map (·.d))
 | []=>.nil
 | v :: l=>by
  show (v.g :: v.d :: Be6 l).Perm (v.g :: (l.map (·.g)++v.d :: l.map (·.d)))
  exact .cons _ ((List.Perm.cons _ (Bg7 l)).trans List.perm_middle.symm)
def Bel (b:Ee):Int:=Mb (Be6 b.vs++b.ss.map (·.g)) 1
theorem Bj7 (b:Ee):Bel b=Pb b:=Bil ((Bg7 b.vs).append_right _) 1
theorem Bjy {l:List Ves} {k:Nat} (h:k < l.length):Mb (Be6 (l.take (k+1))) 1=Mb (Be6 (l.take k)) 1 * (Fa (l.getD k default).g * Fa (l.getD k default).d):=by
 rw [List.take_add_one,List.getElem?_eq_getElem h]
 unfold Be6
 rw [List.flatMap_append,Bey]
 simp [Mb,List.getD,h,Int.mul_assoc]
theorem Bim {l:List Stp} {k:Nat} {n:Int} (h:k < l.length):Mb ((l.take (k+1)).map (·.g)) n=Mb ((l.take k).map (·.g)) n * Fa (l.getD k default).g:=by
 rw [List.take_add_one,List.getElem?_eq_getElem h,List.map_append,Bey]
 simp [Mb,List.getD,h]
theorem Biy (l:List Ves):(Be6 l).length=2 * l.length:=by
 induction l with
 | nil=>rfl
 | cons v l ih=>show (v.g :: v.d :: Be6 l).length=_; simp only [List.length_cons,ih]; omega
theorem Bhy {l:List Rng} (hl:∀ r ∈ l,1≤Fa r∧Fa r≤3) (hn:l.length≤14):1≤Mb l 1∧Mb l 1≤4782969:=by
 have h:=Vg hl l.length (Nat.le_refl _)
 rw [List.take_length] at h
 exact ⟨h.1,Int.le_trans h.2 (Aq1 hn)⟩
theorem Bi6 {b:Ee} (hv:b.vs.all Eu=true) (hn:b.vs.length≤4) (k:Nat):1≤Mb (Be6 (b.vs.take k)) 1∧Mb (Be6 (b.vs.take k)) 1≤4782969:=by
 refine Bhy (fun r hr=>?_) (by rw [Biy,List.length_take]; omega)
 simp only [Be6,List.mem_flatMap,List.mem_cons,List.not_mem_nil,or_false] at hr
 obtain ⟨v,hv',hr⟩:=hr
 have hp:=C9 (List.all_eq_true.1 hv v (List.mem_of_mem_take hv'))
 rcases hr with rfl | rfl
 ·exact P4 hp.1
 ·exact P4 hp.2.1
theorem Bf0 {b:Ee} (hv:N6 b) (k:Nat):1≤Mb (Be6 b.vs++(b.ss.take k).map (·.g)) 1∧Mb (Be6 b.vs++(b.ss.take k).map (·.g)) 1≤4782969:=by
 refine Bhy (fun r hr=>?_) (by have:=hv.nv; have:=hv.ns; rw [List.length_append,Biy,List.length_map,List.length_take]; omega)
 rw [List.mem_append] at hr
 rcases hr with hr | hr
 ·simp only [Be6,List.mem_flatMap,List.mem_cons,List.not_mem_nil,or_false] at hr
  obtain ⟨v,hv',hr⟩:=hr
  have hp:=C9 (List.all_eq_true.1 hv.v v hv')
  rcases hr with rfl | rfl
  ·exact P4 hp.1
  ·exact P4 hp.2.1
 ·obtain ⟨s,hs,rfl⟩:=List.mem_map.1 hr
  exact P4 (Fy (List.all_eq_true.1 hv.s s (List.mem_of_mem_take hs))).2.2.2.2
section
variable {α:Type} {p:α→Bool} {l:List α} {k:Nat} {d:α}
theorem Bg8 (hk:k < l.length) (h:(l.take k).all p=true) (hp:p (l.getD k d)=true):(l.take (k+1)).all p=true:=by
 rw [List.take_add_one,List.all_append,h]
 simp [hk,List.getD] at hp ⊢
 exact hp
theorem Bei (hk:k < l.length) (hp:p (l.getD k d)=false):l.all p=false:=by
 have:l.getD k d ∈ l:=by rw [← List.getElem_eq_getD (h:=hk)]; exact List.getElem_mem _
 cases h:l.all p with
 | false=>rfl
 | true=>rw [List.all_eq_true] at h; rw [h _ this] at hp; cases hp
theorem Bhi (hk:l.length≤k) (h:(l.take k).all p=true):l.all p=true:=by rwa [List.take_of_length_le hk] at h
end
theorem Bgb {b:Ee} (h:4 < b.vs.length∨6 < b.ss.length):B5 b=3:=by unfold B5; rw [if_pos h]
theorem Bep {b:Ee} (h:¬ (4 < b.vs.length∨6 < b.ss.length)) (h2:b.vs.length=0∨b.vs.all Eu=false∨b.ss.all (F7 b.vs.length)=false):B5 b=1:=by
 unfold B5; rw [if_neg h]
 split
 ·rfl
 ·rename_i h3
  rcases h2 with h2 | h2 | h2
  ·exact absurd h2 h3
  ·rw [if_pos h2]
  ·split
   ·rfl
   ·first | rfl | rw [if_pos h2]
theorem Ben {b:Ee} (h:b.vs.length≤4) (h1:b.ss.length≤6) (h2:0 < b.vs.length) (hv:b.vs.all Eu=true) (hs:b.ss.all (F7 b.vs.length)=true):B5 b=if 2000 < Bel b then 3 else 0:=by
 unfold B5; rw [if_neg (by omega),if_neg (by omega),if_neg (by rw [hv]; decide),if_neg (by rw [hs]; decide),Bj7]
theorem Bif {b:Ee} {t:Tru} (h1:t.g.length=b.vs.length) (h2:t.d.length=b.vs.length) (h3:t.m.length=b.ss.length)
  (h4:∀ j,j < b.vs.length→inB (t.g.getD j 0) (b.vs.getD j default).g.lo (b.vs.getD j default).g.hi=true∧inB (t.d.getD j 0) (b.vs.getD j default).d.lo (b.vs.getD j default).d.hi=true)
  (h5:∀ j,j < b.ss.length→inB (t.m.getD j 0) (b.ss.getD j default).g.lo (b.ss.getD j default).g.hi=true):F1 b t=true:=by
 simp only [F1,Bool.and_eq_true,decide_eq_true_eq,List.all_eq_true,List.mem_range]
 exact ⟨h1,h2,h3,fun k hk=>h4 k hk,h5⟩
def prA (s:Sta):Liq:=⟨s.g,s.e⟩
def wei (s:Sta):Sta:=⟨s.g,s.e,Bfr s.e s.g⟩
def Bgo (l:Liq):Sta:=⟨l.g,l.e,0⟩
def stL (v:List Liq):List (List PV):=v.map fun l=>Bb7 (Azh l)
theorem Bhs (v:List Liq):stL v=(v.map Azh).map Bb7:=by unfold stL; rw [List.map_map]; rfl
theorem Bi3 {S:List Sta} (h:∀ s ∈ S,0≤s.g):S.map wei=(S.map prA).map Azh:=by
 rw [List.map_map]
 refine List.map_congr_left fun s hs=>?_
 have:=Bjz (l:=prA s) (h s hs)
 show (⟨s.g,s.e,Bfr s.e s.g⟩:Sta)=⟨s.g,s.e,Qd (prA s)⟩
 rw [← this]; rfl
theorem Blu (v:List Liq):(v.map Azh).map prA=v:=by
 rw [List.map_map]; exact (List.map_congr_left fun l _=>rfl).trans (List.map_id v)
theorem Blv (v:List Liq):(v.map Bgo).map prA=v:=by
 rw [List.map_map]; exact (List.map_congr_left fun l _=>rfl).trans (List.map_id v)
theorem Bg1 (S:List Sta):((S.map Bb7).all fun c=>decide (c.length=3))=true:=by simp
theorem Be7 {S:List Sta} {k:Nat} {x y z:Int}:(S.map Bb7).set k [iv x,iv y,iv z]=(S.set k ⟨x,y,z⟩).map Bb7:=by rw [List.map_set]
theorem Bgy {S:List Sta} {k j:Nat} {a:Sta}:(S.set k a).getD j default=if j=k∧k < S.length then a else S.getD j default:=by
 rw [List.getD_eq_getElem?_getD,List.getD_eq_getElem?_getD,List.getElem?_set]
 by_cases h:k=j
 ·subst h
  by_cases h2:k < S.length
  ·simp [h2]
  ·simp [h2]
 ·rw [if_neg h,if_neg (fun e=>h e.1.symm)]
theorem Bh9 {v:List Liq} {k:Nat} (h:k < v.length):(v.map Azh).getD k default=Azh (B0 v k):=by
 unfold B0; rw [List.getD_eq_getElem?_getD,List.getD_eq_getElem?_getD,List.getElem?_map,List.getElem?_eq_getElem h]; rfl
theorem Bic {e g:Int} (he:0≤e) (hg:0 < g):(0≤e / g∧e / g≤e)∧(0≤e / g * g∧e / g * g≤e):=by
 have h1:0≤e / g:=Int.ediv_nonneg he (by omega)
 exact ⟨⟨h1,Int.ediv_le_self _ he⟩,Int.mul_nonneg h1 (by omega),Int.ediv_mul_le e (by omega)⟩
theorem OkN.mem {n:Nat} {v:List Liq} (h:OkN n v) {l:Liq} (hl:l ∈ v):(0≤l.g∧l.g≤60)∧0≤l.e∧l.e≤28800:=by
 obtain ⟨k,hk⟩:=List.mem_iff_getElem?.1 hl
 have:=h.at k
 unfold B0 at this
 rwa [List.getD_eq_getElem?_getD,hk] at this
theorem Bll (v:List Liq) (k:Nat):(v.map Bgo).getD k default=Bgo (B0 v k):=by
 unfold B0; rw [List.getD_eq_getElem?_getD,List.getD_eq_getElem?_getD,List.getElem?_map]
 cases v[k]? <;> rfl
theorem Bjj {n:Nat} {v:List Liq} (h:OkN n v) (k:Nat):(0≤((v.map Bgo).getD k default).e∧((v.map Bgo).getD k default).e≤1000000000)∧0≤((v.map Bgo).getD k default).g∧((v.map Bgo).getD k default).g≤1000000:=by
 have:=h.at k
 rw [Bll]; simp only [Bgo]; omega
theorem Bky {n:Nat} {v:List Liq} (h:OkN n v):((v.map Bgo).map wei).map Bb7=stL v:=by
 rw [Bi3,Blv,Bhs]
 intro s hs
 obtain ⟨l,hl,rfl⟩:=List.mem_map.1 hs
 exact (h.mem hl).1.1
abbrev Bip (gs ds:List Int) (k:Nat):Liq:=⟨gs.getD k 0,gs.getD k 0 * ds.getD k 0⟩
theorem Bj1 {acc R:List Liq} {is B:Bool} {vs:List Ves} {gs ds:List Int} (hk:acc.length < vs.length) (h1:acc++Bfg (vs.drop acc.length) gs ds acc.length=R) (h2:(is&&Bfa (vs.drop acc.length) gs acc.length)=B) :
  (acc++[Bip gs ds acc.length]).length≤vs.length ∧
  acc++[Bip gs ds acc.length]++Bfg (vs.drop (acc++[Bip gs ds acc.length]).length) gs ds (acc++[Bip gs ds acc.length]).length=R ∧
  (is&&decide (gs.getD acc.length 0≤(vs.getD acc.length default).room)&&Bfa (vs.drop (acc++[Bip gs ds acc.length]).length) gs (acc++[Bip gs ds acc.length]).length)=B:=by
 rw [Bja hk] at h1
 rw [Bji hk] at h2
 have hl:(acc++[Bip gs ds acc.length]).length=acc.length+1:=by simp
 rw [hl]
 refine ⟨by omega,?_,?_⟩
 ·rw [List.append_assoc]; exact h1
 ·rw [Bool.and_assoc]; exact h2
theorem Bk9 {a b:Int} (h1:0≤a∧a≤100000) (h2:0≤b∧b≤100000):0≤a * b∧a * b≤10000000000:=by
 have e1:=Int.mul_nonneg h1.1 h2.1
 have e2:=Int.mul_le_mul h1.2 h2.2 h2.1 (by omega)
 omega
theorem Be4 (l:Liq):(Azh l).g=l.g:=rfl
theorem Be5 (l:Liq):(Azh l).e=l.e:=rfl
theorem Bfk {S:List Sta} {k:Nat} {a:Sta} (h:k < S.length):(S.set k a).getD k default=a:=by rw [Bgy,if_pos ⟨rfl,h⟩]
theorem Bhr {S:List Sta} {k j:Nat} {a:Sta} (h:j≠k):(S.set k a).getD j default=S.getD j default:=by rw [Bgy,if_neg fun e=>h e.1]
def SmA (S:List Sta):Prop:=∀ k,(0≤(S.getD k default).e∧(S.getD k default).e≤1000000000)∧0≤(S.getD k default).g∧(S.getD k default).g≤1000000
theorem Bek {S:List Sta} {k:Nat} {a:Sta} (h:SmA S) (ha:(0≤a.e∧a.e≤1000000000)∧0≤a.g∧a.g≤1000000):SmA (S.set k a):=fun j=>by
 rw [Bgy]; split
 ·exact ha
 ·exact h j
theorem Blp (v:List Liq) (k:Nat):(v.map Azh).getD k default=Azh (B0 v k):=by
 unfold B0; rw [List.getD_eq_getElem?_getD,List.getD_eq_getElem?_getD,List.getElem?_map]
 cases v[k]? <;> rfl
theorem Blk {n:Nat} {v:List Liq} (h:OkN n v):SmA (v.map Azh):=fun k=>by
 have:=h.at k
 rw [Blp,Be4,Be5]; omega
theorem Bk2 {S:List Sta} {w:List Liq} (h:SmA S) (hw:S.map prA=w):(S.map wei).map Bb7=(w.map Azh).map Bb7:=by
 rw [Bi3 (fun s hs=>?_),hw]
 obtain ⟨k,hk⟩:=List.mem_iff_getElem?.1 hs
 have:=(h k).2.1
 rwa [List.getD_eq_getElem?_getD,hk] at this
theorem Be0 {v:List Liq} {k:Nat} (h:k < v.length) {a:Liq} (ha:a=B0 v k):v.set k a=v:=by
 subst ha
 refine List.ext_getElem? fun i=>?_
 rw [List.getElem?_set]
 split
 ·rename_i e; subst e; unfold B0; simp [List.getD,h]
 ·rfl
section
variable {vs:List Ves} {v:List Liq} {s:Stp} {n:Int}
theorem Bd8 (h:(doS vs v s n).2=false):doX vs v s n=(v,false):=by
 unfold doX; rw [if_neg (by rw [h]; decide)]
theorem Bj2 {w:List Liq} (h:doS vs v s n=(w,true)):doX vs v s n=(w,true):=by
 unfold doX; rw [h]; rfl
theorem Bl8 (hk:s.kind=0) (h:(B0 v s.frm.toNat).g < n):doX vs v s n=(v,false):=by
 refine Bd8 ?_
 unfold doS G3 Ff; rw [if_pos hk,if_pos h]; rfl
theorem Bi2 (hk:s.kind≠1) (hs:F7 vs.length s=true) (_:v.length=vs.length) (h:(B0 v s.frm.toNat).g < n):doX vs v s n=(v,false):=by
 by_cases h0:s.kind=0
 ·exact Bl8 h0 h
 ·obtain ⟨_,q2,q3,q4,_⟩:=Fy hs
  refine Bd8 ?_
  unfold doS G3 X7; rw [if_neg h0,if_neg hk]
  dsimp only
  rw [decide_eq_false (show ¬ 0 < (B0 v s.frm.toNat).g - n by omega),decide_eq_false (show ¬ (B0 v s.frm.toNat).g - n=0 by omega)]; rfl
theorem doA {v w:List Liq} {S:List Sta} {b:Bool} (hS:S=v.map Azh) (h:doX vs v s n=(w,b)) (hw:w=v) (hb:b=false):(AV.tup [.p (.sl (S.map Bb7)),.p (.val (.bool false))])=.tup [.p (.sl (((doX vs v s n).1.map Azh).map Bb7)),bl (doX vs v s n).2]:=by
 rw [h,hS,hw,hb]
theorem doB {v w:List Liq} {S:List Sta} (h:doS vs v s n=(w,true)) (hs:SmA S) (hw:S.map prA=w):(AV.tup [.p (.sl ((S.map wei).map Bb7)),.p (.val (.bool true))])=.tup [.p (.sl (((doX vs v s n).1.map Azh).map Bb7)),bl (doX vs v s n).2]:=by
 rw [Bj2 h,Bk2 hs hw]
theorem Bfb (hk:s.kind=0) (hs:F7 vs.length s=true) (hl:v.length=vs.length) (h:¬ (B0 v s.frm.toNat).g < n) (hn:0 < n) :
  doS vs v s n=((v.set s.frm.toNat ⟨(B0 v s.frm.toNat).g - n,(B0 v s.frm.toNat).e - G6 v s.frm.toNat n⟩).set s.to.toNat ⟨(B0 v s.to.toNat).g+n,(B0 v s.to.toNat).e+G6 v s.frm.toNat n⟩,decide ((B0 v s.to.toNat).g+n≤(vs.getD s.to.toNat default).room)):=by
 obtain ⟨_,q2,q3,q4,_⟩:=Fy hs
 have hne:¬ (s.to.toNat=s.frm.toNat∧s.frm.toNat < v.length):=by omega
 unfold doS G3 Ff; rw [if_pos hk,if_neg h,if_pos hn]
 unfold L5 J1
 dsimp only
 rw [M6 (v:=v.set _ _),if_pos ⟨rfl,by rw [List.length_set]; omega⟩,M6,if_neg hne]
 simp
theorem Be1 (hk:s.kind=0) (h:¬ (B0 v s.frm.toNat).g < n) (hn:¬ 0 < n):doS vs v s n=(v,decide ((B0 v s.to.toNat).g≤(vs.getD s.to.toNat default).room)):=by
 unfold doS G3 Ff; rw [if_pos hk,if_neg h,if_neg hn]; simp
theorem Be2 (hk:s.kind=1) (hs:F7 vs.length s=true) (hl:v.length=vs.length):doS vs v s n=(v.set s.to.toNat ⟨(B0 v s.to.toNat).g+n,(B0 v s.to.toNat).e⟩,decide ((B0 v s.to.toNat).g+n≤(vs.getD s.to.toNat default).room)):=by
 obtain ⟨_,q2,q3,q4,_⟩:=Fy hs
 unfold doS G3 P1; rw [if_neg (by omega),if_pos hk]
 dsimp only
 rw [M6,if_pos ⟨rfl,by omega⟩]
 simp
theorem Beu (hk:s.kind=2) (hs:F7 vs.length s=true) (hl:v.length=vs.length) (hr:Bgv vs v) (hn:0≤n):doS vs v s n=(v.set s.frm.toNat ⟨(B0 v s.frm.toNat).g - n,(B0 v s.frm.toNat).e⟩,decide (0 < (B0 v s.frm.toNat).g - n)||(decide ((B0 v s.frm.toNat).g - n=0)&&decide ((B0 v s.frm.toNat).e=0))):=by
 obtain ⟨_,q2,q3,q4,_⟩:=Fy hs
 have e:s.to.toNat=s.frm.toNat:=by omega
 have hrr:=hr s.frm.toNat (by omega)
 unfold doS G3 X7; rw [if_neg (by omega),if_neg (by omega)]
 dsimp only
 rw [e,M6,if_pos ⟨rfl,by omega⟩]
 rw [decide_eq_true (show (B0 v s.frm.toNat).g - n≤(vs.getD s.frm.toNat default).room by omega),Bool.and_true]
end
theorem Bhg:∀ {vs:List Ves} {gs ds:List Int} {i:Nat},Bfa vs gs i=true→∀ k,k < vs.length→(B0 (Bfg vs gs ds i) k).g≤(vs.getD k default).room
 | [],_,_,_,_,k,hk=>by cases hk
 | x :: vs,gs,ds,i,h,k,hk=>by
  unfold Bfa at h
  rw [Bool.and_eq_true,decide_eq_true_eq] at h
  unfold Bfg
  cases k with
  | zero=>exact h.1
  | succ k=>exact Bhg h.2 k (by simpa using hk)
theorem Bh3 {vs:List Ves} {gs ds:List Int} (h:Bgl vs gs=true):Bgv vs (Bfi vs gs ds):=fun k hk=>Bhg h k hk
def Bfe:List Ves→Int→List Int × List Int × Int
 | [],n=>([],[],n)
 | v :: l,n=>((v.g.lo+n % Fa v.g) :: (Bfe l (n / Fa v.g / Fa v.d)).1,(v.d.lo+n / Fa v.g % Fa v.d) :: (Bfe l (n / Fa v.g / Fa v.d)).2.1,(Bfe l (n / Fa v.g / Fa v.d)).2.2)
def Bf6:List Stp→Int→List Int
 | [],_=>[]
 | s :: l,n=>(s.g.lo+n % Fa s.g) :: Bf6 l (n / Fa s.g)
def Beo (b:Ee) (n:Int):Tru:=⟨(Bfe b.vs n).1,(Bfe b.vs n).2.1,Bf6 b.ss (Bfe b.vs n).2.2⟩
theorem Bg6 {α:Type} {l:List α} {k:Nat} (d:α) (h:k < l.length):l.drop k=l.getD k d :: l.drop (k+1):=by
 rw [List.drop_eq_getElem_cons h]; simp [List.getD,h]
abbrev Bld (v:Ves) (n:Int):Int:=n / Fa v.g / Fa v.d
def Bjc (gs ds:List Int) (r:List Int × List Int × Int):List Int × List Int × Int:=(gs++r.1,ds++r.2.1,r.2.2)
theorem Bkc {vs:List Ves} {gs ds:List Int} {n:Int} {R:List Int × List Int × Int} (hk:gs.length < vs.length) (h:Bjc gs ds (Bfe (vs.drop gs.length) n)=R) (a c:Int)
  (ha:a=(vs.getD gs.length default).g.lo+n % Fa (vs.getD gs.length default).g) (hc:c=(vs.getD gs.length default).d.lo+n / Fa (vs.getD gs.length default).g % Fa (vs.getD gs.length default).d) :
  Bjc (gs++[a]) (ds++[c]) (Bfe (vs.drop (gs++[a]).length) (Bld (vs.getD gs.length default) n))=R:=by
 subst ha hc
 rw [Bg6 default hk] at h
 rw [List.length_append,List.length_singleton]
 rw [← h]
 simp [Bjc,Bfe]
theorem Bkz {vs:List Ves} {gs ds:List Int} {n:Int} {R:List Int × List Int × Int} (hk:vs.length≤gs.length) (h:Bjc gs ds (Bfe (vs.drop gs.length) n)=R):R=(gs,ds,n):=by
 rw [List.drop_of_length_le hk] at h
 rw [← h]; simp [Bjc,Bfe]
theorem Bi5 {ss:List Stp} {ms:List Int} {n:Int} {R:List Int} (hk:ms.length < ss.length) (h:ms++Bf6 (ss.drop ms.length) n=R) (a:Int) (ha:a=(ss.getD ms.length default).g.lo+n % Fa (ss.getD ms.length default).g) :
  (ms++[a])++Bf6 (ss.drop (ms++[a]).length) (n / Fa (ss.getD ms.length default).g)=R:=by
 subst ha
 rw [Bg6 default hk] at h
 rw [List.length_append,List.length_singleton,← h]
 simp [Bf6]
theorem Bkd {ss:List Stp} {ms:List Int} {n:Int} {R:List Int} (hk:ss.length≤ms.length) (h:ms++Bf6 (ss.drop ms.length) n=R):R=ms:=by
 rw [List.drop_of_length_le hk] at h
 rw [← h]; simp [Bf6]
theorem Bit {m s:Int} (h0:0≤m) (h1:1≤s):0≤m / s∧m / s≤m:=⟨Int.ediv_nonneg h0 (by omega),Int.ediv_le_self _ h0⟩
theorem Bgr {m s:Int} (h1:1≤s):0≤m % s∧m % s < s:=⟨Int.emod_nonneg _ (by omega),Int.emod_lt_of_pos _ (by omega)⟩
theorem Bh5:∀ (l:List Ves) (n:Int),(Bfe l n).1.length=l.length∧(Bfe l n).2.1.length=l.length
 | [],_=>⟨rfl,rfl⟩
 | v :: l,n=>by
  obtain ⟨h1,h2⟩:=Bh5 l (n / Fa v.g / Fa v.d)
  unfold Bfe
  simp only [List.length_cons,h1,h2,and_self]
theorem Bib:∀ (l:List Stp) (n:Int),(Bf6 l n).length=l.length
 | [],_=>rfl
 | s :: l,n=>by unfold Bf6; rw [List.length_cons,Bib,List.length_cons]
theorem Bhp {r:Rng} {n:Int} (h:1≤Fa r):inB (r.lo+n % Fa r) r.lo r.hi=true:=by
 have:=Bgr (m:=n) h
 unfold Fa at *
 simp only [inB,Bool.and_eq_true,decide_eq_true_eq]; omega
theorem Bix:∀ {l:List Ves} (n:Int),l.all Eu=true→∀ k,k < l.length→inB ((Bfe l n).1.getD k 0) (l.getD k default).g.lo (l.getD k default).g.hi=true∧inB ((Bfe l n).2.1.getD k 0) (l.getD k default).d.lo (l.getD k default).d.hi=true
 | [],_,_,k,hk=>by cases hk
 | v :: l,n,hv,k,hk=>by
  rw [List.all_cons,Bool.and_eq_true] at hv
  obtain ⟨h1,h2,_⟩:=C9 hv.1
  cases k with
  | zero=>exact ⟨Bhp (P4 h1).1,Bhp (P4 h2).1⟩
  | succ k=>exact Bix (n / Fa v.g / Fa v.d) hv.2 k (by simpa using hk)
theorem Biz:∀ {l:List Stp} {c:Int} (n:Int),l.all (F7 c)=true→∀ k,k < l.length→inB ((Bf6 l n).getD k 0) (l.getD k default).g.lo (l.getD k default).g.hi=true
 | [],_,_,_,k,hk=>by cases hk
 | s :: l,c,n,hv,k,hk=>by
  rw [List.all_cons,Bool.and_eq_true] at hv
  have h1:=(Fy hv.1).2.2.2.2
  cases k with
  | zero=>exact Bhp (P4 h1).1
  | succ k=>exact Biz (n / Fa s.g) hv.2 k (by simpa using hk)
theorem Bev {b:Ee} (hv:N6 b) (n:Int):F1 b (Beo b n)=true:=by
 obtain ⟨h1,h2⟩:=Bh5 b.vs n
 exact Bif h1 h2 (Bib _ _) (Bix n hv.v) (Biz _ hv.s)
theorem Bej {v:List Liq} {k:Nat} (h:k < v.length):(stL v).getD k []=Bb7 (Azh (B0 v k)):=by
 unfold stL B0
 rw [List.getD_eq_getElem?_getD,List.getD_eq_getElem?_getD,List.getElem?_map,List.getElem?_eq_getElem h]; rfl
theorem Bke {s x n:Int} (h0:0≤x) (h1:x < s) (hn:0≤n):(x+s * n) % s=x∧(x+s * n) / s=n∧0≤x+s * n∧∀ R,n < R→x+s * n < s * R:=by
 refine ⟨?_,?_,?_,fun R hR=>?_⟩
 ·rw [Int.add_mul_emod_self_left,Int.emod_eq_of_lt h0 h1]
 ·rw [Int.add_mul_ediv_left _ _ (by omega),Int.ediv_eq_zero_of_lt h0 h1]; omega
 ·have:=Int.mul_nonneg (show 0≤s by omega) hn; omega
 ·have:=Int.mul_le_mul_of_nonneg_left (show n+1≤R by omega) (show 0≤s by omega)
  rw [Int.mul_add,Int.mul_one] at this
  omega
theorem Bfz (r:Rng) (l:List Rng):Mb (r :: l) 1=Fa r * Mb l 1:=by
 show Mb l (1 * Fa r)=_
 rw [Bf9,Int.mul_comm]
theorem Bhc:∀ (l:List Stp) (ms:List Int),ms.length=l.length→(∀ k,k < l.length→(l.getD k default).g.lo≤ms.getD k 0∧ms.getD k 0≤(l.getD k default).g.hi)→∃ n,0≤n∧n < Mb (l.map (·.g)) 1∧Bf6 l n=ms
 | [],[],_,_=>⟨0,Int.le_refl _,by decide,rfl⟩
 | [],_ :: _,h,_=>by cases h
 | _ :: _,[],h,_=>by cases h
 | s :: l,m :: ms,hl,h=>by
  obtain ⟨n,h1,h2,h3⟩:=Bhc l ms (by simpa using hl) (fun k hk=>h (k+1) (by simpa using hk))
  have h0:=h 0 (by simp)
  simp only [List.getD_cons_zero] at h0
  obtain ⟨d1,d2,d3,d4⟩:=Bke (s:=Fa s.g) (x:=m - s.g.lo) (n:=n) (by omega) (by unfold Fa; omega) h1
  refine ⟨m - s.g.lo+Fa s.g * n,d3,?_,?_⟩
  ·rw [List.map_cons,Bfz]; exact d4 _ h2
  ·unfold Bf6
   rw [d1,d2,h3,show s.g.lo+(m - s.g.lo)=m by omega]
theorem Bhl:∀ (l:List Ves) (gs ds:List Int) (r:Int),gs.length=l.length→ds.length=l.length→0≤r →
  (∀ k,k < l.length→((l.getD k default).g.lo≤gs.getD k 0∧gs.getD k 0≤(l.getD k default).g.hi)∧(l.getD k default).d.lo≤ds.getD k 0∧ds.getD k 0≤(l.getD k default).d.hi) →
  ∃ n,0≤n∧(∀ R,r < R→n < Mb (Be6 l) 1 * R)∧Bfe l n=(gs,ds,r)
 | [],[],[],r,_,_,hr,_=>⟨r,hr,fun R h=>by show r < 1 * R; omega,rfl⟩
 | [],_ :: _,_,_,h,_,_,_=>by cases h
 | [],_,_ :: _,_,_,h,_,_=>by cases h
 | _ :: _,[],_,_,h,_,_,_=>by cases h
 | _ :: _,_,[],_,_,h,_,_=>by cases h
 | v :: l,g :: gs,d :: ds,r,hg,hd,hr,h=>by
  obtain ⟨n,h1,h2,h3⟩:=Bhl l gs ds r (by simpa using hg) (by simpa using hd) hr (fun k hk=>h (k+1) (by simpa using hk))
  have h0:=h 0 (by simp)
  simp only [List.getD_cons_zero] at h0
  obtain ⟨a1,a2,a3,a4⟩:=Bke (s:=Fa v.d) (x:=d - v.d.lo) (n:=n) (by omega) (by unfold Fa; omega) h1
  obtain ⟨b1,b2,b3,b4⟩:=Bke (s:=Fa v.g) (x:=g - v.g.lo) (n:=d - v.d.lo+Fa v.d * n) (by omega) (by unfold Fa; omega) a3
  refine ⟨_,b3,fun R hR=>?_,?_⟩
  ·have e:Mb (Be6 (v :: l)) 1=Fa v.g * (Fa v.d * Mb (Be6 l) 1):=by
    show Mb (v.g :: v.d :: Be6 l) 1=_
    rw [Bfz,Bfz]
   rw [e,Int.mul_assoc,Int.mul_assoc]
   exact b4 _ (a4 _ (h2 R hR))
  ·unfold Bfe
   rw [b2,b1,a2,a1,h3,show v.g.lo+(g - v.g.lo)=g by omega,show v.d.lo+(d - v.d.lo)=d by omega]
theorem Bia {b:Ee} {t:Tru} (h:F1 b t=true):∃ n,0≤n∧n < Bel b∧Beo b n=t:=by
 obtain ⟨h1,h2,h3,h4,h5⟩:=Dj h
 obtain ⟨r,r1,r2,r3⟩:=Bhc b.ss t.m h3 h5
 obtain ⟨n,n1,n2,n3⟩:=Bhl b.vs t.g t.d r h1 h2 r1 h4
 refine ⟨n,n1,?_,?_⟩
 ·have e:Bel b=Mb (Be6 b.vs) 1 * Mb (b.ss.map (·.g)) 1:=by
   unfold Bel
   rw [Bey]
   conv=>lhs; rw [← Int.one_mul (Mb (Be6 b.vs) 1)]
   rw [Bf9,Int.mul_comm]
  rw [e]; exact n2 _ r2
 ·unfold Beo; rw [n3,r3]
def Bka (b:Ee) (v:List Liq):Prop:=∃ t,F1 b t=true∧(Bd6 b t).2=true∧v=(Bd6 b t).1
def Bgw (b:Ee):Nat→List (List Liq)
 | 0=>[]
 | k+1=>if (Bd6 b (Beo b k)).2=true then Bgw b k++[(Bd6 b (Beo b k)).1] else Bgw b k
def Bew (b:Ee):List (List Liq):=Bgw b (Bel b).toNat
theorem Bg2 {b:Ee} {v:List Liq}:∀ k:Nat,v ∈ Bgw b k↔∃ n,n < k∧(Bd6 b (Beo b (n:Nat))).2=true∧v=(Bd6 b (Beo b n)).1
 | 0=>by
  constructor
  ·intro h; cases h
  ·rintro ⟨n,h,_⟩; omega
 | k+1=>by
  have ih:=Bg2 (b:=b) (v:=v) k
  unfold Bgw
  constructor
  ·intro h
   split at h
   ·rename_i hx
    rcases List.mem_append.1 h with h | h
    ·obtain ⟨n,h1,h2⟩:=ih.1 h; exact ⟨n,by omega,h2⟩
    ·exact ⟨k,by omega,hx,List.mem_singleton.1 h⟩
   ·obtain ⟨n,h1,h2⟩:=ih.1 h; exact ⟨n,by omega,h2⟩
  ·rintro ⟨n,h1,h2,h3⟩
   by_cases e:n=k
   ·subst e
    rw [if_pos h2]; exact List.mem_append_right _ (List.mem_singleton.2 h3)
   ·have:=ih.2 ⟨n,by omega,h2,h3⟩
    split
    ·exact List.mem_append_left _ this
    ·exact this
theorem Bfl {b:Ee} (hv:N6 b) {v:List Liq}:v ∈ Bew b↔Bka b v:=by
 unfold Bew
 rw [Bg2]
 constructor
 ·rintro ⟨n,_,h2,h3⟩; exact ⟨_,Bev hv n,h2,h3⟩
 ·rintro ⟨t,h1,h2,h3⟩
  obtain ⟨n,a1,a2,rfl⟩:=Bia h1
  refine ⟨n.toNat,by omega,?_⟩
  rw [show ((n.toNat:Nat):Int)=n by omega]
  exact ⟨h2,h3⟩
theorem Bh0:∀ {rs:List Rng} {x:List Int},x.length=rs.length→(∀ k,k < rs.length→Jn (rs.getD k default) (x.getD k 0)=true)→Bhz rs x
 | [],[],_,_=>trivial
 | [],_ :: _,h,_=>by cases h
 | _ :: _,[],h,_=>by cases h
 | r :: rs,n :: x,hl,h=>by
  refine ⟨?_,Bh0 (by simpa using hl) fun k hk=>h (k+1) (by simpa using hk)⟩
  have:=h 0 (by simp)
  simpa only [Jn,inB,List.getD_cons_zero,Bool.and_eq_true,decide_eq_true_eq] using this
theorem Bii {b:Ee} {t:Tru} (h:F1 b t=true):∃ x ∈ Bea (Fz b) [],Bfd b.vs.length x=t:=by
 obtain ⟨h1,h2,h3,_⟩:=Dj h
 have e:Jt t=t.g++(t.d++t.m):=by simp [Jt]
 refine ⟨Jt t,(Bfs _ _ _).2 ⟨Jt t,rfl,Bh0 (by rw [Ane,Qo]; omega) fun k hk=>Kn h hk⟩,?_⟩
 unfold Bfd
 rw [e]
 have a1:(t.g++(t.d++t.m)).take b.vs.length=t.g:=by rw [← h1]; exact List.take_left
 have a2:(t.g++(t.d++t.m)).drop (2 * b.vs.length)=t.m:=by
  rw [← List.append_assoc,show 2 * b.vs.length=(t.g++t.d).length by rw [List.length_append]; omega]
  exact List.drop_left
 have a3:((t.g++(t.d++t.m)).take (2 * b.vs.length)).drop b.vs.length=t.d:=by
  rw [← List.append_assoc,show 2 * b.vs.length=(t.g++t.d).length by rw [List.length_append]; omega,List.take_left,← h1]
  exact List.drop_left
 rw [a1,a2,a3]
theorem Bki {b:Ee} (hv:N6 b) {v:List Liq}:Bka b v↔∃ x ∈ Bea (Fz b) [],(Mo b (Bfd b.vs.length x)).2=true∧v=(Mo b (Bfd b.vs.length x)).1.take b.vs.length:=by
 constructor
 ·rintro ⟨t,h1,h2,rfl⟩
  obtain ⟨x,hx,rfl⟩:=Bii h1
  obtain ⟨e1,e2⟩:=Bf7 (Bfd b.vs.length x) hv
  exact ⟨x,hx,e1.trans h2,(e2 (e1.trans h2)).symm⟩
 ·rintro ⟨x,hx,h2,rfl⟩
  obtain ⟨e1,e2⟩:=Bf7 (Bfd b.vs.length x) hv
  exact ⟨_,Bfh hx,e1.symm.trans h2,e2 h2⟩
def IsW (P:Int→Prop) (r:Rng):Prop:=P r.lo∧P r.hi∧∀ x,P x→r.lo≤x∧x≤r.hi
theorem IsW.unique {P:Int→Prop} {r s:Rng} (h:IsW P r) (h2:IsW P s):r=s:=by
 obtain ⟨a1,a2,a3⟩:=h
 obtain ⟨b1,b2,b3⟩:=h2
 have:=a3 _ b1; have:=a3 _ b2; have:=b3 _ a1; have:=b3 _ a2
 cases r; cases s
 simp only [Rng.mk.injEq]
 dsimp only at *
 omega
theorem IsW.congr {P Q:Int→Prop} {r:Rng} (h:IsW P r) (hPQ:∀ x,P x↔Q x):IsW Q r:=
 ⟨(hPQ _).1 h.1,(hPQ _).1 h.2.1,fun x hx=>h.2.2 x ((hPQ x).2 hx)⟩
theorem Bgj (n:Int):IsW (fun x=>x=n) ⟨n,n⟩:=⟨rfl,rfl,fun x h=>by dsimp only; omega⟩
theorem Bgk {P:Int→Prop} {r:Rng} (h:IsW P r) (n:Int):IsW (fun x=>P x∨x=n) (Biq r n false):=by
 obtain ⟨h1,h2,h3⟩:=h
 have hw:Biq r n false=⟨min r.lo n,if r.hi < n then n else r.hi⟩:=rfl
 have:=h3 _ h1; have:=h3 _ h2
 rw [hw]
 refine ⟨?_,?_,fun x hx=>?_⟩
 ·dsimp only
  by_cases e:r.lo≤n
  ·rw [show min r.lo n=r.lo by omega]; exact .inl h1
  ·rw [show min r.lo n=n by omega]; exact .inr rfl
 ·dsimp only
  split
  ·exact .inr rfl
  ·exact .inl h2
 ·dsimp only
  rcases hx with hx | rfl
  ·have:=h3 x hx; split <;> omega
  ·split <;> omega
def Bgc (l:List Int):Nat→Rng
 | 0=>⟨l.getD 0 0,l.getD 0 0⟩
 | k+1=>⟨if l.getD k 0 < (Bgc l k).lo then l.getD k 0 else (Bgc l k).lo,if (Bgc l k).hi < l.getD k 0 then l.getD k 0 else (Bgc l k).hi⟩
def Bhx (l:List Int):Rng:=Bgc l l.length
theorem Bi1 {l:List Int} (h:0 < l.length):∀ k,k≤l.length→IsW (fun x=>x=l.getD 0 0∨∃ j,j < k∧x=l.getD j 0) (Bgc l k)
 | 0,_=>(Bgj _).congr fun x=>⟨.inl,fun h=>h.elim id fun ⟨_,h,_⟩=>by omega⟩
 | k+1,hk=>by
  have ih:=Bgk (Bi1 h k (by omega)) (l.getD k 0)
  have e:Biq (Bgc l k) (l.getD k 0) false=Bgc l (k+1):=by
   show (⟨_,_⟩:Rng)=⟨_,_⟩
   simp only [Rng.mk.injEq,and_true]
   split <;> omega
  rw [e] at ih
  refine ih.congr fun x=>⟨?_,?_⟩
  ·rintro ((h | ⟨j,h1,h2⟩) | h)
   ·exact .inl h
   ·exact .inr ⟨j,by omega,h2⟩
   ·exact .inr ⟨k,by omega,h⟩
  ·rintro (h | ⟨j,h1,h2⟩)
   ·exact .inl (.inl h)
   ·by_cases e:j=k
    ·subst e; exact .inr h2
    ·exact .inl (.inr ⟨j,by omega,h2⟩)
theorem Bks {l:List Int} (h:l≠[]):IsW (· ∈ l) (Bhx l):=by
 have hl:0 < l.length:=List.length_pos_iff.2 h
 refine (Bi1 hl l.length (Nat.le_refl _)).congr fun x=>⟨?_,fun hx=>?_⟩
 ·rintro (rfl | ⟨j,h1,rfl⟩)
  ·exact Dy 0 hl
  ·exact Dy 0 h1
 ·obtain ⟨j,hj⟩:=List.mem_iff_getElem?.1 hx
  have hj2:j < l.length:=by
   rcases Nat.lt_or_ge j l.length with h | h
   ·exact h
   ·rw [List.getElem?_eq_none h] at hj; cases hj
  exact .inr ⟨j,hj2,by rw [List.getD_eq_getElem?_getD,hj]; rfl⟩
def Bjk (b:Ee) (k:Nat) (f:Liq→Int) (x:Int):Prop:=∃ v,Bka b v∧f (B0 v k)=x
theorem Bgq {b:Ee} (hv:N6 b) (h:Bew b≠[]) (k:Nat) (f:Liq→Int):IsW (Bjk b k f) (Bhx ((Bew b).map fun v=>f (B0 v k))):=
 (Bks (by simpa using h)).congr fun x=>by
  simp only [List.mem_map]
  exact ⟨fun ⟨v,h1,h2⟩=>⟨v,(Bfl hv).1 h1,h2⟩,fun ⟨v,h1,h2⟩=>⟨v,(Bfl hv).2 h1,h2⟩⟩
end AM.Wort
end
/- The abstract machine: aggregates of bools that are compared; an operation between others. -/
section
namespace AM
open Go Go.Proofs
theorem Bgd {θ:Nat→Loc} {M:Nat→Prop} {w:World} {x:AV} {v:Value} {l:List Bool} (h:Al θ M w x v) (hx:x=.agg (l.map fun b=>.p (.val (.bool b)))):v=.agg (l.map Value.bool).toArray:=by
 subst hx
 cases h with
 | agg _ vs hs _ hr=>
  congr 1
  apply Array.ext'
  apply List.ext_getElem?
  intro i
  cases hi:l[i]? with
  | none=>
   have h1:l.length≤i:=by simpa using hi
   simp [hi]
   rw [hs]; simpa using h1
  | some n=>
   have h2:=hr i (.p (.val (.bool n))) (by simp [hi])
   have h3:=Qb h2 rfl
   have hlt:i < vs.size:=by rw [hs]; simpa using (List.getElem?_eq_some_iff.1 hi).1
   rw [Array.getD_eq_getD_getElem?] at h3
   simp only [Array.getElem?_eq_getElem hlt,Option.getD_some] at h3
   simp [hi,hlt,h3]
section
variable {P:Program} {r:RB} {N:Nat} {st:St} {K:St→Prop}
theorem Bjl {o:Oper} {t ty:TypeId} {x y:Operand} {l m:List Bool} {b:Bool} (ho:o.op=.binOp .eql t x y ty) (hd:∀ k,o.dst=some k→k < N)
  (hx:ev st.t x=.agg (l.map fun b=>.p (.val (.bool b)))) (hy:ev st.t y=.agg (m.map fun b=>.p (.val (.bool b)))) (hg:P.eqGuardType P.depth t=false)
  (heq:∀ w,(Op.equal t (.agg (l.map Value.bool).toArray) (.agg (m.map Value.bool).toArray)).run P w=.ok b w) (h:K (st.put o.dst (.p (.val (.bool b))))):B4 P r N o st K:=by
 intro B S θ M w a Q hs
 have e1:=Bgd (Am hs x) hx
 have e2:=Bgd (Am hs y) hy
 obtain ⟨v,w',hr,hadv⟩:Dq P r.b N B S θ M w (st.put o.dst (.p (.val (.bool b)))) o a:=by
  refine Bu hs hd (v:=.bool b) ?_ (.p _ _ (.val _ rfl)) (AV.lives_p _ _)
  simp only [execOp,ho,e1,e2]
  refine Kx ?_
  simp [eqGuard,hg,binOp,heq w]
 refine ⟨fun _ _=>trivial,?_⟩
 rw [Oper.semAt_eq _ _ _ (fun c hc=>by rw [ho] at hc; cases hc)]
 rcases hr with hr | ⟨hr,rfl⟩
 ·rw [hr]; exact ⟨_,h,hadv.toM,by cases o.dst <;> rfl⟩
 ·rw [hr]; exact ⟨_,h,hadv.toM,by cases o.dst <;> rfl⟩
theorem Bf4 {all l2:List Oper}:∀ {l:List Oper} {s:St} {K:St→Prop},EL P r N all l s (fun s'=>AL P r N all l2 s' K)→AL P r N all (l++l2) s K
 | [],s,K,h=>h
 | ⟨dst,op,ty,pos,after,none⟩ :: rest,s,K,h=>by
  simp only [EL] at h
  exact AL.step ((Fh h).mono fun s' h'=>Bf4 h')
 | ⟨dst,op,ty,pos,after,some (j,want)⟩ :: rest,s,K,h=>by
  simp only [EL] at h
  split at h
  ·cases h
  ·rename_i t ht
   split at h
   ·rename_i b hb
    obtain ⟨h1,h2,h3⟩:=h
    refine AL.guard (Cs h1) ht (g:=some b) (by rw [hb]; rfl) (fun e=>(Fh (h2 (by simpa using e))).mono fun s' h'=>Bf4 h') (fun e=>Bf4 (h3 ?_))
    cases b <;> cases want <;> simp_all
   ·rename_i hb
    exact AL.guard (Cs h.1) ht (g:=none) (by rw [hb]; rfl) (fun e=>by cases e) (fun _=>Bf4 h.2)
   ·cases h
theorem Bjo {Q:AEx→St→Prop} {id:Nat} (k:Nat) (ops:List Oper)
  (h:EL P r N ops (ops.take k) st fun s=>AL P r N ops (ops.drop k) s (Q .normal)):AWP P r N (.region id ops.toArray false) st Q:=by
 refine C0 ?_
 have:=Bf4 h
 rwa [List.take_append_drop] at this
end
end AM
end
/- The program: all lists of numbers, yielded one after the other. -/
section
namespace AM.Try
open Go AM AM.Wort Go.Proofs
open Nat renaming reduceLT→sA,reduceAdd→sB,reduceMul→sC,reduceSub→sD,reduceLeDiff→sE,reduceEqDiff→sF,reduceBEq→sG
open Int renaming reduceAdd→sH,reduceSub→sI,reduceMul→sJ,reduceLT→sK,reduceLE→sL,reduceNeg→sM,reduceToNat→sN,reduceEq→sO
set_option maxRecDepth 100000
set_option maxHeartbeats 16000000
theorem Bem {σ α:Type} {step:σ→α→σ × Bool}:∀ (l1 l2:List α) (s:σ),Fm step s (l1++l2)=if (Fm step s l1).2=true then Fm step (Fm step s l1).1 l2 else Fm step s l1
  | [],l2,s=>rfl
  | x :: l1,l2,s=>by
    simp only [List.cons_append,Fm]
    split
    · rw [Bem l1 l2]
    · rename_i h; simp
theorem Bff {σ α:Type} {step:σ→α→σ × Bool} {s:σ} {x:α}:Fm step s [x]=step s x:=by
  simp only [Fm]
  split
  · rename_i h; exact Prod.ext rfl h.symm
  · rename_i h; exact Prod.ext rfl (Bool.eq_false_iff.2 h).symm
theorem Bg.of_nil0 {P:Program} {bd:Nat} {fv:AV} {os:Nat→Option AO} {R:AV→(Nat→Option AO)→Prop} (h:Bg P bd fv [.p (.sl [])] os R):Bg P bd fv [C3] os R:=by
  intro hfree S θ M w vf vs h1 h2 h3 h4 h5 h6
  refine h hfree S θ M w vf vs h1 h2 h3 (fun i x hx=>?_) h5 (fun i x hx=>?_)
  · match i,hx with
    | 0,hx=>
      cases hx
      have:=Rd (h4 0 C3 rfl)
      rw [this]; exact .p _ _ .nil
  · match i,hx with
    | 0,hx=>cases hx; exact AV.lives_p _ _
theorem Bht {r:RB} {N:Nat} {s:St} {K:St→Prop} {dst:Option Nat} {ty:TypeId} {pos:String} {after:Array Edge} {g:Option (Nat × Bool)} {x hi mx:Operand} {lo:Option Operand}:EO Tryz.prog r N ⟨dst,.slice 26 x lo (some hi) (some mx),ty,pos,after,g⟩ s K=EOp r.b N dst s K (Bkh (fun e=>(Ab Tryz.prog e).sz) (fun e=>(Ab Tryz.prog e).agg) 3 ((ev s.t x).pv?.bind PV.list?) (A9 (ev s.t) 0 lo) (A9 (ev s.t) 0 (some hi)) (A9 (ev s.t) 0 (some mx))):=Bi8 (by rw [Bau])
theorem Bhu {r:RB} {N:Nat} {s:St} {K:St→Prop} {dst:Option Nat} {ty:TypeId} {pos:String} {after:Array Edge} {g:Option (Nat × Bool)} {x:Operand} {lo hi:Option Operand}:EO Tryz.prog r N ⟨dst,.slice 26 x lo hi none,ty,pos,after,g⟩ s K=EOp r.b N dst s K (Bjd (fun e=>(Ab Tryz.prog e).sz) (fun e=>(Ab Tryz.prog e).agg) 3 ((ev s.t x).pv?.bind PV.list?) (A9 (ev s.t) 0 lo) (fun n=>A9 (ev s.t) n hi)):=Bje (by rw [Bau])
theorem Bhe (l:List Int):((l.map fun n=>[iv n]).all fun c=>decide (c.length=(Ab Tryz.prog 3).sz))=true:=by
  simp only [amT]; simp
theorem Blo {l:List Int} {lo hi m:Int} (h0:0≤lo) (h1:lo≤hi) (h2:hi≤m) (h3:m≤l.length):Bkh (fun e=>(Ab Tryz.prog e).sz) (fun e=>(Ab Tryz.prog e).agg) 3 (some (l.map fun n=>[iv n])) (some lo) (some hi) (some m)=some (.pure (isl ((l.take hi.toNat).drop lo.toNat))):=by
  rw [Bjh h0 h1 h2 (by simpa using h3) (by simp only [amT]; rfl) (Bhe l),← List.map_take,← List.map_drop]
theorem Blf {l:List Int} {lo:Int} (h0:0≤lo) (h1:lo≤l.length):Bjd (fun e=>(Ab Tryz.prog e).sz) (fun e=>(Ab Tryz.prog e).agg) 3 (some (l.map fun n=>[iv n])) (some lo) (fun n=>some (n:Int))=some (.pure (isl (l.drop lo.toNat))):=by
  rw [Bi7 (h:=(l.length:Int)) (by simp) h0 h1 (by simp) (by simp only [amT]; rfl) (Bhe l),← List.map_take,← List.map_drop,List.take_of_length_le (by simp)]
theorem Bk4 {bd:Nat} {fv:AV} {p:List Int} {x:Int} {os:Nat→Option AO} {R:AV→(Nat→Option AO)→Prop} (h:Bg Tryz.prog bd fv [isl (p++[x])] os R):Bg Tryz.prog bd fv [.p (.sl ((p.map fun n=>[iv n])++[[iv x]]))] os R:=by
  rw [show isl (p++[x])=.p (.sl ((p.map fun n=>[iv n])++[[iv x]])) from by simp [List.map_append]] at h; exact h
theorem Bjf {n len:Nat} {es:List (List PV)} (h:len=es.length):[AV.own n len].map (AV.frz n es)=[.p (.sl es)]:=by
  subst h
  show [(AV.own n es.length).frz n es]=_
  simp only [AV.frz,if_true,Nat.le_refl,List.take_length]
abbrev avL (k:Nat) (x:List Int):AV:=.agg [isl (x.take k),isl ((x.take (2 * k)).drop k),isl (x.drop (2 * k))]
abbrev chF (nr ny nk nc:Nat):AV:=.fn (.func 130) [] [.ptr nr 0,.ptr ny 0,.ptr nk 0,.ptr nc 0]
theorem Blh {n nr ny nk nc:Nat} {es:List (List PV)} (h1:nr≠n) (h2:ny≠n) (h3:nk≠n) (h4:nc≠n):(chF nr ny nk nc).frz n es=chF nr ny nk nc:=by
  simp only [AV.frz,AV.frz.frzL,h1,h2,h3,h4,if_false]
structure Chs (rs:List Rng) (k nr ny nk nc:Nat) (yv:AV) (os:Nat→Option AO):Prop where
  r:os nr=some (.cells [.p (.sl (rs.map H9))])
  y:os ny=some (.cells [yv])
  k:os nk=some (.cells [i64 (k:Int)])
  c:os nc=some (.cells [chF nr ny nk nc])
theorem Bj0 {rs:List Rng} {k:Nat} {yv:AV} {F:Nat→Prop} {σ:Type} {L:List (List Int)} {go:σ→Prop} {I:σ→(Nat→Option AO)→Prop} {step:σ→List Int→σ × Bool} (hY:Ag6 Tryz.prog yv F (avL k) L go I step) (hrs:∀ r ∈ rs,0≤r.lo∧r.lo≤r.hi∧r.hi≤1000) (hn:rs.length≤100) (hk:2 * k≤rs.length) {nr ny nk nc:Nat} (f1:¬ F nr) (f2:¬ F ny) (f3:¬ F nk) (f4:¬ F nc) (m:Nat) :
    ∀ (cur:List Int) (s:σ) (os:Nat→Option AO) (bd:Nat),rs.length - cur.length=m→cur.length≤rs.length→(∀ x ∈ Bea (rs.drop cur.length) cur,x ∈ L)→Chs rs k nr ny nk nc yv os→go s→I s os →
    Bg Tryz.prog bd (chF nr ny nk nc) [isl cur] os fun res os'=>res=bl (Fm step s (Bea (rs.drop cur.length) cur)).2∧I (Fm step s (Bea (rs.drop cur.length) cur)).1 os'∧∀ n,¬ F n→os' n=os n:=by
  induction m using Nat.strongRecOn with
  | ind m ih=>
  intro cur s os bd hm hcu hL hch hg hI
  refine B2 (v:=[]) (q:=[]) (N:=54) (rs:=[.tmp 6]) Tryz.func130 rfl (by kernel_rfl) rfl rfl (fun hcl hfree=>?_)
  obtain ⟨o1,o2,o3,o4⟩:=hch
  have hfr0:∀ k,os (bd+k)=none:=fun k=>hfree _ (by omega)
  have b1:=Ao hfree o1
  have b2:=Ao hfree o2
  have b3:=Ao hfree o3
  have b4:=Ao hfree o4
  have hF:∀ n,F n→n < bd:=fun n hn=>by obtain ⟨o,h,_⟩:=hY.foot s os n hI hn; exact Ao hfree h
  have hlv:=hY.live _ _ hI
  have hpg:∀ j,pgO (bd+j) os=os:=fun j=>Abk hcl (hfr0 j)
  have hpf:∀ j,AV.purge (bd+j) (chF nr ny nk nc)=chF nr ny nk nc:=fun j=>by
    unfold AV.purge
    refine if_pos ?_
    simp [AV.clean,AV.clean.cleanL]; omega
  have hw2:IntKind.i64.wrap (2 * (k:Int))=2 * k:=Fc (by omega) (by omega)
  refine Bd2 fun K1 hK1=>?_
  simp (disch:=omega) only [amL,sA,sB]
  refine hK1 _ ?_
  refine Aa fun K2 hK2=>?_
  refine Bd2 fun K3 hK3=>?_
  simp (disch:=omega) only [o1,amL,amT,sA,sF,↓reduceIte,reduceCtorEq]
  refine hK3 _ ?_
  refine Aj rfl (fun h=>MT.x ?_) (fun h=>ME.x ?_)
  all_goals
   first
   |refine MT.mk ?_
    first
    |exact Bool.noConfusion h
    |skip
     try simp only [nrm] at h
     refine Aa fun K4 hK4=>?_
     refine Ce (by kernel_rfl) (by kernel_rfl) ?_
     have hone:=Bi9 (rs:=rs) (cur:=cur) (by omega)
     simp (disch:=omega) only [o2,o3,hw2,Bht,Bhu,Bik,Bk,Bj,B1,Blo,Blf,List.map_cons,List.map_nil,amL,amT,sA,sB,sE,sF,sN,↓reduceIte,reduceCtorEq]
     have hcall:=hY.call s cur os (bd+54) (hL cur (by rw [hone]; exact List.mem_singleton.2 rfl)) hg hI hcl
     refine A1 [] (by decide) hcall (fun q hq=>hfree q (by omega)) (Nat.le_add_right _ _) (fun res os4 hR hcl4 hlvr=>?_)
     obtain ⟨rfl,hI4,hfr4⟩:=hR
     simp (disch:=omega) only [amL,sA,↓reduceIte]
     refine hK4 _ ?_
     refine Ah ?_
     try simp (disch:=omega) only [amL]
     first
       | (refine A3 (res:=bl (step s cur).2) os4 rfl (Sub.refl _) hcl4 (A5 _ rfl) ⟨?_,?_,hfr4⟩
          · rw [hone,Bff]
          · rw [hone,Bff]; exact hI4)
       | (have hf:=h
          refine A3 (res:=bl false) (Dt bd os4) rfl hsb4 hd4.1 (A5 _ rfl) ⟨?_,?_,hd4.2.2⟩
          · rw [← hall,Ber (by omega),Bem,if_neg (by rw [hf]; decide),hf]
          · rw [← hall,Ber (by omega),Bem,if_neg (by rw [hf]; decide)]; exact hd4.2.1)
       | (rw [Bfy (by omega)] at hall
          refine A3 (res:=bl true) os1 (by simp (disch:=omega) only [o1,o2,o3,o4,hw2,hfr0,Ad,Bw,Bh,Bht,Bhu,Bik,Bk,Bj,B1,Blo,Blf,hpf,hpg,Hr,Ni,Kp,Ex,Gg,List.map_cons,List.map_nil,Lk,if_true,amL,amT,sA,sB,sC,sD,sE,sF,sG,sH,sI,sJ,sK,sL,sM,sN,sO,↓reduceIte,reduceCtorEq]; try rfl) (fun q=>?_) hcl1 (A5 _ rfl) ⟨?_,?_,hfr1⟩
          · by_cases e:q=bd+7
            · subst e; left; exact hfr0 7
            · right; simp only [Ad e]
          · rw [← hall]; rfl
          · rw [← hall]; exact hI1)
   |refine ME.mk ?_
    first
    |exact Bool.noConfusion h
    |skip
     try simp only [nrm] at h
     refine Ak ?_
     refine hK2 _ ?_
  all_goals
   skip
   refine Bd2 fun K5 hK5=>?_
   have hcl3:cur.length < rs.length:=by omega
   obtain ⟨q1,q2,q3⟩:=hrs (rs.getD cur.length default) (AM.Wort.Dy default hcl3)
   have hhere:=Big (d:=default) hcl3
   have hsz:Fa (rs.getD cur.length default)=(rs.getD cur.length default).hi - (rs.getD cur.length default).lo+1:=rfl
   simp (disch:=omega) only [o1,hfr0,Bw,Bh,List.map_cons,List.map_nil,amL,amT,sA,sB,sF,↓reduceIte,reduceCtorEq]
   refine hK5 _ ?_
   refine Aa fun K6 hK6=>?_
   refine Bd2 fun K7 hK7=>?_
   simp (disch:=omega) only [List.map_cons,List.map_nil,amL,amT,sA,sB,↓reduceIte]
   repeat' first | (refine Aw (by kernel_rfl) rfl (Aeq (rs.getD cur.length default) (by omega) (by omega)) (by first | exact .inl rfl | exact .inr (.inl rfl)) ?_ ; simp (disch:=omega) only [amL,sA])
   refine hK7 _ ?_
   refine Ap ?_
   skip
   refine Be (α:=Nat × σ × (Nat→Option AO)) (fun x=>⟨T [(0,isl cur),(1,.ptr nr 0),(2,.ptr ny 0),(3,.ptr nk 0),(4,.ptr nc 0),(7,.ptr (bd+7) 0),(38,i64 (Fa (rs.getD cur.length default))),(39,i64 (x.1:Int))],upd x.2.2 (bd+7) (some (.cells [i64 (rs.getD cur.length default).lo,i64 (rs.getD cur.length default).hi]))⟩) (fun x=>(Fa (rs.getD cur.length default)).toNat - x.1) (fun x=>x.1≤(Fa (rs.getD cur.length default)).toNat∧go x.2.1∧I x.2.1 x.2.2∧(Hp x.2.2).closed∧(∀ n,¬ F n→x.2.2 n=os n)∧Fm step x.2.1 (Be3 (fun n=>Bea (rs.drop (cur.length+1)) (cur++[n])) ((Fa (rs.getD cur.length default)).toNat - x.1) ((rs.getD cur.length default).lo+(x.1:Nat)))=Fm step s (Bea (rs.drop cur.length) cur)) (0,s,os) ?_ ?_ (fun x hx8 K8 hK8=>?_)
   · exact ⟨Nat.zero_le _,hg,hI,hcl,fun _ _=>rfl,by rw [hhere]⟩
   · refine F9 ?_ ?_ ?_ ?_ <;> (try simp (disch:=omega) only [o1,o2,o3,o4,Ad,amL,sF,↓reduceIte,reduceCtorEq]); all_goals first | exact Sub.refl _ | exact F6 hcl (by simp [AV.isP]) | trace_state
   obtain ⟨n,s1,os1⟩:=x; dsimp only at hx8 ⊢; obtain ⟨hn1,hg1,hI1,hcl1,hfr1,hall⟩:=hx8; have o1:=(hfr1 nr f1).trans o1; have o2:=(hfr1 ny f2).trans o2; have o3:=(hfr1 nk f3).trans o3; have o4:=(hfr1 nc f4).trans o4; have hfreeI:∀ q,bd≤q→os1 q=none:=fun q hq=>(hfr1 q (fun h=>by have:=hF q h; omega)).trans (hfree q hq); have hfr0:∀ k,os1 (bd+k)=none:=fun k=>hfreeI _ (by omega); have hpg:∀ j,pgO (bd+j) os1=os1:=fun j=>Abk hcl1 (hfr0 j)
   refine Bd2 fun K9 hK9=>?_
   simp (disch:=omega) only [amL,amT,sA,sF,↓reduceIte,reduceCtorEq]
   refine hK9 _ ?_
   refine Aa fun K10 hK10=>?_
   refine Aj rfl (fun h=>MT.x ?_) (fun h=>ME.x ?_)
   all_goals
    first
    |refine MT.mk ?_
     first
     |exact Bool.noConfusion h
     |skip
      try simp only [nrm] at h
      refine Ak ?_
      refine hK10 _ ?_
    |refine ME.mk ?_
     first
     |exact Bool.noConfusion h
     |skip
      try simp only [nrm] at h
      refine Bo ?_
      refine hK6 _ ?_
      refine Bd2 fun K11 hK11=>?_
      simp (disch:=omega) only [amL,sA]
      refine hK11 _ ?_
      refine Ah ?_
      try simp (disch:=omega) only [amL]
      first
        | (refine A3 (res:=bl (step s cur).2) os4 rfl (Sub.refl _) hcl4 (A5 _ rfl) ⟨?_,?_,hfr4⟩
           · rw [hone,Bff]
           · rw [hone,Bff]; exact hI4)
        | (have hf:=h
           refine A3 (res:=bl false) (Dt bd os4) rfl hsb4 hd4.1 (A5 _ rfl) ⟨?_,?_,hd4.2.2⟩
           · rw [← hall,Ber (by omega),Bem,if_neg (by rw [hf]; decide),hf]
           · rw [← hall,Ber (by omega),Bem,if_neg (by rw [hf]; decide)]; exact hd4.2.1)
        | (rw [Bfy (by omega)] at hall
           refine A3 (res:=bl true) os1 (by simp (disch:=omega) only [amL,↓reduceIte]; try rfl) (fun q=>?_) hcl1 (A5 _ rfl) ⟨?_,?_,hfr1⟩
           · by_cases e:q=bd+7
             · subst e; left; exact hfr0 7
             · right; simp only [Ad e]
           · rw [← hall]; rfl
           · rw [← hall]; exact hI1)
   all_goals
    skip
    refine Aa fun K12 hK12=>?_
    refine Ap ?_
    refine Bd2 fun K13 hK13=>?_
    simp (disch:=omega) only [amL,sA,sF,↓reduceIte,reduceCtorEq]
    refine hK13 _ ?_
    refine Aa fun K14 hK14=>?_
    have hw3:IntKind.i64.wrap ((rs.getD cur.length default).lo+(n:Int))=(rs.getD cur.length default).lo+n:=Fc (by omega) (by omega)
    refine V4 9 [.app [4]] (by kernel_rfl) (by kernel_rfl) ?_
    simp only [List.take_succ_cons,List.take_zero,List.drop_succ_cons,List.drop_zero]
    simp (disch:=omega) only [o4,Ad,List.map_cons,List.map_nil,amL,amT,sA,sF,↓reduceIte,reduceCtorEq]
    refine V9 (by kernel_rfl) (by decide) (Aoz (cur.map fun n=>[iv n]) (by simp) (by simp [PV.isVal]) (by rw [List.length_map]; omega)) (by simp (disch:=omega) only [hfr0,Ad]) ?_
    simp (disch:=omega) only [hfr0,Ad,hpf,hpg,Hr,Ni,Kp,Ex,Gg,List.map_cons,List.map_nil,Lk,amL,amT,sA,sE,sF,↓reduceIte,reduceCtorEq]
    refine ⟨rfl,?_⟩
    have hin:∀ x ∈ Bea (rs.drop (cur.length+1)) (cur++[(rs.getD cur.length default).lo+(n:Int)]),x ∈ L:=fun x hx=>hL x (by rw [hhere]; exact Bfw _ _ n (by omega) (by simpa using hx))
    have hcall:=ih (rs.length - (cur++[(rs.getD cur.length default).lo+(n:Int)]).length) (by rw [List.length_append,List.length_singleton]; omega) (cur++[(rs.getD cur.length default).lo+(n:Int)]) s1 (upd (upd os1 (bd+7) (some (.cells [i64 (rs.getD cur.length default).lo,i64 (rs.getD cur.length default).hi]))) (bd+49) (some (.arr 1 [[iv ((rs.getD cur.length default).lo+(n:Int))]]))) (bd+54) rfl (by rw [List.length_append,List.length_singleton]; omega) (by rw [List.length_append,List.length_singleton]; exact hin) ⟨by simp (disch:=omega) only [Ad]; exact o1,by simp (disch:=omega) only [Ad]; exact o2,by simp (disch:=omega) only [Ad]; exact o3,by simp (disch:=omega) only [Ad]; exact o4⟩ hg1 (hY.stable _ _ _ hI1 (fun q hq=>by have:=hF q hq; simp (disch:=omega) only [Ad]))
    rw [List.length_append,List.length_singleton] at hcall
    refine Af0 (bd:=bd+54) (bd+50) Bb _ [(0,isl cur),(1,.ptr nr 0),(2,.ptr ny 0),(3,.ptr nk 0),(4,.ptr nc 0),(7,.ptr (bd+7) 0),(38,i64 (Fa (rs.getD cur.length default))),(39,i64 (n:Int))] ((Abt (Ns (F6 hcl1 (by simp [AV.isP]))) (by simp (disch:=omega) only [Ad]; exact hfr0 _)).trans rfl) (by decide) (by
      rw [Blh (by omega) (by omega) (by omega) (by omega),Bjf (by simp)]
      exact Bk4 hcall) (fun q hq=>by simp (disch:=omega) only [Ad]; exact hfreeI q (by omega)) (Nat.le_add_right _ _) (fun res os4 hR hcl4 hlv4=>?_)
    obtain ⟨rfl,hI4,hfr4⟩:=hR
    simp (disch:=omega) only [Xf,AV.frz,if_neg]
    have hd4:=hY.drop hcl hfree hI hI4 (fun q hq1 hq2=>(hfr4 q hq2).trans (by simp (disch:=omega) only [Ad]; exact hfr1 q hq2))
    have h74:os4 (bd+7)=some (.cells [i64 (rs.getD cur.length default).lo,i64 (rs.getD cur.length default).hi]):=(hfr4 (bd+7) (fun h=>by have:=hF _ h; omega)).trans (by simp (disch:=omega) only [Ad,Bb])
    have hsb4:Sub (Dt bd os4) os4:=Ly bd os4
    have hsub4:Sub (upd (Dt bd os4) (bd+7) (some (.cells [i64 (rs.getD cur.length default).lo,i64 (rs.getD cur.length default).hi]))) os4:=fun q=>by
      by_cases e:q=bd+7
      · subst e; right; rw [Bb,h74]
      · rw [Ad e]; exact hsb4 q
    simp (disch:=omega) only [amL,sA,sF,↓reduceIte,reduceCtorEq]
    refine ⟨⟨by rw [hfr4 nr f1]; simp (disch:=omega) only [Ad]; rw [o1]; rfl,by rw [hfr4 ny f2]; simp (disch:=omega) only [Ad]; rw [o2]; rfl,by rw [hfr4 nk f3]; simp (disch:=omega) only [Ad]; rw [o3]; rfl,by rw [hfr4 nc f4]; simp (disch:=omega) only [Ad]; rw [o4]; rfl,by rw [h74]; rfl⟩,?_⟩
    refine hK14 _ ?_
    refine Aj rfl (fun h=>MT.x ?_) (fun h=>ME.x ?_)
    all_goals
     first
     |refine MT.mk ?_
      first
      |exact Bool.noConfusion h
      |skip
       try simp only [nrm] at h
       refine Bd2 fun K15 hK15=>?_
       simp (disch:=omega) only [amL,sA]
       refine hK15 _ ?_
       refine Ah ?_
       try simp (disch:=omega) only [amL]
       first
         | (refine A3 (res:=bl (step s cur).2) os4 rfl (Sub.refl _) hcl4 (A5 _ rfl) ⟨?_,?_,hfr4⟩
            · rw [hone,Bff]
            · rw [hone,Bff]; exact hI4)
         | (have hf:=h
            refine A3 (res:=bl false) (Dt bd os4) rfl hsb4 hd4.1 (A5 _ rfl) ⟨?_,?_,hd4.2.2⟩
            · rw [← hall,Ber (by omega),Bem,if_neg (by rw [hf]; decide),hf]
            · rw [← hall,Ber (by omega),Bem,if_neg (by rw [hf]; decide)]; exact hd4.2.1)
         | (rw [Bfy (by omega)] at hall
            refine A3 (res:=bl true) os1 (by simp (disch:=omega) only [o1,o2,o3,o4,hw2,hfr0,Ad,Bw,Bh,Bht,Bhu,Bik,Bk,Bj,B1,Blo,Blf,hpf,hpg,Hr,Ni,Kp,Ex,Gg,List.map_cons,List.map_nil,Lk,if_true,amL,amT,sA,sB,sC,sD,sE,sF,sG,sH,sI,sJ,sK,sL,sM,sN,sO,↓reduceIte,reduceCtorEq]; try rfl) (fun q=>?_) hcl1 (A5 _ rfl) ⟨?_,?_,hfr1⟩
            · by_cases e:q=bd+7
              · subst e; left; exact hfr0 7
              · right; simp only [Ad e]
            · rw [← hall]; rfl
            · rw [← hall]; exact hI1)
     |refine ME.mk ?_
      first
      |exact Bool.noConfusion h
      |skip
       try simp only [nrm] at h
       refine Ak ?_
       refine hK12 _ ?_
    all_goals
     skip
     refine Ac ?_
     simp (disch:=omega) only [amL,amT,sA,sF,↓reduceIte,reduceCtorEq]
     refine hK8 (n+1,(Fm step s1 (Bea (rs.drop (cur.length+1)) (cur++[(rs.getD cur.length default).lo+(n:Nat)]))).1,Dt bd os4) _ ?_ ?_ (F9 ?_ ?_ ?_ ?_)
     all_goals (try simp (disch:=omega) only [Ad,amL,sF,↓reduceIte,reduceCtorEq])
     all_goals first | omega | exact hsub4 | exact F6 hd4.1 (by simp [AV.isP]) | exact ⟨by omega,Bh1 (fun s x hx=>hY.next s x (hin x hx)) hg1 h,hd4.2.1,hd4.1,hd4.2.2,by rw [← hall,Ber (by omega),Bem,if_pos h]; rfl⟩ | exact ⟨by rw [hd4.2.2 nr f1,← hfr1 nr f1,o1]; rfl,by rw [hd4.2.2 ny f2,← hfr1 ny f2,o2]; rfl,by rw [hd4.2.2 nk f3,← hfr1 nk f3,o3]; rfl,by rw [hd4.2.2 nc f4,← hfr1 nc f4,o4]; rfl⟩ | trace_state
theorem Bkg {b:Ee} {nw m:Nat} {os:Nat→Option AO} {bd:Nat} (hl:b.vs.length < 1000000) (hl2:b.ss.length < 1000000) (hw:os nw=some (.cells [.p (slV b.vs),.p (slS b.ss),.mp m])) :
  Bg Tryz.prog bd (.fn (.func 110) [] []) [.ptr nw 0] os fun res os'=>res=.fn (.func 129) [] [.ptr (bd+3) 0,.ptr (bd+4) 0]∧os'=upd (upd os (bd+3) (some (.cells [.p (.sl ((Fz b).map H9))]))) (bd+4) (some (.cells [i64 b.vs.length])):=by
 refine B2 (v:=[]) (q:=[]) (N:=17) (rs:=[.tmp 2]) Tryz.func110 rfl (by kernel_rfl) rfl rfl (fun hcl hfree=>?_)
 have hfr0:∀ k,os (bd+k)=none:=fun k=>hfree _ (by omega)
 have hb:=Ao hfree hw
 refine Bd2 fun K1 hK1=>?_
 simp (disch:=omega) only [amL,sA]
 refine hK1 _ ?_
 refine Bd2 fun K2 hK2=>?_
 simp (disch:=omega) only [hw,amL,amT,sA,sB,sE,↓reduceIte,reduceCtorEq]
 repeat' first | (refine Aw (by kernel_rfl) rfl (Ad6 b hl hl2) (by first | exact .inl rfl | exact .inr (.inl rfl)) ?_ ; simp (disch:=omega) only [hfr0,amL,amT,sA,sF,↓reduceIte])
 refine hK2 _ ?_
 refine Bd2 fun K3 hK3=>?_
 simp (disch:=omega) only [hw,hfr0,Ad,amL,amT,sA,sF,↓reduceIte,reduceCtorEq]
 refine hK3 _ ?_
 refine Bd2 fun K4 hK4=>?_
 simp (disch:=omega) only [amL,sA,sF,↓reduceIte]
 refine hK4 _ ?_
 refine Ah ?_
 try simp (disch:=omega) only [amL]
 refine A3 (res:=.fn (.func 129) [] [.ptr (bd+3) 0,.ptr (bd+4) 0]) (upd (upd os (bd+3) (some (.cells [.p (.sl ((Fz b).map H9))]))) (bd+4) (some (.cells [i64 b.vs.length]))) (by simp (disch:=omega) only [amL,↓reduceIte]; try rfl) (by simp only [Bw]; exact Sub.refl _) (F6 (F6 hcl (by simp [AV.isP])) (by simp [AV.isP])) ?_ ⟨rfl,rfl⟩
 ·rw [Fr]; simp (disch:=omega) only [Ct,Cl,C5,Ad,Bb,Option.isSome_some,and_self]
theorem Bjb {rs:List Rng} {k:Nat} {yv:AV} {F:Nat→Prop} {σ:Type} {go:σ→Prop} {I:σ→(Nat→Option AO)→Prop} {step:σ→List Int→σ × Bool} (hY:Ag6 Tryz.prog yv F (avL k) (Bea rs []) go I step) (hcs:yv.cs?=some [yv]) (hrs:∀ r ∈ rs,0≤r.lo∧r.lo≤r.hi∧r.hi≤1000) (hn:rs.length≤100) (hk:2 * k≤rs.length) {nr nk:Nat} (f1:¬ F nr) (f3:¬ F nk) {s:σ} {os:Nat→Option AO} {bd:Nat} (o1:os nr=some (.cells [.p (.sl (rs.map H9))])) (o3:os nk=some (.cells [i64 (k:Int)])) (hg:go s) (hI:I s os) :
  Bg Tryz.prog bd (.fn (.func 129) [] [.ptr nr 0,.ptr nk 0]) [yv] os fun res os'=>res=.tup []∧I (Fm step s (Bea rs [])).1 os'∧∀ n,¬ F n→os' n=os n:=by
 refine B2 (v:=[]) (q:=[]) (N:=8) (rs:=[]) Tryz.func129 rfl (by kernel_rfl) rfl rfl (fun hcl hfree=>?_)
 have hfr0:∀ k,os (bd+k)=none:=fun k=>hfree _ (by omega)
 have b1:=Ao hfree o1
 have b3:=Ao hfree o3
 have hF:∀ n,F n→n < bd:=fun n hn=>by obtain ⟨o,h,_⟩:=hY.foot s os n hI hn; exact Ao hfree h
 have hlv:=hY.live _ _ hI
 refine Bd2 fun K1 hK1=>?_
 simp (disch:=omega) only [hfr0,hcs,amL,sA,sB,↓reduceIte]
 refine hK1 _ ?_
 refine Bd2 fun K2 hK2=>?_
 simp (disch:=omega) only [hfr0,Ad,amL,amT,sA,↓reduceIte]
 refine hK2 _ ?_
 refine Bd2 fun K3 hK3=>?_
 simp (disch:=omega) only [Bw,amL,amT,sA,sF,↓reduceIte,reduceCtorEq]
 refine hK3 _ ?_
 refine Ac ?_
 simp (disch:=omega) only [amL,amT,sA,sF,↓reduceIte]
 have hcall:=Bg.of_nil0 (Bj0 hY hrs hn hk (nr:=nr) (ny:=bd+3) (nk:=nk) (nc:=bd+4) f1 (fun h=>by have:=hF _ h; omega) f3 (fun h=>by have:=hF _ h; omega) rs.length [] s (upd (upd os (bd+3) (some (.cells [yv]))) (bd+4) (some (.cells [chF nr (bd+3) nk (bd+4)]))) (bd+8) rfl (Nat.zero_le _) (fun x hx=>hx) ⟨by simp (disch:=omega) only [Ad]; exact o1,by simp (disch:=omega) only [Ad,Bb],by simp (disch:=omega) only [Ad]; exact o3,Bb⟩ hg (hY.stable _ _ _ hI (fun q hq=>by have:=hF q hq; simp (disch:=omega) only [Ad])))
 refine A1 [] (by decide) hcall (fun q hq=>by simp (disch:=omega) only [Ad]; exact hfree q (by omega)) (Nat.le_add_right _ _) (fun res os4 hR hcl4 hlv4=>?_)
 obtain ⟨rfl,hI4,hfr4⟩:=hR
 have hd4:=hY.drop hcl hfree hI hI4 (fun q hq1 hq2=>(hfr4 q hq2).trans (by simp (disch:=omega) only [Ad]))
 simp (disch:=omega) only [amL]
 try simp (disch:=omega) only [o1,o3,hfr0,Ad,Bw,hcs,amL,amT,sA,sB,sC,sD,sE,sF,sG,sH,sI,sJ,sK,sL,sM,sN,sO,↓reduceIte,reduceCtorEq]
 refine A3 (res:=.tup []) (Dt bd os4) rfl (Ly bd os4) hd4.1 (A5 _ rfl) ⟨rfl,hd4.2.1,hd4.2.2⟩
theorem Blj:Mh Tryz.prog 120 8:=R2 (by kernel_rfl)
theorem eqV {v w:List Liq} (hv:OkV v) (hw:OkV w):G2 Tryz.prog .eql 120 (Cn (cW v)) (Cn (cW w))=some (.pure (bl (decide (v=w)))):=by
 have l1:(wI v).length=8:=by rw [Azb,hv.len]
 have l2:(wI w).length=8:=by rw [Azb,hw.len]
 rw [Bhj,Bhj,Nk (by rw [l1]; exact Blj) (by rw [l1,l2]) (Blc hv) (Blc hw)]
 by_cases e:v=w
 ·subst e; rw [decide_eq_true rfl,decide_eq_true rfl]
 ·rw [decide_eq_false e,decide_eq_false (fun h=>e (Bj3 h))]
theorem Blq {nw:Nat} {os:Nat→Option AO} {bd:Nat} (hw:(os nw).isSome=true) :
  Bg Tryz.prog bd (.fn (.func 71) [] []) [.ptr nw 0] os fun res os'=>res=.fn (.func 109) [] [.ptr (bd+1) 0]∧os'=upd os (bd+1) (some (.cells [.ptr nw 0])):=by
 refine B2 (v:=[]) (q:=[]) (N:=4) (rs:=[.tmp 2]) Tryz.func71 rfl (by kernel_rfl) rfl rfl (fun hcl hfree=>?_)
 have hfr0:∀ k,os (bd+k)=none:=fun k=>hfree _ (by omega)
 have hb:nw < bd:=by
  cases Nat.lt_or_ge nw bd with
  | inl h=>exact h
  | inr h=>rw [hfree nw h] at hw; cases hw
 refine Bd2 fun K1 hK1=>?_
 simp (disch:=omega) only [hfr0,amL,sA,↓reduceIte]
 refine hK1 _ ?_
 refine Bd2 fun K2 hK2=>?_
 simp (disch:=omega) only [amL,sA,sF,↓reduceIte]
 refine hK2 _ ?_
 refine Ah ?_
 try simp (disch:=omega) only [amL]
 refine A3 (res:=.fn (.func 109) [] [.ptr (bd+1) 0]) (upd os (bd+1) (some (.cells [.ptr nw 0]))) (by simp (disch:=omega) only [amL,↓reduceIte]; try rfl) (by simp only []; exact Sub.refl _) (Cq hcl ?_) ?_ ⟨rfl,rfl⟩
 ·rw [Dv]; simp (disch:=omega) only [Ct,Cl,C5,Ad,hw,and_self]
 ·rw [Fr]; simp (disch:=omega) only [Ct,Cl,C5,Bb,Option.isSome_some,and_self]
abbrev tmE (n1 ny nl nf:Nat):List (Nat × AV):=[(1,.ptr n1 0),(2,.ptr ny 0),(3,.ptr nl 0),(4,.ptr nf 0)]
def Bee (b:Ee) (x:List Int):List Liq:=(Mo b (Bfd b.vs.length x)).1
def Bez (b:Ee) (x:List Int):Bool:=(Mo b (Bfd b.vs.length x)).2
def Bgm {σ:Type} (b:Ee) (step:σ→List Liq→σ × Bool) (s:σ × List Liq × Bool) (x:List Int):(σ × List Liq × Bool) × Option Code:=
  if Bez b x=false∨(s.2.2=false∧Bee b x=s.2.1) then (s,none)
  else if (step s.1 (Bee b x)).2=true then (((step s.1 (Bee b x)).1,Bee b x,false),none) else (((step s.1 (Bee b x)).1,s.2.1,s.2.2),some .ret)
theorem Bgh {σ:Type} {b:Ee} {step:σ→List Liq→σ × Bool} {s:σ × List Liq × Bool} {x:List Int} (h:Bez b x=false∨(s.2.2=false∧Bee b x=s.2.1)):Bgm b step s x=(s,none):=if_pos h
theorem Bgg {σ:Type} {b:Ee} {step:σ→List Liq→σ × Bool} {s:σ × List Liq × Bool} {x:List Int} (h:¬ (Bez b x=false∨(s.2.2=false∧Bee b x=s.2.1))) (h2:(step s.1 (Bee b x)).2=true):Bgm b step s x=(((step s.1 (Bee b x)).1,Bee b x,false),none):=(if_neg h).trans (if_pos h2)
theorem Bf8 {σ:Type} {b:Ee} {step:σ→List Liq→σ × Bool} {s:σ × List Liq × Bool} {x:List Int} (h:¬ (Bez b x=false∨(s.2.2=false∧Bee b x=s.2.1))) (h2:(step s.1 (Bee b x)).2=false):Bgm b step s x=(((step s.1 (Bee b x)).1,s.2.1,s.2.2),some .ret):=(if_neg h).trans (if_neg (by rw [h2]; decide))
structure EnI {σ:Type} (b:Ee) (yv:AV) (I:σ→(Nat→Option AO)→Prop) (n1 nw m ny nl nf:Nat) (s:σ × List Liq × Bool) (os:Nat→Option AO):Prop where
  i:I s.1 os
  w1:os n1=some (.cells [.ptr nw 0])
  wk:Wk b.vs b.ss nw m os
  y:os ny=some (.cells [yv])
  l:os nl=some (.cells (cW s.2.1))
  f:os nf=some (.cells [bl s.2.2])
  ok:OkV s.2.1
def FE (F:Nat→Prop) (n1 nw m ny nl nf n:Nat):Prop:=F n∨n=n1∨n=nw∨n=m∨n=ny∨n=nl∨n=nf
theorem Bku {b:Ee} {x:List Int} {nw m:Nat} {os:Nat→Option AO} {bd:Nat} (hW:Wk b.vs b.ss nw m os) (hv:N6 b) (hx:x ∈ Bea (Fz b) []) :
    Bg Tryz.prog bd (.fn (.func 61) [] []) [.ptr nw 0,avL b.vs.length x] os fun res os'=>res=.tup [avW (Bee b x),bl (Bez b x)]∧os'=os:=Ek (t:=Bfd b.vs.length x) hW hv (Bfh hx)
theorem Bko {b:Ee} {yv:AV} {F:Nat→Prop} {σ:Type} {L:List (List Liq)} {go:σ→Prop} {I:σ→(Nat→Option AO)→Prop} {step:σ→List Liq→σ × Bool} (hY:Ag6 Tryz.prog yv F avW L go I step) (hL:∀ x ∈ Bea (Fz b) [],Bez b x=true→Bee b x ∈ L) (hv:N6 b) (own:∀ q,yv.clean q=false→F q) {n1 nw m ny nl nf bdL:Nat} (f1:¬ F n1) (fw:¬ F nw) (fm:¬ F m) (fy:¬ F ny) (fl:¬ F nl) (ff:¬ F nf) (fL:¬ F bdL) (d1:n1 < ny) (dw:nw < ny) (dm:m < ny) (dy:ny < nl) (dl:nl < nf) (df:nf < bdL)
    {A B:Code} (hcode:(Tryz.f109.body.bind Nt)=some (A,B)) :
    Bho Tryz.prog bdL ⟨33,[10],A,B,.ready,none⟩ (tmE n1 ny nl nf) [61] [] (FE F n1 nw m ny nl nf) (avL b.vs.length) (Bea (Fz b) []) (fun s=>go s.1) (EnI b yv I n1 nw m ny nl nf) (Bgm b step) where
  ready:=rfl
  lenp:=rfl
  psn q hq:=by
    simp only [List.mem_cons,List.not_mem_nil,or_false] at hq
    subst hq; exact (by decide:10 < 33)
  notF h:=by
    rcases h with h | h | h | h | h | h | h
    · exact fL h
    all_goals omega
  tmF q hq:=by
    simp [AO.clean,AV.clean,AV.clean.cleanL] at hq
    unfold FE; omega
  stable s o1 o2 hI he:=⟨hY.stable _ _ _ hI.i (fun n hn=>he n (.inl hn)),(he n1 (by unfold FE; omega)).trans hI.w1,⟨(he nw (by unfold FE; omega)).trans hI.wk.ow,(he m (by unfold FE; omega)).trans hI.wk.om⟩,(he ny (by unfold FE; omega)).trans hI.y,(he nl (by unfold FE; omega)).trans hI.l,(he nf (by unfold FE; omega)).trans hI.f,hI.ok⟩
  foot s o1 n hI hn:=by
    rcases hn with h | rfl | rfl | rfl | rfl | rfl | rfl
    · obtain ⟨o,h1,h2⟩:=hY.foot _ _ _ hI.i h
      exact ⟨o,h1,fun q hq=>.inl (h2 q hq)⟩
    · exact ⟨_,hI.w1,fun q hq=>by simp [AO.clean,AV.clean,AV.clean.cleanL] at hq; unfold FE; omega⟩
    · exact ⟨_,hI.wk.ow,fun q hq=>by simp [AO.clean,AV.clean,AV.clean.cleanL] at hq; unfold FE; omega⟩
    · exact ⟨_,hI.wk.om,fun q hq=>by simp [AO.clean] at hq⟩
    · exact ⟨_,hI.y,fun q hq=>.inl (own q (by simpa [AO.clean,AV.clean.cleanL] using hq))⟩
    · exact ⟨_,hI.l,fun q hq=>by rw [show (AO.cells (cW s.2.1)).clean q=true from Amh] at hq; cases hq⟩
    · exact ⟨_,hI.f,fun q hq=>by simp [AO.clean,AV.clean,AV.clean.cleanL] at hq⟩
  next s x hx hg hb:=by
    unfold Bgm at hb ⊢
    split at hb
    · rename_i h; rw [if_pos h]; exact hg
    · rename_i h
      rw [if_neg h]
      split at hb
      · rename_i h2
        rw [if_pos h2]
        refine hY.next _ _ (hL x hx ?_) hg h2
        cases he:Bez b x with
        | true=>rfl
        | false=>exact absurd (.inl he) h
      · cases hb
  body s x o1 bd1 hx hg hI hl hcl1 hfree1 hb1 rl:=by
    obtain ⟨s,last,first⟩:=s
    obtain ⟨hi,a1,⟨aw,am⟩,ay,al,af,hok⟩:=hI
    dsimp only at hi al af hok hg
    have hfr0:∀ k,o1 (bd1+k)=none:=fun k=>hfree1 _ (by omega)
    have hpp:=Amq hv (Bfh hx)
    have hp4:(Bee b x).length=4:=hpp.1
    have hpo:Bez b x=true→OkV (Bee b x):=hpp.2
    have hlast:=hok.len
    have b1:=Ao hfree1 a1
    have bw:=Ao hfree1 aw
    have bm:=Ao hfree1 am
    have b2:=Ao hfree1 ay
    have b3:=Ao hfree1 al
    have b4:=Ao hfree1 af
    have hF:∀ q,F q→q < bd1∧q≠bdL∧q≠nl∧q≠nf:=fun q hq=>by
      obtain ⟨o,h,_⟩:=hY.foot s o1 q hi hq
      exact ⟨Ao hfree1 h,fun e=>fL (e ▸ hq),fun e=>fl (e ▸ hq),fun e=>ff (e ▸ hq)⟩
    have hlq:∀ {q:Nat} {kk:F8},(AO.loop kk (tmE n1 ny nl nf)).clean q=false→(o1 q).isSome=true∧(q=n1∨q=ny∨q=nl∨q=nf):=fun {q kk} hq=>by
      have e:q=n1∨q=ny∨q=nl∨q=nf:=by
        simp [AO.clean,AV.clean,AV.clean.cleanL] at hq; omega
      refine ⟨?_,e⟩
      rcases e with e | e | e | e <;> rw [e]
      · rw [a1]; rfl
      · rw [ay]; rfl
      · rw [al]; rfl
      · rw [af]; rfl
    have hclL:∀ {os:Nat→Option AO} {kk:F8},(Hp os).closed→(os n1).isSome=true→(os ny).isSome=true→(os nl).isSome=true→(os nf).isSome=true→(Hp (upd os bdL (some (.loop kk (tmE n1 ny nl nf))))).closed:=fun {os kk} hc h1 h2 h3 h4=>Cq hc (fun q hq=>by
      obtain ⟨_,e⟩:=hlq hq
      unfold upd
      split
      · rfl
      · rcases e with e | e | e | e <;> rw [e] <;> assumption)
    have hlv:=hY.live _ _ hi
    have key:(Bez b x=false∧(Bez b x=false∨(first=false∧Bee b x=last)))∨(Bez b x=true∧first=true∧¬ (Bez b x=false∨(first=false∧Bee b x=last)))∨(Bez b x=true∧first=false∧Bee b x=last∧(Bez b x=false∨(first=false∧Bee b x=last)))∨(Bez b x=true∧first=false∧¬ Bee b x=last∧¬ (Bez b x=false∨(first=false∧Bee b x=last))):=by
      cases he:Bez b x with
      | false=>exact .inl ⟨rfl,.inl rfl⟩
      | true=>cases first with
        | true=>exact .inr (.inl ⟨rfl,rfl,by simp⟩)
        | false=>
                   by_cases hev:Bee b x=last
                   · exact .inr (.inr (.inl ⟨rfl,rfl,hev,.inr ⟨rfl,hev⟩⟩))
                   · exact .inr (.inr (.inr ⟨rfl,rfl,hev,by simp [hev]⟩))
    rcases key with ⟨he,hC⟩ | ⟨he,hf,hC⟩ | ⟨he,hf,hev,hC⟩ | ⟨he,hf,hev,hC⟩
    all_goals
      first
        | (have hce:G2 Tryz.prog .eql 120 (Cn (cW (Bee b x))) (Cn (cW last))=some (.pure (bl true)):=by rw [eqV (hpo he) hok,decide_eq_true hev])
        | (have hce:G2 Tryz.prog .eql 120 (Cn (cW (Bee b x))) (Cn (cW last))=some (.pure (bl false)):=by rw [eqV (hpo he) hok,decide_eq_false hev])
        | (have hce:=he)
      cases (show some (_,_)=some (A,B) from hcode)
      have he:=he
      have hce:=hce
      first | (have hf:=hf) | (have hf:=he)
      show AWP _ _ 33 _ ⟨T [(10,avL b.vs.length x),(1,.ptr n1 0),(2,.ptr ny 0),(3,.ptr nl 0),(4,.ptr nf 0)],o1⟩ _
      refine Ac ?_
      simp (disch:=omega) only [hl,hfr0,Ad,Bw,amL,amT,sA,sB,sF,↓reduceIte]
      try simp (disch:=omega) only [hl,hfr0,Ad,Bw,amL,amT,sA,sB,sC,sD,sE,sF,sG,sH,sI,sJ,sK,sL,sM,sN,sO,↓reduceIte,reduceCtorEq]
      skip
      refine Ap ?_
      refine Bd2 fun K1 hK1=>?_
      simp (disch:=(first | assumption | omega)) only [a1,Ad,amL,amT,sA,sB,sF,↓reduceIte]
      refine Cb (bd:=bd1+33) (by decide) (Bku (b:=b) (x:=x) (nw:=nw) (m:=m) ⟨by simp (disch:=omega) only [Ad]; exact aw,by simp (disch:=omega) only [Ad]; exact am⟩ hv hx) (fun q hq=>by simp (disch:=omega) only [Ad]; exact hfree1 q (by omega)) (Nat.le_add_right _ _) (D1 _ _) ?_
      simp (disch:=(first | assumption | omega)) only [hfr0,Ad,Bw,Az,Aeb,he,amL,amT,sA,sB,sF,↓reduceIte]
      refine hK1 _ ?_
      refine Aa fun K2 hK2=>?_
      refine Bd2 fun K3 hK3=>?_
      simp (disch:=(first | assumption | omega)) only [al,af,Ad,Bq,Az,hce,hf,amL,amT,sA,sF,↓reduceIte]
      repeat' first | (refine E0 (fun h=>?_) (fun h=>?_) <;> simp (disch:=(first | assumption | omega)) only [h,a1,aw,am,ay,al,af,hl,hfr0,Ad,Bw,Bq,Az,Aeb,he,hce,hf,ne_eq,Wr,Aem,amL,amT,sA,sB,sC,sD,sE,sF,sG,sH,sI,sJ,sK,sL,sM,sN,sO,↓reduceIte,reduceCtorEq]) | (refine Cz (fun h=>?_) (fun h=>?_) <;> simp (disch:=(first | assumption | omega)) only [h,a1,aw,am,ay,al,af,hl,hfr0,Ad,Bw,Bq,Az,Aeb,he,hce,hf,ne_eq,Wr,Aem,amL,amT,sA,sB,sC,sD,sE,sF,sG,sH,sI,sJ,sK,sL,sM,sN,sO,↓reduceIte,reduceCtorEq])
      all_goals
       skip
       refine hK3 _ ?_
       refine Aj rfl (fun h=>MT.x ?_) (fun h=>ME.x ?_)
       all_goals
        first
        |refine MT.mk ?_
         first
         |exact Bool.noConfusion h
         |skip
          try simp only [] at h
          refine Bo ?_
          try simp (disch:=(first | assumption | omega)) only [hf]
          first
            | (try subst hf
               have hb:=Bgh (step:=step) (s:=(s,last,_)) hC
               simp only [Bfx,Sz,reduceIte,Wr]
               refine Rg o1 (by simp (disch:=omega) only [Ad,Bb]) (fun z=>?_) hcl1 ⟨by rw [hb] ; first | done | rfl,⟨by rw [hb]; exact ⟨hi,a1,⟨aw,am⟩,ay,al,af,hok⟩,by rw [hb]; exact hl⟩,fun _ _=>rfl⟩
               by_cases e1:z=bdL
               · subst e1; right; rw [Bb]; exact hl
               · by_cases e4:bd1≤z
                 · left; exact hfree1 z e4
                 · right; simp (disch:=omega) only [Ad])
            | (try subst hf
               have hst:(step s (Bee b x)).2=false:=by assumption
               have hb:=Bf8 (step:=step) (s:=(s,last,_)) hC hst
               dsimp only at hb
               refine Rg (upd (Dt bd1 os4) bdL (some (.loop (Alv _ (some .ret)) (tmE n1 ny nl nf)))) rL (fun z=>?_) (hclL hd4.1 (by rw [g1]; rfl) (by rw [gy]; rfl) (by rw [gl]; rfl) (by rw [gf]; rfl)) ⟨by rw [hb] ; first | done | rfl,⟨?_,by rw [hb,Bb]⟩,fun n hn=>?_⟩
               · by_cases e1:z=bdL
                 · subst e1; right; rw [Bb,Bb] ; first | done | rfl
                 · rw [Ad e1,Ad e1]; exact Ly bd1 os4 z
               · rw [hb]
                 exact ⟨hY.stable _ _ _ hd4.2.1 (fun q hq=>Ad (hF q hq).2.1),(Ad (by omega)).trans g1,⟨(Ad (by omega)).trans gw,(Ad (by omega)).trans gm⟩,(Ad (by omega)).trans gy,(Ad (by omega)).trans gl,(Ad (by omega)).trans gf,hok⟩
               · have e1:n≠bdL:=fun e=>hn (.inr e)
                 rw [Ad e1,gL n (fun h=>hn (.inl (.inl h))),Ad e1])
            | (try subst hf
               have hst:(step s (Bee b x)).2=true:=by assumption
               have hb:=Bgg (step:=step) (s:=(s,last,_)) hC hst
               dsimp only at hb
               refine Rg (upd (upd (upd (Dt bd1 os4) nl (some (.cells (cW (Bee b x))))) nf (some (.cells [bl false]))) bdL (some (.loop (Alv _ none) (tmE n1 ny nl nf)))) (by simp (disch:=omega) only [Ad]; exact rL) (fun z=>?_) (hclL (F6 (D9 hd4.1) (by simp [AV.isP])) (by simp (disch:=omega) only [Ad]; rw [g1]; rfl) (by simp (disch:=omega) only [Ad]; rw [gy]; rfl) (by simp (disch:=omega) only [Ad,Bb,Option.isSome_some]) (by simp (disch:=omega) only [Bb,Option.isSome_some])) ⟨by rw [hb] ; first | done | rfl,⟨?_,by rw [hb,Bb]⟩,fun n hn=>?_⟩
               · by_cases e1:z=bdL
                 · subst e1; right; rw [Bb,Bb] ; first | done | rfl
                 · by_cases e2:z=nf
                   · subst e2; right; simp (disch:=omega) only [Ad,Bb]
                   · by_cases e3:z=nl
                     · subst e3; right; simp (disch:=omega) only [Ad,Bb] ; first | done | rfl | (rw [B7 (by omega)])
                     · rw [Ad e1,Ad e2,Ad e3]
                       rcases Ly bd1 os4 z with h0 | h0
                       · exact .inl h0
                       · right; rw [h0]; simp (disch:=omega) only [Ad]
               · rw [hb]
                 exact ⟨hY.stable _ _ _ hd4.2.1 (fun q hq=>by obtain ⟨_,_,_,_⟩:=hF q hq; simp (disch:=omega) only [Ad]),by simp (disch:=omega) only [Ad]; exact g1,⟨by simp (disch:=omega) only [Ad]; exact gw,by simp (disch:=omega) only [Ad]; exact gm⟩,by simp (disch:=omega) only [Ad]; exact gy,by simp (disch:=omega) only [Ad,Bb],by simp (disch:=omega) only [Ad,Bb],hpo he⟩
               · have e1:n≠bdL:=fun e=>hn (.inr e)
                 have e2:n≠nl:=fun e=>hn (.inl (by unfold FE; omega))
                 have e3:n≠nf:=fun e=>hn (.inl (by unfold FE; omega))
                 rw [Ad e1,Ad e3,Ad e2,gL n (fun h=>hn (.inl (.inl h))),Ad e1])
        |refine ME.mk ?_
         first
         |exact Bool.noConfusion h
         |skip
          try simp only [] at h
          refine Ak ?_
          refine hK2 _ ?_
       all_goals
        skip
        refine Aa fun K4 hK4=>?_
        refine Bd2 fun K5 hK5=>?_
        simp (disch:=(first | assumption | omega)) only [ay,Ad,Bq,Az,amL,amT,sA,sF,↓reduceIte]
        have hcall:=fun os h1 h2=>hY.call s (Bee b x) os (bd1+33) (hL x hx he) hg h1 h2
        refine A1 [(1,.ptr n1 0),(2,.ptr ny 0),(3,.ptr nl 0),(4,.ptr nf 0),(6,.ptr (bd1+6) 0)] (by decide) (hcall _ (hY.stable _ _ _ hi (fun q hq=>by obtain ⟨_,_,_,_⟩:=hF q hq; simp (disch:=omega) only [Ad])) (D9 (hclL (F6 hcl1 (by simp [AV.isP])) (by simp (disch:=omega) only [Ad,a1,Option.isSome_some]) (by simp (disch:=omega) only [Ad,ay,Option.isSome_some]) (by simp (disch:=omega) only [Ad,al,Option.isSome_some]) (by simp (disch:=omega) only [Ad,af,Option.isSome_some])))) (fun q hq=>by simp (disch:=omega) only [Ad]; exact hfree1 q (by omega)) (Nat.le_add_right _ _) (fun res os4 hR hcl4 hlv4=>?_)
        obtain ⟨rfl,hI4,hfr4⟩:=hR
        have r1:os4 n1=some (.cells [.ptr nw 0]):=(hfr4 n1 f1).trans (by simp (disch:=omega) only [Ad]; exact a1)
        have rw':os4 nw=some (.cells [.p (slV b.vs),.p (slS b.ss),.mp m]):=(hfr4 nw fw).trans (by simp (disch:=omega) only [Ad]; exact aw)
        have rm:os4 m=some (.obj (Gb 14 (Sl b.vs))):=(hfr4 m fm).trans (by simp (disch:=omega) only [Ad]; exact am)
        have ry:os4 ny=some (.cells [yv]):=(hfr4 ny fy).trans (by simp (disch:=omega) only [Ad]; exact ay)
        have rl':os4 nl=some (.cells (cW last)):=(hfr4 nl fl).trans (by simp (disch:=omega) only [Ad]; exact al)
        have rf:os4 nf=some (.cells [bl first]):=(hfr4 nf ff).trans (by simp (disch:=omega) only [Ad]; exact af)
        have r6:os4 (bd1+6)=some (.cells (cW (Bee b x))):=(hfr4 (bd1+6) (fun h=>by have:=(hF _ h).1; omega)).trans Bb
        have rL:os4 bdL=_:=(hfr4 bdL fL).trans ((Ad (by omega)).trans Bb)
        have hd4:=hY.drop (bd:=bd1) (os:=upd o1 bdL (os4 bdL)) (os2:=os4) (by rw [rL]; exact hclL hcl1 (by rw [a1]; rfl) (by rw [ay]; rfl) (by rw [al]; rfl) (by rw [af]; rfl)) (fun q hq=>(Ad (by omega)).trans (hfree1 q hq)) (hY.stable _ _ _ hi (fun q hq=>Ad (hF q hq).2.1)) hI4 (fun q hq1 hq2=>by
          by_cases e:q=bdL
          · subst e; rw [Bb]
          · rw [Ad e]; exact (hfr4 q hq2).trans (by simp (disch:=omega) only [Ad]))
        have g1:=(Fv b1).trans r1
        have gw:=(Fv bw).trans rw'
        have gm:=(Fv bm).trans rm
        have gy:=(Fv b2).trans ry
        have gl:=(Fv b3).trans rl'
        have gf:=(Fv b4).trans rf
        have gL:=hd4.2.2
        simp (disch:=(first | assumption | omega)) only [amL,sA,sF,↓reduceIte]
        refine ⟨⟨by rw [r1]; rfl,by rw [ry]; rfl,by rw [rl']; rfl,by rw [rf]; rfl,by rw [r6]; rfl⟩,?_⟩
        refine hK5 _ ?_
        refine Aj rfl (fun h=>MT.x ?_) (fun h=>ME.x ?_)
        all_goals
         first
         |refine MT.mk ?_
          first
          |exact Bool.noConfusion h
          |skip
           try simp only [nrm] at h
           refine Ah ?_
           try simp (disch:=(first | assumption | omega)) only [hf,Aem,amL]
           first
             | (try subst hf
                have hb:=Bgh (step:=step) (s:=(s,last,_)) hC
                simp only [Bfx,Sz,reduceIte,Wr]
                refine Rg o1 (by simp (disch:=omega) only [Ad,Bb]) (fun z=>?_) hcl1 ⟨by rw [hb] ; first | done | rfl,⟨by rw [hb]; exact ⟨hi,a1,⟨aw,am⟩,ay,al,af,hok⟩,by rw [hb]; exact hl⟩,fun _ _=>rfl⟩
                by_cases e1:z=bdL
                · subst e1; right; rw [Bb]; exact hl
                · by_cases e4:bd1≤z
                  · left; exact hfree1 z e4
                  · right; simp (disch:=omega) only [Ad])
             | (try subst hf
                have hst:(step s (Bee b x)).2=false:=by assumption
                have hb:=Bf8 (step:=step) (s:=(s,last,_)) hC hst
                dsimp only at hb
                refine Rg (upd (Dt bd1 os4) bdL (some (.loop (Alv _ (some .ret)) (tmE n1 ny nl nf)))) rL (fun z=>?_) (hclL hd4.1 (by rw [g1]; rfl) (by rw [gy]; rfl) (by rw [gl]; rfl) (by rw [gf]; rfl)) ⟨by rw [hb] ; first | done | rfl,⟨?_,by rw [hb,Bb]⟩,fun n hn=>?_⟩
                · by_cases e1:z=bdL
                  · subst e1; right; rw [Bb,Bb] ; first | done | rfl
                  · rw [Ad e1,Ad e1]; exact Ly bd1 os4 z
                · rw [hb]
                  exact ⟨hY.stable _ _ _ hd4.2.1 (fun q hq=>Ad (hF q hq).2.1),(Ad (by omega)).trans g1,⟨(Ad (by omega)).trans gw,(Ad (by omega)).trans gm⟩,(Ad (by omega)).trans gy,(Ad (by omega)).trans gl,(Ad (by omega)).trans gf,hok⟩
                · have e1:n≠bdL:=fun e=>hn (.inr e)
                  rw [Ad e1,gL n (fun h=>hn (.inl (.inl h))),Ad e1])
             | (try subst hf
                have hst:(step s (Bee b x)).2=true:=by assumption
                have hb:=Bgg (step:=step) (s:=(s,last,_)) hC hst
                dsimp only at hb
                refine Rg (upd (upd (upd (Dt bd1 os4) nl (some (.cells (cW (Bee b x))))) nf (some (.cells [bl false]))) bdL (some (.loop (Alv _ none) (tmE n1 ny nl nf)))) (by simp (disch:=omega) only [Ad]; exact rL) (fun z=>?_) (hclL (F6 (D9 hd4.1) (by simp [AV.isP])) (by simp (disch:=omega) only [Ad]; rw [g1]; rfl) (by simp (disch:=omega) only [Ad]; rw [gy]; rfl) (by simp (disch:=omega) only [Ad,Bb,Option.isSome_some]) (by simp (disch:=omega) only [Bb,Option.isSome_some])) ⟨by rw [hb] ; first | done | rfl,⟨?_,by rw [hb,Bb]⟩,fun n hn=>?_⟩
                · by_cases e1:z=bdL
                  · subst e1; right; rw [Bb,Bb] ; first | done | rfl
                  · by_cases e2:z=nf
                    · subst e2; right; simp (disch:=omega) only [Ad,Bb]
                    · by_cases e3:z=nl
                      · subst e3; right; simp (disch:=omega) only [Ad,Bb] ; first | done | rfl | (rw [B7 (by omega)])
                      · rw [Ad e1,Ad e2,Ad e3]
                        rcases Ly bd1 os4 z with h0 | h0
                        · exact .inl h0
                        · right; rw [h0]; simp (disch:=omega) only [Ad]
                · rw [hb]
                  exact ⟨hY.stable _ _ _ hd4.2.1 (fun q hq=>by obtain ⟨_,_,_,_⟩:=hF q hq; simp (disch:=omega) only [Ad]),by simp (disch:=omega) only [Ad]; exact g1,⟨by simp (disch:=omega) only [Ad]; exact gw,by simp (disch:=omega) only [Ad]; exact gm⟩,by simp (disch:=omega) only [Ad]; exact gy,by simp (disch:=omega) only [Ad,Bb],by simp (disch:=omega) only [Ad,Bb],hpo he⟩
                · have e1:n≠bdL:=fun e=>hn (.inr e)
                  have e2:n≠nl:=fun e=>hn (.inl (by unfold FE; omega))
                  have e3:n≠nf:=fun e=>hn (.inl (by unfold FE; omega))
                  rw [Ad e1,Ad e3,Ad e2,gL n (fun h=>hn (.inl (.inl h))),Ad e1])
         |refine ME.mk ?_
          first
          |exact Bool.noConfusion h
          |skip
           try simp only [nrm] at h
           refine Ak ?_
           refine hK4 _ ?_
        all_goals
         skip
         refine Ac ?_
         simp (disch:=(first | assumption | omega)) only [rl',rf,r6,Bq,Az,Ad,Bq,Az,hf,Wr,amL,amT,sF,↓reduceIte]
         try simp (disch:=(first | assumption | omega)) only [a1,aw,am,ay,al,af,hl,hfr0,Ad,Bw,Bq,Az,Aeb,he,hce,hf,ne_eq,Wr,Aem,amL,amT,sA,sB,sC,sD,sE,sF,sG,sH,sI,sJ,sK,sL,sM,sN,sO,↓reduceIte,reduceCtorEq]
         first
           | (try subst hf
              have hb:=Bgh (step:=step) (s:=(s,last,_)) hC
              simp only [Bfx,Sz,reduceIte,Wr]
              refine Rg o1 (by simp (disch:=omega) only [Ad,Bb]) (fun z=>?_) hcl1 ⟨by rw [hb] ; first | done | rfl,⟨by rw [hb]; exact ⟨hi,a1,⟨aw,am⟩,ay,al,af,hok⟩,by rw [hb]; exact hl⟩,fun _ _=>rfl⟩
              by_cases e1:z=bdL
              · subst e1; right; rw [Bb]; exact hl
              · by_cases e4:bd1≤z
                · left; exact hfree1 z e4
                · right; simp (disch:=omega) only [Ad])
           | (try subst hf
              have hst:(step s (Bee b x)).2=false:=by assumption
              have hb:=Bf8 (step:=step) (s:=(s,last,_)) hC hst
              dsimp only at hb
              refine Rg (upd (Dt bd1 os4) bdL (some (.loop (Alv _ (some .ret)) (tmE n1 ny nl nf)))) rL (fun z=>?_) (hclL hd4.1 (by rw [g1]; rfl) (by rw [gy]; rfl) (by rw [gl]; rfl) (by rw [gf]; rfl)) ⟨by rw [hb] ; first | done | rfl,⟨?_,by rw [hb,Bb]⟩,fun n hn=>?_⟩
              · by_cases e1:z=bdL
                · subst e1; right; rw [Bb,Bb] ; first | done | rfl
                · rw [Ad e1,Ad e1]; exact Ly bd1 os4 z
              · rw [hb]
                exact ⟨hY.stable _ _ _ hd4.2.1 (fun q hq=>Ad (hF q hq).2.1),(Ad (by omega)).trans g1,⟨(Ad (by omega)).trans gw,(Ad (by omega)).trans gm⟩,(Ad (by omega)).trans gy,(Ad (by omega)).trans gl,(Ad (by omega)).trans gf,hok⟩
              · have e1:n≠bdL:=fun e=>hn (.inr e)
                rw [Ad e1,gL n (fun h=>hn (.inl (.inl h))),Ad e1])
           | (try subst hf
              have hst:(step s (Bee b x)).2=true:=by assumption
              have hb:=Bgg (step:=step) (s:=(s,last,_)) hC hst
              dsimp only at hb
              refine Rg (upd (upd (upd (Dt bd1 os4) nl (some (.cells (cW (Bee b x))))) nf (some (.cells [bl false]))) bdL (some (.loop (Alv _ none) (tmE n1 ny nl nf)))) (by simp (disch:=omega) only [Ad]; exact rL) (fun z=>?_) (hclL (F6 (D9 hd4.1) (by simp [AV.isP])) (by simp (disch:=omega) only [Ad]; rw [g1]; rfl) (by simp (disch:=omega) only [Ad]; rw [gy]; rfl) (by simp (disch:=omega) only [Ad,Bb,Option.isSome_some]) (by simp (disch:=omega) only [Bb,Option.isSome_some])) ⟨by rw [hb] ; first | done | rfl,⟨?_,by rw [hb,Bb]⟩,fun n hn=>?_⟩
              · by_cases e1:z=bdL
                · subst e1; right; rw [Bb,Bb] ; first | done | rfl
                · by_cases e2:z=nf
                  · subst e2; right; simp (disch:=omega) only [Ad,Bb]
                  · by_cases e3:z=nl
                    · subst e3; right; simp (disch:=omega) only [Ad,Bb] ; first | done | rfl | (rw [B7 (by omega)])
                    · rw [Ad e1,Ad e2,Ad e3]
                      rcases Ly bd1 os4 z with h0 | h0
                      · exact .inl h0
                      · right; rw [h0]; simp (disch:=omega) only [Ad]
              · rw [hb]
                exact ⟨hY.stable _ _ _ hd4.2.1 (fun q hq=>by obtain ⟨_,_,_,_⟩:=hF q hq; simp (disch:=omega) only [Ad]),by simp (disch:=omega) only [Ad]; exact g1,⟨by simp (disch:=omega) only [Ad]; exact gw,by simp (disch:=omega) only [Ad]; exact gm⟩,by simp (disch:=omega) only [Ad]; exact gy,by simp (disch:=omega) only [Ad,Bb],by simp (disch:=omega) only [Ad,Bb],hpo he⟩
              · have e1:n≠bdL:=fun e=>hn (.inr e)
                have e2:n≠nl:=fun e=>hn (.inl (by unfold FE; omega))
                have e3:n≠nf:=fun e=>hn (.inl (by unfold FE; omega))
                rw [Ad e1,Ad e3,Ad e2,gL n (fun h=>hn (.inl (.inl h))),Ad e1])
def Bfq (b:Ee):List Liq→Bool→List (List Int)→List (List Liq)
 | _,_,[]=>[]
 | last,first,x :: l=>if Bez b x=false∨(first=false∧Bee b x=last) then Bfq b last first l else Bee b x :: Bfq b (Bee b x) false l
def Be8 (b:Ee):List (List Liq):=Bfq b v0 true (Bea (Fz b) [])
theorem Bis {σ:Type} {b:Ee} {step:σ→List Liq→σ × Bool}:∀ (l:List (List Int)) (s:σ) (last:List Liq) (first:Bool),
  (Fm (fun (s:(σ × List Liq × Bool) × Option Code) x=>(Bgm b step s.1 x,(Bgm b step s.1 x).2.isNone)) ((s,last,first),none) l).1.1.1=(Fm step s (Bfq b last first l)).1 ∧
  ((Fm (fun (s:(σ × List Liq × Bool) × Option Code) x=>(Bgm b step s.1 x,(Bgm b step s.1 x).2.isNone)) ((s,last,first),none) l).1.2=none∨(Fm (fun (s:(σ × List Liq × Bool) × Option Code) x=>(Bgm b step s.1 x,(Bgm b step s.1 x).2.isNone)) ((s,last,first),none) l).1.2=some .ret)
 | [],s,last,first=>⟨rfl,.inl rfl⟩
 | x :: l,s,last,first=>by
  by_cases hC:Bez b x=false∨(first=false∧Bee b x=last)
  ·have hb:=Bgh (step:=step) (s:=(s,last,first)) hC
   simp only [Fm,hb,Option.isNone_none,if_true,Bfq,if_pos hC]
   exact Bis l s last first
  ·cases hs:(step s (Bee b x)).2 with
   | true=>
    have hb:=Bgg (step:=step) (s:=(s,last,first)) hC hs
    simp only [Fm,hb,Option.isNone_none,if_true,Bfq,if_neg hC,hs]
    exact Bis l _ _ _
   | false=>
    have hb:=Bf8 (step:=step) (s:=(s,last,first)) hC hs
    simp only [Fm,hb,Option.isNone_some,Bool.false_eq_true,if_false,Bfq,if_neg hC,hs]
    exact ⟨trivial,.inr trivial⟩
theorem Bkt {b:Ee} (hv:N6 b):∀ r ∈ Fz b,0≤r.lo∧r.lo≤r.hi∧r.hi≤1000:=by
 intro r hr
 unfold Fz at hr
 simp only [List.mem_append,List.mem_map] at hr
 rcases hr with (⟨v,h1,rfl⟩ | ⟨v,h1,rfl⟩) | ⟨s,h1,rfl⟩
 ·have h:=C8 (C9 (List.all_eq_true.1 hv.v v h1)).1
  omega
 ·have h:=C8 (C9 (List.all_eq_true.1 hv.v v h1)).2.1
  omega
 ·have h:=C8 (Fy (List.all_eq_true.1 hv.s s h1)).2.2.2.2
  omega
abbrev osE (os:Nat→Option AO) (bd:Nat) (b:Ee) (yv:AV):Nat→Option AO:=
 upd (upd (upd (upd (upd os (bd+2) (some (.cells [yv]))) (bd+3) (some (.cells (cW v0)))) (bd+4) (some (.cells [bl true]))) (bd+33+3) (some (.cells [.p (.sl ((Fz b).map H9))]))) (bd+33+4) (some (.cells [i64 b.vs.length]))
theorem Bk1 {b:Ee} {yv:AV} {F:Nat→Prop} {σ:Type} {L:List (List Liq)} {go:σ→Prop} {I:σ→(Nat→Option AO)→Prop} {step:σ→List Liq→σ × Bool} (hY:Ag6 Tryz.prog yv F avW L go I step) (hcs:yv.cs?=some [yv]) (hL:∀ x ∈ Bea (Fz b) [],Bez b x=true→Bee b x ∈ L) (hv:N6 b) (own:∀ q,yv.clean q=false→F q) {n1 nw m:Nat} (f1:¬ F n1) (fw:¬ F nw) (fm:¬ F m) {s:σ} {os:Nat→Option AO} {bd:Nat} (o1:os n1=some (.cells [.ptr nw 0])) (hW:Wk b.vs b.ss nw m os) (hg:go s) (hI:I s os) :
  Bg Tryz.prog bd (.fn (.func 109) [] [.ptr n1 0]) [yv] os fun res os'=>res=.tup []∧I (Fm step s (Be8 b)).1 os'∧∀ n,¬ F n→os' n=os n:=by
 refine Xp (v:=[110]) (q:=[]) (N:=33) (rs:=[]) Tryz.func109 rfl (by kernel_rfl) rfl rfl (fun hcl hfree=>?_)
 have hfr0:∀ k,os (bd+k)=none:=fun k=>hfree _ (by omega)
 have ow:=hW.ow
 have om:=hW.om
 have b1:=Ao hfree o1
 have bw:=Ao hfree ow
 have bm:=Ao hfree om
 have hF:∀ q,F q→q < bd:=fun q hq=>by obtain ⟨o,h,_⟩:=hY.foot s os q hI hq; exact Ao hfree h
 have hFb:∀ k,¬ F (bd+k):=fun k h=>by have:=hF _ h; omega
 have hlv:=hY.live _ _ hI
 have hnv:=hv.nv
 have hns:=hv.ns
 obtain ⟨A,B,hcode⟩:∃ A B,(Tryz.f109.body.bind Nt)=some (A,B):=⟨_,_,rfl⟩
 have hRd:=Bko (step:=step) (n1:=n1) (nw:=nw) (m:=m) (ny:=bd+2) (nl:=bd+3) (nf:=bd+4) (bdL:=bd+40) hY hL hv own f1 fw fm (hFb 2) (hFb 3) (hFb 4) (hFb 40) (by omega) (by omega) (by omega) (by omega) (by omega) (by omega) hcode
 refine Lm fun K1 hK1=>?_
 refine Ac ?_
 simp (disch:=(first | assumption | omega)) only [hfr0,hcs,amL,sA,sB,↓reduceIte]
 refine hK1 _ ?_
 refine Lm fun K2 hK2=>?_
 refine Ac ?_
 simp (disch:=(first | assumption | omega)) only [hfr0,Ad,amL,amT,sA,sB,↓reduceIte]
 refine hK2 _ ?_
 refine Lm fun K3 hK3=>?_
 refine Ac ?_
 simp (disch:=(first | assumption | omega)) only [hfr0,Ad,Bw,amL,amT,sA,↓reduceIte]
 refine hK3 _ ?_
 refine Lm fun K4 hK4=>?_
 refine Ac ?_
 simp (disch:=(first | assumption | omega)) only [o1,Ad,amL,amT,sA,sF,↓reduceIte,reduceCtorEq]
 refine A1 [(1,.ptr n1 0),(2,.ptr (bd+2) 0),(3,.ptr (bd+3) 0),(4,.ptr (bd+4) 0)] (by decide) (Bkg (b:=b) (nw:=nw) (m:=m) (bd:=bd+33) (by omega) (by omega) (by simp (disch:=omega) only [Ad]; exact ow)) (fun q hq=>by simp (disch:=omega) only [Ad]; exact hfree q (by omega)) (Nat.le_add_right _ _) (fun res os2 hR hcl2 hlv2=>?_)
 obtain ⟨rfl,rfl⟩:=hR
 simp (disch:=(first | assumption | omega)) only [o1,Ad,amL,sF,↓reduceIte,reduceCtorEq]
 refine hK4 _ ?_
 refine T6 ?_
 have hI0:EnI b yv I n1 nw m (bd+2) (bd+3) (bd+4) (s,v0,true) (upd (osE os bd b yv) (bd+40) (some (.loop ⟨33,[10],A,B,.ready,none⟩ (tmE n1 (bd+2) (bd+3) (bd+4))))):=⟨hY.stable _ _ _ hI (fun q hq=>by have:=hF q hq; simp (disch:=omega) only [Ad]),by simp (disch:=omega) only [Ad]; exact o1,⟨by simp (disch:=omega) only [Ad]; exact ow,by simp (disch:=omega) only [Ad]; exact om⟩,by simp (disch:=omega) only [Ad,Bb],by simp (disch:=omega) only [Ad,Bb],by simp (disch:=omega) only [Ad,Bb],Ala⟩
 have hnF:∀ k,k=36∨k=37→¬ (FE F n1 nw m (bd+2) (bd+3) (bd+4) (bd+k)∨bd+k=bd+40):=fun k hk h=>by
  rcases h with h | h
  ·unfold FE at h
   rcases h with h | h
   ·exact hFb k h
   ·omega
  ·omega
 have hc:=Bjb hRd.yields rfl (Bkt hv) (by rw [Qo]; omega) (by rw [Qo]; omega) (nr:=bd+33+3) (nk:=bd+33+4) (s:=((s,v0,true),none)) (bd:=bd+41) (os:=upd (osE os bd b yv) (bd+40) (some (.loop ⟨33,[10],A,B,.ready,none⟩ (tmE n1 (bd+2) (bd+3) (bd+4))))) (hnF 36 (.inl rfl)) (hnF 37 (.inr rfl)) (by simp (disch:=omega) only [Ad,Bb]) (by simp (disch:=omega) only [Ad,Bb]) ⟨rfl,hg⟩ ⟨hI0,Bb⟩
 cases (show some (_,_)=some (A,B) from hcode)
 refine Mg (bd:=bd+40) (tm:=tmE n1 (bd+2) (bd+3) (bd+4)) rfl (fun q hq=>by simp (disch:=omega) only [Ad]; exact hfree q (by omega)) (by simp only []; omega) rfl (by kernel_rfl) (fun i=>Z1 (by simp (disch:=(first | assumption | omega)) only [amL,sF,↓reduceIte]) i) (Aw4 (by simp (disch:=(first | assumption | omega)) only [amL,sF,↓reduceIte])) hc (fun res os2 hR hcl2=>?_)
 obtain ⟨rfl,hI2,hfr2⟩:=hR
 obtain ⟨e1,e2⟩:=Bis (b:=b) (step:=step) (Bea (Fz b) []) s v0 true
 have hfin:∀ X,Ado Tryz.prog [] (fun res os'=>res=.tup []∧I (Fm step s (Be8 b)).1 os'∧∀ n,¬ F n→os' n=os n) ⟨T (tmE n1 (bd+2) (bd+3) (bd+4)),upd os2 (bd+40) X⟩:=fun X=>by
  have hI3:=hI2.1.i
  rw [e1] at hI3
  have hd:=hY.drop (bd:=bd) hcl hfree hI hI3 (fun q hq1 hq2=>by
   by_cases c1:q=n1
   ·rw [c1,hI2.1.w1,o1]
   ·by_cases c2:q=nw
    ·rw [c2,hI2.1.wk.ow,ow]
    ·by_cases c3:q=m
     ·rw [c3,hI2.1.wk.om,om]
     ·rw [hfr2 q (fun h=>by
       rcases h with h | h
       ·unfold FE at h
        rcases h with h | h
        ·exact hq2 h
        ·omega
       ·omega)]
      simp (disch:=omega) only [Ad])
  exact A3 (res:=.tup []) (Dt bd os2) rfl (fun n=>by
   by_cases e:n=bd+40
   ·left; rw [e]; exact Sg (by omega)
   ·show Dt bd os2 n=none∨Dt bd os2 n=upd os2 (bd+40) X n
    rw [Ad e]; exact Ly bd os2 n) hd.1 (A5 _ rfl) ⟨rfl,hd.2.1,hd.2.2⟩
 rcases e2 with e2 | e2
 ·refine ⟨_,hI2.2,by rw [e2]; simp [],?_⟩
  rw [e2]
  exact hfin _
 ·refine ⟨_,hI2.2,by rw [e2]; simp [],?_⟩
  rw [e2]
  exact hfin _
theorem Bk5 (r:Rng) (n:Int) (first:Bool):Bt Tryz.prog 72 [avR r,i64 n,bl first] (avR (Biq r n first)):=by
  refine Bn (v:=[]) (q:=[]) (N:=21) (rs:=[.cell 6 58]) Tryz.func72 rfl rfl rfl rfl rfl ?_
  refine Aa fun K1 hK1=>?_
  refine Ac ?_
  simp (disch:=omega) only [amL,amT,sA,sB,sF,↓reduceIte]
  refine hK1 _ ?_
  refine Aa fun K2 hK2=>?_
  refine Aa fun K3 hK3=>?_
  refine Ac ?_
  simp (disch:=omega) only [amL,sA,sF,↓reduceIte,reduceCtorEq]
  refine hK3 _ ?_
  refine Aj rfl (fun h=>?_) (fun h=>?_)
  ·first
   | exact Bool.noConfusion h
   |skip
    try simp only [Bool.not_eq_true',decide_eq_true_eq,decide_eq_false_iff_not,Bool.and_eq_true,Bool.not_eq_false',Bool.not_not,decide_not,Bool.not_true,Bool.not_false] at h
    refine Aa fun K4 hK4=>?_
    refine Ac ?_
    simp (disch:=omega) only [amL,amT,sA,sB,sE,sF,↓reduceIte,reduceCtorEq]
    refine hK4 _ ?_
    refine Ah ?_
    try simp (disch:=omega) only [amL,amT,sB,sF,↓reduceIte]
    all_goals first | (rw [show first=true by assumption]; rfl) | (rw [show first=false by assumption]; rfl) | trace_state
  ·first
   | exact Bool.noConfusion h
   |skip
    try simp only [Bool.not_eq_true',decide_eq_true_eq,decide_eq_false_iff_not,Bool.and_eq_true,Bool.not_eq_false',Bool.not_not,decide_not,Bool.not_true,Bool.not_false] at h
    refine Ak ?_
    refine hK2 _ ?_
    refine Aa fun K5 hK5=>?_
    refine Ce (by kernel_rfl) (by kernel_rfl) ?_
    simp (disch:=omega) only [amL,amT,sA,sB,sE,sF,↓reduceIte,reduceCtorEq]
    repeat' first | (refine Aw (by kernel_rfl) rfl (Xk _ _) (by first | exact .inl rfl | exact .inr (.inl rfl)) ?_ ; simp (disch:=omega) only [amL,amT,sA,sB,sE,sF,↓reduceIte,reduceCtorEq])
    refine hK5 _ ?_
    refine Ah ?_
    try simp (disch:=omega) only [amL,amT,sB,sF,↓reduceIte]
    all_goals first | (rw [show first=true by assumption]; rfl) | (rw [show first=false by assumption]; rfl) | trace_state
theorem Bfj {l:List Bnd} {k:Nat} (h:k < l.length):(l.map Bet).getD k []=Bet (l.getD k default):=by
  simp [List.getD,h]
theorem Bgt (x:Bnd):Bet x=[iv x.g.lo,iv x.g.hi,iv x.e.lo,iv x.e.hi,iv x.k.lo,iv x.k.hi]:=rfl
theorem Bg5 {l:List Bnd} {i:Nat} {a b c d e f:Int}:(l.map Bet).set i [iv a,iv b,iv c,iv d,iv e,iv f]=(l.set i ⟨⟨a,b⟩,⟨c,d⟩,⟨e,f⟩⟩).map Bet:=(List.map_set (f:=Bet) (a:=⟨⟨a,b⟩,⟨c,d⟩,⟨e,f⟩⟩)).symm
theorem Bly {x:List Liq} {i:Nat} (h:i < x.length):(if 2≤(List.drop (i * 2) (cW x)).length then some (AV.agg (List.take 2 (List.drop (i * 2) (cW x)))) else none)=some (.agg [i64 (x.getD i default).g,i64 (x.getD i default).e]):=by
  rw [Ca h]; simp
def Bg3 (v:List Liq) (f:Bool) (l:List Bnd):Nat→List Bnd
  | 0=>l
  | i+1=>(Bg3 v f l i).set i (Blz ((Bg3 v f l i).getD i default) (v.getD i default) (Qd (v.getD i default)) f)
theorem Bf1 {v:List Liq} {f:Bool} {l:List Bnd}:∀ i,(Bg3 v f l i).length=l.length
  | 0=>rfl
  | i+1=>by simp only [Bg3,List.length_set]; exact Bf1 i
abbrev tmB (n5 n6:Nat):List (Nat × AV):=[(5,.ptr n5 0),(6,.ptr n6 0)]
structure BnI (n n5 n6 nA:Nat) (s:List Bnd × Bool) (os:Nat→Option AO):Prop where
  o:os n5=some (.cells [.own nA n])
  a:os nA=some (.arr 6 (s.1.map Bet))
  f:os n6=some (.cells [bl s.2])
  len:s.1.length=n
def Bg4 (n:Nat) (s:List Bnd × Bool) (v:List Liq):(List Bnd × Bool) × Option Code:=((Bg3 v s.2 s.1 n,false),none)
theorem Bk8 {o1 X:Nat→Option AO} {nA bdL b7:Nat} {LP:Option AO} {es:List (List PV)} {c:List AV} (h1:b7≠nA) (h2:b7≠bdL) (h3:nA≠bdL) (x7:X b7=some (.cells c)) (xA:X nA=some (.arr 6 es)) (xL:X bdL=LP) (hX:∀ q,q≠b7→q≠nA→q≠bdL→X q=o1 q):Sub (upd (upd (upd o1 bdL LP) nA (some (.arr 6 es))) b7 (some (.cells c))) X:=fun q=>by
  right
  by_cases e7:q=b7
  · subst e7; rw [Bb,x7]
  · by_cases eA:q=nA
    · subst eA; rw [Ad e7,Bb,xA]
    · by_cases eL:q=bdL
      · subst eL; rw [Ad e7,Ad eA,Bb,xL]
      · rw [Ad e7,Ad eA,Ad eL,hX q e7 eA eL]
theorem Bjs {L:List (List Liq)} {n n5 n6 nA bdL:Nat} (hn:n≤4) (hL:∀ v ∈ L,OkV v) (d1:n5 < n6) (d2:n6 < nA) (d3:nA < bdL) {A B:Code} (hcode:(Tryz.f24.body.bind Nt)=some (A,B)) :
    Zp Tryz.prog bdL ⟨67,[22],A,B,.ready,none⟩ (tmB n5 n6) [] [] (fun q=>q=n5∨q=n6∨q=nA) avW L (BnI n n5 n6 nA) (Bg4 n) where
  ready:=rfl
  lenp:=rfl
  psn q hq:=by
    simp only [List.mem_cons,List.not_mem_nil,or_false] at hq
    subst hq; exact (by decide:22 < 67)
  notF h:=by omega
  tmF q hq:=by
    simp [AO.clean,AV.clean,AV.clean.cleanL] at hq
    omega
  stable s o1 o2 hI he:=⟨(he n5 (by omega)).trans hI.o,(he nA (by omega)).trans hI.a,(he n6 (by omega)).trans hI.f,hI.len⟩
  foot s o1 q hI hq:=by
    rcases hq with rfl | rfl | rfl
    · exact ⟨_,hI.o,fun m hm=>by simp [AO.clean,AV.clean,AV.clean.cleanL] at hm; omega⟩
    · exact ⟨_,hI.f,fun m hm=>by simp [AO.clean,AV.clean,AV.clean.cleanL] at hm⟩
    · exact ⟨_,hI.a,fun m hm=>by simp [AO.clean] at hm⟩
  body s x o1 bd1 hx hI hl hcl1 hfree1 hb1 rl:=by
    obtain ⟨l,f⟩:=s
    obtain ⟨a5,aA,a6,hlen⟩:=hI
    dsimp only at aA a6 hlen
    have hok:=hL x hx
    have hx4:=hok.len
    have hsm:=hok.small
    have hfr0:∀ k,o1 (bd1+k)=none:=fun k=>hfree1 _ (by omega)
    obtain ⟨LP,hLP⟩:∃ LP:Option AO,LP=some (.loop ⟨67,[22],A,B,.busy,none⟩ (tmB n5 n6)):=⟨_,rfl⟩
    have b5:=Ao hfree1 a5
    have b6:=Ao hfree1 a6
    have bA:=Ao hfree1 aA
    have hclL:∀ {os:Nat→Option AO} {kk:F8},(Hp os).closed→(os n5).isSome=true→(os n6).isSome=true→(Hp (upd os bdL (some (.loop kk (tmB n5 n6))))).closed:=fun {os kk} hc h1 h2=>Cq hc (fun q hq=>by
      have e:q=n5∨q=n6:=by
        simp [AO.clean,AV.clean,AV.clean.cleanL] at hq; omega
      unfold upd
      split
      · rfl
      · rcases e with e | e <;> rw [e] <;> assumption)
    have hcl2:(Hp (upd o1 bdL LP)).closed:=by rw [hLP]; exact hclL hcl1 (by rw [a5]; rfl) (by rw [a6]; rfl)
    cases (show some (_,_)=some (A,B) from hcode)
    show AWP _ _ 67 _ ⟨T [(22,avW x),(5,.ptr n5 0),(6,.ptr n6 0)],o1⟩ _
    refine Ac ?_
    simp (disch:=(first | assumption | omega)) only [hl,hfr0,Ad,Bw,Az,Aeb,amL,amT,sA,sB,sF,↓reduceIte]
    try simp (disch:=(first | assumption | omega)) only [hl,hfr0,Ad,Bw,Bq,Az,Aeb,amL,amT,sA,sB,sC,sD,sE,sF,sG,sH,sI,sJ,sK,sL,sM,sN,sO,↓reduceIte,reduceCtorEq]
    skip
    refine Ap ?_
    refine Aa fun K1 hK1=>?_
    refine Bd2 fun K2 hK2=>?_
    simp (disch:=(first | assumption | omega)) only [a5,Ad,amL,amT,sA,sF,↓reduceIte]
    refine hK2 _ ?_
    refine Ap ?_
    rw [← hLP]
    refine Be (α:=Nat) (fun i=>⟨T [(5,.ptr n5 0),(6,.ptr n6 0),(7,.ptr (bd1+7) 0),(24,i64 (n:Int)),(25,i64 (i:Int))],upd (upd (upd o1 bdL LP) nA (some (.arr 6 ((Bg3 x f l i).map Bet)))) (bd1+7) (some (.cells (cW x)))⟩) (fun i=>n - i) (fun i=>i≤n) 0 ?_ ?_ (fun i hx3 K3 hK3=>?_)
    · exact Nat.zero_le _
    · refine F9 ?_ ?_ ?_ ?_ <;> (try simp (disch:=(first | assumption | omega)) only [a5,a6,Ad,amL,sF,↓reduceIte]); all_goals first | exact D9 (Ns hcl2) | exact Bk8 (by omega) (by omega) (by omega) (by simp (disch:=omega) only [Ad,Bb]) (by simp (disch:=omega) only [Ad] ; first | done | rfl | exact aA) (by simp (disch:=omega) only [Bb]) (fun q h1 h2 h3=>by simp (disch:=omega) only [Ad]) | trace_state
    have hi:=hx3; have hbl:=Bf1 (v:=x) (f:=f) (l:=l) i
    refine Bd2 fun K4 hK4=>?_
    simp (disch:=(first | assumption | omega)) only [amL,amT,sA,sF,↓reduceIte]
    refine hK4 _ ?_
    refine Aa fun K5 hK5=>?_
    refine Aj rfl (fun h=>MT.x ?_) (fun h=>ME.x ?_)
    all_goals
     first
     |refine MT.mk ?_
      first
      |exact Bool.noConfusion h
      |skip
       try simp only [nrm] at h
       refine Ak ?_
       refine hK5 _ ?_
     |refine ME.mk ?_
      first
      |exact Bool.noConfusion h
      |skip
       try simp only [nrm] at h
       refine Bo ?_
       refine hK1 _ ?_
       refine Ac ?_
       simp (disch:=(first | assumption | omega)) only [a6,Ad,Wr,amL,amT,sF,↓reduceIte]
       try simp (disch:=(first | assumption | omega)) only [a5,aA,a6,hl,hfr0,Ad,Bw,Bq,Az,Kl,Jp,Lp,Bly,Bfj,Bgt,Bg5,Vw,Wr,Aem,amL,amT,sA,sB,sC,sD,sE,sF,sG,sH,sI,sJ,sK,sL,sM,sN,sO,↓reduceIte,reduceCtorEq]
       first
         | (obtain rfl:i=n:=by omega
            refine Rg (upd (upd (upd o1 nA (some (.arr 6 ((Bg3 x f l i).map Bet)))) n6 (some (.cells [bl false]))) bdL (some (.loop (Alv _ none) (tmB n5 n6)))) (by simp (disch:=omega) only [Ad,Bb]; exact hLP) (fun z=>?_) (hclL (F6 (Ns hcl1) (by simp [AV.isP])) (by simp (disch:=omega) only [Ad]; rw [a5]; rfl) (by rw [Bb]; rfl)) ⟨rfl,⟨⟨by simp (disch:=omega) only [Ad]; exact a5,by simp (disch:=omega) only [Ad,Bb]; rfl,by simp (disch:=omega) only [Ad,Bb]; rfl,hbl.trans hlen⟩,by rw [Bb]; rfl⟩,fun q hq=>by simp (disch:=omega) only [Ad]⟩
            by_cases e1:z=bdL
            · subst e1; right; rw [Bb,Bb] ; first | done | rfl
            · by_cases e2:z=n6
              · subst e2; right; simp (disch:=omega) only [Ad,Bb]
              · by_cases e3:z=nA
                · subst e3; right; simp (disch:=omega) only [Ad,Bb]
                · by_cases e4:z=bd1+7
                  · left; subst e4; simp (disch:=omega) only [Ad]; exact hfr0 7
                  · right; simp (disch:=omega) only [Ad])
         | trace_state
    all_goals
     skip
     refine Aa fun K6 hK6=>?_
     refine Ap ?_
     refine Bd2 fun K7 hK7=>?_
     simp (disch:=(first | assumption | omega)) only [amL,sA,sF,↓reduceIte]
     refine hK7 _ ?_
     refine Bd2 fun K8 hK8=>?_
     simp (disch:=(first | assumption | omega)) only [a5,Ad,amL,amT,sA,sF,↓reduceIte]
     refine hK8 _ ?_
     refine Ce (by kernel_rfl) (by kernel_rfl) ?_
     simp (disch:=(first | assumption | omega)) only [a6,Ad,Jp,Bfj,Bgt,amL,amT,sA,sB,sE,sF,sH,↓reduceIte,reduceCtorEq]
     repeat' first | (refine Aw (by kernel_rfl) rfl (Bk5 _ _ _) (by first | exact .inl rfl | exact .inr (.inl rfl)) ?_ ; simp (disch:=(first | assumption | omega)) only [a6,Ad,Lp,Bly,Bfj,Bgt,Bg5,amL,amT,sA,sB,sE,sF,sH,↓reduceIte,reduceCtorEq]) | (refine Aw (by kernel_rfl) rfl (Zb _ (hsm i)) (by first | exact .inl rfl | exact .inr (.inl rfl)) ?_ ; simp (disch:=(first | assumption | omega)) only [a6,Ad,amL,amT,sA,sF,↓reduceIte])
     refine hK6 _ ?_
     refine Ac ?_
     simp (disch:=(first | assumption | omega)) only [amL,amT,sA,sF,↓reduceIte]
     refine hK3 (i+1) _ ?_ ?_ (F9 ?_ ?_ ?_ ?_)
     all_goals (try simp (disch:=(first | assumption | omega)) only [a5,a6,Ad,amL,sF,↓reduceIte])
     all_goals first | omega | exact D9 (Ns hcl2) | exact Bk8 (by omega) (by omega) (by omega) (by simp (disch:=omega) only [Ad,Bb]) (by simp (disch:=omega) only [Bb] ; first | done | rfl | exact aA) (by simp (disch:=omega) only [Ad,Bb]) (fun q h1 h2 h3=>by simp (disch:=omega) only [Ad]) | trace_state
theorem Bkw {r:RB} {N:Nat} {s:St} {K:St→Prop} {d:Nat} {ty:TypeId} {pos:String} {after:Array Edge} {g:Option (Nat × Bool)} {l c:Operand}:EO Tryz.prog r N ⟨some d,.makeSlice 49 l c,ty,pos,after,g⟩ s K=EOp r.b N (some d) s K (fMk 6 48 [iv 0,iv 0,iv 0,iv 0,iv 0,iv 0] (r.b+d) (ev s.t l) (ev s.t c)):=
  Bl5 (e:=60) (z:=[.int .i64 0,.int .i64 0,.int .i64 0,.int .i64 0,.int .i64 0,.int .i64 0]) (by simp only [amT]) (by simp only [amT]) (by simp only [amT]) (by simp only [amT]) (by decide) rfl (by decide) (by simp only [amT]; rfl)
theorem Bl1 {d n:Nat} (h:n≤4):fMk 6 48 [iv 0,iv 0,iv 0,iv 0,iv 0,iv 0] d (i64 (n:Int)) (i64 (n:Int))=some (.new (.arr 6 ((List.replicate n (default:Bnd)).map Bet)) (.own d n)):=by
  rw [List.map_replicate]
  show (if (n:Int)=(n:Int)∧0≤(n:Int)∧(n:Int)≤4611686018427387904∧((48:Nat):Int) * (n:Int)≤281474976710656 then some (Eff.new (AO.arr 6 (List.replicate (n:Int).toNat [iv 0,iv 0,iv 0,iv 0,iv 0,iv 0])) (AV.own d (n:Int).toNat)) else none)=_
  rw [if_pos ⟨rfl,by omega,by omega,by omega⟩,Int.toNat_natCast]; rfl
def Bh6 (n:Nat) (s:List Bnd × Bool) (l:List (List Liq)):List Bnd × Bool:=l.foldl (fun s v=>(Bg4 n s v).1) s
theorem Bkl {n:Nat}:∀ (l:List (List Liq)) (s:List Bnd × Bool),(Fm (fun (s:(List Bnd × Bool) × Option Code) x=>(Bg4 n s.1 x,(Bg4 n s.1 x).2.isNone)) (s,none) l).1=(Bh6 n s l,none)
  | [],s=>rfl
  | x :: l,s=>by
    show (if (Bg4 n s x).2.isNone=true then Fm _ (Bg4 n s x) l else _).1=_
    rw [if_pos (show (Bg4 n s x).2.isNone=true from rfl)]
    exact Bkl l (Bg4 n s x).1
def Beq (b:Ee):AV:=
  if B5 b=0 then match Bh6 b.vs.length (List.replicate b.vs.length default,true) (Be8 b) with
    | (_,true)=>.tup [C3,i64 9]
    | (l,false)=>.tup [.p (.sl (l.map Bet)),i64 0]
  else .tup [C3,i64 (B5 b)]
theorem Bh4 (b:Ee):(Beq b).isP=true:=by
  unfold Beq; split
  · split <;> rfl
  · rfl
theorem Bf3 {b:Ee} {P:List Liq→Prop}:∀ (l:List (List Int)) (last:List Liq) (first:Bool),(∀ x ∈ l,Bez b x=true→P (Bee b x))→∀ v ∈ Bfq b last first l,P v
  | [],_,_,_,v,hv=>by cases hv
  | x :: l,last,first,h,v,hv=>by
    unfold Bfq at hv
    split at hv
    · exact Bf3 l _ _ (fun y hy=>h y (by simp [hy])) v hv
    · rename_i hC
      rcases List.mem_cons.1 hv with rfl | hv
      · refine h x (by simp) ?_
        cases he:Bez b x with
        | true=>rfl
        | false=>exact absurd (.inl he) hC
      · exact Bf3 l _ _ (fun y hy=>h y (by simp [hy])) v hv
theorem Bfv {b:Ee} {x:List Int}:∀ (l:List (List Int)) (last:List Liq) (first:Bool),x ∈ l→Bez b x=true→Bee b x ∈ Bfq b last first l∨(first=false∧Bee b x=last)
  | [],_,_,h,_=>by cases h
  | y :: l,last,first,h,he=>by
    unfold Bfq
    split
    · rename_i hC
      rcases List.mem_cons.1 h with rfl | h
      · rcases hC with hC | hC
        · rw [he] at hC; cases hC
        · exact .inr hC
      · exact Bfv l last first h he
    · rcases List.mem_cons.1 h with rfl | h
      · exact .inl (List.mem_cons_self ..)
      · rcases Bfv l (Bee b y) false h he with h1 | h1
        · exact .inl (List.mem_cons_of_mem _ h1)
        · left; rw [h1.2]; exact List.mem_cons_self ..
theorem Bh8 (b:Ee) (hl:b.vs.length < 1000000) (hl2:b.ss.length < 1000000):Bt Tryz.prog 24 [avB b] (Beq b):=by
  refine Ajt (v:=[60,71]) (q:=[]) (N:=67) (rs:=[.tmp 2,.tmp 3]) Tryz.func24 rfl rfl rfl rfl (Bh4 b) ?_
  obtain ⟨A,B,hcode⟩:∃ A B,(Tryz.f24.body.bind Nt)=some (A,B):=⟨_,_,rfl⟩
  refine Lm fun K1 hK1=>?_
  refine Ac ?_
  simp (disch:=(first | assumption | omega)) only [amL,sA,↓reduceIte]
  refine hK1 _ ?_
  refine Lm fun K2 hK2=>?_
  refine Bd2 fun K3 hK3=>?_
  simp (disch:=(first | assumption | omega)) only [amL,amT,sA,sB,sF,sG,↓reduceIte]
  repeat' first | (refine Aw (by kernel_rfl) rfl (Ag7 b hl hl2) (by first | exact .inl rfl | exact .inr (.inl rfl)) ?_ ; simp (disch:=(first | assumption | omega)) only [amL,sA,↓reduceIte])
  refine hK3 _ ?_
  refine Bd2 fun K4 hK4=>?_
  simp (disch:=(first | assumption | omega)) only [ne_eq,amL,amT,sA,↓reduceIte]
  refine hK4 _ ?_
  refine Aj rfl (fun h=>MT.x ?_) (fun h=>ME.x ?_)
  all_goals
   first
   |refine MT.mk ?_
    first
    |exact Bool.noConfusion h
    |skip
     try simp only [nrm] at h
     refine Bd2 fun K5 hK5=>?_
     simp (disch:=(first | assumption | omega)) only [amL,sA,sF,↓reduceIte]
     refine hK5 _ ?_
     refine Ah ?_
     try simp (disch:=(first | assumption | omega)) only [amL,sF,↓reduceIte]
     first
       | (unfold Beq; rw [if_neg (by assumption)]; done)
       | (unfold Beq; rw [if_pos (by omega),hb,show f2=true by assumption]; done)
       | (have hl2:b.vs.length≤(l2.map Bet).length:=by rw [List.length_map]; omega
          unfold Beq; rw [if_pos (by omega),hb,show f2=false by assumption,qA,Art,if_pos hl2,List.take_of_length_le (by rw [List.length_map]; omega)]; rfl)
       | trace_state
   |refine ME.mk ?_
    first
    |exact Bool.noConfusion h
    |skip
     try simp only [nrm] at h
     refine Ak ?_
     refine hK2 _ ?_
  all_goals
   skip
   refine Lm fun K6 hK6=>?_
   refine Ac ?_
   have hf0:B5 b=0:=by omega
   have hval:=Abs hf0
   have hnv:=hval.nv
   simp (disch:=(first | assumption | omega)) only [Bkw,Bl1,amL,amT,sA,sF,↓reduceIte,reduceCtorEq]
   refine hK6 _ ?_
   refine Lm fun K7 hK7=>?_
   refine Ac ?_
   simp (disch:=(first | assumption | omega)) only [amL,amT,sA,sF,↓reduceIte]
   refine hK7 _ ?_
   refine Ad8 fun K8 hK8=>?_
   refine Lm fun K9 hK9=>?_
   refine Ac ?_
   simp (disch:=(first | assumption | omega)) only [amL,amT,sA,sB,sF,sG,↓reduceIte]
   refine A1 [(5,.ptr 5 0),(6,.ptr 6 0)] (by decide) (Dp (b:=b) (bd:=67)) (Lx rfl) (by decide) (fun res os2 hR hcl2 hlv2=>?_)
   obtain ⟨rfl,rfl⟩:=hR
   simp (disch:=(first | assumption | omega)) only [amL,sB,sF,sG,↓reduceIte]
   refine A1 [(5,.ptr 5 0),(6,.ptr 6 0)] (by decide) (Blq (nw:=73) (bd:=80) rfl) (Lx rfl) (by decide) (fun res os2 hR hcl3 hlv3=>?_)
   obtain ⟨rfl,rfl⟩:=hR
   simp (disch:=(first | assumption | omega)) only [amL,sB,sF,↓reduceIte]
   refine hK9 _ ?_
   refine T6 ?_
   have hLk:∀ v ∈ Be8 b,OkV v:=Bf3 (P:=OkV) _ _ _ (fun x hx he=>(Amq hval (Bfh hx)).2 he)
   have hRd:=Bjs (L:=Be8 b) (n:=b.vs.length) (n5:=5) (n6:=6) (nA:=18) (bdL:=82) hnv hLk (by decide) (by decide) (by decide) hcode
   have hmem:∀ x ∈ Bea (Fz b) [],Bez b x=true→Bee b x ∈ Be8 b:=fun x hx he=>by
     rcases Bfv (b:=b) _ v0 true hx he with h | h
     · exact h
     · exact absurd h.1 (by decide)
   have hc:=Bk1 (b:=b) (F:=fun q=>(q=5∨q=6∨q=18)∨q=82) hRd.yields rfl hmem hval (fun q hq=>by
     simp only [AV.clean,bne_eq_false_iff_eq] at hq
     exact .inr hq.symm) (n1:=81) (nw:=73) (m:=71) (by decide) (by decide) (by decide) (s:=((List.replicate b.vs.length default,true),none)) (bd:=83) (os:=O [(82,.loop ⟨67,[22],A,B,.ready,none⟩ (tmB 5 6)),(81,.cells [.ptr 73 0]),(73,.cells [.p (slV b.vs),.p (slS b.ss),.mp 71]),(71,.obj (Gb 14 (Sl b.vs))),(6,.cells [bl true]),(6,.cells [bl false]),(5,.cells [.own 18 b.vs.length]),(5,.cells [C3]),(18,.arr 6 ((List.replicate b.vs.length default).map Bet)),(1,.cells (cB b))]) rfl ⟨rfl,rfl⟩ rfl ⟨⟨rfl,rfl,rfl,List.length_replicate⟩,rfl⟩
   cases (show some (_,_)=some (A,B) from hcode)
   refine Mg (bd:=82) (tm:=tmB 5 6) rfl (Lx rfl) (by decide) rfl (by kernel_rfl) (fun i=>Z1 (by simp (disch:=(first | assumption | omega)) only [amL,sF,↓reduceIte]) i) (Aw4 (by simp (disch:=(first | assumption | omega)) only [amL,sF,↓reduceIte])) hc (fun res os2 hR hcl2=>?_)
   obtain ⟨rfl,hI2,hfr2⟩:=hR
   rw [Bkl] at hI2
   generalize hb:Bh6 b.vs.length (List.replicate b.vs.length default,true) (Be8 b)=bb at hI2
   obtain ⟨l2,f2⟩:=bb
   obtain ⟨⟨q5,qA,q6,qn⟩,q7⟩:=hI2
   dsimp only at q5 qA q6 qn q7
   refine ⟨_,q7,by simp [],?_⟩
   show L1 0 _ .normal _
   simp only [Pd,Qt]
   refine hK8 _ ?_
   refine Lm fun K10 hK10=>?_
   refine Bd2 fun K11 hK11=>?_
   simp (disch:=(first | assumption | omega)) only [q6,Ad,amL,amT,sA,sF,↓reduceIte]
   refine hK11 _ ?_
   refine Aj rfl (fun h=>MT.x ?_) (fun h=>ME.x ?_)
   all_goals
    first
    |refine MT.mk ?_
     first
     |exact Bool.noConfusion h
     |skip
      try simp only [nrm] at h
      refine Bd2 fun K12 hK12=>?_
      simp (disch:=(first | assumption | omega)) only [amL,sA]
      refine hK12 _ ?_
      refine Ah ?_
      try simp (disch:=(first | assumption | omega)) only [amL,sF,↓reduceIte]
      first
        | (unfold Beq; rw [if_neg (by assumption)]; done)
        | (unfold Beq; rw [if_pos (by omega),hb,show f2=true by assumption]; done)
        | (have hl2:b.vs.length≤(l2.map Bet).length:=by rw [List.length_map]; omega
           unfold Beq; rw [if_pos (by omega),hb,show f2=false by assumption,qA,Art,if_pos hl2,List.take_of_length_le (by rw [List.length_map]; omega)]; rfl)
        | trace_state
    |refine ME.mk ?_
     first
     |exact Bool.noConfusion h
     |skip
      try simp only [nrm] at h
      refine Ak ?_
      refine hK10 _ ?_
   all_goals
    skip
    refine Lm fun K13 hK13=>?_
    refine Ac ?_
    simp (disch:=(first | assumption | omega)) only [q5,Ad,amL,amT,sA,sF,↓reduceIte]
    refine hK13 _ ?_
    refine Dz ?_
    refine Ah ?_
    try simp (disch:=(first | assumption | omega)) only [Ad,amL,sF,↓reduceIte]
    first
      | (unfold Beq; rw [if_neg (by assumption)]; done)
      | (unfold Beq; rw [if_pos (by omega),hb,show f2=true by assumption]; done)
      | (have hl2:b.vs.length≤(l2.map Bet).length:=by rw [List.length_map]; omega
         unfold Beq; rw [if_pos (by omega),hb,show f2=false by assumption,qA,Art,if_pos hl2,List.take_of_length_le (by rw [List.length_map]; omega)]; rfl)
      | trace_state
theorem Bjw (n lo hi:Int):Bt Tryz.prog 30 [i64 n,i64 lo,i64 hi] (bl (inB n lo hi)):=by
  refine Bn (v:=[]) (q:=[]) (N:=15) (rs:=[.tmp 6]) Tryz.func30 rfl rfl rfl rfl rfl ?_
  refine Bd2 fun K1 hK1=>?_
  simp (disch:=omega) only [amL,sA,sB]
  refine hK1 _ ?_
  refine Bd2 fun K2 hK2=>?_
  simp (disch:=omega) only [amL,amT,sA,sF,↓reduceIte,reduceCtorEq]
  repeat' first | (refine E0 (fun h=>?_) (fun h=>?_) <;> simp (disch:=omega) only [h,amL,amT,sA,sF,↓reduceIte,reduceCtorEq]) | (refine Cz (fun h=>?_) (fun h=>?_) <;> simp (disch:=omega) only [h,amL,amT,sA,sB,sC,sD,sE,sF,sG,sH,sI,sJ,sK,sL,sM,sN,sO,↓reduceIte,reduceCtorEq])
  all_goals
   skip
   refine hK2 _ ?_
   refine Ah ?_
   try simp (disch:=omega) only [amL,↓reduceIte]
   simp [inB,h]
theorem Blm {r:Rng} {most:Int}:Hx r most=(inB r.lo 0 r.hi&&(decide (r.hi≤most)&&decide (r.hi - r.lo≤2))):=by
  unfold Hx inB; rw [Bool.and_assoc]
theorem Bj6 (r:Rng) (most:Int) (hm:most < 1000000):Bt Tryz.prog 102 [avR r,i64 most] (bl (Hx r most)):=by
  refine Bn (v:=[]) (q:=[]) (N:=24) (rs:=[.tmp 4]) Tryz.func102 rfl rfl rfl rfl rfl ?_
  have hin:inB r.lo 0 r.hi=true→0≤r.lo∧r.lo≤r.hi:=fun h=>by simpa [inB] using h
  refine Bd2 fun K1 hK1=>?_
  simp (disch:=omega) only [amL,sA,sB,↓reduceIte]
  refine hK1 _ ?_
  refine Bd2 fun K2 hK2=>?_
  simp (disch:=omega) only [amL,amT,sA,sF,↓reduceIte,reduceCtorEq]
  repeat' first | (refine E0 (fun h=>?_) (fun h=>?_) <;> simp (disch:=omega) only [h,amL,amT,sA,sF,↓reduceIte,reduceCtorEq]) | (refine Cz (fun h=>?_) (fun h=>?_) <;> simp (disch:=omega) only [h,amL,amT,sA,sF,↓reduceIte,reduceCtorEq]) | (refine Aw (by kernel_rfl) rfl (Bjw _ _ _) (by first | exact .inl rfl | exact .inr (.inl rfl)) ?_ ; simp (disch:=omega) only [amL,sA,↓reduceIte]) | (have hin2:=hin (by assumption); simp (disch:=omega) only [amL])
  all_goals
   skip
   refine hK2 _ ?_
   refine Ah ?_
   try simp (disch:=omega) only [amL,↓reduceIte]
   all_goals (simp_all [Blm] <;> omega)
theorem Bio {n:Int} {s:Stp}:F7 n s=(inB s.kind 0 2&&(inB s.frm 0 (n - 1)&&(inB s.to 0 (n - 1)&&(Hx s.g 60&&(decide (s.frm=s.to) == !decide (s.kind=0)))))):=by
  unfold F7; rw [Bool.and_comm (Hx s.g 60)]
theorem Blr (s:Stp) (n:Nat) (hn:n < 1000000):Bt Tryz.prog 90 [avS s,i64 (n:Int)] (bl (F7 n s)):=by
  refine Bn (v:=[]) (q:=[]) (N:=44) (rs:=[.tmp 4]) Tryz.func90 rfl rfl rfl rfl rfl ?_
  refine Bd2 fun K1 hK1=>?_
  simp (disch:=omega) only [amL,sA,sB,↓reduceIte]
  refine hK1 _ ?_
  refine Aa fun K2 hK2=>?_
  refine Bd2 fun K3 hK3=>?_
  simp (disch:=omega) only [amL,amT,sA,sF,↓reduceIte,reduceCtorEq]
  repeat' first | (refine E0 (fun h=>?_) (fun h=>?_) <;> simp (disch:=omega) only [h,amL,amT,sA,sB,sC,sD,sE,sF,sG,sH,sI,sJ,sK,sL,sM,sN,sO,↓reduceIte,reduceCtorEq]) | (refine Cz (fun h=>?_) (fun h=>?_) <;> simp (disch:=omega) only [h,amL,amT,sA,sB,sF,↓reduceIte,reduceCtorEq]) | (refine Aw (by kernel_rfl) rfl (Bjw _ _ _) (by first | exact .inl rfl | exact .inr (.inl rfl)) ?_ ; simp (disch:=omega) only [amL,sA,sF,↓reduceIte]) | (refine Aw (by kernel_rfl) rfl (Bj6 ⟨_,_⟩ _ (by omega)) (by first | exact .inl rfl | exact .inr (.inl rfl)) ?_ ; simp (disch:=omega) only [amL,sA,sF,↓reduceIte])
  all_goals
   skip
   refine hK3 _ ?_
   refine Aj rfl (fun h=>MT.x ?_) (fun h=>ME.x ?_)
   all_goals
    first
    |refine MT.mk ?_
     first
     |exact Bool.noConfusion h
     |skip
      try simp only [nrm] at h
      refine Bd2 fun K4 hK4=>?_
      simp (disch:=omega) only [amL,sA]
      refine hK4 _ ?_
      refine Ah ?_
      try simp (disch:=omega) only [amL,↓reduceIte]
      all_goals simp_all [Bio]
    |refine ME.mk ?_
     first
     |exact Bool.noConfusion h
     |skip
      try simp only [nrm] at h
      refine Ak ?_
      refine hK2 _ ?_
   all_goals
    skip
    refine Aa fun K5 hK5=>?_
    refine Bd2 fun K6 hK6=>?_
    simp (disch:=omega) only [amL,amT,sA,sF,↓reduceIte,reduceCtorEq]
    refine hK6 _ ?_
    refine Aj rfl (fun h=>MT.x ?_) (fun h=>ME.x ?_)
    all_goals
     first
     |refine MT.mk ?_
      first
      |exact Bool.noConfusion h
      |skip
       try simp only [nrm] at h
       refine Bd2 fun K7 hK7=>?_
       simp (disch:=omega) only [amL,amT,sA,sF,↓reduceIte,reduceCtorEq]
       refine hK7 _ ?_
       refine Ah ?_
       try simp (disch:=omega) only [amL,↓reduceIte]
       all_goals simp_all [Bio]
     |refine ME.mk ?_
      first
      |exact Bool.noConfusion h
      |skip
       try simp only [nrm] at h
       refine Ak ?_
       refine hK5 _ ?_
    all_goals
     skip
     refine Bd2 fun K8 hK8=>?_
     simp (disch:=omega) only [amL,amT,sA,sF,↓reduceIte,reduceCtorEq]
     refine hK8 _ ?_
     refine Ah ?_
     try simp (disch:=omega) only [amL,↓reduceIte]
     all_goals simp_all [Bio]
theorem Bd9 (r:Rng) (h1:-9223372036854775808≤r.hi - r.lo) (h2:r.hi - r.lo < 9223372036854775807):Bt Tryz.prog 89 [avR r] (i64 (Fa r)):=by
  refine Bn (v:=[]) (q:=[]) (N:=9) (rs:=[.tmp 2]) Tryz.func89 rfl rfl rfl rfl rfl ?_
  refine Bd2 fun K1 hK1=>?_
  simp (disch:=omega) only [amL,sA,↓reduceIte]
  refine hK1 _ ?_
  refine Bd2 fun K2 hK2=>?_
  simp (disch:=omega) only [amL,amT,sA,sF,↓reduceIte,reduceCtorEq]
  refine hK2 _ ?_
  refine Ah ?_
  try simp (disch:=omega) only [amL,↓reduceIte]
  rfl
theorem Bgs {p s:Int} (h1:1≤p) (h2:p≤4782969) (h3:1≤s) (h4:s≤9):-9223372036854775808≤p * s∧p * s < 9223372036854775808:=by
  have e1:=Int.mul_le_mul h2 h4 (by omega) (by omega)
  have e2:=Int.mul_nonneg (show 0≤p by omega) (show 0≤s by omega)
  omega
theorem Bkf {p s:Int} (h1:1≤p) (h2:p≤3) (h3:1≤s) (h4:s≤3):1≤p * s∧p * s≤9:=by
  have e1:=Int.mul_le_mul h2 h4 (by omega) (by omega)
  have e2:=Int.mul_le_mul h1 h3 (by omega) (by omega)
  omega
theorem Bgi (b:Ee) (hv:N6 b):Bt Tryz.prog 45 [avB b] (i64 (Bel b)):=by
  refine Bn (v:=[]) (q:=[]) (N:=47) (rs:=[.tmp 2]) Tryz.func45 rfl rfl rfl rfl rfl ?_
  have hnv:=hv.nv
  have hns:=hv.ns
  refine Bd2 fun K1 hK1=>?_
  simp (disch:=omega) only [amL,sA,↓reduceIte]
  refine hK1 _ ?_
  refine Bd2 fun K2 hK2=>?_
  simp (disch:=omega) only [amL,sA]
  refine hK2 _ ?_
  refine Aa fun K3 hK3=>?_
  refine Bd2 fun K4 hK4=>?_
  simp (disch:=omega) only [amL,sA]
  refine hK4 _ ?_
  refine Ap ?_
  skip
  refine Be (α:=Nat) (fun k=>⟨T [(1,.ptr 1 0),(3,i64 (Mb (Be6 (b.vs.take k)) 1)),(4,i64 (k:Int))],O [(1,.cells (cB b))]⟩) (fun k=>b.vs.length - k) (fun k=>k≤b.vs.length) 0 ?_ ?_ (fun k hx5 K5 hK5=>?_)
  · exact Nat.zero_le _
  · refine De ?_ ?_ ?_ ?_ <;> (try simp (disch:=omega) only [amL,sF,↓reduceIte]); all_goals rfl
  have hk:=hx5
  refine Aa fun K6 hK6=>?_
  refine Bd2 fun K7 hK7=>?_
  simp (disch:=omega) only [amL,amT,sA,sF,↓reduceIte,reduceCtorEq]
  refine hK7 _ ?_
  refine Aj rfl (fun h=>MT.x ?_) (fun h=>ME.x ?_)
  all_goals
   first
   |refine MT.mk ?_
    first
    |exact Bool.noConfusion h
    |skip
     try simp only [nrm] at h
     refine Ak ?_
     refine hK6 _ ?_
   |refine ME.mk ?_
    first
    |exact Bool.noConfusion h
    |skip
     try simp only [nrm] at h
     refine Bo ?_
     refine hK3 _ ?_
     refine Aa fun K8 hK8=>?_
     refine Bd2 fun K9 hK9=>?_
     simp (disch:=omega) only [amL,sA]
     refine hK9 _ ?_
     refine Ap ?_
     skip
     refine Be (α:=Nat) (fun k=>⟨T [(1,.ptr 1 0),(3,i64 (Mb (Be6 b.vs++(b.ss.take k).map (·.g)) 1)),(5,i64 (k:Int))],O [(1,.cells (cB b))]⟩) (fun k=>b.ss.length - k) (fun k=>k≤b.ss.length) 0 ?_ ?_ (fun k hx10 K10 hK10=>?_)
     · exact Nat.zero_le _
     · refine De ?_ ?_ ?_ ?_ <;> (try simp (disch:=omega) only [amL,sF,↓reduceIte]); all_goals first | rfl | (rw [List.take_of_length_le (by omega)]; done) | (rw [List.take_of_length_le (by omega),List.take_zero,List.map_nil,List.append_nil]; done) | trace_state
     have hk:=hx10
     refine Aa fun K11 hK11=>?_
     refine Bd2 fun K12 hK12=>?_
     simp (disch:=omega) only [amL,amT,sA,sF,↓reduceIte,reduceCtorEq]
     refine hK12 _ ?_
     refine Aj rfl (fun h=>MT.x ?_) (fun h=>ME.x ?_)
     all_goals
      first
      |refine MT.mk ?_
       first
       |exact Bool.noConfusion h
       |skip
        try simp only [nrm] at h
        refine Ak ?_
        refine hK11 _ ?_
      |refine ME.mk ?_
       first
       |exact Bool.noConfusion h
       |skip
        try simp only [nrm] at h
        refine Bo ?_
        refine hK8 _ ?_
        refine Bd2 fun K13 hK13=>?_
        simp (disch:=omega) only [amL,sA,sF,↓reduceIte]
        refine hK13 _ ?_
        refine Ah ?_
        try simp (disch:=omega) only [amL,↓reduceIte]
        rw [List.take_of_length_le (by omega)]; rfl
     all_goals
      skip
      refine Aa fun K14 hK14=>?_
      refine Ap ?_
      refine Ac ?_
      have hk2:k < b.ss.length:=by omega
      have hp1:=(Fy (hv.stp hk2)).2.2.2.2
      have z1:=P4 hp1
      have hb0:=Bf0 hv k
      have hms:=Bgs hb0.1 hb0.2 z1.1 (by omega)
      have hw:IntKind.i64.wrap (Mb (Be6 b.vs++(b.ss.take k).map (·.g)) 1 * Fa (b.ss.getD k default).g)=_:=Fc hms.1 hms.2
      have y1:=C8 hp1
      simp (disch:=omega) only [Xh,amL,amT,sA,sB,sF,↓reduceIte,reduceCtorEq]
      repeat' first | (refine Aw (by kernel_rfl) rfl (by first | exact Bd9 (b.vs.getD k default).g (by omega) (by omega) | exact Bd9 (b.vs.getD k default).d (by omega) (by omega) | exact Bd9 (b.ss.getD k default).g (by omega) (by omega)) (by first | exact .inl rfl | exact .inr (.inl rfl)) ?_ ; simp (disch:=omega) only [hw,amL,amT,sA,sF,↓reduceIte])
      refine hK14 _ ?_
      refine Ac ?_
      simp (disch:=omega) only [amL,amT,sA,sF,↓reduceIte]
      refine hK10 (k+1) _ ?_ ?_ (De ?_ ?_ ?_ ?_)
      all_goals (try simp (disch:=omega) only [amL,sF,↓reduceIte])
      all_goals first | omega | (rw [Bey,Bey,Bim (by omega)]) | trace_state
  all_goals
   skip
   refine Aa fun K15 hK15=>?_
   refine Ap ?_
   refine Ce (by kernel_rfl) (by kernel_rfl) ?_
   have hk2:k < b.vs.length:=by omega
   obtain ⟨hp1,hp2,_⟩:=C9 (hv.ves hk2)
   have z1:=P4 hp1
   have z2:=P4 hp2
   have hm9:=Bkf z1.1 z1.2 z2.1 z2.2
   have hb0:=Bi6 hv.v hnv k
   have hms:=Bgs hb0.1 hb0.2 hm9.1 hm9.2
   have hw0:IntKind.i64.wrap (Fa (b.vs.getD k default).g * Fa (b.vs.getD k default).d)=_:=Fc (by omega) (by omega)
   have hw:IntKind.i64.wrap (Mb (Be6 (b.vs.take k)) 1 * (Fa (b.vs.getD k default).g * Fa (b.vs.getD k default).d))=_:=Fc hms.1 hms.2
   have y1:=C8 hp1
   have y2:=C8 hp2
   simp (disch:=omega) only [Di,amL,amT,sA,sB,sE,sF,↓reduceIte,reduceCtorEq]
   repeat' first | (refine Aw (by kernel_rfl) rfl (by first | exact Bd9 (b.vs.getD k default).g (by omega) (by omega) | exact Bd9 (b.vs.getD k default).d (by omega) (by omega) | exact Bd9 (b.ss.getD k default).g (by omega) (by omega)) (by first | exact .inl rfl | exact .inr (.inl rfl)) ?_ ; simp (disch:=omega) only [hw0,hw,Di,amL,amT,sA,sB,sE,sF,↓reduceIte,reduceCtorEq])
   refine hK15 _ ?_
   refine Ac ?_
   simp (disch:=omega) only [amL,amT,sA,sF,↓reduceIte]
   refine hK5 (k+1) _ ?_ ?_ (De ?_ ?_ ?_ ?_)
   all_goals (try simp (disch:=omega) only [amL,sF,↓reduceIte])
   all_goals first | omega | (rw [Bjy (by omega)]) | trace_state
theorem Bhw (b:Ee) (h1:b.vs.length < 1000000) (h2:b.ss.length < 1000000):Bt Tryz.prog 64 [avB b] (i64 (B5 b)):=by
  refine Bn (v:=[]) (q:=[]) (N:=68) (rs:=[.tmp 2]) Tryz.func64 rfl rfl rfl rfl rfl ?_
  refine Bd2 fun K1 hK1=>?_
  simp (disch:=omega) only [amL,sA,↓reduceIte]
  refine hK1 _ ?_
  refine Aa fun K2 hK2=>?_
  refine Bd2 fun K3 hK3=>?_
  simp (disch:=omega) only [amL,amT,sA,sF,↓reduceIte,reduceCtorEq]
  repeat' first | (refine E0 (fun h=>?_) (fun h=>?_) <;> simp (disch:=omega) only [h,amL,amT,sA,sF,↓reduceIte,reduceCtorEq]) | (refine Cz (fun h=>?_) (fun h=>?_) <;> simp (disch:=omega) only [h,Di,Xh,amL,amT,sA,sB,sC,sD,sE,sF,sG,sH,sI,sJ,sK,sL,sM,sN,sO,↓reduceIte,reduceCtorEq])
  all_goals
   skip
   refine hK3 _ ?_
   refine Aj rfl (fun h=>MT.x ?_) (fun h=>ME.x ?_)
   all_goals
    first
    |refine MT.mk ?_
     first
     |exact Bool.noConfusion h
     |skip
      try simp only [nrm] at h
      refine Bd2 fun K4 hK4=>?_
      simp (disch:=omega) only [amL,sA]
      refine hK4 _ ?_
      refine Ah ?_
      try simp (disch:=omega) only [amL,↓reduceIte]
      all_goals first | (rw [Bgb (by omega)]; done) | (rw [Bep (by omega) (.inl (by omega))]; done) | (rw [Bep (by omega) (.inr (.inl (Bei (d:=default) (k:=k) (by omega) (by simp_all [Eu]))))]; done) | (rw [Bep (by omega) (.inr (.inr (Bei (d:=default) (k:=k2) (by omega) (by simpa using h))))]; done) | (rw [Ben (by omega) (by omega) (by omega) hva hsa,if_pos h]; done) | (rw [Ben (by omega) (by omega) (by omega) hva hsa,if_neg h]; done) | trace_state
    |refine ME.mk ?_
     first
     |exact Bool.noConfusion h
     |skip
      try simp only [nrm] at h
      refine Ak ?_
      refine hK2 _ ?_
   all_goals
    skip
    refine Aa fun K5 hK5=>?_
    refine Bd2 fun K6 hK6=>?_
    simp (disch:=omega) only [amL,amT,sA,sF,↓reduceIte,reduceCtorEq]
    refine hK6 _ ?_
    refine Aj rfl (fun h=>MT.x ?_) (fun h=>ME.x ?_)
    all_goals
     first
     |refine MT.mk ?_
      first
      |exact Bool.noConfusion h
      |skip
       try simp only [nrm] at h
       refine Bd2 fun K7 hK7=>?_
       simp (disch:=omega) only [amL,sA]
       refine hK7 _ ?_
       refine Ah ?_
       try simp (disch:=omega) only [amL,↓reduceIte]
       all_goals first | (rw [Bgb (by omega)]; done) | (rw [Bep (by omega) (.inl (by omega))]; done) | (rw [Bep (by omega) (.inr (.inl (Bei (d:=default) (k:=k) (by omega) (by simp_all [Eu]))))]; done) | (rw [Bep (by omega) (.inr (.inr (Bei (d:=default) (k:=k2) (by omega) (by simpa using h))))]; done) | (rw [Ben (by omega) (by omega) (by omega) hva hsa,if_pos h]; done) | (rw [Ben (by omega) (by omega) (by omega) hva hsa,if_neg h]; done) | trace_state
     |refine ME.mk ?_
      first
      |exact Bool.noConfusion h
      |skip
       try simp only [nrm] at h
       refine Ak ?_
       refine hK5 _ ?_
    all_goals
     skip
     refine Aa fun K8 hK8=>?_
     refine Bd2 fun K9 hK9=>?_
     simp (disch:=omega) only [amL,sA]
     refine hK9 _ ?_
     refine Ap ?_
     skip
     refine Be (α:=Nat) (fun k=>⟨T [(1,.ptr 1 0),(3,i64 (k:Int))],O [(1,.cells (cB b))]⟩) (fun k=>b.vs.length - k) (fun k=>k≤b.vs.length∧(b.vs.take k).all Eu=true) 0 ?_ ?_ (fun k hx10 K10 hK10=>?_)
     · exact ⟨Nat.zero_le _,rfl⟩
     · refine De ?_ ?_ ?_ ?_ <;> (try simp (disch:=omega) only [amL,sF,↓reduceIte]); all_goals rfl
     obtain ⟨hk,hpre⟩:=hx10
     refine Aa fun K11 hK11=>?_
     refine Bd2 fun K12 hK12=>?_
     simp (disch:=omega) only [amL,amT,sA,sF,↓reduceIte,reduceCtorEq]
     refine hK12 _ ?_
     refine Aj rfl (fun h=>MT.x ?_) (fun h=>ME.x ?_)
     all_goals
      first
      |refine MT.mk ?_
       first
       |exact Bool.noConfusion h
       |skip
        try simp only [nrm] at h
        refine Ak ?_
        refine hK11 _ ?_
      |refine ME.mk ?_
       first
       |exact Bool.noConfusion h
       |skip
        try simp only [nrm] at h
        refine Bo ?_
        refine hK8 _ ?_
        refine Aa fun K13 hK13=>?_
        refine Bd2 fun K14 hK14=>?_
        simp (disch:=omega) only [amL,sA]
        refine hK14 _ ?_
        refine Ap ?_
        have hva:b.vs.all Eu=true:=Bhi (by omega) hpre
        refine Be (α:=Nat) (fun k2=>⟨T [(1,.ptr 1 0),(5,i64 (k2:Int))],O [(1,.cells (cB b))]⟩) (fun k2=>b.ss.length - k2) (fun k2=>k2≤b.ss.length∧(b.ss.take k2).all (F7 b.vs.length)=true) 0 ?_ ?_ (fun k2 hx15 K15 hK15=>?_)
        · exact ⟨Nat.zero_le _,rfl⟩
        · refine De ?_ ?_ ?_ ?_ <;> (try simp (disch:=omega) only [amL,sF,↓reduceIte]); all_goals rfl
        obtain ⟨hk2,hpre2⟩:=hx15
        refine Aa fun K16 hK16=>?_
        refine Bd2 fun K17 hK17=>?_
        simp (disch:=omega) only [amL,amT,sA,sF,↓reduceIte,reduceCtorEq]
        refine hK17 _ ?_
        refine Aj rfl (fun h=>MT.x ?_) (fun h=>ME.x ?_)
        all_goals
         first
         |refine MT.mk ?_
          first
          |exact Bool.noConfusion h
          |skip
           try simp only [nrm] at h
           refine Ak ?_
           refine hK16 _ ?_
         |refine ME.mk ?_
          first
          |exact Bool.noConfusion h
          |skip
           try simp only [nrm] at h
           refine Bo ?_
           refine hK13 _ ?_
           refine Aa fun K18 hK18=>?_
           refine Bd2 fun K19 hK19=>?_
           have hsa:b.ss.all (F7 b.vs.length)=true:=Bhi (by omega) hpre2
           simp (disch:=omega) only [amL,amT,sA,sB,sF,↓reduceIte]
           repeat' first | (refine Aw (by kernel_rfl) rfl (Bgi b ⟨by omega,by omega,hva,hsa⟩) (by first | exact .inl rfl | exact .inr (.inl rfl)) ?_ ; simp (disch:=omega) only [amL,amT,↓reduceIte])
           refine hK19 _ ?_
           refine Aj rfl (fun h=>MT.x ?_) (fun h=>ME.x ?_)
           all_goals
            first
            |refine MT.mk ?_
             first
             |exact Bool.noConfusion h
             |skip
              try simp only [nrm] at h
              refine Bd2 fun K20 hK20=>?_
              simp (disch:=omega) only [amL,sA]
              refine hK20 _ ?_
              refine Ah ?_
              try simp (disch:=omega) only [amL,↓reduceIte]
              all_goals first | (rw [Bgb (by omega)]; done) | (rw [Bep (by omega) (.inl (by omega))]; done) | (rw [Bep (by omega) (.inr (.inl (Bei (d:=default) (k:=k) (by omega) (by simp_all [Eu]))))]; done) | (rw [Bep (by omega) (.inr (.inr (Bei (d:=default) (k:=k2) (by omega) (by simpa using h))))]; done) | (rw [Ben (by omega) (by omega) (by omega) hva hsa,if_pos h]; done) | (rw [Ben (by omega) (by omega) (by omega) hva hsa,if_neg h]; done) | trace_state
            |refine ME.mk ?_
             first
             |exact Bool.noConfusion h
             |skip
              try simp only [nrm] at h
              refine Ak ?_
              refine hK18 _ ?_
           all_goals
            skip
            refine Bd2 fun K21 hK21=>?_
            simp (disch:=omega) only [amL,sA]
            refine hK21 _ ?_
            refine Ah ?_
            try simp (disch:=omega) only [amL,↓reduceIte]
            all_goals first | (rw [Bgb (by omega)]; done) | (rw [Bep (by omega) (.inl (by omega))]; done) | (rw [Bep (by omega) (.inr (.inl (Bei (d:=default) (k:=k) (by omega) (by simp_all [Eu]))))]; done) | (rw [Bep (by omega) (.inr (.inr (Bei (d:=default) (k:=k2) (by omega) (by simpa using h))))]; done) | (rw [Ben (by omega) (by omega) (by omega) hva hsa,if_pos h]; done) | (rw [Ben (by omega) (by omega) (by omega) hva hsa,if_neg h]; done) | trace_state
        all_goals
         skip
         refine Aa fun K22 hK22=>?_
         refine Ap ?_
         refine Aa fun K23 hK23=>?_
         refine Ce (by kernel_rfl) (by kernel_rfl) ?_
         simp (disch:=omega) only [Xh,amL,amT,sA,sB,sF,↓reduceIte,reduceCtorEq]
         repeat' first | (refine Aw (by kernel_rfl) rfl (Blr (b.ss.getD k2 default) b.vs.length h1) (by first | exact .inl rfl | exact .inr (.inl rfl)) ?_ ; simp (disch:=omega) only [amL,sA,↓reduceIte])
         refine hK23 _ ?_
         refine Aj rfl (fun h=>MT.x ?_) (fun h=>ME.x ?_)
         all_goals
          first
          |refine MT.mk ?_
           first
           |exact Bool.noConfusion h
           |skip
            try simp only [nrm] at h
            refine Bd2 fun K24 hK24=>?_
            simp (disch:=omega) only [amL,sA]
            refine hK24 _ ?_
            refine Ah ?_
            try simp (disch:=omega) only [amL,↓reduceIte]
            all_goals first | (rw [Bgb (by omega)]; done) | (rw [Bep (by omega) (.inl (by omega))]; done) | (rw [Bep (by omega) (.inr (.inl (Bei (d:=default) (k:=k) (by omega) (by simp_all [Eu]))))]; done) | (rw [Bep (by omega) (.inr (.inr (Bei (d:=default) (k:=k2) (by omega) (by simpa using h))))]; done) | (rw [Ben (by omega) (by omega) (by omega) hva hsa,if_pos h]; done) | (rw [Ben (by omega) (by omega) (by omega) hva hsa,if_neg h]; done) | trace_state
          |refine ME.mk ?_
           first
           |exact Bool.noConfusion h
           |skip
            try simp only [nrm] at h
            refine Ak ?_
            refine hK22 _ ?_
         all_goals
          skip
          refine Ac ?_
          simp (disch:=omega) only [amL,amT,sA,sF,↓reduceIte]
          refine hK15 (k2+1) _ ?_ ?_ (De ?_ ?_ ?_ ?_)
          all_goals (try simp (disch:=omega) only [amL,sF,↓reduceIte])
          all_goals first | omega | exact ⟨by omega,Bg8 (d:=default) (by omega) hpre2 (by simpa using h)⟩ | trace_state
     all_goals
      skip
      refine Aa fun K25 hK25=>?_
      refine Ap ?_
      refine Bd2 fun K26 hK26=>?_
      simp (disch:=omega) only [Di,amL,amT,sA,sB,sF,↓reduceIte,reduceCtorEq]
      refine hK26 _ ?_
      refine Bd2 fun K27 hK27=>?_
      simp (disch:=omega) only [amL,amT,sA,sB,sE,↓reduceIte,reduceCtorEq]
      repeat' first | (refine E0 (fun h=>?_) (fun h=>?_) <;> simp (disch:=omega) only [h,Di,Xh,amL,amT,sA,sB,sC,sD,sE,sF,sG,sH,sI,sJ,sK,sL,sM,sN,sO,↓reduceIte,reduceCtorEq]) | (refine Cz (fun h=>?_) (fun h=>?_) <;> simp (disch:=omega) only [h,amL,amT,sA,sB,sE,sF,↓reduceIte,reduceCtorEq]) | (refine Aw (by kernel_rfl) rfl (Bj6 ⟨_,_⟩ _ (by omega)) (by first | exact .inl rfl | exact .inr (.inl rfl)) ?_ ; simp (disch:=omega) only [amL,sA,sF,↓reduceIte]) | (refine Aw (by kernel_rfl) rfl (Bjw _ _ _) (by first | exact .inl rfl | exact .inr (.inl rfl)) ?_ ; simp (disch:=omega) only [amL,sA,sF,↓reduceIte])
      all_goals
       skip
       refine hK27 _ ?_
       refine Aj rfl (fun h=>MT.x ?_) (fun h=>ME.x ?_)
       all_goals
        first
        |refine MT.mk ?_
         first
         |exact Bool.noConfusion h
         |skip
          try simp only [nrm] at h
          refine Bd2 fun K28 hK28=>?_
          simp (disch:=omega) only [amL,sA]
          refine hK28 _ ?_
          refine Ah ?_
          try simp (disch:=omega) only [amL,↓reduceIte]
          all_goals first | (rw [Bgb (by omega)]; done) | (rw [Bep (by omega) (.inl (by omega))]; done) | (rw [Bep (by omega) (.inr (.inl (Bei (d:=default) (k:=k) (by omega) (by simp_all [Eu]))))]; done) | (rw [Bep (by omega) (.inr (.inr (Bei (d:=default) (k:=k2) (by omega) (by simpa using h))))]; done) | (rw [Ben (by omega) (by omega) (by omega) hva hsa,if_pos h]; done) | (rw [Ben (by omega) (by omega) (by omega) hva hsa,if_neg h]; done) | trace_state
        |refine ME.mk ?_
         first
         |exact Bool.noConfusion h
         |skip
          try simp only [nrm] at h
          refine Ak ?_
          refine hK25 _ ?_
       all_goals
        skip
        refine Ac ?_
        simp (disch:=omega) only [amL,amT,sA,sF,↓reduceIte]
        refine hK10 (k+1) _ ?_ ?_ (De ?_ ?_ ?_ ?_)
        all_goals (try simp (disch:=omega) only [amL,sF,↓reduceIte])
        all_goals first | omega | exact ⟨by omega,Bg8 (d:=default) (by omega) hpre (by simp_all [Eu])⟩ | trace_state
theorem Bla (r:Rng):Bt Tryz.prog 27 [avR r] (avR r):=by
  refine Bn (v:=[]) (q:=[]) (N:=8) (rs:=[.cell 2 58]) Tryz.func27 rfl rfl rfl rfl rfl ?_
  refine Bd2 fun K1 hK1=>?_
  simp (disch:=omega) only [amL,amT,sA,sB,sF,↓reduceIte]
  refine hK1 _ ?_
  refine Bd2 fun K2 hK2=>?_
  simp (disch:=omega) only [amL,amT,sA,sB,sE,sF,↓reduceIte,reduceCtorEq]
  refine hK2 _ ?_
  refine Ah ?_
  try simp (disch:=omega) only [amL,amT,sB,sF,↓reduceIte]
  all_goals rfl
theorem Bjn (l:List Int):((l.map fun n=>[iv n]).all fun c=>decide (c.length=1))=true:=by simp
theorem Bhq (l:List Int) (hl:l.length < 1000000):Bt Tryz.prog 63 [isl l] (isl l):=by
  refine Bn (v:=[]) (q:=[]) (N:=6) (rs:=[.tmp 2]) Tryz.func63 rfl rfl rfl rfl rfl ?_
  refine Bd2 fun K1 hK1=>?_
  simp (disch:=omega) only [amL,sA]
  refine hK1 _ ?_
  refine Bd2 fun K2 hK2=>?_
  simp (disch:=omega) only [Bjn,amL,amT,sA,sF,↓reduceIte,reduceCtorEq]
  refine hK2 _ ?_
  refine Ah ?_
  try simp (disch:=omega) only [amL,↓reduceIte]
  rw [show l.length=(l.map fun n=>[iv n]).length by simp,List.take_length]
theorem Bjt (l:List Stp) (hl:l.length < 1000000):Bt Tryz.prog 36 [.p (slS l)] (.p (slS l)):=by
  refine Bn (v:=[]) (q:=[]) (N:=37) (rs:=[.tmp 2]) Tryz.func36 rfl rfl rfl rfl rfl ?_
  refine Bd2 fun K1 hK1=>?_
  simp (disch:=omega) only [amL,sA]
  refine hK1 _ ?_
  refine Bd2 fun K2 hK2=>?_
  simp (disch:=omega) only [amL,sA]
  refine hK2 _ ?_
  refine Aa fun K3 hK3=>?_
  refine Bd2 fun K4 hK4=>?_
  simp (disch:=omega) only [amL,sA]
  refine hK4 _ ?_
  refine Ap ?_
  refine Po 35 5 3 (by decide) rfl rfl ?_
  refine Be (α:=Nat) (fun k=>⟨T [(0,.p (slS l)),(3,.own 35 k),(4,i64 (k:Int))],O [(35,.arr 5 ((l.take k).map Qa))]⟩) (fun k=>l.length - k) (fun k=>k≤l.length) 0 ?_ ?_ (fun k hx5 K5 hK5=>?_)
  · exact Nat.zero_le _
  · refine De ?_ ?_ ?_ ?_ <;> (try simp (disch:=omega) only [amL,sF,↓reduceIte,reduceCtorEq]); all_goals first | rfl | trace_state
  have hk:=hx5
  refine Aa fun K6 hK6=>?_
  refine Bd2 fun K7 hK7=>?_
  simp (disch:=omega) only [amL,amT,sA,sF,↓reduceIte,reduceCtorEq]
  refine hK7 _ ?_
  refine Aj rfl (fun h=>MT.x ?_) (fun h=>ME.x ?_)
  all_goals
   first
   |refine MT.mk ?_
    first
    |exact Bool.noConfusion h
    |skip
     try simp only [nrm] at h
     refine Ak ?_
     refine hK6 _ ?_
   |refine ME.mk ?_
    first
    |exact Bool.noConfusion h
    |skip
     try simp only [nrm] at h
     refine Bo ?_
     refine hK3 _ ?_
     refine Bd2 fun K8 hK8=>?_
     simp (disch:=omega) only [amL,sA,sF,↓reduceIte,reduceCtorEq]
     refine hK8 _ ?_
     refine Ah ?_
     try simp (disch:=omega) only [amL,↓reduceIte]
     rw [List.take_of_length_le (by simp; omega),List.take_of_length_le (by omega)]
  all_goals
   skip
   refine Aa fun K9 hK9=>?_
   refine Ap ?_
   refine Ce (by kernel_rfl) (by kernel_rfl) ?_
   simp (disch:=omega) only [Xh,amL,amT,sA,sB,sF,↓reduceIte,reduceCtorEq]
   repeat' first | (refine Aw (by kernel_rfl) rfl (Bla ⟨_,_⟩) (by first | exact .inl rfl | exact .inr (.inl rfl)) ?_ ; simp (disch:=omega) only [amL,amT,sA,sB,sC,sE,sF,↓reduceIte,reduceCtorEq])
   refine hK9 _ ?_
   refine Ac ?_
   simp (disch:=omega) only [amL,amT,sA,sF,↓reduceIte,reduceCtorEq]
   refine hK5 (k+1) _ ?_ ?_ (De ?_ ?_ ?_ ?_)
   all_goals (try simp (disch:=omega) only [amL,sF,↓reduceIte,reduceCtorEq])
   all_goals first | omega | exact (congrArg (AO.arr 5) (Ab6 default (by omega))).symm | trace_state
theorem Bkr (b:Ee) (h1:b.vs.length < 1000000) (h2:b.ss.length < 1000000):Bt Tryz.prog 16 [avB b] (avB b):=by
  refine Bn (v:=[]) (q:=[]) (N:=37) (rs:=[.cell 2 38]) Tryz.func16 rfl rfl rfl rfl rfl ?_
  refine Bd2 fun K1 hK1=>?_
  simp (disch:=omega) only [amL,amT,sA,sB,sF,↓reduceIte]
  refine hK1 _ ?_
  refine Bd2 fun K2 hK2=>?_
  simp (disch:=omega) only [amL,amT,sA,sB,sF,↓reduceIte]
  refine hK2 _ ?_
  refine Aa fun K3 hK3=>?_
  refine Bd2 fun K4 hK4=>?_
  simp (disch:=omega) only [amL,sA]
  refine hK4 _ ?_
  refine Ap ?_
  refine Be9 30 5 3 0 (by decide) rfl rfl rfl ?_
  refine Be (α:=Nat) (fun k=>⟨T [(1,.ptr 1 0),(2,.ptr 2 0),(3,.ptr 3 0),(4,i64 (k:Int))],O [(1,.cells (cB b)),(2,.cells [C3,C3]),(3,.cells [.own 30 k,C3]),(30,.arr 5 ((b.vs.take k).map Aga))]⟩) (fun k=>b.vs.length - k) (fun k=>k≤b.vs.length) 0 ?_ ?_ (fun k hx5 K5 hK5=>?_)
  · exact Nat.zero_le _
  · refine De ?_ ?_ ?_ ?_ <;> (try simp (disch:=omega) only [amL,sF,sG,↓reduceIte]); all_goals first | rfl | trace_state
  have hk:=hx5
  refine Aa fun K6 hK6=>?_
  refine Bd2 fun K7 hK7=>?_
  simp (disch:=omega) only [amL,amT,sA,sF,↓reduceIte,reduceCtorEq]
  refine hK7 _ ?_
  refine Aj rfl (fun h=>MT.x ?_) (fun h=>ME.x ?_)
  all_goals
   first
   |refine MT.mk ?_
    first
    |exact Bool.noConfusion h
    |skip
     try simp only [nrm] at h
     refine Ak ?_
     refine hK6 _ ?_
   |refine ME.mk ?_
    first
    |exact Bool.noConfusion h
    |skip
     try simp only [nrm] at h
     refine Bo ?_
     refine hK3 _ ?_
     refine Bd2 fun K8 hK8=>?_
     simp (disch:=omega) only [amL,amT,sA,sF,↓reduceIte,reduceCtorEq]
     repeat' first | (refine Aw (by kernel_rfl) rfl (Bjt b.ss h2) (by first | exact .inl rfl | exact .inr (.inl rfl)) ?_ ; simp (disch:=omega) only [amL,amT,sA,sB,sF,↓reduceIte,reduceCtorEq])
     refine hK8 _ ?_
     refine Bd2 fun K9 hK9=>?_
     simp (disch:=omega) only [amL,amT,sB,sF,↓reduceIte]
     refine hK9 _ ?_
     refine Ah ?_
     try simp (disch:=omega) only [amL,amT,sB,sF,↓reduceIte]
     rw [List.take_of_length_le (by simp; omega),List.take_of_length_le (by omega)]
  all_goals
   skip
   refine Aa fun K10 hK10=>?_
   refine Ap ?_
   refine Bd2 fun K11 hK11=>?_
   simp (disch:=omega) only [Di,amL,amT,sA,sB,sF,↓reduceIte,reduceCtorEq]
   refine hK11 _ ?_
   refine Ce (by kernel_rfl) (by kernel_rfl) ?_
   simp (disch:=omega) only [amL,amT,sA,sB,sE,sF,↓reduceIte,reduceCtorEq]
   repeat' first | (refine Aw (by kernel_rfl) rfl (Bla ⟨_,_⟩) (by first | exact .inl rfl | exact .inr (.inl rfl)) ?_ ; simp (disch:=omega) only [amL,amT,sA,sB,sC,sE,sF,↓reduceIte,reduceCtorEq])
   refine hK10 _ ?_
   refine Ac ?_
   simp (disch:=omega) only [amL,amT,sA,sF,↓reduceIte]
   refine hK5 (k+1) _ ?_ ?_ (De ?_ ?_ ?_ ?_)
   all_goals (try simp (disch:=omega) only [amL,sF,sG,↓reduceIte])
   all_goals first | omega | exact (congrArg (AO.arr 5) (Ab6 default (by omega))).symm | trace_state
theorem Bkp (t:Tru) (h1:t.g.length < 1000000) (h2:t.d.length < 1000000) (h3:t.m.length < 1000000):Bt Tryz.prog 17 [avT t] (avT t):=by
  refine Bn (v:=[]) (q:=[]) (N:=13) (rs:=[.cell 2 40]) Tryz.func17 rfl rfl rfl rfl rfl ?_
  refine Bd2 fun K1 hK1=>?_
  simp (disch:=omega) only [amL,amT,sA,sB,sF,↓reduceIte]
  refine hK1 _ ?_
  refine Aa fun K2 hK2=>?_
  refine Ce (by kernel_rfl) (by kernel_rfl) ?_
  simp (disch:=omega) only [amL,amT,sA,sF,↓reduceIte,reduceCtorEq]
  repeat' first | (refine Aw (by kernel_rfl) rfl (by first | exact Bhq t.g h1 | exact Bhq t.d h2 | exact Bhq t.m h3) (by first | exact .inl rfl | exact .inr (.inl rfl)) ?_ ; simp (disch:=omega) only [amL,amT,sA,sB,sE,sF,↓reduceIte,reduceCtorEq])
  refine hK2 _ ?_
  refine Ah ?_
  try simp (disch:=omega) only [amL,amT,sB,sF,↓reduceIte]
  all_goals rfl
theorem Bj4 (b:Ee) (h1:b.vs.length < 1000000) (h2:b.ss.length < 1000000):Bt Tryz.prog 18 [avB b] (i64 (B5 b)):=by
  refine Bn (v:=[]) (q:=[]) (N:=5) (rs:=[.tmp 2]) Tryz.func18 rfl rfl rfl rfl rfl ?_
  refine Bd2 fun K1 hK1=>?_
  simp (disch:=omega) only [amL,sA,↓reduceIte]
  refine hK1 _ ?_
  refine Bd2 fun K2 hK2=>?_
  simp (disch:=omega) only [amL,amT,sA,sB,sF,↓reduceIte]
  repeat' first | (refine Aw (by kernel_rfl) rfl (Bhw b h1 h2) (by first | exact .inl rfl | exact .inr (.inl rfl)) ?_ ; simp (disch:=omega) only [amL,sA,↓reduceIte])
  refine hK2 _ ?_
  refine Ah ?_
  try simp (disch:=omega) only [amL,↓reduceIte]
  skip
def Bf2 (b:Ee) (t:Tru):Bool:=decide ((b.vs.length:Int)≤7)&&(decide ((b.ss.length:Int)≤9)&&(decide ((t.g.length:Int)≤9)&&(decide ((t.d.length:Int)≤9)&&decide ((t.m.length:Int)≤9))))
theorem Blt (b:Ee) (n:Int) (hv:N6 b) (hn0:0≤n) (hn1:n≤1000000000):Bt Tryz.prog 44 [avB b,i64 n] (avT (Beo b n)):=by
  refine Bn (v:=[]) (q:=[]) (N:=92) (rs:=[.cell 4 28]) Tryz.func44 rfl rfl rfl rfl rfl ?_
  have hnv:=hv.nv
  have hns:=hv.ns
  refine Bd2 fun K1 hK1=>?_
  simp (disch:=omega) only [amL,amT,sA,sB,sF,↓reduceIte]
  refine hK1 _ ?_
  refine Bd2 fun K2 hK2=>?_
  simp (disch:=omega) only [amL,amT,sA,sB,sF,↓reduceIte]
  refine hK2 _ ?_
  refine Aa fun K3 hK3=>?_
  refine Bd2 fun K4 hK4=>?_
  simp (disch:=omega) only [amL,sA]
  refine hK4 _ ?_
  refine Ap ?_
  refine Be9 40 1 5 0 (by decide) rfl rfl rfl ?_
  refine Be9 56 1 5 1 (by decide) rfl rfl rfl ?_
  refine Be (α:=(List Int × List Int) × Int) (fun x=>⟨T [(1,i64 x.2),(2,.ptr 2 0),(4,.ptr 4 0),(5,.ptr 5 0),(6,i64 (x.1.1.length:Int))],O [(2,.cells (cB b)),(4,.cells [C3,C3,C3]),(5,.cells [.own 40 x.1.1.length,.own 56 x.1.2.length,C3]),(40,.arr 1 (x.1.1.map J8)),(56,.arr 1 (x.1.2.map J8))]⟩) (fun x=>b.vs.length - x.1.1.length) (fun x=>x.1.1.length≤b.vs.length∧x.1.2.length=x.1.1.length∧(0≤x.2∧x.2≤1000000000)∧Bjc x.1.1 x.1.2 (Bfe (b.vs.drop x.1.1.length) x.2)=Bfe b.vs n) (([],[]),n) ?_ ?_ (fun x hx5 K5 hK5=>?_)
  · exact ⟨Nat.zero_le _,rfl,⟨hn0,hn1⟩,rfl⟩
  · refine De ?_ ?_ ?_ ?_ <;> (try simp (disch:=omega) only [amL,sF,sG,↓reduceIte,reduceCtorEq]); all_goals first | rfl | trace_state
  obtain ⟨⟨gs,ds⟩,m⟩:=x; dsimp only at hx5 ⊢; obtain ⟨hk,hk2,⟨hm0,hm1⟩,hr⟩:=hx5
  refine Aa fun K6 hK6=>?_
  refine Bd2 fun K7 hK7=>?_
  simp (disch:=omega) only [amL,amT,sA,sF,↓reduceIte,reduceCtorEq]
  refine hK7 _ ?_
  refine Aj rfl (fun h=>MT.x ?_) (fun h=>ME.x ?_)
  all_goals
   first
   |refine MT.mk ?_
    first
    |exact Bool.noConfusion h
    |skip
     try simp only [nrm] at h
     refine Ak ?_
     refine hK6 _ ?_
   |refine ME.mk ?_
    first
    |exact Bool.noConfusion h
    |skip
     try simp only [nrm] at h
     refine Bo ?_
     refine hK3 _ ?_
     refine Aa fun K8 hK8=>?_
     refine Bd2 fun K9 hK9=>?_
     simp (disch:=omega) only [amL,sA]
     refine hK9 _ ?_
     refine Ap ?_
     refine Be9 85 1 5 2 (by decide) rfl rfl rfl ?_
     refine Be (α:=List Int × Int) (fun x=>⟨T [(1,i64 x.2),(2,.ptr 2 0),(4,.ptr 4 0),(5,.ptr 5 0),(9,i64 (x.1.length:Int))],O [(2,.cells (cB b)),(4,.cells [C3,C3,C3]),(5,.cells [.own 40 gs.length,.own 56 ds.length,.own 85 x.1.length]),(40,.arr 1 (gs.map J8)),(56,.arr 1 (ds.map J8)),(85,.arr 1 (x.1.map J8))]⟩) (fun x=>b.ss.length - x.1.length) (fun x=>x.1.length≤b.ss.length∧(0≤x.2∧x.2≤1000000000)∧x.1++Bf6 (b.ss.drop x.1.length) x.2=Bf6 b.ss m) ([],m) ?_ ?_ (fun x hx10 K10 hK10=>?_)
     · exact ⟨Nat.zero_le _,⟨hm0,hm1⟩,rfl⟩
     · refine De ?_ ?_ ?_ ?_ <;> (try simp (disch:=omega) only [amL,sF,sG,↓reduceIte]); all_goals first | rfl | trace_state
     obtain ⟨ms,m2⟩:=x; dsimp only at hx10 ⊢; obtain ⟨hj,⟨hm20,hm21⟩,hr2⟩:=hx10
     refine Aa fun K11 hK11=>?_
     refine Bd2 fun K12 hK12=>?_
     simp (disch:=omega) only [amL,amT,sA,sF,↓reduceIte,reduceCtorEq]
     refine hK12 _ ?_
     refine Aj rfl (fun h=>MT.x ?_) (fun h=>ME.x ?_)
     all_goals
      first
      |refine MT.mk ?_
       first
       |exact Bool.noConfusion h
       |skip
        try simp only [nrm] at h
        refine Ak ?_
        refine hK11 _ ?_
      |refine ME.mk ?_
       first
       |exact Bool.noConfusion h
       |skip
        try simp only [nrm] at h
        refine Bo ?_
        refine hK8 _ ?_
        refine Bd2 fun K13 hK13=>?_
        simp (disch:=omega) only [amL,amT,sB,sF,↓reduceIte]
        refine hK13 _ ?_
        refine Ah ?_
        try simp (disch:=omega) only [amL,amT,sB,sF,↓reduceIte]
        have e1:=Bkz (by omega) hr
        have e2:=Bkd (by omega) hr2
        unfold Beo
        rw [e1]
        dsimp only
        rw [e2,List.take_of_length_le (by simp),List.take_of_length_le (by simp),List.take_of_length_le (by simp)]
     all_goals
      skip
      refine Aa fun K14 hK14=>?_
      refine Ap ?_
      refine Bd2 fun K15 hK15=>?_
      simp (disch:=omega) only [Xh,amL,amT,sA,sB,sF,↓reduceIte,reduceCtorEq]
      refine hK15 _ ?_
      refine Aa fun K16 hK16=>?_
      refine Ce (by kernel_rfl) (by kernel_rfl) ?_
      have hk3:ms.length < b.ss.length:=by omega
      have hp1:=(Fy (hv.stp hk3)).2.2.2.2
      have z1:=P4 hp1
      have y1:=C8 hp1
      have hmo:=Bgr (m:=m2) z1.1
      have hdi:=Bit hm20 z1.1
      have htm:m2.tmod (Fa (b.ss.getD ms.length default).g)=m2 % Fa (b.ss.getD ms.length default).g:=Int.tmod_eq_emod_of_nonneg hm20
      have htd:m2.tdiv (Fa (b.ss.getD ms.length default).g)=m2 / Fa (b.ss.getD ms.length default).g:=Int.tdiv_eq_ediv_of_nonneg hm20
      simp (disch:=omega) only [amL,amT,sA,sB,sF,↓reduceIte,reduceCtorEq]
      repeat' first | (refine Aw (by kernel_rfl) rfl (by first | exact Bd9 (b.vs.getD gs.length default).g (by omega) (by omega) | exact Bd9 (b.vs.getD gs.length default).d (by omega) (by omega) | exact Bd9 (b.ss.getD ms.length default).g (by omega) (by omega)) (by first | exact .inl rfl | exact .inr (.inl rfl)) ?_ ; simp (disch:=omega) only [htm,amL,amT,sA,sB,sE,sF,↓reduceIte,reduceCtorEq])
      refine hK16 _ ?_
      refine Ac ?_
      simp (disch:=omega) only [amL,amT,sA,sB,sF,↓reduceIte]
      repeat' first | (refine Aw (by kernel_rfl) rfl (by first | exact Bd9 (b.vs.getD gs.length default).g (by omega) (by omega) | exact Bd9 (b.vs.getD gs.length default).d (by omega) (by omega) | exact Bd9 (b.ss.getD ms.length default).g (by omega) (by omega)) (by first | exact .inl rfl | exact .inr (.inl rfl)) ?_ ; simp (disch:=omega) only [htd,amL,amT,sA,sF,↓reduceIte])
      refine hK14 _ ?_
      refine Ac ?_
      simp (disch:=omega) only [amL,amT,sA,sF,↓reduceIte]
      refine hK10 (ms++[(b.ss.getD ms.length default).g.lo+m2 % Fa (b.ss.getD ms.length default).g],m2 / Fa (b.ss.getD ms.length default).g) _ ?_ ?_ (De ?_ ?_ ?_ ?_)
      all_goals (try simp (disch:=omega) only [amL,sF,sG,↓reduceIte])
      all_goals first | omega | exact ⟨by simp; omega,⟨by omega,by omega⟩,Bi5 (by omega) hr2 _ rfl⟩ | (simp; omega) | (rw [List.length_append]; rfl) | (rw [List.map_append]; rfl) | (simp; done) | trace_state
  all_goals
   skip
   refine Aa fun K17 hK17=>?_
   refine Ap ?_
   refine Aa fun K18 hK18=>?_
   refine Ab4 [.sto [2] 7,.sto [24] 7,.sto [25,26] 7,.sto [27] 7,.sto [28] 7] (by kernel_rfl) (by kernel_rfl) ?_
   simp (disch:=omega) only [Di,amL,amT,sA,sB,sE,sF,↓reduceIte,reduceCtorEq]
   refine ⟨by simp [Cf.ok,Rr,T,AV.known,AV.clean],?_⟩
   all_goals
    skip
    refine hK18 _ ?_
    refine Aa fun K19 hK19=>?_
    refine Ce (by kernel_rfl) (by kernel_rfl) ?_
    have hk3:gs.length < b.vs.length:=by omega
    obtain ⟨hp1,hp2,_⟩:=C9 (hv.ves hk3)
    have z1:=P4 hp1
    have z2:=P4 hp2
    have y1:=C8 hp1
    have y2:=C8 hp2
    have hmo:=Bgr (m:=m) z1.1
    have hdi:=Bit hm0 z1.1
    have htm:m.tmod (Fa (b.vs.getD gs.length default).g)=m % Fa (b.vs.getD gs.length default).g:=Int.tmod_eq_emod_of_nonneg hm0
    have htd:m.tdiv (Fa (b.vs.getD gs.length default).g)=m / Fa (b.vs.getD gs.length default).g:=Int.tdiv_eq_ediv_of_nonneg hm0
    have hmo2:=Bgr (m:=m / Fa (b.vs.getD gs.length default).g) z2.1
    have hdi2:=Bit hdi.1 z2.1
    have htm2:(m / Fa (b.vs.getD gs.length default).g).tmod (Fa (b.vs.getD gs.length default).d)=m / Fa (b.vs.getD gs.length default).g % Fa (b.vs.getD gs.length default).d:=Int.tmod_eq_emod_of_nonneg hdi.1
    have htd2:(m / Fa (b.vs.getD gs.length default).g).tdiv (Fa (b.vs.getD gs.length default).d)=m / Fa (b.vs.getD gs.length default).g / Fa (b.vs.getD gs.length default).d:=Int.tdiv_eq_ediv_of_nonneg hdi.1
    simp (disch:=omega) only [amL,amT,sA,sB,sF,↓reduceIte,reduceCtorEq]
    repeat' first | (refine Aw (by kernel_rfl) rfl (by first | exact Bd9 (b.vs.getD gs.length default).g (by omega) (by omega) | exact Bd9 (b.vs.getD gs.length default).d (by omega) (by omega) | exact Bd9 (b.ss.getD ms.length default).g (by omega) (by omega)) (by first | exact .inl rfl | exact .inr (.inl rfl)) ?_ ; simp (disch:=omega) only [htm,amL,amT,sA,sB,sE,sF,↓reduceIte,reduceCtorEq])
    refine hK19 _ ?_
    refine Bd2 fun K20 hK20=>?_
    simp (disch:=omega) only [amL,amT,sA,sB,sF,↓reduceIte]
    repeat' first | (refine Aw (by kernel_rfl) rfl (by first | exact Bd9 (b.vs.getD gs.length default).g (by omega) (by omega) | exact Bd9 (b.vs.getD gs.length default).d (by omega) (by omega) | exact Bd9 (b.ss.getD ms.length default).g (by omega) (by omega)) (by first | exact .inl rfl | exact .inr (.inl rfl)) ?_ ; simp (disch:=omega) only [htd,amL,amT,sA,sF,↓reduceIte])
    refine hK20 _ ?_
    refine Aa fun K21 hK21=>?_
    refine Ce (by kernel_rfl) (by kernel_rfl) ?_
    simp (disch:=omega) only [amL,amT,sA,sB,sF,↓reduceIte,reduceCtorEq]
    repeat' first | (refine Aw (by kernel_rfl) rfl (by first | exact Bd9 (b.vs.getD gs.length default).g (by omega) (by omega) | exact Bd9 (b.vs.getD gs.length default).d (by omega) (by omega) | exact Bd9 (b.ss.getD ms.length default).g (by omega) (by omega)) (by first | exact .inl rfl | exact .inr (.inl rfl)) ?_ ; simp (disch:=omega) only [htm2,amL,amT,sA,sB,sE,sF,↓reduceIte,reduceCtorEq])
    refine hK21 _ ?_
    refine Ac ?_
    simp (disch:=omega) only [amL,amT,sA,sB,sF,↓reduceIte]
    repeat' first | (refine Aw (by kernel_rfl) rfl (by first | exact Bd9 (b.vs.getD gs.length default).g (by omega) (by omega) | exact Bd9 (b.vs.getD gs.length default).d (by omega) (by omega) | exact Bd9 (b.ss.getD ms.length default).g (by omega) (by omega)) (by first | exact .inl rfl | exact .inr (.inl rfl)) ?_ ; simp (disch:=omega) only [htd2,amL,amT,sA,sF,↓reduceIte])
    refine hK17 _ ?_
    refine Ac ?_
    simp (disch:=omega) only [amL,amT,sA,sF,↓reduceIte]
    refine hK5 ((gs++[(b.vs.getD gs.length default).g.lo+m % Fa (b.vs.getD gs.length default).g],ds++[(b.vs.getD gs.length default).d.lo+m / Fa (b.vs.getD gs.length default).g % Fa (b.vs.getD gs.length default).d]),Bld (b.vs.getD gs.length default) m) _ ?_ ?_ (De ?_ ?_ ?_ ?_)
    all_goals (try simp (disch:=omega) only [amL,sF,sG,↓reduceIte])
    all_goals first | omega | exact ⟨by simp; omega,by simp [hk2],⟨hdi2.1,Int.le_trans hdi2.2 (Int.le_trans hdi.2 hm1)⟩,Bkc (by omega) hr _ _ rfl rfl⟩ | (simp; omega) | (rw [List.length_append]; rfl) | (rw [List.map_append]; rfl) | (simp; done) | trace_state
theorem Bjx (b:Ee):Bt Tryz.prog 13 [avB b,.agg [C3,C3,C3]] (bl (Bf2 b ⟨[],[],[]⟩)):=by
  refine Bn (v:=[]) (q:=[]) (N:=33) (rs:=[.tmp 4]) Tryz.func13 rfl rfl rfl rfl rfl ?_
  refine Bd2 fun K1 hK1=>?_
  simp (disch:=omega) only [amL,sA,sB,sF,↓reduceIte,reduceCtorEq]
  refine hK1 _ ?_
  refine Bd2 fun K2 hK2=>?_
  simp (disch:=omega) only [amL,amT,sA,sF,↓reduceIte,reduceCtorEq]
  repeat' first | (refine E0 (fun h=>?_) (fun h=>?_) <;> simp (disch:=omega) only [h,amL,amT,sA,sF,sL,↓reduceIte,reduceCtorEq]) | (refine Cz (fun h=>?_) (fun h=>?_) <;> simp (disch:=omega) only [h,amL,amT,sA,sB,sC,sD,sE,sF,sG,sH,sI,sJ,sK,sL,sM,sN,sO,↓reduceIte,reduceCtorEq])
  all_goals
   skip
   refine hK2 _ ?_
   refine Ah ?_
   try simp (disch:=omega) only [amL,↓reduceIte]
   all_goals first | (simp only [Bf2, *,decide_true,decide_false,Bool.true_and,Bool.false_and]; done) | (simp_all [Bf2]; done) | (simp_all [Bf2]; omega)
theorem Bkj {b:Ee} {t:Tru} (h:Bf2 b t=true):b.vs.length < 1000000∧b.ss.length < 1000000:=by
  simp only [Bf2,Bool.and_eq_true,decide_eq_true_eq] at h
  omega
theorem Bk0 (e g:Int) (h1:0≤e∧e≤1000000000) (h2:0≤g∧g≤1000000):Bt Tryz.prog 122 [i64 e,i64 g] (i64 (Bfr e g)):=by
  refine Bn (v:=[]) (q:=[]) (N:=22) (rs:=[.tmp 4]) Tryz.func122 rfl rfl rfl rfl rfl ?_
  refine Bd2 fun K1 hK1=>?_
  simp (disch:=omega) only [amL,sA,sB]
  refine hK1 _ ?_
  refine Aa fun K2 hK2=>?_
  refine Bd2 fun K3 hK3=>?_
  simp (disch:=omega) only [amL,amT,sA,sF,↓reduceIte,reduceCtorEq]
  refine hK3 _ ?_
  refine Aj rfl (fun h=>MT.x ?_) (fun h=>ME.x ?_)
  all_goals
   first
   |refine MT.mk ?_
    first
    |exact Bool.noConfusion h
    |skip
     try simp only [nrm] at h
     refine Bd2 fun K4 hK4=>?_
     simp (disch:=omega) only [amL,sA]
     refine hK4 _ ?_
     refine Ah ?_
     try simp (disch:=omega) only [amL,↓reduceIte]
     first | (rw [Bfr,if_pos h]; done) | (rw [Bfr,if_neg (by assumption),if_pos (by assumption)]; done) | (rw [Bfr,if_neg (by assumption),if_neg (by assumption)]; done) | trace_state
   |refine ME.mk ?_
    first
    |exact Bool.noConfusion h
    |skip
     try simp only [nrm] at h
     refine Ak ?_
     refine hK2 _ ?_
  all_goals
   skip
   refine Bd2 fun K5 hK5=>?_
   have hb:=Bic h1.1 (show 0 < g by omega)
   have htd:e.tdiv g=e / g:=Int.tdiv_eq_ediv_of_nonneg h1.1
   have hw1:IntKind.i64.wrap (e / g)=e / g:=Fc (by omega) (by omega)
   simp (disch:=omega) only [htd,hw1,amL,amT,sA,sF,↓reduceIte,reduceCtorEq]
   refine hK5 _ ?_
   refine Aa fun K6 hK6=>?_
   refine Bd2 fun K7 hK7=>?_
   have hw2:IntKind.i64.wrap (e / g * g)=e / g * g:=Fc (by omega) (by omega)
   have hw3:IntKind.i64.wrap (e - e / g * g)=e - e / g * g:=Fc (by omega) (by omega)
   simp (disch:=omega) only [hw2,hw3,amL,amT,sA,sF,↓reduceIte,reduceCtorEq]
   refine hK7 _ ?_
   refine Aj rfl (fun h=>MT.x ?_) (fun h=>ME.x ?_)
   all_goals
    first
    |refine MT.mk ?_
     first
     |exact Bool.noConfusion h
     |skip
      try simp only [nrm] at h
      refine Ac ?_
      simp (disch:=omega) only [amL,amT,sA,sF,↓reduceIte]
      refine hK6 _ ?_
    |refine ME.mk ?_
     first
     |exact Bool.noConfusion h
     |skip
      try simp only [nrm] at h
      refine Ak ?_
      refine hK6 _ ?_
   all_goals
    skip
    refine Bd2 fun K8 hK8=>?_
    simp (disch:=omega) only [amL,sA,sF,↓reduceIte]
    refine hK8 _ ?_
    refine Ah ?_
    try simp (disch:=omega) only [amL,↓reduceIte]
    first | (rw [Bfr,if_pos h]; done) | (rw [Bfr,if_neg (by assumption),if_pos (by assumption)]; done) | (rw [Bfr,if_neg (by assumption),if_neg (by assumption)]; done) | trace_state
theorem Bgx (l:List Sta) (hl:l.length < 1000000) (hs:∀ k,(0≤(l.getD k default).e∧(l.getD k default).e≤1000000000)∧0≤(l.getD k default).g∧(l.getD k default).g≤1000000):Bt Tryz.prog 92 [.p (.sl (l.map Bb7))] (.p (.sl ((l.map wei).map Bb7))):=by
  refine Bn (v:=[]) (q:=[]) (N:=37) (rs:=[.tmp 2]) Tryz.func92 rfl rfl rfl rfl rfl ?_
  refine Bd2 fun K1 hK1=>?_
  simp (disch:=omega) only [amL,sA]
  refine hK1 _ ?_
  refine Bd2 fun K2 hK2=>?_
  simp (disch:=omega) only [amL,sA]
  refine hK2 _ ?_
  refine Aa fun K3 hK3=>?_
  refine Bd2 fun K4 hK4=>?_
  simp (disch:=omega) only [amL,sA]
  refine hK4 _ ?_
  refine Ap ?_
  refine Po 35 3 3 (by decide) rfl rfl ?_
  refine Be (α:=Nat) (fun k=>⟨T [(0,.p (.sl (l.map Bb7))),(3,.own 35 k),(4,i64 (k:Int))],O [(35,.arr 3 (((l.take k).map wei).map Bb7))]⟩) (fun k=>l.length - k) (fun k=>k≤l.length) 0 ?_ ?_ (fun k hx5 K5 hK5=>?_)
  · exact Nat.zero_le _
  · refine De ?_ ?_ ?_ ?_ <;> (try simp (disch:=omega) only [amL,sF,↓reduceIte,reduceCtorEq]); all_goals first | rfl | trace_state
  have hk:=hx5
  refine Aa fun K6 hK6=>?_
  refine Bd2 fun K7 hK7=>?_
  simp (disch:=omega) only [amL,amT,sA,sF,↓reduceIte,reduceCtorEq]
  refine hK7 _ ?_
  refine Aj rfl (fun h=>MT.x ?_) (fun h=>ME.x ?_)
  all_goals
   first
   |refine MT.mk ?_
    first
    |exact Bool.noConfusion h
    |skip
     try simp only [nrm] at h
     refine Ak ?_
     refine hK6 _ ?_
   |refine ME.mk ?_
    first
    |exact Bool.noConfusion h
    |skip
     try simp only [nrm] at h
     refine Bo ?_
     refine hK3 _ ?_
     refine Bd2 fun K8 hK8=>?_
     simp (disch:=omega) only [amL,sA,sF,↓reduceIte,reduceCtorEq]
     refine hK8 _ ?_
     refine Ah ?_
     try simp (disch:=omega) only [amL,↓reduceIte]
     rw [List.take_of_length_le (by simp; omega),List.take_of_length_le (by omega)]
  all_goals
   skip
   refine Aa fun K9 hK9=>?_
   refine Ap ?_
   refine Ce (by kernel_rfl) (by kernel_rfl) ?_
   simp (disch:=omega) only [Beh,amL,amT,sA,sB,sF,↓reduceIte,reduceCtorEq]
   repeat' first | (refine Aw (by kernel_rfl) rfl (Bk0 (l.getD k default).e (l.getD k default).g (hs k).1 (hs k).2) (by first | exact .inl rfl | exact .inr (.inl rfl)) ?_ ; simp (disch:=omega) only [amL,amT,sA,sB,sC,sE,sF,↓reduceIte,reduceCtorEq])
   refine hK9 _ ?_
   refine Ac ?_
   simp (disch:=omega) only [amL,amT,sA,sF,↓reduceIte,reduceCtorEq]
   refine hK5 (k+1) _ ?_ ?_ (De ?_ ?_ ?_ ?_)
   all_goals (try simp (disch:=omega) only [amL,sF,↓reduceIte,reduceCtorEq])
   all_goals first | omega | (rw [Ab6 default (by omega),List.map_append]; rfl) | trace_state
theorem Bjq (b:Ee) (t:Tru) (hv:N6 b) (hl:F1 b t=true):Bt Tryz.prog 53 [avB b,avT t] (.tup [.p (.sl (stL (Bfi b.vs t.g t.d))),bl (Bgl b.vs t.g)]):=by
  refine Bn (v:=[]) (q:=[]) (N:=54) (rs:=[.tmp 4,.tmp 5]) Tryz.func53 rfl rfl rfl rfl rfl ?_
  have hnv:=hv.nv
  obtain ⟨p1,p2,p3,p4,p5⟩:=Dj hl
  obtain ⟨s1,s2,s3⟩:=L0 hv hl
  have hbo:=Bhh hv hl
  have hbl:=hbo.len hnv
  refine Bd2 fun K1 hK1=>?_
  simp (disch:=omega) only [amL,sA,sB,sF,↓reduceIte,reduceCtorEq]
  refine hK1 _ ?_
  refine Bd2 fun K2 hK2=>?_
  simp (disch:=omega) only [amL,sA]
  refine hK2 _ ?_
  refine Bd2 fun K3 hK3=>?_
  simp (disch:=omega) only [amL,sA]
  refine hK3 _ ?_
  refine Aa fun K4 hK4=>?_
  refine Bd2 fun K5 hK5=>?_
  simp (disch:=omega) only [amL,sA]
  refine hK5 _ ?_
  refine Ap ?_
  refine Po 35 3 6 (by decide) rfl rfl ?_
  refine Be (α:=List Liq × Bool) (fun x=>⟨T [(2,.ptr 2 0),(3,.ptr 3 0),(6,.own 35 x.1.length),(7,bl x.2),(8,i64 (x.1.length:Int))],O [(2,.cells (cB b)),(3,.cells (cT t)),(35,.arr 3 ((x.1.map Bgo).map Bb7))]⟩) (fun x=>b.vs.length - x.1.length) (fun x=>x.1.length≤b.vs.length∧x.1++Bfg (b.vs.drop x.1.length) t.g t.d x.1.length=Bfi b.vs t.g t.d∧(x.2&&Bfa (b.vs.drop x.1.length) t.g x.1.length)=Bgl b.vs t.g) ([],true) ?_ ?_ (fun x hx6 K6 hK6=>?_)
  · exact ⟨Nat.zero_le _,rfl,rfl⟩
  · refine De ?_ ?_ ?_ ?_ <;> (try simp (disch:=omega) only [amL,sF,sG,↓reduceIte]); all_goals first | rfl | trace_state
  obtain ⟨acc,is⟩:=x; dsimp only at hx6 ⊢; obtain ⟨hk,hr1,hr2⟩:=hx6
  refine Aa fun K7 hK7=>?_
  refine Bd2 fun K8 hK8=>?_
  simp (disch:=omega) only [amL,amT,sA,sF,↓reduceIte,reduceCtorEq]
  refine hK8 _ ?_
  refine Aj rfl (fun h=>MT.x ?_) (fun h=>ME.x ?_)
  all_goals
   first
   |refine MT.mk ?_
    first
    |exact Bool.noConfusion h
    |skip
     try simp only [nrm] at h
     refine Ak ?_
     refine hK7 _ ?_
   |refine ME.mk ?_
    first
    |exact Bool.noConfusion h
    |skip
     try simp only [nrm] at h
     refine Bo ?_
     refine hK4 _ ?_
     refine Aa fun K9 hK9=>?_
     have e1:acc=Bfi b.vs t.g t.d:=by rw [Bj9 (by omega),List.append_nil] at hr1; exact hr1
     have e2:is=Bgl b.vs t.g:=by rw [Bkn (by omega),Bool.and_true] at hr2; exact hr2
     subst e1 e2
     refine Bh7 35 rfl ?_
     simp only [Xf,Bhv,AV.frz,AO.frz,List.map_cons,List.map_nil,Nat.reduceEqDiff,if_false,if_true,Nat.le_refl,List.length_map]
     rw [List.take_of_length_le (by simp)]
     refine Ac ?_
     simp (disch:=omega) only [amL,sA,sF,↓reduceIte]
     refine Aw (by kernel_rfl) rfl (Bgx ((Bfi b.vs t.g t.d).map Bgo) (by simp; omega) (Bjj hbo)) (by first | exact .inl rfl | exact .inr (.inl rfl)) ?_
     rw [Bky hbo]
     simp (disch:=omega) only [amL,sA,sF,↓reduceIte]
     refine hK9 _ ?_
     refine Ah ?_
     try simp (disch:=omega) only [amL,sF,↓reduceIte]
     skip
  all_goals
   skip
   refine Aa fun K10 hK10=>?_
   refine Ap ?_
   refine Aa fun K11 hK11=>?_
   refine Ce (by kernel_rfl) (by kernel_rfl) ?_
   have g1:=s1 acc.length
   have g2:=s2 acc.length
   have g3:=Bk9 (show 0≤t.g.getD acc.length 0∧t.g.getD acc.length 0≤100000 by omega) (show 0≤t.d.getD acc.length 0∧t.d.getD acc.length 0≤100000 by omega)
   simp (disch:=omega) only [Bl,amL,amT,sA,sB,sC,sE,sF,↓reduceIte,reduceCtorEq]
   refine hK11 _ ?_
   refine Ce (by kernel_rfl) (by kernel_rfl) ?_
   simp (disch:=omega) only [amL,sA,sF,↓reduceIte]
   repeat' first | (refine E0 (fun h=>?_) (fun h=>?_) <;> simp (disch:=omega) only [h,Di,Bl,amL,amT,sA,sB,sC,sD,sE,sF,sG,sH,sI,sJ,sK,sL,sM,sN,sO,↓reduceIte,reduceCtorEq]) | (refine Cz (fun h=>?_) (fun h=>?_) <;> simp (disch:=omega) only [h,Di,Bl,amL,amT,sA,sB,sF,↓reduceIte,reduceCtorEq])
   all_goals
    skip
    refine hK10 _ ?_
    refine Ac ?_
    simp (disch:=omega) only [amL,amT,sA,sF,↓reduceIte]
    refine hK6 (acc++[⟨t.g.getD acc.length 0,t.g.getD acc.length 0 * t.d.getD acc.length 0⟩],is&&decide (t.g.getD acc.length 0≤(b.vs.getD acc.length default).room)) _ ?_ ?_ (De ?_ ?_ ?_ ?_)
    all_goals (try simp (disch:=omega) only [amL,sF,sG,↓reduceIte])
    all_goals first | omega | exact Bj1 (by omega) hr1 hr2 | (simp; omega) | exact ⟨by simp,by simp_all,by simp⟩ | (rw [List.map_append,List.map_append]; rfl) | trace_state
theorem Bl6 (b:Ee) (v:List Liq) (s:Stp) (n:Int) (hv:N6 b) (ho:OkN b.vs.length v) (hr:Bgv b.vs v) (hs:F7 b.vs.length s=true) (hn:0≤n∧n≤60) :
    Bt Tryz.prog 70 [avB b,.p (.sl (stL v)),avS s,i64 n] (.tup [.p (.sl (stL (doX b.vs v s n).1)),bl (doX b.vs v s n).2]):=by
  rw [Bhs,Bhs]
  refine Bn (v:=[]) (q:=[]) (N:=126) (rs:=[.tmp 8,.tmp 9]) Tryz.func70 rfl rfl rfl rfl rfl ?_
  have hnv:=hv.nv
  have hvl:=ho.len hnv
  obtain ⟨q1,q2,q3,q4,_⟩:=Fy hs
  obtain ⟨⟨f1,f2⟩,f3,f4⟩:=ho.at s.frm.toNat
  obtain ⟨⟨t1,t2⟩,t3,t4⟩:=ho.at s.to.toNat
  obtain ⟨S,hS⟩:∃ S,S=v.map Azh:=⟨_,rfl⟩
  have hSl:S.length=b.vs.length:=by rw [hS,List.length_map,hvl]
  have hSf:S.getD s.frm.toNat default=Azh (B0 v s.frm.toNat):=by rw [hS]; exact Bh9 (by omega)
  have hSt:S.getD s.to.toNat default=Azh (B0 v s.to.toNat):=by rw [hS]; exact Bh9 (by omega)
  have hSm:SmA S:=by rw [hS]; exact Blk ho
  have hSp:S.map prA=v:=by rw [hS]; exact Blu v
  rw [← hS]
  refine Bd2 fun K1 hK1=>?_
  simp (disch:=(first | omega | (simp only [List.length_set]; omega))) only [amL,sA,sB,sF,↓reduceIte,reduceCtorEq]
  refine hK1 _ ?_
  refine Bd2 fun K2 hK2=>?_
  simp (disch:=(first | omega | (simp only [List.length_set]; omega))) only [Bg1,amL,amT,sA,sB,sF,↓reduceIte,reduceCtorEq]
  refine hK2 _ ?_
  refine Bd2 fun K3 hK3=>?_
  simp (disch:=(first | omega | (simp only [List.length_set]; omega))) only [amL,sA]
  refine hK3 _ ?_
  refine Aa fun K4 hK4=>?_
  refine Bd2 fun K5 hK5=>?_
  simp (disch:=(first | omega | (simp only [List.length_set]; omega))) only [amL,amT,sA,sF,↓reduceIte,reduceCtorEq]
  refine hK5 _ ?_
  refine Aj rfl (fun h=>MT.x ?_) (fun h=>ME.x ?_)
  all_goals
   first
   |refine MT.mk ?_
    first
    |exact Bool.noConfusion h
    |((try simp only [nrm] at h) ; exfalso ; omega)
    |skip
     try simp only [nrm] at h
     refine Aa fun K6 hK6=>?_
     refine Bd2 fun K7 hK7=>?_
     simp (disch:=(first | omega | (simp only [List.length_set]; omega))) only [Beh,hSf,Be4,Be5,amL,amT,sA,sF,↓reduceIte,reduceCtorEq]
     refine hK7 _ ?_
     refine Aj rfl (fun h=>MT.x ?_) (fun h=>ME.x ?_)
     all_goals
      first
      |refine MT.mk ?_
       first
       |exact Bool.noConfusion h
       |((try simp only [nrm] at h) ; exfalso ; omega)
       |skip
        try simp only [nrm] at h
        refine Bd2 fun K8 hK8=>?_
        simp (disch:=(first | omega | (simp only [List.length_set]; omega))) only [amL,sA,sF,↓reduceIte,reduceCtorEq]
        refine hK8 _ ?_
        refine Ah ?_
        try simp (disch:=(first | omega | (simp only [List.length_set]; omega))) only [amL,sF,↓reduceIte]
        all_goals first | (exfalso; omega) | exact doA hS (Bi2 (by omega) hs hvl (by omega)) rfl rfl | exact doA hS (Bd8 (by rw [Bfb (by omega) hs hvl (by omega) (by omega)]; exact decide_eq_false (by omega))) rfl rfl | exact doA hS (Bd8 (by rw [Be1 (by omega) (by omega) (by omega)]; exact decide_eq_false (by omega))) rfl rfl | exact doA hS (Bd8 (by rw [Be2 (by omega) hs hvl]; exact decide_eq_false (by omega))) rfl rfl | exact doA hS (Bd8 (by rw [Beu (by omega) hs hvl hr hn.1,decide_eq_false (by omega),decide_eq_true (by omega),decide_eq_false (by omega)]; rfl)) rfl rfl | exact doB (by rw [Bfb (by omega) hs hvl (by omega) (by omega),decide_eq_true (by omega)]) (by repeat' first | exact hSm | refine Bek ?_ (by dsimp only; omega)) (by simp only [List.map_set,hSp]; rfl) | exact doB (by rw [Be2 (by omega) hs hvl,decide_eq_true (by omega)]) (by repeat' first | exact hSm | refine Bek ?_ (by dsimp only; omega)) (by simp only [List.map_set,hSp]; rfl) | exact doB (by rw [Beu (by omega) hs hvl hr hn.1,decide_eq_true (by omega)] <;> rfl) (by repeat' first | exact hSm | refine Bek ?_ (by dsimp only; omega)) (by simp only [List.map_set,hSp,prA,Int.sub_zero]) | exact doB (by rw [Beu (by omega) hs hvl hr hn.1,decide_eq_false (by omega),decide_eq_true (by omega),decide_eq_true (by omega)] <;> rfl) (by repeat' first | exact hSm | refine Bek ?_ (by dsimp only; omega)) (by simp only [List.map_set,hSp,prA,Int.sub_zero] <;> rw [show (B0 v s.frm.toNat).g - n=0 by omega]) | exact doB (by rw [Be1 (by omega) (by omega) (by omega),decide_eq_true (by omega)]) (by repeat' first | exact hSm | refine Bek ?_ (by dsimp only; omega)) (by simp only [List.map_set,hSp]; rw [Be0 (k:=s.frm.toNat) (by omega) (by unfold prA; dsimp only; rw [show n=0 by omega]; simp),Be0 (k:=s.to.toNat) (by omega) (by unfold prA; dsimp only; rw [show n=0 by omega]; simp)]) | trace_state
      |refine ME.mk ?_
       first
       |exact Bool.noConfusion h
       |((try simp only [nrm] at h) ; exfalso ; omega)
       |skip
        try simp only [nrm] at h
        refine Ak ?_
        refine hK6 _ ?_
     all_goals
      skip
      refine Aa fun K9 hK9=>?_
      refine Bd2 fun K10 hK10=>?_
      simp (disch:=(first | omega | (simp only [List.length_set]; omega))) only [amL,amT,sA,sF,↓reduceIte,reduceCtorEq]
      repeat' first | (refine E0 (fun h=>?_) (fun h=>?_) <;> simp (disch:=(first | omega | (simp only [List.length_set]; omega))) only [h,amL,amT,sA,sF,↓reduceIte,reduceCtorEq]) | (refine Cz (fun h=>?_) (fun h=>?_) <;> simp (disch:=(first | omega | (simp only [List.length_set]; omega))) only [h,Bg1,Beh,Di,Be7,Bfk,Bhr,hSf,hSt,Be4,Be5,List.set_set,List.length_set,amL,amT,sA,sB,sC,sD,sE,sF,sG,sH,sI,sJ,sK,sL,sM,sN,sO,↓reduceIte,reduceCtorEq])
      all_goals
       skip
       refine hK10 _ ?_
       refine Aj rfl (fun h=>MT.x ?_) (fun h=>ME.x ?_)
       all_goals
        first
        |refine MT.mk ?_
         first
         |exact Bool.noConfusion h
         |((try simp only [nrm] at h) ; exfalso ; omega)
         |skip
          try simp only [nrm] at h
          refine Ce (by kernel_rfl) (by kernel_rfl) ?_
          have hb:=Vm (n:=n) (e:=(B0 v s.frm.toNat).e) (g:=(B0 v s.frm.toNat).g) hn.1 (by omega) f3 (by omega)
          have hx1:0≤G6 v s.frm.toNat n:=hb.1
          have hx2:G6 v s.frm.toNat n≤(B0 v s.frm.toNat).e:=hb.2
          have hb2:=Bk9 (a:=n) (b:=(B0 v s.frm.toNat).e) (by omega) (by omega)
          have hw7:IntKind.i64.wrap (n * (B0 v s.frm.toNat).e)=n * (B0 v s.frm.toNat).e:=Fc (by omega) (by omega)
          have htd:(n * (B0 v s.frm.toNat).e).tdiv (B0 v s.frm.toNat).g=G6 v s.frm.toNat n:=Int.tdiv_eq_ediv_of_nonneg (by omega)
          simp (disch:=(first | omega | (simp only [List.length_set]; omega))) only [hw7,htd,Beh,hSf,Be4,Be5,amL,amT,sA,sF,↓reduceIte,reduceCtorEq]
          refine hK9 _ ?_
        |refine ME.mk ?_
         first
         |exact Bool.noConfusion h
         |((try simp only [nrm] at h) ; exfalso ; omega)
         |skip
          try simp only [nrm] at h
          refine Ak ?_
          refine hK9 _ ?_
       all_goals
        skip
        refine Bd2 fun K11 hK11=>?_
        simp (disch:=(first | omega | (simp only [List.length_set]; omega))) only [Beh,Be7,hSf,Be4,Be5,amL,amT,sA,sE,sF,↓reduceIte,reduceCtorEq]
        refine hK11 _ ?_
        refine Ac ?_
        simp (disch:=(first | omega | (simp only [List.length_set]; omega))) only [Beh,Be7,Bfk,List.set_set,List.length_set,amL,amT,sA,sB,sE,sF,↓reduceIte,reduceCtorEq]
        refine hK4 _ ?_
   |refine ME.mk ?_
    first
    |exact Bool.noConfusion h
    |((try simp only [nrm] at h) ; exfalso ; omega)
    |skip
     try simp only [nrm] at h
     refine Ak ?_
     refine hK4 _ ?_
  all_goals
   skip
   refine Aa fun K12 hK12=>?_
   refine Bd2 fun K13 hK13=>?_
   simp (disch:=(first | omega | (simp only [List.length_set]; omega))) only [amL,amT,sA,sF,↓reduceIte,reduceCtorEq]
   refine hK13 _ ?_
   refine Aj rfl (fun h=>MT.x ?_) (fun h=>ME.x ?_)
   all_goals
    first
    |refine MT.mk ?_
     first
     |exact Bool.noConfusion h
     |((try simp only [nrm] at h) ; exfalso ; omega)
     |skip
      try simp only [nrm] at h
      refine Bd2 fun K14 hK14=>?_
      simp (disch:=(first | omega | (simp only [List.length_set]; omega))) only [Beh,Be7,Bhr,hSt,Be4,Be5,List.length_set,amL,amT,sA,sE,sF,↓reduceIte,reduceCtorEq]
      refine hK14 _ ?_
      refine Bd2 fun K15 hK15=>?_
      simp (disch:=(first | omega | (simp only [List.length_set]; omega))) only [Beh,Be7,Bfk,List.set_set,List.length_set,amL,amT,sA,sB,sE,sF,↓reduceIte,reduceCtorEq]
      refine hK15 _ ?_
      refine Aa fun K16 hK16=>?_
      refine Ce (by kernel_rfl) (by kernel_rfl) ?_
      simp (disch:=(first | omega | (simp only [List.length_set]; omega))) only [Beh,Di,Bfk,List.length_set,amL,amT,sA,sB,sF,↓reduceIte,reduceCtorEq]
      refine hK16 _ ?_
      refine Aj rfl (fun h=>MT.x ?_) (fun h=>ME.x ?_)
      all_goals
       first
       |refine MT.mk ?_
        first
        |exact Bool.noConfusion h
        |((try simp only [nrm] at h) ; exfalso ; omega)
        |skip
         try simp only [nrm] at h
         refine Bd2 fun K17 hK17=>?_
         simp (disch:=(first | omega | (simp only [List.length_set]; omega))) only [amL,sA,sF,↓reduceIte,reduceCtorEq]
         refine hK17 _ ?_
         refine Ah ?_
         try simp (disch:=(first | omega | (simp only [List.length_set]; omega))) only [amL,sF,↓reduceIte]
         all_goals first | (exfalso; omega) | exact doA hS (Bi2 (by omega) hs hvl (by omega)) rfl rfl | exact doA hS (Bd8 (by rw [Bfb (by omega) hs hvl (by omega) (by omega)]; exact decide_eq_false (by omega))) rfl rfl | exact doA hS (Bd8 (by rw [Be1 (by omega) (by omega) (by omega)]; exact decide_eq_false (by omega))) rfl rfl | exact doA hS (Bd8 (by rw [Be2 (by omega) hs hvl]; exact decide_eq_false (by omega))) rfl rfl | exact doA hS (Bd8 (by rw [Beu (by omega) hs hvl hr hn.1,decide_eq_false (by omega),decide_eq_true (by omega),decide_eq_false (by omega)]; rfl)) rfl rfl | exact doB (by rw [Bfb (by omega) hs hvl (by omega) (by omega),decide_eq_true (by omega)]) (by repeat' first | exact hSm | refine Bek ?_ (by dsimp only; omega)) (by simp only [List.map_set,hSp]; rfl) | exact doB (by rw [Be2 (by omega) hs hvl,decide_eq_true (by omega)]) (by repeat' first | exact hSm | refine Bek ?_ (by dsimp only; omega)) (by simp only [List.map_set,hSp]; rfl) | exact doB (by rw [Beu (by omega) hs hvl hr hn.1,decide_eq_true (by omega)] <;> rfl) (by repeat' first | exact hSm | refine Bek ?_ (by dsimp only; omega)) (by simp only [List.map_set,hSp,prA,Int.sub_zero]) | exact doB (by rw [Beu (by omega) hs hvl hr hn.1,decide_eq_false (by omega),decide_eq_true (by omega),decide_eq_true (by omega)] <;> rfl) (by repeat' first | exact hSm | refine Bek ?_ (by dsimp only; omega)) (by simp only [List.map_set,hSp,prA,Int.sub_zero] <;> rw [show (B0 v s.frm.toNat).g - n=0 by omega]) | exact doB (by rw [Be1 (by omega) (by omega) (by omega),decide_eq_true (by omega)]) (by repeat' first | exact hSm | refine Bek ?_ (by dsimp only; omega)) (by simp only [List.map_set,hSp]; rw [Be0 (k:=s.frm.toNat) (by omega) (by unfold prA; dsimp only; rw [show n=0 by omega]; simp),Be0 (k:=s.to.toNat) (by omega) (by unfold prA; dsimp only; rw [show n=0 by omega]; simp)]) | trace_state
       |refine ME.mk ?_
        first
        |exact Bool.noConfusion h
        |((try simp only [nrm] at h) ; exfalso ; omega)
        |skip
         try simp only [nrm] at h
         refine Ak ?_
         refine hK12 _ ?_
    |refine ME.mk ?_
     first
     |exact Bool.noConfusion h
     |((try simp only [nrm] at h) ; exfalso ; omega)
     |skip
      try simp only [nrm] at h
      refine Bd2 fun K18 hK18=>?_
      simp (disch:=(first | omega | (simp only [List.length_set]; omega))) only [Beh,Bfk,List.length_set,amL,amT,sA,sF,↓reduceIte,reduceCtorEq]
      repeat' first | (refine E0 (fun h=>?_) (fun h=>?_) <;> simp (disch:=(first | omega | (simp only [List.length_set]; omega))) only [h,Beh,Bfk,List.length_set,amL,amT,sA,sF,↓reduceIte,reduceCtorEq]) | (refine Cz (fun h=>?_) (fun h=>?_) <;> simp (disch:=(first | omega | (simp only [List.length_set]; omega))) only [h,Bg1,Beh,Di,Be7,Bfk,Bhr,hSf,hSt,Be4,Be5,List.set_set,List.length_set,amL,amT,sA,sB,sC,sD,sE,sF,sG,sH,sI,sJ,sK,sL,sM,sN,sO,↓reduceIte,reduceCtorEq])
      all_goals
       skip
       refine hK18 _ ?_
       refine Aj rfl (fun h=>MT.x ?_) (fun h=>ME.x ?_)
       all_goals
        first
        |refine MT.mk ?_
         first
         |exact Bool.noConfusion h
         |((try simp only [nrm] at h) ; exfalso ; omega)
         |skip
          try simp only [nrm] at h
          refine Bd2 fun K19 hK19=>?_
          simp (disch:=(first | omega | (simp only [List.length_set]; omega))) only [amL,sA,sF,↓reduceIte,reduceCtorEq]
          refine hK19 _ ?_
          refine Ah ?_
          try simp (disch:=(first | omega | (simp only [List.length_set]; omega))) only [amL,sF,↓reduceIte]
          all_goals first | (exfalso; omega) | exact doA hS (Bi2 (by omega) hs hvl (by omega)) rfl rfl | exact doA hS (Bd8 (by rw [Bfb (by omega) hs hvl (by omega) (by omega)]; exact decide_eq_false (by omega))) rfl rfl | exact doA hS (Bd8 (by rw [Be1 (by omega) (by omega) (by omega)]; exact decide_eq_false (by omega))) rfl rfl | exact doA hS (Bd8 (by rw [Be2 (by omega) hs hvl]; exact decide_eq_false (by omega))) rfl rfl | exact doA hS (Bd8 (by rw [Beu (by omega) hs hvl hr hn.1,decide_eq_false (by omega),decide_eq_true (by omega),decide_eq_false (by omega)]; rfl)) rfl rfl | exact doB (by rw [Bfb (by omega) hs hvl (by omega) (by omega),decide_eq_true (by omega)]) (by repeat' first | exact hSm | refine Bek ?_ (by dsimp only; omega)) (by simp only [List.map_set,hSp]; rfl) | exact doB (by rw [Be2 (by omega) hs hvl,decide_eq_true (by omega)]) (by repeat' first | exact hSm | refine Bek ?_ (by dsimp only; omega)) (by simp only [List.map_set,hSp]; rfl) | exact doB (by rw [Beu (by omega) hs hvl hr hn.1,decide_eq_true (by omega)] <;> rfl) (by repeat' first | exact hSm | refine Bek ?_ (by dsimp only; omega)) (by simp only [List.map_set,hSp,prA,Int.sub_zero]) | exact doB (by rw [Beu (by omega) hs hvl hr hn.1,decide_eq_false (by omega),decide_eq_true (by omega),decide_eq_true (by omega)] <;> rfl) (by repeat' first | exact hSm | refine Bek ?_ (by dsimp only; omega)) (by simp only [List.map_set,hSp,prA,Int.sub_zero] <;> rw [show (B0 v s.frm.toNat).g - n=0 by omega]) | exact doB (by rw [Be1 (by omega) (by omega) (by omega),decide_eq_true (by omega)]) (by repeat' first | exact hSm | refine Bek ?_ (by dsimp only; omega)) (by simp only [List.map_set,hSp]; rw [Be0 (k:=s.frm.toNat) (by omega) (by unfold prA; dsimp only; rw [show n=0 by omega]; simp),Be0 (k:=s.to.toNat) (by omega) (by unfold prA; dsimp only; rw [show n=0 by omega]; simp)]) | trace_state
        |refine ME.mk ?_
         first
         |exact Bool.noConfusion h
         |((try simp only [nrm] at h) ; exfalso ; omega)
         |skip
          try simp only [nrm] at h
          refine Ak ?_
          refine hK12 _ ?_
   all_goals
    skip
    refine Aa fun K20 hK20=>?_
    refine Bh7 14 rfl ?_
    simp only [Xf,Bhv,AV.frz,AO.frz,AV.frz.frzL,List.map_cons,List.map_nil,Nat.reduceEqDiff,if_false,if_true,Nat.le_refl,List.length_map,List.length_set]
    rw [List.take_of_length_le (by simp)]
    refine Ac ?_
    simp (disch:=(first | omega | (simp only [List.length_set]; omega))) only [amL,sA,sF,↓reduceIte]
    refine Aw (by kernel_rfl) rfl (Bgx _ (by simp only [List.length_set]; omega) (by repeat' first | exact hSm | refine Bek ?_ (by dsimp only; omega))) (by first | exact .inl rfl | exact .inr (.inl rfl)) ?_
    simp (disch:=(first | omega | (simp only [List.length_set]; omega))) only [amL,sA,↓reduceIte]
    refine hK20 _ ?_
    refine Ah ?_
    try simp (disch:=(first | omega | (simp only [List.length_set]; omega))) only [amL,sF,↓reduceIte]
    all_goals first | (exfalso; omega) | exact doA hS (Bi2 (by omega) hs hvl (by omega)) rfl rfl | exact doA hS (Bd8 (by rw [Bfb (by omega) hs hvl (by omega) (by omega)]; exact decide_eq_false (by omega))) rfl rfl | exact doA hS (Bd8 (by rw [Be1 (by omega) (by omega) (by omega)]; exact decide_eq_false (by omega))) rfl rfl | exact doA hS (Bd8 (by rw [Be2 (by omega) hs hvl]; exact decide_eq_false (by omega))) rfl rfl | exact doA hS (Bd8 (by rw [Beu (by omega) hs hvl hr hn.1,decide_eq_false (by omega),decide_eq_true (by omega),decide_eq_false (by omega)]; rfl)) rfl rfl | exact doB (by rw [Bfb (by omega) hs hvl (by omega) (by omega),decide_eq_true (by omega)]) (by repeat' first | exact hSm | refine Bek ?_ (by dsimp only; omega)) (by simp only [List.map_set,hSp]; rfl) | exact doB (by rw [Be2 (by omega) hs hvl,decide_eq_true (by omega)]) (by repeat' first | exact hSm | refine Bek ?_ (by dsimp only; omega)) (by simp only [List.map_set,hSp]; rfl) | exact doB (by rw [Beu (by omega) hs hvl hr hn.1,decide_eq_true (by omega)] <;> rfl) (by repeat' first | exact hSm | refine Bek ?_ (by dsimp only; omega)) (by simp only [List.map_set,hSp,prA,Int.sub_zero]) | exact doB (by rw [Beu (by omega) hs hvl hr hn.1,decide_eq_false (by omega),decide_eq_true (by omega),decide_eq_true (by omega)] <;> rfl) (by repeat' first | exact hSm | refine Bek ?_ (by dsimp only; omega)) (by simp only [List.map_set,hSp,prA,Int.sub_zero] <;> rw [show (B0 v s.frm.toNat).g - n=0 by omega]) | exact doB (by rw [Be1 (by omega) (by omega) (by omega),decide_eq_true (by omega)]) (by repeat' first | exact hSm | refine Bek ?_ (by dsimp only; omega)) (by simp only [List.map_set,hSp]; rw [Be0 (k:=s.frm.toNat) (by omega) (by unfold prA; dsimp only; rw [show n=0 by omega]; simp),Be0 (k:=s.to.toNat) (by omega) (by unfold prA; dsimp only; rw [show n=0 by omega]; simp)]) | trace_state
theorem Bk3 (b:Ee) (t:Tru) (hv:N6 b) (hl:F1 b t=true):Bt Tryz.prog 21 [avB b,avT t] (.tup [.p (.sl (stL (Bd6 b t).1)),bl (Bd6 b t).2]):=by
  refine Bn (v:=[]) (q:=[]) (N:=43) (rs:=[.tmp 4,.tmp 5]) Tryz.func21 rfl rfl rfl rfl rfl ?_
  have hnv:=hv.nv
  have hns:=hv.ns
  obtain ⟨p1,p2,p3,p4,p5⟩:=Dj hl
  obtain ⟨s1,s2,s3⟩:=L0 hv hl
  refine Bd2 fun K1 hK1=>?_
  simp (disch:=omega) only [amL,sA,sB,sF,↓reduceIte,reduceCtorEq]
  refine hK1 _ ?_
  refine Bd2 fun K2 hK2=>?_
  simp (disch:=omega) only [amL,amT,sA,sB,sF,↓reduceIte]
  repeat' first | (refine Aw (by kernel_rfl) rfl (Bjq b t hv hl) (by first | exact .inl rfl | exact .inr (.inl rfl)) ?_ ; simp (disch:=omega) only [amL,sA,sF,↓reduceIte])
  refine hK2 _ ?_
  refine Aa fun K3 hK3=>?_
  refine Bd2 fun K4 hK4=>?_
  simp (disch:=omega) only [amL,sA]
  refine hK4 _ ?_
  refine Ap ?_
  skip
  refine Be (α:=Nat × (List Liq × Bool)) (fun x=>⟨T [(2,.ptr 2 0),(3,.ptr 3 0),(6,.p (.sl (stL x.2.1))),(7,bl x.2.2),(8,i64 (x.1:Int))],O [(2,.cells (cB b)),(3,.cells (cT t))]⟩) (fun x=>b.ss.length - x.1) (fun x=>x.1≤b.ss.length∧OkN b.vs.length x.2.1∧(x.2.2=true→Bgv b.vs x.2.1)∧Bex b.vs t.m (b.ss.drop x.1) x.1 x.2=Bd6 b t) (0,(Bfi b.vs t.g t.d,Bgl b.vs t.g)) ?_ ?_ (fun x hx5 K5 hK5=>?_)
  · exact ⟨by simp,Bhh hv hl,Bh3,rfl⟩
  · refine De ?_ ?_ ?_ ?_ <;> (try simp (disch:=omega) only [amL,sF,sG,↓reduceIte]); all_goals first | rfl | trace_state
  obtain ⟨k,v,is⟩:=x; dsimp only at hx5 ⊢; obtain ⟨hk,ho,hr,hp⟩:=hx5
  refine Aa fun K6 hK6=>?_
  refine Bd2 fun K7 hK7=>?_
  simp (disch:=omega) only [amL,amT,sA,sF,↓reduceIte,reduceCtorEq]
  repeat' first | (refine E0 (fun h=>?_) (fun h=>?_) <;> simp (disch:=omega) only [h,amL,sA,sF,↓reduceIte]) | (refine Cz (fun h=>?_) (fun h=>?_) <;> simp (disch:=omega) only [h,Xh,Bl,amL,amT,sA,sB,sC,sD,sE,sF,sG,sH,sI,sJ,sK,sL,sM,sN,sO,↓reduceIte,reduceCtorEq])
  all_goals
   skip
   refine hK7 _ ?_
   refine Aj rfl (fun h=>MT.x ?_) (fun h=>ME.x ?_)
   all_goals
    first
    |refine MT.mk ?_
     first
     |exact Bool.noConfusion h
     |skip
      try simp only [nrm] at h
      refine Ak ?_
      refine hK6 _ ?_
    |refine ME.mk ?_
     first
     |exact Bool.noConfusion h
     |skip
      try simp only [] at h
      refine Bo ?_
      refine hK3 _ ?_
      refine Bd2 fun K8 hK8=>?_
      simp (disch:=omega) only [amL,sA,sF,↓reduceIte]
      refine hK8 _ ?_
      refine Ah ?_
      try simp (disch:=omega) only [amL,sF,↓reduceIte]
      all_goals first | (rw [Bjm (by omega) hp]; done) | (rw [Bij (by omega) (by first | assumption | exact Bool.eq_false_iff.2 (by assumption)) hp]; done) | trace_state
   all_goals
    skip
    refine Aa fun K9 hK9=>?_
    refine Ap ?_
    refine Ce (by kernel_rfl) (by kernel_rfl) ?_
    have his:is=true:=by first | assumption
    have hst:=hv.stp (k:=k) (by omega)
    have hmk:=s3 k
    simp (disch:=omega) only [Xh,Bl,amL,amT,sA,sB,sF,↓reduceIte,reduceCtorEq]
    repeat' first | (refine Aw (by kernel_rfl) rfl (Bl6 b v (b.ss.getD k default) (t.m.getD k 0) hv ho (hr his) hst hmk) (by first | exact .inl rfl | exact .inr (.inl rfl)) ?_ ; simp (disch:=omega) only [amL,sA,sF,↓reduceIte])
    refine hK9 _ ?_
    refine Ac ?_
    simp (disch:=omega) only [amL,amT,sA,sF,↓reduceIte]
    refine hK5 (k+1,doX b.vs v (b.ss.getD k default) (t.m.getD k 0)) _ ?_ ?_ (De ?_ ?_ ?_ ?_)
    all_goals (try simp (disch:=omega) only [amL,sF,sG,↓reduceIte])
    all_goals first | omega | exact ⟨by omega,Ble ho hnv hv.v hst hmk.1,fun _=>Bju (hr his) hst hmk.1 (ho.len hnv),Bir (by omega) his hp⟩ | trace_state
theorem Bi4 {b:Ee} (hv:N6 b):1≤Bel b∧Bel b≤4782969:=by
 have h:=Bf0 hv b.ss.length
 rwa [List.take_length] at h
theorem Bgp {v:List Liq} {f:Bool} {l:List Bnd} {k:Nat}:∀ i,i≤l.length→(Bg3 v f l i).getD k default=if k < i then Blz (l.getD k default) (v.getD k default) (Qd (v.getD k default)) f else l.getD k default
  | 0,_=>by rw [if_neg (by omega)]; rfl
  | i+1,h=>by
    have hs:∀ (m:List Bnd) (x:Bnd),i < m.length→(m.set i x).getD k default=if k=i then x else m.getD k default:=fun m x hm=>by
      rw [List.getD_eq_getElem?_getD,List.getD_eq_getElem?_getD,List.getElem?_set]
      by_cases e:i=k
      · subst e; simp [hm]
      · rw [if_neg e,if_neg (fun h=>e h.symm)]
    show ((Bg3 v f l i).set i _).getD k default=_
    rw [hs _ _ (by rw [Bf1]; omega)]
    by_cases e:k=i
    · subst e
      rw [if_pos rfl,if_pos (by omega),Bgp k (by omega),if_neg (by omega)]
    · rw [if_neg e,Bgp i (by omega)]
      by_cases e2:k < i
      · rw [if_pos e2,if_pos (by omega)]
      · rw [if_neg e2,if_neg (by omega)]
def IsB (P:List Liq→Prop) (k:Nat) (x:Bnd):Prop:=
  IsW (fun y=>∃ v,P v∧(B0 v k).g=y) x.g∧IsW (fun y=>∃ v,P v∧(B0 v k).e=y) x.e∧IsW (fun y=>∃ v,P v∧Qd (B0 v k)=y) x.k
theorem Bhn {P Q:List Liq→Prop} {k:Nat} {x:Bnd} (h:IsB P k x) (e:∀ v,P v↔Q v):IsB Q k x:=by
  have:P=Q:=funext fun v=>propext (e v)
  rw [← this]; exact h
theorem Bhm {n:Nat}:∀ (L:List (List Liq)) (s:List Bnd × Bool) (P:List Liq→Prop),s.1.length=n→((s.2=true∧∀ w,¬ P w)∨(s.2=false∧∀ k,k < n→IsB P k (s.1.getD k default))) →
    (Bh6 n s L).1.length=n∧(((Bh6 n s L).2=true∧∀ w,¬ (P w∨w ∈ L))∨((Bh6 n s L).2=false∧∀ k,k < n→IsB (fun w=>P w∨w ∈ L) k ((Bh6 n s L).1.getD k default)))
  | [],s,P,hl,h=>⟨hl,h.imp (fun h=>⟨h.1,fun w hw=>h.2 w (hw.elim id (by simp))⟩) fun h=>⟨h.1,fun k hk=>Bhn (h.2 k hk) fun v=>⟨.inl,fun h=>h.elim id (by simp)⟩⟩⟩
  | v :: L,s,P,hl,h=>by
    have hb:(Bg4 n s v).1.1.length=n:=(Bf1 n).trans hl
    have ih:=Bhm L (Bg4 n s v).1 (fun w=>P w∨w=v) hb (.inr ⟨rfl,fun k hk=>by
      show IsB _ k ((Bg3 v s.2 s.1 n).getD k default)
      rw [Bgp n (by omega),if_pos hk]
      rcases h with ⟨h1,h2⟩ | ⟨h1,h2⟩
      · rw [h1]
        have e:∀ (f:List Liq→Int) (y:Int),y=f v↔∃ w,(P w∨w=v)∧f w=y:=fun f y=>
          ⟨fun h=>⟨v,.inr rfl,h.symm⟩,fun ⟨w,h3,h4⟩=>by
            rcases h3 with h3 | h3
            · exact absurd h3 (h2 w)
            · rw [← h4,h3]⟩
        exact ⟨(Bgj _).congr (e fun w=>(B0 w k).g),(Bgj _).congr (e fun w=>(B0 w k).e),(Bgj _).congr (e fun w=>Qd (B0 w k))⟩
      · rw [h1]
        obtain ⟨a1,a2,a3⟩:=h2 k hk
        have e:∀ (f:List Liq→Int) (y:Int),((∃ w,P w∧f w=y)∨y=f v)↔∃ w,(P w∨w=v)∧f w=y:=fun f y=>
          ⟨fun h=>h.elim (fun ⟨w,h3,h4⟩=>⟨w,.inl h3,h4⟩) fun h=>⟨v,.inr rfl,h.symm⟩,fun ⟨w,h3,h4⟩=>by
            rcases h3 with h3 | h3
            · exact .inl ⟨w,h3,h4⟩
            · right; rw [← h4,h3]⟩
        exact ⟨(Bgk a1 _).congr (e fun w=>(B0 w k).g),(Bgk a2 _).congr (e fun w=>(B0 w k).e),(Bgk a3 _).congr (e fun w=>Qd (B0 w k))⟩⟩)
    have hc:∀ w,((P w∨w=v)∨w ∈ L)↔(P w∨w ∈ v :: L):=fun w=>by rw [List.mem_cons,or_assoc]
    refine ⟨ih.1,ih.2.imp (fun h=>⟨h.1,fun w hw=>h.2 w ((hc w).2 hw)⟩) fun h=>⟨h.1,fun k hk=>Bhn (h.2 k hk) hc⟩⟩
theorem Bhd {b:Ee} {v:List Liq}:v ∈ Be8 b↔∃ x ∈ Bea (Fz b) [],Bez b x=true∧v=Bee b x:=by
  constructor
  · intro h
    exact Bf3 (P:=fun v=>∃ x ∈ Bea (Fz b) [],Bez b x=true∧v=Bee b x) _ _ _ (fun x hx he=>⟨x,hx,he,rfl⟩) v h
  · rintro ⟨x,h1,h2,rfl⟩
    rcases Bfv (b:=b) _ v0 true h1 h2 with h | h
    · exact h
    · exact absurd h.1 (by decide)
theorem Bft {b:Ee} (hv:N6 b) {v:List Liq}:Bka b v↔∃ w,w ∈ Be8 b∧v=w.take b.vs.length:=by
  rw [Bki hv]
  constructor
  · rintro ⟨x,h1,h2,h3⟩; exact ⟨_,Bhd.2 ⟨x,h1,h2,rfl⟩,h3⟩
  · rintro ⟨w,h1,rfl⟩
    obtain ⟨x,h3,h4,rfl⟩:=Bhd.1 h1
    exact ⟨x,h3,h4,rfl⟩
theorem Bhk {b:Ee} (hv:N6 b):(∀ w,¬ w ∈ Be8 b)↔Bew b=[]:=by
  rw [List.eq_nil_iff_forall_not_mem]
  constructor
  · intro h v hv2
    obtain ⟨w,h1,_⟩:=(Bft hv).1 ((Bfl hv).1 hv2)
    exact h w h1
  · intro h w hw
    exact h _ ((Bfl hv).2 ((Bft hv).2 ⟨w,hw,rfl⟩))
theorem Bk6 {b:Ee} (hv:N6 b) {k:Nat} (hk:k < b.vs.length) (f:Liq→Int) (y:Int):(∃ v,v ∈ Be8 b∧f (B0 v k)=y)↔Bjk b k f y:=by
  constructor
  · rintro ⟨w,h1,h2⟩
    exact ⟨_,(Bft hv).2 ⟨w,h1,rfl⟩,by rw [Bes hk]; exact h2⟩
  · rintro ⟨v,h1,h2⟩
    obtain ⟨w,h3,rfl⟩:=(Bft hv).1 h1
    exact ⟨w,h3,by rw [Bes hk] at h2; exact h2⟩
def Bef (b:Ee) (i:Nat):Bnd:=⟨Bhx ((Bew b).map fun v=>(B0 v i).g),Bhx ((Bew b).map fun v=>(B0 v i).e),Bhx ((Bew b).map fun v=>Qd (B0 v i))⟩
def Bgf (b:Ee):List Bnd:=(List.range b.vs.length).map (Bef b)
theorem Bd7 (b:Ee):(Bgf b).length=b.vs.length:=by simp [Bgf]
theorem Bh2 {b:Ee} {i:Nat} (h:i < b.vs.length):(Bgf b).getD i default=Bef b i:=by simp [Bgf,h,List.getD]
theorem Bfm {b:Ee} (hv:N6 b) (h:Bew b≠[]) (i:Nat):IsW (Bjk b i (·.g)) (Bef b i).g∧IsW (Bjk b i (·.e)) (Bef b i).e∧IsW (Bjk b i Qd) (Bef b i).k:=
  ⟨Bgq hv h i (·.g),Bgq hv h i (·.e),Bgq hv h i Qd⟩
theorem Bgz {b:Ee} (hf:B5 b=0):Beq b=if Bew b=[] then .tup [C3,i64 9] else .tup [.p (.sl ((Bgf b).map Bet)),i64 0]:=by
  have hv:=Abs hf
  obtain ⟨h1,h2⟩:=Bhm (Be8 b) (List.replicate b.vs.length default,true) (fun _=>False) List.length_replicate (.inl ⟨rfl,fun _=>id⟩)
  unfold Beq
  rw [if_pos hf]
  generalize Bh6 b.vs.length (List.replicate b.vs.length default,true) (Be8 b)=r at h1 h2
  obtain ⟨l,f⟩:=r
  rcases h2 with ⟨h2,h3⟩ | ⟨h2,h3⟩
  · have h2:f=true:=h2
    subst h2
    rw [if_pos ((Bhk hv).1 fun w hw=>h3 w (.inr hw))]
  · have h2:f=false:=h2
    subst h2
    have hne:Bew b≠[]:=fun he=>by
      have h0:=(Bhk hv).2 he
      obtain ⟨v,hv0,_⟩:=(h3 0 (Afs hf).2.2.1).1.1
      exact h0 v (hv0.elim False.elim id)
    rw [if_neg hne]
    have hl:l=Bgf b:=by
      refine List.ext_getElem (by rw [Bd7]; exact h1) fun k hk1 hk2=>?_
      have hk:k < b.vs.length:=by rw [Bd7] at hk2; exact hk2
      obtain ⟨a1,a2,a3⟩:=h3 k hk
      obtain ⟨b1,b2,b3⟩:=Bfm hv hne k
      have c:∀ (f:Liq→Int) (y:Int),(∃ v,(False∨v ∈ Be8 b)∧f (B0 v k)=y)↔Bjk b k f y:=fun f y=>by
        rw [← Bk6 hv hk]
        exact ⟨fun ⟨v,h4,h5⟩=>⟨v,h4.elim False.elim id,h5⟩,fun ⟨v,h4,h5⟩=>⟨v,.inr h4,h5⟩⟩
      have e1:=(a1.congr (c (·.g))).unique b1
      have e2:=(a2.congr (c (·.e))).unique b2
      have e3:=(a3.congr (c Qd)).unique b3
      have g1:l[k]=l.getD k default:=by simp [List.getD,hk1]
      have g2:(Bgf b)[k]=Bef b k:=by rw [← Bh2 hk]; simp [List.getD,hk2]
      rw [g1,g2]
      dsimp only at e1 e2 e3
      generalize l.getD k default=x at *
      generalize Bef b k=y at *
      cases x; cases y
      dsimp only at e1 e2 e3
      rw [e1,e2,e3]
    rw [hl]
def Biu (b:Ee) (m:Int):Bool:=Bf2 b ⟨[],[],[]⟩&&(decide (¬ B5 b=0)||decide (Bel b≤m))
theorem Bls (b:Ee) (m:Int):Bt Tryz.prog 23 [avB b,i64 m] (bl (Biu b m)):=by
  refine Bn (v:=[]) (q:=[]) (N:=19) (rs:=[.tmp 4]) Tryz.func23 rfl rfl rfl rfl rfl ?_
  cases hth:Bf2 b ⟨[],[],[]⟩
  case' true=>by_cases hf:B5 b=0
  all_goals
    first | (have hf:=hf) | (have hf:=hth)
    refine Bd2 fun K1 hK1=>?_
    simp (disch:=omega) only [amL,sA,sB,↓reduceIte]
    refine hK1 _ ?_
    refine Bd2 fun K2 hK2=>?_
    simp (disch:=omega) only [amL,amT,sA,sB,sF,↓reduceIte]
    repeat' first | (refine E0 (fun h=>?_) (fun h=>?_) <;> simp (disch:=omega) only [h,hth,hf,ne_eq,amL,amT,sA,sB,sC,sD,sE,sF,sG,sH,sI,sJ,sK,sL,sM,sN,sO,↓reduceIte,reduceCtorEq]) | (refine Cz (fun h=>?_) (fun h=>?_) <;> simp (disch:=omega) only [h,hth,hf,ne_eq,amL,amT,sA,sB,sC,sD,sE,sF,sG,sH,sI,sJ,sK,sL,sM,sN,sO,↓reduceIte,reduceCtorEq]) | (refine Aw (by kernel_rfl) rfl (Bjx b) (by first | exact .inl rfl | exact .inr (.inl rfl)) ?_ ; simp (disch:=omega) only [hth,amL,amT,sA,sB,sF,↓reduceIte]) | (refine Aw (by kernel_rfl) rfl (Bhw b (Bkj hth).1 (Bkj hth).2) (by first | exact .inl rfl | exact .inr (.inl rfl)) ?_ ; simp (disch:=omega) only [hf,ne_eq,amL,amT,sA,sB,sF,↓reduceIte]) | (refine Aw (by kernel_rfl) rfl (Bgi b (Abs hf)) (by first | exact .inl rfl | exact .inr (.inl rfl)) ?_ ; simp (disch:=omega) only [amL,amT,sA,sF,↓reduceIte,reduceCtorEq])
    all_goals
     skip
     refine hK2 _ ?_
     refine Ah ?_
     try simp (disch:=omega) only [amL,↓reduceIte]
     all_goals first | (unfold Biu; rw [hth]; rfl) | (unfold Biu; rw [hth,decide_eq_true hf]; rfl) | (simp only [Biu,hth,hf,not_true_eq_false,decide_false,Bool.false_or,Bool.true_and]; done) | trace_state
theorem Bj8 {b:Ee} {m:Int} (h:Biu b m=true):Bf2 b ⟨[],[],[]⟩=true:=by
 unfold Biu at h; rw [Bool.and_eq_true] at h; exact h.1
theorem Bec {b:Ee} {i:Nat} (h:i < b.vs.length):((Bgf b).map Bet).getD i []=[iv (Bef b i).g.lo,iv (Bef b i).g.hi,iv (Bef b i).e.lo,iv (Bef b i).e.hi,iv (Bef b i).k.lo,iv (Bef b i).k.hi]:=by
 rw [Bfj (by rw [Bd7]; exact h),Bh2 h]; rfl
theorem Beb (b:Ee):((Bgf b).map Bet).length=b.vs.length:=by rw [List.length_map,Bd7]
theorem Bl0 {b:Ee} (hz:b.vs.length < 1000000∧b.ss.length < 1000000) (hf:B5 b=0) (he:Bew b=[]):Bt Tryz.prog 24 [avB b] (.tup [C3,i64 9]):=by
 have h:=Bh8 b hz.1 hz.2
 rwa [Bgz hf,if_pos he] at h
theorem Bl4 {b:Ee} (hz:b.vs.length < 1000000∧b.ss.length < 1000000) (hf:B5 b=0) (he:¬ Bew b=[]):Bt Tryz.prog 24 [avB b] (.tup [.p (.sl ((Bgf b).map Bet)),i64 0]):=by
 have h:=Bh8 b hz.1 hz.2
 rwa [Bgz hf,if_neg he] at h
theorem Bkk {b:Ee} {t:Tru} (hf:B5 b=0) (hl:F1 b t=true) (hx:(Bd6 b t).2=true):Dk b t=.tup [.p (.sl (stL (Bd6 b t).1)),i64 0]:=by
 have hv:=Abs hf
 obtain ⟨e1,e2⟩:=Bf7 t hv
 have e3:(Mo b t).2=true:=e1.trans hx
 unfold Dk
 rw [if_pos hf,if_pos hl,if_pos e3,e2 e3]; rfl
theorem Bma {b:Ee} {t:Tru} (hf:B5 b=0) (hl:F1 b t=true) (hx:(Bd6 b t).2=true):Bt Tryz.prog 15 [avB b,avT t] (.tup [.p (.sl (stL (Bd6 b t).1)),i64 0]):=by
 have hv:=Abs hf
 obtain ⟨h1,h2,h3,_⟩:=Dj hl
 have hnv:=hv.nv
 have hns:=hv.ns
 have h:=Ar6 b t (by omega) (by omega) (by rw [Ane]; omega)
 rwa [Bkk hf hl hx] at h
theorem Blb {b:Ee} (hv:N6 b):Bt Tryz.prog 16 [avB b] (avB b):=Bkr b (Nat.lt_of_le_of_lt hv.nv (by decide)) (Nat.lt_of_le_of_lt hv.ns (by decide))
theorem Blx {b:Ee} {t:Tru} (hv:N6 b) (hl:F1 b t=true):Bt Tryz.prog 17 [avT t] (avT t):=by
 obtain ⟨h1,h2,h3,_⟩:=Dj hl
 have hnv:=hv.nv
 have hns:=hv.ns
 exact Bkp t (by omega) (by omega) (by omega)
theorem Bed (v:List Liq):(stL v).length=v.length:=by unfold stL; rw [List.length_map]
theorem Bg9 {b:Ee} {t:Tru} (hf:B5 b=0) (hl:F1 b t=true) (hx:(Bd6 b t).2=true):(Bd6 b t).1.length=b.vs.length:=by
 have hv:=Abs hf
 have hnv:=hv.nv
 obtain ⟨e1,e2⟩:=Bf7 t hv
 rw [← e2 (e1.trans hx),List.length_take,(Amq hv hl).1]; omega
theorem Bjr (n:Int) (r:Rng):Bt Tryz.prog 46 [i64 n,avR r] (bl (Jn r n)):=by
  refine Bn (v:=[]) (q:=[]) (N:=15) (rs:=[.tmp 4]) Tryz.func46 rfl rfl rfl rfl rfl ?_
  refine Bd2 fun K1 hK1=>?_
  simp (disch:=omega) only [amL,sA,sB,↓reduceIte,reduceCtorEq]
  refine hK1 _ ?_
  refine Bd2 fun K2 hK2=>?_
  simp (disch:=omega) only [amL,amT,sA,sF,↓reduceIte,reduceCtorEq]
  repeat' first | (refine E0 (fun h=>?_) (fun h=>?_) <;> simp (disch:=omega) only [h,amL,amT,sA,sF,↓reduceIte,reduceCtorEq]) | (refine Cz (fun h=>?_) (fun h=>?_) <;> simp (disch:=omega) only [h,amL,amT,sA,sB,sC,sD,sE,sF,sG,sH,sI,sJ,sK,sL,sM,sN,sO,↓reduceIte,reduceCtorEq])
  all_goals
   skip
   refine hK2 _ ?_
   refine Ah ?_
   try simp (disch:=omega) only [amL,↓reduceIte]
   all_goals first | (unfold Jn inB; rw [decide_eq_true (show r.lo≤n by omega)]; rfl) | (unfold Jn inB; rw [decide_eq_false (show ¬ r.lo≤n by omega)]; rfl) | trace_state
def Bjp (b:Ee) (t:Tru):AV:=if (Bd6 b t).2=true then .tup [.p (.sl (stL (Bd6 b t).1)),bl true,bl true] else .tup [C3,bl false,bl true]
theorem Bj5 (b:Ee) (t:Tru):(Bjp b t).isP=true:=by unfold Bjp; split <;> rfl
theorem Bl7 {b:Ee} {t:Tru} (hf:B5 b=0) (hl:F1 b t=true) (hx:(Bd6 b t).2=false):Bt Tryz.prog 15 [avB b,avT t] (.tup [C3,i64 11]):=by
  have hv:=Abs hf
  obtain ⟨h1,h2,h3,_⟩:=Dj hl
  have hnv:=hv.nv
  have hns:=hv.ns
  have h:=Ar6 b t (by omega) (by omega) (by rw [Ane]; omega)
  have e:Dk b t=.tup [C3,i64 11]:=by
    unfold Dk
    rw [if_pos hf,if_pos hl,if_neg (by rw [(Bf7 t hv).1,hx]; decide)]
  rwa [e] at h
theorem Bkx (b:Ee) (w:Int) (hf:B5 b=0) (hw:0≤w∧w≤100000000):Bt Tryz.prog 43 [avB b,i64 w] (Bjp b (Beo b (w % Bel b))):=by
  refine Bn (v:=[]) (q:=[]) (N:=57) (rs:=[.tmp 4,.tmp 5,.tmp 6]) Tryz.func43 rfl rfl rfl rfl (Bj5 _ _) ?_
  have hv:=Abs hf
  have hnv:=hv.nv
  have hns:=hv.ns
  have hmb:=Bf0 hv b.ss.length
  rw [List.take_length] at hmb
  have hmo:w.tmod (Bel b)=w % Bel b:=Int.tmod_eq_emod_of_nonneg hw.1
  have hmb2:1≤Bel b:=hmb.1
  have hmod:=Bgr (m:=w) hmb2
  have hmod2:w % Bel b≤w:=by
    have:=Int.mul_ediv_add_emod w (Bel b)
    have:=Int.mul_nonneg (show 0≤Bel b by omega) (Int.ediv_nonneg hw.1 (show 0≤Bel b by omega))
    omega
  obtain ⟨t,ht⟩:∃ t,t=Beo b (w % Bel b):=⟨_,rfl⟩
  have hl:F1 b t=true:=by rw [ht]; exact Bev hv _
  have hrn:=Blt b (w % Bel b) hv hmod.1 (by omega)
  rw [← ht] at hrn ⊢
  cases hx:(Bd6 b t).2
  all_goals
    first | (have hg:=Bg9 hf hl hx) | (have hg:=hmo)
    refine Bd2 fun K1 hK1=>?_
    simp (disch:=omega) only [amL,sA,sB,↓reduceIte]
    refine hK1 _ ?_
    refine Aa fun K2 hK2=>?_
    refine Ce (by kernel_rfl) (by kernel_rfl) ?_
    simp (disch:=omega) only [amL,amT,sA,sB,sF,↓reduceIte,reduceCtorEq]
    repeat' first | (refine Aw (by kernel_rfl) rfl (Bgi b hv) (by first | exact .inl rfl | exact .inr (.inl rfl)) ?_ ; simp (disch:=omega) only [hg,hmo,amL,amT,sA,sF,↓reduceIte]) | (refine Aw (by kernel_rfl) rfl (hrn) (by first | exact .inl rfl | exact .inr (.inl rfl)) ?_ ; simp (disch:=omega) only [amL,amT,sA,sB,sF,↓reduceIte])
    refine hK2 _ ?_
    refine Bd2 fun K3 hK3=>?_
    simp (disch:=omega) only [amL,amT,sA,sB,sF,↓reduceIte]
    repeat' first | (refine Aw (by kernel_rfl) rfl (Bk3 b t hv hl) (by first | exact .inl rfl | exact .inr (.inl rfl)) ?_ ; simp (disch:=omega) only [hx,amL,sA,sF,↓reduceIte])
    refine hK3 _ ?_
    refine Aa fun K4 hK4=>?_
    refine Ce (by kernel_rfl) (by kernel_rfl) ?_
    simp (disch:=omega) only [amL,amT,sA,sB,sF,↓reduceIte]
    repeat' first | (refine Aw (by kernel_rfl) rfl (Blb hv) (by first | exact .inl rfl | exact .inr (.inl rfl)) ?_ ; simp (disch:=omega) only [amL,amT,sA,sB,sF,↓reduceIte]) | (refine Aw (by kernel_rfl) rfl (Blx hv hl) (by first | exact .inl rfl | exact .inr (.inl rfl)) ?_ ; simp (disch:=omega) only [amL,sF,↓reduceIte]) | (refine Aw (by kernel_rfl) rfl (by first | exact Bma hf hl hx | exact Bl7 hf hl hx) (by first | exact .inl rfl | exact .inr (.inl rfl)) ?_ ; simp (disch:=omega) only [amL,sA,sF,↓reduceIte])
    refine hK4 _ ?_
    refine Bd2 fun K5 hK5=>?_
    simp (disch:=omega) only [Bed,hg,amL,amT,sA,sF,sO,↓reduceIte,reduceCtorEq]
    repeat' first | (refine E0 (fun h=>?_) (fun h=>?_) <;> simp (disch:=omega) only [h,hx,Bed,hg,hmo,amL,amT,sA,sB,sC,sD,sE,sF,sG,sH,sI,sJ,sK,sL,sM,sN,sO,↓reduceIte,reduceCtorEq]) | (refine Cz (fun h=>?_) (fun h=>?_) <;> simp (disch:=omega) only [h,hx,Bed,hg,hmo,amL,amT,sA,sB,sC,sD,sE,sF,sG,sH,sI,sJ,sK,sL,sM,sN,sO,↓reduceIte,reduceCtorEq])
    all_goals
     skip
     refine hK5 _ ?_
     refine Ah ?_
     try simp (disch:=omega) only [amL]
     all_goals (simp only [Bjp,hx,if_true,Bool.false_eq_true,if_false] ; first | done | rfl | trace_state)
theorem Bfn (l:Liq):(Azh l).k=Qd l:=rfl
theorem Bl3 {w n:Nat} (_:0 < n):(w:Int).tmod n=((w % n:Nat):Int):=by
  rw [Int.tmod_eq_emod_of_nonneg (by omega)]; omega
theorem Bln {P:Int→Prop} {r:Rng} {x:Int} (h:IsW P r) (hx:P x):Jn r x=true:=by
 have:=h.2.2 x hx
 simp only [Jn,inB,Bool.and_eq_true,decide_eq_true_eq]; exact this
def Bfc (b:Ee) (p:List Liq→Bool):Nat→Bool
  | 0=>false
  | k+1=>Bfc b p k||((Bd6 b (Beo b k)).2&&p (Bd6 b (Beo b k)).1)
theorem Bkb {b:Ee} {p:List Liq→Bool}:∀ (k n:Nat),n < k→(Bd6 b (Beo b n)).2=true→p (Bd6 b (Beo b n)).1=true→Bfc b p k=true
  | 0,n,h,_,_=>by omega
  | k+1,n,h,h1,h2=>by
    unfold Bfc
    by_cases e:n=k
    · subst e; rw [h1,h2]; simp
    · rw [Bkb k n (by omega) h1 h2,Bool.true_or]
theorem Bfu {b:Ee} {p:List Liq→Bool} (h:∃ v,Bka b v∧p v=true):Bfc b p (Bel b).toNat=true:=by
  obtain ⟨v,⟨t,h1,h2,rfl⟩,h3⟩:=h
  obtain ⟨n,a1,a2,rfl⟩:=Bia h1
  refine Bkb _ n.toNat (by omega) ?_ ?_ <;> rw [show ((n.toNat:Nat):Int)=n by omega] <;> assumption
def atL (b:Ee) (i:Nat) (v:List Liq):List Bool:=[decide ((B0 v i).g=(Bef b i).g.lo),decide ((B0 v i).g=(Bef b i).g.hi),decide ((B0 v i).e=(Bef b i).e.lo),decide ((B0 v i).e=(Bef b i).e.hi),decide (Qd (B0 v i)=(Bef b i).k.lo),decide (Qd (B0 v i)=(Bef b i).k.hi)]
def rcL (b:Ee) (i n:Nat):List Bool:=[Bfc b (fun v=>decide ((B0 v i).g=(Bef b i).g.lo)) n,Bfc b (fun v=>decide ((B0 v i).g=(Bef b i).g.hi)) n,Bfc b (fun v=>decide ((B0 v i).e=(Bef b i).e.lo)) n,Bfc b (fun v=>decide ((B0 v i).e=(Bef b i).e.hi)) n,Bfc b (fun v=>decide (Qd (B0 v i)=(Bef b i).k.lo)) n,Bfc b (fun v=>decide (Qd (B0 v i)=(Bef b i).k.hi)) n]
def orB (r a:List Bool):Nat→List Bool
  | 0=>r
  | k+1=>(orB r a k).set k (r.getD k false||a.getD k false)
theorem Bd3 {r a:List Bool}:∀ k,(orB r a k).length=r.length
  | 0=>rfl
  | k+1=>by unfold orB; rw [List.length_set]; exact Bd3 k
theorem Beg {r a:List Bool} {j:Nat}:∀ k,k≤j→(orB r a k).getD j false=r.getD j false
  | 0,_=>rfl
  | k+1,h=>by
    unfold orB
    rw [List.getD_eq_getElem?_getD,List.getElem?_set,if_neg (by omega),← List.getD_eq_getElem?_getD]
    exact Beg k (by omega)
abbrev cBl (l:List Bool):List AV:=l.map fun x=>bl x
theorem Bkv {b:Ee} {i n:Nat} (h:(Bd6 b (Beo b n)).2=true):orB (rcL b i n) (atL b i (Bd6 b (Beo b n)).1) 6=rcL b i (n+1):=by
  have e:∀ p,Bfc b p (n+1)=(Bfc b p n||p (Bd6 b (Beo b n)).1):=fun p=>by
    show (_||(_&&_))=_
    rw [h,Bool.true_and]
  unfold rcL atL
  simp only [e]; rfl
theorem Bk7 {b:Ee} {i n k:Nat} (hk:k=6) (h:(Bd6 b (Beo b n)).2=true):orB (rcL b i n) (atL b i (Bd6 b (Beo b n)).1) k=rcL b i (n+1):=by subst hk; exact Bkv h
theorem Bi0 {b:Ee} {i n:Nat} (h:(Bd6 b (Beo b n)).2=false):rcL b i n=rcL b i (n+1):=by
  have e:∀ p,Bfc b p (n+1)=Bfc b p n:=fun p=>by
    show (_||(_&&_))=_
    rw [h,Bool.false_and,Bool.or_false]
  unfold rcL
  simp only [e]
theorem Bli {b:Ee} (hv:N6 b) (h:¬ Bew b=[]) (i:Nat):rcL b i (Bel b).toNat=[true,true,true,true,true,true]:=by
  obtain ⟨⟨h1,h2,_⟩,⟨h3,h4,_⟩,⟨h5,h6,_⟩⟩:=Bfm hv h i
  unfold rcL
  rw [Bfu (h1.imp fun v h=>⟨h.1,decide_eq_true h.2⟩),Bfu (h2.imp fun v h=>⟨h.1,decide_eq_true h.2⟩),Bfu (h3.imp fun v h=>⟨h.1,decide_eq_true h.2⟩),Bfu (h4.imp fun v h=>⟨h.1,decide_eq_true h.2⟩),Bfu (h5.imp fun v h=>⟨h.1,decide_eq_true h.2⟩),Bfu (h6.imp fun v h=>⟨h.1,decide_eq_true h.2⟩)]
theorem Bd5 (b:Ee) (i n:Nat):(rcL b i n).length=6:=rfl
theorem Bd4 (b:Ee) (i:Nat) (v:List Liq):(atL b i v).length=6:=rfl
theorem tkB {sz k:Nat} {l:List Bool} (h:k < l.length):Ai false sz ((cBl l).drop k)=some (bl (l.getD k false)):=by
  rw [List.drop_eq_getElem_cons (by simpa using h)]
  simp [Ai,List.getD,h]
theorem Bfp {l:List Bool} {k:Nat} {x:Bool}:(cBl l).set k (bl x)=cBl (l.set k x):=by
  unfold cBl; rw [List.map_set]
theorem Bid {r a:List Bool} {k:Nat} {x:Bool} (h:x=(r.getD k false||a.getD k false)):(orB r a k).set k x=orB r a (k+1):=by rw [h]; rfl
def bnL (b:Ee):AV:=if Bew b=[] then C3 else .p (.sl ((Bgf b).map Bet))
def bnE (b:Ee):Int:=if Bew b=[] then 9 else 0
theorem Bl9 {b:Ee} (hz:b.vs.length < 1000000∧b.ss.length < 1000000) (hf:B5 b=0):Bt Tryz.prog 24 [avB b] (.tup [bnL b,i64 (bnE b)]):=by
  unfold bnL bnE
  by_cases he:Bew b=[]
  · rw [if_pos he,if_pos he]; exact Bl0 hz hf he
  · rw [if_neg he,if_neg he]; exact Bl4 hz hf he
theorem Bin {ks:List Nat}:∀ l:List Bool,nmL ks (cBl l)=true
  | []=>rfl
  | x :: l=>by
    have:=Bin (ks:=ks) l
    simpa [cBl,nmL,nm] using this
theorem Bjg {b:Ee} (hv:N6 b) (he:Bew b=[]) (n:Nat):(Bd6 b (Beo b n)).2=false:=by
  cases h:(Bd6 b (Beo b n)).2 with
  | false=>rfl
  | true=>
    have:(Bd6 b (Beo b n)).1 ∈ Bew b:=(Bfl hv).2 ⟨_,Bev hv n,h,rfl⟩
    rw [he] at this; cases this
theorem Bkq {b:Ee} {n:Nat} (h:n < (Bel b).toNat):(n:Int) % Bel b=n:=Int.emod_eq_of_lt (by omega) (by omega)
def plL (b:Ee) (n:Nat):AV:=if (Bd6 b (Beo b n)).2=true then .p (.sl (stL (Bd6 b (Beo b n)).1)) else C3
theorem Bl2 {b:Ee} {n:Nat} (hf:B5 b=0) (h:n < (Bel b).toNat):Bt Tryz.prog 43 [avB b,i64 (n:Int)] (.tup [plL b n,bl (Bd6 b (Beo b n)).2,bl true]):=by
  have hm:=Bi4 (Abs hf)
  have:=Bkx b n hf ⟨by omega,by omega⟩
  rw [Bkq h] at this
  unfold Bjp at this
  unfold plL
  cases hx:(Bd6 b (Beo b n)).2 <;> simpa [hx] using this
theorem c_wortEnds (b:Ee) (w:Nat) (_:An7 b) (hw:w < 256):Bt Tryz.prog 8 [avB b,.p (.val (.int .u8 w))] (bl true):=by
  refine Bn (v:=[]) (q:=[]) (N:=171) (rs:=[.tmp 4]) Tryz.func8 rfl rfl rfl rfl rfl ?_
  cases hq:Biu b 200
  case' true=>
    have hz:=Bkj (Bj8 hq)
    by_cases hf:B5 b=0
    case' pos=>
      have hv:=Abs hf
      have hn0:=(Afs hf).2.2.1
      have hmo:=Bl3 (w:=w) hn0
      obtain ⟨i,hi⟩:∃ i,i=w % b.vs.length:=⟨_,rfl⟩
      have hil:i < b.vs.length:=by rw [hi]; exact Nat.mod_lt _ hn0
      rw [← hi] at hmo
      have hm:=Bi4 hv
      have hnv:=hv.nv
      by_cases he:Bew b=[]
  all_goals
    first
    | (have hA:bnL b=.p (.sl ((Bgf b).map Bet)):=if_neg he
       have hC:bnE b=0:=if_neg he
       have hb1:∀ n,(Bd6 b (Beo b n)).2=true→Jn (Bef b i).g (B0 (Bd6 b (Beo b n)).1 i).g=true:=fun n h=>Bln (Bfm hv he i).1 ⟨_,⟨_,Bev hv n,h,rfl⟩,rfl⟩
       have hb2:∀ n,(Bd6 b (Beo b n)).2=true→Jn (Bef b i).e (B0 (Bd6 b (Beo b n)).1 i).e=true:=fun n h=>Bln (Bfm hv he i).2.1 ⟨_,⟨_,Bev hv n,h,rfl⟩,rfl⟩
       have hb3:∀ n,(Bd6 b (Beo b n)).2=true→Jn (Bef b i).k (Qd (B0 (Bd6 b (Beo b n)).1 i))=true:=fun n h=>Bln (Bfm hv he i).2.2 ⟨_,⟨_,Bev hv n,h,rfl⟩,rfl⟩)
    | (have hA:bnL b=C3:=if_pos he
       have hC:bnE b=9:=if_pos he
       have hN:=Bjg hv he
       have hb1:=hq; have hb2:=hq; have hb3:=hq)
    | (have hA:=hq; have hC:=hq; have hb1:=hq; have hb2:=hq; have hb3:=hq)
    first | (have hmo:=hmo) | (have hmo:=hq)
    first | (have hN:=hN) | (have hN:=hq)
    first | (have hf:=hf) | (have hf:=hq)
    refine Bd2 fun K1 hK1=>?_
    simp (disch:=(first | assumption | omega | (simp only [Bd3,Bd5]; omega) | (simp only [Bd4]; omega))) only [eq_self,decide_true,amL,sA,sB,↓reduceIte]
    refine hK1 _ ?_
    refine Aa fun K2 hK2=>?_
    refine Bd2 fun K3 hK3=>?_
    simp (disch:=(first | assumption | omega | (simp only [Bd3,Bd5]; omega) | (simp only [Bd4]; omega))) only [eq_self,decide_true,amL,amT,sA,sB,sF,↓reduceIte]
    repeat' first | (refine E0 (fun h=>?_) (fun h=>?_) <;> simp (disch:=(first | assumption | omega | (simp only [Bd3,Bd5]; omega) | (simp only [Bd4]; omega))) only [h,hq,hN,hA,hC,hf,hb1,hb2,hb3,hmo,Bej,Bed,Be4,Be5,Bfn,tkB,Bfp,Beg,Bec,Beb,Bd7,Di,ne_eq,eq_self,not_true_eq_false,decide_false,decide_true,List.length_map,amL,amT,sA,sB,sC,sD,sE,sF,sG,sH,sI,sJ,sK,sL,sM,sN,sO,↓reduceIte,reduceCtorEq]) | (refine Cz (fun h=>?_) (fun h=>?_) <;> simp (disch:=(first | assumption | omega | (simp only [Bd3,Bd5]; omega) | (simp only [Bd4]; omega))) only [h,hq,hN,hA,hC,hf,hb1,hb2,hb3,hmo,Bej,Bed,Be4,Be5,Bfn,tkB,Bfp,Beg,Bec,Beb,Bd7,Di,ne_eq,eq_self,not_true_eq_false,decide_false,decide_true,List.length_map,amL,amT,sA,sB,sC,sD,sE,sF,sG,sH,sI,sJ,sK,sL,sM,sN,sO,↓reduceIte,reduceCtorEq]) | (refine Aw (by kernel_rfl) rfl (Bls b 200) (by first | exact .inl rfl | exact .inr (.inl rfl)) ?_ ; simp (disch:=(first | assumption | omega | (simp only [Bd3,Bd5]; omega) | (simp only [Bd4]; omega))) only [hq,eq_self,decide_true,amL,amT,sA,sB,sF,↓reduceIte]) | (refine Aw (by kernel_rfl) rfl (Bj4 b hz.1 hz.2) (by first | exact .inl rfl | exact .inr (.inl rfl)) ?_ ; simp (disch:=(first | assumption | omega | (simp only [Bd3,Bd5]; omega) | (simp only [Bd4]; omega))) only [hf,ne_eq,eq_self,not_true_eq_false,decide_false,decide_true,amL,amT,sA,sF,↓reduceIte])
    all_goals
     skip
     refine hK3 _ ?_
     refine Aj rfl (fun h=>MT.x ?_) (fun h=>ME.x ?_)
     all_goals
      first
      |refine MT.mk ?_
       first
       |exact Bool.noConfusion h
       |((try simp only [] at h) ; exfalso ; omega)
       |skip
        try simp only [] at h
        refine Bd2 fun K4 hK4=>?_
        simp (disch:=(first | assumption | omega | (simp only [Bd3,Bd5]; omega) | (simp only [Bd4]; omega))) only [amL]
        repeat' first | (refine Aw (by kernel_rfl) rfl (Bdn) (by first | exact .inl rfl | exact .inr (.inl rfl)) ?_ ; simp (disch:=(first | assumption | omega | (simp only [Bd3,Bd5]; omega) | (simp only [Bd4]; omega))) only [eq_self,decide_true,amL,sA,↓reduceIte])
        refine hK4 _ ?_
        refine Ah ?_
        try simp (disch:=(first | assumption | omega | (simp only [Bd3,Bd5]; omega) | (simp only [Bd4]; omega))) only [eq_self,amL,↓reduceIte]
        all_goals first | rfl | trace_state
      |refine ME.mk ?_
       first
       |exact Bool.noConfusion h
       |((try simp only [] at h) ; exfalso ; omega)
       |skip
        try simp only [] at h
        refine Ak ?_
        refine hK2 _ ?_
     all_goals
      skip
      refine Bd2 fun K5 hK5=>?_
      simp (disch:=(first | assumption | omega | (simp only [Bd3,Bd5]; omega) | (simp only [Bd4]; omega))) only [hmo,eq_self,decide_true,List.length_map,amL,amT,sA,sF,↓reduceIte,reduceCtorEq]
      refine hK5 _ ?_
      refine Bd2 fun K6 hK6=>?_
      simp (disch:=(first | assumption | omega | (simp only [Bd3,Bd5]; omega) | (simp only [Bd4]; omega))) only [eq_self,decide_true,amL,amT,sA,sB,sF,↓reduceIte]
      repeat' first | (refine Aw (by kernel_rfl) rfl (Blb hv) (by first | exact .inl rfl | exact .inr (.inl rfl)) ?_ ; simp (disch:=(first | assumption | omega | (simp only [Bd3,Bd5]; omega) | (simp only [Bd4]; omega))) only [eq_self,amL,↓reduceIte]) | (refine Aw (by kernel_rfl) rfl (Bl9 hz hf) (by first | exact .inl rfl | exact .inr (.inl rfl)) ?_ ; simp (disch:=(first | assumption | omega | (simp only [Bd3,Bd5]; omega) | (simp only [Bd4]; omega))) only [hA,hC,eq_self,decide_true,amL,sA,sF,↓reduceIte])
      refine hK6 _ ?_
      refine Aa fun K7 hK7=>?_
      refine Bd2 fun K8 hK8=>?_
      simp (disch:=(first | assumption | omega | (simp only [Bd3,Bd5]; omega) | (simp only [Bd4]; omega))) only [Bd7,ne_eq,eq_self,not_true_eq_false,decide_false,decide_true,List.length_map,amL,amT,sA,sF,sO,↓reduceIte,reduceCtorEq]
      repeat' first | (refine E0 (fun h=>?_) (fun h=>?_) <;> simp (disch:=(first | assumption | omega | (simp only [Bd3,Bd5]; omega) | (simp only [Bd4]; omega))) only [h,hq,hN,hA,hC,hf,hb1,hb2,hb3,hmo,Bej,Bed,Be4,Be5,Bfn,tkB,Bfp,Beg,Bec,Beb,Bd7,Di,ne_eq,eq_self,not_true_eq_false,decide_false,decide_true,List.length_map,amL,amT,sA,sB,sC,sD,sE,sF,sG,sH,sI,sJ,sK,sL,sM,sN,sO,↓reduceIte,reduceCtorEq]) | (refine Cz (fun h=>?_) (fun h=>?_) <;> simp (disch:=(first | assumption | omega | (simp only [Bd3,Bd5]; omega) | (simp only [Bd4]; omega))) only [h,hq,hN,hA,hC,hf,hb1,hb2,hb3,hmo,Bej,Bed,Be4,Be5,Bfn,tkB,Bfp,Beg,Bec,Beb,Bd7,Di,ne_eq,eq_self,not_true_eq_false,decide_false,decide_true,List.length_map,amL,amT,sA,sB,sC,sD,sE,sF,sG,sH,sI,sJ,sK,sL,sM,sN,sO,↓reduceIte,reduceCtorEq])
      all_goals
       skip
       refine hK8 _ ?_
       refine Aj rfl (fun h=>MT.x ?_) (fun h=>ME.x ?_)
       all_goals
        first
        |refine MT.mk ?_
         first
         |exact Bool.noConfusion h
         |((try simp only [nrm] at h) ; exfalso ; omega)
         |skip
          try simp only [nrm] at h
          refine Bd2 fun K9 hK9=>?_
          simp (disch:=(first | assumption | omega | (simp only [Bd3,Bd5]; omega) | (simp only [Bd4]; omega))) only [hq,hN,hA,hC,hf,hb1,hb2,hb3,hmo,Bej,Bed,Be4,Be5,Bfn,tkB,Bfp,Beg,Bec,Beb,Bd7,Di,ne_eq,eq_self,not_true_eq_false,decide_false,decide_true,List.length_map,amL,amT,sA,sB,sC,sD,sE,sF,sG,sH,sI,sJ,sK,sL,sM,sN,sO,↓reduceIte,reduceCtorEq]
          refine hK9 _ ?_
          refine Ah ?_
          try simp (disch:=(first | assumption | omega | (simp only [Bd3,Bd5]; omega) | (simp only [Bd4]; omega))) only [hq,hN,hA,hC,hf,hb1,hb2,hb3,hmo,Bej,Bed,Be4,Be5,Bfn,tkB,Bfp,Beg,Bec,Beb,Bd7,Di,ne_eq,eq_self,not_true_eq_false,decide_false,decide_true,List.length_map,amL,amT,sA,sB,sC,sD,sE,sF,sG,sH,sI,sJ,sK,sL,sM,sN,sO,↓reduceIte,reduceCtorEq]
          all_goals first | rfl | trace_state
        |refine ME.mk ?_
         first
         |exact Bool.noConfusion h
         |((try simp only [] at h) ; exfalso ; omega)
         |skip
          try simp only [] at h
          refine Ak ?_
          refine hK7 _ ?_
       all_goals
        skip
        refine Bd2 fun K10 hK10=>?_
        simp (disch:=(first | assumption | omega | (simp only [Bd3,Bd5]; omega) | (simp only [Bd4]; omega))) only [eq_self,decide_true,amL,amT,sA,sB,sF,↓reduceIte]
        refine hK10 _ ?_
        refine Aa fun K11 hK11=>?_
        refine Bd2 fun K12 hK12=>?_
        simp (disch:=(first | assumption | omega | (simp only [Bd3,Bd5]; omega) | (simp only [Bd4]; omega))) only [eq_self,decide_true,amL,sA]
        refine hK12 _ ?_
        refine Ap ?_
        skip
        refine Be (α:=Nat) (fun n=>⟨T [(2,.ptr 2 0),(5,i64 (i:Int)),(6,bnL b),(7,i64 (bnE b)),(8,.ptr 8 0),(9,i64 (n:Int))],O [(2,.cells (cB b)),(8,.cells (cBl (rcL b i n)))]⟩) (fun n=>(Bel b).toNat - n) (fun n=>n≤(Bel b).toNat) 0 ?_ ?_ (fun n hx13 K13 hK13=>?_)
        · exact Nat.zero_le _
        · refine De ?_ ?_ ?_ ?_ <;> (try simp (disch:=(first | assumption | omega | (simp only [Bd3,Bd5]; omega) | (simp only [Bd4]; omega))) only [hA,hC,eq_self,amL,sF,sG,↓reduceIte]); all_goals first | rfl | exact ⟨rfl,rfl⟩ | trace_state
        have hk:=hx13
        refine Aa fun K14 hK14=>?_
        refine Bd2 fun K15 hK15=>?_
        simp (disch:=(first | assumption | omega | (simp only [Bd3,Bd5]; omega) | (simp only [Bd4]; omega))) only [hA,hC,eq_self,decide_true,amL,amT,sA,sB,sF,↓reduceIte]
        repeat' first | (refine Aw (by kernel_rfl) rfl (Bgi b hv) (by first | exact .inl rfl | exact .inr (.inl rfl)) ?_ ; simp (disch:=(first | assumption | omega | (simp only [Bd3,Bd5]; omega) | (simp only [Bd4]; omega))) only [eq_self,decide_true,amL,amT,sA,sF,↓reduceIte])
        refine hK15 _ ?_
        refine Aj rfl (fun h=>MT.x ?_) (fun h=>ME.x ?_)
        all_goals
         first
         |refine MT.mk ?_
          first
          |exact Bool.noConfusion h
          |((try simp only [nrm] at h) ; exfalso ; omega)
          |skip
           try simp only [nrm] at h
           refine Ak ?_
           refine hK14 _ ?_
         |refine ME.mk ?_
          first
          |exact Bool.noConfusion h
          |((try simp only [nrm] at h) ; exfalso ; omega)
          |skip
           try simp only [nrm] at h
           refine Bo ?_
           refine hK11 _ ?_
           refine Aa fun K16 hK16=>?_
           obtain rfl:n=(Bel b).toNat:=by omega
           first
             | (have hC9:bnE b=9:=hC
                refine Ac ?_
                simp (disch:=(first | assumption | omega | (simp only [Bd3,Bd5]; omega) | (simp only [Bd4]; omega))) only [ne_eq,eq_self,decide_true,amL,amT,sA,sF,sO,↓reduceIte]
                repeat' first | (refine E0 (fun h=>?_) (fun h=>?_) <;> simp (disch:=(first | assumption | omega | (simp only [Bd3,Bd5]; omega) | (simp only [Bd4]; omega))) only [hq,hN,hA,hC,hf,hb1,hb2,hb3,hmo,Bej,Bed,Be4,Be5,Bfn,tkB,Bfp,Beg,Bec,Beb,Bd7,Di,ne_eq,eq_self,not_true_eq_false,decide_false,decide_true,List.length_map,amL,amT,sA,sB,sC,sD,sE,sF,sG,sH,sI,sJ,sK,sL,sM,sN,sO,↓reduceIte,reduceCtorEq]) | (refine Aw (by kernel_rfl) rfl Bdn (by first | exact .inl rfl | exact .inr (.inl rfl)) ?_ ; simp (disch:=(first | assumption | omega | (simp only [Bd3,Bd5]; omega) | (simp only [Bd4]; omega))) only [eq_self,decide_true,amL,sA,sF,↓reduceIte]))
             | (have hrc:=Bli hv he i
                rw [hrc]
                refine Bjo 5 _ ?_
                simp only [List.take_succ_cons,List.take_zero,List.drop_succ_cons,List.drop_zero]
                simp (disch:=(first | assumption | omega | (simp only [Bd3,Bd5]; omega) | (simp only [Bd4]; omega))) only [ne_eq,eq_self,not_true_eq_false,decide_false,decide_true,amL,amT,sA,sB,sE,sF,↓reduceIte]
                refine AL.guard (t:=163) (g:=some false) (by decide) rfl rfl (fun _=>?_) (fun h=>absurd rfl h)
                refine Bjl (l:=[true,true,true,true,true,true]) (m:=[true,true,true,true,true,true]) (b:=true) rfl (by intro k hk; cases hk; decide) rfl rfl (by kernel_rfl) (fun w=>by kernel_rfl) (Dc ?_)
                simp (disch:=(first | assumption | omega | (simp only [Bd3,Bd5]; omega) | (simp only [Bd4]; omega))) only [eq_self,decide_true,amL,sA,sF,↓reduceIte]
                repeat' first | (refine E0 (fun h=>?_) (fun h=>?_) <;> simp (disch:=(first | assumption | omega | (simp only [Bd3,Bd5]; omega) | (simp only [Bd4]; omega))) only [hq,hN,hA,hC,hf,hb1,hb2,hb3,hmo,Bej,Bed,Be4,Be5,Bfn,tkB,Bfp,Beg,Bec,Beb,Bd7,Di,ne_eq,eq_self,not_true_eq_false,decide_false,decide_true,List.length_map,amL,amT,sA,sB,sC,sD,sE,sF,sG,sH,sI,sJ,sK,sL,sM,sN,sO,↓reduceIte,reduceCtorEq]) | (refine Aw (by kernel_rfl) rfl Bdn (by first | exact .inl rfl | exact .inr (.inl rfl)) ?_ ; simp (disch:=(first | assumption | omega | (simp only [Bd3,Bd5]; omega) | (simp only [Bd4]; omega))) only [eq_self,decide_true,amL,sA,sF,↓reduceIte]))
           refine hK16 _ ?_
           refine Ah ?_
           try simp (disch:=(first | assumption | omega | (simp only [Bd3,Bd5]; omega) | (simp only [Bd4]; omega))) only [eq_self,amL,↓reduceIte]
           all_goals first | rfl | trace_state
        all_goals
         skip
         refine Aa fun K17 hK17=>?_
         refine Ap ?_
         refine Bd2 fun K18 hK18=>?_
         simp (disch:=(first | assumption | omega | (simp only [Bd3,Bd5]; omega) | (simp only [Bd4]; omega))) only [eq_self,decide_true,amL,amT,sA,sB,sF,↓reduceIte]
         repeat' first | (refine Aw (by kernel_rfl) rfl (Bl2 hf (by omega)) (by first | exact .inl rfl | exact .inr (.inl rfl)) ?_ ; simp (disch:=(first | assumption | omega | (simp only [Bd3,Bd5]; omega) | (simp only [Bd4]; omega))) only [hN,eq_self,decide_true,amL,sA,sF,↓reduceIte])
         refine hK18 _ ?_
         refine Aa fun K19 hK19=>?_
         refine Bd2 fun K20 hK20=>?_
         simp (disch:=(first | assumption | omega | (simp only [Bd3,Bd5]; omega) | (simp only [Bd4]; omega))) only [eq_self,decide_true,amL,sA,sF,↓reduceIte]
         repeat' first | (refine E0 (fun h=>?_) (fun h=>?_) <;> simp (disch:=(first | assumption | omega | (simp only [Bd3,Bd5]; omega) | (simp only [Bd4]; omega))) only [h,hq,hN,hA,hC,hf,hb1,hb2,hb3,hmo,Bej,Bed,Be4,Be5,Bfn,tkB,Bfp,Beg,Bec,Beb,Bd7,Di,ne_eq,eq_self,not_true_eq_false,decide_false,decide_true,List.length_map,amL,amT,sA,sB,sC,sD,sE,sF,sG,sH,sI,sJ,sK,sL,sM,sN,sO,↓reduceIte,reduceCtorEq]) | (refine Cz (fun h=>?_) (fun h=>?_) <;> simp (disch:=(first | assumption | omega | (simp only [Bd3,Bd5]; omega) | (simp only [Bd4]; omega))) only [h,ne_eq,eq_self,not_true_eq_false,decide_false,decide_true,amL,amT,sA,sF,↓reduceIte])
         all_goals
          skip
          refine hK20 _ ?_
          refine Aj rfl (fun h=>MT.x ?_) (fun h=>ME.x ?_)
          all_goals
           first
           |refine MT.mk ?_
            first
            |exact Bool.noConfusion h
            |((try simp only [nrm] at h) ; exfalso ; omega)
            |skip
             try simp only [nrm] at h
             refine Bd2 fun K21 hK21=>?_
             simp (disch:=(first | assumption | omega | (simp only [Bd3,Bd5]; omega) | (simp only [Bd4]; omega))) only [hq,hN,hA,hC,hf,hb1,hb2,hb3,hmo,Bej,Bed,Be4,Be5,Bfn,tkB,Bfp,Beg,Bec,Beb,Bd7,Di,ne_eq,eq_self,not_true_eq_false,decide_false,decide_true,List.length_map,amL,amT,sA,sB,sC,sD,sE,sF,sG,sH,sI,sJ,sK,sL,sM,sN,sO,↓reduceIte,reduceCtorEq]
             refine hK21 _ ?_
             refine Ah ?_
             try simp (disch:=(first | assumption | omega | (simp only [Bd3,Bd5]; omega) | (simp only [Bd4]; omega))) only [hq,hN,hA,hC,hf,hb1,hb2,hb3,hmo,Bej,Bed,Be4,Be5,Bfn,tkB,Bfp,Beg,Bec,Beb,Bd7,Di,ne_eq,eq_self,not_true_eq_false,decide_false,decide_true,List.length_map,amL,amT,sA,sB,sC,sD,sE,sF,sG,sH,sI,sJ,sK,sL,sM,sN,sO,↓reduceIte,reduceCtorEq]
             all_goals first | rfl | trace_state
           |refine ME.mk ?_
            first
            |exact Bool.noConfusion h
            |((try simp only [] at h) ; exfalso ; omega)
            |skip
             try simp only [] at h
             refine Ak ?_
             refine hK19 _ ?_
          all_goals
           skip
           refine Aa fun K22 hK22=>?_
           refine Bd2 fun K23 hK23=>?_
           simp (disch:=(first | assumption | omega | (simp only [Bd3,Bd5]; omega) | (simp only [Bd4]; omega))) only [eq_self,decide_true,amL,sA,sF,↓reduceIte]
           refine hK23 _ ?_
           refine Aj rfl (fun h=>MT.x ?_) (fun h=>ME.x ?_)
           all_goals
            first
            |refine MT.mk ?_
             first
             |exact Bool.noConfusion h
             |((try simp only [] at h) ; exfalso ; omega)
             |skip
              try simp only [] at h
              refine Bo ?_
              refine hK17 _ ?_
              refine Ac ?_
              simp (disch:=(first | assumption | omega | (simp only [Bd3,Bd5]; omega) | (simp only [Bd4]; omega))) only [eq_self,decide_true,amL,amT,sA,sF,↓reduceIte]
              refine hK13 (n+1) _ ?_ ?_ (De ?_ ?_ ?_ ?_)
              all_goals (try simp (disch:=(first | assumption | omega | (simp only [Bd3,Bd5]; omega) | (simp only [Bd4]; omega))) only [hA,hC,eq_self,amL,sF,sG,↓reduceIte])
              all_goals first | omega | (rw [Bi0 (by first | assumption | exact hN _)]; done) | (rw [Bk7 (by omega) (by assumption)]; done) | rfl | trace_state
            |refine ME.mk ?_
             first
             |exact Bool.noConfusion h
             |((try simp only [] at h) ; exfalso ; omega)
             |skip
              try simp only [] at h
              refine Ak ?_
              refine hK22 _ ?_
           all_goals
            skip
            refine Aa fun K24 hK24=>?_
            refine Ab4 [.sto [84,85] 13,.sto [86] 13] (by kernel_rfl) (by kernel_rfl) ?_
            have hpl:plL b n=.p (.sl (stL (Bd6 b (Beo b n)).1)):=if_pos (by assumption)
            have hsl:=Bg9 hf (Bev hv n) (by assumption)
            simp (disch:=(first | assumption | omega | (simp only [Bd3,Bd5]; omega) | (simp only [Bd4]; omega))) only [hpl,hsl,Bej,Bed,Be4,Be5,Bfn,Bec,Bd7,eq_self,decide_true,List.length_map,amL,amT,sA,sB,sF,↓reduceIte]
            refine ⟨by simp [Cf.ok,Rr,T,AV.known,AV.clean],?_⟩
            all_goals
             skip
             refine hK24 _ ?_
             refine Aa fun K25 hK25=>?_
             refine Bd2 fun K26 hK26=>?_
             simp (disch:=(first | assumption | omega | (simp only [Bd3,Bd5]; omega) | (simp only [Bd4]; omega))) only [eq_self,decide_true,amL,amT,sA,sB,sE,sF,↓reduceIte,reduceCtorEq]
             repeat' first | (refine E0 (fun h=>?_) (fun h=>?_) <;> simp (disch:=(first | assumption | omega | (simp only [Bd3,Bd5]; omega) | (simp only [Bd4]; omega))) only [h,hq,hN,hA,hC,hf,hb1,hb2,hb3,hmo,Bej,Bed,Be4,Be5,Bfn,tkB,Bfp,Beg,Bec,Beb,Bd7,Di,ne_eq,eq_self,not_true_eq_false,decide_false,decide_true,List.length_map,amL,amT,sA,sB,sC,sD,sE,sF,sG,sH,sI,sJ,sK,sL,sM,sN,sO,↓reduceIte,reduceCtorEq]) | (refine Cz (fun h=>?_) (fun h=>?_) <;> simp (disch:=(first | assumption | omega | (simp only [Bd3,Bd5]; omega) | (simp only [Bd4]; omega))) only [h,hq,hN,hA,hC,hf,hb1,hb2,hb3,hmo,Bej,Bed,Be4,Be5,Bfn,tkB,Bfp,Beg,Bec,Beb,Bd7,Di,ne_eq,eq_self,not_true_eq_false,decide_false,decide_true,List.length_map,amL,amT,sA,sB,sC,sD,sE,sF,sG,sH,sI,sJ,sK,sL,sM,sN,sO,↓reduceIte,reduceCtorEq]) | (refine Aw (by kernel_rfl) rfl (by first | exact Bjr _ (Bef b i).g | exact Bjr _ (Bef b i).e | exact Bjr _ (Bef b i).k) (by first | exact .inl rfl | exact .inr (.inl rfl)) ?_ ; simp (disch:=(first | assumption | omega | (simp only [Bd3,Bd5]; omega) | (simp only [Bd4]; omega))) only [hb1,hb2,hb3,eq_self,decide_true,amL,amT,sA,sB,sE,sF,↓reduceIte,reduceCtorEq])
             all_goals
              skip
              refine hK26 _ ?_
              refine Aj rfl (fun h=>MT.x ?_) (fun h=>ME.x ?_)
              all_goals
               first
               |refine MT.mk ?_
                first
                |exact Bool.noConfusion h
                |((try simp only [nrm] at h) ; exfalso ; omega)
                |skip
                 try simp only [nrm] at h
                 refine Bd2 fun K27 hK27=>?_
                 simp (disch:=(first | assumption | omega | (simp only [Bd3,Bd5]; omega) | (simp only [Bd4]; omega))) only [hq,hN,hA,hC,hf,hb1,hb2,hb3,hmo,Bej,Bed,Be4,Be5,Bfn,tkB,Bfp,Beg,Bec,Beb,Bd7,Di,ne_eq,eq_self,not_true_eq_false,decide_false,decide_true,List.length_map,amL,amT,sA,sB,sC,sD,sE,sF,sG,sH,sI,sJ,sK,sL,sM,sN,sO,↓reduceIte,reduceCtorEq]
                 refine hK27 _ ?_
                 refine Ah ?_
                 try simp (disch:=(first | assumption | omega | (simp only [Bd3,Bd5]; omega) | (simp only [Bd4]; omega))) only [hq,hN,hA,hC,hf,hb1,hb2,hb3,hmo,Bej,Bed,Be4,Be5,Bfn,tkB,Bfp,Beg,Bec,Beb,Bd7,Di,ne_eq,eq_self,not_true_eq_false,decide_false,decide_true,List.length_map,amL,amT,sA,sB,sC,sD,sE,sF,sG,sH,sI,sJ,sK,sL,sM,sN,sO,↓reduceIte,reduceCtorEq]
                 all_goals first | rfl | trace_state
               |refine ME.mk ?_
                first
                |exact Bool.noConfusion h
                |((try simp only [] at h) ; exfalso ; omega)
                |skip
                 try simp only [] at h
                 refine Ak ?_
                 refine hK25 _ ?_
              all_goals
               skip
               refine Bd2 fun K28 hK28=>?_
               simp (disch:=(first | assumption | omega | (simp only [Bd3,Bd5]; omega) | (simp only [Bd4]; omega))) only [eq_self,decide_true,amL,amT,sA,sB,sE,sF,↓reduceIte,reduceCtorEq]
               refine hK28 _ ?_
               refine Bd2 fun K29 hK29=>?_
               simp (disch:=(first | assumption | omega | (simp only [Bd3,Bd5]; omega) | (simp only [Bd4]; omega))) only [eq_self,decide_true,amL,sA]
               refine hK29 _ ?_
               refine Ap ?_
               skip
               refine Be (α:=Nat) (fun k=>⟨T [(2,.ptr 2 0),(5,i64 (i:Int)),(6,bnL b),(7,i64 (bnE b)),(8,.ptr 8 0),(9,i64 (n:Int)),(15,.ptr 15 0),(16,i64 (k:Int))],O [(2,.cells (cB b)),(8,.cells (cBl (orB (rcL b i n) (atL b i (Bd6 b (Beo b n)).1) k))),(15,.cells (cBl (atL b i (Bd6 b (Beo b n)).1)))]⟩) (fun k=>6 - k) (fun k=>k≤6) 0 ?_ ?_ (fun k hx30 K30 hK30=>?_)
               · exact Nat.zero_le _
               · refine De ?_ ?_ ?_ ?_ <;> (try simp (disch:=(first | assumption | omega | (simp only [Bd3,Bd5]; omega) | (simp only [Bd4]; omega))) only [hA,hC,eq_self,amL,sF,sG,↓reduceIte]); all_goals first | rfl | exact ⟨rfl,rfl⟩ | trace_state
               have hk6:=hx30
               refine Aa fun K31 hK31=>?_
               refine Bd2 fun K32 hK32=>?_
               simp (disch:=(first | assumption | omega | (simp only [Bd3,Bd5]; omega) | (simp only [Bd4]; omega))) only [hA,hC,eq_self,decide_true,amL,amT,sA,sF,↓reduceIte]
               refine hK32 _ ?_
               refine Aj rfl (fun h=>MT.x ?_) (fun h=>ME.x ?_)
               all_goals
                first
                |refine MT.mk ?_
                 first
                 |exact Bool.noConfusion h
                 |((try simp only [nrm] at h) ; exfalso ; omega)
                 |skip
                  try simp only [nrm] at h
                  refine Ak ?_
                  refine hK31 _ ?_
                |refine ME.mk ?_
                 first
                 |exact Bool.noConfusion h
                 |((try simp only [nrm] at h) ; exfalso ; omega)
                 |skip
                  try simp only [nrm] at h
                  refine Bo ?_
                  refine hK17 _ ?_
                  refine Ac ?_
                  simp (disch:=(first | assumption | omega | (simp only [Bd3,Bd5]; omega) | (simp only [Bd4]; omega))) only [eq_self,decide_true,amL,amT,sA,sF,↓reduceIte]
                  refine hK13 (n+1) _ ?_ ?_ (De ?_ ?_ ?_ ?_)
                  all_goals (try simp (disch:=(first | assumption | omega | (simp only [Bd3,Bd5]; omega) | (simp only [Bd4]; omega))) only [hA,hC,eq_self,amL,sF,sG,↓reduceIte])
                  all_goals first | omega | (rw [Bi0 (by first | assumption | exact hN _)]; done) | (rw [Bk7 (by omega) (by assumption)]; done) | rfl | trace_state
               all_goals
                skip
                refine Aa fun K33 hK33=>?_
                refine Ap ?_
                refine Ac ?_
                simp (disch:=(first | assumption | omega | (simp only [Bd3,Bd5]; omega) | (simp only [Bd4]; omega))) only [tkB,Beg,eq_self,decide_true,amL,amT,sA,sF,sH,↓reduceIte]
                repeat' first | (refine E0 (fun h=>?_) (fun h=>?_) <;> simp (disch:=(first | assumption | omega | (simp only [Bd3,Bd5]; omega) | (simp only [Bd4]; omega))) only [h,hq,hN,hA,hC,hf,hb1,hb2,hb3,hmo,Bej,Bed,Be4,Be5,Bfn,tkB,Bfp,Beg,Bec,Beb,Bd7,Di,ne_eq,eq_self,not_true_eq_false,decide_false,decide_true,List.length_map,amL,amT,sA,sB,sC,sD,sE,sF,sG,sH,sI,sJ,sK,sL,sM,sN,sO,↓reduceIte,reduceCtorEq]) | (refine Cz (fun h=>?_) (fun h=>?_) <;> simp (disch:=(first | assumption | omega | (simp only [Bd3,Bd5]; omega) | (simp only [Bd4]; omega))) only [h,tkB,Bfp,eq_self,decide_true,List.length_map,amL,amT,sA,sF,sH,↓reduceIte])
                all_goals
                 skip
                 refine hK33 _ ?_
                 refine Ac ?_
                 simp (disch:=(first | assumption | omega | (simp only [Bd3,Bd5]; omega) | (simp only [Bd4]; omega))) only [eq_self,decide_true,amL,amT,sA,sF,↓reduceIte]
                 refine hK30 (k+1) _ ?_ ?_ (De ?_ ?_ ?_ ?_)
                 all_goals (try simp (disch:=(first | assumption | omega | (simp only [Bd3,Bd5]; omega) | (simp only [Bd4]; omega))) only [hA,hC,eq_self,amL,sE,sF,sG,↓reduceIte])
                 all_goals first | omega | (rw [Bid (by rw [show (rcL b i n).getD k false=true by assumption]; rfl)]; done) | (rw [Bid (by rw [show (rcL b i n).getD k false=false by assumption]; rfl)]; done) | (rw [Bin,Bin]; rfl) | rfl | trace_state
end AM.Try
end
