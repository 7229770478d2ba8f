/- Lemmas for the proof: more of the program's functions, walked on the abstract machine. -/
import Derived.Test.YtbgiddcgdgdmbaaGreatQ6
import Derived.Laws.Cover3
/- The abstract machine, part 40: an element of an array's value; functions as cells; a nil slice compared. -/
section
namespace AM
open Go Go.Proofs
section
variable {P:Program} {r:RB} {N:Nat} {s:St} {K:St→Prop} {dst:Option Nat} {ty:TypeId} {pos:String} {after:Array Edge} {g:Option (Nat × Bool)}
def fSlP (esz:Nat→Nat) (ea:Nat→Option Bool) (e:Nat):Option (List (List PV))→Option Int→(Nat→Option Int)→Option Eff
 | some es,some l,hf=>match hf es.length with
  | some h=>if 0≤l∧l≤h∧h≤es.length∧(ea e).isSome∧(es.all fun c=>c.length=esz e) then some (.pure (.p (.sl ((es.take h.toNat).drop l.toNat)))) else none
  | none=>none
 | _,_,_=>none
theorem EO_sliceP {t:TypeId} {x:Operand} {lo hi:Option Operand} {e:Nat} (hk:(Ac P t).k=.sl e):EO P r N ⟨dst,.slice t x lo hi none,ty,pos,after,g⟩ s K=EOp r.b N dst s K (fSlP (fun e=>(Ac P e).sz) (fun e=>(Ac P e).agg) e ((ev s.t x).pv?.bind PV.list?) (Bk (ev s.t) 0 lo) (fun n=>Bk (ev s.t) n hi)):=by
 refine Dz rfl rfl ?_
 simp only [eff,hk]
 cases (ev s.t x).pv?.bind PV.list? with
 | none=>rfl
 | some es=>cases Bk (ev s.t) 0 lo with
  | none=>rfl
  | some l=>
   simp only [fSlP]
   cases Bk (ev s.t) es.length hi <;> rfl
end
end AM
end
/- What the reference says of vessels, in plain Lean; that it is what the program says. -/
section
namespace AM.Wort
open Go AM Go.Proofs
theorem begin_room:∀ {vs:List Ves} {gs ds:List Int} {i:Nat} {v:List Liq},(Hf vs gs ds i v).2=Qj vs gs i∧(Qj vs gs i=true→(Hf vs gs ds i v).1=Xr vs gs ds i v)
 | [],_,_,_,_=>⟨rfl,fun _=>rfl⟩
 | x :: vs,gs,ds,i,v=>by
  unfold Hf Qj Xr
  split
  ·rename_i h
   rw [decide_eq_false (by omega)]
   exact ⟨rfl,fun h=>by cases h⟩
  ·rename_i h
   rw [decide_eq_true (by omega),Bool.true_and]
   exact begin_room
theorem doX_two {vs:List Ves} {v:List Liq} {s:Stp} {n:Int}:(doX vs v s n).2=(doS vs v s n).2:=by
 unfold doX; split
 ·rfl
 ·rename_i h; simpa using h
theorem playXF_false {vs:List Ves} {m:List Int}:∀ {ss:List Stp} {i:Nat} {v:List Liq},(Mq vs m ss i (v,false)).2=false
 | [],_,_=>rfl
 | _ :: _,_,_=>by unfold Mq; rw [if_pos rfl]
theorem playF_false {vs:List Ves} {m:List Int}:∀ {ss:List Stp} {i:Nat} {v:List Liq},(Lw vs m ss i (v,false)).2=false
 | [],_,_=>rfl
 | _ :: _,_,_=>by unfold Lw; rw [if_pos rfl]
theorem play_take {vs:List Ves} {m:List Int}:∀ {ss:List Stp} {i:Nat} {w:List Liq},ss.all (Dm vs.length)=true →
  (Lw vs m ss i (w,true)).2=(Mq vs m ss i (w.take vs.length,true)).2∧((Lw vs m ss i (w,true)).2=true→(Lw vs m ss i (w,true)).1.take vs.length=(Mq vs m ss i (w.take vs.length,true)).1)
 | [],_,_,_=>⟨rfl,fun _=>rfl⟩
 | s :: ss,i,w,hs=>by
  rw [List.all_cons,Bool.and_eq_true] at hs
  unfold Lw Mq
  rw [if_neg (fun h=>by cases h),if_neg (fun h=>by cases h)]
  dsimp only
  have e:=Atc (w:=w) (m:=m.getD i 0) hs.1
  cases hd:(doS vs w s (m.getD i 0)).2 with
  | true=>
   have e2:doX vs (w.take vs.length) s (m.getD i 0)=((doS vs w s (m.getD i 0)).1.take vs.length,true):=by
    unfold doX; rw [e,hd]; rfl
   have e3:doS vs w s (m.getD i 0)=((doS vs w s (m.getD i 0)).1,true):=by rw [← hd]
   rw [e2,e3]
   exact play_take hs.2
  | false=>
   have e2:doX vs (w.take vs.length) s (m.getD i 0)=(w.take vs.length,false):=by
    unfold doX; rw [e,hd]; rfl
   have e3:doS vs w s (m.getD i 0)=((doS vs w s (m.getD i 0)).1,false):=by rw [← hd]
   rw [e2,e3,playF_false,playXF_false]
   exact ⟨rfl,fun h=>by cases h⟩
theorem play_eq {b:Cx} (t:Tru) (hv:Ja b):(Ns b t).2=(An3 b t).2∧((Ns b t).2=true→(Ns b t).1.take b.vs.length=(An3 b t).1):=by
 unfold Ns An3 Pa Zg
 obtain ⟨h1,h2⟩:=begin_room (vs:=b.vs) (gs:=t.g) (ds:=t.d) (i:=0) (v:=v0)
 have h3:=Zj (vs:=b.vs) (gs:=t.g) (ds:=t.d) (i:=0) (v:=v0) (by have:=hv.nv; simp; omega)
 rw [Nat.zero_add] at h3
 cases hr:Qj b.vs t.g 0 with
 | true=>
  have e:Hf b.vs t.g t.d 0 v0=(Xr b.vs t.g t.d 0 v0,true):=by rw [← h2 hr,← hr,← h1]
  rw [e]
  have e2:Nq b.vs t.g t.d=(Xr b.vs t.g t.d 0 v0).take b.vs.length:=h3.symm
  rw [e2]
  exact play_take hv.s
 | false=>
  have e:Hf b.vs t.g t.d 0 v0=((Hf b.vs t.g t.d 0 v0).1,false):=by rw [← hr,← h1]
  rw [e,playF_false,playXF_false]
  exact ⟨rfl,fun h=>by cases h⟩
def nthV:List Ves→Int→List Int × List Int × Int
 | [],n=>([],[],n)
 | v :: l,n=>((v.g.lo+n % Dp v.g) :: (nthV l (n / Dp v.g / Dp v.d)).1,(v.d.lo+n / Dp v.g % Dp v.d) :: (nthV l (n / Dp v.g / Dp v.d)).2.1,(nthV l (n / Dp v.g / Dp v.d)).2.2)
def nthS:List Stp→Int→List Int
 | [],_=>[]
 | s :: l,n=>(s.g.lo+n % Dp s.g) :: nthS l (n / Dp s.g)
def nthX (b:Cx) (n:Int):Tru:=⟨(nthV b.vs n).1,(nthV b.vs n).2.1,nthS b.ss (nthV b.vs n).2.2⟩
theorem drop_get' {α:Type} {l:List α} {k:Nat} (d:α) (h:k < l.length):l.drop k=l.getD k d :: l.drop (k+1):=by
 rw [List.drop_eq_getElem_cons h]; simp [List.getD,h]
abbrev nextV (v:Ves) (n:Int):Int:=n / Dp v.g / Dp v.d
def accV (gs ds:List Int) (r:List Int × List Int × Int):List Int × List Int × Int:=(gs++r.1,ds++r.2.1,r.2.2)
theorem acc_step {vs:List Ves} {gs ds:List Int} {n:Int} {R:List Int × List Int × Int} (hk:gs.length < vs.length) (h:accV gs ds (nthV (vs.drop gs.length) n)=R) (a c:Int)
  (ha:a=(vs.getD gs.length default).g.lo+n % Dp (vs.getD gs.length default).g) (hc:c=(vs.getD gs.length default).d.lo+n / Dp (vs.getD gs.length default).g % Dp (vs.getD gs.length default).d) :
  accV (gs++[a]) (ds++[c]) (nthV (vs.drop (gs++[a]).length) (nextV (vs.getD gs.length default) n))=R:=by
 subst ha hc
 rw [drop_get' default hk] at h
 rw [List.length_append,List.length_singleton]
 rw [← h]
 simp [accV,nthV]
theorem acc_end {vs:List Ves} {gs ds:List Int} {n:Int} {R:List Int × List Int × Int} (hk:vs.length≤gs.length) (h:accV gs ds (nthV (vs.drop gs.length) n)=R):R=(gs,ds,n):=by
 rw [List.drop_of_length_le hk] at h
 rw [← h]; simp [accV,nthV]
theorem nthS_step {ss:List Stp} {ms:List Int} {n:Int} {R:List Int} (hk:ms.length < ss.length) (h:ms++nthS (ss.drop ms.length) n=R) (a:Int) (ha:a=(ss.getD ms.length default).g.lo+n % Dp (ss.getD ms.length default).g) :
  (ms++[a])++nthS (ss.drop (ms++[a]).length) (n / Dp (ss.getD ms.length default).g)=R:=by
 subst ha
 rw [drop_get' default hk] at h
 rw [List.length_append,List.length_singleton,← h]
 simp [nthS]
theorem nthS_end {ss:List Stp} {ms:List Int} {n:Int} {R:List Int} (hk:ss.length≤ms.length) (h:ms++nthS (ss.drop ms.length) n=R):R=ms:=by
 rw [List.drop_of_length_le hk] at h
 rw [← h]; simp [nthS]
theorem div_nn {m s:Int} (h0:0≤m) (h1:1≤s):0≤m / s∧m / s≤m:=⟨Int.ediv_nonneg h0 (by omega),Int.ediv_le_self _ h0⟩
theorem mod_nn {m s:Int} (h1:1≤s):0≤m % s∧m % s < s:=⟨Int.emod_nonneg _ (by omega),Int.emod_lt_of_pos _ (by omega)⟩
theorem nthV_len:∀ (l:List Ves) (n:Int),(nthV l n).1.length=l.length∧(nthV l n).2.1.length=l.length
 | [],_=>⟨rfl,rfl⟩
 | v :: l,n=>by
  obtain ⟨h1,h2⟩:=nthV_len l (n / Dp v.g / Dp v.d)
  unfold nthV
  simp only [List.length_cons,h1,h2,and_self]
theorem nthS_len:∀ (l:List Stp) (n:Int),(nthS l n).length=l.length
 | [],_=>rfl
 | s :: l,n=>by unfold nthS; rw [List.length_cons,nthS_len,List.length_cons]
theorem has_mod {r:Rng} {n:Int} (h:1≤Dp r):inB (r.lo+n % Dp r) r.lo r.hi=true:=by
 have:=mod_nn (m:=n) h
 unfold Dp at *
 simp only [inB,Bool.and_eq_true,decide_eq_true_eq]; omega
theorem nthV_in:∀ {l:List Ves} (n:Int),l.all Df=true→∀ k,k < l.length→inB ((nthV l n).1.getD k 0) (l.getD k default).g.lo (l.getD k default).g.hi=true∧inB ((nthV l n).2.1.getD k 0) (l.getD k default).d.lo (l.getD k default).d.hi=true
 | [],_,_,k,hk=>by cases hk
 | v :: l,n,hv,k,hk=>by
  rw [List.all_cons,Bool.and_eq_true] at hv
  obtain ⟨h1,h2,_⟩:=Cp hv.1
  cases k with
  | zero=>exact ⟨has_mod (D2 h1).1,has_mod (D2 h2).1⟩
  | succ k=>exact nthV_in (n / Dp v.g / Dp v.d) hv.2 k (by simpa using hk)
theorem nthS_in:∀ {l:List Stp} {c:Int} (n:Int),l.all (Dm c)=true→∀ k,k < l.length→inB ((nthS l n).getD k 0) (l.getD k default).g.lo (l.getD k default).g.hi=true
 | [],_,_,_,k,hk=>by cases hk
 | s :: l,c,n,hv,k,hk=>by
  rw [List.all_cons,Bool.and_eq_true] at hv
  have h1:=(Cd hv.1).2.2.2.2
  cases k with
  | zero=>exact has_mod (D2 h1).1
  | succ k=>exact nthS_in (n / Dp s.g) hv.2 k (by simpa using hk)
theorem nth_listed {b:Cx} (hv:Ja b) (n:Int):C1 b (nthX b n)=true:=by
 obtain ⟨h1,h2⟩:=nthV_len b.vs n
 exact Mn h1 h2 (nthS_len _ _) (nthV_in n hv.v) (nthS_in _ hv.s)
def lastB (b:Cx):Cx:=⟨b.vs,b.ss.take (b.ss.length - 1)⟩
def lastT (b:Cx) (t:Tru):Tru:=⟨t.g,t.d,t.m.take (b.ss.length - 1)⟩
theorem lastB_len (b:Cx):(lastB b).ss.length=b.ss.length - 1:=by unfold lastB; rw [List.length_take]; omega
theorem all_take {α:Type} {p:α→Bool} {l:List α} (k:Nat) (h:l.all p=true):(l.take k).all p=true:=by
 rw [List.all_eq_true] at h ⊢
 exact fun x hx=>h x (List.mem_of_mem_take hx)
theorem valid_last {b:Cx} (hv:Ja b):Ja (lastB b):=⟨hv.nv,by rw [lastB_len]; have:=hv.ns; omega,hv.v,all_take _ hv.s⟩
theorem getD_take' {α:Type} {l:List α} {n k:Nat} {d:α} (h:k < n):(l.take n).getD k d=l.getD k d:=by
 rw [List.getD_eq_getElem?_getD,List.getD_eq_getElem?_getD,List.getElem?_take,if_pos h]
theorem many_last {b:Cx} (hf:B5 b=0):B5 (lastB b)=0:=by
 obtain ⟨h1,h2,h3,h4,h5,h6⟩:=Ag2 hf
 have hv:=Acu hf
 have hl:=valid_last hv
 rw [E5 (b:=lastB b) hl.nv hl.ns h3 hl.v hl.s]
 rw [← Apa] at h6
 refine if_neg ?_
 have e:Ao0 (lastB b)≤Ao0 b:=by
  by_cases hz:b.ss.length=0
  ·have:(lastB b).ss=b.ss:=by unfold lastB; rw [List.take_of_length_le (by omega)]
   unfold Ao0; rw [this]; exact Int.le_refl _
  ·have hst:=Agp (l:=b.ss) (k:=b.ss.length - 1) (n:=Dg (Nl b.vs) 1) (by omega)
   rw [show b.ss.length - 1+1=b.ss.length by omega,List.take_length] at hst
   have hb:=Agb hv (b.ss.length - 1)
   have hs:=D2 (Cd (hv.stp (k:=b.ss.length - 1) (by omega))).2.2.2.2
   unfold Ao0
   rw [Jc,Jc,hst]
   rw [Jc] at hb
   show Dg (((b.ss.take (b.ss.length - 1))).map (·.g)) (Dg (Nl b.vs) 1)≤_
   have:=Int.mul_le_mul_of_nonneg_left hs.1 (show 0≤Dg (((b.ss.take (b.ss.length - 1))).map (·.g)) (Dg (Nl b.vs) 1) by omega)
   omega
 omega
theorem listed_last {b:Cx} {t:Tru} (h:C1 b t=true):C1 (lastB b) (lastT b t)=true:=by
 obtain ⟨h1,h2,h3,h4,h5⟩:=Cg h
 refine Mn (b:=lastB b) (t:=lastT b t) h1 h2 (by rw [lastB_len]; unfold lastT; rw [List.length_take]; omega) (fun j hj=>?_) (fun j hj=>?_)
 ·have:=h4 j hj
  simp only [inB,Bool.and_eq_true,decide_eq_true_eq]; exact this
 ·rw [lastB_len] at hj
  have:=h5 j (by omega)
  unfold lastB lastT
  dsimp only
  rw [getD_take' hj,getD_take' hj]
  simp only [inB,Bool.and_eq_true,decide_eq_true_eq]; exact this
theorem playXF_take {vs:List Ves} {m:List Int} {n:Nat}:∀ {ss:List Stp} {i:Nat} {r:List Liq × Bool},i+ss.length≤n→Mq vs (m.take n) ss i r=Mq vs m ss i r
 | [],_,_,_=>rfl
 | s :: ss,i,r,h=>by
  simp only [List.length_cons] at h
  unfold Mq
  rw [getD_take' (by omega)]
  split
  ·rfl
  ·exact playXF_take (by omega)
theorem playXF_last {vs:List Ves} {m:List Int} {s:Stp}:∀ {ss:List Stp} {i:Nat} {r:List Liq × Bool},Mq vs m (ss++[s]) i r=if (Mq vs m ss i r).2=false then Mq vs m ss i r else doX vs (Mq vs m ss i r).1 s (m.getD (i+ss.length) 0)
 | [],i,r=>by
  show Mq vs m [s] i r=_
  unfold Mq Mq
  rfl
 | x :: ss,i,r=>by
  rw [List.cons_append]
  unfold Mq
  split
  ·rename_i h; first | rfl | rw [if_pos h]
  ·rw [playXF_last,show i+1+ss.length=i+(x :: ss).length by simp only [List.length_cons]; omega]
theorem play_last {b:Cx} {t:Tru} (h:0 < b.ss.length):An3 b t=if (An3 (lastB b) (lastT b t)).2=false then An3 (lastB b) (lastT b t) else doX b.vs (An3 (lastB b) (lastT b t)).1 (b.ss.getD (b.ss.length - 1) default) (t.m.getD (b.ss.length - 1) 0):=by
 have e:b.ss=b.ss.take (b.ss.length - 1)++[b.ss.getD (b.ss.length - 1) default]:=by
  have:=List.take_add_one (l:=b.ss) (i:=b.ss.length - 1)
  rw [show b.ss.length - 1+1=b.ss.length by omega,List.take_length,List.getElem?_eq_getElem (by omega)] at this
  have e9:[b.ss.getD (b.ss.length - 1) default]=(some b.ss[b.ss.length - 1]).toList:=by simp [List.getD,show b.ss.length - 1 < b.ss.length by omega]
  rw [e9]; exact this
 have hl:(b.ss.take (b.ss.length - 1)).length=b.ss.length - 1:=by rw [List.length_take]; omega
 have e2:An3 (lastB b) (lastT b t)=Mq b.vs t.m (b.ss.take (b.ss.length - 1)) 0 (Nq b.vs t.g t.d,Zg b.vs t.g):=by
  unfold An3 lastB lastT
  dsimp only
  exact playXF_take (by rw [hl]; omega)
 rw [e2]
 have:=playXF_last (vs:=b.vs) (m:=t.m) (s:=b.ss.getD (b.ss.length - 1) default) (ss:=b.ss.take (b.ss.length - 1)) (i:=0) (r:=(Nq b.vs t.g t.d,Zg b.vs t.g))
 rw [← e,hl,Nat.zero_add] at this
 exact this
end AM.Wort
end
/- The abstract machine, part 70: the beginning of a slice that is a value. -/
section
namespace AM
open Go Go.Proofs
theorem pvl_sl {es:List (List PV)}:(AV.p (.sl es)).pv?.bind PV.list?=some es:=rfl
def fSlR (esz:Nat→Nat) (ea:Nat→Option Bool) (e:Nat) (es:List (List PV)) (l:Int):Option Int→Option Eff
 | some h=>if 0≤l∧l≤h∧h≤es.length∧(ea e).isSome∧(es.all fun c=>c.length=esz e) then some (.pure (.p (.sl ((es.take h.toNat).drop l.toNat)))) else none
 | none=>none
theorem fSlP_go {esz:Nat→Nat} {ea:Nat→Option Bool} {e:Nat} {es:List (List PV)} {l:Int} {hf:Nat→Option Int}:fSlP esz ea e (some es) (some l) hf=fSlR esz ea e es l (hf es.length):=rfl
theorem fSlR_0 {esz:Nat→Nat} {ea:Nat→Option Bool} {e:Nat} {es:List (List PV)} {h:Int} (h1:0≤h) (h2:h≤es.length) (h3:(ea e).isSome=true) (h4:(es.all fun c=>decide (c.length=esz e))=true):fSlR esz ea e es 0 (some h)=some (.pure (.p (.sl (es.take h.toNat)))):=by
 simp only [fSlR]; rw [if_pos ⟨by omega,h1,h2,h3,h4⟩]; simp
end AM
end
/- What a step leaves as it was, and how far gravities move. -/
section
namespace AM.Wort
open Go AM Go.Proofs
theorem stL_get {v:List Liq} {k:Nat} (h:k < v.length):(stL v).getD k []=H5 (L1 (A8 v k)):=by
 unfold stL A8
 rw [List.getD_eq_getElem?_getD,List.getD_eq_getElem?_getD,List.getElem?_map,List.getElem?_eq_getElem h]; rfl
theorem playXF_ok {b:Cx} (hv:Ja b) {m:List Int} (hm:∀ k,0≤m.getD k 0):∀ (ss:List Stp) (k:Nat) (r:List Liq × Bool),ss.all (Dm b.vs.length)=true→OkN b.vs.length r.1→OkN b.vs.length (Mq b.vs m ss k r).1
 | [],_,_,_,h=>h
 | s :: ss,k,r,hs,h=>by
  rw [List.all_cons,Bool.and_eq_true] at hs
  unfold Mq
  split
  ·exact h
  ·exact playXF_ok hv hm ss (k+1) _ hs.2 (Baa h hv.nv hv.v hs.1 (hm k))
theorem playX_ok {b:Cx} {t:Tru} (hv:Ja b) (hl:C1 b t=true):OkN b.vs.length (An3 b t).1:=
 playXF_ok hv (fun k=>((F3 hv hl).2.2 k).1) _ _ _ hv.s (Y6 hv hl)
theorem playXF_room {b:Cx} (hv:Ja b) {m:List Int} (hm:∀ k,0≤m.getD k 0):∀ (ss:List Stp) (k:Nat) (r:List Liq × Bool),ss.all (Dm b.vs.length)=true→OkN b.vs.length r.1→(r.2=true→Vl b.vs r.1)→(Mq b.vs m ss k r).2=true→Vl b.vs (Mq b.vs m ss k r).1
 | [],_,_,_,_,h,h2=>h h2
 | s :: ss,k,r,hs,ho,h,h2=>by
  rw [List.all_cons,Bool.and_eq_true] at hs
  unfold Mq at h2 ⊢
  split at h2
  ·rename_i hf; rw [hf] at h2; cases h2
  ·rename_i hf
   rw [if_neg hf]
   exact playXF_room hv hm ss (k+1) _ hs.2 (Baa ho hv.nv hv.v hs.1 (hm k)) (fun _=>Aor (h (by simpa using hf)) hs.1 (hm k) (ho.len hv.nv)) h2
theorem playX_room {b:Cx} {t:Tru} (hv:Ja b) (hl:C1 b t=true) (h:(An3 b t).2=true):Vl b.vs (An3 b t).1:=
 playXF_room hv (fun k=>((F3 hv hl).2.2 k).1) _ _ _ hv.s (Y6 hv hl) Ad8 h
theorem grav_in {l:Liq} (hg:0≤l.g∧l.g≤60) (he:0≤l.e∧l.e≤28800):0≤Nf l∧Nf l≤57660:=by
 unfold Nf
 split
 ·omega
 ·have h1:=Int.ediv_nonneg (show 0≤2 * l.e+l.g by omega) (show 0≤2 * l.g by omega)
  have h2:=Int.ediv_le_self (2 * l.g) (show 0≤2 * l.e+l.g by omega)
  omega
theorem gr_spec {l:Liq} (hg:0 < l.g):Nf l * (2 * l.g)≤2 * l.e+l.g∧2 * l.e+l.g < (Nf l+1) * (2 * l.g):=by
 unfold Nf
 rw [if_neg (by omega)]
 exact ⟨Int.ediv_mul_le _ (by omega),Int.lt_ediv_add_one_mul_self _ (by omega)⟩
theorem gr_le {l:Liq} {c:Int} (hg:0 < l.g) (h:2 * l.e+l.g < (c+1) * (2 * l.g)):Nf l≤c:=by
 unfold Nf
 rw [if_neg (by omega)]
 have:=Int.ediv_lt_of_lt_mul (show 0 < 2 * l.g by omega) h
 omega
theorem gr_ge {l:Liq} {c:Int} (hg:0 < l.g) (h:c * (2 * l.g)≤2 * l.e+l.g):c≤Nf l:=by
 unfold Nf
 rw [if_neg (by omega)]
 exact Int.le_ediv_of_mul_le (by omega) h
theorem gr_nn {l:Liq} (hg:0≤l.g) (he:0≤l.e):0≤Nf l:=by
 unfold Nf; split
 ·omega
 ·exact Int.ediv_nonneg (by omega) (by omega)
theorem gr_zero {l:Liq} (hg:l.g=0):Nf l=0:=by unfold Nf; rw [if_pos hg]
theorem mul_cancel_le {a b c:Int} (hc:0 < c) (h:a * c≤b * c):a≤b:=Int.le_of_mul_le_mul_right h hc
theorem mul_cancel_lt {a b c:Int} (hc:0 < c) (h:a * c < b * c):a < b:=Int.lt_of_mul_lt_mul_right h (by omega)
theorem take_spec {n e g:Int} (hg:0 < g):n * e / g * g≤n * e∧n * e < (n * e / g+1) * g:=⟨Int.ediv_mul_le _ (by omega),Int.lt_ediv_add_one_mul_self _ hg⟩
theorem from_up {G E n x K:Int} (hg:0 < G) (_:0≤n) (hgn:0 < G - n) (hx1:x * G≤n * E) (hx2:n * E < (x+1) * G) (hk1:K * (2 * G)≤2 * E+G) (hk2:2 * E+G < (K+1) * (2 * G)) :
  K≤Nf ⟨G - n,E - x⟩∧Nf ⟨G - n,E - x⟩≤K+1:=by
 have eG:(E - x) * G=E * G - x * G:=Int.sub_mul _ _ _
 have eN:E * (G - n)=E * G - n * E:=by rw [Int.mul_sub,Int.mul_comm E n]
 have e1:(x+1) * G=x * G+G:=by rw [Int.add_mul,Int.one_mul]
 have p1:E * (G - n)≤(E - x) * G:=by omega
 have p2:(E - x) * G < E * (G - n)+G:=by omega
 constructor
 ·refine gr_ge (l:=⟨G - n,E - x⟩) hgn ?_
  show K * (2 * (G - n))≤2 * (E - x)+(G - n)
  refine mul_cancel_le hg ?_
  have h:=Int.mul_le_mul_of_nonneg_right hk1 (show 0≤G - n by omega)
  have a1:K * (2 * G) * (G - n)=K * (2 * (G - n)) * G:=by
   rw [Int.mul_assoc,Int.mul_assoc,Int.mul_assoc,Int.mul_assoc,Int.mul_comm G (G - n)]
  have a2:(2 * E+G) * (G - n)=2 * (E * (G - n))+(G - n) * G:=by
   rw [Int.add_mul,Int.mul_assoc,Int.mul_comm G (G - n)]
  have a3:(2 * (E - x)+(G - n)) * G=2 * ((E - x) * G)+(G - n) * G:=by
   rw [Int.add_mul,Int.mul_assoc]
  omega
 ·refine gr_le (l:=⟨G - n,E - x⟩) hgn ?_
  show 2 * (E - x)+(G - n) < (K+1+1) * (2 * (G - n))
  refine mul_cancel_lt hg ?_
  have h:=Int.mul_lt_mul_of_pos_right hk2 hgn
  have a1:(K+1) * (2 * G) * (G - n)=(K+1) * (2 * (G - n)) * G:=by
   rw [Int.mul_assoc,Int.mul_assoc,Int.mul_assoc,Int.mul_assoc,Int.mul_comm G (G - n)]
  have a2:(2 * E+G) * (G - n)=2 * (E * (G - n))+(G - n) * G:=by
   rw [Int.add_mul,Int.mul_assoc,Int.mul_comm G (G - n)]
  have a3:(2 * (E - x)+(G - n)) * G=2 * ((E - x) * G)+(G - n) * G:=by
   rw [Int.add_mul,Int.mul_assoc]
  have a4:(K+1+1) * (2 * (G - n)) * G=(K+1) * (2 * (G - n)) * G+2 * ((G - n) * G):=by
   rw [Int.add_mul (K+1) 1,Int.one_mul,Int.add_mul,Int.mul_assoc 2]
  have a5:G≤(G - n) * G:=by
   have:=Int.mul_le_mul_of_nonneg_right (show 1≤G - n by omega) (show 0≤G by omega); omega
  omega
theorem to_mix {Gf Ef Gt Et n x H W:Int} (hf:0 < Gf) (hn:0≤n) (_:0≤Gt) (hg:0 < Gt+n) (hx1:x * Gf≤n * Ef) (hx2:n * Ef < (x+1) * Gf)
  (hH1:2 * Ef+Gf < (H+1) * (2 * Gf)) (hH2:2 * Et+Gt≤(H+1) * (2 * Gt)) (hH3:0 < Gt→2 * Et+Gt < (H+1) * (2 * Gt)) (hW1:W * (2 * Gf)≤2 * Ef+Gf) (hW2:W * (2 * Gt)≤2 * Et+Gt) :
  Nf ⟨Gt+n,Et+x⟩≤H∧W - 1≤Nf ⟨Gt+n,Et+x⟩:=by
 have q0:(2 * x+n) * Gf=2 * (x * Gf)+n * Gf:=by rw [Int.add_mul,Int.mul_assoc]
 have q1:n * (2 * Ef+Gf)=2 * (n * Ef)+n * Gf:=by rw [Int.mul_add,← Int.mul_assoc,Int.mul_comm n 2,Int.mul_assoc]
 have e1:(x+1) * Gf=x * Gf+Gf:=by rw [Int.add_mul,Int.one_mul]
 constructor
 ·refine gr_le (l:=⟨Gt+n,Et+x⟩) hg ?_
  show 2 * (Et+x)+(Gt+n) < (H+1) * (2 * (Gt+n))
  have s1:(H+1) * (2 * (Gt+n))=(H+1) * (2 * Gt)+(H+1) * (2 * n):=by rw [Int.mul_add,Int.mul_add]
  have s2:(H+1) * (2 * n) * Gf=n * ((H+1) * (2 * Gf)):=by
   rw [Int.mul_assoc,Int.mul_assoc,Int.mul_left_comm n,Int.mul_left_comm n 2]
  have le:2 * x+n≤(H+1) * (2 * n):=by
   refine mul_cancel_le hf ?_
   have:=Int.mul_le_mul_of_nonneg_left (Int.le_of_lt hH1) hn
   omega
  by_cases hn0:0 < n
  ·have lt:2 * x+n < (H+1) * (2 * n):=by
    refine mul_cancel_lt hf ?_
    have:=Int.mul_lt_mul_of_pos_left hH1 hn0
    omega
   omega
  ·have:=hH3 (by omega)
   omega
 ·refine gr_ge (l:=⟨Gt+n,Et+x⟩) hg ?_
  show (W - 1) * (2 * (Gt+n))≤2 * (Et+x)+(Gt+n)
  have s1:(W - 1) * (2 * (Gt+n))=W * (2 * Gt)+W * (2 * n) - 2 * (Gt+n):=by rw [Int.sub_mul,Int.one_mul,Int.mul_add,Int.mul_add]
  have s2:W * (2 * n) * Gf=n * (W * (2 * Gf)):=by
   rw [Int.mul_assoc,Int.mul_assoc,Int.mul_left_comm n,Int.mul_left_comm n 2]
  have lt:W * (2 * n) < 2 * x+n+2:=by
   refine mul_cancel_lt hf ?_
   have:=Int.mul_le_mul_of_nonneg_left hW1 hn
   have e2:(2 * x+n+2) * Gf=(2 * x+n) * Gf+2 * Gf:=Int.add_mul _ _ _
   omega
  omega
theorem staK (l:Liq):(L1 l).k=Nf l:=rfl
def ZeroV (v:List Liq):Prop:=∀ k,(A8 v k).g=0→(A8 v k).e=0
theorem zero_set {v:List Liq} {k:Nat} {a:Liq} (h:ZeroV v) (ha:a.g=0→a.e=0):ZeroV (v.set k a):=fun j=>by
 rw [Ek]; split
 ·exact ha
 ·exact h j
section
variable {vs:List Ves} {v:List Liq} {s:Stp} {n:Int}
theorem zero_do (hz:ZeroV v) (ho:OkN vs.length v) (hr:Vl vs v) (hvs:vs.length≤4) (hs:Dm vs.length s=true) (hn:0≤n):ZeroV (doX vs v s n).1:=by
 unfold doX; split
 ·rename_i hd
  have hl:=ho.len hvs
  obtain ⟨⟨f1,_⟩,f3,_⟩:=ho.at s.frm.toNat
  obtain ⟨⟨t1,_⟩,t3,_⟩:=ho.at s.to.toNat
  obtain ⟨hk,_⟩:=Cd hs
  by_cases k0:s.kind=0
  ·by_cases h1:(A8 v s.frm.toNat).g < n
   ·have:=Bft (vs:=vs) k0 h1
    have e:=doX_two (vs:=vs) (v:=v) (s:=s) (n:=n)
    rw [this,hd] at e; cases e
   ·by_cases h2:0 < n
    ·rw [Ci k0 hs hl h1 h2]
     refine zero_set (zero_set hz fun e=>?_) fun e=>?_
     ·have e:(A8 v s.frm.toNat).g - n=0:=e
      show (A8 v s.frm.toNat).e - Fk v s.frm.toNat n=0
      unfold Fk
      rw [show n=(A8 v s.frm.toNat).g by omega,Int.mul_ediv_cancel_left _ (by omega)]; omega
     ·have e:(A8 v s.to.toNat).g+n=0:=e
      omega
    ·rw [B3 k0 h1 h2]; exact hz
  ·by_cases k1:s.kind=1
   ·rw [B1 k1 hs hl]
    refine zero_set hz fun e=>?_
    have e:(A8 v s.to.toNat).g+n=0:=e
    exact hz _ (by omega)
   ·rw [Bn (by omega) hs hl hr hn] at hd ⊢
    refine zero_set hz fun e=>?_
    have e:(A8 v s.frm.toNat).g - n=0:=e
    simp only [Bool.or_eq_true,Bool.and_eq_true,decide_eq_true_eq] at hd
    show (A8 v s.frm.toNat).e=0
    omega
 ·exact hz
theorem rest_at:∀ {vs:List Ves} {gs ds:List Int} {i k:Nat},A8 (Ls vs gs ds i) k=if k < vs.length then ⟨gs.getD (i+k) 0,gs.getD (i+k) 0 * ds.getD (i+k) 0⟩ else ⟨0,0⟩
 | [],_,_,_,k=>by unfold Ls; rfl
 | x :: vs,gs,ds,i,0=>by unfold Ls; rfl
 | x :: vs,gs,ds,i,k+1=>by
  unfold Ls
  show A8 (Ls vs gs ds (i+1)) k=_
  rw [rest_at,show i+1+k=i+(k+1) by omega]
  simp
theorem zero_begin {gs ds:List Int}:ZeroV (Nq vs gs ds):=fun k=>by
 unfold Nq
 rw [rest_at]
 split
 ·intro h
  have h:gs.getD (0+k) 0=0:=h
  show gs.getD (0+k) 0 * ds.getD (0+k) 0=0
  rw [h,Int.zero_mul]
 ·intro _; rfl
end
theorem playXF_zero {b:Cx} (hv:Ja b) {m:List Int} (hm:∀ k,0≤m.getD k 0):∀ (ss:List Stp) (k:Nat) (r:List Liq × Bool),ss.all (Dm b.vs.length)=true→OkN b.vs.length r.1→(r.2=true→Vl b.vs r.1)→ZeroV r.1→ZeroV (Mq b.vs m ss k r).1
 | [],_,_,_,_,_,h=>h
 | s :: ss,k,r,hs,ho,hr,h=>by
  rw [List.all_cons,Bool.and_eq_true] at hs
  unfold Mq
  split
  ·exact h
  ·rename_i hf
   have hrr:=hr (by simpa using hf)
   exact playXF_zero hv hm ss (k+1) _ hs.2 (Baa ho hv.nv hv.v hs.1 (hm k)) (fun _=>Aor hrr hs.1 (hm k) (ho.len hv.nv)) (zero_do h ho hrr hv.nv hs.1 (hm k))
theorem playX_zero {b:Cx} {t:Tru} (hv:Ja b) (hl:C1 b t=true):ZeroV (An3 b t).1:=
 playXF_zero hv (fun k=>((F3 hv hl).2.2 k).1) _ _ _ hv.s (Y6 hv hl) Ad8 zero_begin
section
variable {vs:List Ves} {v M:List Liq} {s:Stp} {n:Int}
theorem mix_move (hM:doX vs v s n=(M,true)) (k0:s.kind=0) (hz:ZeroV v) (ho:OkN vs.length v) (hvs:vs.length≤4) (hs:Dm vs.length s=true) (hn:0≤n) :
  (0 < (A8 M s.to.toNat).g→0 < (A8 v s.frm.toNat).g→Nf (A8 M s.to.toNat)≤(if Nf (A8 v s.frm.toNat) < Nf (A8 v s.to.toNat) then Nf (A8 v s.to.toNat) else Nf (A8 v s.frm.toNat)) ∧
   (if (A8 v s.to.toNat).g=0 then Nf (A8 v s.frm.toNat) else if Nf (A8 v s.to.toNat) < Nf (A8 v s.frm.toNat) then Nf (A8 v s.to.toNat) else Nf (A8 v s.frm.toNat)) - 1≤Nf (A8 M s.to.toNat)) ∧
  ((A8 M s.frm.toNat).g=0∨(Nf (A8 v s.frm.toNat)≤Nf (A8 M s.frm.toNat)∧Nf (A8 M s.frm.toNat)≤Nf (A8 v s.frm.toNat)+1)):=by
 have hl:=ho.len hvs
 obtain ⟨⟨f1,_⟩,f3,_⟩:=ho.at s.frm.toNat
 obtain ⟨⟨t1,_⟩,t3,_⟩:=ho.at s.to.toNat
 have tz:=hz s.to.toNat
 obtain ⟨hk,q2,q3,q4,_⟩:=Cd hs
 have hne:s.to.toNat≠s.frm.toNat:=by omega
 have hd:(doS vs v s n).2=true:=by rw [← doX_two,hM]
 have hM1:M=(doS vs v s n).1:=by
  have:doX vs v s n=doS vs v s n:=by unfold doX; rw [if_pos hd]
  rw [← this,hM]
 by_cases h1:(A8 v s.frm.toNat).g < n
 ·rw [Bft k0 h1] at hM; cases hM
 ·by_cases h2:0 < n
  ·rw [Ci k0 hs hl h1 h2] at hM1
   have eF:A8 M s.frm.toNat=⟨(A8 v s.frm.toNat).g - n,(A8 v s.frm.toNat).e - Fk v s.frm.toNat n⟩:=by
    rw [hM1,Ek,if_neg (fun e=>hne e.1.symm),Ek,if_pos ⟨rfl,by omega⟩]
   have eT:A8 M s.to.toNat=⟨(A8 v s.to.toNat).g+n,(A8 v s.to.toNat).e+Fk v s.frm.toNat n⟩:=by
    rw [hM1,Ek,if_pos ⟨rfl,by rw [List.length_set]; omega⟩]
   have hx:Fk v s.frm.toNat n=n * (A8 v s.frm.toNat).e / (A8 v s.frm.toNat).g:=rfl
   have hG:0 < (A8 v s.frm.toNat).g:=by omega
   obtain ⟨x1,x2⟩:=take_spec (n:=n) (e:=(A8 v s.frm.toNat).e) hG
   rw [← hx] at x1 x2
   obtain ⟨g1,g2⟩:=gr_spec hG
   rw [eF,eT]
   generalize Fk v s.frm.toNat n=x at *
   generalize hKf:Nf (A8 v s.frm.toNat)=Kf at *
   generalize hKt:Nf (A8 v s.to.toNat)=Kt at *
   refine ⟨fun p1 _=>?_,?_⟩
   ·have gt:0 < (A8 v s.to.toNat).g→Kt * (2 * (A8 v s.to.toNat).g)≤2 * (A8 v s.to.toNat).e+(A8 v s.to.toNat).g∧2 * (A8 v s.to.toNat).e+(A8 v s.to.toNat).g < (Kt+1) * (2 * (A8 v s.to.toNat).g):=fun hp=>by
     rw [← hKt]; exact gr_spec hp
    have mono:∀ {a c g:Int},a≤c→0≤g→a * (2 * g)≤c * (2 * g):=fun h hg=>Int.mul_le_mul_of_nonneg_right h (by omega)
    by_cases hz0:(A8 v s.to.toNat).g=0
    ·have he0:=tz hz0
     rw [if_pos hz0]
     refine to_mix hG hn t1 p1 x1 x2 ?_ ?_ (fun h=>absurd hz0 (by omega)) g1 ?_
     ·split
      ·have:=mono (show Kf+1≤Kt+1 by omega) f1; omega
      ·exact g2
     ·rw [hz0,he0]; simp
     ·rw [hz0,he0]; simp
    ·have hp:0 < (A8 v s.to.toNat).g:=by omega
     obtain ⟨u1,u2⟩:=gt hp
     rw [if_neg hz0]
     refine to_mix hG hn t1 p1 x1 x2 ?_ ?_ (fun h=>?_) ?_ ?_
     ·split
      ·have:=mono (show Kf+1≤Kt+1 by omega) f1; omega
      ·exact g2
     ·split
      ·omega
      ·have:=mono (show Kt+1≤Kf+1 by omega) t1; omega
     ·split
      ·omega
      ·have:=mono (show Kt+1≤Kf+1 by omega) t1; omega
     ·split
      ·have:=mono (show Kt≤Kf by omega) f1; omega
      ·exact g1
     ·split
      ·exact u1
      ·have:=mono (show Kf≤Kt by omega) t1; omega
   ·by_cases hg0:(A8 v s.frm.toNat).g - n=0
    ·exact .inl hg0
    ·exact .inr (from_up hG hn (by omega) x1 x2 g1 g2)
  ·rw [B3 k0 h1 h2] at hM1
   have hM1:M=v:=hM1
   subst hM1
   refine ⟨fun p1 p2=>⟨?_,?_⟩,.inr ⟨Int.le_refl _,by omega⟩⟩
   ·split <;> omega
   ·rw [if_neg (by omega)]; split <;> omega
theorem mix_water (hM:doX vs v s n=(M,true)) (k1:s.kind=1) (ho:OkN vs.length v) (hvs:vs.length≤4) (hs:Dm vs.length s=true) (hn:0≤n) :
  ((A8 v s.to.toNat).g=0∨Nf (A8 M s.to.toNat)≤Nf (A8 v s.to.toNat))∧(A8 M s.to.toNat).e=(A8 v s.to.toNat).e:=by
 have hl:=ho.len hvs
 obtain ⟨⟨t1,_⟩,t3,_⟩:=ho.at s.to.toNat
 obtain ⟨hk,q2,q3,q4,_⟩:=Cd hs
 have hd:(doS vs v s n).2=true:=by rw [← doX_two,hM]
 have hM1:M=(doS vs v s n).1:=by
  have:doX vs v s n=doS vs v s n:=by unfold doX; rw [if_pos hd]
  rw [← this,hM]
 rw [B1 k1 hs hl] at hM1
 have eT:A8 M s.to.toNat=⟨(A8 v s.to.toNat).g+n,(A8 v s.to.toNat).e⟩:=by
  rw [hM1,Ek,if_pos ⟨rfl,by omega⟩]
 rw [eT]
 refine ⟨?_,rfl⟩
 by_cases hz:(A8 v s.to.toNat).g=0
 ·exact .inl hz
 ·right
  have hp:0 < (A8 v s.to.toNat).g:=by omega
  obtain ⟨g1,g2⟩:=gr_spec hp
  have hK:=gr_nn t1 t3
  generalize Nf (A8 v s.to.toNat)=K at *
  refine gr_le (l:=⟨(A8 v s.to.toNat).g+n,(A8 v s.to.toNat).e⟩) (by show 0 < _+n; omega) ?_
  show 2 * (A8 v s.to.toNat).e+((A8 v s.to.toNat).g+n) < (K+1) * (2 * ((A8 v s.to.toNat).g+n))
  have e1:(K+1) * (2 * ((A8 v s.to.toNat).g+n))=(K+1) * (2 * (A8 v s.to.toNat).g)+(2 * (K * n)+2 * n):=by
   rw [Int.mul_add 2,Int.mul_add,Int.add_mul K 1 (2 * n),Int.one_mul,Int.mul_left_comm K 2]
  have e2:=Int.mul_nonneg hK hn
  omega
theorem mix_boil (hM:doX vs v s n=(M,true)) (k2:s.kind=2) (ho:OkN vs.length v) (hr:Vl vs v) (hvs:vs.length≤4) (hs:Dm vs.length s=true) (hn:0≤n) :
  Nf (A8 v s.frm.toNat)≤Nf (A8 M s.frm.toNat)∧(A8 M s.frm.toNat).e=(A8 v s.frm.toNat).e:=by
 have hl:=ho.len hvs
 obtain ⟨⟨f1,_⟩,f3,_⟩:=ho.at s.frm.toNat
 obtain ⟨hk,q2,q3,q4,_⟩:=Cd hs
 have hd:(doS vs v s n).2=true:=by rw [← doX_two,hM]
 have hM1:M=(doS vs v s n).1:=by
  have:doX vs v s n=doS vs v s n:=by unfold doX; rw [if_pos hd]
  rw [← this,hM]
 rw [Bn k2 hs hl hr hn] at hM1 hd
 simp only [Bool.or_eq_true,Bool.and_eq_true,decide_eq_true_eq] at hd
 have eF:A8 M s.frm.toNat=⟨(A8 v s.frm.toNat).g - n,(A8 v s.frm.toNat).e⟩:=by
  rw [hM1,Ek,if_pos ⟨rfl,by omega⟩]
 rw [eF]
 refine ⟨?_,rfl⟩
 by_cases hg0:(A8 v s.frm.toNat).g - n=0
 ·have he:(A8 v s.frm.toNat).e=0:=by omega
  have hK:Nf (A8 v s.frm.toNat)≤0:=by
   by_cases hz:(A8 v s.frm.toNat).g=0
   ·rw [gr_zero hz]; omega
   ·exact gr_le (by omega) (by rw [he]; omega)
  have:=gr_nn (l:=⟨(A8 v s.frm.toNat).g - n,(A8 v s.frm.toNat).e⟩) (by show 0≤_ - n; omega) f3
  omega
 ·obtain ⟨g1,g2⟩:=gr_spec (show 0 < (A8 v s.frm.toNat).g by omega)
  have hK:=gr_nn f1 f3
  generalize Nf (A8 v s.frm.toNat)=K at *
  refine gr_ge (l:=⟨(A8 v s.frm.toNat).g - n,(A8 v s.frm.toNat).e⟩) (by show 0 < _ - n; omega) ?_
  show K * (2 * ((A8 v s.frm.toNat).g - n))≤2 * (A8 v s.frm.toNat).e+((A8 v s.frm.toNat).g - n)
  by_cases hK0:K=0
  ·rw [hK0,Int.zero_mul]; omega
  ·have e1:K * (2 * ((A8 v s.frm.toNat).g - n))=K * (2 * (A8 v s.frm.toNat).g) - 2 * (K * n):=by
    rw [Int.mul_sub 2,Int.mul_sub,Int.mul_left_comm K 2 n]
   have e2:=Int.mul_le_mul_of_nonneg_right (show 1≤K by omega) hn
   omega
end
end AM.Wort
end
/- The reference: the truth with a number; the law's readiness. -/
section
namespace AM.Try
open Go AM AM.Wort Go.Proofs
open Nat renaming reduceLT→sA,reduceAdd→sB,reduceMul→sC,reduceSub→sD,reduceLeDiff→sE,reduceEqDiff→sF,reduceBEq→sG
open Int renaming reduceAdd→sH,reduceSub→sI,reduceMul→sJ,reduceLT→sK,reduceLE→sL,reduceNeg→sM,reduceToNat→sN,reduceEq→sO
set_option maxRecDepth 100000
set_option maxHeartbeats 16000000
theorem c_rnth (b:Cx) (n:Int) (hv:Ja b) (hn0:0≤n) (hn1:n≤1000000000):Bj Tryz.prog 44 [avB b,i64 n] (avT (nthX b n)):=by
  refine A7 (v:=[]) (q:=[]) (N:=92) (rs:=[.cell 4 28]) Tryz.func44 rfl rfl rfl rfl rfl ?_
  have hnv:=hv.nv
  have hns:=hv.ns
  refine Aa fun K1 hK1=>?_
  refine Ab ?_
  simp (disch:=omega) only [amL,amT,sA,sB,sF,↓reduceIte]
  refine hK1 _ ?_
  refine Aa fun K2 hK2=>?_
  refine Ab ?_
  simp (disch:=omega) only [amL,amT,sA,sB,sF,↓reduceIte]
  refine hK2 _ ?_
  refine Aa fun K3 hK3=>?_
  refine Aa fun K4 hK4=>?_
  refine Ab ?_
  simp (disch:=omega) only [amL,sA]
  refine hK4 _ ?_
  refine Ak ?_
  refine Ac3 40 1 5 0 (by decide) rfl rfl rfl ?_
  refine Ac3 56 1 5 1 (by decide) rfl rfl rfl ?_
  refine A5 (α:=(List Int × List Int) × Int) (fun x=>⟨T [(1,i64 x.2),(2,.ptr 2 0),(4,.ptr 4 0),(5,.ptr 5 0),(6,i64 (x.1.1.length:Int))],O [(2,.cells (cB b)),(4,.cells [Dk,Dk,Dk]),(5,.cells [.own 40 x.1.1.length,.own 56 x.1.2.length,Dk]),(40,.arr 1 (x.1.1.map Jj)),(56,.arr 1 (x.1.2.map Jj))]⟩) (fun x=>b.vs.length - x.1.1.length) (fun x=>x.1.1.length≤b.vs.length∧x.1.2.length=x.1.1.length∧(0≤x.2∧x.2≤1000000000)∧accV x.1.1 x.1.2 (nthV (b.vs.drop x.1.1.length) x.2)=nthV b.vs n) (([],[]),n) ?_ ?_ (fun x hx5 K5 hK5=>?_)
  · exact ⟨Nat.zero_le _,rfl,⟨hn0,hn1⟩,rfl⟩
  · refine B0 ?_ ?_ ?_ ?_ <;> (try simp (disch:=omega) only [amL,sF,sG,↓reduceIte,reduceCtorEq]); all_goals first | rfl | trace_state
  obtain ⟨⟨gs,ds⟩,m⟩:=x; dsimp only at hx5 ⊢; obtain ⟨hk,hk2,⟨hm0,hm1⟩,hr⟩:=hx5
  refine Aa fun K6 hK6=>?_
  refine Aa fun K7 hK7=>?_
  refine Ab ?_
  simp (disch:=omega) only [amL,amT,sA,sF,↓reduceIte,reduceCtorEq]
  refine hK7 _ ?_
  refine Ag rfl (fun h=>?_) (fun h=>?_)
  ·first
   | exact Bool.noConfusion h
   |skip
    try simp only [decide_eq_true_eq] at h
    refine Ah ?_
    refine hK6 _ ?_
    refine Aa fun K8 hK8=>?_
    refine Ak ?_
    refine Aa fun K9 hK9=>?_
    refine Afr [.sto [2] 7,.sto [24] 7,.sto [25,26] 7,.sto [27] 7,.sto [28] 7] (by kernel_rfl) (by kernel_rfl) ?_
    simp (disch:=omega) only [A0,amL,amT,sA,sB,sE,sF,↓reduceIte,reduceCtorEq]
    refine ⟨by simp [Cf.ok,Tk,T,AV.known,AV.clean],?_⟩
    all_goals
     skip
     refine hK9 _ ?_
     refine Aa fun K10 hK10=>?_
     refine Bg (by kernel_rfl) (by kernel_rfl) ?_
     have hk3:gs.length < b.vs.length:=by omega
     obtain ⟨hp1,hp2,_⟩:=Cp (hv.ves hk3)
     have z1:=D2 hp1
     have z2:=D2 hp2
     have y1:=Co hp1
     have y2:=Co hp2
     have hmo:=mod_nn (m:=m) z1.1
     have hdi:=div_nn hm0 z1.1
     have htm:m.tmod (Dp (b.vs.getD gs.length default).g)=m % Dp (b.vs.getD gs.length default).g:=Int.tmod_eq_emod_of_nonneg hm0
     have htd:m.tdiv (Dp (b.vs.getD gs.length default).g)=m / Dp (b.vs.getD gs.length default).g:=Int.tdiv_eq_ediv_of_nonneg hm0
     have hmo2:=mod_nn (m:=m / Dp (b.vs.getD gs.length default).g) z2.1
     have hdi2:=div_nn hdi.1 z2.1
     have htm2:(m / Dp (b.vs.getD gs.length default).g).tmod (Dp (b.vs.getD gs.length default).d)=m / Dp (b.vs.getD gs.length default).g % Dp (b.vs.getD gs.length default).d:=Int.tmod_eq_emod_of_nonneg hdi.1
     have htd2:(m / Dp (b.vs.getD gs.length default).g).tdiv (Dp (b.vs.getD gs.length default).d)=m / Dp (b.vs.getD gs.length default).g / Dp (b.vs.getD gs.length default).d:=Int.tdiv_eq_ediv_of_nonneg hdi.1
     simp (disch:=omega) only [amL,amT,sA,sB,sF,↓reduceIte,reduceCtorEq]
     repeat' first | (refine Al (by kernel_rfl) rfl (by first | exact Px (b.vs.getD gs.length default).g (by omega) (by omega) | exact Px (b.vs.getD gs.length default).d (by omega) (by omega) | exact Px (b.ss.getD ms.length default).g (by omega) (by omega)) (by first | exact .inl rfl | exact .inr (.inl rfl)) ?_ ; simp (disch:=omega) only [htm,amL,amT,sA,sB,sE,sF,↓reduceIte,reduceCtorEq])
     refine hK10 _ ?_
     refine Aa fun K11 hK11=>?_
     refine Ab ?_
     simp (disch:=omega) only [amL,amT,sA,sB,sF,↓reduceIte]
     repeat' first | (refine Al (by kernel_rfl) rfl (by first | exact Px (b.vs.getD gs.length default).g (by omega) (by omega) | exact Px (b.vs.getD gs.length default).d (by omega) (by omega) | exact Px (b.ss.getD ms.length default).g (by omega) (by omega)) (by first | exact .inl rfl | exact .inr (.inl rfl)) ?_ ; simp (disch:=omega) only [htd,amL,amT,sA,sF,↓reduceIte])
     refine hK11 _ ?_
     refine Aa fun K12 hK12=>?_
     refine Bg (by kernel_rfl) (by kernel_rfl) ?_
     simp (disch:=omega) only [amL,amT,sA,sB,sF,↓reduceIte,reduceCtorEq]
     repeat' first | (refine Al (by kernel_rfl) rfl (by first | exact Px (b.vs.getD gs.length default).g (by omega) (by omega) | exact Px (b.vs.getD gs.length default).d (by omega) (by omega) | exact Px (b.ss.getD ms.length default).g (by omega) (by omega)) (by first | exact .inl rfl | exact .inr (.inl rfl)) ?_ ; simp (disch:=omega) only [htm2,amL,amT,sA,sB,sE,sF,↓reduceIte,reduceCtorEq])
     refine hK12 _ ?_
     refine Ab ?_
     simp (disch:=omega) only [amL,amT,sA,sB,sF,↓reduceIte]
     repeat' first | (refine Al (by kernel_rfl) rfl (by first | exact Px (b.vs.getD gs.length default).g (by omega) (by omega) | exact Px (b.vs.getD gs.length default).d (by omega) (by omega) | exact Px (b.ss.getD ms.length default).g (by omega) (by omega)) (by first | exact .inl rfl | exact .inr (.inl rfl)) ?_ ; simp (disch:=omega) only [htd2,amL,amT,sA,sF,↓reduceIte])
     refine hK8 _ ?_
     refine Ab ?_
     simp (disch:=omega) only [amL,amT,sA,sF,↓reduceIte]
     refine hK5 ((gs++[(b.vs.getD gs.length default).g.lo+m % Dp (b.vs.getD gs.length default).g],ds++[(b.vs.getD gs.length default).d.lo+m / Dp (b.vs.getD gs.length default).g % Dp (b.vs.getD gs.length default).d]),nextV (b.vs.getD gs.length default) m) _ ?_ ?_ (B0 ?_ ?_ ?_ ?_)
     all_goals (try simp (disch:=omega) only [amL,sF,sG,↓reduceIte])
     all_goals first | omega | exact ⟨by simp; omega,by simp [hk2],⟨hdi2.1,Int.le_trans hdi2.2 (Int.le_trans hdi.2 hm1)⟩,acc_step (by omega) hr _ _ rfl rfl⟩ | (simp; omega) | (rw [List.length_append]; rfl) | (rw [List.map_append]; rfl) | (simp; done) | trace_state
  ·first
   | exact Bool.noConfusion h
   |skip
    try simp only [decide_eq_false_iff_not] at h
    refine Bc ?_
    refine hK3 _ ?_
    refine Aa fun K13 hK13=>?_
    refine Aa fun K14 hK14=>?_
    refine Ab ?_
    simp (disch:=omega) only [amL,sA]
    refine hK14 _ ?_
    refine Ak ?_
    refine Ac3 85 1 5 2 (by decide) rfl rfl rfl ?_
    refine A5 (α:=List Int × Int) (fun x=>⟨T [(1,i64 x.2),(2,.ptr 2 0),(4,.ptr 4 0),(5,.ptr 5 0),(9,i64 (x.1.length:Int))],O [(2,.cells (cB b)),(4,.cells [Dk,Dk,Dk]),(5,.cells [.own 40 gs.length,.own 56 ds.length,.own 85 x.1.length]),(40,.arr 1 (gs.map Jj)),(56,.arr 1 (ds.map Jj)),(85,.arr 1 (x.1.map Jj))]⟩) (fun x=>b.ss.length - x.1.length) (fun x=>x.1.length≤b.ss.length∧(0≤x.2∧x.2≤1000000000)∧x.1++nthS (b.ss.drop x.1.length) x.2=nthS b.ss m) ([],m) ?_ ?_ (fun x hx15 K15 hK15=>?_)
    · exact ⟨Nat.zero_le _,⟨hm0,hm1⟩,rfl⟩
    · refine B0 ?_ ?_ ?_ ?_ <;> (try simp (disch:=omega) only [amL,sF,sG,↓reduceIte]); all_goals first | rfl | trace_state
    obtain ⟨ms,m2⟩:=x; dsimp only at hx15 ⊢; obtain ⟨hj,⟨hm20,hm21⟩,hr2⟩:=hx15
    refine Aa fun K16 hK16=>?_
    refine Aa fun K17 hK17=>?_
    refine Ab ?_
    simp (disch:=omega) only [amL,amT,sA,sF,↓reduceIte,reduceCtorEq]
    refine hK17 _ ?_
    refine Ag rfl (fun h=>?_) (fun h=>?_)
    ·first
     | exact Bool.noConfusion h
     |skip
      try simp only [decide_eq_true_eq] at h
      refine Ah ?_
      refine hK16 _ ?_
      refine Aa fun K18 hK18=>?_
      refine Ak ?_
      refine Aa fun K19 hK19=>?_
      refine Ab ?_
      simp (disch:=omega) only [Eu,amL,amT,sA,sB,sF,↓reduceIte,reduceCtorEq]
      refine hK19 _ ?_
      refine Aa fun K20 hK20=>?_
      refine Bg (by kernel_rfl) (by kernel_rfl) ?_
      have hk3:ms.length < b.ss.length:=by omega
      have hp1:=(Cd (hv.stp hk3)).2.2.2.2
      have z1:=D2 hp1
      have y1:=Co hp1
      have hmo:=mod_nn (m:=m2) z1.1
      have hdi:=div_nn hm20 z1.1
      have htm:m2.tmod (Dp (b.ss.getD ms.length default).g)=m2 % Dp (b.ss.getD ms.length default).g:=Int.tmod_eq_emod_of_nonneg hm20
      have htd:m2.tdiv (Dp (b.ss.getD ms.length default).g)=m2 / Dp (b.ss.getD ms.length default).g:=Int.tdiv_eq_ediv_of_nonneg hm20
      simp (disch:=omega) only [amL,amT,sA,sB,sF,↓reduceIte,reduceCtorEq]
      repeat' first | (refine Al (by kernel_rfl) rfl (by first | exact Px (b.vs.getD gs.length default).g (by omega) (by omega) | exact Px (b.vs.getD gs.length default).d (by omega) (by omega) | exact Px (b.ss.getD ms.length default).g (by omega) (by omega)) (by first | exact .inl rfl | exact .inr (.inl rfl)) ?_ ; simp (disch:=omega) only [htm,amL,amT,sA,sB,sE,sF,↓reduceIte,reduceCtorEq])
      refine hK20 _ ?_
      refine Ab ?_
      simp (disch:=omega) only [amL,amT,sA,sB,sF,↓reduceIte]
      repeat' first | (refine Al (by kernel_rfl) rfl (by first | exact Px (b.vs.getD gs.length default).g (by omega) (by omega) | exact Px (b.vs.getD gs.length default).d (by omega) (by omega) | exact Px (b.ss.getD ms.length default).g (by omega) (by omega)) (by first | exact .inl rfl | exact .inr (.inl rfl)) ?_ ; simp (disch:=omega) only [htd,amL,amT,sA,sF,↓reduceIte])
      refine hK18 _ ?_
      refine Ab ?_
      simp (disch:=omega) only [amL,amT,sA,sF,↓reduceIte]
      refine hK15 (ms++[(b.ss.getD ms.length default).g.lo+m2 % Dp (b.ss.getD ms.length default).g],m2 / Dp (b.ss.getD ms.length default).g) _ ?_ ?_ (B0 ?_ ?_ ?_ ?_)
      all_goals (try simp (disch:=omega) only [amL,sF,sG,↓reduceIte])
      all_goals first | omega | exact ⟨by simp; omega,⟨by omega,by omega⟩,nthS_step (by omega) hr2 _ rfl⟩ | (simp; omega) | (rw [List.length_append]; rfl) | (rw [List.map_append]; rfl) | (simp; done) | trace_state
    ·first
     | exact Bool.noConfusion h
     |skip
      try simp only [decide_eq_false_iff_not] at h
      refine Bc ?_
      refine hK13 _ ?_
      refine Aa fun K21 hK21=>?_
      refine Ab ?_
      simp (disch:=omega) only [amL,amT,sB,sF,↓reduceIte]
      refine hK21 _ ?_
      refine Ae ?_
      try simp (disch:=omega) only [amL,amT,sB,sF,↓reduceIte]
      have e1:=acc_end (by omega) hr
      have e2:=nthS_end (by omega) hr2
      unfold nthX
      rw [e1]
      dsimp only
      rw [e2,List.take_of_length_le (by simp),List.take_of_length_le (by simp),List.take_of_length_le (by simp)]
theorem c_lthin0 (b:Cx):Bj Tryz.prog 13 [avB b,.agg [Dk,Dk,Dk]] (bl (Ai5 b ⟨[],[],[]⟩)):=by
  refine A7 (v:=[]) (q:=[]) (N:=33) (rs:=[.tmp 4]) Tryz.func13 rfl rfl rfl rfl rfl ?_
  refine Aa fun K1 hK1=>?_
  refine Ab ?_
  simp (disch:=omega) only [amL,sA,sB,sF,↓reduceIte,reduceCtorEq]
  refine hK1 _ ?_
  refine Aa fun K2 hK2=>?_
  refine Ab ?_
  simp (disch:=omega) only [amL,amT,sA,sF,↓reduceIte,reduceCtorEq]
  repeat' first | (refine Cn (fun h=>?_) (fun h=>?_) <;> simp (disch:=omega) only [h,amL,amT,sA,sF,sL,↓reduceIte,reduceCtorEq]) | (refine Bo (fun h=>?_) (fun h=>?_) <;> simp (disch:=omega) only [h,amL,amT,sA,sB,sC,sD,sE,sF,sG,sH,sI,sJ,sK,sL,sM,sN,sO,↓reduceIte,reduceCtorEq])
  all_goals
   skip
   refine hK2 _ ?_
   refine Ae ?_
   try simp (disch:=omega) only [amL,↓reduceIte]
   all_goals first | (simp only [Ai5, *,decide_true,decide_false,Bool.true_and,Bool.false_and]; done) | (simp_all [Ai5]; done) | (simp_all [Ai5]; omega)
theorem thin0 {b:Cx} {t:Tru} (h:Ai5 b t=true):b.vs.length < 1000000∧b.ss.length < 1000000:=by
  simp only [Ai5,Bool.and_eq_true,decide_eq_true_eq] at h
  omega
def readyB (b:Cx):Bool:=Ai5 b ⟨[],[],[]⟩&&decide (B5 b=0)
theorem c_lready (b:Cx):Bj Tryz.prog 42 [avB b] (bl (readyB b)):=by
  refine A7 (v:=[]) (q:=[]) (N:=11) (rs:=[.tmp 2]) Tryz.func42 rfl rfl rfl rfl rfl ?_
  refine Aa fun K1 hK1=>?_
  refine Ab ?_
  simp (disch:=omega) only [amL,sA,↓reduceIte]
  refine hK1 _ ?_
  refine Aa fun K2 hK2=>?_
  refine Ab ?_
  simp (disch:=omega) only [amL,amT,sA,sB,sF,↓reduceIte]
  repeat' first | (refine Cn (fun h=>?_) (fun h=>?_) <;> simp (disch:=omega) only [h,amL,amT,sA,sB,sC,sD,sE,sF,sG,sH,sI,sJ,sK,sL,sM,sN,sO,↓reduceIte,reduceCtorEq]) | (refine Bo (fun h=>?_) (fun h=>?_) <;> simp (disch:=omega) only [h,amL,amT,sA,sB,sF,↓reduceIte]) | (refine Al (by kernel_rfl) rfl (c_lthin0 b) (by first | exact .inl rfl | exact .inr (.inl rfl)) ?_ ; simp (disch:=omega) only [amL,sA,↓reduceIte]) | (refine Al (by kernel_rfl) rfl (Bf5 b (thin0 (by assumption)).1 (thin0 (by assumption)).2) (by first | exact .inl rfl | exact .inr (.inl rfl)) ?_ ; simp (disch:=omega) only [amL,amT,sA,sF,↓reduceIte])
  all_goals
   skip
   refine hK2 _ ?_
   refine Ae ?_
   try simp (disch:=omega) only [amL,↓reduceIte]
   all_goals first | (simp_all [readyB]; done) | trace_state
def stepR (b:Cx) (t:Tru):AV:=match (An3 (lastB b) (lastT b t)).2,(An3 b t).2 with
  | true,true=>.tup [.p (.sl (stL (An3 (lastB b) (lastT b t)).1)),.p (.sl (stL (An3 b t).1)),bl true,bl true]
  | _,_=>.tup [Dk,Dk,bl false,bl true]
theorem stepR_isP (b:Cx) (t:Tru):(stepR b t).isP=true:=by unfold stepR; split <;> rfl
theorem playA_ok {b:Cx} {t:Tru} (hf:B5 b=0) (hl:C1 b t=true) (hx:(An3 b t).2=true):D9 b t=.tup [.p (.sl (stL (An3 b t).1)),i64 0]:=by
  have hv:=Acu hf
  obtain ⟨e1,e2⟩:=play_eq t hv
  have e3:(Ns b t).2=true:=e1.trans hx
  unfold D9
  rw [if_pos hf,if_pos hl,if_pos e3,e2 e3]; rfl
theorem EO_slSt {r:RB} {N:Nat} {s:St} {K:St→Prop} {dst:Option Nat} {ty:TypeId} {pos:String} {after:Array Edge} {g:Option (Nat × Bool)} {x:Operand} {lo hi:Option Operand}:EO Tryz.prog r N ⟨dst,.slice 23 x lo hi none,ty,pos,after,g⟩ s K=EOp r.b N dst s K (fSlP (fun e=>(Ac Tryz.prog e).sz) (fun e=>(Ac Tryz.prog e).agg) 94 ((ev s.t x).pv?.bind PV.list?) (Bk (ev s.t) 0 lo) (fun n=>Bk (ev s.t) n hi)):=EO_sliceP (by rw [Bdk])
theorem EO_slN {r:RB} {N:Nat} {s:St} {K:St→Prop} {dst:Option Nat} {ty:TypeId} {pos:String} {after:Array Edge} {g:Option (Nat × Bool)} {x:Operand} {lo hi:Option Operand}:EO Tryz.prog r N ⟨dst,.slice 26 x lo hi none,ty,pos,after,g⟩ s K=EOp r.b N dst s K (fSlP (fun e=>(Ac Tryz.prog e).sz) (fun e=>(Ac Tryz.prog e).agg) 3 ((ev s.t x).pv?.bind PV.list?) (Bk (ev s.t) 0 lo) (fun n=>Bk (ev s.t) n hi)):=EO_sliceP (by rw [Bcz])
theorem encS_allR (p:List Stp):((p.map Qc).all fun c=>decide (c.length=5))=true:=by simp
theorem islN_all3 (l:List Int):((l.map fun n=>[iv n]).all fun c=>decide (c.length=1))=true:=by simp
theorem tkS {l:List Stp} {n:Nat}:(l.map Qc).take n=(l.take n).map Qc:=List.map_take.symm
theorem tkN {l:List Int} {n:Nat}:(l.map fun n=>[iv n]).take n=(l.take n).map fun n=>[iv n]:=List.map_take.symm
theorem c_pl {b:Cx} {t:Tru} (hf:B5 b=0) (hl:C1 b t=true) (hx:(An3 b t).2=true):Bj Tryz.prog 15 [avB b,avT t] (.tup [.p (.sl (stL (An3 b t).1)),i64 0]):=by
  have hv:=Acu hf
  obtain ⟨h1,h2,h3,_⟩:=Cg hl
  have hnv:=hv.nv
  have hns:=hv.ns
  have h:=Au1 b t (by omega) (by omega) (by rw [Asi]; omega)
  rwa [playA_ok hf hl hx] at h
theorem c_lbr {b:Cx} (hv:Ja b):Bj Tryz.prog 16 [avB b] (avB b):=Bgs b (Nat.lt_of_le_of_lt hv.nv (by decide)) (Nat.lt_of_le_of_lt hv.ns (by decide))
theorem c_ltr {b:Cx} {t:Tru} (hv:Ja b) (hl:C1 b t=true):Bj Tryz.prog 17 [avT t] (avT t):=by
  obtain ⟨h1,h2,h3,_⟩:=Cg hl
  have hnv:=hv.nv
  have hns:=hv.ns
  exact Bgo t (by omega) (by omega) (by omega)
theorem stL_len (v:List Liq):(stL v).length=v.length:=by unfold stL; rw [List.length_map]
theorem playX_len {b:Cx} {t:Tru} (hf:B5 b=0) (hl:C1 b t=true) (hx:(An3 b t).2=true):(An3 b t).1.length=b.vs.length:=by
  have hv:=Acu hf
  have hnv:=hv.nv
  obtain ⟨e1,e2⟩:=play_eq t hv
  rw [← e2 (e1.trans hx),List.length_take,(Arw hv hl).1]; omega
theorem c_lstepped (b:Cx) (w:Int) (hf:B5 b=0) (hs:0 < b.ss.length) (hw:0≤w∧w≤65535):Bj Tryz.prog 47 [avB b,i64 w] (stepR b (nthX b (w % Ao0 b))):=by
  refine A7 (v:=[]) (q:=[]) (N:=100) (rs:=[.tmp 4,.tmp 5,.tmp 6,.tmp 7]) Tryz.func47 rfl rfl rfl rfl (stepR_isP _ _) ?_
  have hv:=Acu hf
  have hnv:=hv.nv
  have hns:=hv.ns
  have hmb:=Agb hv b.ss.length
  rw [List.take_length] at hmb
  have hmo:w.tmod (Ao0 b)=w % Ao0 b:=Int.tmod_eq_emod_of_nonneg hw.1
  have hmb2:1≤Ao0 b:=hmb.1
  have hmod:=mod_nn (m:=w) hmb2
  have hmod2:w % Ao0 b≤w:=by
    have:=Int.mul_ediv_add_emod w (Ao0 b)
    have:=Int.mul_nonneg (show 0≤Ao0 b by omega) (Int.ediv_nonneg hw.1 (show 0≤Ao0 b by omega))
    omega
  obtain ⟨t,ht⟩:∃ t,t=nthX b (w % Ao0 b):=⟨_,rfl⟩
  have hl:C1 b t=true:=by rw [ht]; exact nth_listed hv _
  have hll:=listed_last hl
  have hfl:=many_last hf
  have hvl:=valid_last hv
  obtain ⟨p1,p2,p3,p4,p5⟩:=Cg hl
  obtain ⟨s1,s2,s3,s4,s5⟩:=Cg hll
  have htn:((b.ss.length:Int) - 1).toNat=b.ss.length - 1:=by omega
  have htn2:((b.ss.length - 1:Nat):Int).toNat=b.ss.length - 1:=by omega
  have hln:(b.ss.take (b.ss.length - 1)).length=b.ss.length - 1:=by rw [List.length_take]; omega
  have hagS:(Ac Tryz.prog 94).agg.isSome=true:=by simp only [amT]; rfl
  have hagN:(Ac Tryz.prog 3).agg.isSome=true:=by simp only [amT]; rfl
  have hrn:=c_rnth b (w % Ao0 b) hv hmod.1 (by omega)
  rw [← ht] at hrn ⊢
  cases hx1:(An3 (lastB b) (lastT b t)).2 <;> cases hx2:(An3 b t).2
  all_goals
    first
    | (have hg1:(An3 (lastB b) (lastT b t)).1.length=b.vs.length:=playX_len hfl hll hx1; have hg2:=playX_len hf hl hx2)
    | (have hg1:=htn; have hg2:=htn)
    refine Aa fun K1 hK1=>?_
    refine Ab ?_
    simp (disch:=(first | omega | (simp only [List.length_map,List.length_take]; omega) | (simp only [hagS,hagN]; done) | (simp only [amT,encS_allR,islN_all3]; done))) only [amL,sA,sB,↓reduceIte]
    refine hK1 _ ?_
    refine Aa fun K2 hK2=>?_
    refine Ab ?_
    simp (disch:=(first | omega | (simp only [List.length_map,List.length_take]; omega) | (simp only [hagS,hagN]; done) | (simp only [amT,encS_allR,islN_all3]; done))) only [amL,amT,sA,sB,sF,↓reduceIte]
    refine hK2 _ ?_
    refine Aa fun K3 hK3=>?_
    refine Ab ?_
    simp (disch:=(first | omega | (simp only [List.length_map,List.length_take]; omega) | (simp only [hagS,hagN]; done) | (simp only [amT,encS_allR,islN_all3]; done))) only [hg1,htn,tkS,EO_slSt,pvl_sl,fSlP_go,fSlR_0,Bw,Bx,Cl,amL,amT,sA,sB,sF,↓reduceIte,reduceCtorEq]
    refine hK3 _ ?_
    refine Aa fun K4 hK4=>?_
    refine Bg (by kernel_rfl) (by kernel_rfl) ?_
    simp (disch:=(first | omega | (simp only [List.length_map,List.length_take]; omega) | (simp only [hagS,hagN]; done) | (simp only [amT,encS_allR,islN_all3]; done))) only [amL,amT,sA,sB,sF,↓reduceIte,reduceCtorEq]
    repeat' first | (refine Al (by kernel_rfl) rfl (Atj b hv) (by first | exact .inl rfl | exact .inr (.inl rfl)) ?_ ; simp (disch:=(first | omega | (simp only [List.length_map,List.length_take]; omega) | (simp only [hagS,hagN]; done) | (simp only [amT,encS_allR,islN_all3]; done))) only [hmo,amL,amT,sA,sF,↓reduceIte]) | (refine Al (by kernel_rfl) rfl (hrn) (by first | exact .inl rfl | exact .inr (.inl rfl)) ?_ ; simp (disch:=(first | omega | (simp only [List.length_map,List.length_take]; omega) | (simp only [hagS,hagN]; done) | (simp only [amT,encS_allR,islN_all3]; done))) only [amL,amT,sA,sB,sF,↓reduceIte])
    refine hK4 _ ?_
    refine Aa fun K5 hK5=>?_
    refine Ab ?_
    simp (disch:=(first | omega | (simp only [List.length_map,List.length_take]; omega) | (simp only [hagS,hagN]; done) | (simp only [amT,encS_allR,islN_all3]; done))) only [amL,amT,sA,sB,sF,↓reduceIte]
    refine hK5 _ ?_
    refine Aa fun K6 hK6=>?_
    refine Ab ?_
    simp (disch:=(first | omega | (simp only [List.length_map,List.length_take]; omega) | (simp only [hagS,hagN]; done) | (simp only [amT,encS_allR,islN_all3]; done))) only [htn2,tkN,EO_slN,pvl_sl,fSlP_go,fSlR_0,Bw,Bx,Cl,hln,amL,amT,sA,sB,sF,↓reduceIte,reduceCtorEq]
    refine hK6 _ ?_
    refine Aa fun K7 hK7=>?_
    refine Ab ?_
    simp (disch:=(first | omega | (simp only [List.length_map,List.length_take]; omega) | (simp only [hagS,hagN]; done) | (simp only [amT,encS_allR,islN_all3]; done))) only [amL,amT,sA,sB,sF,↓reduceIte]
    repeat' first | (refine Al (by kernel_rfl) rfl (by first | exact Bgv (lastB b) (lastT b t) hvl hll | exact Bgv b t hv hl) (by first | exact .inl rfl | exact .inr (.inl rfl)) ?_ ; simp (disch:=(first | omega | (simp only [List.length_map,List.length_take]; omega) | (simp only [hagS,hagN]; done) | (simp only [amT,encS_allR,islN_all3]; done))) only [hx1,amL,sA,sF,↓reduceIte])
    refine hK7 _ ?_
    refine Aa fun K8 hK8=>?_
    refine Ab ?_
    simp (disch:=(first | omega | (simp only [List.length_map,List.length_take]; omega) | (simp only [hagS,hagN]; done) | (simp only [amT,encS_allR,islN_all3]; done))) only [amL,amT,sA,sB,sF,↓reduceIte]
    repeat' first | (refine Al (by kernel_rfl) rfl (by first | exact Bgv (lastB b) (lastT b t) hvl hll | exact Bgv b t hv hl) (by first | exact .inl rfl | exact .inr (.inl rfl)) ?_ ; simp (disch:=(first | omega | (simp only [List.length_map,List.length_take]; omega) | (simp only [hagS,hagN]; done) | (simp only [amT,encS_allR,islN_all3]; done))) only [hx2,amL,sA,sF,↓reduceIte])
    refine hK8 _ ?_
    refine Aa fun K9 hK9=>?_
    refine Aa fun K10 hK10=>?_
    refine Ab ?_
    simp (disch:=(first | omega | (simp only [List.length_map,List.length_take]; omega) | (simp only [hagS,hagN]; done) | (simp only [amT,encS_allR,islN_all3]; done))) only [amL,sA,sF,↓reduceIte]
    repeat' first | (refine Cn (fun h=>?_) (fun h=>?_) <;> simp (disch:=(first | omega | (simp only [List.length_map,List.length_take]; omega) | (simp only [hagS,hagN]; done) | (simp only [amT,encS_allR,islN_all3]; done))) only [h,hx1,hx2,stL_len,hg1,hg2,htn,htn2,hmo,tkS,tkN,EO_slSt,EO_slN,pvl_sl,fSlP_go,fSlR_0,Bw,Bx,Cl,hln,Int.toNat_natCast,amL,amT,sA,sB,sC,sD,sE,sF,sG,sH,sI,sJ,sK,sL,sM,sN,sO,↓reduceIte,reduceCtorEq]) | (refine Bo (fun h=>?_) (fun h=>?_) <;> simp (disch:=(first | omega | (simp only [List.length_map,List.length_take]; omega) | (simp only [hagS,hagN]; done) | (simp only [amT,encS_allR,islN_all3]; done))) only [h,hx1,hx2,stL_len,hg1,hg2,htn,htn2,hmo,tkS,tkN,EO_slSt,EO_slN,pvl_sl,fSlP_go,fSlR_0,Bw,Bx,Cl,hln,Int.toNat_natCast,amL,amT,sA,sB,sC,sD,sE,sF,sG,sH,sI,sJ,sK,sL,sM,sN,sO,↓reduceIte,reduceCtorEq])
    all_goals
     skip
     refine hK10 _ ?_
     refine Ag rfl (fun h=>?_) (fun h=>?_)
     ·first
      | exact Bool.noConfusion h
      |skip
       try simp only [] at h
       refine Aa fun K11 hK11=>?_
       refine Ab ?_
       simp (disch:=(first | omega | (simp only [List.length_map,List.length_take]; omega) | (simp only [hagS,hagN]; done) | (simp only [amT,encS_allR,islN_all3]; done))) only [amL,sA]
       refine hK11 _ ?_
       refine Ae ?_
       try simp (disch:=(first | omega | (simp only [List.length_map,List.length_take]; omega) | (simp only [hagS,hagN]; done) | (simp only [amT,encS_allR,islN_all3]; done))) only [amL]
       all_goals (simp only [stepR,hx1,hx2] ; first | done | rfl | trace_state)
     ·first
      | exact Bool.noConfusion h
      |skip
       try simp only [] at h
       refine Ah ?_
       refine hK9 _ ?_
       refine Aa fun K12 hK12=>?_
       refine Bg (by kernel_rfl) (by kernel_rfl) ?_
       simp (disch:=(first | omega | (simp only [List.length_map,List.length_take]; omega) | (simp only [hagS,hagN]; done) | (simp only [amT,encS_allR,islN_all3]; done))) only [amL,amT,sA,sB,sF,↓reduceIte]
       repeat' first | (refine Al (by kernel_rfl) rfl (by first | exact c_lbr hvl | exact c_lbr hv) (by first | exact .inl rfl | exact .inr (.inl rfl)) ?_ ; simp (disch:=(first | omega | (simp only [List.length_map,List.length_take]; omega) | (simp only [hagS,hagN]; done) | (simp only [amT,encS_allR,islN_all3]; done))) only [amL,amT,sA,sB,sF,↓reduceIte]) | (refine Al (by kernel_rfl) rfl (by first | exact c_ltr hvl hll | exact c_ltr hv hl) (by first | exact .inl rfl | exact .inr (.inl rfl)) ?_ ; simp (disch:=(first | omega | (simp only [List.length_map,List.length_take]; omega) | (simp only [hagS,hagN]; done) | (simp only [amT,encS_allR,islN_all3]; done))) only [amL,sF,↓reduceIte]) | (refine Al (by kernel_rfl) rfl (by first | exact c_pl hfl hll hx1 | exact c_pl hf hl hx2) (by first | exact .inl rfl | exact .inr (.inl rfl)) ?_ ; simp (disch:=(first | omega | (simp only [List.length_map,List.length_take]; omega) | (simp only [hagS,hagN]; done) | (simp only [amT,encS_allR,islN_all3]; done))) only [amL,sA,sF,↓reduceIte])
       refine hK12 _ ?_
       refine Aa fun K13 hK13=>?_
       refine Bg (by kernel_rfl) (by kernel_rfl) ?_
       simp (disch:=(first | omega | (simp only [List.length_map,List.length_take]; omega) | (simp only [hagS,hagN]; done) | (simp only [amT,encS_allR,islN_all3]; done))) only [amL,amT,sA,sB,sF,↓reduceIte]
       repeat' first | (refine Al (by kernel_rfl) rfl (by first | exact c_lbr hvl | exact c_lbr hv) (by first | exact .inl rfl | exact .inr (.inl rfl)) ?_ ; simp (disch:=(first | omega | (simp only [List.length_map,List.length_take]; omega) | (simp only [hagS,hagN]; done) | (simp only [amT,encS_allR,islN_all3]; done))) only [amL,amT,sA,sB,sF,↓reduceIte]) | (refine Al (by kernel_rfl) rfl (by first | exact c_ltr hvl hll | exact c_ltr hv hl) (by first | exact .inl rfl | exact .inr (.inl rfl)) ?_ ; simp (disch:=(first | omega | (simp only [List.length_map,List.length_take]; omega) | (simp only [hagS,hagN]; done) | (simp only [amT,encS_allR,islN_all3]; done))) only [amL,sF,↓reduceIte]) | (refine Al (by kernel_rfl) rfl (by first | exact c_pl hfl hll hx1 | exact c_pl hf hl hx2) (by first | exact .inl rfl | exact .inr (.inl rfl)) ?_ ; simp (disch:=(first | omega | (simp only [List.length_map,List.length_take]; omega) | (simp only [hagS,hagN]; done) | (simp only [amT,encS_allR,islN_all3]; done))) only [amL,sA,sF,↓reduceIte])
       refine hK13 _ ?_
       refine Aa fun K14 hK14=>?_
       refine Bg (by kernel_rfl) (by kernel_rfl) ?_
       simp (disch:=(first | omega | (simp only [List.length_map,List.length_take]; omega) | (simp only [hagS,hagN]; done) | (simp only [amT,encS_allR,islN_all3]; done))) only [stL_len,hg1,hg2,amL,amT,sA,sF,↓reduceIte,reduceCtorEq]
       repeat' first | (refine Cn (fun h=>?_) (fun h=>?_) <;> simp (disch:=(first | omega | (simp only [List.length_map,List.length_take]; omega) | (simp only [hagS,hagN]; done) | (simp only [amT,encS_allR,islN_all3]; done))) only [h,hx1,hx2,stL_len,hg1,hg2,htn,htn2,hmo,tkS,tkN,EO_slSt,EO_slN,pvl_sl,fSlP_go,fSlR_0,Bw,Bx,Cl,hln,Int.toNat_natCast,amL,amT,sA,sB,sC,sD,sE,sF,sG,sH,sI,sJ,sK,sL,sM,sN,sO,↓reduceIte,reduceCtorEq]) | (refine Bo (fun h=>?_) (fun h=>?_) <;> simp (disch:=(first | omega | (simp only [List.length_map,List.length_take]; omega) | (simp only [hagS,hagN]; done) | (simp only [amT,encS_allR,islN_all3]; done))) only [h,hx1,hx2,stL_len,hg1,hg2,htn,htn2,hmo,tkS,tkN,EO_slSt,EO_slN,pvl_sl,fSlP_go,fSlR_0,Bw,Bx,Cl,hln,Int.toNat_natCast,amL,amT,sA,sB,sC,sD,sE,sF,sG,sH,sI,sJ,sK,sL,sM,sN,sO,↓reduceIte,reduceCtorEq])
       all_goals
        skip
        refine hK14 _ ?_
        refine Ae ?_
        try simp (disch:=(first | omega | (simp only [List.length_map,List.length_take]; omega) | (simp only [hagS,hagN]; done) | (simp only [amT,encS_allR,islN_all3]; done))) only [amL]
        all_goals (simp only [stepR,hx1,hx2] ; first | done | rfl | trace_state)
theorem stepR_t {b:Cx} {t:Tru} (h1:(An3 (lastB b) (lastT b t)).2=true) (h2:(An3 b t).2=true):stepR b t=.tup [.p (.sl (stL (An3 (lastB b) (lastT b t)).1)),.p (.sl (stL (An3 b t).1)),bl true,bl true]:=by
 unfold stepR; rw [h1,h2]
theorem stepR_f {b:Cx} {t:Tru} (h:¬ ((An3 (lastB b) (lastT b t)).2=true∧(An3 b t).2=true)):stepR b t=.tup [Dk,Dk,bl false,bl true]:=by
 unfold stepR
 split
 ·rename_i h1 h2; exact absurd ⟨h1,h2⟩ h
 ·rfl
theorem step_last {b:Cx} {t:Tru} (hs:0 < b.ss.length) (h1:(An3 (lastB b) (lastT b t)).2=true):An3 b t=doX b.vs (An3 (lastB b) (lastT b t)).1 (b.ss.getD (b.ss.length - 1) default) (t.m.getD (b.ss.length - 1) 0):=by
 rw [play_last hs,if_neg (by rw [h1]; decide)]
theorem c_wortMixes (b:Cx) (w:Nat) (_:Arq b) (hw:w < 65536):Bj Tryz.prog 9 [avB b,.p (.val (.int .u16 w))] (bl true):=by
  refine A7 (v:=[]) (q:=[]) (N:=225) (rs:=[.tmp 4]) Tryz.func9 rfl rfl rfl rfl rfl ?_
  cases hq:readyB b
  case' true=>
    by_cases hz:b.ss.length=0
    case' neg=>
      have hth:Ai5 b ⟨[],[],[]⟩=true:=by simp [readyB] at hq; exact hq.1
      have hf:B5 b=0:=by simp [readyB] at hq; exact hq.2
      have hs:0 < b.ss.length:=by omega
      have hst:=c_lstepped b w hf hs ⟨by omega,by omega⟩
      have hv:=Acu hf
      obtain ⟨t,ht⟩:∃ t,t=nthX b ((w:Int) % Ao0 b):=⟨_,rfl⟩
      have hl:C1 b t=true:=by rw [ht]; exact nth_listed hv _
      rw [← ht] at hst
      by_cases hx:(An3 (lastB b) (lastT b t)).2=true∧(An3 b t).2=true
  all_goals
    first
    | (have hR:=stepR_t hx.1 hx.2
       have hL:=playX_len (many_last hf) (listed_last hl) hx.1
       have hM:=playX_len hf hl hx.2
       have hL:(An3 (lastB b) (lastT b t)).1.length=b.vs.length:=hL
       have hok:OkN b.vs.length (An3 (lastB b) (lastT b t)).1:=playX_ok (valid_last hv) (listed_last hl)
       have hnv:=hv.nv
       have hns:=hv.ns
       obtain ⟨s,hsd⟩:∃ s,s=b.ss.getD (b.ss.length - 1) default:=⟨_,rfl⟩
       have hss:=hv.stp (k:=b.ss.length - 1) (by omega)
       have hpl:=step_last hs hx.1
       rw [← hsd] at hss hpl
       obtain ⟨q1,q2,q3,q4,_⟩:=Cd hss
       have hm:=((F3 hv hl).2.2 (b.ss.length - 1)).1
       have hdo:doX b.vs (An3 (lastB b) (lastT b t)).1 s (t.m.getD (b.ss.length - 1) 0)=((An3 b t).1,true):=by rw [← hpl]; exact Prod.ext rfl hx.2
       have hzv:=playX_zero (valid_last hv) (listed_last hl)
       have hrv:Vl b.vs (An3 (lastB b) (lastT b t)).1:=playX_room (valid_last hv) (listed_last hl) hx.1
       have hA:=fun k0:s.kind=0=>mix_move hdo k0 hzv hok hnv hss hm
       have hW:=fun k1:s.kind=1=>mix_water hdo k1 hok hnv hss hm
       have hB:=fun k2:s.kind=2=>mix_boil hdo k2 hok hrv hnv hss hm
       obtain ⟨y1,y2⟩:=hok.at s.frm.toNat
       obtain ⟨y3,y4⟩:=hok.at s.to.toNat
       have y5:=grav_in y1 y2
       have y6:=grav_in y3 y4
       obtain ⟨mx,hmx⟩:∃ x,(if Nf (A8 (An3 (lastB b) (lastT b t)).1 s.frm.toNat) < Nf (A8 (An3 (lastB b) (lastT b t)).1 s.to.toNat) then Nf (A8 (An3 (lastB b) (lastT b t)).1 s.to.toNat) else Nf (A8 (An3 (lastB b) (lastT b t)).1 s.frm.toNat))=x:=⟨_,rfl⟩
       obtain ⟨mn,hmn⟩:∃ x,(if Nf (A8 (An3 (lastB b) (lastT b t)).1 s.to.toNat) < Nf (A8 (An3 (lastB b) (lastT b t)).1 s.frm.toNat) then Nf (A8 (An3 (lastB b) (lastT b t)).1 s.to.toNat) else Nf (A8 (An3 (lastB b) (lastT b t)).1 s.frm.toNat))=x:=⟨_,rfl⟩
       have hmb:0≤mn∧mn≤57660:=by rw [← hmn]; split <;> omega
       simp only [hmx,hmn] at hA
       have htn:((b.ss.length:Int) - 1).toNat=b.ss.length - 1:=by omega
       have hsd:=hsd.symm
       have hz:=hq)
    | (have hR:=stepR_f hx; have hL:=hq; have hM:=hq; have hmx:=hq; have hmn:=hq; have htn:=hq; have hsd:=hq; have hz:=hq)
    | (have hR:=hq; have hL:=hq; have hM:=hq; have hmx:=hq; have hmn:=hq; have htn:=hq; have hsd:=hq; have hst:=Bgu; first | (have hz2:=hz) | have hz:=hq)
    refine Aa fun K1 hK1=>?_
    refine Ab ?_
    simp (disch:=omega) only [amL,sA,sB,↓reduceIte]
    refine hK1 _ ?_
    refine Aa fun K2 hK2=>?_
    refine Aa fun K3 hK3=>?_
    refine Ab ?_
    simp (disch:=omega) only [amL,amT,sA,sB,sF,↓reduceIte]
    repeat' first | (refine Cn (fun h=>?_) (fun h=>?_) <;> simp (disch:=omega) only [h,hmx,hmn,hq,hz,hR,hL,hM,htn,hsd,Eu,stL_get,stL_len,Hw,Hs,staK,ne_eq,amL,amT,sA,sB,sC,sD,sE,sF,sG,sH,sI,sJ,sK,sL,sM,sN,sO,↓reduceIte,reduceCtorEq]) | (refine Bo (fun h=>?_) (fun h=>?_) <;> simp (disch:=omega) only [h,hmx,hmn,hq,hz,hR,hL,hM,htn,hsd,Eu,stL_get,stL_len,Hw,Hs,staK,ne_eq,amL,amT,sA,sB,sC,sD,sE,sF,sG,sH,sI,sJ,sK,sL,sM,sN,sO,↓reduceIte,reduceCtorEq]) | (refine Al (by kernel_rfl) rfl (c_lready b) (by first | exact .inl rfl | exact .inr (.inl rfl)) ?_ ; simp (disch:=omega) only [hmx,hq,hz,amL,amT,sA,sF,↓reduceIte,reduceCtorEq])
    all_goals
     skip
     refine hK3 _ ?_
     refine Ag rfl (fun h=>?_) (fun h=>?_)
     ·first
      | exact Bool.noConfusion h
      | ((try simp only [decide_eq_true_eq] at h) ; exfalso ; omega)
      |skip
       try simp only [] at h
       refine Aa fun K4 hK4=>?_
       refine Ab ?_
       simp (disch:=omega) only [amL]
       repeat' first | (refine Al (by kernel_rfl) rfl (Bgu) (by first | exact .inl rfl | exact .inr (.inl rfl)) ?_ ; simp (disch:=omega) only [amL,sA,↓reduceIte])
       refine hK4 _ ?_
       refine Ae ?_
       try simp (disch:=omega) only [amL,↓reduceIte]
       all_goals first | rfl | (exfalso; omega) | (exfalso; have h1:=hA2.1 (by omega) (by omega); first | (rw [if_pos (by omega)] at h1; omega) | (rw [if_neg (by omega)] at h1; omega))
     ·first
      | exact Bool.noConfusion h
      | ((try simp only [decide_eq_false_iff_not] at h) ; exfalso ; omega)
      |skip
       try simp only [decide_eq_false_iff_not] at h
       refine Ah ?_
       refine hK2 _ ?_
       refine Aa fun K5 hK5=>?_
       refine Ab ?_
       simp (disch:=omega) only [amL,amT,sA,sB,sF,↓reduceIte,reduceCtorEq]
       repeat' first | (refine Al (by kernel_rfl) rfl (hst) (by first | exact .inl rfl | exact .inr (.inl rfl)) ?_ ; simp (disch:=omega) only [hR,amL,sA,sF,↓reduceIte])
       refine hK5 _ ?_
       refine Aa fun K6 hK6=>?_
       refine Aa fun K7 hK7=>?_
       refine Ab ?_
       simp (disch:=omega) only [amL,sA,sF,↓reduceIte]
       repeat' first | (refine Cn (fun h=>?_) (fun h=>?_) <;> simp (disch:=omega) only [h,hmx,hmn,hq,hz,hR,hL,hM,htn,hsd,Eu,stL_get,stL_len,Hw,Hs,staK,ne_eq,amL,amT,sA,sB,sC,sD,sE,sF,sG,sH,sI,sJ,sK,sL,sM,sN,sO,↓reduceIte,reduceCtorEq]) | (refine Bo (fun h=>?_) (fun h=>?_) <;> simp (disch:=omega) only [h,hmx,hmn,hq,hz,hR,hL,hM,htn,hsd,Eu,stL_get,stL_len,Hw,Hs,staK,ne_eq,amL,amT,sA,sB,sC,sD,sE,sF,sG,sH,sI,sJ,sK,sL,sM,sN,sO,↓reduceIte,reduceCtorEq])
       all_goals
        skip
        refine hK7 _ ?_
        refine Ag rfl (fun h=>?_) (fun h=>?_)
        ·first
         | exact Bool.noConfusion h
         | ((try simp only [] at h) ; exfalso ; omega)
         |skip
          try simp only [] at h
          refine Aa fun K8 hK8=>?_
          refine Ab ?_
          simp (disch:=omega) only [amL,sA,sF,↓reduceIte]
          repeat' first | (refine Cn (fun h=>?_) (fun h=>?_) <;> simp (disch:=omega) only [h,hmx,hmn,hq,hz,hR,hL,hM,htn,hsd,Eu,stL_get,stL_len,Hw,Hs,staK,ne_eq,amL,amT,sA,sB,sC,sD,sE,sF,sG,sH,sI,sJ,sK,sL,sM,sN,sO,↓reduceIte,reduceCtorEq]) | (refine Bo (fun h=>?_) (fun h=>?_) <;> simp (disch:=omega) only [h,hmx,hmn,hq,hz,hR,hL,hM,htn,hsd,Eu,stL_get,stL_len,Hw,Hs,staK,ne_eq,amL,amT,sA,sB,sC,sD,sE,sF,sG,sH,sI,sJ,sK,sL,sM,sN,sO,↓reduceIte,reduceCtorEq]) | (refine Al (by kernel_rfl) rfl (Bgu) (by first | exact .inl rfl | exact .inr (.inl rfl)) ?_ ; simp (disch:=omega) only [amL,sA,sF,↓reduceIte])
          all_goals
           skip
           refine hK8 _ ?_
           refine Ae ?_
           try simp (disch:=omega) only [amL,↓reduceIte]
           all_goals first | rfl | (exfalso; omega) | (exfalso; have h1:=hA2.1 (by omega) (by omega); first | (rw [if_pos (by omega)] at h1; omega) | (rw [if_neg (by omega)] at h1; omega))
        ·first
         | exact Bool.noConfusion h
         | ((try simp only [] at h) ; exfalso ; omega)
         |skip
          try simp only [] at h
          refine Ah ?_
          refine hK6 _ ?_
          refine Aa fun K9 hK9=>?_
          refine Ab ?_
          simp (disch:=omega) only [htn,hsd,Eu,amL,amT,sA,sB,sF,↓reduceIte,reduceCtorEq]
          refine hK9 _ ?_
          refine Aa fun K10 hK10=>?_
          refine Bg (by kernel_rfl) (by kernel_rfl) ?_
          simp (disch:=omega) only [amL,amT,sA,sF,↓reduceIte,reduceCtorEq]
          refine hK10 _ ?_
          refine Aa fun K11 hK11=>?_
          refine Aa fun K12 hK12=>?_
          refine Ab ?_
          simp (disch:=omega) only [amL,amT,sA,sF,↓reduceIte,reduceCtorEq]
          refine hK12 _ ?_
          refine Ak ?_
          refine Aa fun K13 hK13=>?_
          refine Ab ?_
          simp (disch:=omega) only [amL,amT,sA,↓reduceIte]
          refine hK13 _ ?_
          refine Ag rfl (fun h=>?_) (fun h=>?_)
          ·first
           | exact Bool.noConfusion h
           | ((try simp only [decide_eq_true_eq] at h) ; exfalso ; omega)
           |skip
            try simp only [decide_eq_true_eq] at h
            refine Aa fun K14 hK14=>?_
            refine Bg (by kernel_rfl) (by kernel_rfl) ?_
            have hA2:=hA (by omega)
            simp (disch:=omega) only [hmx,hmn,hL,stL_get,stL_len,Hs,staK,amL,amT,sA,sB,sF,↓reduceIte,reduceCtorEq]
            refine hK14 _ ?_
            refine Aa fun K15 hK15=>?_
            refine Aa fun K16 hK16=>?_
            refine Ab ?_
            simp (disch:=omega) only [hL,stL_get,stL_len,Hw,Hs,staK,amL,amT,sA,sB,sF,↓reduceIte,reduceCtorEq]
            refine hK16 _ ?_
            refine Ag rfl (fun h=>?_) (fun h=>?_)
            ·first
             | exact Bool.noConfusion h
             | ((try simp only [decide_eq_true_eq] at h) ; exfalso ; omega)
             |skip
              try simp only [decide_eq_true_eq] at h
              refine Ab ?_
              simp (disch:=omega) only [hL,stL_get,stL_len,Hs,staK,amL,amT,sA,sB,sF,↓reduceIte,reduceCtorEq]
              refine hK15 _ ?_
              refine Aa fun K17 hK17=>?_
              refine Aa fun K18 hK18=>?_
              refine Ab ?_
              simp (disch:=omega) only [hM,stL_get,stL_len,Hw,Hs,staK,amL,amT,sA,sB,sF,↓reduceIte,reduceCtorEq]
              repeat' first | (refine Cn (fun h=>?_) (fun h=>?_) <;> simp (disch:=omega) only [h,hL,hM,stL_get,stL_len,Hw,Hs,staK,amL,amT,sA,sB,sF,↓reduceIte,reduceCtorEq]) | (refine Bo (fun h=>?_) (fun h=>?_) <;> simp (disch:=omega) only [h,hmx,hmn,hq,hz,hR,hL,hM,htn,hsd,Eu,stL_get,stL_len,Hw,Hs,staK,ne_eq,amL,amT,sA,sB,sC,sD,sE,sF,sG,sH,sI,sJ,sK,sL,sM,sN,sO,↓reduceIte,reduceCtorEq])
              all_goals
               skip
               refine hK18 _ ?_
               refine Ag rfl (fun h=>?_) (fun h=>?_)
               ·first
                | exact Bool.noConfusion h
                | ((try simp only [decide_eq_true_eq] at h) ; exfalso ; omega)
                |skip
                 try simp only [Bool.not_eq_true',decide_eq_true_eq,decide_eq_false_iff_not,Bool.and_eq_true,Bool.not_eq_false',Bool.not_not,decide_not,Bool.not_true,Bool.not_false] at h
                 refine Aa fun K19 hK19=>?_
                 refine Ab ?_
                 simp (disch:=omega) only [hmx,hmn,hq,hz,hR,hL,hM,htn,hsd,Eu,stL_get,stL_len,Hw,Hs,staK,ne_eq,amL,amT,sA,sB,sC,sD,sE,sF,sG,sH,sI,sJ,sK,sL,sM,sN,sO,↓reduceIte,reduceCtorEq]
                 refine hK19 _ ?_
                 refine Ae ?_
                 try simp (disch:=omega) only [hmx,hmn,hq,hz,hR,hL,hM,htn,hsd,Eu,stL_get,stL_len,Hw,Hs,staK,ne_eq,amL,amT,sA,sB,sC,sD,sE,sF,sG,sH,sI,sJ,sK,sL,sM,sN,sO,↓reduceIte,reduceCtorEq]
                 all_goals first | rfl | (exfalso; omega) | (exfalso; have h1:=hA2.1 (by omega) (by omega); first | (rw [if_pos (by omega)] at h1; omega) | (rw [if_neg (by omega)] at h1; omega))
               ·first
                | exact Bool.noConfusion h
                | ((try simp only [decide_eq_false_iff_not] at h) ; exfalso ; omega)
                |skip
                 try simp only [decide_eq_false_iff_not] at h
                 refine Ah ?_
                 refine hK17 _ ?_
                 refine Aa fun K20 hK20=>?_
                 refine Bg (by kernel_rfl) (by kernel_rfl) ?_
                 simp (disch:=omega) only [hM,stL_get,stL_len,Hw,Hs,staK,amL,amT,sA,sB,sF,↓reduceIte,reduceCtorEq]
                 repeat' first | (refine Cn (fun h=>?_) (fun h=>?_) <;> simp (disch:=omega) only [h,hL,hM,stL_get,stL_len,Hs,staK,amL,amT,sA,sB,sF,↓reduceIte,reduceCtorEq]) | (refine Bo (fun h=>?_) (fun h=>?_) <;> simp (disch:=omega) only [h,hmx,hmn,hq,hz,hR,hL,hM,htn,hsd,Eu,stL_get,stL_len,Hw,Hs,staK,ne_eq,amL,amT,sA,sB,sC,sD,sE,sF,sG,sH,sI,sJ,sK,sL,sM,sN,sO,↓reduceIte,reduceCtorEq]) | (refine Al (by kernel_rfl) rfl (Bgu) (by first | exact .inl rfl | exact .inr (.inl rfl)) ?_ ; simp (disch:=omega) only [amL,sA,sF,↓reduceIte])
                 all_goals
                  skip
                  refine hK20 _ ?_
                  refine Ae ?_
                  try simp (disch:=omega) only [amL,↓reduceIte]
                  all_goals first | rfl | (exfalso; omega) | (exfalso; have h1:=hA2.1 (by omega) (by omega); first | (rw [if_pos (by omega)] at h1; omega) | (rw [if_neg (by omega)] at h1; omega))
            ·first
             | exact Bool.noConfusion h
             | ((try simp only [decide_eq_false_iff_not] at h) ; exfalso ; omega)
             |skip
              try simp only [decide_eq_false_iff_not] at h
              refine Ah ?_
              refine hK15 _ ?_
              refine Aa fun K21 hK21=>?_
              refine Aa fun K22 hK22=>?_
              refine Ab ?_
              simp (disch:=omega) only [hM,stL_get,stL_len,Hw,Hs,staK,amL,amT,sA,sB,sF,↓reduceIte,reduceCtorEq]
              repeat' first | (refine Cn (fun h=>?_) (fun h=>?_) <;> simp (disch:=omega) only [h,hL,hM,stL_get,stL_len,Hw,Hs,staK,amL,amT,sA,sB,sF,↓reduceIte,reduceCtorEq]) | (refine Bo (fun h=>?_) (fun h=>?_) <;> simp (disch:=omega) only [h,hmx,hmn,hq,hz,hR,hL,hM,htn,hsd,Eu,stL_get,stL_len,Hw,Hs,staK,ne_eq,amL,amT,sA,sB,sC,sD,sE,sF,sG,sH,sI,sJ,sK,sL,sM,sN,sO,↓reduceIte,reduceCtorEq])
              all_goals
               skip
               refine hK22 _ ?_
               refine Ag rfl (fun h=>?_) (fun h=>?_)
               ·first
                | exact Bool.noConfusion h
                | ((try simp only [decide_eq_true_eq] at h) ; exfalso ; omega)
                |skip
                 try simp only [Bool.not_eq_true',decide_eq_true_eq,decide_eq_false_iff_not,Bool.and_eq_true,Bool.not_eq_false',Bool.not_not,decide_not,Bool.not_true,Bool.not_false] at h
                 refine Aa fun K23 hK23=>?_
                 refine Ab ?_
                 simp (disch:=omega) only [hmx,hmn,hq,hz,hR,hL,hM,htn,hsd,Eu,stL_get,stL_len,Hw,Hs,staK,ne_eq,amL,amT,sA,sB,sC,sD,sE,sF,sG,sH,sI,sJ,sK,sL,sM,sN,sO,↓reduceIte,reduceCtorEq]
                 refine hK23 _ ?_
                 refine Ae ?_
                 try simp (disch:=omega) only [hmx,hmn,hq,hz,hR,hL,hM,htn,hsd,Eu,stL_get,stL_len,Hw,Hs,staK,ne_eq,amL,amT,sA,sB,sC,sD,sE,sF,sG,sH,sI,sJ,sK,sL,sM,sN,sO,↓reduceIte,reduceCtorEq]
                 all_goals first | rfl | (exfalso; omega) | (exfalso; have h1:=hA2.1 (by omega) (by omega); first | (rw [if_pos (by omega)] at h1; omega) | (rw [if_neg (by omega)] at h1; omega))
               ·first
                | exact Bool.noConfusion h
                | ((try simp only [decide_eq_false_iff_not] at h) ; exfalso ; omega)
                |skip
                 try simp only [decide_eq_false_iff_not] at h
                 refine Ah ?_
                 refine hK21 _ ?_
                 refine Aa fun K24 hK24=>?_
                 refine Bg (by kernel_rfl) (by kernel_rfl) ?_
                 simp (disch:=omega) only [hM,stL_get,stL_len,Hw,Hs,staK,amL,amT,sA,sB,sF,↓reduceIte,reduceCtorEq]
                 repeat' first | (refine Cn (fun h=>?_) (fun h=>?_) <;> simp (disch:=omega) only [h,hL,hM,stL_get,stL_len,Hs,staK,amL,amT,sA,sB,sF,↓reduceIte,reduceCtorEq]) | (refine Bo (fun h=>?_) (fun h=>?_) <;> simp (disch:=omega) only [h,hmx,hmn,hq,hz,hR,hL,hM,htn,hsd,Eu,stL_get,stL_len,Hw,Hs,staK,ne_eq,amL,amT,sA,sB,sC,sD,sE,sF,sG,sH,sI,sJ,sK,sL,sM,sN,sO,↓reduceIte,reduceCtorEq]) | (refine Al (by kernel_rfl) rfl (Bgu) (by first | exact .inl rfl | exact .inr (.inl rfl)) ?_ ; simp (disch:=omega) only [amL,sA,sF,↓reduceIte])
                 all_goals
                  skip
                  refine hK24 _ ?_
                  refine Ae ?_
                  try simp (disch:=omega) only [amL,↓reduceIte]
                  all_goals first | rfl | (exfalso; omega) | (exfalso; have h1:=hA2.1 (by omega) (by omega); first | (rw [if_pos (by omega)] at h1; omega) | (rw [if_neg (by omega)] at h1; omega))
          ·first
           | exact Bool.noConfusion h
           | ((try simp only [decide_eq_false_iff_not] at h) ; exfalso ; omega)
           |skip
            try simp only [decide_eq_false_iff_not] at h
            refine Aa fun K25 hK25=>?_
            refine Ab ?_
            simp (disch:=omega) only [amL,amT,sA,sF,↓reduceIte]
            refine hK25 _ ?_
            refine Ag rfl (fun h=>?_) (fun h=>?_)
            ·first
             | exact Bool.noConfusion h
             | ((try simp only [decide_eq_true_eq] at h) ; exfalso ; omega)
             |skip
              try simp only [decide_eq_true_eq] at h
              refine Aa fun K26 hK26=>?_
              refine Bg (by kernel_rfl) (by kernel_rfl) ?_
              have hW2:=hW (by omega)
              simp (disch:=omega) only [hL,stL_get,stL_len,Hw,Hs,staK,amL,amT,sA,sB,sF,↓reduceIte,reduceCtorEq]
              repeat' first | (refine Cn (fun h=>?_) (fun h=>?_) <;> simp (disch:=omega) only [h,hL,hM,stL_get,stL_len,Hs,staK,amL,amT,sA,sB,sF,↓reduceIte,reduceCtorEq]) | (refine Bo (fun h=>?_) (fun h=>?_) <;> simp (disch:=omega) only [h,hmx,hmn,hq,hz,hR,hL,hM,htn,hsd,Eu,stL_get,stL_len,Hw,Hs,staK,ne_eq,amL,amT,sA,sB,sC,sD,sE,sF,sG,sH,sI,sJ,sK,sL,sM,sN,sO,↓reduceIte,reduceCtorEq]) | (refine Al (by kernel_rfl) rfl (Bgu) (by first | exact .inl rfl | exact .inr (.inl rfl)) ?_ ; simp (disch:=omega) only [amL,sA,sF,↓reduceIte])
              all_goals
               skip
               refine hK26 _ ?_
               refine Ae ?_
               try simp (disch:=omega) only [amL,↓reduceIte]
               all_goals first | rfl | (exfalso; omega) | (exfalso; have h1:=hA2.1 (by omega) (by omega); first | (rw [if_pos (by omega)] at h1; omega) | (rw [if_neg (by omega)] at h1; omega))
            ·first
             | exact Bool.noConfusion h
             | ((try simp only [decide_eq_false_iff_not] at h) ; exfalso ; omega)
             |skip
              try simp only [decide_eq_false_iff_not] at h
              refine Ah ?_
              refine hK11 _ ?_
              refine Aa fun K27 hK27=>?_
              refine Bg (by kernel_rfl) (by kernel_rfl) ?_
              have hB2:=hB (by omega)
              simp (disch:=omega) only [hL,hM,stL_get,stL_len,Hs,staK,amL,amT,sA,sB,sF,↓reduceIte,reduceCtorEq]
              repeat' first | (refine Cn (fun h=>?_) (fun h=>?_) <;> simp (disch:=omega) only [h,hL,hM,stL_get,stL_len,Hs,staK,amL,amT,sA,sB,sF,↓reduceIte,reduceCtorEq]) | (refine Bo (fun h=>?_) (fun h=>?_) <;> simp (disch:=omega) only [h,hmx,hmn,hq,hz,hR,hL,hM,htn,hsd,Eu,stL_get,stL_len,Hw,Hs,staK,ne_eq,amL,amT,sA,sB,sC,sD,sE,sF,sG,sH,sI,sJ,sK,sL,sM,sN,sO,↓reduceIte,reduceCtorEq]) | (refine Al (by kernel_rfl) rfl (Bgu) (by first | exact .inl rfl | exact .inr (.inl rfl)) ?_ ; simp (disch:=omega) only [amL,sA,sF,↓reduceIte])
              all_goals
               skip
               refine hK27 _ ?_
               refine Ae ?_
               try simp (disch:=omega) only [amL,↓reduceIte]
               all_goals first | rfl | (exfalso; omega) | (exfalso; have h1:=hA2.1 (by omega) (by omega); first | (rw [if_pos (by omega)] at h1; omega) | (rw [if_neg (by omega)] at h1; omega))
end AM.Try
end
