/- Lemmas for the proof: more of the program's functions, walked on the abstract machine. -/
import Derived.Test.YtbgiddcgdgdmbaaGreatQ6
import Derived.ProofKit
import Derived.Deep.Slices
import Derived.ChangeStays
/- What the reference says of vessels, in plain Lean; that it is what the program says. -/
section
namespace AM.Wort
open Go AM Go.Proofs
theorem begin_room:∀ {vs:List Ves} {gs ds:List Int} {i:Nat} {v:List Liq},(Hf vs gs ds i v).2=Qj vs gs i∧(Qj vs gs i=true→(Hf vs gs ds i v).1=Xr vs gs ds i v)
 | [],_,_,_,_=>⟨rfl,fun _=>rfl⟩
 | x :: vs,gs,ds,i,v=>by
  unfold Hf Qj Xr
  split
  ·rename_i h
   rw [decide_eq_false (by omega)]
   exact ⟨rfl,fun h=>by cases h⟩
  ·rename_i h
   rw [decide_eq_true (by omega),Bool.true_and]
   exact begin_room
theorem doX_two {vs:List Ves} {v:List Liq} {s:Stp} {n:Int}:(doX vs v s n).2=(doS vs v s n).2:=by
 unfold doX; split
 ·rfl
 ·rename_i h; simpa using h
def nthV:List Ves→Int→List Int × List Int × Int
 | [],n=>([],[],n)
 | v :: l,n=>((v.g.lo+n % Dp v.g) :: (nthV l (n / Dp v.g / Dp v.d)).1,(v.d.lo+n / Dp v.g % Dp v.d) :: (nthV l (n / Dp v.g / Dp v.d)).2.1,(nthV l (n / Dp v.g / Dp v.d)).2.2)
def nthS:List Stp→Int→List Int
 | [],_=>[]
 | s :: l,n=>(s.g.lo+n % Dp s.g) :: nthS l (n / Dp s.g)
def nthX (b:Cx) (n:Int):Tru:=⟨(nthV b.vs n).1,(nthV b.vs n).2.1,nthS b.ss (nthV b.vs n).2.2⟩
theorem drop_get' {α:Type} {l:List α} {k:Nat} (d:α) (h:k < l.length):l.drop k=l.getD k d :: l.drop (k+1):=by
 rw [List.drop_eq_getElem_cons h]; simp [List.getD,h]
abbrev nextV (v:Ves) (n:Int):Int:=n / Dp v.g / Dp v.d
def accV (gs ds:List Int) (r:List Int × List Int × Int):List Int × List Int × Int:=(gs++r.1,ds++r.2.1,r.2.2)
theorem acc_step {vs:List Ves} {gs ds:List Int} {n:Int} {R:List Int × List Int × Int} (hk:gs.length < vs.length) (h:accV gs ds (nthV (vs.drop gs.length) n)=R) (a c:Int)
  (ha:a=(vs.getD gs.length default).g.lo+n % Dp (vs.getD gs.length default).g) (hc:c=(vs.getD gs.length default).d.lo+n / Dp (vs.getD gs.length default).g % Dp (vs.getD gs.length default).d) :
  accV (gs++[a]) (ds++[c]) (nthV (vs.drop (gs++[a]).length) (nextV (vs.getD gs.length default) n))=R:=by
 subst ha hc
 rw [drop_get' default hk] at h
 rw [List.length_append,List.length_singleton]
 rw [← h]
 simp [accV,nthV]
theorem acc_end {vs:List Ves} {gs ds:List Int} {n:Int} {R:List Int × List Int × Int} (hk:vs.length≤gs.length) (h:accV gs ds (nthV (vs.drop gs.length) n)=R):R=(gs,ds,n):=by
 rw [List.drop_of_length_le hk] at h
 rw [← h]; simp [accV,nthV]
theorem nthS_step {ss:List Stp} {ms:List Int} {n:Int} {R:List Int} (hk:ms.length < ss.length) (h:ms++nthS (ss.drop ms.length) n=R) (a:Int) (ha:a=(ss.getD ms.length default).g.lo+n % Dp (ss.getD ms.length default).g) :
  (ms++[a])++nthS (ss.drop (ms++[a]).length) (n / Dp (ss.getD ms.length default).g)=R:=by
 subst ha
 rw [drop_get' default hk] at h
 rw [List.length_append,List.length_singleton,← h]
 simp [nthS]
theorem nthS_end {ss:List Stp} {ms:List Int} {n:Int} {R:List Int} (hk:ss.length≤ms.length) (h:ms++nthS (ss.drop ms.length) n=R):R=ms:=by
 rw [List.drop_of_length_le hk] at h
 rw [← h]; simp [nthS]
theorem div_nn {m s:Int} (h0:0≤m) (h1:1≤s):0≤m / s∧m / s≤m:=⟨Int.ediv_nonneg h0 (by omega),Int.ediv_le_self _ h0⟩
theorem mod_nn {m s:Int} (h1:1≤s):0≤m % s∧m % s < s:=⟨Int.emod_nonneg _ (by omega),Int.emod_lt_of_pos _ (by omega)⟩
theorem nthV_len:∀ (l:List Ves) (n:Int),(nthV l n).1.length=l.length∧(nthV l n).2.1.length=l.length
 | [],_=>⟨rfl,rfl⟩
 | v :: l,n=>by
  obtain ⟨h1,h2⟩:=nthV_len l (n / Dp v.g / Dp v.d)
  unfold nthV
  simp only [List.length_cons,h1,h2,and_self]
theorem nthS_len:∀ (l:List Stp) (n:Int),(nthS l n).length=l.length
 | [],_=>rfl
 | s :: l,n=>by unfold nthS; rw [List.length_cons,nthS_len,List.length_cons]
theorem has_mod {r:Rng} {n:Int} (h:1≤Dp r):inB (r.lo+n % Dp r) r.lo r.hi=true:=by
 have:=mod_nn (m:=n) h
 unfold Dp at *
 simp only [inB,Bool.and_eq_true,decide_eq_true_eq]; omega
theorem nthV_in:∀ {l:List Ves} (n:Int),l.all Df=true→∀ k,k < l.length→inB ((nthV l n).1.getD k 0) (l.getD k default).g.lo (l.getD k default).g.hi=true∧inB ((nthV l n).2.1.getD k 0) (l.getD k default).d.lo (l.getD k default).d.hi=true
 | [],_,_,k,hk=>by cases hk
 | v :: l,n,hv,k,hk=>by
  rw [List.all_cons,Bool.and_eq_true] at hv
  obtain ⟨h1,h2,_⟩:=Cp hv.1
  cases k with
  | zero=>exact ⟨has_mod (D2 h1).1,has_mod (D2 h2).1⟩
  | succ k=>exact nthV_in (n / Dp v.g / Dp v.d) hv.2 k (by simpa using hk)
theorem nthS_in:∀ {l:List Stp} {c:Int} (n:Int),l.all (Dm c)=true→∀ k,k < l.length→inB ((nthS l n).getD k 0) (l.getD k default).g.lo (l.getD k default).g.hi=true
 | [],_,_,_,k,hk=>by cases hk
 | s :: l,c,n,hv,k,hk=>by
  rw [List.all_cons,Bool.and_eq_true] at hv
  have h1:=(Cd hv.1).2.2.2.2
  cases k with
  | zero=>exact has_mod (D2 h1).1
  | succ k=>exact nthS_in (n / Dp s.g) hv.2 k (by simpa using hk)
theorem nth_listed {b:Cx} (hv:Ja b) (n:Int):C1 b (nthX b n)=true:=by
 obtain ⟨h1,h2⟩:=nthV_len b.vs n
 exact Mn h1 h2 (nthS_len _ _) (nthV_in n hv.v) (nthS_in _ hv.s)
end AM.Wort
end
/- The statements: what is read of the arguments is what the walks take; what a pure call leaves is what the statements ask. For any program. -/
section
namespace AM
set_option maxRecDepth 100000
open Go AM Go.ChangeShapes Go.WideShapes Go.ChangeAt Go.RowKit Go.Proofs
section
variable {P:Program} {H:Type} {enc:TypeId × Value→H} {W W':World}
theorem open_rows {base t e k:Nat} {v:Value} {d:DataW H} {p:List MemPlace} (ht:P.underlying t=some (.slice e)) (hk:P.cellsOf e=k) (hfl:Ud P e k) (hv:Value.okWide P W .any base t v) (h:DataW.Trod enc P W 0 (fun _=>true) true t v d p) :
  ∃ rows:List (List Int),(∀ r ∈ rows,r.length=k∧∀ m ∈ r,inR m=true)∧∀ θ,Aq θ (fun _=>False) W (.p (.sl (rows.map fun r=>r.map iv))) v:=by
 obtain ⟨a0,len0,cap0,rfl⟩:=okWide_slice ht hv
 obtain ⟨n,hn⟩:=h
 obtain ⟨rows,h1,v',hv',hp⟩:=open_recs ht hk (fun _ _ _=>hfl _ _ _) hn (fun a len cap e=>by
  simp only [Value.cells,List.cons.injEq,and_true,Value.slice.injEq] at e
  obtain ⟨rfl,rfl,rfl⟩:=e
  simp only [Value.okWide,ht,Cell.okWide,Cell.ok,World.has] at hv
  exact hv.2.2.2.1)
 simp only [Value.cells,List.cons.injEq,and_true] at hv'
 subst hv'
 exact ⟨rows,h1,fun θ=>.p _ _ hp⟩
end
end AM
end
/- Whether steps are a plan. -/
section
namespace AM.Wort
open Go AM Go.Proofs
def planOk (n:Nat) (s:Stp):Bool:=Dm n s&&(!decide (s.kind=2)&&(!decide (1 < Dp s.g)&&!decide (s.g.lo < 1)))
def planF (vs:List Ves) (g k:Int):List Liq→List Stp→Bool
 | v,[]=>W1 vs.length v g k
 | v,s :: ss=>planOk vs.length s&&((doS vs v s s.g.lo).2&&planF vs g k (doS vs v s s.g.lo).1 ss)
def proveS (b:Cx) (l:List Stp) (g k most:Int):Bool:=decide (B5 b=0)&&(decide ((l.length:Int)≤most)&&(Pm g k&&(Lf b.vs&&((Dt b.vs).2&&planF b.vs g k (Dt b.vs).1 l))))
theorem plan_step {vs:List Ves} {g k:Int} {v:List Liq} {l:List Stp} {i:Nat} {R:Bool} (hi:i < l.length) (h1:planOk vs.length (l.getD i default)=true) (h2:(doS vs v (l.getD i default) (l.getD i default).g.lo).2=true) (h:planF vs g k v (l.drop i)=R):planF vs g k (doS vs v (l.getD i default) (l.getD i default).g.lo).1 (l.drop (i+1))=R:=by
 have e:l.drop i=l.getD i default :: l.drop (i+1):=by rw [List.drop_eq_getElem_cons hi]; simp [List.getD,hi]
 rw [e] at h; unfold planF at h; rw [h1,h2] at h; simpa using h
theorem plan_no {vs:List Ves} {g k:Int} {v:List Liq} {l:List Stp} {i:Nat} {R:Bool} (hi:i < l.length) (h1:planOk vs.length (l.getD i default)=false∨(doS vs v (l.getD i default) (l.getD i default).g.lo).2=false) (h:planF vs g k v (l.drop i)=R):R=false:=by
 have e:l.drop i=l.getD i default :: l.drop (i+1):=by rw [List.drop_eq_getElem_cons hi]; simp [List.getD,hi]
 rw [e] at h; unfold planF at h
 rcases h1 with h1 | h1
 ·rw [h1,Bool.false_and] at h; exact h.symm
 ·rw [h1,Bool.false_and,Bool.and_false] at h; exact h.symm
theorem plan_end {vs:List Ves} {g k:Int} {v:List Liq} {l:List Stp} {i:Nat} {R:Bool} (hi:l.length≤i) (h:planF vs g k v (l.drop i)=R):R=W1 vs.length v g k:=by
 rw [List.drop_of_length_le hi] at h; exact h.symm
theorem planOk_parts {n:Nat} {s:Stp} (h:planOk n s=true):Dm n s=true∧¬ s.kind=2∧¬ 1 < Dp s.g∧¬ s.g.lo < 1:=by
 simpa [planOk,Bool.and_eq_true] using h
theorem prove_no {b:Cx} {l:List Stp} {g k most:Int} (h:¬ B5 b=0∨¬ (l.length:Int)≤most∨Pm g k=false∨Lf b.vs=false∨(Dt b.vs).2=false):proveS b l g k most=false:=by
 cases hp:proveS b l g k most with
 | false=>rfl
 | true=>
  simp only [proveS,Bool.and_eq_true,decide_eq_true_eq] at hp
  obtain ⟨h1,h2,h3,h4,h5,_⟩:=hp
  rcases h with h | h | h | h | h
  ·exact absurd h1 h
  ·exact absurd h2 h
  ·rw [h3] at h; cases h
  ·rw [h4] at h; cases h
  ·rw [h5] at h; cases h
theorem prove_eq {b:Cx} {l:List Stp} {g k most:Int} {R:Bool} (h1:B5 b=0) (h2:(l.length:Int)≤most) (h3:Pm g k=true) (h4:Lf b.vs=true) (h5:(Dt b.vs).2=true) (h:planF b.vs g k (Dt b.vs).1 l=R):proveS b l g k most=R:=by
 unfold proveS; rw [decide_eq_true h1,decide_eq_true h2,h3,h4,h5,h]; simp
theorem move_plan {vs:List Ves} {v:List Liq} {s:Stp} (hv:OkV v) (hvs:vs.length≤4) (hva:vs.all Df=true) (h:s ∈ Gi vs v):planOk vs.length s=true∧(doS vs v s s.g.lo).2=true∧OkV (doS vs v s s.g.lo).1:=by
 obtain ⟨h1,h2,_,h4,h5,h6⟩:=Apw hv hvs hva h
 obtain ⟨f,t,k,_,_,_,e⟩:=Ald h
 have hz:Dp s.g=1:=by rw [e]; unfold C8 Dp; show (k:Int)+1 - ((k:Int)+1)+1=1; omega
 refine ⟨?_,h4,h5⟩
 unfold planOk
 rw [h1,decide_eq_false (by omega),decide_eq_false (by omega),decide_eq_false (by omega)]; rfl
theorem plan_move {vs:List Ves} {v:List Liq} {s:Stp} (hv:OkV v) (hvs:vs.length≤4) (h:planOk vs.length s=true) (hd:(doS vs v s s.g.lo).2=true):s ∈ Gi vs v:=by
 obtain ⟨h1,h2,h3,h4⟩:=planOk_parts h
 obtain ⟨q1,q2,q3,q4,q5⟩:=Cd h1
 have y5:=Co q5
 unfold Dp at h3
 have hl:=hv.len
 have e:s=C8 s.frm.toNat s.to.toNat (s.g.lo - 1).toNat:=by
  obtain ⟨kind,frm,to,⟨lo,hi⟩⟩:=s
  unfold C8
  dsimp only at *
  have a1:((lo - 1).toNat:Int)+1=lo:=by omega
  have a2:hi=lo:=by omega
  have a3:((frm.toNat:Nat):Int)=frm:=by omega
  have a4:((to.toNat:Nat):Int)=to:=by omega
  have a5:kind=if frm.toNat≠to.toNat then 0 else 1:=by
   by_cases e:frm=to
   ·rw [if_neg (by subst e; simp)]; omega
   ·rw [if_pos (by omega)]; omega
  rw [a1,a2,a3,a4,← a5]
 rw [e]
 refine Ae4 (by omega) (by omega) ?_
 have hk:((s.g.lo - 1).toNat:Int)=s.g.lo - 1:=by omega
 rw [hk]
 simp only [doS,Bool.and_eq_true,decide_eq_true_eq] at hd
 obtain ⟨d1,d2⟩:=hd
 unfold Ei
 by_cases k0:s.kind=0
 ·have hne:s.frm.toNat≠s.to.toNat:=by omega
  rw [if_pos hne]
  simp only [Fc,if_pos k0] at d1 d2
  unfold Ex at d1 d2
  split at d1
  ·cases d1
  ·rename_i g1
   rw [if_neg g1,if_pos (by omega)] at d2
   unfold Hy G8 at d2
   rw [Ek,if_pos ⟨rfl,by rw [List.length_set]; omega⟩,Ek,if_neg (by omega)] at d2
   have d2:(A8 v s.to.toNat).g+s.g.lo≤(vs.getD s.to.toNat default).room:=d2
   omega
 ·have k1:s.kind=1:=by omega
  have he:s.frm.toNat=s.to.toNat:=by omega
  rw [if_neg (by omega)]
  simp only [Fc,if_neg k0,if_pos k1] at d2
  unfold Lb at d2
  rw [Ek,if_pos ⟨rfl,by omega⟩] at d2
  have d2:(A8 v s.to.toNat).g+s.g.lo≤(vs.getD s.to.toNat default).room:=d2
  omega
theorem search_sound {vs:List Ves} {g k:Int} (hvs:vs.length≤4) (hva:vs.all Df=true):∀ {m:Nat} {v:List Liq} {p q:List Stp},OkV v→Da vs g k m v p=some q→∃ ss,q=p++ss∧ss.length=m∧planF vs g k v ss=true
 | 0,v,p,q,_,h=>by
  unfold Da at h
  split at h
  ·cases h; exact ⟨[],by simp,rfl,by unfold planF; assumption⟩
  ·cases h
 | m+1,v,p,q,hv,h=>by
  unfold Da at h
  obtain ⟨s,hs,h2⟩:=List.exists_of_findSome?_eq_some h
  obtain ⟨m1,m2,m3⟩:=move_plan hv hvs hva hs
  obtain ⟨ss,e1,e2,e3⟩:=search_sound hvs hva (v:=(doS vs v s s.g.lo).1) m3 h2
  refine ⟨s :: ss,by rw [e1]; simp,by simp [e2],?_⟩
  unfold planF; rw [m1,m2,e3]; rfl
theorem search_all {vs:List Ves} {g k:Int} (hvs:vs.length≤4) (hva:vs.all Df=true):∀ {ss:List Stp} {v:List Liq} {p:List Stp},OkV v→planF vs g k v ss=true→(Da vs g k ss.length v p).isSome=true
 | [],v,p,_,h=>by
  unfold planF at h
  show (Da vs g k 0 v p).isSome=true
  unfold Da; rw [if_pos h]; rfl
 | s :: ss,v,p,hv,h=>by
  unfold planF at h
  simp only [Bool.and_eq_true] at h
  obtain ⟨h1,h2,h3⟩:=h
  have hm:=plan_move hv hvs h1 h2
  obtain ⟨_,_,m3⟩:=move_plan hv hvs hva hm
  show (Da vs g k (ss.length+1) v p).isSome=true
  unfold Da
  rw [List.findSome?_isSome_iff]
  exact ⟨s,hm,search_all hvs hva m3 h3⟩
theorem few_none' {vs:List Ves} {g k:Int} {v:List Liq} (hvs:vs.length≤4) (hva:vs.all Df=true) (hv:OkV v) (h:Apz vs g k v=none) {ss:List Stp} (hl:ss.length≤2):planF vs g k v ss=false:=by
 cases hp:planF vs g k v ss with
 | false=>rfl
 | true=>
  have hs:=search_all hvs hva (p:=[]) hv hp
  unfold Apz at h
  simp only [Option.or_eq_none_iff] at h
  obtain ⟨a,b,c⟩:=h
  have:ss.length=0∨ss.length=1∨ss.length=2:=by omega
  rcases this with e | e | e <;> rw [e] at hs
  ·rw [a] at hs; cases hs
  ·rw [b] at hs; cases hs
  ·rw [c] at hs; cases hs
theorem few_some' {vs:List Ves} {g k:Int} {v:List Liq} {p:List Stp} (hvs:vs.length≤4) (hva:vs.all Df=true) (hv:OkV v) (h:Apz vs g k v=some p):p.length≤2∧planF vs g k v p=true∧∀ ss:List Stp,ss.length < p.length→planF vs g k v ss=false:=by
 have key:∀ m,Da vs g k m v []=some p→p.length=m∧planF vs g k v p=true:=fun m hm=>by
  obtain ⟨ss,e1,e2,e3⟩:=search_sound hvs hva hv hm
  rw [List.nil_append] at e1
  subst e1
  exact ⟨e2,e3⟩
 have no:∀ m (ss:List Stp),Da vs g k m v []=none→ss.length=m→planF vs g k v ss=false:=fun m ss hm hl=>by
  cases hp:planF vs g k v ss with
  | false=>rfl
  | true=>
   have hs:=search_all hvs hva (p:=[]) hv hp
   rw [hl,hm] at hs; cases hs
 unfold Apz at h
 cases a:Da vs g k 0 v [] with
 | some q=>
  rw [a] at h
  have h:some q=some p:=h
  rw [h] at a
  obtain ⟨e1,e2⟩:=key 0 a
  exact ⟨by omega,e2,fun ss hs=>by omega⟩
 | none=>
  rw [a,Option.none_or] at h
  cases b:Da vs g k 1 v [] with
  | some q=>
   rw [b] at h
   have h:some q=some p:=h
   rw [h] at b
   obtain ⟨e1,e2⟩:=key 1 b
   exact ⟨by omega,e2,fun ss hs=>no 0 ss a (by omega)⟩
  | none=>
   rw [b,Option.none_or] at h
   obtain ⟨e1,e2⟩:=key 2 h
   refine ⟨by omega,e2,fun ss hs=>?_⟩
   have:ss.length=0∨ss.length=1:=by omega
   rcases this with e | e
   ·exact no 0 ss a e
   ·exact no 1 ss b e
def fixV (v:Ves):Ves:=⟨⟨v.g.lo,v.g.lo⟩,⟨v.d.lo,v.d.lo⟩,v.room⟩
def fixB (b:Cx):Cx:=⟨b.vs.map fixV,b.ss⟩
theorem fix_nth (l:List Ves):nthV (l.map fixV) 0=(l.map (·.g.lo),l.map (·.d.lo),0):=by
 induction l with
 | nil=>rfl
 | cons v l ih=>
  have e1:∀ x:Int,Dp ⟨x,x⟩=1:=fun x=>by unfold Dp; show x - x+1=1; omega
  show nthV (fixV v :: l.map fixV) 0=_
  unfold nthV
  show ((v.g.lo+0 % Dp ⟨v.g.lo,v.g.lo⟩) :: (nthV (l.map fixV) (0 / Dp ⟨v.g.lo,v.g.lo⟩ / Dp ⟨v.d.lo,v.d.lo⟩)).1,(v.d.lo+0 / Dp ⟨v.g.lo,v.g.lo⟩ % Dp ⟨v.d.lo,v.d.lo⟩) :: (nthV (l.map fixV) (0 / Dp ⟨v.g.lo,v.g.lo⟩ / Dp ⟨v.d.lo,v.d.lo⟩)).2.1,(nthV (l.map fixV) (0 / Dp ⟨v.g.lo,v.g.lo⟩ / Dp ⟨v.d.lo,v.d.lo⟩)).2.2)=_
  rw [e1,e1]
  simp [ih]
theorem first_fix (b:Cx):Dt (fixB b).vs=Pa (fixB b).vs (nthX (fixB b) 0).g (nthX (fixB b) 0).d:=by
 have e:nthV (fixB b).vs 0=(b.vs.map (·.g.lo),b.vs.map (·.d.lo),0):=fix_nth b.vs
 unfold Dt nthX
 rw [e]
 show Pa (b.vs.map fixV) ((b.vs.map fixV).map (·.g.lo)) ((b.vs.map fixV).map (·.d.lo))=_
 rw [List.map_map,List.map_map]; rfl
def hasX (v:List Liq) (g k:Int):Bool:=v.any fun l=>decide (l.g=g)&&decide (Nf l=k)
theorem staK0 (l:Liq):(L1 l).k=Nf l:=rfl
theorem has_split {v:List Liq} {g k:Int} {i:Nat} (h:i < v.length):hasX (v.drop i) g k=(decide ((A8 v i).g=g)&&decide (Nf (A8 v i)=k)||hasX (v.drop (i+1)) g k):=by
 have:v.drop i=A8 v i :: v.drop (i+1):=by unfold A8; rw [List.drop_eq_getElem_cons h]; simp [List.getD,h]
 rw [this]; rfl
theorem has_step {v:List Liq} {g k:Int} {i:Nat} {R:Bool} (h:i < v.length) (hn:¬ ((A8 v i).g=g∧Nf (A8 v i)=k)) (hr:hasX (v.drop i) g k=R):hasX (v.drop (i+1)) g k=R:=by
 rw [has_split h,show (decide ((A8 v i).g=g)&&decide (Nf (A8 v i)=k))=false by rw [← Bool.not_eq_true,Bool.and_eq_true,decide_eq_true_eq,decide_eq_true_eq]; exact hn,Bool.false_or] at hr
 exact hr
theorem has_yes {v:List Liq} {g k:Int} {i:Nat} (h:i < v.length) (h1:(A8 v i).g=g) (h2:Nf (A8 v i)=k):hasX (v.drop i) g k=true:=by
 rw [has_split h,decide_eq_true h1,decide_eq_true h2]; rfl
theorem has_end {v:List Liq} {g k:Int} {i:Nat} (h:v.length≤i):hasX (v.drop i) g k=false:=by rw [List.drop_of_length_le h]; rfl
def planZ (vs:List Ves):List Liq→List Stp→Option (List Liq × Bool)
 | v,[]=>some (v,true)
 | v,s :: ss=>if planOk vs.length s=true then (if (doX vs v s s.g.lo).2=true then planZ vs (doX vs v s s.g.lo).1 ss else some ((doX vs v s s.g.lo).1,false)) else none
def planI (vs:List Ves) (r:List Liq × Bool) (l:List Stp):Option (List Liq × Bool):=if r.2=true then planZ vs r.1 l else some r
def planAV:Option (List Liq × Bool)→AV
 | some r=>.tup [.p (.sl (stL r.1)),bl r.2]
 | none=>.tup [Dk,bl false]
theorem planI_step {vs:List Ves} {v:List Liq} {l:List Stp} {i:Nat} {R:Option (List Liq × Bool)} (hi:i < l.length) (h1:planOk vs.length (l.getD i default)=true) (h:planI vs (v,true) (l.drop i)=R):planI vs (doX vs v (l.getD i default) (l.getD i default).g.lo) (l.drop (i+1))=R:=by
 have e:l.drop i=l.getD i default :: l.drop (i+1):=by rw [List.drop_eq_getElem_cons hi]; simp [List.getD,hi]
 rw [e] at h
 unfold planI at h ⊢
 rw [if_pos rfl] at h
 unfold planZ at h
 rw [if_pos h1] at h
 split
 ·rename_i h2; rw [if_pos h2] at h; exact h
 ·rename_i h2
  rw [if_neg h2] at h
  rw [← h]
  have:(doX vs v (l.getD i default) (l.getD i default).g.lo).2=false:=by simpa using h2
  rw [← this]
theorem planI_bad {vs:List Ves} {v:List Liq} {l:List Stp} {i:Nat} {R:Option (List Liq × Bool)} (hi:i < l.length) (h1:planOk vs.length (l.getD i default)=false) (h:planI vs (v,true) (l.drop i)=R):R=none:=by
 have e:l.drop i=l.getD i default :: l.drop (i+1):=by rw [List.drop_eq_getElem_cons hi]; simp [List.getD,hi]
 rw [e] at h
 unfold planI at h
 rw [if_pos rfl] at h
 unfold planZ at h
 rw [if_neg (by rw [h1]; decide)] at h
 exact h.symm
theorem planI_end {vs:List Ves} {r:List Liq × Bool} {l:List Stp} {i:Nat} {R:Option (List Liq × Bool)} (hi:l.length≤i∨r.2=false) (h:planI vs r (l.drop i)=R):R=some r:=by
 rw [← h]
 unfold planI
 obtain ⟨v,is⟩:=r
 rcases hi with hi | hi
 ·rw [List.drop_of_length_le hi]
  split
  ·rename_i h2; have h2:is=true:=h2; subst h2; rfl
  ·rfl
 ·rw [if_neg (by rw [hi]; decide)]
def finZ (g k:Int):Option (List Liq × Bool)→Bool
 | some (v,true)=>hasX v g k
 | _=>false
theorem plan_take {vs:List Ves} {g k:Int}:∀ {l:List Stp} {w:List Liq},planF vs g k w l=finZ g k (planZ vs (w.take vs.length) l)
 | [],w=>rfl
 | s :: ss,w=>by
  unfold planF planZ
  cases h1:planOk vs.length s with
  | false=>rfl
  | true=>
   obtain ⟨hs,_⟩:=planOk_parts h1
   have e:=Atc (w:=w) (m:=s.g.lo) hs
   rw [if_pos rfl,Bool.true_and]
   cases hd:(doS vs w s s.g.lo).2 with
   | true=>
    have e2:doX vs (w.take vs.length) s s.g.lo=((doS vs w s s.g.lo).1.take vs.length,true):=by unfold doX; rw [e,hd]; rfl
    rw [e2,if_pos rfl,Bool.true_and]
    exact plan_take
   | false=>
    have e2:doX vs (w.take vs.length) s s.g.lo=(w.take vs.length,false):=by unfold doX; rw [e,hd]; rfl
    rw [e2,if_neg (fun h=>by cases h)]; rfl
def rowO (f t m:Nat):List Stp:=(List.range m).map (C8 f t)
def colO (_ f m t:Nat):List Stp:=(List.range t).flatMap fun t=>rowO f t m
def preO (n m f:Nat):List Stp:=(List.range f).flatMap fun f=>colO n f m n
def oneL (n m:Nat):List Stp:=preO n m n
theorem row_succ (f t k:Nat):rowO f t (k+1)=rowO f t k++[C8 f t k]:=by unfold rowO; rw [List.range_succ,List.map_append]; rfl
theorem col_succ (n f m t:Nat):colO n f m (t+1)=colO n f m t++rowO f t m:=by unfold colO; rw [List.range_succ,List.flatMap_append]; simp
theorem pre_succ (n m f:Nat):preO n m (f+1)=preO n m f++colO n f m n:=by unfold preO; rw [List.range_succ,List.flatMap_append]; simp
theorem row_len (f t m:Nat):(rowO f t m).length=m:=by unfold rowO; simp
theorem col_len (n f m:Nat):∀ t,(colO n f m t).length=t * m
 | 0=>by simp [colO]
 | t+1=>by rw [col_succ,List.length_append,col_len n f m t,row_len,Nat.add_mul,Nat.one_mul]
theorem pre_len (n m:Nat):∀ f,(preO n m f).length=f * (n * m)
 | 0=>by simp [preO]
 | f+1=>by rw [pre_succ,List.length_append,pre_len n m f,col_len,Nat.add_mul,Nat.one_mul]
theorem col_le {n f m t:Nat} (h1:t≤4) (h2:m≤60):(colO n f m t).length≤240:=by
 rw [col_len]; exact Nat.mul_le_mul h1 h2
theorem pre_le {n f m:Nat} (h0:n≤4) (h1:f≤4) (h2:m≤60):(preO n m f).length≤960:=by
 rw [pre_len]; exact Nat.mul_le_mul h1 (Nat.mul_le_mul h0 h2)
theorem one_mem {n m:Nat} {s:Stp}:s ∈ oneL n m↔∃ f t k:Nat,f < n∧t < n∧k < m∧s=C8 f t k:=by
 unfold oneL preO colO rowO
 simp only [List.mem_flatMap,List.mem_range,List.mem_map]
 constructor
 ·rintro ⟨f,hf,t,ht,k,hk,rfl⟩; exact ⟨f,t,k,hf,ht,hk,rfl⟩
 ·rintro ⟨f,t,k,hf,ht,hk,rfl⟩; exact ⟨f,hf,t,ht,k,hk,rfl⟩
def ok1 (vs:List Ves) (g k:Int) (v:List Liq) (s:Stp):Bool:=(doX vs v s s.g.lo).2&&hasX (doX vs v s s.g.lo).1 g k
def ok2 (vs:List Ves) (g k:Int) (v:List Liq) (L:List Stp) (s:Stp):Bool:=(doX vs v s s.g.lo).2&&L.any (ok1 vs g k (doX vs v s s.g.lo).1)
def bst:Bool→Int
 | true=>2
 | false=>-1
def fewR (vs:List Ves) (g k:Int) (v:List Liq) (L:List Stp):Int:=if hasX v g k=true then 0 else if L.any (ok1 vs g k v)=true then 1 else bst (L.any (ok2 vs g k v L))
theorem bst_lt (C:Bool):decide (bst C < 0)=!C:=by cases C <;> rfl
def maxR:List Ves→Int→Int
 | [],a=>a
 | v :: l,a=>maxR l (if a < v.room then v.room else a)
theorem max_step {vs:List Ves} {i:Nat} {a R:Int} (h:i < vs.length) (hr:maxR (vs.drop i) a=R):maxR (vs.drop (i+1)) (if a < (vs.getD i default).room then (vs.getD i default).room else a)=R:=by
 rw [drop_get' default h] at hr; exact hr
theorem max_end {vs:List Ves} {i:Nat} {a R:Int} (h:vs.length≤i) (hr:maxR (vs.drop i) a=R):R=a:=by
 rw [List.drop_of_length_le h] at hr; exact hr.symm
theorem max_ge:∀ {vs:List Ves} {a:Int},a≤maxR vs a∧∀ v ∈ vs,v.room≤maxR vs a
 | [],a=>⟨Int.le_refl _,by simp⟩
 | v :: l,a=>by
  unfold maxR
  obtain ⟨h1,h2⟩:=max_ge (vs:=l) (a:=if a < v.room then v.room else a)
  have h3:a≤(if a < v.room then v.room else a)∧v.room≤(if a < v.room then v.room else a):=by split <;> omega
  refine ⟨by omega,fun x hx=>?_⟩
  rcases List.mem_cons.1 hx with rfl | hx
  ·omega
  ·exact h2 x hx
theorem max_le:∀ {vs:List Ves} {a:Int},a≤60→vs.all Df=true→maxR vs a≤60
 | [],a,h,_=>h
 | v :: l,a,h,hv=>by
  rw [List.all_cons,Bool.and_eq_true] at hv
  have:=Cp hv.1
  unfold maxR
  exact max_le (by split <;> omega) hv.2
theorem any_snoc {L:List Stp} {p:Stp→Bool} {j:Nat} (h:j < L.length):(L.take (j+1)).any p=((L.take j).any p||p (L.getD j default)):=by
 rw [List.take_add_one,List.getElem?_eq_getElem h,List.any_append]
 simp [List.getD,h]
theorem any_part {L:List Stp} {p:Stp→Bool} {j:Nat} (h:(L.take j).any p=true):L.any p=true:=by
 obtain ⟨x,hx,hp⟩:=List.any_eq_true.1 h
 exact List.any_eq_true.2 ⟨x,List.mem_of_mem_take hx,hp⟩
theorem inner_end {L:List Stp} {p:Stp→Bool} {j:Nat} {B C:Bool} (hC:C=(B||(L.take j).any p)) (h:L.length≤j∨C=true):C=(B||L.any p):=by
 rcases h with h | h
 ·rw [List.take_of_length_le h] at hC; exact hC
 ·rw [h] at hC ⊢
  cases B with
  | true=>rfl
  | false=>
   rw [Bool.false_or] at hC ⊢
   exact (any_part hC.symm).symm
section
variable {vs:List Ves} {g k:Int} {v:List Liq} {L:List Stp} {s:Stp} {i:Nat} {B:Bool}
theorem ok1_t (h1:(doX vs v s s.g.lo).2=true) (h2:hasX (doX vs v s s.g.lo).1 g k=true):ok1 vs g k v s=true:=by unfold ok1; rw [h1,h2]; rfl
theorem ok1_f1 (h1:(doX vs v s s.g.lo).2=false):ok1 vs g k v s=false:=by unfold ok1; rw [h1]; rfl
theorem ok1_f2 (h2:hasX (doX vs v s s.g.lo).1 g k=false):ok1 vs g k v s=false:=by unfold ok1; rw [h2,Bool.and_false]
theorem ok2_no (h1:(doX vs v s s.g.lo).2=false):ok2 vs g k v L s=false:=by unfold ok2; rw [h1]; rfl
theorem ok2_go (h1:(doX vs v s s.g.lo).2=true):ok2 vs g k v L s=L.any (ok1 vs g k (doX vs v s s.g.lo).1):=by unfold ok2; rw [h1]; rfl
theorem outer_step (hi:i < L.length) (hn:(L.take i).any (ok1 vs g k v)=false) (hB:B=(L.take i).any (ok2 vs g k v L)) (h:ok1 vs g k v (L.getD i default)=false):i+1≤L.length∧(L.take (i+1)).any (ok1 vs g k v)=false∧(B||ok2 vs g k v L (L.getD i default))=(L.take (i+1)).any (ok2 vs g k v L):=by
 refine ⟨hi,?_,?_⟩
 ·rw [any_snoc hi,hn,h]; rfl
 ·rw [any_snoc hi,hB]
theorem few_0 (h:hasX v g k=true):fewR vs g k v L=0:=by unfold fewR; rw [if_pos h]
theorem few_1 (h:hasX v g k=false) (hi:i < L.length) (h1:ok1 vs g k v (L.getD i default)=true):fewR vs g k v L=1:=by
 unfold fewR; rw [if_neg (by rw [h]; decide),if_pos (List.any_eq_true.2 ⟨_,Em default hi,h1⟩)]
theorem few_b (h:hasX v g k=false) (hi:L.length≤i) (hn:(L.take i).any (ok1 vs g k v)=false) (hB:B=(L.take i).any (ok2 vs g k v L)):fewR vs g k v L=bst B:=by
 rw [List.take_of_length_le hi] at hn hB
 unfold fewR; rw [if_neg (by rw [h]; decide),if_neg (by rw [hn]; decide),hB]
end
theorem step_ok {n f t k:Nat} (hf:f < n) (ht:t < n) (hk:k+1≤60):planOk n (C8 f t k)=true:=by
 have k1:Gp ⟨(k:Int)+1,(k:Int)+1⟩ 60=true:=by
  simp only [Gp,Bool.and_eq_true,decide_eq_true_eq]; omega
 have k2:∀ x:Nat,x < n→inB (x:Int) 0 ((n:Int) - 1)=true:=fun x hx=>by
  simp only [inB,Bool.and_eq_true,decide_eq_true_eq]; omega
 have hz:Dp ⟨(k:Int)+1,(k:Int)+1⟩=1:=by unfold Dp; show (k:Int)+1 - ((k:Int)+1)+1=1; omega
 have hl:¬ ((k:Int)+1 < 1):=by omega
 by_cases e:f=t
 ·subst e
  simp only [planOk,Dm,C8,k1,k2 f hf,hz,hl,ne_eq,not_true_eq_false,if_false]; rfl
 ·have hne:((f:Int)=(t:Int))=False:=eq_false (by omega)
  simp only [planOk,Dm,C8,k1,k2 f hf,k2 t ht,hz,hl,hne,ne_eq,e,not_false_eq_true,if_true]; rfl
theorem plan_one {vs:List Ves} {v:List Liq} {s:Stp} (hv:OkV v) (hvs:vs.length≤4) (h:planOk vs.length s=true) (hd:(doS vs v s s.g.lo).2=true):∃ f t k:Nat,f < vs.length∧t < vs.length∧(k:Int)+1≤(vs.getD t default).room∧s=C8 f t k:=by
 obtain ⟨f,t,k,h1,h2,h3,h4⟩:=Ald (plan_move hv hvs h hd)
 have g2:=hv.g t
 refine ⟨f,t,k,h1,h2,?_,h4⟩
 unfold Ei at h3; unfold A8 at h3; split at h3 <;> omega
theorem ok1_plan {vs:List Ves} {g k:Int} {w:List Liq} (m:Nat) (hvs:vs.length≤4) (_:vs.all Df=true) (hw:OkV w) (hm:∀ v ∈ vs,v.room≤m) (hm2:m≤60):(oneL vs.length m).any (ok1 vs g k (w.take vs.length))=true↔∃ s,planF vs g k w [s]=true:=by
 rw [List.any_eq_true]
 constructor
 ·rintro ⟨s,hs,h⟩
  obtain ⟨f,t,j,hf,ht,hj,rfl⟩:=one_mem.1 hs
  refine ⟨C8 f t j,?_⟩
  unfold ok1 at h
  rw [Bool.and_eq_true] at h
  have hp:=step_ok (n:=vs.length) hf ht (k:=j) (by omega)
  obtain ⟨hst,_⟩:=planOk_parts hp
  have e:=Atc (w:=w) (m:=(C8 f t j).g.lo) hst
  have h1:=h.1
  rw [doX_two,e] at h1
  have h1:(doS vs w (C8 f t j) (C8 f t j).g.lo).2=true:=h1
  have h2:=h.2
  unfold doX at h2
  rw [e,if_pos h1] at h2
  unfold planF planF
  rw [hp,h1]
  exact h2
 ·rintro ⟨s,h⟩
  unfold planF planF at h
  simp only [Bool.and_eq_true] at h
  obtain ⟨h1,h2,h3⟩:=h
  obtain ⟨f,t,j,hf,ht,hj,e⟩:=plan_one hw hvs h1 h2
  have hr:=hm (vs.getD t default) (Em default ht)
  refine ⟨s,one_mem.2 ⟨f,t,j,hf,ht,by omega,e⟩,?_⟩
  obtain ⟨hst,_⟩:=planOk_parts h1
  have e2:=Atc (w:=w) (m:=s.g.lo) hst
  unfold ok1 doX
  rw [e2,h2,if_pos rfl]
  exact h3
theorem ok2_plan {vs:List Ves} {g k:Int} {w:List Liq} (m:Nat) (hvs:vs.length≤4) (hva:vs.all Df=true) (hw:OkV w) (hm:∀ v ∈ vs,v.room≤m) (hm2:m≤60):(oneL vs.length m).any (ok2 vs g k (w.take vs.length) (oneL vs.length m))=true↔∃ s s2,planF vs g k w [s,s2]=true:=by
 rw [List.any_eq_true]
 constructor
 ·rintro ⟨s,hs,h⟩
  obtain ⟨f,t,j,hf,ht,hj,rfl⟩:=one_mem.1 hs
  unfold ok2 at h
  rw [Bool.and_eq_true] at h
  have hp:=step_ok (n:=vs.length) hf ht (k:=j) (by omega)
  obtain ⟨hst,_⟩:=planOk_parts hp
  have e:=Atc (w:=w) (m:=(C8 f t j).g.lo) hst
  have h1:=h.1
  rw [doX_two,e] at h1
  have h1:(doS vs w (C8 f t j) (C8 f t j).g.lo).2=true:=h1
  have h2:=h.2
  unfold doX at h2
  rw [e,if_pos h1] at h2
  have hw2:OkV (doS vs w (C8 f t j) (C8 f t j).g.lo).1:=Ajk hw hvs hva hst (by show 0≤(j:Int)+1; omega) h1
  obtain ⟨s2,h3⟩:=(ok1_plan m hvs hva hw2 hm hm2).1 h2
  refine ⟨C8 f t j,s2,?_⟩
  unfold planF
  rw [hp,h1]
  exact h3
 ·rintro ⟨s,s2,h⟩
  unfold planF at h
  simp only [Bool.and_eq_true] at h
  obtain ⟨h1,h2,h3⟩:=h
  obtain ⟨f,t,j,hf,ht,hj,e⟩:=plan_one hw hvs h1 h2
  have hr:=hm (vs.getD t default) (Em default ht)
  refine ⟨s,one_mem.2 ⟨f,t,j,hf,ht,by omega,e⟩,?_⟩
  obtain ⟨hst,_,_,hlo⟩:=planOk_parts h1
  have e2:=Atc (w:=w) (m:=s.g.lo) hst
  have hw2:OkV (doS vs w s s.g.lo).1:=Ajk hw hvs hva hst (by omega) h2
  unfold ok2 doX
  rw [e2,h2,if_pos rfl]
  exact (ok1_plan m hvs hva hw2 hm hm2).2 ⟨s2,h3⟩
theorem fix_id {b:Cx} (hv:Ja b) (h1:Lf b.vs=true):fixB b=b:=by
 have e:b.vs.map fixV=b.vs:=by
  have:b.vs.map fixV=b.vs.map id:=by
   refine List.map_congr_left fun v hm=>?_
   have q:=Cp (List.all_eq_true.1 hv.v v hm)
   have r1:=Co q.1
   have r2:=Co q.2.1
   have o:=List.all_eq_true.1 h1 v hm
   simp only [Bool.not_eq_true',Bool.or_eq_false_iff,decide_eq_false_iff_not] at o
   obtain ⟨o1,o2⟩:=o
   unfold Dp at o1 o2
   obtain ⟨⟨glo,ghi⟩,⟨dlo,dhi⟩,room⟩:=v
   simp only [fixV,id] at *
   rw [show ghi=glo by omega,show dhi=dlo by omega]
  rw [this,List.map_id]
 unfold fixB; rw [e]
theorem first_one {b:Cx} (hv:Ja b) (h1:Lf b.vs=true):(Dt b.vs).2=Zg b.vs (nthX b 0).g∧((Dt b.vs).2=true→OkV (Dt b.vs).1∧(Dt b.vs).1.take b.vs.length=Nq b.vs (nthX b 0).g (nthX b 0).d):=by
 have hl:=nth_listed hv 0
 have hf:=first_fix b
 rw [fix_id hv h1] at hf
 rw [hf]
 obtain ⟨e1,e2⟩:=begin_room (vs:=b.vs) (gs:=(nthX b 0).g) (ds:=(nthX b 0).d) (i:=0) (v:=v0)
 have e3:=Zj (vs:=b.vs) (gs:=(nthX b 0).g) (ds:=(nthX b 0).d) (i:=0) (v:=v0) (by have:=hv.nv; simp; omega)
 rw [Nat.zero_add] at e3
 refine ⟨e1,fun ht=>⟨Aav hv hl,?_⟩⟩
 unfold Pa
 rw [e2 (e1.symm.trans ht),e3]; rfl
theorem plan_get {vs:List Ves} {g k:Int} {w:List Liq} {l:List Stp} (h:planF vs g k w l=true):∃ v',planZ vs (w.take vs.length) l=some (v',true)∧hasX v' g k=true:=by
 rw [plan_take] at h
 unfold finZ at h
 split at h
 ·rename_i v' e; exact ⟨v',e,h⟩
 ·cases h
theorem planZ_ok {vs:List Ves} (hvs:vs.length≤4) (hva:vs.all Df=true):∀ {l:List Stp} {v:List Liq} {r:List Liq × Bool},OkN vs.length v→planZ vs v l=some r→OkN vs.length r.1
 | [],v,r,ho,h=>by unfold planZ at h; cases h; exact ho
 | s :: ss,v,r,ho,h=>by
  unfold planZ at h
  split at h
  ·rename_i hp
   obtain ⟨hst,_,_,hlo⟩:=planOk_parts hp
   have ho2:=Baa ho hvs hva hst (n:=s.g.lo) (by omega)
   split at h
   ·exact planZ_ok hvs hva ho2 h
   ·cases h; exact ho2
  ·cases h
theorem few_eq {vs:List Ves} {g k:Int} {w:List Liq} (m:Nat) (hvs:vs.length≤4) (hva:vs.all Df=true) (hw:OkV w) (hm:∀ v ∈ vs,v.room≤m) (hm2:m≤60):fewR vs g k (w.take vs.length) (oneL vs.length m)=(match Apz vs g k w with | some p=>(p.length:Int) | none=>-1):=by
 have h0:hasX (w.take vs.length) g k=planF vs g k w []:=rfl
 have h1:=ok1_plan (g:=g) (k:=k) m hvs hva hw hm hm2
 have h2:=ok2_plan (g:=g) (k:=k) m hvs hva hw hm hm2
 unfold fewR
 cases hs:Apz vs g k w with
 | none=>
  have n0:=few_none' hvs hva hw hs (ss:=[]) (by simp)
  rw [h0,n0,if_neg (by decide)]
  rw [if_neg (fun e=>by
   obtain ⟨s,hp⟩:=h1.1 e
   rw [few_none' hvs hva hw hs (ss:=[s]) (by simp)] at hp; cases hp)]
  have:(oneL vs.length m).any (ok2 vs g k (w.take vs.length) (oneL vs.length m))=false:=by
   rw [Bool.eq_false_iff]
   intro e
   obtain ⟨s,s2,hp⟩:=h2.1 e
   rw [few_none' hvs hva hw hs (ss:=[s,s2]) (by simp)] at hp; cases hp
  rw [this]; rfl
 | some p=>
  obtain ⟨p1,p2,p3⟩:=few_some' hvs hva hw hs
  match p,p1,p2,p3 with
  | [],_,p2,_=>rw [h0,p2,if_pos rfl]; rfl
  | [s],_,p2,p3=>
   rw [h0,p3 [] (by simp),if_neg (by decide),if_pos (h1.2 ⟨s,p2⟩)]; rfl
  | [s,s2],_,p2,p3=>
   rw [h0,p3 [] (by simp),if_neg (by decide),if_neg (fun e=>by
    obtain ⟨s',hp⟩:=h1.1 e
    rw [p3 [s'] (by simp)] at hp; cases hp),h2.2 ⟨s,s2,p2⟩]; rfl
  | _ :: _ :: _ :: _,p1,_,_=>simp at p1
end AM.Wort
end
/- The reference: the truth with a number; the law's readiness. -/
section
namespace AM.Try
open Go AM AM.Wort Go.Proofs
open Nat renaming reduceLT→sA,reduceAdd→sB,reduceMul→sC,reduceSub→sD,reduceLeDiff→sE,reduceEqDiff→sF,reduceBEq→sG
open Int renaming reduceAdd→sH,reduceSub→sI,reduceMul→sJ,reduceLT→sK,reduceLE→sL,reduceNeg→sM,reduceToNat→sN,reduceEq→sO
set_option maxRecDepth 100000
set_option maxHeartbeats 8000000
theorem c_rnth (b:Cx) (n:Int) (hv:Ja b) (hn0:0≤n) (hn1:n≤1000000000):Bj Tryz.prog 44 [avB b,i64 n] (avT (nthX b n)):=by
  refine A7 (v:=[]) (q:=[]) (N:=92) (rs:=[.cell 4 28]) Tryz.func44 rfl rfl rfl rfl rfl ?_
  have hnv:=hv.nv
  have hns:=hv.ns
  refine Aa fun K1 hK1=>?_
  refine Ab ?_
  simp (disch:=omega) only [amL,amT,sA,sB,sF,↓reduceIte]
  refine hK1 _ ?_
  refine Aa fun K2 hK2=>?_
  refine Ab ?_
  simp (disch:=omega) only [amL,amT,sA,sB,sF,↓reduceIte]
  refine hK2 _ ?_
  refine Aa fun K3 hK3=>?_
  refine Aa fun K4 hK4=>?_
  refine Ab ?_
  simp (disch:=omega) only [amL,sA]
  refine hK4 _ ?_
  refine Ak ?_
  refine Ac3 40 1 5 0 (by decide) rfl rfl rfl ?_
  refine Ac3 56 1 5 1 (by decide) rfl rfl rfl ?_
  refine A5 (α:=(List Int × List Int) × Int) (fun x=>⟨T [(1,i64 x.2),(2,.ptr 2 0),(4,.ptr 4 0),(5,.ptr 5 0),(6,i64 (x.1.1.length:Int))],O [(2,.cells (cB b)),(4,.cells [Dk,Dk,Dk]),(5,.cells [.own 40 x.1.1.length,.own 56 x.1.2.length,Dk]),(40,.arr 1 (x.1.1.map Jj)),(56,.arr 1 (x.1.2.map Jj))]⟩) (fun x=>b.vs.length - x.1.1.length) (fun x=>x.1.1.length≤b.vs.length∧x.1.2.length=x.1.1.length∧(0≤x.2∧x.2≤1000000000)∧accV x.1.1 x.1.2 (nthV (b.vs.drop x.1.1.length) x.2)=nthV b.vs n) (([],[]),n) ?_ ?_ (fun x hx5 K5 hK5=>?_)
  · exact ⟨Nat.zero_le _,rfl,⟨hn0,hn1⟩,rfl⟩
  · refine B0 ?_ ?_ ?_ ?_ <;> (try simp (disch:=omega) only [amL,sF,sG,↓reduceIte,reduceCtorEq]); all_goals first | rfl | trace_state
  obtain ⟨⟨gs,ds⟩,m⟩:=x; dsimp only at hx5 ⊢; obtain ⟨hk,hk2,⟨hm0,hm1⟩,hr⟩:=hx5
  refine Aa fun K6 hK6=>?_
  refine Aa fun K7 hK7=>?_
  refine Ab ?_
  simp (disch:=omega) only [amL,amT,sA,sF,↓reduceIte,reduceCtorEq]
  refine hK7 _ ?_
  refine Ag rfl (fun h=>?_) (fun h=>?_)
  ·first
   | exact Bool.noConfusion h
   |skip
    try simp only [decide_eq_true_eq] at h
    refine Ah ?_
    refine hK6 _ ?_
    refine Aa fun K8 hK8=>?_
    refine Ak ?_
    refine Aa fun K9 hK9=>?_
    refine Afr [.sto [2] 7,.sto [24] 7,.sto [25,26] 7,.sto [27] 7,.sto [28] 7] (by kernel_rfl) (by kernel_rfl) ?_
    simp (disch:=omega) only [A0,amL,amT,sA,sB,sE,sF,↓reduceIte,reduceCtorEq]
    refine ⟨by simp [Cf.ok,Tk,T,AV.known,AV.clean],?_⟩
    all_goals
     skip
     refine hK9 _ ?_
     refine Aa fun K10 hK10=>?_
     refine Bg (by kernel_rfl) (by kernel_rfl) ?_
     have hk3:gs.length < b.vs.length:=by omega
     obtain ⟨hp1,hp2,_⟩:=Cp (hv.ves hk3)
     have z1:=D2 hp1
     have z2:=D2 hp2
     have y1:=Co hp1
     have y2:=Co hp2
     have hmo:=mod_nn (m:=m) z1.1
     have hdi:=div_nn hm0 z1.1
     have htm:m.tmod (Dp (b.vs.getD gs.length default).g)=m % Dp (b.vs.getD gs.length default).g:=Int.tmod_eq_emod_of_nonneg hm0
     have htd:m.tdiv (Dp (b.vs.getD gs.length default).g)=m / Dp (b.vs.getD gs.length default).g:=Int.tdiv_eq_ediv_of_nonneg hm0
     have hmo2:=mod_nn (m:=m / Dp (b.vs.getD gs.length default).g) z2.1
     have hdi2:=div_nn hdi.1 z2.1
     have htm2:(m / Dp (b.vs.getD gs.length default).g).tmod (Dp (b.vs.getD gs.length default).d)=m / Dp (b.vs.getD gs.length default).g % Dp (b.vs.getD gs.length default).d:=Int.tmod_eq_emod_of_nonneg hdi.1
     have htd2:(m / Dp (b.vs.getD gs.length default).g).tdiv (Dp (b.vs.getD gs.length default).d)=m / Dp (b.vs.getD gs.length default).g / Dp (b.vs.getD gs.length default).d:=Int.tdiv_eq_ediv_of_nonneg hdi.1
     simp (disch:=omega) only [amL,amT,sA,sB,sF,↓reduceIte,reduceCtorEq]
     repeat' first | (refine Al (by kernel_rfl) rfl (by first | exact Px (b.vs.getD gs.length default).g (by omega) (by omega) | exact Px (b.vs.getD gs.length default).d (by omega) (by omega) | exact Px (b.ss.getD ms.length default).g (by omega) (by omega)) (by first | exact .inl rfl | exact .inr (.inl rfl)) ?_ ; simp (disch:=omega) only [htm,amL,amT,sA,sB,sE,sF,↓reduceIte,reduceCtorEq])
     refine hK10 _ ?_
     refine Aa fun K11 hK11=>?_
     refine Ab ?_
     simp (disch:=omega) only [amL,amT,sA,sB,sF,↓reduceIte]
     repeat' first | (refine Al (by kernel_rfl) rfl (by first | exact Px (b.vs.getD gs.length default).g (by omega) (by omega) | exact Px (b.vs.getD gs.length default).d (by omega) (by omega) | exact Px (b.ss.getD ms.length default).g (by omega) (by omega)) (by first | exact .inl rfl | exact .inr (.inl rfl)) ?_ ; simp (disch:=omega) only [htd,amL,amT,sA,sF,↓reduceIte])
     refine hK11 _ ?_
     refine Aa fun K12 hK12=>?_
     refine Bg (by kernel_rfl) (by kernel_rfl) ?_
     simp (disch:=omega) only [amL,amT,sA,sB,sF,↓reduceIte,reduceCtorEq]
     repeat' first | (refine Al (by kernel_rfl) rfl (by first | exact Px (b.vs.getD gs.length default).g (by omega) (by omega) | exact Px (b.vs.getD gs.length default).d (by omega) (by omega) | exact Px (b.ss.getD ms.length default).g (by omega) (by omega)) (by first | exact .inl rfl | exact .inr (.inl rfl)) ?_ ; simp (disch:=omega) only [htm2,amL,amT,sA,sB,sE,sF,↓reduceIte,reduceCtorEq])
     refine hK12 _ ?_
     refine Ab ?_
     simp (disch:=omega) only [amL,amT,sA,sB,sF,↓reduceIte]
     repeat' first | (refine Al (by kernel_rfl) rfl (by first | exact Px (b.vs.getD gs.length default).g (by omega) (by omega) | exact Px (b.vs.getD gs.length default).d (by omega) (by omega) | exact Px (b.ss.getD ms.length default).g (by omega) (by omega)) (by first | exact .inl rfl | exact .inr (.inl rfl)) ?_ ; simp (disch:=omega) only [htd2,amL,amT,sA,sF,↓reduceIte])
     refine hK8 _ ?_
     refine Ab ?_
     simp (disch:=omega) only [amL,amT,sA,sF,↓reduceIte]
     refine hK5 ((gs++[(b.vs.getD gs.length default).g.lo+m % Dp (b.vs.getD gs.length default).g],ds++[(b.vs.getD gs.length default).d.lo+m / Dp (b.vs.getD gs.length default).g % Dp (b.vs.getD gs.length default).d]),nextV (b.vs.getD gs.length default) m) _ ?_ ?_ (B0 ?_ ?_ ?_ ?_)
     all_goals (try simp (disch:=omega) only [amL,sF,sG,↓reduceIte])
     all_goals first | omega | exact ⟨by simp; omega,by simp [hk2],⟨hdi2.1,Int.le_trans hdi2.2 (Int.le_trans hdi.2 hm1)⟩,acc_step (by omega) hr _ _ rfl rfl⟩ | (simp; omega) | (rw [List.length_append]; rfl) | (rw [List.map_append]; rfl) | (simp; done) | trace_state
  ·first
   | exact Bool.noConfusion h
   |skip
    try simp only [decide_eq_false_iff_not] at h
    refine Bc ?_
    refine hK3 _ ?_
    refine Aa fun K13 hK13=>?_
    refine Aa fun K14 hK14=>?_
    refine Ab ?_
    simp (disch:=omega) only [amL,sA]
    refine hK14 _ ?_
    refine Ak ?_
    refine Ac3 85 1 5 2 (by decide) rfl rfl rfl ?_
    refine A5 (α:=List Int × Int) (fun x=>⟨T [(1,i64 x.2),(2,.ptr 2 0),(4,.ptr 4 0),(5,.ptr 5 0),(9,i64 (x.1.length:Int))],O [(2,.cells (cB b)),(4,.cells [Dk,Dk,Dk]),(5,.cells [.own 40 gs.length,.own 56 ds.length,.own 85 x.1.length]),(40,.arr 1 (gs.map Jj)),(56,.arr 1 (ds.map Jj)),(85,.arr 1 (x.1.map Jj))]⟩) (fun x=>b.ss.length - x.1.length) (fun x=>x.1.length≤b.ss.length∧(0≤x.2∧x.2≤1000000000)∧x.1++nthS (b.ss.drop x.1.length) x.2=nthS b.ss m) ([],m) ?_ ?_ (fun x hx15 K15 hK15=>?_)
    · exact ⟨Nat.zero_le _,⟨hm0,hm1⟩,rfl⟩
    · refine B0 ?_ ?_ ?_ ?_ <;> (try simp (disch:=omega) only [amL,sF,sG,↓reduceIte]); all_goals first | rfl | trace_state
    obtain ⟨ms,m2⟩:=x; dsimp only at hx15 ⊢; obtain ⟨hj,⟨hm20,hm21⟩,hr2⟩:=hx15
    refine Aa fun K16 hK16=>?_
    refine Aa fun K17 hK17=>?_
    refine Ab ?_
    simp (disch:=omega) only [amL,amT,sA,sF,↓reduceIte,reduceCtorEq]
    refine hK17 _ ?_
    refine Ag rfl (fun h=>?_) (fun h=>?_)
    ·first
     | exact Bool.noConfusion h
     |skip
      try simp only [decide_eq_true_eq] at h
      refine Ah ?_
      refine hK16 _ ?_
      refine Aa fun K18 hK18=>?_
      refine Ak ?_
      refine Aa fun K19 hK19=>?_
      refine Ab ?_
      simp (disch:=omega) only [Eu,amL,amT,sA,sB,sF,↓reduceIte,reduceCtorEq]
      refine hK19 _ ?_
      refine Aa fun K20 hK20=>?_
      refine Bg (by kernel_rfl) (by kernel_rfl) ?_
      have hk3:ms.length < b.ss.length:=by omega
      have hp1:=(Cd (hv.stp hk3)).2.2.2.2
      have z1:=D2 hp1
      have y1:=Co hp1
      have hmo:=mod_nn (m:=m2) z1.1
      have hdi:=div_nn hm20 z1.1
      have htm:m2.tmod (Dp (b.ss.getD ms.length default).g)=m2 % Dp (b.ss.getD ms.length default).g:=Int.tmod_eq_emod_of_nonneg hm20
      have htd:m2.tdiv (Dp (b.ss.getD ms.length default).g)=m2 / Dp (b.ss.getD ms.length default).g:=Int.tdiv_eq_ediv_of_nonneg hm20
      simp (disch:=omega) only [amL,amT,sA,sB,sF,↓reduceIte,reduceCtorEq]
      repeat' first | (refine Al (by kernel_rfl) rfl (by first | exact Px (b.vs.getD gs.length default).g (by omega) (by omega) | exact Px (b.vs.getD gs.length default).d (by omega) (by omega) | exact Px (b.ss.getD ms.length default).g (by omega) (by omega)) (by first | exact .inl rfl | exact .inr (.inl rfl)) ?_ ; simp (disch:=omega) only [htm,amL,amT,sA,sB,sE,sF,↓reduceIte,reduceCtorEq])
      refine hK20 _ ?_
      refine Ab ?_
      simp (disch:=omega) only [amL,amT,sA,sB,sF,↓reduceIte]
      repeat' first | (refine Al (by kernel_rfl) rfl (by first | exact Px (b.vs.getD gs.length default).g (by omega) (by omega) | exact Px (b.vs.getD gs.length default).d (by omega) (by omega) | exact Px (b.ss.getD ms.length default).g (by omega) (by omega)) (by first | exact .inl rfl | exact .inr (.inl rfl)) ?_ ; simp (disch:=omega) only [htd,amL,amT,sA,sF,↓reduceIte])
      refine hK18 _ ?_
      refine Ab ?_
      simp (disch:=omega) only [amL,amT,sA,sF,↓reduceIte]
      refine hK15 (ms++[(b.ss.getD ms.length default).g.lo+m2 % Dp (b.ss.getD ms.length default).g],m2 / Dp (b.ss.getD ms.length default).g) _ ?_ ?_ (B0 ?_ ?_ ?_ ?_)
      all_goals (try simp (disch:=omega) only [amL,sF,sG,↓reduceIte])
      all_goals first | omega | exact ⟨by simp; omega,⟨by omega,by omega⟩,nthS_step (by omega) hr2 _ rfl⟩ | (simp; omega) | (rw [List.length_append]; rfl) | (rw [List.map_append]; rfl) | (simp; done) | trace_state
    ·first
     | exact Bool.noConfusion h
     |skip
      try simp only [decide_eq_false_iff_not] at h
      refine Bc ?_
      refine hK13 _ ?_
      refine Aa fun K21 hK21=>?_
      refine Ab ?_
      simp (disch:=omega) only [amL,amT,sB,sF,↓reduceIte]
      refine hK21 _ ?_
      refine Ae ?_
      try simp (disch:=omega) only [amL,amT,sB,sF,↓reduceIte]
      have e1:=acc_end (by omega) hr
      have e2:=nthS_end (by omega) hr2
      unfold nthX
      rw [e1]
      dsimp only
      rw [e2,List.take_of_length_le (by simp),List.take_of_length_le (by simp),List.take_of_length_le (by simp)]
theorem c_lthin0 (b:Cx):Bj Tryz.prog 13 [avB b,.agg [Dk,Dk,Dk]] (bl (Ai5 b ⟨[],[],[]⟩)):=by
  refine A7 (v:=[]) (q:=[]) (N:=33) (rs:=[.tmp 4]) Tryz.func13 rfl rfl rfl rfl rfl ?_
  refine Aa fun K1 hK1=>?_
  refine Ab ?_
  simp (disch:=omega) only [amL,sA,sB,sF,↓reduceIte,reduceCtorEq]
  refine hK1 _ ?_
  refine Aa fun K2 hK2=>?_
  refine Ab ?_
  simp (disch:=omega) only [amL,amT,sA,sF,↓reduceIte,reduceCtorEq]
  repeat' first | (refine Cn (fun h=>?_) (fun h=>?_) <;> simp (disch:=omega) only [h,amL,amT,sA,sF,sL,↓reduceIte,reduceCtorEq]) | (refine Bo (fun h=>?_) (fun h=>?_) <;> simp (disch:=omega) only [h,amL,amT,sA,sB,sC,sD,sE,sF,sG,sH,sI,sJ,sK,sL,sM,sN,sO,↓reduceIte,reduceCtorEq])
  all_goals
   skip
   refine hK2 _ ?_
   refine Ae ?_
   try simp (disch:=omega) only [amL,↓reduceIte]
   all_goals first | (simp only [Ai5, *,decide_true,decide_false,Bool.true_and,Bool.false_and]; done) | (simp_all [Ai5]; done) | (simp_all [Ai5]; omega)
theorem thin0 {b:Cx} {t:Tru} (h:Ai5 b t=true):b.vs.length < 1000000∧b.ss.length < 1000000:=by
  simp only [Ai5,Bool.and_eq_true,decide_eq_true_eq] at h
  omega
end AM.Try
end
/- The statements: brewhouses, truths, readings that are read. -/
section
namespace AM.Try
open Go AM AM.Wort Go.ChangeShapes Go.WideShapes Go.ChangeAt Go.RowKit Go.Proofs
open Nat renaming reduceLT→sA,reduceAdd→sB,reduceMul→sC,reduceSub→sD,reduceLeDiff→sE,reduceEqDiff→sF,reduceBEq→sG
open Int renaming reduceAdd→sH,reduceSub→sI,reduceMul→sJ,reduceLT→sK,reduceLE→sL,reduceNeg→sM,reduceToNat→sN,reduceEq→sO
set_option maxRecDepth 100000
section
variable {H:Type} {enc:TypeId × Value→H} {W:World} {base:Nat} {v:Value} {d:DataW H} {p:List MemPlace}
theorem open_stps (hv:Value.okWide Tryz.prog W .any base 23 v) (h:DataW.Trod enc Tryz.prog W 0 (fun _=>true) true 23 v d p):∃ l:List Stp,(∀ m ∈ l,Ayk m)∧∀ θ,Aq θ (fun _=>False) W (.p (slS l)) v:=by
 obtain ⟨R,h1,h2⟩:=open_rows Tryz.underlying23 (by kernel_rfl) flS hv h
 exact ⟨R.map mkS,R6 h1 mkS _ Bae,fun θ=>by show Aq _ _ _ (.p (.sl ((R.map mkS).map Qc))) _; rw [Nz h1 mkS Qc Auk]; exact h2 θ⟩
end
end AM.Try
end
/- The program: ProvePlan. -/
section
namespace AM.Try
open Go AM AM.Wort Go.Proofs
open Nat renaming reduceLT→sA,reduceAdd→sB,reduceMul→sC,reduceSub→sD,reduceLeDiff→sE,reduceEqDiff→sF,reduceBEq→sG
open Int renaming reduceAdd→sH,reduceSub→sI,reduceMul→sJ,reduceLT→sK,reduceLE→sL,reduceNeg→sM,reduceToNat→sN,reduceEq→sO
set_option maxRecDepth 100000
set_option maxHeartbeats 16000000
theorem ns_of {x:Bool} (h:(!x)=false):x=true:=by simpa using h
theorem c_prove (b:Cx) (l:List Stp) (g k most:Int) (hl:b.vs.length < 1000000) (hl2:b.ss.length < 1000000) (hl3:l.length < 1000000) (hin:∀ s ∈ l,inR s.kind=true∧inR s.frm=true∧inR s.to=true∧inR s.g.lo=true∧inR s.g.hi=true):Bj Tryz.prog 35 [avB b,.p (slS l),i64 g,i64 k,i64 most] (bl (proveS b l g k most)):=by
  refine A7 (v:=[60,81,88,84]) (q:=[]) (N:=92) (rs:=[.tmp 10]) Tryz.func35 rfl rfl rfl rfl rfl ?_
  have hfx:=Bb0 b.vs
  have hw4:(Ld b.vs).length=4:=by unfold Ld; split; exact Tm; rfl
  refine Aa fun K1 hK1=>?_
  refine Ab ?_
  simp (disch:=(first | assumption | omega)) only [amL,sA,sB,↓reduceIte]
  refine hK1 _ ?_
  refine Aa fun K2 hK2=>?_
  refine Aa fun K3 hK3=>?_
  refine Ab ?_
  simp (disch:=(first | assumption | omega)) only [amL,amT,sA,sB,sF,sG,↓reduceIte]
  repeat' first | (refine Cn (fun h=>?_) (fun h=>?_) <;> simp (disch:=(first | assumption | omega)) only [h,amL,amT,sA,sF,sG,↓reduceIte,reduceCtorEq]) | (refine Bo (fun h=>?_) (fun h=>?_) <;> simp (disch:=(first | assumption | omega)) only [h,hfx,Ahj,B6,A2,Eu,L8,ne_eq,amL,amT,sA,sB,sC,sD,sE,sF,sG,sH,sI,sJ,sK,sL,sM,sN,sO,↓reduceIte,reduceCtorEq]) | (refine Al (by kernel_rfl) rfl (Aja b hl hl2) (by first | exact .inl rfl | exact .inr (.inl rfl)) ?_ ; simp (disch:=(first | assumption | omega)) only [ne_eq,amL,amT,sA,↓reduceIte]) | (refine Al (by kernel_rfl) rfl (c_wort g k) (by first | exact .inl rfl | exact .inr (.inl rfl)) ?_ ; simp (disch:=(first | assumption | omega)) only [amL,sA,sF,↓reduceIte])
  all_goals
   skip
   refine hK3 _ ?_
   refine Ag rfl (fun h=>?_) (fun h=>?_)
   ·first
    | exact Bool.noConfusion h
    |skip
     try simp only [Bool.not_eq_true'] at h
     refine Aa fun K4 hK4=>?_
     refine Ab ?_
     simp (disch:=(first | assumption | omega)) only [amL,sA]
     refine hK4 _ ?_
     refine Ae ?_
     try simp (disch:=(first | assumption | omega)) only [amL,↓reduceIte]
     all_goals first | exact (congrArg bl (plan_no (by omega) (.inr (by assumption)) hr)).symm | exact (congrArg bl (plan_no (by omega) (.inl (by first | (simp_all [planOk]; done) | fail)) hr)).symm | (rw [prove_no (by first | exact .inl (by assumption) | exact .inr (.inl (by omega)) | exact .inr (.inr (.inl (by assumption))) | exact .inr (.inr (.inr (.inl (by assumption)))) | (simp_all; done))]; done) | (rw [← hr,plan_end (by omega) rfl]; done) | trace_state
   ·first
    | exact Bool.noConfusion h
    |skip
     try simp only [Bool.not_eq_false'] at h
     refine Ah ?_
     refine hK2 _ ?_
     refine Aa fun K5 hK5=>?_
     refine Ab ?_
     have hf0:B5 b=0:=by omega
     have hval:=Acu hf0
     simp (disch:=(first | assumption | omega)) only [amL,amT,sA,sB,sF,sG,↓reduceIte]
     refine A6 [(1,.p (slS l)),(2,i64 g),(3,i64 k),(5,.ptr 5 0),(10,bl false)] (by decide) (Ed (b:=b) (bd:=92)) (M8 rfl) (by decide) (fun res os2 hR hcl2 hlv2=>?_)
     obtain ⟨rfl,rfl⟩:=hR
     simp (disch:=(first | assumption | omega)) only [amL,sA,sB,sF,↓reduceIte,reduceCtorEq]
     refine hK5 _ ?_
     refine Aa fun K6 hK6=>?_
     refine Ab ?_
     simp (disch:=(first | assumption | omega)) only [amL,sA,sG,↓reduceIte]
     refine Cv (bd:=140) (by decide) (Atw (ss:=b.ss) (m:=96) ⟨by simp (disch:=(first | assumption | omega)) only [amL,↓reduceIte],by simp (disch:=(first | assumption | omega)) only [amL,sF,↓reduceIte]⟩ hval.nv hval.v) (fun q hq=>by first | exact M8 rfl q (by omega) | (simp (disch:=omega) only [Ad]; exact M8 rfl q (by omega))) (by decide) (by rw [hfx]; exact U4 _ _ _) ?_
     simp (disch:=(first | assumption | omega)) only [hfx,Ahj,A2,amL,amT,sA,sB,sF,↓reduceIte]
     refine hK6 _ ?_
     refine Aa fun K7 hK7=>?_
     refine Aa fun K8 hK8=>?_
     refine Ab ?_
     simp (disch:=(first | assumption | omega)) only [amL,sA,sF,↓reduceIte]
     repeat' first | (refine Cn (fun h=>?_) (fun h=>?_) <;> simp (disch:=(first | assumption | omega)) only [h,hfx,Ahj,B6,A2,Eu,L8,ne_eq,amL,amT,sA,sB,sC,sD,sE,sF,sG,sH,sI,sJ,sK,sL,sM,sN,sO,↓reduceIte,reduceCtorEq]) | (refine Bo (fun h=>?_) (fun h=>?_) <;> simp (disch:=(first | assumption | omega)) only [h,amL,sA,sF,↓reduceIte])
     all_goals
      skip
      refine hK8 _ ?_
      refine Ag rfl (fun h=>?_) (fun h=>?_)
      ·first
       | exact Bool.noConfusion h
       |skip
        try simp only [Bool.not_eq_true'] at h
        refine Aa fun K9 hK9=>?_
        refine Ab ?_
        simp (disch:=(first | assumption | omega)) only [amL,sA]
        refine hK9 _ ?_
        refine Ae ?_
        try simp (disch:=(first | assumption | omega)) only [amL,↓reduceIte]
        all_goals first | exact (congrArg bl (plan_no (by omega) (.inr (by assumption)) hr)).symm | exact (congrArg bl (plan_no (by omega) (.inl (by first | (simp_all [planOk]; done) | fail)) hr)).symm | (rw [prove_no (by first | exact .inl (by assumption) | exact .inr (.inl (by omega)) | exact .inr (.inr (.inl (by assumption))) | exact .inr (.inr (.inr (.inl (by assumption)))) | (simp_all; done))]; done) | (rw [← hr,plan_end (by omega) rfl]; done) | trace_state
      ·first
       | exact Bool.noConfusion h
       |skip
        try simp only [Bool.and_eq_true,Bool.not_eq_false'] at h
        refine Ah ?_
        refine hK7 _ ?_
        refine Aa fun K10 hK10=>?_
        refine Aa fun K11 hK11=>?_
        refine Ab ?_
        simp (disch:=(first | assumption | omega)) only [amL,amT,sA,sF,↓reduceIte]
        refine hK11 _ ?_
        refine Ak ?_
        have h3:Pm g k=true:=by first | assumption | (simp_all; done)
        have h4:Lf b.vs=true:=by first | assumption | (simp_all; done)
        have h5:(Dt b.vs).2=true:=by first | assumption | (simp_all; done)
        have hfw:Ld b.vs=(Dt b.vs).1:=by unfold Ld; rw [if_pos h4]
        have pl0:planF b.vs g k (Ld b.vs) (l.drop 0)=proveS b l g k most:=(prove_eq hf0 (by omega) h3 h4 h5 (by rw [hfw]; rfl)).symm
        refine A5 (α:=Nat × List Liq) (fun x=>⟨T [(1,.p (slS l)),(2,i64 g),(3,i64 k),(5,.ptr 5 0),(10,bl false),(11,.ptr 98 0),(12,.ptr 12 0),(47,.p (slS l)),(48,i64 l.length),(49,i64 (x.1:Int))],O [(5,.cells (cB b)),(12,.cells (cW x.2)),(96,.obj (G5 14 (T0 b.vs))),(98,.cells [.p (slV b.vs),.p (slS b.ss),.mp 96])]⟩) (fun x=>l.length - x.1) (fun x=>x.1≤l.length∧OkV x.2∧planF b.vs g k x.2 (l.drop x.1)=proveS b l g k most) (0,Ld b.vs) ?_ ?_ (fun x hx12 K12 hK12=>?_)
        · exact ⟨Nat.zero_le _,Au8 hval.nv hval.v,pl0⟩
        · refine B0 ?_ ?_ ?_ ?_ <;> (try simp (disch:=(first | assumption | omega)) only [amL,sF,sG,↓reduceIte]); all_goals first | rfl | exact Ape _ | trace_state
        obtain ⟨i,v⟩:=x; dsimp only at hx12 ⊢; obtain ⟨hi,hov,hr⟩:=hx12; have hv4:v.length=4:=hov.len
        refine Aa fun K13 hK13=>?_
        refine Ab ?_
        simp (disch:=(first | assumption | omega)) only [amL,amT,sA,sF,↓reduceIte]
        refine hK13 _ ?_
        refine Aa fun K14 hK14=>?_
        refine Ag rfl (fun h=>?_) (fun h=>?_)
        ·first
         | exact Bool.noConfusion h
         |skip
          try simp only [decide_eq_true_eq] at h
          refine Ah ?_
          refine hK14 _ ?_
          refine Aa fun K15 hK15=>?_
          refine Ak ?_
          refine Aa fun K16 hK16=>?_
          refine Ab ?_
          simp (disch:=(first | assumption | omega)) only [Eu,amL,amT,sA,sB,sF,↓reduceIte]
          refine hK16 _ ?_
          refine Aa fun K17 hK17=>?_
          refine Aa fun K18 hK18=>?_
          refine Ab ?_
          simp (disch:=(first | assumption | omega)) only [amL,amT,sA,sB,sF,sG,↓reduceIte]
          repeat' first | (refine Cn (fun h=>?_) (fun h=>?_) <;> simp (disch:=(first | assumption | omega)) only [h,amL,amT,sA,sB,sF,sG,↓reduceIte,reduceCtorEq]) | (refine Bo (fun h=>?_) (fun h=>?_) <;> simp (disch:=(first | assumption | omega)) only [h,amL,amT,sA,sF,↓reduceIte,reduceCtorEq]) | (refine Al (by kernel_rfl) rfl (Azn b (l.getD i default) hl) (by first | exact .inl rfl | exact .inr (.inl rfl)) ?_ ; simp (disch:=(first | assumption | omega)) only [amL,sA,↓reduceIte]) | (refine Al (by kernel_rfl) rfl (Ahr (l.getD i default).g (by have:=Co (Cd (ns_of (by assumption:(!Dm (b.vs.length:Int) (l.getD i default))=false))).2.2.2.2; omega) (by have:=Co (Cd (ns_of (by assumption:(!Dm (b.vs.length:Int) (l.getD i default))=false))).2.2.2.2; omega)) (by first | exact .inl rfl | exact .inr (.inl rfl)) ?_ ; simp (disch:=(first | assumption | omega)) only [amL,amT,sA,sF,↓reduceIte])
          all_goals
           skip
           refine hK18 _ ?_
           refine Ag rfl (fun h=>?_) (fun h=>?_)
           ·first
            | exact Bool.noConfusion h
            |skip
             try simp only [decide_eq_true_eq] at h
             refine Aa fun K19 hK19=>?_
             refine Ab ?_
             simp (disch:=(first | assumption | omega)) only [amL,sA]
             refine hK19 _ ?_
             refine Ae ?_
             try simp (disch:=(first | assumption | omega)) only [amL,↓reduceIte]
             all_goals first | exact (congrArg bl (plan_no (by omega) (.inr (by assumption)) hr)).symm | exact (congrArg bl (plan_no (by omega) (.inl (by first | (simp_all [planOk]; done) | fail)) hr)).symm | (rw [prove_no (by first | exact .inl (by assumption) | exact .inr (.inl (by omega)) | exact .inr (.inr (.inl (by assumption))) | exact .inr (.inr (.inr (.inl (by assumption)))) | (simp_all; done))]; done) | (rw [← hr,plan_end (by omega) rfl]; done) | trace_state
           ·first
            | exact Bool.noConfusion h
            |skip
             try simp only [decide_eq_false_iff_not] at h
             refine Ah ?_
             refine hK17 _ ?_
             refine Aa fun K20 hK20=>?_
             refine Ab ?_
             simp (disch:=(first | assumption | omega)) only [amL,sA]
             refine hK20 _ ?_
             refine Aa fun K21 hK21=>?_
             refine Ab ?_
             simp (disch:=(first | assumption | omega)) only [B6,A2,amL,amT,sA,sB,sF,sG,↓reduceIte,reduceCtorEq]
             obtain ⟨hst,hk2,hsz,hlo⟩:=planOk_parts (n:=b.vs.length) (s:=l.getD i default) (by first | (simp_all [planOk]; done) | fail)
             obtain ⟨q1,q2,q3,q4,q5⟩:=Cd hst
             have y5:=Co q5
             have hnv:=hval.nv
             have hd4:(doS b.vs v (l.getD i default) (l.getD i default).g.lo).1.length=4:=by rw [Aba]; exact hv4
             have hm:=hin _ (AM.Wort.Em default (show i < l.length by omega))
             refine Cv (bd:=140) (by decide) (Bgz (ss:=b.ss) (m:=96) (s:=l.getD i default) ⟨by simp (disch:=(first | assumption | omega)) only [amL,sF,↓reduceIte],by simp (disch:=(first | assumption | omega)) only [amL,sF,↓reduceIte]⟩ hov.len hov.small hnv q1 ⟨q2.1,by omega⟩ ⟨q3.1,by omega⟩ ⟨by omega,by omega⟩ (Bfq hm hm.2.2.2.1 hov.small)) (fun q hq=>by first | exact M8 rfl q (by omega) | (simp (disch:=omega) only [Ad]; exact M8 rfl q (by omega))) (by decide) (Ey _ _) ?_
             simp (disch:=(first | assumption | omega)) only [A2,amL,amT,sA,sF,↓reduceIte]
             refine hK21 _ ?_
             refine Aa fun K22 hK22=>?_
             refine Ab ?_
             simp (disch:=(first | assumption | omega)) only [amL,sA,↓reduceIte]
             refine hK22 _ ?_
             refine Ag rfl (fun h=>?_) (fun h=>?_)
             ·first
              | exact Bool.noConfusion h
              |skip
               try simp only [Bool.not_eq_true'] at h
               refine Aa fun K23 hK23=>?_
               refine Ab ?_
               simp (disch:=(first | assumption | omega)) only [amL,sA]
               refine hK23 _ ?_
               refine Ae ?_
               try simp (disch:=(first | assumption | omega)) only [amL,↓reduceIte]
               all_goals first | exact (congrArg bl (plan_no (by omega) (.inr (by assumption)) hr)).symm | exact (congrArg bl (plan_no (by omega) (.inl (by first | (simp_all [planOk]; done) | fail)) hr)).symm | (rw [prove_no (by first | exact .inl (by assumption) | exact .inr (.inl (by omega)) | exact .inr (.inr (.inl (by assumption))) | exact .inr (.inr (.inr (.inl (by assumption)))) | (simp_all; done))]; done) | (rw [← hr,plan_end (by omega) rfl]; done) | trace_state
             ·first
              | exact Bool.noConfusion h
              |skip
               try simp only [Bool.not_eq_false'] at h
               refine Ah ?_
               refine hK15 _ ?_
               refine Ab ?_
               simp (disch:=(first | assumption | omega)) only [amL,amT,sA,sF,↓reduceIte]
               refine hK12 (i+1,(doS b.vs v (l.getD i default) (l.getD i default).g.lo).1) _ ?_ ?_ (B0 ?_ ?_ ?_ ?_)
               all_goals (try simp (disch:=(first | assumption | omega)) only [amL,sF,sG,↓reduceIte])
               all_goals first | omega | exact Ape _ | exact congrArg AO.cells (Cr (by omega)) | exact ⟨by omega,Ajk hov hnv hval.v hst (by omega) (by assumption),plan_step (by omega) (by simp only [planOk,hst,hk2,hsz,hlo,decide_false,Bool.not_false,Bool.and_self]) (by assumption) hr⟩ | trace_state
        ·first
         | exact Bool.noConfusion h
         |skip
          try simp only [decide_eq_false_iff_not] at h
          refine Bc ?_
          refine hK10 _ ?_
          refine Aa fun K24 hK24=>?_
          refine Ab ?_
          simp (disch:=(first | assumption | omega)) only [B6,A2,amL,amT,sA,sF,sG,↓reduceIte]
          refine Cv (bd:=140) (by decide) (Auw (vs:=b.vs) (ss:=b.ss) (v:=v) (g:=g) (k:=k) (m:=96) (by simp (disch:=(first | assumption | omega)) only [amL,sF,↓reduceIte]) hval.nv hov.small hov.len) (fun q hq=>by first | exact M8 rfl q (by omega) | (simp (disch:=omega) only [Ad]; exact M8 rfl q (by omega))) (by decide) rfl ?_
          simp (disch:=(first | assumption | omega)) only [amL,sA,↓reduceIte]
          refine hK24 _ ?_
          refine Ae ?_
          try simp (disch:=(first | assumption | omega)) only [amL,↓reduceIte]
          all_goals first | exact (congrArg bl (plan_no (by omega) (.inr (by assumption)) hr)).symm | exact (congrArg bl (plan_no (by omega) (.inl (by first | (simp_all [planOk]; done) | fail)) hr)).symm | (rw [prove_no (by first | exact .inl (by assumption) | exact .inr (.inl (by omega)) | exact .inr (.inr (.inl (by assumption))) | exact .inr (.inr (.inr (.inl (by assumption)))) | (simp_all; done))]; done) | (rw [← hr,plan_end (by omega) rfl]; done) | trace_state
theorem c_rhas (v:List Liq) (g k:Int) (hl:v.length < 1000000):Bj Tryz.prog 39 [.p (.sl (stL v)),i64 g,i64 k] (bl (hasX v g k)):=by
  rw [Aa4]
  refine A7 (v:=[]) (q:=[]) (N:=30) (rs:=[.tmp 6]) Tryz.func39 rfl rfl rfl rfl rfl ?_
  refine Aa fun K1 hK1=>?_
  refine Ab ?_
  simp (disch:=(first | omega | (simp only [List.length_map]; omega))) only [amL,sA,sB]
  refine hK1 _ ?_
  refine Aa fun K2 hK2=>?_
  refine Aa fun K3 hK3=>?_
  refine Ab ?_
  simp (disch:=(first | omega | (simp only [List.length_map]; omega))) only [amL,sA]
  refine hK3 _ ?_
  refine Ak ?_
  skip
  refine A5 (α:=Nat) (fun i=>⟨T [(0,.p (.sl ((v.map L1).map H5))),(1,i64 g),(2,i64 k),(7,i64 (i:Int))],O []⟩) (fun i=>v.length - i) (fun i=>i≤v.length∧hasX (v.drop i) g k=hasX v g k) 0 ?_ ?_ (fun i hx4 K4 hK4=>?_)
  · exact ⟨Nat.zero_le _,rfl⟩
  · refine B0 ?_ ?_ ?_ ?_ <;> (try simp (disch:=(first | omega | (simp only [List.length_map]; omega))) only [amL,sF,↓reduceIte,reduceCtorEq]); all_goals first | rfl | trace_state
  obtain ⟨hi,hr⟩:=hx4
  refine Aa fun K5 hK5=>?_
  refine Aa fun K6 hK6=>?_
  refine Ab ?_
  simp (disch:=(first | omega | (simp only [List.length_map]; omega))) only [List.length_map,amL,amT,sA,sF,↓reduceIte,reduceCtorEq]
  refine hK6 _ ?_
  refine Ag rfl (fun h=>?_) (fun h=>?_)
  ·first
   | exact Bool.noConfusion h
   |skip
    try simp only [decide_eq_true_eq] at h
    refine Ah ?_
    refine hK5 _ ?_
    refine Aa fun K7 hK7=>?_
    refine Ak ?_
    refine Aa fun K8 hK8=>?_
    refine Ab ?_
    simp (disch:=(first | omega | (simp only [List.length_map]; omega))) only [A1,Aei,Hw,staK0,List.length_map,amL,amT,sA,sB,sF,↓reduceIte,reduceCtorEq]
    repeat' first | (refine Cn (fun h=>?_) (fun h=>?_) <;> simp (disch:=(first | omega | (simp only [List.length_map]; omega))) only [h,A1,Aei,staK0,List.length_map,amL,amT,sA,sB,sF,↓reduceIte,reduceCtorEq]) | (refine Bo (fun h=>?_) (fun h=>?_) <;> simp (disch:=(first | omega | (simp only [List.length_map]; omega))) only [h,A1,Aei,Hw,staK0,List.length_map,amL,amT,sA,sB,sC,sD,sE,sF,sG,sH,sI,sJ,sK,sL,sM,sN,sO,↓reduceIte,reduceCtorEq])
    all_goals
     skip
     refine hK8 _ ?_
     refine Ag rfl (fun h=>?_) (fun h=>?_)
     ·first
      | exact Bool.noConfusion h
      |skip
       try simp only [decide_eq_true_eq] at h
       refine Aa fun K9 hK9=>?_
       refine Ab ?_
       simp (disch:=(first | omega | (simp only [List.length_map]; omega))) only [amL,sA]
       refine hK9 _ ?_
       refine Ae ?_
       try simp (disch:=(first | omega | (simp only [List.length_map]; omega))) only [amL,↓reduceIte]
       all_goals first | (rw [← hr,has_yes (by omega) (by omega) (by omega)]; done) | (rw [← hr,has_end (by omega)]; done) | trace_state
     ·first
      | exact Bool.noConfusion h
      |skip
       try simp only [decide_eq_false_iff_not] at h
       refine Ah ?_
       refine hK7 _ ?_
       refine Ab ?_
       simp (disch:=(first | omega | (simp only [List.length_map]; omega))) only [amL,amT,sA,sF,↓reduceIte,reduceCtorEq]
       refine hK4 (i+1) _ ?_ ?_ (B0 ?_ ?_ ?_ ?_)
       all_goals (try simp (disch:=(first | omega | (simp only [List.length_map]; omega))) only [amL,sF,↓reduceIte,reduceCtorEq])
       all_goals first | omega | exact ⟨by omega,has_step (by omega) (by omega) hr⟩ | trace_state
  ·first
   | exact Bool.noConfusion h
   |skip
    try simp only [decide_eq_false_iff_not] at h
    refine Bc ?_
    refine hK2 _ ?_
    refine Aa fun K10 hK10=>?_
    refine Ab ?_
    simp (disch:=(first | omega | (simp only [List.length_map]; omega))) only [amL,sA]
    refine hK10 _ ?_
    refine Ae ?_
    try simp (disch:=(first | omega | (simp only [List.length_map]; omega))) only [amL,↓reduceIte]
    all_goals first | (rw [← hr,has_yes (by omega) (by omega) (by omega)]; done) | (rw [← hr,has_end (by omega)]; done) | trace_state
theorem stp_in {l:List Stp} (h:∀ s ∈ l,Ayk s):∀ s ∈ l,inR s.kind=true∧inR s.frm=true∧inR s.to=true∧inR s.g.lo=true∧inR s.g.hi=true:=fun s hs=>by
 obtain ⟨h1,h2,h3,h4,h5⟩:=h s hs
 exact ⟨h1,h2,h3,h4,h5⟩
theorem few_bad {b:Cx} {g k:Int} (hf:B5 b=0) (h1:Lf b.vs=true) (h2:Pm g k=true) (h:(Dt b.vs).2=false∨Apz b.vs g k (Dt b.vs).1=none):Jh b g k=.tup [Dk,i64 10]:=by
 unfold Jh
 rw [if_neg (by omega),if_neg (by rw [h1,h2]; decide)]
 split
 ·rfl
 ·rename_i h3
  rcases h with h | h
  ·exact absurd h h3
  ·rw [h]
theorem few_good {b:Cx} {g k:Int} {p:List Stp} (hf:B5 b=0) (h1:Lf b.vs=true) (h2:Pm g k=true) (h3:(Dt b.vs).2=true) (h:Apz b.vs g k (Dt b.vs).1=some p):Jh b g k=.tup [.p (slS p),i64 0]:=by
 unfold Jh
 rw [if_neg (by omega),if_neg (by rw [h1,h2]; decide),if_neg (by rw [h3]; decide),h]
theorem c_rfixed (b:Cx) (hv:Ja b):Bj Tryz.prog 37 [avB b] (bl (Lf b.vs)):=by
  refine A7 (v:=[]) (q:=[]) (N:=29) (rs:=[.tmp 2]) Tryz.func37 rfl rfl rfl rfl rfl ?_
  have hnv:=hv.nv
  refine Aa fun K1 hK1=>?_
  refine Ab ?_
  simp (disch:=omega) only [amL,sA,↓reduceIte]
  refine hK1 _ ?_
  refine Aa fun K2 hK2=>?_
  refine Aa fun K3 hK3=>?_
  refine Ab ?_
  simp (disch:=omega) only [amL,sA]
  refine hK3 _ ?_
  refine Ak ?_
  skip
  refine A5 (α:=Nat) (fun k=>⟨T [(1,.ptr 1 0),(3,i64 (k:Int))],O [(1,.cells (cB b))]⟩) (fun k=>b.vs.length - k) (fun k=>k≤b.vs.length∧(b.vs.take k).all (fun x=>!(decide (1 < Dp x.g)||decide (1 < Dp x.d)))=true) 0 ?_ ?_ (fun k hx4 K4 hK4=>?_)
  · exact ⟨Nat.zero_le _,rfl⟩
  · refine B0 ?_ ?_ ?_ ?_ <;> (try simp (disch:=omega) only [amL,sF,↓reduceIte]); all_goals rfl
  obtain ⟨hk,hpre⟩:=hx4
  refine Aa fun K5 hK5=>?_
  refine Aa fun K6 hK6=>?_
  refine Ab ?_
  simp (disch:=omega) only [amL,amT,sA,sF,↓reduceIte,reduceCtorEq]
  refine hK6 _ ?_
  refine Ag rfl (fun h=>?_) (fun h=>?_)
  ·first
   | exact Bool.noConfusion h
   |skip
    try simp only [decide_eq_true_eq] at h
    refine Ah ?_
    refine hK5 _ ?_
    refine Aa fun K7 hK7=>?_
    refine Ak ?_
    refine Aa fun K8 hK8=>?_
    refine Ab ?_
    have hk2:k < b.vs.length:=by omega
    obtain ⟨hp1,hp2,_⟩:=Cp (hv.ves hk2)
    have y1:=Co hp1
    have y2:=Co hp2
    simp (disch:=omega) only [A0,amL,amT,sA,sB,sE,sF,↓reduceIte,reduceCtorEq]
    repeat' first | (refine Cn (fun h=>?_) (fun h=>?_) <;> simp (disch:=omega) only [h,A0,amL,amT,sA,sB,sE,sF,↓reduceIte,reduceCtorEq]) | (refine Bo (fun h=>?_) (fun h=>?_) <;> simp (disch:=omega) only [h,A0,amL,amT,sA,sB,sC,sD,sE,sF,sG,sH,sI,sJ,sK,sL,sM,sN,sO,↓reduceIte,reduceCtorEq]) | (refine Al (by kernel_rfl) rfl (by first | exact Px (b.vs.getD k default).g (by omega) (by omega) | exact Px (b.vs.getD k default).d (by omega) (by omega)) (by first | exact .inl rfl | exact .inr (.inl rfl)) ?_ ; simp (disch:=omega) only [amL,amT,sA,sF,↓reduceIte])
    all_goals
     skip
     refine hK8 _ ?_
     refine Ag rfl (fun h=>?_) (fun h=>?_)
     ·first
      | exact Bool.noConfusion h
      |skip
       try simp only [decide_eq_true_eq] at h
       refine Aa fun K9 hK9=>?_
       refine Ab ?_
       simp (disch:=omega) only [amL,sA]
       refine hK9 _ ?_
       refine Ae ?_
       try simp (disch:=omega) only [amL,↓reduceIte]
       all_goals first | (rw [Lf,Y2 (by omega) hpre]; done) | (rw [Lf,D7 (d:=default) (k:=k) (by omega) (by simp only [*,decide_true,Bool.true_or,Bool.or_true,Bool.not_true])]; done) | trace_state
     ·first
      | exact Bool.noConfusion h
      |skip
       try simp only [decide_eq_false_iff_not] at h
       refine Ah ?_
       refine hK7 _ ?_
       refine Ab ?_
       simp (disch:=omega) only [amL,amT,sA,sF,↓reduceIte]
       refine hK4 (k+1) _ ?_ ?_ (B0 ?_ ?_ ?_ ?_)
       all_goals (try simp (disch:=omega) only [amL,sF,↓reduceIte])
       all_goals first | omega | exact ⟨by omega,Zn (d:=default) (by omega) hpre (by simp only [*,decide_false,Bool.or_self,Bool.not_false])⟩ | trace_state
  ·first
   | exact Bool.noConfusion h
   |skip
    try simp only [decide_eq_false_iff_not] at h
    refine Bc ?_
    refine hK2 _ ?_
    refine Aa fun K10 hK10=>?_
    refine Ab ?_
    simp (disch:=omega) only [amL,sA]
    refine hK10 _ ?_
    refine Ae ?_
    try simp (disch:=omega) only [amL,↓reduceIte]
    all_goals first | (rw [Lf,Y2 (by omega) hpre]; done) | (rw [Lf,D7 (d:=default) (k:=k) (by omega) (by simp only [*,decide_true,Bool.true_or,Bool.or_true,Bool.not_true])]; done) | trace_state
theorem ns_of1 {x:Bool} (h:(!x)=false):x=true:=by simpa using h
theorem enc_ne {f t k:Nat} (h:f≠t):Qc (C8 f t k)=[iv 0,iv (f:Int),iv (t:Int),iv ((k:Int)+1),iv ((k:Int)+1)]:=by unfold C8; rw [if_pos h]
theorem enc_eq {f t k:Nat} (h:f=t):Qc (C8 f t k)=[iv 1,iv (f:Int),iv (t:Int),iv ((k:Int)+1),iv ((k:Int)+1)]:=by unfold C8; rw [if_neg (by omega)]
theorem planAV_isP (r:Option (List Liq × Bool)):(planAV r).isP=true:=by unfold planAV; split <;> rfl
theorem c_risplan (b:Cx) (l:List Stp) (hv:Ja b) (hl:l.length < 1000000):Bj Tryz.prog 38 [avB b,.p (slS l)] (planAV (planI b.vs (Nq b.vs (nthX b 0).g (nthX b 0).d,Zg b.vs (nthX b 0).g) l)):=by
  refine A7 (v:=[]) (q:=[]) (N:=65) (rs:=[.tmp 4,.tmp 5]) Tryz.func38 rfl rfl rfl rfl (planAV_isP _) ?_
  have hnv:=hv.nv
  have hl0:=nth_listed hv 0
  have ho0:=Y6 hv hl0
  refine Aa fun K1 hK1=>?_
  refine Ab ?_
  simp (disch:=omega) only [amL,sA,sB,↓reduceIte]
  refine hK1 _ ?_
  refine Aa fun K2 hK2=>?_
  refine Bg (by kernel_rfl) (by kernel_rfl) ?_
  simp (disch:=omega) only [amL,amT,sA,sB,sF,↓reduceIte]
  repeat' first | (refine Al (by kernel_rfl) rfl (c_rnth b 0 hv (by omega) (by omega)) (by first | exact .inl rfl | exact .inr (.inl rfl)) ?_ ; simp (disch:=omega) only [amL,sF,↓reduceIte]) | (refine Al (by kernel_rfl) rfl (Aqt b (nthX b 0) hv hl0) (by first | exact .inl rfl | exact .inr (.inl rfl)) ?_ ; simp (disch:=omega) only [amL,sA,sF,↓reduceIte])
  refine hK2 _ ?_
  refine Aa fun K3 hK3=>?_
  refine Aa fun K4 hK4=>?_
  refine Ab ?_
  simp (disch:=omega) only [amL,sA]
  refine hK4 _ ?_
  refine Ak ?_
  skip
  refine A5 (α:=Nat × (List Liq × Bool)) (fun x=>⟨T [(1,.p (slS l)),(2,.ptr 2 0),(4,Dk),(5,bl false),(6,.p (.sl (stL x.2.1))),(7,bl x.2.2),(8,i64 (x.1:Int))],O [(2,.cells (cB b))]⟩) (fun x=>l.length - x.1) (fun x=>x.1≤l.length∧OkN b.vs.length x.2.1∧(x.2.2=true→Vl b.vs x.2.1)∧planI b.vs x.2 (l.drop x.1)=planI b.vs (Nq b.vs (nthX b 0).g (nthX b 0).d,Zg b.vs (nthX b 0).g) l) (0,(Nq b.vs (nthX b 0).g (nthX b 0).d,Zg b.vs (nthX b 0).g)) ?_ ?_ (fun x hx5 K5 hK5=>?_)
  · exact ⟨Nat.zero_le _,ho0,Ad8,rfl⟩
  · refine B0 ?_ ?_ ?_ ?_ <;> (try simp (disch:=omega) only [amL,sF,↓reduceIte,reduceCtorEq]); all_goals first | rfl | trace_state
  obtain ⟨i,v,is⟩:=x; dsimp only at hx5 ⊢; obtain ⟨hi,ho,hr,hp⟩:=hx5
  refine Aa fun K6 hK6=>?_
  refine Aa fun K7 hK7=>?_
  refine Ab ?_
  simp (disch:=omega) only [amL,amT,sA,sF,↓reduceIte]
  repeat' first | (refine Cn (fun h=>?_) (fun h=>?_) <;> simp (disch:=omega) only [h,amL,sA,sF,↓reduceIte]) | (refine Bo (fun h=>?_) (fun h=>?_) <;> simp (disch:=omega) only [h,Eu,ne_eq,amL,amT,sA,sB,sC,sD,sE,sF,sG,sH,sI,sJ,sK,sL,sM,sN,sO,↓reduceIte,reduceCtorEq])
  all_goals
   skip
   refine hK7 _ ?_
   refine Ag rfl (fun h=>?_) (fun h=>?_)
   ·first
    | exact Bool.noConfusion h
    |skip
     try simp only [Bool.not_eq_true',decide_eq_true_eq,decide_eq_false_iff_not,Bool.and_eq_true,Bool.not_eq_false',Bool.not_not,decide_not,Bool.not_true,Bool.not_false] at h
     refine Ah ?_
     refine hK6 _ ?_
     refine Aa fun K8 hK8=>?_
     refine Ak ?_
     refine Aa fun K9 hK9=>?_
     refine Ab ?_
     simp (disch:=omega) only [Eu,amL,amT,sA,sB,sF,↓reduceIte]
     refine hK9 _ ?_
     refine Aa fun K10 hK10=>?_
     refine Aa fun K11 hK11=>?_
     refine Ab ?_
     simp (disch:=omega) only [amL,amT,sA,sB,sF,↓reduceIte,reduceCtorEq]
     repeat' first | (refine Cn (fun h=>?_) (fun h=>?_) <;> simp (disch:=omega) only [h,amL,amT,sA,sB,sF,↓reduceIte,reduceCtorEq]) | (refine Bo (fun h=>?_) (fun h=>?_) <;> simp (disch:=omega) only [h,amL,amT,sA,sF,↓reduceIte,reduceCtorEq]) | (refine Al (by kernel_rfl) rfl (Baj (l.getD i default) b.vs.length (by omega)) (by first | exact .inl rfl | exact .inr (.inl rfl)) ?_ ; simp (disch:=omega) only [amL,sA,↓reduceIte]) | (refine Al (by kernel_rfl) rfl (Px (l.getD i default).g (by have:=Co (Cd (ns_of1 (by assumption:(!Dm (b.vs.length:Int) (l.getD i default))=false))).2.2.2.2; omega) (by have:=Co (Cd (ns_of1 (by assumption:(!Dm (b.vs.length:Int) (l.getD i default))=false))).2.2.2.2; omega)) (by first | exact .inl rfl | exact .inr (.inl rfl)) ?_ ; simp (disch:=omega) only [amL,amT,sA,sF,↓reduceIte])
     all_goals
      skip
      refine hK11 _ ?_
      refine Ag rfl (fun h=>?_) (fun h=>?_)
      ·first
       | exact Bool.noConfusion h
       |skip
        try simp only [decide_eq_true_eq] at h
        refine Aa fun K12 hK12=>?_
        refine Ab ?_
        simp (disch:=omega) only [amL,sA]
        refine hK12 _ ?_
        refine Ae ?_
        try simp (disch:=omega) only [amL,sF,↓reduceIte]
        all_goals first | (rw [planI_end (by first | exact .inl (by omega) | exact .inr (by assumption)) hp]; rfl) | ((obtain rfl:is=true:=by assumption) ; rw [planI_bad (v:=v) (by omega) (by first | (simp_all [planOk]; done) | fail) hp] ; rfl) | trace_state
      ·first
       | exact Bool.noConfusion h
       |skip
        try simp only [decide_eq_false_iff_not] at h
        refine Ah ?_
        refine hK10 _ ?_
        refine Ab ?_
        have his:is=true:=by first | assumption
        obtain ⟨hst,hk2,hsz,hlo⟩:=planOk_parts (n:=b.vs.length) (s:=l.getD i default) (by first | (simp_all [planOk]; done) | fail)
        have y5:=Co (Cd hst).2.2.2.2
        have hmk:0≤(l.getD i default).g.lo∧(l.getD i default).g.lo≤60:=by omega
        simp (disch:=omega) only [amL,amT,sA,sB,sF,↓reduceIte,reduceCtorEq]
        repeat' first | (refine Al (by kernel_rfl) rfl (Bck b v (l.getD i default) (l.getD i default).g.lo hv ho (hr his) hst hmk) (by first | exact .inl rfl | exact .inr (.inl rfl)) ?_ ; simp (disch:=omega) only [amL,sA,sF,↓reduceIte])
        refine hK8 _ ?_
        refine Ab ?_
        simp (disch:=omega) only [amL,amT,sA,sF,↓reduceIte]
        refine hK5 (i+1,doX b.vs v (l.getD i default) (l.getD i default).g.lo) _ ?_ ?_ (B0 ?_ ?_ ?_ ?_)
        all_goals (try simp (disch:=omega) only [amL,sF,↓reduceIte])
        all_goals first | omega | (subst his ; exact ⟨by omega,Baa ho hnv hv.v hst hmk.1,fun _=>Aor (hr rfl) hst hmk.1 (ho.len hnv),planI_step (by omega) (by simp only [planOk,hst,hk2,hsz,hlo,decide_false,Bool.not_false,Bool.and_self]) hp⟩) | trace_state
   ·first
    | exact Bool.noConfusion h
    |skip
     try simp only [] at h
     refine Bc ?_
     refine hK3 _ ?_
     refine Aa fun K13 hK13=>?_
     refine Ab ?_
     simp (disch:=omega) only [amL,sA,sF,↓reduceIte]
     refine hK13 _ ?_
     refine Ae ?_
     try simp (disch:=omega) only [amL,sF,↓reduceIte]
     all_goals first | (rw [planI_end (by first | exact .inl (by omega) | exact .inr (by assumption)) hp]; rfl) | ((obtain rfl:is=true:=by assumption) ; rw [planI_bad (v:=v) (by omega) (by first | (simp_all [planOk]; done) | fail) hp] ; rfl) | trace_state
theorem c_rone (b:Cx) (m:Nat) (hv:Ja b) (hm:m≤60):Bj Tryz.prog 91 [avB b,i64 (m:Int)] (.p (slS (oneL b.vs.length m))):=by
  refine A7 (v:=[]) (q:=[]) (N:=43) (rs:=[.tmp 4]) Tryz.func91 rfl rfl rfl rfl rfl ?_
  have hnv:=hv.nv
  refine Aa fun K1 hK1=>?_
  refine Ab ?_
  simp (disch:=omega) only [amL,sA,sB,↓reduceIte]
  refine hK1 _ ?_
  refine Aa fun K2 hK2=>?_
  refine Ab ?_
  simp (disch:=omega) only [amL,sA]
  refine hK2 _ ?_
  refine Aa fun K3 hK3=>?_
  refine Aa fun K4 hK4=>?_
  refine Ab ?_
  simp (disch:=omega) only [amL,sA]
  refine hK4 _ ?_
  refine Ak ?_
  refine He 41 5 5 (by decide) rfl rfl ?_
  refine A5 (α:=Nat) (fun f=>⟨T [(1,i64 (m:Int)),(2,.ptr 2 0),(5,.own 41 (preO b.vs.length m f).length),(6,i64 (f:Int))],O [(2,.cells (cB b)),(41,.arr 5 ((preO b.vs.length m f).map Qc))]⟩) (fun f=>b.vs.length - f) (fun f=>f≤b.vs.length) 0 ?_ ?_ (fun f hx5 K5 hK5=>?_)
  · exact Nat.zero_le _
  · refine B0 ?_ ?_ ?_ ?_ <;> (try simp (disch:=omega) only [amL,sF,sG,↓reduceIte,reduceCtorEq]); all_goals first | rfl | trace_state
  have hf:=hx5
  refine Aa fun K6 hK6=>?_
  refine Aa fun K7 hK7=>?_
  refine Ab ?_
  simp (disch:=omega) only [amL,amT,sA,sF,↓reduceIte,reduceCtorEq]
  refine hK7 _ ?_
  refine Ag rfl (fun h=>?_) (fun h=>?_)
  ·first
   | exact Bool.noConfusion h
   |skip
    try simp only [decide_eq_true_eq] at h
    refine Ah ?_
    refine hK6 _ ?_
    refine Aa fun K8 hK8=>?_
    refine Ak ?_
    refine Aa fun K9 hK9=>?_
    refine Ab ?_
    simp (disch:=omega) only [amL,sA]
    refine hK9 _ ?_
    refine Ak ?_
    skip
    refine A5 (α:=Nat) (fun t=>⟨T [(1,i64 (m:Int)),(2,.ptr 2 0),(5,.own 41 (preO b.vs.length m f++colO b.vs.length f m t).length),(6,i64 (f:Int)),(7,i64 (t:Int))],O [(2,.cells (cB b)),(41,.arr 5 ((preO b.vs.length m f++colO b.vs.length f m t).map Qc))]⟩) (fun t=>b.vs.length - t) (fun t=>t≤b.vs.length) 0 ?_ ?_ (fun t hx10 K10 hK10=>?_)
    · exact Nat.zero_le _
    · refine B0 ?_ ?_ ?_ ?_ <;> (try simp (disch:=omega) only [amL,sF,sG,↓reduceIte]); all_goals first | rfl | (simp [colO]; done) | trace_state
    have ht:=hx10
    refine Aa fun K11 hK11=>?_
    refine Aa fun K12 hK12=>?_
    refine Ab ?_
    simp (disch:=omega) only [amL,amT,sA,sF,↓reduceIte,reduceCtorEq]
    refine hK12 _ ?_
    refine Ag rfl (fun h=>?_) (fun h=>?_)
    ·first
     | exact Bool.noConfusion h
     |skip
      try simp only [decide_eq_true_eq] at h
      refine Ah ?_
      refine hK11 _ ?_
      refine Aa fun K13 hK13=>?_
      refine Ak ?_
      refine Aa fun K14 hK14=>?_
      refine Ab ?_
      simp (disch:=omega) only [amL,sA]
      refine hK14 _ ?_
      refine Ak ?_
      skip
      refine A5 (α:=Nat) (fun k=>⟨T [(1,i64 (m:Int)),(2,.ptr 2 0),(5,.own 41 (preO b.vs.length m f++colO b.vs.length f m t++rowO f t k).length),(6,i64 (f:Int)),(7,i64 (t:Int)),(8,i64 ((k:Int)+1))],O [(2,.cells (cB b)),(41,.arr 5 ((preO b.vs.length m f++colO b.vs.length f m t++rowO f t k).map Qc))]⟩) (fun k=>m - k) (fun k=>k≤m) 0 ?_ ?_ (fun k hx15 K15 hK15=>?_)
      · exact Nat.zero_le _
      · refine B0 ?_ ?_ ?_ ?_ <;> (try simp (disch:=omega) only [amL,sF,sG,sH,↓reduceIte]); all_goals first | rfl | (simp [rowO]; done) | trace_state
      have hk:=hx15
      refine Aa fun K16 hK16=>?_
      refine Aa fun K17 hK17=>?_
      refine Ab ?_
      simp (disch:=omega) only [amL,amT,sA,sF,↓reduceIte]
      refine hK17 _ ?_
      refine Ag rfl (fun h=>?_) (fun h=>?_)
      ·first
       | exact Bool.noConfusion h
       |skip
        try simp only [decide_eq_true_eq] at h
        refine Ah ?_
        refine hK16 _ ?_
        refine Aa fun K18 hK18=>?_
        refine Ak ?_
        refine Aa fun K19 hK19=>?_
        refine Ab ?_
        simp (disch:=omega) only [amL,sA]
        refine hK19 _ ?_
        refine Aa fun K20 hK20=>?_
        refine Aa fun K21 hK21=>?_
        refine Ab ?_
        simp (disch:=omega) only [amL,amT,sA,sF,↓reduceIte]
        refine hK21 _ ?_
        refine Ag rfl (fun h=>?_) (fun h=>?_)
        ·first
         | exact Bool.noConfusion h
         |skip
          try simp only [decide_eq_true_eq] at h
          refine Ab ?_
          simp (disch:=omega) only [amL,sA]
          refine hK20 _ ?_
          refine Ab ?_
          have l1:=pre_le (n:=b.vs.length) (f:=f) (m:=m) hnv (by omega) hm
          have l2:=col_le (n:=b.vs.length) (f:=f) (m:=m) (t:=t) (by omega) hm
          have l3:=row_len f t k
          have l4:(preO b.vs.length m f++colO b.vs.length f m t++rowO f t k).length≤2000:=by rw [List.length_append,List.length_append]; omega
          simp (disch:=omega) only [amL,amT,sA,sB,sC,sE,sF,↓reduceIte,reduceCtorEq]
          refine hK18 _ ?_
          refine Ab ?_
          simp (disch:=omega) only [amL,amT,sA,sF,↓reduceIte]
          refine hK15 (k+1) _ ?_ ?_ (B0 ?_ ?_ ?_ ?_)
          all_goals (try simp (disch:=omega) only [amL,sF,sG,↓reduceIte])
          all_goals first | omega | exact congrArg (AV.own 41) (by rw [List.length_append,List.length_append,List.length_append,List.length_append,row_len,row_len]; omega) | exact congrArg (AO.arr 5) (by rw [row_succ,← List.append_assoc,List.map_append (l₂:=[_]),List.map_cons,List.map_nil,enc_ne (by omega)]) | exact congrArg (AO.arr 5) (by rw [row_succ,← List.append_assoc,List.map_append (l₂:=[_]),List.map_cons,List.map_nil,enc_eq (by omega)]) | trace_state
        ·first
         | exact Bool.noConfusion h
         |skip
          try simp only [decide_eq_false_iff_not] at h
          refine Ah ?_
          refine hK20 _ ?_
          refine Ab ?_
          have l1:=pre_le (n:=b.vs.length) (f:=f) (m:=m) hnv (by omega) hm
          have l2:=col_le (n:=b.vs.length) (f:=f) (m:=m) (t:=t) (by omega) hm
          have l3:=row_len f t k
          have l4:(preO b.vs.length m f++colO b.vs.length f m t++rowO f t k).length≤2000:=by rw [List.length_append,List.length_append]; omega
          simp (disch:=omega) only [amL,amT,sA,sB,sC,sE,sF,↓reduceIte,reduceCtorEq]
          refine hK18 _ ?_
          refine Ab ?_
          simp (disch:=omega) only [amL,amT,sA,sF,↓reduceIte]
          refine hK15 (k+1) _ ?_ ?_ (B0 ?_ ?_ ?_ ?_)
          all_goals (try simp (disch:=omega) only [amL,sF,sG,↓reduceIte])
          all_goals first | omega | exact congrArg (AV.own 41) (by rw [List.length_append,List.length_append,List.length_append,List.length_append,row_len,row_len]; omega) | exact congrArg (AO.arr 5) (by rw [row_succ,← List.append_assoc,List.map_append (l₂:=[_]),List.map_cons,List.map_nil,enc_ne (by omega)]) | exact congrArg (AO.arr 5) (by rw [row_succ,← List.append_assoc,List.map_append (l₂:=[_]),List.map_cons,List.map_nil,enc_eq (by omega)]) | trace_state
      ·first
       | exact Bool.noConfusion h
       |skip
        try simp only [decide_eq_false_iff_not] at h
        refine Bc ?_
        refine hK13 _ ?_
        refine Ab ?_
        simp (disch:=omega) only [amL,amT,sA,sF,↓reduceIte]
        refine hK10 (t+1) _ ?_ ?_ (B0 ?_ ?_ ?_ ?_)
        all_goals (try simp (disch:=omega) only [amL,sF,sG,↓reduceIte])
        all_goals first | omega | (obtain rfl:k=m:=(by omega) ; first | (rw [col_succ,List.append_assoc]; done)) | trace_state
    ·first
     | exact Bool.noConfusion h
     |skip
      try simp only [decide_eq_false_iff_not] at h
      refine Bc ?_
      refine hK8 _ ?_
      refine Ab ?_
      simp (disch:=omega) only [amL,amT,sA,sF,↓reduceIte]
      refine hK5 (f+1) _ ?_ ?_ (B0 ?_ ?_ ?_ ?_)
      all_goals (try simp (disch:=omega) only [amL,sF,sG,↓reduceIte])
      all_goals first | omega | (obtain rfl:t=b.vs.length:=(by omega) ; first | (rw [pre_succ]; done) | (rw [pre_succ]; rfl)) | trace_state
  ·first
   | exact Bool.noConfusion h
   |skip
    try simp only [decide_eq_false_iff_not] at h
    refine Bc ?_
    refine hK3 _ ?_
    refine Aa fun K22 hK22=>?_
    refine Ab ?_
    simp (disch:=omega) only [amL,sA,sF,↓reduceIte]
    refine hK22 _ ?_
    refine Ae ?_
    try simp (disch:=omega) only [amL,sF,↓reduceIte]
    (obtain rfl:f=b.vs.length:=by omega) ; rw [List.take_of_length_le (by simp)] ; rfl
theorem c_rfewest (b:Cx) (g k:Int) (hv:Ja b):Bj Tryz.prog 40 [avB b,i64 g,i64 k] (i64 (if Zg b.vs (nthX b 0).g=true then fewR b.vs g k (Nq b.vs (nthX b 0).g (nthX b 0).d) (oneL b.vs.length (maxR b.vs 0).toNat) else -1)):=by
  refine A7 (v:=[]) (q:=[]) (N:=112) (rs:=[.tmp 6]) Tryz.func40 rfl rfl rfl rfl rfl ?_
  have hnv:=hv.nv
  have hl0:=nth_listed hv 0
  have ho:=Y6 hv hl0
  have hrv:=Ad8 (vs:=b.vs) (gs:=(nthX b 0).g) (ds:=(nthX b 0).d)
  obtain ⟨v,hvd⟩:∃ v,v=Nq b.vs (nthX b 0).g (nthX b 0).d:=⟨_,rfl⟩
  have hbg:=Aqt b (nthX b 0) hv hl0
  rw [← hvd] at ho hrv hbg ⊢
  have hvl:=ho.len hnv
  have hm1:=max_ge (vs:=b.vs) (a:=0)
  have hm2:=max_le (vs:=b.vs) (a:=0) (by omega) hv.v
  have hmn:((maxR b.vs 0).toNat:Int)=maxR b.vs 0:=by omega
  have hon:=c_rone b (maxR b.vs 0).toNat hv (by omega)
  rw [hmn] at hon
  obtain ⟨L,hL⟩:∃ L,L=oneL b.vs.length (maxR b.vs 0).toNat:=⟨_,rfl⟩
  have hLl:L.length≤960:=by rw [hL]; exact pre_le hnv hnv (by omega)
  have hLs:∀ i,i < L.length→Dm b.vs.length (L.getD i default)=true∧0≤(L.getD i default).g.lo∧(L.getD i default).g.lo≤60:=fun i hi=>by
    have hmem:L.getD i default ∈ L:=AM.Wort.Em default hi
    rw [hL] at hmem
    obtain ⟨f,t,j,hf,ht,hj,e⟩:=one_mem.1 hmem
    rw [← hL] at e
    rw [e]
    exact ⟨(planOk_parts (step_ok hf ht (by omega))).1,by show 0≤(j:Int)+1; omega,by show (j:Int)+1≤60; omega⟩
  rw [← hL] at hon ⊢
  refine Aa fun K1 hK1=>?_
  refine Ab ?_
  simp (disch:=omega) only [amL,sA,sB,sM,↓reduceIte]
  refine hK1 _ ?_
  refine Aa fun K2 hK2=>?_
  refine Bg (by kernel_rfl) (by kernel_rfl) ?_
  simp (disch:=omega) only [amL,amT,sA,sB,sF,sM,↓reduceIte]
  repeat' first | (refine Al (by kernel_rfl) rfl (c_rnth b 0 hv (by omega) (by omega)) (by first | exact .inl rfl | exact .inr (.inl rfl)) ?_ ; simp (disch:=omega) only [amL,sF,sM,↓reduceIte]) | (refine Al (by kernel_rfl) rfl (hbg) (by first | exact .inl rfl | exact .inr (.inl rfl)) ?_ ; simp (disch:=omega) only [amL,sA,sF,sM,↓reduceIte])
  refine hK2 _ ?_
  refine Aa fun K3 hK3=>?_
  refine Aa fun K4 hK4=>?_
  refine Ab ?_
  simp (disch:=omega) only [amL,sA,sM,↓reduceIte]
  refine hK4 _ ?_
  refine Ag rfl (fun h=>?_) (fun h=>?_)
  ·first
   | exact Bool.noConfusion h
   |skip
    try simp only [Bool.not_eq_true'] at h
    refine Aa fun K5 hK5=>?_
    refine Ab ?_
    simp (disch:=omega) only [amL,sA,sM]
    refine hK5 _ ?_
    refine Ae ?_
    try simp (disch:=omega) only [amL,sM,↓reduceIte]
    all_goals first | (rw [if_pos (by assumption),few_0 (by assumption)]; done) | (rw [if_pos (by assumption),few_1 (i:=i) (by assumption) (by omega) (ok1_t (by assumption) (by assumption))]; done) | (rw [if_pos (by assumption),few_b (i:=i) (by assumption) (by omega) hn1 hB]; done) | (rw [if_neg (by simp only [*,Bool.false_eq_true,not_false_eq_true])]; done) | (rw [few_0 (by assumption)]; done) | (rw [few_1 (i:=i) (by assumption) (by omega) (ok1_t (by assumption) (by assumption))]; done) | (rw [few_b (i:=i) (by assumption) (by omega) hn1 hB]; done) | trace_state
  ·first
   | exact Bool.noConfusion h
   |skip
    try simp only [Bool.not_eq_false'] at h
    refine Ah ?_
    refine hK3 _ ?_
    refine Aa fun K6 hK6=>?_
    refine Aa fun K7 hK7=>?_
    refine Ab ?_
    simp (disch:=omega) only [amL,sA,sF,sM,↓reduceIte,reduceCtorEq]
    repeat' first | (refine Al (by kernel_rfl) rfl (by first | exact c_rhas v g k (by omega) | exact c_rhas _ g k (by omega) | exact c_rhas _ g k (by have:=(Baa hw0 hnv hv.v hs2.1 hs2.2.1).len hnv; omega)) (by first | exact .inl rfl | exact .inr (.inl rfl)) ?_ ; simp (disch:=omega) only [amL])
    refine hK7 _ ?_
    refine Ag rfl (fun h=>?_) (fun h=>?_)
    ·first
     | exact Bool.noConfusion h
     |skip
      try simp only [Bool.not_eq_true',decide_eq_true_eq,decide_eq_false_iff_not,Bool.and_eq_true,Bool.not_eq_false',Bool.not_not,decide_not,Bool.not_true,Bool.not_false] at h
      refine Aa fun K8 hK8=>?_
      refine Ab ?_
      simp (disch:=omega) only [amL,sA,sM]
      refine hK8 _ ?_
      refine Ae ?_
      try simp (disch:=omega) only [amL,sM,↓reduceIte]
      all_goals first | (rw [if_pos (by assumption),few_0 (by assumption)]; done) | (rw [if_pos (by assumption),few_1 (i:=i) (by assumption) (by omega) (ok1_t (by assumption) (by assumption))]; done) | (rw [if_pos (by assumption),few_b (i:=i) (by assumption) (by omega) hn1 hB]; done) | (rw [if_neg (by simp only [*,Bool.false_eq_true,not_false_eq_true])]; done) | (rw [few_0 (by assumption)]; done) | (rw [few_1 (i:=i) (by assumption) (by omega) (ok1_t (by assumption) (by assumption))]; done) | (rw [few_b (i:=i) (by assumption) (by omega) hn1 hB]; done) | trace_state
    ·first
     | exact Bool.noConfusion h
     |skip
      try simp only [Bool.not_eq_true',decide_eq_true_eq,decide_eq_false_iff_not,Bool.and_eq_true,Bool.not_eq_false',Bool.not_not,decide_not,Bool.not_true,Bool.not_false] at h
      refine Ah ?_
      refine hK6 _ ?_
      refine Aa fun K9 hK9=>?_
      refine Ab ?_
      simp (disch:=omega) only [amL,sA,sM]
      refine hK9 _ ?_
      refine Aa fun K10 hK10=>?_
      refine Aa fun K11 hK11=>?_
      refine Ab ?_
      simp (disch:=omega) only [amL,sA,sM]
      refine hK11 _ ?_
      refine Ak ?_
      skip
      refine A5 (α:=Nat × Int) (fun x=>⟨T [(1,i64 g),(2,i64 k),(3,.ptr 3 0),(7,.p (.sl (stL v))),(9,i64 x.2),(10,i64 (x.1:Int))],O [(3,.cells (cB b))]⟩) (fun x=>b.vs.length - x.1) (fun x=>x.1≤b.vs.length∧maxR (b.vs.drop x.1) x.2=maxR b.vs 0) (0,0) ?_ ?_ (fun x hx12 K12 hK12=>?_)
      · exact ⟨Nat.zero_le _,rfl⟩
      · refine B0 ?_ ?_ ?_ ?_ <;> (try simp (disch:=omega) only [amL,sF,↓reduceIte,reduceCtorEq]); all_goals first | rfl | trace_state
      obtain ⟨q,mx⟩:=x; dsimp only at hx12 ⊢; obtain ⟨hq,hmx⟩:=hx12
      refine Aa fun K13 hK13=>?_
      refine Aa fun K14 hK14=>?_
      refine Ab ?_
      simp (disch:=omega) only [amL,amT,sA,sF,sM,↓reduceIte,reduceCtorEq]
      refine hK14 _ ?_
      refine Ag rfl (fun h=>?_) (fun h=>?_)
      ·first
       | exact Bool.noConfusion h
       |skip
        try simp only [decide_eq_true_eq] at h
        refine Ah ?_
        refine hK13 _ ?_
        refine Aa fun K15 hK15=>?_
        refine Ak ?_
        refine Ab ?_
        simp (disch:=omega) only [A0,amL,amT,sA,sB,sF,sM,↓reduceIte,reduceCtorEq]
        refine hK15 _ ?_
        refine Ab ?_
        simp (disch:=omega) only [amL,amT,sA,sF,sM,↓reduceIte]
        refine hK12 (q+1,if mx < (b.vs.getD q default).room then (b.vs.getD q default).room else mx) _ ?_ ?_ (B0 ?_ ?_ ?_ ?_)
        all_goals (try simp (disch:=omega) only [amL,sF,↓reduceIte])
        all_goals first | omega | exact ⟨by omega,max_step (by omega) hmx⟩ | trace_state
      ·first
       | exact Bool.noConfusion h
       |skip
        try simp only [decide_eq_false_iff_not] at h
        refine Bc ?_
        refine hK10 _ ?_
        refine Aa fun K16 hK16=>?_
        refine Ab ?_
        have hmr:maxR b.vs 0=mx:=max_end (by omega) hmx
        subst hmr
        simp (disch:=omega) only [amL,amT,sA,sB,sF,sM,↓reduceIte]
        repeat' first | (refine Al (by kernel_rfl) rfl (hon) (by first | exact .inl rfl | exact .inr (.inl rfl)) ?_ ; simp (disch:=omega) only [amL,sA,↓reduceIte])
        refine hK16 _ ?_
        refine Aa fun K17 hK17=>?_
        refine Ab ?_
        simp (disch:=omega) only [amL,sA,sM]
        refine hK17 _ ?_
        refine Aa fun K18 hK18=>?_
        refine Aa fun K19 hK19=>?_
        refine Ab ?_
        simp (disch:=omega) only [amL,sA,sM]
        refine hK19 _ ?_
        refine Ak ?_
        skip
        refine A5 (α:=Nat × Bool) (fun x=>⟨T [(1,i64 g),(2,i64 k),(3,.ptr 3 0),(7,.p (.sl (stL v))),(11,.p (slS L)),(12,i64 (bst x.2)),(13,i64 (x.1:Int))],O [(3,.cells (cB b))]⟩) (fun x=>L.length - x.1) (fun x=>x.1≤L.length∧(L.take x.1).any (ok1 b.vs g k v)=false∧x.2=(L.take x.1).any (ok2 b.vs g k v L)) (0,false) ?_ ?_ (fun x hx20 K20 hK20=>?_)
        · exact ⟨Nat.zero_le _,rfl,rfl⟩
        · refine B0 ?_ ?_ ?_ ?_ <;> (try simp (disch:=omega) only [amL,sF,sM,↓reduceIte]); all_goals first | rfl | trace_state
        obtain ⟨i,B⟩:=x; dsimp only at hx20 ⊢; obtain ⟨hi,hn1,hB⟩:=hx20
        refine Aa fun K21 hK21=>?_
        refine Aa fun K22 hK22=>?_
        refine Ab ?_
        simp (disch:=omega) only [amL,amT,sA,sF,sM,↓reduceIte]
        refine hK22 _ ?_
        refine Ag rfl (fun h=>?_) (fun h=>?_)
        ·first
         | exact Bool.noConfusion h
         |skip
          try simp only [decide_eq_true_eq] at h
          refine Ah ?_
          refine hK21 _ ?_
          refine Aa fun K23 hK23=>?_
          refine Ak ?_
          refine Aa fun K24 hK24=>?_
          refine Bg (by kernel_rfl) (by kernel_rfl) ?_
          have hs1:=hLs i (by omega)
          have hw0:=Baa ho hnv hv.v hs1.1 hs1.2.1
          have hwl:=hw0.len hnv
          have hwr:=Aor (hrv (by assumption)) hs1.1 hs1.2.1 hvl
          simp (disch:=omega) only [Eu,amL,amT,sA,sB,sF,sM,↓reduceIte,reduceCtorEq]
          repeat' first | (refine Al (by kernel_rfl) rfl (by first | exact Bck b v (L.getD i default) (L.getD i default).g.lo hv ho (hrv (by assumption)) hs1.1 hs1.2 | exact Bck b (doX b.vs v (L.getD i default) (L.getD i default).g.lo).1 (L.getD j default) (L.getD j default).g.lo hv hw0 hwr hs2.1 hs2.2) (by first | exact .inl rfl | exact .inr (.inl rfl)) ?_ ; simp (disch:=omega) only [amL,sA,sF,↓reduceIte])
          refine hK24 _ ?_
          refine Aa fun K25 hK25=>?_
          refine Aa fun K26 hK26=>?_
          refine Ab ?_
          simp (disch:=omega) only [amL,sA,sM,↓reduceIte]
          refine hK26 _ ?_
          refine Ag rfl (fun h=>?_) (fun h=>?_)
          ·first
           | exact Bool.noConfusion h
           |skip
            try simp only [Bool.not_eq_true'] at h
            refine Bc ?_
            refine hK23 _ ?_
            refine Ab ?_
            simp (disch:=omega) only [amL,amT,sA,sF,sM,↓reduceIte]
            refine hK20 (i+1,B||ok2 b.vs g k v L (L.getD i default)) _ ?_ ?_ (B0 ?_ ?_ ?_ ?_)
            all_goals (try simp (disch:=omega) only [amL,sF,↓reduceIte])
            all_goals first | omega | exact outer_step (by omega) hn1 hB (by first | exact ok1_f1 (by assumption) | exact ok1_f2 (by assumption)) | (rw [ok2_no (by assumption),Bool.or_false]; done) | (rw [ok2_go (by assumption),← inner_end hC (by first | exact .inl (by omega) | exact .inr (by assumption))]; done) | trace_state
          ·first
           | exact Bool.noConfusion h
           |skip
            try simp only [Bool.not_eq_false'] at h
            refine Ah ?_
            refine hK25 _ ?_
            refine Aa fun K27 hK27=>?_
            refine Aa fun K28 hK28=>?_
            refine Ab ?_
            simp (disch:=omega) only [amL,sA,sF,sM,↓reduceIte]
            repeat' first | (refine Al (by kernel_rfl) rfl (by first | exact c_rhas v g k (by omega) | exact c_rhas _ g k (by omega) | exact c_rhas _ g k (by have:=(Baa hw0 hnv hv.v hs2.1 hs2.2.1).len hnv; omega)) (by first | exact .inl rfl | exact .inr (.inl rfl)) ?_ ; simp (disch:=omega) only [amL])
            refine hK28 _ ?_
            refine Ag rfl (fun h=>?_) (fun h=>?_)
            ·first
             | exact Bool.noConfusion h
             |skip
              try simp only [Bool.not_eq_true',decide_eq_true_eq,decide_eq_false_iff_not,Bool.and_eq_true,Bool.not_eq_false',Bool.not_not,decide_not,Bool.not_true,Bool.not_false] at h
              refine Aa fun K29 hK29=>?_
              refine Ab ?_
              simp (disch:=omega) only [amL,sA,sM]
              refine hK29 _ ?_
              refine Ae ?_
              try simp (disch:=omega) only [amL,sM,↓reduceIte]
              all_goals first | (rw [if_pos (by assumption),few_0 (by assumption)]; done) | (rw [if_pos (by assumption),few_1 (i:=i) (by assumption) (by omega) (ok1_t (by assumption) (by assumption))]; done) | (rw [if_pos (by assumption),few_b (i:=i) (by assumption) (by omega) hn1 hB]; done) | (rw [if_neg (by simp only [*,Bool.false_eq_true,not_false_eq_true])]; done) | (rw [few_0 (by assumption)]; done) | (rw [few_1 (i:=i) (by assumption) (by omega) (ok1_t (by assumption) (by assumption))]; done) | (rw [few_b (i:=i) (by assumption) (by omega) hn1 hB]; done) | trace_state
            ·first
             | exact Bool.noConfusion h
             |skip
              try simp only [Bool.not_eq_true',decide_eq_true_eq,decide_eq_false_iff_not,Bool.and_eq_true,Bool.not_eq_false',Bool.not_not,decide_not,Bool.not_true,Bool.not_false] at h
              refine Ah ?_
              refine hK27 _ ?_
              refine Aa fun K30 hK30=>?_
              refine Ab ?_
              simp (disch:=omega) only [amL,sA,sM]
              refine hK30 _ ?_
              refine Ak ?_
              skip
              refine A5 (α:=Nat × Bool) (fun x=>⟨T [(1,i64 g),(2,i64 k),(3,.ptr 3 0),(7,.p (.sl (stL v))),(11,.p (slS L)),(12,i64 (bst x.2)),(13,i64 (i:Int)),(14,.p (.sl (stL (doX b.vs v (L.getD i default) (L.getD i default).g.lo).1))),(16,i64 (x.1:Int))],O [(3,.cells (cB b))]⟩) (fun x=>L.length - x.1) (fun x=>x.1≤L.length∧x.2=(B||(L.take x.1).any (ok1 b.vs g k (doX b.vs v (L.getD i default) (L.getD i default).g.lo).1))) (0,B) ?_ ?_ (fun x hx31 K31 hK31=>?_)
              · exact ⟨Nat.zero_le _,by simp⟩
              · refine B0 ?_ ?_ ?_ ?_ <;> (try simp (disch:=omega) only [amL,sF,↓reduceIte]); all_goals first | rfl | trace_state
              obtain ⟨j,C⟩:=x; dsimp only at hx31 ⊢; obtain ⟨hj,hC⟩:=hx31
              refine Aa fun K32 hK32=>?_
              refine Aa fun K33 hK33=>?_
              refine Ab ?_
              simp (disch:=omega) only [amL,amT,sA,sF,sM,↓reduceIte]
              repeat' first | (refine Cn (fun h=>?_) (fun h=>?_) <;> simp (disch:=omega) only [h,bst_lt,amL,amT,sA,sF,↓reduceIte]) | (refine Bo (fun h=>?_) (fun h=>?_) <;> simp (disch:=omega) only [h,A0,Eu,ne_eq,bst_lt,amL,amT,sA,sB,sC,sD,sE,sF,sG,sH,sI,sJ,sK,sL,sM,sN,sO,↓reduceIte,reduceCtorEq])
              all_goals
               skip
               refine hK33 _ ?_
               refine Ag rfl (fun h=>?_) (fun h=>?_)
               ·first
                | exact Bool.noConfusion h
                |skip
                 try simp only [Bool.not_eq_true'] at h
                 refine Ah ?_
                 refine hK32 _ ?_
                 refine Aa fun K34 hK34=>?_
                 refine Ak ?_
                 refine Aa fun K35 hK35=>?_
                 refine Bg (by kernel_rfl) (by kernel_rfl) ?_
                 have hs2:=hLs j (by omega)
                 simp (disch:=omega) only [Eu,amL,amT,sA,sB,sF,sM,↓reduceIte,reduceCtorEq]
                 repeat' first | (refine Al (by kernel_rfl) rfl (by first | exact Bck b v (L.getD i default) (L.getD i default).g.lo hv ho (hrv (by assumption)) hs1.1 hs1.2 | exact Bck b (doX b.vs v (L.getD i default) (L.getD i default).g.lo).1 (L.getD j default) (L.getD j default).g.lo hv hw0 hwr hs2.1 hs2.2) (by first | exact .inl rfl | exact .inr (.inl rfl)) ?_ ; simp (disch:=omega) only [amL,sA,sF,↓reduceIte])
                 refine hK35 _ ?_
                 refine Aa fun K36 hK36=>?_
                 refine Ab ?_
                 simp (disch:=omega) only [amL,sA,sM,↓reduceIte]
                 repeat' first | (refine Cn (fun h=>?_) (fun h=>?_) <;> simp (disch:=omega) only [h,A0,Eu,ne_eq,bst_lt,amL,amT,sA,sB,sC,sD,sE,sF,sG,sH,sI,sJ,sK,sL,sM,sN,sO,↓reduceIte,reduceCtorEq]) | (refine Bo (fun h=>?_) (fun h=>?_) <;> simp (disch:=omega) only [h,amL,sA,sF,↓reduceIte]) | (refine Al (by kernel_rfl) rfl (by first | exact c_rhas v g k (by omega) | exact c_rhas _ g k (by omega) | exact c_rhas _ g k (by have:=(Baa hw0 hnv hv.v hs2.1 hs2.2.1).len hnv; omega)) (by first | exact .inl rfl | exact .inr (.inl rfl)) ?_ ; simp (disch:=omega) only [amL,sA,sF,↓reduceIte])
                 all_goals
                  skip
                  refine hK36 _ ?_
                  refine Ag rfl (fun h=>?_) (fun h=>?_)
                  ·first
                   | exact Bool.noConfusion h
                   |skip
                    try simp only [Bool.not_eq_true',decide_eq_true_eq,decide_eq_false_iff_not,Bool.and_eq_true,Bool.not_eq_false',Bool.not_not,decide_not,Bool.not_true,Bool.not_false] at h
                    refine Ab ?_
                    simp (disch:=omega) only [amL,sA,sM]
                    refine hK34 _ ?_
                    refine Ab ?_
                    simp (disch:=omega) only [amL,amT,sA,sF,sM,↓reduceIte]
                    refine hK31 (j+1,C||ok1 b.vs g k (doX b.vs v (L.getD i default) (L.getD i default).g.lo).1 (L.getD j default)) _ ?_ ?_ (B0 ?_ ?_ ?_ ?_)
                    all_goals (try simp (disch:=omega) only [amL,sF,↓reduceIte])
                    all_goals first | omega | exact ⟨by omega,by rw [any_snoc (by omega),← Bool.or_assoc,← hC]⟩ | (rw [ok1_t (by assumption) (by assumption),Bool.or_true]; rfl) | (rw [ok1_f1 (by assumption),Bool.or_false]; done) | (rw [ok1_f2 (by assumption),Bool.or_false]; done) | trace_state
                  ·first
                   | exact Bool.noConfusion h
                   |skip
                    try simp only [] at h
                    refine Ah ?_
                    refine hK34 _ ?_
                    refine Ab ?_
                    simp (disch:=omega) only [amL,amT,sA,sF,sM,↓reduceIte]
                    refine hK31 (j+1,C||ok1 b.vs g k (doX b.vs v (L.getD i default) (L.getD i default).g.lo).1 (L.getD j default)) _ ?_ ?_ (B0 ?_ ?_ ?_ ?_)
                    all_goals (try simp (disch:=omega) only [amL,sF,↓reduceIte])
                    all_goals first | omega | exact ⟨by omega,by rw [any_snoc (by omega),← Bool.or_assoc,← hC]⟩ | (rw [ok1_t (by assumption) (by assumption),Bool.or_true]; rfl) | (rw [ok1_f1 (by assumption),Bool.or_false]; done) | (rw [ok1_f2 (by assumption),Bool.or_false]; done) | trace_state
               ·first
                | exact Bool.noConfusion h
                |skip
                 try simp only [Bool.not_eq_false'] at h
                 refine Bc ?_
                 refine hK23 _ ?_
                 refine Ab ?_
                 simp (disch:=omega) only [amL,amT,sA,sF,sM,↓reduceIte]
                 refine hK20 (i+1,B||ok2 b.vs g k v L (L.getD i default)) _ ?_ ?_ (B0 ?_ ?_ ?_ ?_)
                 all_goals (try simp (disch:=omega) only [amL,sF,↓reduceIte])
                 all_goals first | omega | exact outer_step (by omega) hn1 hB (by first | exact ok1_f1 (by assumption) | exact ok1_f2 (by assumption)) | (rw [ok2_no (by assumption),Bool.or_false]; done) | (rw [ok2_go (by assumption),← inner_end hC (by first | exact .inl (by omega) | exact .inr (by assumption))]; done) | trace_state
        ·first
         | exact Bool.noConfusion h
         |skip
          try simp only [decide_eq_false_iff_not] at h
          refine Bc ?_
          refine hK18 _ ?_
          refine Aa fun K37 hK37=>?_
          refine Ab ?_
          simp (disch:=omega) only [amL,sA,sF,sM,↓reduceIte]
          refine hK37 _ ?_
          refine Ae ?_
          try simp (disch:=omega) only [amL,sM,↓reduceIte]
          all_goals first | (rw [if_pos (by assumption),few_0 (by assumption)]; done) | (rw [if_pos (by assumption),few_1 (i:=i) (by assumption) (by omega) (ok1_t (by assumption) (by assumption))]; done) | (rw [if_pos (by assumption),few_b (i:=i) (by assumption) (by omega) hn1 hB]; done) | (rw [if_neg (by simp only [*,Bool.false_eq_true,not_false_eq_true])]; done) | (rw [few_0 (by assumption)]; done) | (rw [few_1 (i:=i) (by assumption) (by omega) (ok1_t (by assumption) (by assumption))]; done) | (rw [few_b (i:=i) (by assumption) (by omega) hn1 hB]; done) | trace_state
theorem c_lback (l:List Stp) (hl:l.length < 1000000):Bj Tryz.prog 41 [.p (slS l)] (.p (slS l)):=by
  refine A7 (v:=[]) (q:=[]) (N:=44) (rs:=[.tmp 2]) Tryz.func41 rfl rfl rfl rfl rfl ?_
  refine Aa fun K1 hK1=>?_
  refine Ab ?_
  simp (disch:=omega) only [amL,sA]
  refine hK1 _ ?_
  refine Aa fun K2 hK2=>?_
  refine Ab ?_
  simp (disch:=omega) only [amL,sA]
  refine hK2 _ ?_
  refine Aa fun K3 hK3=>?_
  refine Aa fun K4 hK4=>?_
  refine Ab ?_
  simp (disch:=omega) only [amL,sA]
  refine hK4 _ ?_
  refine Ak ?_
  refine He 42 5 3 (by decide) rfl rfl ?_
  refine A5 (α:=Nat) (fun k=>⟨T [(0,.p (slS l)),(3,.own 42 k),(4,i64 (k:Int))],O [(42,.arr 5 ((l.take k).map Qc))]⟩) (fun k=>l.length - k) (fun k=>k≤l.length) 0 ?_ ?_ (fun k hx5 K5 hK5=>?_)
  · exact Nat.zero_le _
  · refine B0 ?_ ?_ ?_ ?_ <;> (try simp (disch:=omega) only [amL,sF,↓reduceIte,reduceCtorEq]); all_goals first | rfl | trace_state
  have hk:=hx5
  refine Aa fun K6 hK6=>?_
  refine Aa fun K7 hK7=>?_
  refine Ab ?_
  simp (disch:=omega) only [amL,amT,sA,sF,↓reduceIte,reduceCtorEq]
  refine hK7 _ ?_
  refine Ag rfl (fun h=>?_) (fun h=>?_)
  ·first
   | exact Bool.noConfusion h
   |skip
    try simp only [decide_eq_true_eq] at h
    refine Ah ?_
    refine hK6 _ ?_
    refine Aa fun K8 hK8=>?_
    refine Ak ?_
    refine Bg (by kernel_rfl) (by kernel_rfl) ?_
    simp (disch:=omega) only [Eu,amL,amT,sA,sB,sC,sE,sF,↓reduceIte,reduceCtorEq]
    refine hK8 _ ?_
    refine Ab ?_
    simp (disch:=omega) only [amL,amT,sA,sF,↓reduceIte,reduceCtorEq]
    refine hK5 (k+1) _ ?_ ?_ (B0 ?_ ?_ ?_ ?_)
    all_goals (try simp (disch:=omega) only [amL,sF,↓reduceIte,reduceCtorEq])
    all_goals first | omega | exact (congrArg (AO.arr 5) (T5 default (by omega))).symm | trace_state
  ·first
   | exact Bool.noConfusion h
   |skip
    try simp only [decide_eq_false_iff_not] at h
    refine Bc ?_
    refine hK3 _ ?_
    refine Aa fun K9 hK9=>?_
    refine Ab ?_
    simp (disch:=omega) only [amL,sA,sF,↓reduceIte,reduceCtorEq]
    refine hK9 _ ?_
    refine Ae ?_
    try simp (disch:=omega) only [amL,↓reduceIte]
    rw [List.take_of_length_le (by simp; omega),List.take_of_length_le (by omega)]
def roomsB (vs:List Ves):Bool:=vs.all fun v=>decide (v.room≤12)
def smallB (b:Cx):Bool:=Ai5 b ⟨[],[],[]⟩&&(!decide (B5 b=0)||(decide ((b.vs.length:Int)≤3)&&roomsB b.vs))
theorem c_lsmall (b:Cx):Bj Tryz.prog 33 [avB b] (bl (smallB b)):=by
  refine A7 (v:=[]) (q:=[]) (N:=38) (rs:=[.tmp 2]) Tryz.func33 rfl rfl rfl rfl rfl ?_
  cases hth:Ai5 b ⟨[],[],[]⟩
  case' true=>
    have hz:=thin0 hth
    have hfc:=Aom b hz.1 hz.2
    by_cases hf:B5 b=0
    case' pos=>by_cases h3:3 < (b.vs.length:Int)
  all_goals
    first | (have hf:=hf) | (have hf:=hth)
    first | (have h3:=h3) | (have h3:=hth)
    refine Aa fun K1 hK1=>?_
    refine Ab ?_
    simp (disch:=omega) only [amL,sA,↓reduceIte]
    refine hK1 _ ?_
    refine Aa fun K2 hK2=>?_
    refine Aa fun K3 hK3=>?_
    refine Ab ?_
    simp (disch:=omega) only [amL,amT,sA,sB,sF,↓reduceIte]
    repeat' first | (refine Cn (fun h=>?_) (fun h=>?_) <;> simp (disch:=omega) only [h,A0,ne_eq,hth,hf,h3,amL,amT,sA,sB,sC,sD,sE,sF,sG,sH,sI,sJ,sK,sL,sM,sN,sO,↓reduceIte,reduceCtorEq]) | (refine Bo (fun h=>?_) (fun h=>?_) <;> simp (disch:=omega) only [h,A0,ne_eq,hth,hf,h3,amL,amT,sA,sB,sC,sD,sE,sF,sG,sH,sI,sJ,sK,sL,sM,sN,sO,↓reduceIte,reduceCtorEq]) | (refine Al (by kernel_rfl) rfl (c_lthin0 b) (by first | exact .inl rfl | exact .inr (.inl rfl)) ?_ ; simp (disch:=omega) only [hth,amL,amT,sA,sB,sF,↓reduceIte]) | (refine Al (by kernel_rfl) rfl (hfc) (by first | exact .inl rfl | exact .inr (.inl rfl)) ?_ ; simp (disch:=omega) only [hf,h3,amL,amT,sA,sF,↓reduceIte,reduceCtorEq])
    all_goals
     skip
     refine hK3 _ ?_
     refine Ag rfl (fun h=>?_) (fun h=>?_)
     ·first
      | exact Bool.noConfusion h
      | ((try simp only [] at h) ; exfalso ; omega)
      |skip
       try simp only [] at h
       refine Aa fun K4 hK4=>?_
       refine Ab ?_
       simp (disch:=omega) only [amL,sA]
       refine hK4 _ ?_
       refine Ae ?_
       try simp (disch:=omega) only [amL,↓reduceIte]
       all_goals first | (unfold smallB; rw [hth]; rfl) | (unfold smallB; rw [hth,decide_eq_false hf]; rfl) | (unfold smallB; rw [hth,decide_eq_true hf,decide_eq_false (show ¬ (b.vs.length:Int)≤3 by omega)]; rfl) | (unfold smallB roomsB; rw [hth,decide_eq_true hf,decide_eq_true (show (b.vs.length:Int)≤3 by omega),Y2 (by omega) hpre]; rfl) | (unfold smallB roomsB; rw [hth,decide_eq_true hf,decide_eq_true (show (b.vs.length:Int)≤3 by omega),D7 (p:=fun v:Ves=>decide (v.room≤12)) (d:=default) (k:=k) (by omega) (show decide ((b.vs.getD k default).room≤12)=false from decide_eq_false (by omega))]; rfl) | trace_state
     ·first
      | exact Bool.noConfusion h
      | ((try simp only [] at h) ; exfalso ; omega)
      |skip
       try simp only [] at h
       refine Ah ?_
       refine hK2 _ ?_
       refine Aa fun K5 hK5=>?_
       refine Aa fun K6 hK6=>?_
       refine Ab ?_
       simp (disch:=omega) only [amL,sA]
       refine hK6 _ ?_
       refine Ak ?_
       skip
       refine A5 (α:=Nat) (fun k=>⟨T [(1,.ptr 1 0),(2,bl false),(3,i64 (k:Int))],O [(1,.cells (cB b))]⟩) (fun k=>b.vs.length - k) (fun k=>k≤b.vs.length∧(b.vs.take k).all (fun v=>decide (v.room≤12))=true) 0 ?_ ?_ (fun k hx7 K7 hK7=>?_)
       · exact ⟨Nat.zero_le _,rfl⟩
       · refine B0 ?_ ?_ ?_ ?_ <;> (try simp (disch:=omega) only [amL,sF,↓reduceIte]); all_goals first | rfl | trace_state
       obtain ⟨hk,hpre⟩:=hx7
       refine Aa fun K8 hK8=>?_
       refine Aa fun K9 hK9=>?_
       refine Ab ?_
       simp (disch:=omega) only [amL,amT,sA,sF,↓reduceIte,reduceCtorEq]
       repeat' first | (refine Cn (fun h=>?_) (fun h=>?_) <;> simp (disch:=omega) only [h,amL,amT,sA,sB,sF,↓reduceIte]) | (refine Bo (fun h=>?_) (fun h=>?_) <;> simp (disch:=omega) only [h,A0,ne_eq,hth,hf,h3,amL,amT,sA,sB,sC,sD,sE,sF,sG,sH,sI,sJ,sK,sL,sM,sN,sO,↓reduceIte,reduceCtorEq]) | (refine Al (by kernel_rfl) rfl (hfc) (by first | exact .inl rfl | exact .inr (.inl rfl)) ?_ ; simp (disch:=omega) only [hf,amL,amT,sA,sF,↓reduceIte])
       all_goals
        skip
        refine hK9 _ ?_
        refine Ag rfl (fun h=>?_) (fun h=>?_)
        ·first
         | exact Bool.noConfusion h
         | ((try simp only [] at h) ; exfalso ; omega)
         |skip
          try simp only [] at h
          refine Ah ?_
          refine hK8 _ ?_
          refine Aa fun K10 hK10=>?_
          refine Ak ?_
          refine Aa fun K11 hK11=>?_
          refine Ab ?_
          simp (disch:=omega) only [A0,amL,amT,sA,sB,sF,↓reduceIte,reduceCtorEq]
          refine hK11 _ ?_
          refine Ag rfl (fun h=>?_) (fun h=>?_)
          ·first
           | exact Bool.noConfusion h
           | ((try simp only [decide_eq_true_eq] at h) ; exfalso ; omega)
           |skip
            try simp only [decide_eq_true_eq] at h
            refine Aa fun K12 hK12=>?_
            refine Ab ?_
            simp (disch:=omega) only [amL,sA]
            refine hK12 _ ?_
            refine Ae ?_
            try simp (disch:=omega) only [amL,↓reduceIte]
            all_goals first | (unfold smallB; rw [hth]; rfl) | (unfold smallB; rw [hth,decide_eq_false hf]; rfl) | (unfold smallB; rw [hth,decide_eq_true hf,decide_eq_false (show ¬ (b.vs.length:Int)≤3 by omega)]; rfl) | (unfold smallB roomsB; rw [hth,decide_eq_true hf,decide_eq_true (show (b.vs.length:Int)≤3 by omega),Y2 (by omega) hpre]; rfl) | (unfold smallB roomsB; rw [hth,decide_eq_true hf,decide_eq_true (show (b.vs.length:Int)≤3 by omega),D7 (p:=fun v:Ves=>decide (v.room≤12)) (d:=default) (k:=k) (by omega) (show decide ((b.vs.getD k default).room≤12)=false from decide_eq_false (by omega))]; rfl) | trace_state
          ·first
           | exact Bool.noConfusion h
           | ((try simp only [decide_eq_false_iff_not] at h) ; exfalso ; omega)
           |skip
            try simp only [decide_eq_false_iff_not] at h
            refine Ah ?_
            refine hK10 _ ?_
            refine Ab ?_
            simp (disch:=omega) only [amL,amT,sA,sF,↓reduceIte]
            refine hK7 (k+1) _ ?_ ?_ (B0 ?_ ?_ ?_ ?_)
            all_goals (try simp (disch:=omega) only [amL,sF,↓reduceIte])
            all_goals first | omega | exact ⟨by omega,Zn (d:=default) (by omega) hpre (decide_eq_true (by omega))⟩ | trace_state
        ·first
         | exact Bool.noConfusion h
         | ((try simp only [] at h) ; exfalso ; omega)
         |skip
          try simp only [] at h
          refine Bc ?_
          refine hK5 _ ?_
          refine Aa fun K13 hK13=>?_
          refine Ab ?_
          simp (disch:=omega) only [amL,sA]
          refine hK13 _ ?_
          refine Ae ?_
          try simp (disch:=omega) only [amL,↓reduceIte]
          all_goals first | (unfold smallB; rw [hth]; rfl) | (unfold smallB; rw [hth,decide_eq_false hf]; rfl) | (unfold smallB; rw [hth,decide_eq_true hf,decide_eq_false (show ¬ (b.vs.length:Int)≤3 by omega)]; rfl) | (unfold smallB roomsB; rw [hth,decide_eq_true hf,decide_eq_true (show (b.vs.length:Int)≤3 by omega),Y2 (by omega) hpre]; rfl) | (unfold smallB roomsB; rw [hth,decide_eq_true hf,decide_eq_true (show (b.vs.length:Int)≤3 by omega),D7 (p:=fun v:Ves=>decide (v.room≤12)) (d:=default) (k:=k) (by omega) (show decide ((b.vs.getD k default).room≤12)=false from decide_eq_false (by omega))]; rfl) | trace_state
theorem few_arg {b:Cx} {g k:Int} (hf:B5 b=0) (h:¬ (Lf b.vs=true∧Pm g k=true)):Jh b g k=.tup [Dk,i64 2]:=by
  unfold Jh
  rw [if_neg (by omega),if_pos]
  cases h1:Lf b.vs <;> cases h2:Pm g k <;> first | rfl | exact absurd ⟨h1,h2⟩ h
theorem few_flt {b:Cx} {g k:Int} (hf:¬ B5 b=0):Jh b g k=.tup [Dk,i64 (B5 b)]:=by unfold Jh; rw [if_pos hf]
theorem c_wortPlans (b:Cx) (l:List Stp) (g k most:Int) (_:Arq b) (hli:∀ s ∈ l,Ayk s) (_:inR g=true) (_:inR k=true) (_:inR most=true):Bj Tryz.prog 6 [avB b,.p (slS l),i64 g,i64 k,i64 most] (bl true):=by
  refine A7 (v:=[]) (q:=[]) (N:=145) (rs:=[.tmp 10]) Tryz.func6 rfl rfl rfl rfl rfl ?_
  have hl2:=stp_in hli
  cases hq:smallB b
  case' true=>
    by_cases h5:(l.length:Int)≤5
    case' pos=>
      have hth:Ai5 b ⟨[],[],[]⟩=true:=by simp only [smallB,Bool.and_eq_true] at hq; exact hq.1
      have hz:=thin0 hth
      have hfew:=Ao7 b g k hz.1 hz.2
      have hpv:=c_prove b l g k most hz.1 hz.2 (by omega) hl2
      have hbr:=Bgs b hz.1 hz.2
      have hlf:=Bf5 b hz.1 hz.2
      have hst:=Anq l (by omega)
      by_cases hf:B5 b=0
      case' neg=>
        rw [few_flt hf] at hfew
        rw [prove_no (.inl hf)] at hpv
      case' pos=>
        have hv:=Acu hf
        have hnv:=hv.nv
        have hfx:=c_rfixed b hv
        by_cases ho:Lf b.vs=true∧Pm g k=true
        case' neg=>
          rw [few_arg hf ho] at hfew
          have hpf:proveS b l g k most=false:=by
            cases h1:Lf b.vs
            · exact prove_no (.inr (.inr (.inr (.inl h1))))
            · cases h2:Pm g k
              · exact prove_no (.inr (.inr (.inl h2)))
              · exact absurd ⟨h1,h2⟩ ho
          rw [hpf] at hpv
          cases h1:Lf b.vs
          case' true=>
            have h2:Pm g k=false:=by
              cases h2:Pm g k
              · rfl
              · exact absurd ⟨h1,h2⟩ ho
            unfold Pm at h2
            cases h6:inB g 1 60
            case' true=>rw [h6,Bool.true_and] at h2
        case' pos=>
          obtain ⟨h1,hw⟩:=ho
          have h6:inB g 1 60=true:=by unfold Pm at hw; rw [Bool.and_eq_true] at hw; exact hw.1
          have h2:inB k 0 120=true:=by unfold Pm at hw; rw [Bool.and_eq_true] at hw; exact hw.2
          obtain ⟨r1,r2⟩:=first_one hv h1
          have hip:=c_risplan b l hv (by omega)
          have hrf:=c_rfewest b g k hv
          rw [← r1] at hip hrf
          cases hW:(Dt b.vs).2
          case' false=>
            rw [hW] at hip hrf
            have e4:planI b.vs (Nq b.vs (nthX b 0).g (nthX b 0).d,false) l=some (Nq b.vs (nthX b 0).g (nthX b 0).d,false):=if_neg (fun h=>by cases h)
            rw [e4] at hip
            simp only [planAV] at hip
            rw [few_bad hf h1 hw (.inl hW)] at hfew
            rw [prove_no (.inr (.inr (.inr (.inr hW))))] at hpv
          case' true=>
            rw [hW] at hip hrf
            obtain ⟨hok,htk⟩:=r2 hW
            have hmx:=max_ge (vs:=b.vs) (a:=0)
            have hm2:=max_le (vs:=b.vs) (a:=0) (by omega) hv.v
            have hfe:=few_eq (g:=g) (k:=k) (w:=(Dt b.vs).1) (maxR b.vs 0).toNat hnv hv.v hok (fun v hm=>by have:=hmx.2 v hm; have:=hmx.1; omega) (by have:=hmx.1; omega)
            rw [htk] at hfe
            rw [if_pos rfl,hfe] at hrf
            have hpe:proveS b l g k most=(decide ((l.length:Int)≤most)&&planF b.vs g k (Dt b.vs).1 l):=by unfold proveS; rw [decide_eq_true hf,hw,h1,hW]; simp
            have hpt:=plan_take (vs:=b.vs) (g:=g) (k:=k) (l:=l) (w:=(Dt b.vs).1)
            rw [htk] at hpt
            have ho0:=Y6 hv (nth_listed hv 0)
            rw [hpe,hpt] at hpv
            have hip2:planI b.vs (Nq b.vs (nthX b 0).g (nthX b 0).d,true) l=planZ b.vs (Nq b.vs (nthX b 0).g (nthX b 0).d) l:=by unfold planI; rw [if_pos rfl]
            rw [hip2] at hip
            have hcan:∃ (can H:Bool) (z:PV),planAV (planZ b.vs (Nq b.vs (nthX b 0).g (nthX b 0).d) l)=.tup [.p z,bl can]∧finZ g k (planZ b.vs (Nq b.vs (nthX b 0).g (nthX b 0).d) l)=(can&&H)∧(can=true→Bj Tryz.prog 39 [.p z,i64 g,i64 k] (bl H)):=by
              cases hz1:planZ b.vs (Nq b.vs (nthX b 0).g (nthX b 0).d) l with
              | none=>exact ⟨false,false,_,rfl,rfl,fun e=>by cases e⟩
              | some r=>
                obtain ⟨v',c⟩:=r
                cases c with
                | false=>exact ⟨false,false,_,rfl,rfl,fun e=>by cases e⟩
                | true=>exact ⟨true,hasX v' g k,_,rfl,rfl,fun _=>c_rhas v' g k (Nat.lt_of_le_of_lt (Nat.le_of_eq ((planZ_ok hnv hv.v ho0 hz1).len hnv)) (by omega))⟩
            obtain ⟨can,H,z,z1,z2,z3⟩:=hcan
            rw [z1] at hip
            rw [z2] at hpv
            cases hs:Apz b.vs g k (Dt b.vs).1
            case' none=>
              rw [few_bad hf h1 hw (.inr hs)] at hfew
              rw [hs] at hrf
            case' some p=>
              rw [few_good hf h1 hw hW hs] at hfew
              rw [hs] at hrf
              obtain ⟨p1,p2,p3⟩:=few_some' hnv hv.v hok hs
              obtain ⟨v',y1,y2⟩:=plan_get p2
              rw [htk] at y1
              have hip3:=c_risplan b p hv (by omega)
              rw [← r1,hW] at hip3
              have e3:planI b.vs (Nq b.vs (nthX b 0).g (nthX b 0).d,true) p=some (v',true):=by unfold planI; rw [if_pos rfl]; exact y1
              rw [e3] at hip3
              simp only [planAV] at hip3
              have hh2:=c_rhas v' g k (Nat.lt_of_le_of_lt (Nat.le_of_eq ((planZ_ok hnv hv.v ho0 y1).len hnv)) (by omega))
              rw [y2] at hh2
              have hbk:=c_lback p (by omega)
            all_goals
              cases can
              case' true=>cases H
            all_goals
              by_cases hlm:(l.length:Int)≤most
  all_goals
    first | (have hf:=hf) | (have hf:=hq)
    first | (have h1:=h1) | (have h1:=hq)
    first | (have h2:=h2) | (have h2:=hq)
    first | (have h6:=h6) | (have h6:=hq)
    first | (have hlm:=hlm) | (have hlm:=hq)
    refine Aa fun K1 hK1=>?_
    refine Ab ?_
    simp (disch:=omega) only [amL,sA,sB,↓reduceIte]
    refine hK1 _ ?_
    refine Aa fun K2 hK2=>?_
    refine Aa fun K3 hK3=>?_
    refine Ab ?_
    simp (disch:=omega) only [amL,amT,sA,sB,sF,↓reduceIte]
    repeat' first | (refine Cn (fun h=>?_) (fun h=>?_) <;> simp (disch:=omega) only [h,hq,hf,h1,h2,h6,hlm,ne_eq,List.length_map,amL,amT,sA,sB,sC,sD,sE,sF,sG,sH,sI,sJ,sK,sL,sM,sN,sO,↓reduceIte,reduceCtorEq]) | (refine Bo (fun h=>?_) (fun h=>?_) <;> simp (disch:=omega) only [h,hq,hf,h1,h2,h6,hlm,ne_eq,List.length_map,amL,amT,sA,sB,sC,sD,sE,sF,sG,sH,sI,sJ,sK,sL,sM,sN,sO,↓reduceIte,reduceCtorEq]) | (refine Al (by kernel_rfl) rfl (c_lsmall b) (by first | exact .inl rfl | exact .inr (.inl rfl)) ?_ ; simp (disch:=omega) only [hq,List.length_map,amL,amT,sA,sF,↓reduceIte,reduceCtorEq])
    all_goals
     skip
     refine hK3 _ ?_
     refine Ag rfl (fun h=>?_) (fun h=>?_)
     ·first
      | exact Bool.noConfusion h
      | ((try simp only [decide_eq_true_eq] at h) ; exfalso ; omega)
      |skip
       try simp only [decide_eq_true_eq] at h
       refine Aa fun K4 hK4=>?_
       refine Ab ?_
       simp (disch:=omega) only [amL]
       repeat' first | (refine Al (by kernel_rfl) rfl (Bgu) (by first | exact .inl rfl | exact .inr (.inl rfl)) ?_ ; simp (disch:=omega) only [amL,sA,↓reduceIte])
       refine hK4 _ ?_
       refine Ae ?_
       try simp (disch:=omega) only [amL,↓reduceIte]
       all_goals first | rfl | (exfalso; omega) | trace_state
     ·first
      | exact Bool.noConfusion h
      | ((try simp only [decide_eq_false_iff_not] at h) ; exfalso ; omega)
      |skip
       try simp only [decide_eq_false_iff_not] at h
       refine Ah ?_
       refine hK2 _ ?_
       refine Aa fun K5 hK5=>?_
       refine Ab ?_
       simp (disch:=omega) only [amL,amT,sA,sB,sF,↓reduceIte]
       repeat' first | (refine Al (by kernel_rfl) rfl (hbr) (by first | exact .inl rfl | exact .inr (.inl rfl)) ?_ ; simp (disch:=omega) only [amL,sA,sF,↓reduceIte,reduceCtorEq]) | (refine Al (by kernel_rfl) rfl (hfew) (by first | exact .inl rfl | exact .inr (.inl rfl)) ?_ ; simp (disch:=omega) only [amL,sA,sF,↓reduceIte])
       refine hK5 _ ?_
       refine Aa fun K6 hK6=>?_
       refine Ab ?_
       simp (disch:=omega) only [amL,amT,sA,sB,sF,↓reduceIte]
       repeat' first | (refine Al (by kernel_rfl) rfl (hbr) (by first | exact .inl rfl | exact .inr (.inl rfl)) ?_ ; simp (disch:=omega) only [amL,sA,sF,↓reduceIte,reduceCtorEq]) | (refine Al (by kernel_rfl) rfl (hst) (by first | exact .inl rfl | exact .inr (.inl rfl)) ?_ ; simp (disch:=omega) only [amL,sA,sF,↓reduceIte,reduceCtorEq]) | (refine Al (by kernel_rfl) rfl (hpv) (by first | exact .inl rfl | exact .inr (.inl rfl)) ?_ ; simp (disch:=omega) only [hlm,amL,sA,↓reduceIte])
       refine hK6 _ ?_
       refine Aa fun K7 hK7=>?_
       refine Ab ?_
       simp (disch:=omega) only [amL,amT,sA,sB,sF,↓reduceIte]
       repeat' first | (refine Al (by kernel_rfl) rfl (hlf) (by first | exact .inl rfl | exact .inr (.inl rfl)) ?_ ; simp (disch:=omega) only [hf,amL,sA,↓reduceIte])
       refine hK7 _ ?_
       refine Aa fun K8 hK8=>?_
       refine Aa fun K9 hK9=>?_
       refine Ab ?_
       simp (disch:=omega) only [hf,amL,amT,sA,sB,sF,↓reduceIte]
       repeat' first | (refine Cn (fun h=>?_) (fun h=>?_) <;> simp (disch:=omega) only [h,hq,hf,h1,h2,h6,hlm,ne_eq,List.length_map,amL,amT,sA,sB,sC,sD,sE,sF,sG,sH,sI,sJ,sK,sL,sM,sN,sO,↓reduceIte,reduceCtorEq]) | (refine Bo (fun h=>?_) (fun h=>?_) <;> simp (disch:=omega) only [h,hq,hf,h1,h2,h6,hlm,ne_eq,List.length_map,amL,amT,sA,sB,sC,sD,sE,sF,sG,sH,sI,sJ,sK,sL,sM,sN,sO,↓reduceIte,reduceCtorEq]) | (refine Al (by kernel_rfl) rfl (hfx) (by first | exact .inl rfl | exact .inr (.inl rfl)) ?_ ; simp (disch:=omega) only [h1,amL,sA,sF,↓reduceIte,reduceCtorEq]) | (refine Al (by kernel_rfl) rfl (Aew _ _ _) (by first | exact .inl rfl | exact .inr (.inl rfl)) ?_ ; simp (disch:=omega) only [h2,h6,amL,sA,sF,↓reduceIte,reduceCtorEq])
       all_goals
        skip
        refine hK9 _ ?_
        refine Ag rfl (fun h=>?_) (fun h=>?_)
        ·first
         | exact Bool.noConfusion h
         | ((try simp only [] at h) ; exfalso ; omega)
         |skip
          try simp only [] at h
          refine Ab ?_
          simp (disch:=omega) only [amL,sA]
          refine hK8 _ ?_
          refine Aa fun K10 hK10=>?_
          refine Aa fun K11 hK11=>?_
          refine Ab ?_
          simp (disch:=omega) only [ne_eq,amL,amT,sA,sO,↓reduceIte]
          refine hK11 _ ?_
          refine Ag rfl (fun h=>?_) (fun h=>?_)
          ·first
           | exact Bool.noConfusion h
           | ((try simp only [] at h) ; exfalso ; omega)
           |skip
            try simp only [] at h
            refine Aa fun K12 hK12=>?_
            refine Ab ?_
            simp (disch:=omega) only [amL,amT,sA,sF,↓reduceIte]
            repeat' first | (refine Cn (fun h=>?_) (fun h=>?_) <;> simp (disch:=omega) only [h,hq,hf,h1,h2,h6,hlm,ne_eq,List.length_map,amL,amT,sA,sB,sC,sD,sE,sF,sG,sH,sI,sJ,sK,sL,sM,sN,sO,↓reduceIte,reduceCtorEq]) | (refine Bo (fun h=>?_) (fun h=>?_) <;> simp (disch:=omega) only [h,hq,hf,h1,h2,h6,hlm,ne_eq,List.length_map,amL,amT,sA,sB,sC,sD,sE,sF,sG,sH,sI,sJ,sK,sL,sM,sN,sO,↓reduceIte,reduceCtorEq]) | (refine Al (by kernel_rfl) rfl (Bgu) (by first | exact .inl rfl | exact .inr (.inl rfl)) ?_ ; simp (disch:=omega) only [amL,sA,sF,↓reduceIte])
            all_goals
             skip
             refine hK12 _ ?_
             refine Ae ?_
             try simp (disch:=omega) only [amL,↓reduceIte]
             all_goals first | rfl | (exfalso; omega) | trace_state
          ·first
           | exact Bool.noConfusion h
           | ((try simp only [Bool.not_eq_true',decide_eq_true_eq,decide_eq_false_iff_not,Bool.and_eq_true,Bool.not_eq_false',Bool.not_not,decide_not,Bool.not_true,Bool.not_false] at h) ; exfalso ; omega)
           |skip
            try simp only [Bool.not_eq_true',decide_eq_true_eq,decide_eq_false_iff_not,Bool.and_eq_true,Bool.not_eq_false',Bool.not_not,decide_not,Bool.not_true,Bool.not_false] at h
            refine Ah ?_
            refine hK10 _ ?_
            refine Aa fun K13 hK13=>?_
            refine Ab ?_
            simp (disch:=omega) only [hq,hf,h1,h2,h6,hlm,ne_eq,List.length_map,amL,amT,sA,sB,sC,sD,sE,sF,sG,sH,sI,sJ,sK,sL,sM,sN,sO,↓reduceIte,reduceCtorEq]
            repeat' first | (refine Al (by kernel_rfl) rfl (by first | exact hip | exact hip3) (by first | exact .inl rfl | exact .inr (.inl rfl)) ?_ ; simp (disch:=omega) only [hq,hf,h1,h2,h6,hlm,ne_eq,List.length_map,amL,amT,sA,sB,sC,sD,sE,sF,sG,sH,sI,sJ,sK,sL,sM,sN,sO,↓reduceIte,reduceCtorEq])
            refine hK13 _ ?_
            refine Aa fun K14 hK14=>?_
            refine Aa fun K15 hK15=>?_
            refine Ab ?_
            simp (disch:=omega) only [hq,hf,h1,h2,h6,hlm,ne_eq,List.length_map,amL,amT,sA,sB,sC,sD,sE,sF,sG,sH,sI,sJ,sK,sL,sM,sN,sO,↓reduceIte,reduceCtorEq]
            repeat' first | (refine Cn (fun h=>?_) (fun h=>?_) <;> simp (disch:=omega) only [h,hq,hf,h1,h2,h6,hlm,ne_eq,List.length_map,amL,amT,sA,sB,sC,sD,sE,sF,sG,sH,sI,sJ,sK,sL,sM,sN,sO,↓reduceIte,reduceCtorEq]) | (refine Bo (fun h=>?_) (fun h=>?_) <;> simp (disch:=omega) only [h,hq,hf,h1,h2,h6,hlm,ne_eq,List.length_map,amL,amT,sA,sB,sC,sD,sE,sF,sG,sH,sI,sJ,sK,sL,sM,sN,sO,↓reduceIte,reduceCtorEq]) | (refine Al (by kernel_rfl) rfl (by first | exact z3 rfl | exact hh2) (by first | exact .inl rfl | exact .inr (.inl rfl)) ?_ ; simp (disch:=omega) only [hq,hf,h1,h2,h6,hlm,ne_eq,List.length_map,amL,amT,sA,sB,sC,sD,sE,sF,sG,sH,sI,sJ,sK,sL,sM,sN,sO,↓reduceIte,reduceCtorEq])
            all_goals
             skip
             refine hK15 _ ?_
             refine Ag rfl (fun h=>?_) (fun h=>?_)
             ·first
              | exact Bool.noConfusion h
              | ((try simp only [Bool.not_eq_true',decide_eq_true_eq,decide_eq_false_iff_not,Bool.and_eq_true,Bool.not_eq_false',Bool.not_not,decide_not,Bool.not_true,Bool.not_false] at h) ; exfalso ; omega)
              |skip
               try simp only [Bool.not_eq_true',decide_eq_true_eq,decide_eq_false_iff_not,Bool.and_eq_true,Bool.not_eq_false',Bool.not_not,decide_not,Bool.not_true,Bool.not_false] at h
               refine Aa fun K16 hK16=>?_
               refine Ab ?_
               simp (disch:=omega) only [hq,hf,h1,h2,h6,hlm,ne_eq,List.length_map,amL,amT,sA,sB,sC,sD,sE,sF,sG,sH,sI,sJ,sK,sL,sM,sN,sO,↓reduceIte,reduceCtorEq]
               refine hK16 _ ?_
               refine Ae ?_
               try simp (disch:=omega) only [hq,hf,h1,h2,h6,hlm,ne_eq,List.length_map,amL,amT,sA,sB,sC,sD,sE,sF,sG,sH,sI,sJ,sK,sL,sM,sN,sO,↓reduceIte,reduceCtorEq]
               all_goals first | rfl | (exfalso; omega) | trace_state
             ·first
              | exact Bool.noConfusion h
              | ((try simp only [Bool.not_eq_true',decide_eq_true_eq,decide_eq_false_iff_not,Bool.and_eq_true,Bool.not_eq_false',Bool.not_not,decide_not,Bool.not_true,Bool.not_false] at h) ; exfalso ; omega)
              |skip
               try simp only [Bool.not_eq_true',decide_eq_true_eq,decide_eq_false_iff_not,Bool.and_eq_true,Bool.not_eq_false',Bool.not_not,decide_not,Bool.not_true,Bool.not_false] at h
               refine Ah ?_
               refine hK14 _ ?_
               refine Aa fun K17 hK17=>?_
               refine Ab ?_
               simp (disch:=omega) only [hq,hf,h1,h2,h6,hlm,ne_eq,List.length_map,amL,amT,sA,sB,sC,sD,sE,sF,sG,sH,sI,sJ,sK,sL,sM,sN,sO,↓reduceIte,reduceCtorEq]
               repeat' first | (refine Al (by kernel_rfl) rfl (hrf) (by first | exact .inl rfl | exact .inr (.inl rfl)) ?_ ; simp (disch:=omega) only [hq,hf,h1,h2,h6,hlm,ne_eq,List.length_map,amL,amT,sA,sB,sC,sD,sE,sF,sG,sH,sI,sJ,sK,sL,sM,sN,sO,↓reduceIte,reduceCtorEq])
               refine hK17 _ ?_
               refine Aa fun K18 hK18=>?_
               refine Aa fun K19 hK19=>?_
               refine Ab ?_
               simp (disch:=omega) only [hq,hf,h1,h2,h6,hlm,ne_eq,List.length_map,amL,amT,sA,sB,sC,sD,sE,sF,sG,sH,sI,sJ,sK,sL,sM,sN,sO,↓reduceIte,reduceCtorEq]
               refine hK19 _ ?_
               refine Ag rfl (fun h=>?_) (fun h=>?_)
               ·first
                | exact Bool.noConfusion h
                | ((try simp only [Bool.not_eq_true',decide_eq_true_eq,decide_eq_false_iff_not,Bool.and_eq_true,Bool.not_eq_false',Bool.not_not,decide_not,Bool.not_true,Bool.not_false] at h) ; exfalso ; omega)
                |skip
                 try simp only [Bool.not_eq_true',decide_eq_true_eq,decide_eq_false_iff_not,Bool.and_eq_true,Bool.not_eq_false',Bool.not_not,decide_not,Bool.not_true,Bool.not_false] at h
                 refine Aa fun K20 hK20=>?_
                 refine Ab ?_
                 simp (disch:=omega) only [hq,hf,h1,h2,h6,hlm,ne_eq,List.length_map,amL,amT,sA,sB,sC,sD,sE,sF,sG,sH,sI,sJ,sK,sL,sM,sN,sO,↓reduceIte,reduceCtorEq]
                 repeat' first | (refine Cn (fun h=>?_) (fun h=>?_) <;> simp (disch:=omega) only [h,hq,hf,h1,h2,h6,hlm,ne_eq,List.length_map,amL,amT,sA,sB,sC,sD,sE,sF,sG,sH,sI,sJ,sK,sL,sM,sN,sO,↓reduceIte,reduceCtorEq]) | (refine Bo (fun h=>?_) (fun h=>?_) <;> simp (disch:=omega) only [h,hq,hf,h1,h2,h6,hlm,ne_eq,List.length_map,amL,amT,sA,sB,sC,sD,sE,sF,sG,sH,sI,sJ,sK,sL,sM,sN,sO,↓reduceIte,reduceCtorEq]) | (refine Al (by kernel_rfl) rfl (Bgu) (by first | exact .inl rfl | exact .inr (.inl rfl)) ?_ ; simp (disch:=omega) only [hq,hf,h1,h2,h6,hlm,ne_eq,List.length_map,amL,amT,sA,sB,sC,sD,sE,sF,sG,sH,sI,sJ,sK,sL,sM,sN,sO,↓reduceIte,reduceCtorEq])
                 all_goals
                  skip
                  refine hK20 _ ?_
                  refine Ae ?_
                  try simp (disch:=omega) only [hq,hf,h1,h2,h6,hlm,ne_eq,List.length_map,amL,amT,sA,sB,sC,sD,sE,sF,sG,sH,sI,sJ,sK,sL,sM,sN,sO,↓reduceIte,reduceCtorEq]
                  all_goals first | rfl | (exfalso; omega) | trace_state
               ·first
                | exact Bool.noConfusion h
                | ((try simp only [Bool.not_eq_true',decide_eq_true_eq,decide_eq_false_iff_not,Bool.and_eq_true,Bool.not_eq_false',Bool.not_not,decide_not,Bool.not_true,Bool.not_false] at h) ; exfalso ; omega)
                |skip
                 try simp only [Bool.not_eq_true',decide_eq_true_eq,decide_eq_false_iff_not,Bool.and_eq_true,Bool.not_eq_false',Bool.not_not,decide_not,Bool.not_true,Bool.not_false] at h
                 refine Ah ?_
                 refine hK18 _ ?_
                 refine Aa fun K21 hK21=>?_
                 refine Bg (by kernel_rfl) (by kernel_rfl) ?_
                 simp (disch:=omega) only [hq,hf,h1,h2,h6,hlm,ne_eq,List.length_map,amL,amT,sA,sB,sC,sD,sE,sF,sG,sH,sI,sJ,sK,sL,sM,sN,sO,↓reduceIte,reduceCtorEq]
                 repeat' first | (refine Al (by kernel_rfl) rfl (hbk) (by first | exact .inl rfl | exact .inr (.inl rfl)) ?_ ; simp (disch:=omega) only [hq,hf,h1,h2,h6,hlm,ne_eq,List.length_map,amL,amT,sA,sB,sC,sD,sE,sF,sG,sH,sI,sJ,sK,sL,sM,sN,sO,↓reduceIte,reduceCtorEq]) | (refine Al (by kernel_rfl) rfl (by first | exact hip | exact hip3) (by first | exact .inl rfl | exact .inr (.inl rfl)) ?_ ; simp (disch:=omega) only [hq,hf,h1,h2,h6,hlm,ne_eq,List.length_map,amL,amT,sA,sB,sC,sD,sE,sF,sG,sH,sI,sJ,sK,sL,sM,sN,sO,↓reduceIte,reduceCtorEq])
                 refine hK21 _ ?_
                 refine Aa fun K22 hK22=>?_
                 refine Ab ?_
                 simp (disch:=omega) only [hq,hf,h1,h2,h6,hlm,ne_eq,List.length_map,amL,amT,sA,sB,sC,sD,sE,sF,sG,sH,sI,sJ,sK,sL,sM,sN,sO,↓reduceIte,reduceCtorEq]
                 repeat' first | (refine Cn (fun h=>?_) (fun h=>?_) <;> simp (disch:=omega) only [h,hq,hf,h1,h2,h6,hlm,ne_eq,List.length_map,amL,amT,sA,sB,sC,sD,sE,sF,sG,sH,sI,sJ,sK,sL,sM,sN,sO,↓reduceIte,reduceCtorEq]) | (refine Bo (fun h=>?_) (fun h=>?_) <;> simp (disch:=omega) only [h,hq,hf,h1,h2,h6,hlm,ne_eq,List.length_map,amL,amT,sA,sB,sC,sD,sE,sF,sG,sH,sI,sJ,sK,sL,sM,sN,sO,↓reduceIte,reduceCtorEq]) | (refine Al (by kernel_rfl) rfl (by first | exact z3 rfl | exact hh2) (by first | exact .inl rfl | exact .inr (.inl rfl)) ?_ ; simp (disch:=omega) only [hq,hf,h1,h2,h6,hlm,ne_eq,List.length_map,amL,amT,sA,sB,sC,sD,sE,sF,sG,sH,sI,sJ,sK,sL,sM,sN,sO,↓reduceIte,reduceCtorEq]) | (refine Al (by kernel_rfl) rfl (Bgu) (by first | exact .inl rfl | exact .inr (.inl rfl)) ?_ ; simp (disch:=omega) only [hq,hf,h1,h2,h6,hlm,ne_eq,List.length_map,amL,amT,sA,sB,sC,sD,sE,sF,sG,sH,sI,sJ,sK,sL,sM,sN,sO,↓reduceIte,reduceCtorEq])
                 all_goals
                  skip
                  refine hK22 _ ?_
                  refine Ae ?_
                  try simp (disch:=omega) only [hq,hf,h1,h2,h6,hlm,ne_eq,List.length_map,amL,amT,sA,sB,sC,sD,sE,sF,sG,sH,sI,sJ,sK,sL,sM,sN,sO,↓reduceIte,reduceCtorEq]
                  all_goals first | rfl | (exfalso; omega) | trace_state
        ·first
         | exact Bool.noConfusion h
         | ((try simp only [] at h) ; exfalso ; omega)
         |skip
          try simp only [] at h
          refine Ah ?_
          refine hK8 _ ?_
          refine Aa fun K23 hK23=>?_
          refine Aa fun K24 hK24=>?_
          refine Ab ?_
          simp (disch:=omega) only [hf,ne_eq,amL,amT,sA,sF,↓reduceIte]
          refine hK24 _ ?_
          refine Ag rfl (fun h=>?_) (fun h=>?_)
          ·first
           | exact Bool.noConfusion h
           | ((try simp only [] at h) ; exfalso ; omega)
           |skip
            try simp only [] at h
            refine Aa fun K25 hK25=>?_
            refine Ab ?_
            simp (disch:=omega) only [amL,amT,sA,sF,↓reduceIte]
            repeat' first | (refine Cn (fun h=>?_) (fun h=>?_) <;> simp (disch:=omega) only [h,hq,hf,h1,h2,h6,hlm,ne_eq,List.length_map,amL,amT,sA,sB,sC,sD,sE,sF,sG,sH,sI,sJ,sK,sL,sM,sN,sO,↓reduceIte,reduceCtorEq]) | (refine Bo (fun h=>?_) (fun h=>?_) <;> simp (disch:=omega) only [h,hq,hf,h1,h2,h6,hlm,ne_eq,List.length_map,amL,amT,sA,sB,sC,sD,sE,sF,sG,sH,sI,sJ,sK,sL,sM,sN,sO,↓reduceIte,reduceCtorEq]) | (refine Al (by kernel_rfl) rfl (Bgu) (by first | exact .inl rfl | exact .inr (.inl rfl)) ?_ ; simp (disch:=omega) only [amL,sA,sF,↓reduceIte])
            all_goals
             skip
             refine hK25 _ ?_
             refine Ae ?_
             try simp (disch:=omega) only [amL,↓reduceIte]
             all_goals first | rfl | (exfalso; omega) | trace_state
          ·first
           | exact Bool.noConfusion h
           | ((try simp only [] at h) ; exfalso ; omega)
           |skip
            try simp only [] at h
            refine Ah ?_
            refine hK23 _ ?_
            refine Aa fun K26 hK26=>?_
            refine Ab ?_
            simp (disch:=omega) only [amL,amT,sA,sB,sF,↓reduceIte,reduceCtorEq]
            repeat' first | (refine Al (by kernel_rfl) rfl (by first | exact hip | exact hip3) (by first | exact .inl rfl | exact .inr (.inl rfl)) ?_ ; simp (disch:=omega) only [amL,sA,sF,↓reduceIte])
            refine hK26 _ ?_
            refine Aa fun K27 hK27=>?_
            refine Aa fun K28 hK28=>?_
            refine Ab ?_
            simp (disch:=omega) only [amL,amT,sA,sF,↓reduceIte,reduceCtorEq]
            repeat' first | (refine Cn (fun h=>?_) (fun h=>?_) <;> simp (disch:=omega) only [h,hq,hf,h1,h2,h6,hlm,ne_eq,List.length_map,amL,amT,sA,sB,sC,sD,sE,sF,sG,sH,sI,sJ,sK,sL,sM,sN,sO,↓reduceIte,reduceCtorEq]) | (refine Bo (fun h=>?_) (fun h=>?_) <;> simp (disch:=omega) only [h,hq,hf,h1,h2,h6,hlm,ne_eq,List.length_map,amL,amT,sA,sB,sC,sD,sE,sF,sG,sH,sI,sJ,sK,sL,sM,sN,sO,↓reduceIte,reduceCtorEq]) | (refine Al (by kernel_rfl) rfl (by first | exact z3 rfl | exact hh2) (by first | exact .inl rfl | exact .inr (.inl rfl)) ?_ ; simp (disch:=omega) only [hlm,List.length_map,amL,amT,sA,sF,↓reduceIte,reduceCtorEq])
            all_goals
             skip
             refine hK28 _ ?_
             refine Ag rfl (fun h=>?_) (fun h=>?_)
             ·first
              | exact Bool.noConfusion h
              | ((try simp only [Bool.not_eq_true',decide_eq_true_eq,decide_eq_false_iff_not,Bool.and_eq_true,Bool.not_eq_false',Bool.not_not,decide_not,Bool.not_true,Bool.not_false] at h) ; exfalso ; omega)
              |skip
               try simp only [Bool.not_eq_true',decide_eq_true_eq,decide_eq_false_iff_not,Bool.and_eq_true,Bool.not_eq_false',Bool.not_not,decide_not,Bool.not_true,Bool.not_false] at h
               refine Aa fun K29 hK29=>?_
               refine Ab ?_
               simp (disch:=omega) only [hq,hf,h1,h2,h6,hlm,ne_eq,List.length_map,amL,amT,sA,sB,sC,sD,sE,sF,sG,sH,sI,sJ,sK,sL,sM,sN,sO,↓reduceIte,reduceCtorEq]
               refine hK29 _ ?_
               refine Ae ?_
               try simp (disch:=omega) only [hq,hf,h1,h2,h6,hlm,ne_eq,List.length_map,amL,amT,sA,sB,sC,sD,sE,sF,sG,sH,sI,sJ,sK,sL,sM,sN,sO,↓reduceIte,reduceCtorEq]
               all_goals first | rfl | (exfalso; omega) | trace_state
             ·first
              | exact Bool.noConfusion h
              | ((try simp only [Bool.not_eq_true',decide_eq_true_eq,decide_eq_false_iff_not,Bool.and_eq_true,Bool.not_eq_false',Bool.not_not,decide_not,Bool.not_true,Bool.not_false] at h) ; exfalso ; omega)
              |skip
               try simp only [Bool.not_eq_true',decide_eq_true_eq,decide_eq_false_iff_not,Bool.and_eq_true,Bool.not_eq_false',Bool.not_not,decide_not,Bool.not_true,Bool.not_false] at h
               refine Ah ?_
               refine hK27 _ ?_
               refine Aa fun K30 hK30=>?_
               refine Ab ?_
               simp (disch:=omega) only [amL,amT,sA,sB,sF,↓reduceIte,reduceCtorEq]
               repeat' first | (refine Al (by kernel_rfl) rfl (hrf) (by first | exact .inl rfl | exact .inr (.inl rfl)) ?_ ; simp (disch:=omega) only [amL,sA,sM,↓reduceIte])
               refine hK30 _ ?_
               refine Aa fun K31 hK31=>?_
               refine Aa fun K32 hK32=>?_
               refine Ab ?_
               simp (disch:=omega) only [amL,amT,sA,sK,sM,↓reduceIte]
               refine hK32 _ ?_
               refine Ag rfl (fun h=>?_) (fun h=>?_)
               ·first
                | exact Bool.noConfusion h
                | ((try simp only [] at h) ; exfalso ; omega)
                |skip
                 try simp only [] at h
                 refine Aa fun K33 hK33=>?_
                 refine Ab ?_
                 simp (disch:=omega) only [amL,amT,sA,sF,sM,↓reduceIte]
                 repeat' first | (refine Cn (fun h=>?_) (fun h=>?_) <;> simp (disch:=omega) only [h,hq,hf,h1,h2,h6,hlm,ne_eq,List.length_map,amL,amT,sA,sB,sC,sD,sE,sF,sG,sH,sI,sJ,sK,sL,sM,sN,sO,↓reduceIte,reduceCtorEq]) | (refine Bo (fun h=>?_) (fun h=>?_) <;> simp (disch:=omega) only [h,hq,hf,h1,h2,h6,hlm,ne_eq,List.length_map,amL,amT,sA,sB,sC,sD,sE,sF,sG,sH,sI,sJ,sK,sL,sM,sN,sO,↓reduceIte,reduceCtorEq]) | (refine Al (by kernel_rfl) rfl (Bgu) (by first | exact .inl rfl | exact .inr (.inl rfl)) ?_ ; simp (disch:=omega) only [amL,sA,sF,sM,↓reduceIte])
                 all_goals
                  skip
                  refine hK33 _ ?_
                  refine Ae ?_
                  try simp (disch:=omega) only [amL,sM,↓reduceIte]
                  all_goals first | rfl | (exfalso; omega) | trace_state
               ·first
                | exact Bool.noConfusion h
                | ((try simp only [decide_eq_false_iff_not] at h) ; exfalso ; omega)
                |skip
                 try simp only [decide_eq_false_iff_not] at h
                 refine Ah ?_
                 refine hK31 _ ?_
                 refine Aa fun K34 hK34=>?_
                 refine Bg (by kernel_rfl) (by kernel_rfl) ?_
                 simp (disch:=omega) only [amL,amT,sA,sB,sF,↓reduceIte]
                 repeat' first | (refine Al (by kernel_rfl) rfl (hbk) (by first | exact .inl rfl | exact .inr (.inl rfl)) ?_ ; simp (disch:=omega) only [amL,sF,↓reduceIte]) | (refine Al (by kernel_rfl) rfl (by first | exact hip | exact hip3) (by first | exact .inl rfl | exact .inr (.inl rfl)) ?_ ; simp (disch:=omega) only [amL,sA,sF,↓reduceIte])
                 refine hK34 _ ?_
                 refine Aa fun K35 hK35=>?_
                 refine Ab ?_
                 simp (disch:=omega) only [List.length_map,amL,amT,sA,sF,↓reduceIte,reduceCtorEq]
                 repeat' first | (refine Cn (fun h=>?_) (fun h=>?_) <;> simp (disch:=omega) only [h,hq,hf,h1,h2,h6,hlm,ne_eq,List.length_map,amL,amT,sA,sB,sC,sD,sE,sF,sG,sH,sI,sJ,sK,sL,sM,sN,sO,↓reduceIte,reduceCtorEq]) | (refine Bo (fun h=>?_) (fun h=>?_) <;> simp (disch:=omega) only [h,hq,hf,h1,h2,h6,hlm,ne_eq,List.length_map,amL,amT,sA,sB,sC,sD,sE,sF,sG,sH,sI,sJ,sK,sL,sM,sN,sO,↓reduceIte,reduceCtorEq]) | (refine Al (by kernel_rfl) rfl (by first | exact z3 rfl | exact hh2) (by first | exact .inl rfl | exact .inr (.inl rfl)) ?_ ; simp (disch:=omega) only [amL,sA,sF,↓reduceIte]) | (refine Al (by kernel_rfl) rfl (Bgu) (by first | exact .inl rfl | exact .inr (.inl rfl)) ?_ ; simp (disch:=omega) only [amL,sA,sF,↓reduceIte])
                 all_goals
                  skip
                  refine hK35 _ ?_
                  refine Ae ?_
                  try simp (disch:=omega) only [amL,↓reduceIte]
                  all_goals first | rfl | (exfalso; omega) | trace_state
end AM.Try
end
