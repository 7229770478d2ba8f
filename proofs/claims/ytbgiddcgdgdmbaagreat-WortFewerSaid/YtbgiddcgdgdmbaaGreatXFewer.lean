/- Lemmas for the proof: more of the program's functions, walked on the abstract machine. -/
import Derived.Test.YtbgiddcgdgdmbaaGreatQ6
import Derived.ProofKit
import Derived.Deep.Slices
import Derived.ChangeStays
/- What the reference says of vessels, in plain Lean; that it is what the program says. -/
section
namespace AM.Wort
open Go AM Go.Proofs
theorem begin_room:∀ {vs:List Ves} {gs ds:List Int} {i:Nat} {v:List Liq},(Hf vs gs ds i v).2=Qj vs gs i∧(Qj vs gs i=true→(Hf vs gs ds i v).1=Xr vs gs ds i v)
 | [],_,_,_,_=>⟨rfl,fun _=>rfl⟩
 | x :: vs,gs,ds,i,v=>by
  unfold Hf Qj Xr
  split
  ·rename_i h
   rw [decide_eq_false (by omega)]
   exact ⟨rfl,fun h=>by cases h⟩
  ·rename_i h
   rw [decide_eq_true (by omega),Bool.true_and]
   exact begin_room
theorem prodR_mul:∀ (l:List Rng) (n c:Int),Dg l (n * c)=Dg l n * c
 | [],_,_=>rfl
 | r :: l,n,c=>by
  show Dg l (n * c * Dp r)=Dg l (n * Dp r) * c
  rw [show n * c * Dp r=n * Dp r * c by rw [Int.mul_assoc,Int.mul_comm c,← Int.mul_assoc],prodR_mul]
def nthV:List Ves→Int→List Int × List Int × Int
 | [],n=>([],[],n)
 | v :: l,n=>((v.g.lo+n % Dp v.g) :: (nthV l (n / Dp v.g / Dp v.d)).1,(v.d.lo+n / Dp v.g % Dp v.d) :: (nthV l (n / Dp v.g / Dp v.d)).2.1,(nthV l (n / Dp v.g / Dp v.d)).2.2)
def nthS:List Stp→Int→List Int
 | [],_=>[]
 | s :: l,n=>(s.g.lo+n % Dp s.g) :: nthS l (n / Dp s.g)
def nthX (b:Cx) (n:Int):Tru:=⟨(nthV b.vs n).1,(nthV b.vs n).2.1,nthS b.ss (nthV b.vs n).2.2⟩
theorem drop_get' {α:Type} {l:List α} {k:Nat} (d:α) (h:k < l.length):l.drop k=l.getD k d :: l.drop (k+1):=by
 rw [List.drop_eq_getElem_cons h]; simp [List.getD,h]
abbrev nextV (v:Ves) (n:Int):Int:=n / Dp v.g / Dp v.d
def accV (gs ds:List Int) (r:List Int × List Int × Int):List Int × List Int × Int:=(gs++r.1,ds++r.2.1,r.2.2)
theorem acc_step {vs:List Ves} {gs ds:List Int} {n:Int} {R:List Int × List Int × Int} (hk:gs.length < vs.length) (h:accV gs ds (nthV (vs.drop gs.length) n)=R) (a c:Int)
  (ha:a=(vs.getD gs.length default).g.lo+n % Dp (vs.getD gs.length default).g) (hc:c=(vs.getD gs.length default).d.lo+n / Dp (vs.getD gs.length default).g % Dp (vs.getD gs.length default).d) :
  accV (gs++[a]) (ds++[c]) (nthV (vs.drop (gs++[a]).length) (nextV (vs.getD gs.length default) n))=R:=by
 subst ha hc
 rw [drop_get' default hk] at h
 rw [List.length_append,List.length_singleton]
 rw [← h]
 simp [accV,nthV]
theorem acc_end {vs:List Ves} {gs ds:List Int} {n:Int} {R:List Int × List Int × Int} (hk:vs.length≤gs.length) (h:accV gs ds (nthV (vs.drop gs.length) n)=R):R=(gs,ds,n):=by
 rw [List.drop_of_length_le hk] at h
 rw [← h]; simp [accV,nthV]
theorem nthS_step {ss:List Stp} {ms:List Int} {n:Int} {R:List Int} (hk:ms.length < ss.length) (h:ms++nthS (ss.drop ms.length) n=R) (a:Int) (ha:a=(ss.getD ms.length default).g.lo+n % Dp (ss.getD ms.length default).g) :
  (ms++[a])++nthS (ss.drop (ms++[a]).length) (n / Dp (ss.getD ms.length default).g)=R:=by
 subst ha
 rw [drop_get' default hk] at h
 rw [List.length_append,List.length_singleton,← h]
 simp [nthS]
theorem nthS_end {ss:List Stp} {ms:List Int} {n:Int} {R:List Int} (hk:ss.length≤ms.length) (h:ms++nthS (ss.drop ms.length) n=R):R=ms:=by
 rw [List.drop_of_length_le hk] at h
 rw [← h]; simp [nthS]
theorem div_nn {m s:Int} (h0:0≤m) (h1:1≤s):0≤m / s∧m / s≤m:=⟨Int.ediv_nonneg h0 (by omega),Int.ediv_le_self _ h0⟩
theorem mod_nn {m s:Int} (h1:1≤s):0≤m % s∧m % s < s:=⟨Int.emod_nonneg _ (by omega),Int.emod_lt_of_pos _ (by omega)⟩
theorem nthV_len:∀ (l:List Ves) (n:Int),(nthV l n).1.length=l.length∧(nthV l n).2.1.length=l.length
 | [],_=>⟨rfl,rfl⟩
 | v :: l,n=>by
  obtain ⟨h1,h2⟩:=nthV_len l (n / Dp v.g / Dp v.d)
  unfold nthV
  simp only [List.length_cons,h1,h2,and_self]
theorem nthS_len:∀ (l:List Stp) (n:Int),(nthS l n).length=l.length
 | [],_=>rfl
 | s :: l,n=>by unfold nthS; rw [List.length_cons,nthS_len,List.length_cons]
theorem has_mod {r:Rng} {n:Int} (h:1≤Dp r):inB (r.lo+n % Dp r) r.lo r.hi=true:=by
 have:=mod_nn (m:=n) h
 unfold Dp at *
 simp only [inB,Bool.and_eq_true,decide_eq_true_eq]; omega
theorem nthV_in:∀ {l:List Ves} (n:Int),l.all Df=true→∀ k,k < l.length→inB ((nthV l n).1.getD k 0) (l.getD k default).g.lo (l.getD k default).g.hi=true∧inB ((nthV l n).2.1.getD k 0) (l.getD k default).d.lo (l.getD k default).d.hi=true
 | [],_,_,k,hk=>by cases hk
 | v :: l,n,hv,k,hk=>by
  rw [List.all_cons,Bool.and_eq_true] at hv
  obtain ⟨h1,h2,_⟩:=Cp hv.1
  cases k with
  | zero=>exact ⟨has_mod (D2 h1).1,has_mod (D2 h2).1⟩
  | succ k=>exact nthV_in (n / Dp v.g / Dp v.d) hv.2 k (by simpa using hk)
theorem nthS_in:∀ {l:List Stp} {c:Int} (n:Int),l.all (Dm c)=true→∀ k,k < l.length→inB ((nthS l n).getD k 0) (l.getD k default).g.lo (l.getD k default).g.hi=true
 | [],_,_,_,k,hk=>by cases hk
 | s :: l,c,n,hv,k,hk=>by
  rw [List.all_cons,Bool.and_eq_true] at hv
  have h1:=(Cd hv.1).2.2.2.2
  cases k with
  | zero=>exact has_mod (D2 h1).1
  | succ k=>exact nthS_in (n / Dp s.g) hv.2 k (by simpa using hk)
theorem nth_listed {b:Cx} (hv:Ja b) (n:Int):C1 b (nthX b n)=true:=by
 obtain ⟨h1,h2⟩:=nthV_len b.vs n
 exact Mn h1 h2 (nthS_len _ _) (nthV_in n hv.v) (nthS_in _ hv.s)
end AM.Wort
end
/- The statements: what is read of the arguments is what the walks take; what a pure call leaves is what the statements ask. For any program. -/
section
namespace AM
set_option maxRecDepth 100000
open Go AM Go.ChangeShapes Go.WideShapes Go.ChangeAt Go.RowKit Go.Proofs
section
variable {P:Program} {H:Type} {enc:TypeId × Value→H} {W W':World}
theorem open_rows {base t e k:Nat} {v:Value} {d:DataW H} {p:List MemPlace} (ht:P.underlying t=some (.slice e)) (hk:P.cellsOf e=k) (hfl:Ud P e k) (hv:Value.okWide P W .any base t v) (h:DataW.Trod enc P W 0 (fun _=>true) true t v d p) :
  ∃ rows:List (List Int),(∀ r ∈ rows,r.length=k∧∀ m ∈ r,inR m=true)∧∀ θ,Aq θ (fun _=>False) W (.p (.sl (rows.map fun r=>r.map iv))) v:=by
 obtain ⟨a0,len0,cap0,rfl⟩:=okWide_slice ht hv
 obtain ⟨n,hn⟩:=h
 obtain ⟨rows,h1,v',hv',hp⟩:=open_recs ht hk (fun _ _ _=>hfl _ _ _) hn (fun a len cap e=>by
  simp only [Value.cells,List.cons.injEq,and_true,Value.slice.injEq] at e
  obtain ⟨rfl,rfl,rfl⟩:=e
  simp only [Value.okWide,ht,Cell.okWide,Cell.ok,World.has] at hv
  exact hv.2.2.2.1)
 simp only [Value.cells,List.cons.injEq,and_true] at hv'
 subst hv'
 exact ⟨rows,h1,fun θ=>.p _ _ hp⟩
end
end AM
end
/- Whether steps are a plan. -/
section
namespace AM.Wort
open Go AM Go.Proofs
def planOk (n:Nat) (s:Stp):Bool:=Dm n s&&(!decide (s.kind=2)&&(!decide (1 < Dp s.g)&&!decide (s.g.lo < 1)))
def planF (vs:List Ves) (g k:Int):List Liq→List Stp→Bool
 | v,[]=>W1 vs.length v g k
 | v,s :: ss=>planOk vs.length s&&((doS vs v s s.g.lo).2&&planF vs g k (doS vs v s s.g.lo).1 ss)
def proveS (b:Cx) (l:List Stp) (g k most:Int):Bool:=decide (B5 b=0)&&(decide ((l.length:Int)≤most)&&(Pm g k&&(Lf b.vs&&((Dt b.vs).2&&planF b.vs g k (Dt b.vs).1 l))))
theorem plan_step {vs:List Ves} {g k:Int} {v:List Liq} {l:List Stp} {i:Nat} {R:Bool} (hi:i < l.length) (h1:planOk vs.length (l.getD i default)=true) (h2:(doS vs v (l.getD i default) (l.getD i default).g.lo).2=true) (h:planF vs g k v (l.drop i)=R):planF vs g k (doS vs v (l.getD i default) (l.getD i default).g.lo).1 (l.drop (i+1))=R:=by
 have e:l.drop i=l.getD i default :: l.drop (i+1):=by rw [List.drop_eq_getElem_cons hi]; simp [List.getD,hi]
 rw [e] at h; unfold planF at h; rw [h1,h2] at h; simpa using h
theorem plan_no {vs:List Ves} {g k:Int} {v:List Liq} {l:List Stp} {i:Nat} {R:Bool} (hi:i < l.length) (h1:planOk vs.length (l.getD i default)=false∨(doS vs v (l.getD i default) (l.getD i default).g.lo).2=false) (h:planF vs g k v (l.drop i)=R):R=false:=by
 have e:l.drop i=l.getD i default :: l.drop (i+1):=by rw [List.drop_eq_getElem_cons hi]; simp [List.getD,hi]
 rw [e] at h; unfold planF at h
 rcases h1 with h1 | h1
 ·rw [h1,Bool.false_and] at h; exact h.symm
 ·rw [h1,Bool.false_and,Bool.and_false] at h; exact h.symm
theorem plan_end {vs:List Ves} {g k:Int} {v:List Liq} {l:List Stp} {i:Nat} {R:Bool} (hi:l.length≤i) (h:planF vs g k v (l.drop i)=R):R=W1 vs.length v g k:=by
 rw [List.drop_of_length_le hi] at h; exact h.symm
theorem planOk_parts {n:Nat} {s:Stp} (h:planOk n s=true):Dm n s=true∧¬ s.kind=2∧¬ 1 < Dp s.g∧¬ s.g.lo < 1:=by
 simpa [planOk,Bool.and_eq_true] using h
theorem prove_no {b:Cx} {l:List Stp} {g k most:Int} (h:¬ B5 b=0∨¬ (l.length:Int)≤most∨Pm g k=false∨Lf b.vs=false∨(Dt b.vs).2=false):proveS b l g k most=false:=by
 cases hp:proveS b l g k most with
 | false=>rfl
 | true=>
  simp only [proveS,Bool.and_eq_true,decide_eq_true_eq] at hp
  obtain ⟨h1,h2,h3,h4,h5,_⟩:=hp
  rcases h with h | h | h | h | h
  ·exact absurd h1 h
  ·exact absurd h2 h
  ·rw [h3] at h; cases h
  ·rw [h4] at h; cases h
  ·rw [h5] at h; cases h
theorem prove_eq {b:Cx} {l:List Stp} {g k most:Int} {R:Bool} (h1:B5 b=0) (h2:(l.length:Int)≤most) (h3:Pm g k=true) (h4:Lf b.vs=true) (h5:(Dt b.vs).2=true) (h:planF b.vs g k (Dt b.vs).1 l=R):proveS b l g k most=R:=by
 unfold proveS; rw [decide_eq_true h1,decide_eq_true h2,h3,h4,h5,h]; simp
theorem move_plan {vs:List Ves} {v:List Liq} {s:Stp} (hv:OkV v) (hvs:vs.length≤4) (hva:vs.all Df=true) (h:s ∈ Gi vs v):planOk vs.length s=true∧(doS vs v s s.g.lo).2=true∧OkV (doS vs v s s.g.lo).1:=by
 obtain ⟨h1,h2,_,h4,h5,h6⟩:=Apw hv hvs hva h
 obtain ⟨f,t,k,_,_,_,e⟩:=Ald h
 have hz:Dp s.g=1:=by rw [e]; unfold C8 Dp; show (k:Int)+1 - ((k:Int)+1)+1=1; omega
 refine ⟨?_,h4,h5⟩
 unfold planOk
 rw [h1,decide_eq_false (by omega),decide_eq_false (by omega),decide_eq_false (by omega)]; rfl
theorem plan_move {vs:List Ves} {v:List Liq} {s:Stp} (hv:OkV v) (hvs:vs.length≤4) (h:planOk vs.length s=true) (hd:(doS vs v s s.g.lo).2=true):s ∈ Gi vs v:=by
 obtain ⟨h1,h2,h3,h4⟩:=planOk_parts h
 obtain ⟨q1,q2,q3,q4,q5⟩:=Cd h1
 have y5:=Co q5
 unfold Dp at h3
 have hl:=hv.len
 have e:s=C8 s.frm.toNat s.to.toNat (s.g.lo - 1).toNat:=by
  obtain ⟨kind,frm,to,⟨lo,hi⟩⟩:=s
  unfold C8
  dsimp only at *
  have a1:((lo - 1).toNat:Int)+1=lo:=by omega
  have a2:hi=lo:=by omega
  have a3:((frm.toNat:Nat):Int)=frm:=by omega
  have a4:((to.toNat:Nat):Int)=to:=by omega
  have a5:kind=if frm.toNat≠to.toNat then 0 else 1:=by
   by_cases e:frm=to
   ·rw [if_neg (by subst e; simp)]; omega
   ·rw [if_pos (by omega)]; omega
  rw [a1,a2,a3,a4,← a5]
 rw [e]
 refine Ae4 (by omega) (by omega) ?_
 have hk:((s.g.lo - 1).toNat:Int)=s.g.lo - 1:=by omega
 rw [hk]
 simp only [doS,Bool.and_eq_true,decide_eq_true_eq] at hd
 obtain ⟨d1,d2⟩:=hd
 unfold Ei
 by_cases k0:s.kind=0
 ·have hne:s.frm.toNat≠s.to.toNat:=by omega
  rw [if_pos hne]
  simp only [Fc,if_pos k0] at d1 d2
  unfold Ex at d1 d2
  split at d1
  ·cases d1
  ·rename_i g1
   rw [if_neg g1,if_pos (by omega)] at d2
   unfold Hy G8 at d2
   rw [Ek,if_pos ⟨rfl,by rw [List.length_set]; omega⟩,Ek,if_neg (by omega)] at d2
   have d2:(A8 v s.to.toNat).g+s.g.lo≤(vs.getD s.to.toNat default).room:=d2
   omega
 ·have k1:s.kind=1:=by omega
  have he:s.frm.toNat=s.to.toNat:=by omega
  rw [if_neg (by omega)]
  simp only [Fc,if_neg k0,if_pos k1] at d2
  unfold Lb at d2
  rw [Ek,if_pos ⟨rfl,by omega⟩] at d2
  have d2:(A8 v s.to.toNat).g+s.g.lo≤(vs.getD s.to.toNat default).room:=d2
  omega
theorem search_sound {vs:List Ves} {g k:Int} (hvs:vs.length≤4) (hva:vs.all Df=true):∀ {m:Nat} {v:List Liq} {p q:List Stp},OkV v→Da vs g k m v p=some q→∃ ss,q=p++ss∧ss.length=m∧planF vs g k v ss=true
 | 0,v,p,q,_,h=>by
  unfold Da at h
  split at h
  ·cases h; exact ⟨[],by simp,rfl,by unfold planF; assumption⟩
  ·cases h
 | m+1,v,p,q,hv,h=>by
  unfold Da at h
  obtain ⟨s,hs,h2⟩:=List.exists_of_findSome?_eq_some h
  obtain ⟨m1,m2,m3⟩:=move_plan hv hvs hva hs
  obtain ⟨ss,e1,e2,e3⟩:=search_sound hvs hva (v:=(doS vs v s s.g.lo).1) m3 h2
  refine ⟨s :: ss,by rw [e1]; simp,by simp [e2],?_⟩
  unfold planF; rw [m1,m2,e3]; rfl
theorem search_all {vs:List Ves} {g k:Int} (hvs:vs.length≤4) (hva:vs.all Df=true):∀ {ss:List Stp} {v:List Liq} {p:List Stp},OkV v→planF vs g k v ss=true→(Da vs g k ss.length v p).isSome=true
 | [],v,p,_,h=>by
  unfold planF at h
  show (Da vs g k 0 v p).isSome=true
  unfold Da; rw [if_pos h]; rfl
 | s :: ss,v,p,hv,h=>by
  unfold planF at h
  simp only [Bool.and_eq_true] at h
  obtain ⟨h1,h2,h3⟩:=h
  have hm:=plan_move hv hvs h1 h2
  obtain ⟨_,_,m3⟩:=move_plan hv hvs hva hm
  show (Da vs g k (ss.length+1) v p).isSome=true
  unfold Da
  rw [List.findSome?_isSome_iff]
  exact ⟨s,hm,search_all hvs hva m3 h3⟩
theorem plan_all {vs:List Ves} {g k:Int}:∀ {ss:List Stp} {v:List Liq},planF vs g k v ss=true→∀ s ∈ ss,planOk vs.length s=true
 | [],_,_,s,hs=>by cases hs
 | x :: ss,v,h,s,hs=>by
  unfold planF at h
  simp only [Bool.and_eq_true] at h
  rcases List.mem_cons.1 hs with rfl | hs
  ·exact h.1
  ·exact plan_all h.2.2 s hs
theorem planOk_in {n:Nat} (hn:n≤4) {s:Stp} (h:planOk n s=true):inR s.kind=true∧inR s.frm=true∧inR s.to=true∧inR s.g.lo=true∧inR s.g.hi=true:=by
 obtain ⟨h1,_⟩:=planOk_parts h
 obtain ⟨q1,q2,q3,_,q5⟩:=Cd h1
 have y:=Co q5
 refine ⟨?_,?_,?_,?_,?_⟩ <;> (simp only [inR,Bool.and_eq_true,decide_eq_true_eq]; omega)
theorem few_none' {vs:List Ves} {g k:Int} {v:List Liq} (hvs:vs.length≤4) (hva:vs.all Df=true) (hv:OkV v) (h:Apz vs g k v=none) {ss:List Stp} (hl:ss.length≤2):planF vs g k v ss=false:=by
 cases hp:planF vs g k v ss with
 | false=>rfl
 | true=>
  have hs:=search_all hvs hva (p:=[]) hv hp
  unfold Apz at h
  simp only [Option.or_eq_none_iff] at h
  obtain ⟨a,b,c⟩:=h
  have:ss.length=0∨ss.length=1∨ss.length=2:=by omega
  rcases this with e | e | e <;> rw [e] at hs
  ·rw [a] at hs; cases hs
  ·rw [b] at hs; cases hs
  ·rw [c] at hs; cases hs
theorem few_some' {vs:List Ves} {g k:Int} {v:List Liq} {p:List Stp} (hvs:vs.length≤4) (hva:vs.all Df=true) (hv:OkV v) (h:Apz vs g k v=some p):p.length≤2∧planF vs g k v p=true∧∀ ss:List Stp,ss.length < p.length→planF vs g k v ss=false:=by
 have key:∀ m,Da vs g k m v []=some p→p.length=m∧planF vs g k v p=true:=fun m hm=>by
  obtain ⟨ss,e1,e2,e3⟩:=search_sound hvs hva hv hm
  rw [List.nil_append] at e1
  subst e1
  exact ⟨e2,e3⟩
 have no:∀ m (ss:List Stp),Da vs g k m v []=none→ss.length=m→planF vs g k v ss=false:=fun m ss hm hl=>by
  cases hp:planF vs g k v ss with
  | false=>rfl
  | true=>
   have hs:=search_all hvs hva (p:=[]) hv hp
   rw [hl,hm] at hs; cases hs
 unfold Apz at h
 cases a:Da vs g k 0 v [] with
 | some q=>
  rw [a] at h
  have h:some q=some p:=h
  rw [h] at a
  obtain ⟨e1,e2⟩:=key 0 a
  exact ⟨by omega,e2,fun ss hs=>by omega⟩
 | none=>
  rw [a,Option.none_or] at h
  cases b:Da vs g k 1 v [] with
  | some q=>
   rw [b] at h
   have h:some q=some p:=h
   rw [h] at b
   obtain ⟨e1,e2⟩:=key 1 b
   exact ⟨by omega,e2,fun ss hs=>no 0 ss a (by omega)⟩
  | none=>
   rw [b,Option.none_or] at h
   obtain ⟨e1,e2⟩:=key 2 h
   refine ⟨by omega,e2,fun ss hs=>?_⟩
   have:ss.length=0∨ss.length=1:=by omega
   rcases this with e | e
   ·exact no 0 ss a e
   ·exact no 1 ss b e
def fixV (v:Ves):Ves:=⟨⟨v.g.lo,v.g.lo⟩,⟨v.d.lo,v.d.lo⟩,v.room⟩
def fixB (b:Cx):Cx:=⟨b.vs.map fixV,b.ss⟩
theorem fixV_ok {v:Ves} (h:Df v=true):Df (fixV v)=true:=by
 obtain ⟨⟨glo,ghi⟩,⟨dlo,dhi⟩,room⟩:=v
 show Df ⟨⟨glo,glo⟩,⟨dlo,dlo⟩,room⟩=true
 simp only [Df,Gp,inB,Bool.and_eq_true,decide_eq_true_eq] at h ⊢
 omega
theorem fix_valid {b:Cx} (hv:Ja b):Ja (fixB b):=by
 refine ⟨by unfold fixB; rw [List.length_map]; exact hv.nv,hv.ns,?_,?_⟩
 ·unfold fixB
  rw [List.all_eq_true]
  intro x hx
  obtain ⟨v,h,rfl⟩:=List.mem_map.1 hx
  exact fixV_ok (List.all_eq_true.1 hv.v v h)
 ·show b.ss.all (Dm ((b.vs.map fixV).length:Nat))=true
  rw [List.length_map]; exact hv.s
theorem two_fix (l:List Ves):Dg (Nl (l.map fixV)) 1=1:=by
 induction l with
 | nil=>rfl
 | cons v l ih=>
  show Dg (Nl (l.map fixV)) (1 * Dp ⟨v.g.lo,v.g.lo⟩ * Dp ⟨v.d.lo,v.d.lo⟩)=1
  have e1:∀ x:Int,Dp ⟨x,x⟩=1:=fun x=>by unfold Dp; show x - x+1=1; omega
  rw [e1,e1]; exact ih
theorem fix_fault {b:Cx} (hf:B5 b=0):B5 (fixB b)=0:=by
 obtain ⟨h1,h2,h3,h4,h5,h6⟩:=Ag2 hf
 have hv:=Acu hf
 have hx:=fix_valid hv
 rw [E5 (b:=fixB b) hx.nv hx.ns (by unfold fixB; rw [List.length_map]; exact h3) hx.v hx.s,if_neg]
 rw [← Apa] at h6
 have e:Ao0 (fixB b)≤Ao0 b:=by
  unfold Ao0
  rw [Jc,Jc]
  show Dg (b.ss.map (·.g)) (Dg (Nl (b.vs.map fixV)) 1)≤_
  rw [two_fix]
  have hb:=Am3 h4 h1 b.vs.length
  rw [List.take_length] at hb
  have hm:=prodR_mul (b.ss.map (·.g)) 1 (Dg (Nl b.vs) 1)
  rw [Int.one_mul] at hm
  rw [hm]
  have hs:=Agb hx b.ss.length
  rw [show (fixB b).ss=b.ss from rfl,List.take_length] at hs
  have hs1:1≤Dg (b.ss.map (·.g)) 1:=by
   have:=hs.1
   rw [Jc] at this
   show 1≤Dg (b.ss.map (·.g)) 1
   have e2:Dg (Nl (fixB b).vs) 1=1:=two_fix b.vs
   rw [e2] at this; exact this
  have:=Int.mul_le_mul_of_nonneg_left hb.1 (show 0≤Dg (b.ss.map (·.g)) 1 by omega)
  omega
 omega
theorem fix_one (b:Cx):Lf (fixB b).vs=true:=by
 unfold Lf fixB
 rw [List.all_eq_true]
 intro x hx
 obtain ⟨v,_,rfl⟩:=List.mem_map.1 hx
 have e1:∀ x:Int,Dp ⟨x,x⟩=1:=fun x=>by unfold Dp; show x - x+1=1; omega
 show (!(decide (1 < Dp ⟨v.g.lo,v.g.lo⟩)||decide (1 < Dp ⟨v.d.lo,v.d.lo⟩)))=true
 rw [e1,e1]; rfl
theorem fix_nth (l:List Ves):nthV (l.map fixV) 0=(l.map (·.g.lo),l.map (·.d.lo),0):=by
 induction l with
 | nil=>rfl
 | cons v l ih=>
  have e1:∀ x:Int,Dp ⟨x,x⟩=1:=fun x=>by unfold Dp; show x - x+1=1; omega
  show nthV (fixV v :: l.map fixV) 0=_
  unfold nthV
  show ((v.g.lo+0 % Dp ⟨v.g.lo,v.g.lo⟩) :: (nthV (l.map fixV) (0 / Dp ⟨v.g.lo,v.g.lo⟩ / Dp ⟨v.d.lo,v.d.lo⟩)).1,(v.d.lo+0 / Dp ⟨v.g.lo,v.g.lo⟩ % Dp ⟨v.d.lo,v.d.lo⟩) :: (nthV (l.map fixV) (0 / Dp ⟨v.g.lo,v.g.lo⟩ / Dp ⟨v.d.lo,v.d.lo⟩)).2.1,(nthV (l.map fixV) (0 / Dp ⟨v.g.lo,v.g.lo⟩ / Dp ⟨v.d.lo,v.d.lo⟩)).2.2)=_
  rw [e1,e1]
  simp [ih]
theorem first_fix (b:Cx):Dt (fixB b).vs=Pa (fixB b).vs (nthX (fixB b) 0).g (nthX (fixB b) 0).d:=by
 have e:nthV (fixB b).vs 0=(b.vs.map (·.g.lo),b.vs.map (·.d.lo),0):=fix_nth b.vs
 unfold Dt nthX
 rw [e]
 show Pa (b.vs.map fixV) ((b.vs.map fixV).map (·.g.lo)) ((b.vs.map fixV).map (·.d.lo))=_
 rw [List.map_map,List.map_map]; rfl
def hasX (v:List Liq) (g k:Int):Bool:=v.any fun l=>decide (l.g=g)&&decide (Nf l=k)
theorem first_ref {b:Cx} (hv:Ja b):(Dt (fixB b).vs).2=Zg (fixB b).vs (nthX (fixB b) 0).g ∧
  ((Dt (fixB b).vs).2=true→OkV (Dt (fixB b).vs).1∧∀ g k,W1 (fixB b).vs.length (Dt (fixB b).vs).1 g k=hasX (Nq (fixB b).vs (nthX (fixB b) 0).g (nthX (fixB b) 0).d) g k):=by
 have hx:=fix_valid hv
 have hl:=nth_listed hx 0
 rw [first_fix]
 obtain ⟨h1,h2⟩:=begin_room (vs:=(fixB b).vs) (gs:=(nthX (fixB b) 0).g) (ds:=(nthX (fixB b) 0).d) (i:=0) (v:=v0)
 have h3:=Zj (vs:=(fixB b).vs) (gs:=(nthX (fixB b) 0).g) (ds:=(nthX (fixB b) 0).d) (i:=0) (v:=v0) (by have:=hx.nv; simp; omega)
 rw [Nat.zero_add] at h3
 refine ⟨h1,fun ht=>⟨Aav hx hl,fun g k=>?_⟩⟩
 have e:(Pa (fixB b).vs (nthX (fixB b) 0).g (nthX (fixB b) 0).d).1.take (fixB b).vs.length=Nq (fixB b).vs (nthX (fixB b) 0).g (nthX (fixB b) 0).d:=by
  unfold Pa
  rw [h2 (h1.symm.trans ht),h3]; rfl
 unfold W1 hasX
 rw [e]
theorem staK0 (l:Liq):(L1 l).k=Nf l:=rfl
theorem has_split {v:List Liq} {g k:Int} {i:Nat} (h:i < v.length):hasX (v.drop i) g k=(decide ((A8 v i).g=g)&&decide (Nf (A8 v i)=k)||hasX (v.drop (i+1)) g k):=by
 have:v.drop i=A8 v i :: v.drop (i+1):=by unfold A8; rw [List.drop_eq_getElem_cons h]; simp [List.getD,h]
 rw [this]; rfl
theorem has_step {v:List Liq} {g k:Int} {i:Nat} {R:Bool} (h:i < v.length) (hn:¬ ((A8 v i).g=g∧Nf (A8 v i)=k)) (hr:hasX (v.drop i) g k=R):hasX (v.drop (i+1)) g k=R:=by
 rw [has_split h,show (decide ((A8 v i).g=g)&&decide (Nf (A8 v i)=k))=false by rw [← Bool.not_eq_true,Bool.and_eq_true,decide_eq_true_eq,decide_eq_true_eq]; exact hn,Bool.false_or] at hr
 exact hr
theorem has_yes {v:List Liq} {g k:Int} {i:Nat} (h:i < v.length) (h1:(A8 v i).g=g) (h2:Nf (A8 v i)=k):hasX (v.drop i) g k=true:=by
 rw [has_split h,decide_eq_true h1,decide_eq_true h2]; rfl
theorem has_end {v:List Liq} {g k:Int} {i:Nat} (h:v.length≤i):hasX (v.drop i) g k=false:=by rw [List.drop_of_length_le h]; rfl
end AM.Wort
end
/- The reference: the truth with a number; the law's readiness. -/
section
namespace AM.Try
open Go AM AM.Wort Go.Proofs
open Nat renaming reduceLT→sA,reduceAdd→sB,reduceMul→sC,reduceSub→sD,reduceLeDiff→sE,reduceEqDiff→sF,reduceBEq→sG
open Int renaming reduceAdd→sH,reduceSub→sI,reduceMul→sJ,reduceLT→sK,reduceLE→sL,reduceNeg→sM,reduceToNat→sN,reduceEq→sO
set_option maxRecDepth 100000
set_option maxHeartbeats 8000000
theorem c_rnth (b:Cx) (n:Int) (hv:Ja b) (hn0:0≤n) (hn1:n≤1000000000):Bj Tryz.prog 44 [avB b,i64 n] (avT (nthX b n)):=by
  refine A7 (v:=[]) (q:=[]) (N:=92) (rs:=[.cell 4 28]) Tryz.func44 rfl rfl rfl rfl rfl ?_
  have hnv:=hv.nv
  have hns:=hv.ns
  refine Aa fun K1 hK1=>?_
  refine Ab ?_
  simp (disch:=omega) only [amL,amT,sA,sB,sF,↓reduceIte]
  refine hK1 _ ?_
  refine Aa fun K2 hK2=>?_
  refine Ab ?_
  simp (disch:=omega) only [amL,amT,sA,sB,sF,↓reduceIte]
  refine hK2 _ ?_
  refine Aa fun K3 hK3=>?_
  refine Aa fun K4 hK4=>?_
  refine Ab ?_
  simp (disch:=omega) only [amL,sA]
  refine hK4 _ ?_
  refine Ak ?_
  refine Ac3 40 1 5 0 (by decide) rfl rfl rfl ?_
  refine Ac3 56 1 5 1 (by decide) rfl rfl rfl ?_
  refine A5 (α:=(List Int × List Int) × Int) (fun x=>⟨T [(1,i64 x.2),(2,.ptr 2 0),(4,.ptr 4 0),(5,.ptr 5 0),(6,i64 (x.1.1.length:Int))],O [(2,.cells (cB b)),(4,.cells [Dk,Dk,Dk]),(5,.cells [.own 40 x.1.1.length,.own 56 x.1.2.length,Dk]),(40,.arr 1 (x.1.1.map Jj)),(56,.arr 1 (x.1.2.map Jj))]⟩) (fun x=>b.vs.length - x.1.1.length) (fun x=>x.1.1.length≤b.vs.length∧x.1.2.length=x.1.1.length∧(0≤x.2∧x.2≤1000000000)∧accV x.1.1 x.1.2 (nthV (b.vs.drop x.1.1.length) x.2)=nthV b.vs n) (([],[]),n) ?_ ?_ (fun x hx5 K5 hK5=>?_)
  · exact ⟨Nat.zero_le _,rfl,⟨hn0,hn1⟩,rfl⟩
  · refine B0 ?_ ?_ ?_ ?_ <;> (try simp (disch:=omega) only [amL,sF,sG,↓reduceIte,reduceCtorEq]); all_goals first | rfl | trace_state
  obtain ⟨⟨gs,ds⟩,m⟩:=x; dsimp only at hx5 ⊢; obtain ⟨hk,hk2,⟨hm0,hm1⟩,hr⟩:=hx5
  refine Aa fun K6 hK6=>?_
  refine Aa fun K7 hK7=>?_
  refine Ab ?_
  simp (disch:=omega) only [amL,amT,sA,sF,↓reduceIte,reduceCtorEq]
  refine hK7 _ ?_
  refine Ag rfl (fun h=>?_) (fun h=>?_)
  ·first
   | exact Bool.noConfusion h
   |skip
    try simp only [decide_eq_true_eq] at h
    refine Ah ?_
    refine hK6 _ ?_
    refine Aa fun K8 hK8=>?_
    refine Ak ?_
    refine Aa fun K9 hK9=>?_
    refine Afr [.sto [2] 7,.sto [24] 7,.sto [25,26] 7,.sto [27] 7,.sto [28] 7] (by kernel_rfl) (by kernel_rfl) ?_
    simp (disch:=omega) only [A0,amL,amT,sA,sB,sE,sF,↓reduceIte,reduceCtorEq]
    refine ⟨by simp [Cf.ok,Tk,T,AV.known,AV.clean],?_⟩
    all_goals
     skip
     refine hK9 _ ?_
     refine Aa fun K10 hK10=>?_
     refine Bg (by kernel_rfl) (by kernel_rfl) ?_
     have hk3:gs.length < b.vs.length:=by omega
     obtain ⟨hp1,hp2,_⟩:=Cp (hv.ves hk3)
     have z1:=D2 hp1
     have z2:=D2 hp2
     have y1:=Co hp1
     have y2:=Co hp2
     have hmo:=mod_nn (m:=m) z1.1
     have hdi:=div_nn hm0 z1.1
     have htm:m.tmod (Dp (b.vs.getD gs.length default).g)=m % Dp (b.vs.getD gs.length default).g:=Int.tmod_eq_emod_of_nonneg hm0
     have htd:m.tdiv (Dp (b.vs.getD gs.length default).g)=m / Dp (b.vs.getD gs.length default).g:=Int.tdiv_eq_ediv_of_nonneg hm0
     have hmo2:=mod_nn (m:=m / Dp (b.vs.getD gs.length default).g) z2.1
     have hdi2:=div_nn hdi.1 z2.1
     have htm2:(m / Dp (b.vs.getD gs.length default).g).tmod (Dp (b.vs.getD gs.length default).d)=m / Dp (b.vs.getD gs.length default).g % Dp (b.vs.getD gs.length default).d:=Int.tmod_eq_emod_of_nonneg hdi.1
     have htd2:(m / Dp (b.vs.getD gs.length default).g).tdiv (Dp (b.vs.getD gs.length default).d)=m / Dp (b.vs.getD gs.length default).g / Dp (b.vs.getD gs.length default).d:=Int.tdiv_eq_ediv_of_nonneg hdi.1
     simp (disch:=omega) only [amL,amT,sA,sB,sF,↓reduceIte,reduceCtorEq]
     repeat' first | (refine Al (by kernel_rfl) rfl (by first | exact Px (b.vs.getD gs.length default).g (by omega) (by omega) | exact Px (b.vs.getD gs.length default).d (by omega) (by omega) | exact Px (b.ss.getD ms.length default).g (by omega) (by omega)) (by first | exact .inl rfl | exact .inr (.inl rfl)) ?_ ; simp (disch:=omega) only [htm,amL,amT,sA,sB,sE,sF,↓reduceIte,reduceCtorEq])
     refine hK10 _ ?_
     refine Aa fun K11 hK11=>?_
     refine Ab ?_
     simp (disch:=omega) only [amL,amT,sA,sB,sF,↓reduceIte]
     repeat' first | (refine Al (by kernel_rfl) rfl (by first | exact Px (b.vs.getD gs.length default).g (by omega) (by omega) | exact Px (b.vs.getD gs.length default).d (by omega) (by omega) | exact Px (b.ss.getD ms.length default).g (by omega) (by omega)) (by first | exact .inl rfl | exact .inr (.inl rfl)) ?_ ; simp (disch:=omega) only [htd,amL,amT,sA,sF,↓reduceIte])
     refine hK11 _ ?_
     refine Aa fun K12 hK12=>?_
     refine Bg (by kernel_rfl) (by kernel_rfl) ?_
     simp (disch:=omega) only [amL,amT,sA,sB,sF,↓reduceIte,reduceCtorEq]
     repeat' first | (refine Al (by kernel_rfl) rfl (by first | exact Px (b.vs.getD gs.length default).g (by omega) (by omega) | exact Px (b.vs.getD gs.length default).d (by omega) (by omega) | exact Px (b.ss.getD ms.length default).g (by omega) (by omega)) (by first | exact .inl rfl | exact .inr (.inl rfl)) ?_ ; simp (disch:=omega) only [htm2,amL,amT,sA,sB,sE,sF,↓reduceIte,reduceCtorEq])
     refine hK12 _ ?_
     refine Ab ?_
     simp (disch:=omega) only [amL,amT,sA,sB,sF,↓reduceIte]
     repeat' first | (refine Al (by kernel_rfl) rfl (by first | exact Px (b.vs.getD gs.length default).g (by omega) (by omega) | exact Px (b.vs.getD gs.length default).d (by omega) (by omega) | exact Px (b.ss.getD ms.length default).g (by omega) (by omega)) (by first | exact .inl rfl | exact .inr (.inl rfl)) ?_ ; simp (disch:=omega) only [htd2,amL,amT,sA,sF,↓reduceIte])
     refine hK8 _ ?_
     refine Ab ?_
     simp (disch:=omega) only [amL,amT,sA,sF,↓reduceIte]
     refine hK5 ((gs++[(b.vs.getD gs.length default).g.lo+m % Dp (b.vs.getD gs.length default).g],ds++[(b.vs.getD gs.length default).d.lo+m / Dp (b.vs.getD gs.length default).g % Dp (b.vs.getD gs.length default).d]),nextV (b.vs.getD gs.length default) m) _ ?_ ?_ (B0 ?_ ?_ ?_ ?_)
     all_goals (try simp (disch:=omega) only [amL,sF,sG,↓reduceIte])
     all_goals first | omega | exact ⟨by simp; omega,by simp [hk2],⟨hdi2.1,Int.le_trans hdi2.2 (Int.le_trans hdi.2 hm1)⟩,acc_step (by omega) hr _ _ rfl rfl⟩ | (simp; omega) | (rw [List.length_append]; rfl) | (rw [List.map_append]; rfl) | (simp; done) | trace_state
  ·first
   | exact Bool.noConfusion h
   |skip
    try simp only [decide_eq_false_iff_not] at h
    refine Bc ?_
    refine hK3 _ ?_
    refine Aa fun K13 hK13=>?_
    refine Aa fun K14 hK14=>?_
    refine Ab ?_
    simp (disch:=omega) only [amL,sA]
    refine hK14 _ ?_
    refine Ak ?_
    refine Ac3 85 1 5 2 (by decide) rfl rfl rfl ?_
    refine A5 (α:=List Int × Int) (fun x=>⟨T [(1,i64 x.2),(2,.ptr 2 0),(4,.ptr 4 0),(5,.ptr 5 0),(9,i64 (x.1.length:Int))],O [(2,.cells (cB b)),(4,.cells [Dk,Dk,Dk]),(5,.cells [.own 40 gs.length,.own 56 ds.length,.own 85 x.1.length]),(40,.arr 1 (gs.map Jj)),(56,.arr 1 (ds.map Jj)),(85,.arr 1 (x.1.map Jj))]⟩) (fun x=>b.ss.length - x.1.length) (fun x=>x.1.length≤b.ss.length∧(0≤x.2∧x.2≤1000000000)∧x.1++nthS (b.ss.drop x.1.length) x.2=nthS b.ss m) ([],m) ?_ ?_ (fun x hx15 K15 hK15=>?_)
    · exact ⟨Nat.zero_le _,⟨hm0,hm1⟩,rfl⟩
    · refine B0 ?_ ?_ ?_ ?_ <;> (try simp (disch:=omega) only [amL,sF,sG,↓reduceIte]); all_goals first | rfl | trace_state
    obtain ⟨ms,m2⟩:=x; dsimp only at hx15 ⊢; obtain ⟨hj,⟨hm20,hm21⟩,hr2⟩:=hx15
    refine Aa fun K16 hK16=>?_
    refine Aa fun K17 hK17=>?_
    refine Ab ?_
    simp (disch:=omega) only [amL,amT,sA,sF,↓reduceIte,reduceCtorEq]
    refine hK17 _ ?_
    refine Ag rfl (fun h=>?_) (fun h=>?_)
    ·first
     | exact Bool.noConfusion h
     |skip
      try simp only [decide_eq_true_eq] at h
      refine Ah ?_
      refine hK16 _ ?_
      refine Aa fun K18 hK18=>?_
      refine Ak ?_
      refine Aa fun K19 hK19=>?_
      refine Ab ?_
      simp (disch:=omega) only [Eu,amL,amT,sA,sB,sF,↓reduceIte,reduceCtorEq]
      refine hK19 _ ?_
      refine Aa fun K20 hK20=>?_
      refine Bg (by kernel_rfl) (by kernel_rfl) ?_
      have hk3:ms.length < b.ss.length:=by omega
      have hp1:=(Cd (hv.stp hk3)).2.2.2.2
      have z1:=D2 hp1
      have y1:=Co hp1
      have hmo:=mod_nn (m:=m2) z1.1
      have hdi:=div_nn hm20 z1.1
      have htm:m2.tmod (Dp (b.ss.getD ms.length default).g)=m2 % Dp (b.ss.getD ms.length default).g:=Int.tmod_eq_emod_of_nonneg hm20
      have htd:m2.tdiv (Dp (b.ss.getD ms.length default).g)=m2 / Dp (b.ss.getD ms.length default).g:=Int.tdiv_eq_ediv_of_nonneg hm20
      simp (disch:=omega) only [amL,amT,sA,sB,sF,↓reduceIte,reduceCtorEq]
      repeat' first | (refine Al (by kernel_rfl) rfl (by first | exact Px (b.vs.getD gs.length default).g (by omega) (by omega) | exact Px (b.vs.getD gs.length default).d (by omega) (by omega) | exact Px (b.ss.getD ms.length default).g (by omega) (by omega)) (by first | exact .inl rfl | exact .inr (.inl rfl)) ?_ ; simp (disch:=omega) only [htm,amL,amT,sA,sB,sE,sF,↓reduceIte,reduceCtorEq])
      refine hK20 _ ?_
      refine Ab ?_
      simp (disch:=omega) only [amL,amT,sA,sB,sF,↓reduceIte]
      repeat' first | (refine Al (by kernel_rfl) rfl (by first | exact Px (b.vs.getD gs.length default).g (by omega) (by omega) | exact Px (b.vs.getD gs.length default).d (by omega) (by omega) | exact Px (b.ss.getD ms.length default).g (by omega) (by omega)) (by first | exact .inl rfl | exact .inr (.inl rfl)) ?_ ; simp (disch:=omega) only [htd,amL,amT,sA,sF,↓reduceIte])
      refine hK18 _ ?_
      refine Ab ?_
      simp (disch:=omega) only [amL,amT,sA,sF,↓reduceIte]
      refine hK15 (ms++[(b.ss.getD ms.length default).g.lo+m2 % Dp (b.ss.getD ms.length default).g],m2 / Dp (b.ss.getD ms.length default).g) _ ?_ ?_ (B0 ?_ ?_ ?_ ?_)
      all_goals (try simp (disch:=omega) only [amL,sF,sG,↓reduceIte])
      all_goals first | omega | exact ⟨by simp; omega,⟨by omega,by omega⟩,nthS_step (by omega) hr2 _ rfl⟩ | (simp; omega) | (rw [List.length_append]; rfl) | (rw [List.map_append]; rfl) | (simp; done) | trace_state
    ·first
     | exact Bool.noConfusion h
     |skip
      try simp only [decide_eq_false_iff_not] at h
      refine Bc ?_
      refine hK13 _ ?_
      refine Aa fun K21 hK21=>?_
      refine Ab ?_
      simp (disch:=omega) only [amL,amT,sB,sF,↓reduceIte]
      refine hK21 _ ?_
      refine Ae ?_
      try simp (disch:=omega) only [amL,amT,sB,sF,↓reduceIte]
      have e1:=acc_end (by omega) hr
      have e2:=nthS_end (by omega) hr2
      unfold nthX
      rw [e1]
      dsimp only
      rw [e2,List.take_of_length_le (by simp),List.take_of_length_le (by simp),List.take_of_length_le (by simp)]
theorem c_lthin0 (b:Cx):Bj Tryz.prog 13 [avB b,.agg [Dk,Dk,Dk]] (bl (Ai5 b ⟨[],[],[]⟩)):=by
  refine A7 (v:=[]) (q:=[]) (N:=33) (rs:=[.tmp 4]) Tryz.func13 rfl rfl rfl rfl rfl ?_
  refine Aa fun K1 hK1=>?_
  refine Ab ?_
  simp (disch:=omega) only [amL,sA,sB,sF,↓reduceIte,reduceCtorEq]
  refine hK1 _ ?_
  refine Aa fun K2 hK2=>?_
  refine Ab ?_
  simp (disch:=omega) only [amL,amT,sA,sF,↓reduceIte,reduceCtorEq]
  repeat' first | (refine Cn (fun h=>?_) (fun h=>?_) <;> simp (disch:=omega) only [h,amL,amT,sA,sF,sL,↓reduceIte,reduceCtorEq]) | (refine Bo (fun h=>?_) (fun h=>?_) <;> simp (disch:=omega) only [h,amL,amT,sA,sB,sC,sD,sE,sF,sG,sH,sI,sJ,sK,sL,sM,sN,sO,↓reduceIte,reduceCtorEq])
  all_goals
   skip
   refine hK2 _ ?_
   refine Ae ?_
   try simp (disch:=omega) only [amL,↓reduceIte]
   all_goals first | (simp only [Ai5, *,decide_true,decide_false,Bool.true_and,Bool.false_and]; done) | (simp_all [Ai5]; done) | (simp_all [Ai5]; omega)
theorem thin0 {b:Cx} {t:Tru} (h:Ai5 b t=true):b.vs.length < 1000000∧b.ss.length < 1000000:=by
  simp only [Ai5,Bool.and_eq_true,decide_eq_true_eq] at h
  omega
def readyB (b:Cx):Bool:=Ai5 b ⟨[],[],[]⟩&&decide (B5 b=0)
theorem c_lready (b:Cx):Bj Tryz.prog 42 [avB b] (bl (readyB b)):=by
  refine A7 (v:=[]) (q:=[]) (N:=11) (rs:=[.tmp 2]) Tryz.func42 rfl rfl rfl rfl rfl ?_
  refine Aa fun K1 hK1=>?_
  refine Ab ?_
  simp (disch:=omega) only [amL,sA,↓reduceIte]
  refine hK1 _ ?_
  refine Aa fun K2 hK2=>?_
  refine Ab ?_
  simp (disch:=omega) only [amL,amT,sA,sB,sF,↓reduceIte]
  repeat' first | (refine Cn (fun h=>?_) (fun h=>?_) <;> simp (disch:=omega) only [h,amL,amT,sA,sB,sC,sD,sE,sF,sG,sH,sI,sJ,sK,sL,sM,sN,sO,↓reduceIte,reduceCtorEq]) | (refine Bo (fun h=>?_) (fun h=>?_) <;> simp (disch:=omega) only [h,amL,amT,sA,sB,sF,↓reduceIte]) | (refine Al (by kernel_rfl) rfl (c_lthin0 b) (by first | exact .inl rfl | exact .inr (.inl rfl)) ?_ ; simp (disch:=omega) only [amL,sA,↓reduceIte]) | (refine Al (by kernel_rfl) rfl (Bf5 b (thin0 (by assumption)).1 (thin0 (by assumption)).2) (by first | exact .inl rfl | exact .inr (.inl rfl)) ?_ ; simp (disch:=omega) only [amL,amT,sA,sF,↓reduceIte])
  all_goals
   skip
   refine hK2 _ ?_
   refine Ae ?_
   try simp (disch:=omega) only [amL,↓reduceIte]
   all_goals first | (simp_all [readyB]; done) | trace_state
theorem c_lbr {b:Cx} (hv:Ja b):Bj Tryz.prog 16 [avB b] (avB b):=Bgs b (Nat.lt_of_le_of_lt hv.nv (by decide)) (Nat.lt_of_le_of_lt hv.ns (by decide))
end AM.Try
end
/- The statements: brewhouses, truths, readings that are read. -/
section
namespace AM.Try
open Go AM AM.Wort Go.ChangeShapes Go.WideShapes Go.ChangeAt Go.RowKit Go.Proofs
open Nat renaming reduceLT→sA,reduceAdd→sB,reduceMul→sC,reduceSub→sD,reduceLeDiff→sE,reduceEqDiff→sF,reduceBEq→sG
open Int renaming reduceAdd→sH,reduceSub→sI,reduceMul→sJ,reduceLT→sK,reduceLE→sL,reduceNeg→sM,reduceToNat→sN,reduceEq→sO
set_option maxRecDepth 100000
section
variable {H:Type} {enc:TypeId × Value→H} {W:World} {base:Nat} {v:Value} {d:DataW H} {p:List MemPlace}
theorem open_stps (hv:Value.okWide Tryz.prog W .any base 23 v) (h:DataW.Trod enc Tryz.prog W 0 (fun _=>true) true 23 v d p):∃ l:List Stp,(∀ m ∈ l,Ayk m)∧∀ θ,Aq θ (fun _=>False) W (.p (slS l)) v:=by
 obtain ⟨R,h1,h2⟩:=open_rows Tryz.underlying23 (by kernel_rfl) flS hv h
 exact ⟨R.map mkS,R6 h1 mkS _ Bae,fun θ=>by show Aq _ _ _ (.p (.sl ((R.map mkS).map Qc))) _; rw [Nz h1 mkS Qc Auk]; exact h2 θ⟩
end
end AM.Try
end
/- The program: ProvePlan. -/
section
namespace AM.Try
open Go AM AM.Wort Go.Proofs
open Nat renaming reduceLT→sA,reduceAdd→sB,reduceMul→sC,reduceSub→sD,reduceLeDiff→sE,reduceEqDiff→sF,reduceBEq→sG
open Int renaming reduceAdd→sH,reduceSub→sI,reduceMul→sJ,reduceLT→sK,reduceLE→sL,reduceNeg→sM,reduceToNat→sN,reduceEq→sO
set_option maxRecDepth 100000
set_option maxHeartbeats 16000000
theorem ns_of {x:Bool} (h:(!x)=false):x=true:=by simpa using h
theorem c_prove (b:Cx) (l:List Stp) (g k most:Int) (hl:b.vs.length < 1000000) (hl2:b.ss.length < 1000000) (hl3:l.length < 1000000) (hin:∀ s ∈ l,inR s.kind=true∧inR s.frm=true∧inR s.to=true∧inR s.g.lo=true∧inR s.g.hi=true):Bj Tryz.prog 35 [avB b,.p (slS l),i64 g,i64 k,i64 most] (bl (proveS b l g k most)):=by
  refine A7 (v:=[60,81,88,84]) (q:=[]) (N:=92) (rs:=[.tmp 10]) Tryz.func35 rfl rfl rfl rfl rfl ?_
  have hfx:=Bb0 b.vs
  have hw4:(Ld b.vs).length=4:=by unfold Ld; split; exact Tm; rfl
  refine Aa fun K1 hK1=>?_
  refine Ab ?_
  simp (disch:=(first | assumption | omega)) only [amL,sA,sB,↓reduceIte]
  refine hK1 _ ?_
  refine Aa fun K2 hK2=>?_
  refine Aa fun K3 hK3=>?_
  refine Ab ?_
  simp (disch:=(first | assumption | omega)) only [amL,amT,sA,sB,sF,sG,↓reduceIte]
  repeat' first | (refine Cn (fun h=>?_) (fun h=>?_) <;> simp (disch:=(first | assumption | omega)) only [h,amL,amT,sA,sF,sG,↓reduceIte,reduceCtorEq]) | (refine Bo (fun h=>?_) (fun h=>?_) <;> simp (disch:=(first | assumption | omega)) only [h,hfx,Ahj,B6,A2,Eu,L8,ne_eq,amL,amT,sA,sB,sC,sD,sE,sF,sG,sH,sI,sJ,sK,sL,sM,sN,sO,↓reduceIte,reduceCtorEq]) | (refine Al (by kernel_rfl) rfl (Aja b hl hl2) (by first | exact .inl rfl | exact .inr (.inl rfl)) ?_ ; simp (disch:=(first | assumption | omega)) only [ne_eq,amL,amT,sA,↓reduceIte]) | (refine Al (by kernel_rfl) rfl (c_wort g k) (by first | exact .inl rfl | exact .inr (.inl rfl)) ?_ ; simp (disch:=(first | assumption | omega)) only [amL,sA,sF,↓reduceIte])
  all_goals
   skip
   refine hK3 _ ?_
   refine Ag rfl (fun h=>?_) (fun h=>?_)
   ·first
    | exact Bool.noConfusion h
    |skip
     try simp only [Bool.not_eq_true'] at h
     refine Aa fun K4 hK4=>?_
     refine Ab ?_
     simp (disch:=(first | assumption | omega)) only [amL,sA]
     refine hK4 _ ?_
     refine Ae ?_
     try simp (disch:=(first | assumption | omega)) only [amL,↓reduceIte]
     all_goals first | exact (congrArg bl (plan_no (by omega) (.inr (by assumption)) hr)).symm | exact (congrArg bl (plan_no (by omega) (.inl (by first | (simp_all [planOk]; done) | fail)) hr)).symm | (rw [prove_no (by first | exact .inl (by assumption) | exact .inr (.inl (by omega)) | exact .inr (.inr (.inl (by assumption))) | exact .inr (.inr (.inr (.inl (by assumption)))) | (simp_all; done))]; done) | (rw [← hr,plan_end (by omega) rfl]; done) | trace_state
   ·first
    | exact Bool.noConfusion h
    |skip
     try simp only [Bool.not_eq_false'] at h
     refine Ah ?_
     refine hK2 _ ?_
     refine Aa fun K5 hK5=>?_
     refine Ab ?_
     have hf0:B5 b=0:=by omega
     have hval:=Acu hf0
     simp (disch:=(first | assumption | omega)) only [amL,amT,sA,sB,sF,sG,↓reduceIte]
     refine A6 [(1,.p (slS l)),(2,i64 g),(3,i64 k),(5,.ptr 5 0),(10,bl false)] (by decide) (Ed (b:=b) (bd:=92)) (M8 rfl) (by decide) (fun res os2 hR hcl2 hlv2=>?_)
     obtain ⟨rfl,rfl⟩:=hR
     simp (disch:=(first | assumption | omega)) only [amL,sA,sB,sF,↓reduceIte,reduceCtorEq]
     refine hK5 _ ?_
     refine Aa fun K6 hK6=>?_
     refine Ab ?_
     simp (disch:=(first | assumption | omega)) only [amL,sA,sG,↓reduceIte]
     refine Cv (bd:=140) (by decide) (Atw (ss:=b.ss) (m:=96) ⟨by simp (disch:=(first | assumption | omega)) only [amL,↓reduceIte],by simp (disch:=(first | assumption | omega)) only [amL,sF,↓reduceIte]⟩ hval.nv hval.v) (fun q hq=>by first | exact M8 rfl q (by omega) | (simp (disch:=omega) only [Ad]; exact M8 rfl q (by omega))) (by decide) (by rw [hfx]; exact U4 _ _ _) ?_
     simp (disch:=(first | assumption | omega)) only [hfx,Ahj,A2,amL,amT,sA,sB,sF,↓reduceIte]
     refine hK6 _ ?_
     refine Aa fun K7 hK7=>?_
     refine Aa fun K8 hK8=>?_
     refine Ab ?_
     simp (disch:=(first | assumption | omega)) only [amL,sA,sF,↓reduceIte]
     repeat' first | (refine Cn (fun h=>?_) (fun h=>?_) <;> simp (disch:=(first | assumption | omega)) only [h,hfx,Ahj,B6,A2,Eu,L8,ne_eq,amL,amT,sA,sB,sC,sD,sE,sF,sG,sH,sI,sJ,sK,sL,sM,sN,sO,↓reduceIte,reduceCtorEq]) | (refine Bo (fun h=>?_) (fun h=>?_) <;> simp (disch:=(first | assumption | omega)) only [h,amL,sA,sF,↓reduceIte])
     all_goals
      skip
      refine hK8 _ ?_
      refine Ag rfl (fun h=>?_) (fun h=>?_)
      ·first
       | exact Bool.noConfusion h
       |skip
        try simp only [Bool.not_eq_true'] at h
        refine Aa fun K9 hK9=>?_
        refine Ab ?_
        simp (disch:=(first | assumption | omega)) only [amL,sA]
        refine hK9 _ ?_
        refine Ae ?_
        try simp (disch:=(first | assumption | omega)) only [amL,↓reduceIte]
        all_goals first | exact (congrArg bl (plan_no (by omega) (.inr (by assumption)) hr)).symm | exact (congrArg bl (plan_no (by omega) (.inl (by first | (simp_all [planOk]; done) | fail)) hr)).symm | (rw [prove_no (by first | exact .inl (by assumption) | exact .inr (.inl (by omega)) | exact .inr (.inr (.inl (by assumption))) | exact .inr (.inr (.inr (.inl (by assumption)))) | (simp_all; done))]; done) | (rw [← hr,plan_end (by omega) rfl]; done) | trace_state
      ·first
       | exact Bool.noConfusion h
       |skip
        try simp only [Bool.and_eq_true,Bool.not_eq_false'] at h
        refine Ah ?_
        refine hK7 _ ?_
        refine Aa fun K10 hK10=>?_
        refine Aa fun K11 hK11=>?_
        refine Ab ?_
        simp (disch:=(first | assumption | omega)) only [amL,amT,sA,sF,↓reduceIte]
        refine hK11 _ ?_
        refine Ak ?_
        have h3:Pm g k=true:=by first | assumption | (simp_all; done)
        have h4:Lf b.vs=true:=by first | assumption | (simp_all; done)
        have h5:(Dt b.vs).2=true:=by first | assumption | (simp_all; done)
        have hfw:Ld b.vs=(Dt b.vs).1:=by unfold Ld; rw [if_pos h4]
        have pl0:planF b.vs g k (Ld b.vs) (l.drop 0)=proveS b l g k most:=(prove_eq hf0 (by omega) h3 h4 h5 (by rw [hfw]; rfl)).symm
        refine A5 (α:=Nat × List Liq) (fun x=>⟨T [(1,.p (slS l)),(2,i64 g),(3,i64 k),(5,.ptr 5 0),(10,bl false),(11,.ptr 98 0),(12,.ptr 12 0),(47,.p (slS l)),(48,i64 l.length),(49,i64 (x.1:Int))],O [(5,.cells (cB b)),(12,.cells (cW x.2)),(96,.obj (G5 14 (T0 b.vs))),(98,.cells [.p (slV b.vs),.p (slS b.ss),.mp 96])]⟩) (fun x=>l.length - x.1) (fun x=>x.1≤l.length∧OkV x.2∧planF b.vs g k x.2 (l.drop x.1)=proveS b l g k most) (0,Ld b.vs) ?_ ?_ (fun x hx12 K12 hK12=>?_)
        · exact ⟨Nat.zero_le _,Au8 hval.nv hval.v,pl0⟩
        · refine B0 ?_ ?_ ?_ ?_ <;> (try simp (disch:=(first | assumption | omega)) only [amL,sF,sG,↓reduceIte]); all_goals first | rfl | exact Ape _ | trace_state
        obtain ⟨i,v⟩:=x; dsimp only at hx12 ⊢; obtain ⟨hi,hov,hr⟩:=hx12; have hv4:v.length=4:=hov.len
        refine Aa fun K13 hK13=>?_
        refine Ab ?_
        simp (disch:=(first | assumption | omega)) only [amL,amT,sA,sF,↓reduceIte]
        refine hK13 _ ?_
        refine Aa fun K14 hK14=>?_
        refine Ag rfl (fun h=>?_) (fun h=>?_)
        ·first
         | exact Bool.noConfusion h
         |skip
          try simp only [decide_eq_true_eq] at h
          refine Ah ?_
          refine hK14 _ ?_
          refine Aa fun K15 hK15=>?_
          refine Ak ?_
          refine Aa fun K16 hK16=>?_
          refine Ab ?_
          simp (disch:=(first | assumption | omega)) only [Eu,amL,amT,sA,sB,sF,↓reduceIte]
          refine hK16 _ ?_
          refine Aa fun K17 hK17=>?_
          refine Aa fun K18 hK18=>?_
          refine Ab ?_
          simp (disch:=(first | assumption | omega)) only [amL,amT,sA,sB,sF,sG,↓reduceIte]
          repeat' first | (refine Cn (fun h=>?_) (fun h=>?_) <;> simp (disch:=(first | assumption | omega)) only [h,amL,amT,sA,sB,sF,sG,↓reduceIte,reduceCtorEq]) | (refine Bo (fun h=>?_) (fun h=>?_) <;> simp (disch:=(first | assumption | omega)) only [h,amL,amT,sA,sF,↓reduceIte,reduceCtorEq]) | (refine Al (by kernel_rfl) rfl (Azn b (l.getD i default) hl) (by first | exact .inl rfl | exact .inr (.inl rfl)) ?_ ; simp (disch:=(first | assumption | omega)) only [amL,sA,↓reduceIte]) | (refine Al (by kernel_rfl) rfl (Ahr (l.getD i default).g (by have:=Co (Cd (ns_of (by assumption:(!Dm (b.vs.length:Int) (l.getD i default))=false))).2.2.2.2; omega) (by have:=Co (Cd (ns_of (by assumption:(!Dm (b.vs.length:Int) (l.getD i default))=false))).2.2.2.2; omega)) (by first | exact .inl rfl | exact .inr (.inl rfl)) ?_ ; simp (disch:=(first | assumption | omega)) only [amL,amT,sA,sF,↓reduceIte])
          all_goals
           skip
           refine hK18 _ ?_
           refine Ag rfl (fun h=>?_) (fun h=>?_)
           ·first
            | exact Bool.noConfusion h
            |skip
             try simp only [decide_eq_true_eq] at h
             refine Aa fun K19 hK19=>?_
             refine Ab ?_
             simp (disch:=(first | assumption | omega)) only [amL,sA]
             refine hK19 _ ?_
             refine Ae ?_
             try simp (disch:=(first | assumption | omega)) only [amL,↓reduceIte]
             all_goals first | exact (congrArg bl (plan_no (by omega) (.inr (by assumption)) hr)).symm | exact (congrArg bl (plan_no (by omega) (.inl (by first | (simp_all [planOk]; done) | fail)) hr)).symm | (rw [prove_no (by first | exact .inl (by assumption) | exact .inr (.inl (by omega)) | exact .inr (.inr (.inl (by assumption))) | exact .inr (.inr (.inr (.inl (by assumption)))) | (simp_all; done))]; done) | (rw [← hr,plan_end (by omega) rfl]; done) | trace_state
           ·first
            | exact Bool.noConfusion h
            |skip
             try simp only [decide_eq_false_iff_not] at h
             refine Ah ?_
             refine hK17 _ ?_
             refine Aa fun K20 hK20=>?_
             refine Ab ?_
             simp (disch:=(first | assumption | omega)) only [amL,sA]
             refine hK20 _ ?_
             refine Aa fun K21 hK21=>?_
             refine Ab ?_
             simp (disch:=(first | assumption | omega)) only [B6,A2,amL,amT,sA,sB,sF,sG,↓reduceIte,reduceCtorEq]
             obtain ⟨hst,hk2,hsz,hlo⟩:=planOk_parts (n:=b.vs.length) (s:=l.getD i default) (by first | (simp_all [planOk]; done) | fail)
             obtain ⟨q1,q2,q3,q4,q5⟩:=Cd hst
             have y5:=Co q5
             have hnv:=hval.nv
             have hd4:(doS b.vs v (l.getD i default) (l.getD i default).g.lo).1.length=4:=by rw [Aba]; exact hv4
             have hm:=hin _ (AM.Wort.Em default (show i < l.length by omega))
             refine Cv (bd:=140) (by decide) (Bgz (ss:=b.ss) (m:=96) (s:=l.getD i default) ⟨by simp (disch:=(first | assumption | omega)) only [amL,sF,↓reduceIte],by simp (disch:=(first | assumption | omega)) only [amL,sF,↓reduceIte]⟩ hov.len hov.small hnv q1 ⟨q2.1,by omega⟩ ⟨q3.1,by omega⟩ ⟨by omega,by omega⟩ (Bfq hm hm.2.2.2.1 hov.small)) (fun q hq=>by first | exact M8 rfl q (by omega) | (simp (disch:=omega) only [Ad]; exact M8 rfl q (by omega))) (by decide) (Ey _ _) ?_
             simp (disch:=(first | assumption | omega)) only [A2,amL,amT,sA,sF,↓reduceIte]
             refine hK21 _ ?_
             refine Aa fun K22 hK22=>?_
             refine Ab ?_
             simp (disch:=(first | assumption | omega)) only [amL,sA,↓reduceIte]
             refine hK22 _ ?_
             refine Ag rfl (fun h=>?_) (fun h=>?_)
             ·first
              | exact Bool.noConfusion h
              |skip
               try simp only [Bool.not_eq_true'] at h
               refine Aa fun K23 hK23=>?_
               refine Ab ?_
               simp (disch:=(first | assumption | omega)) only [amL,sA]
               refine hK23 _ ?_
               refine Ae ?_
               try simp (disch:=(first | assumption | omega)) only [amL,↓reduceIte]
               all_goals first | exact (congrArg bl (plan_no (by omega) (.inr (by assumption)) hr)).symm | exact (congrArg bl (plan_no (by omega) (.inl (by first | (simp_all [planOk]; done) | fail)) hr)).symm | (rw [prove_no (by first | exact .inl (by assumption) | exact .inr (.inl (by omega)) | exact .inr (.inr (.inl (by assumption))) | exact .inr (.inr (.inr (.inl (by assumption)))) | (simp_all; done))]; done) | (rw [← hr,plan_end (by omega) rfl]; done) | trace_state
             ·first
              | exact Bool.noConfusion h
              |skip
               try simp only [Bool.not_eq_false'] at h
               refine Ah ?_
               refine hK15 _ ?_
               refine Ab ?_
               simp (disch:=(first | assumption | omega)) only [amL,amT,sA,sF,↓reduceIte]
               refine hK12 (i+1,(doS b.vs v (l.getD i default) (l.getD i default).g.lo).1) _ ?_ ?_ (B0 ?_ ?_ ?_ ?_)
               all_goals (try simp (disch:=(first | assumption | omega)) only [amL,sF,sG,↓reduceIte])
               all_goals first | omega | exact Ape _ | exact congrArg AO.cells (Cr (by omega)) | exact ⟨by omega,Ajk hov hnv hval.v hst (by omega) (by assumption),plan_step (by omega) (by simp only [planOk,hst,hk2,hsz,hlo,decide_false,Bool.not_false,Bool.and_self]) (by assumption) hr⟩ | trace_state
        ·first
         | exact Bool.noConfusion h
         |skip
          try simp only [decide_eq_false_iff_not] at h
          refine Bc ?_
          refine hK10 _ ?_
          refine Aa fun K24 hK24=>?_
          refine Ab ?_
          simp (disch:=(first | assumption | omega)) only [B6,A2,amL,amT,sA,sF,sG,↓reduceIte]
          refine Cv (bd:=140) (by decide) (Auw (vs:=b.vs) (ss:=b.ss) (v:=v) (g:=g) (k:=k) (m:=96) (by simp (disch:=(first | assumption | omega)) only [amL,sF,↓reduceIte]) hval.nv hov.small hov.len) (fun q hq=>by first | exact M8 rfl q (by omega) | (simp (disch:=omega) only [Ad]; exact M8 rfl q (by omega))) (by decide) rfl ?_
          simp (disch:=(first | assumption | omega)) only [amL,sA,↓reduceIte]
          refine hK24 _ ?_
          refine Ae ?_
          try simp (disch:=(first | assumption | omega)) only [amL,↓reduceIte]
          all_goals first | exact (congrArg bl (plan_no (by omega) (.inr (by assumption)) hr)).symm | exact (congrArg bl (plan_no (by omega) (.inl (by first | (simp_all [planOk]; done) | fail)) hr)).symm | (rw [prove_no (by first | exact .inl (by assumption) | exact .inr (.inl (by omega)) | exact .inr (.inr (.inl (by assumption))) | exact .inr (.inr (.inr (.inl (by assumption)))) | (simp_all; done))]; done) | (rw [← hr,plan_end (by omega) rfl]; done) | trace_state
theorem c_rhas (v:List Liq) (g k:Int) (hl:v.length < 1000000):Bj Tryz.prog 39 [.p (.sl (stL v)),i64 g,i64 k] (bl (hasX v g k)):=by
  rw [Aa4]
  refine A7 (v:=[]) (q:=[]) (N:=30) (rs:=[.tmp 6]) Tryz.func39 rfl rfl rfl rfl rfl ?_
  refine Aa fun K1 hK1=>?_
  refine Ab ?_
  simp (disch:=(first | omega | (simp only [List.length_map]; omega))) only [amL,sA,sB]
  refine hK1 _ ?_
  refine Aa fun K2 hK2=>?_
  refine Aa fun K3 hK3=>?_
  refine Ab ?_
  simp (disch:=(first | omega | (simp only [List.length_map]; omega))) only [amL,sA]
  refine hK3 _ ?_
  refine Ak ?_
  skip
  refine A5 (α:=Nat) (fun i=>⟨T [(0,.p (.sl ((v.map L1).map H5))),(1,i64 g),(2,i64 k),(7,i64 (i:Int))],O []⟩) (fun i=>v.length - i) (fun i=>i≤v.length∧hasX (v.drop i) g k=hasX v g k) 0 ?_ ?_ (fun i hx4 K4 hK4=>?_)
  · exact ⟨Nat.zero_le _,rfl⟩
  · refine B0 ?_ ?_ ?_ ?_ <;> (try simp (disch:=(first | omega | (simp only [List.length_map]; omega))) only [amL,sF,↓reduceIte,reduceCtorEq]); all_goals first | rfl | trace_state
  obtain ⟨hi,hr⟩:=hx4
  refine Aa fun K5 hK5=>?_
  refine Aa fun K6 hK6=>?_
  refine Ab ?_
  simp (disch:=(first | omega | (simp only [List.length_map]; omega))) only [List.length_map,amL,amT,sA,sF,↓reduceIte,reduceCtorEq]
  refine hK6 _ ?_
  refine Ag rfl (fun h=>?_) (fun h=>?_)
  ·first
   | exact Bool.noConfusion h
   |skip
    try simp only [decide_eq_true_eq] at h
    refine Ah ?_
    refine hK5 _ ?_
    refine Aa fun K7 hK7=>?_
    refine Ak ?_
    refine Aa fun K8 hK8=>?_
    refine Ab ?_
    simp (disch:=(first | omega | (simp only [List.length_map]; omega))) only [A1,Aei,Hw,staK0,List.length_map,amL,amT,sA,sB,sF,↓reduceIte,reduceCtorEq]
    repeat' first | (refine Cn (fun h=>?_) (fun h=>?_) <;> simp (disch:=(first | omega | (simp only [List.length_map]; omega))) only [h,A1,Aei,staK0,List.length_map,amL,amT,sA,sB,sF,↓reduceIte,reduceCtorEq]) | (refine Bo (fun h=>?_) (fun h=>?_) <;> simp (disch:=(first | omega | (simp only [List.length_map]; omega))) only [h,A1,Aei,Hw,staK0,List.length_map,amL,amT,sA,sB,sC,sD,sE,sF,sG,sH,sI,sJ,sK,sL,sM,sN,sO,↓reduceIte,reduceCtorEq])
    all_goals
     skip
     refine hK8 _ ?_
     refine Ag rfl (fun h=>?_) (fun h=>?_)
     ·first
      | exact Bool.noConfusion h
      |skip
       try simp only [decide_eq_true_eq] at h
       refine Aa fun K9 hK9=>?_
       refine Ab ?_
       simp (disch:=(first | omega | (simp only [List.length_map]; omega))) only [amL,sA]
       refine hK9 _ ?_
       refine Ae ?_
       try simp (disch:=(first | omega | (simp only [List.length_map]; omega))) only [amL,↓reduceIte]
       all_goals first | (rw [← hr,has_yes (by omega) (by omega) (by omega)]; done) | (rw [← hr,has_end (by omega)]; done) | trace_state
     ·first
      | exact Bool.noConfusion h
      |skip
       try simp only [decide_eq_false_iff_not] at h
       refine Ah ?_
       refine hK7 _ ?_
       refine Ab ?_
       simp (disch:=(first | omega | (simp only [List.length_map]; omega))) only [amL,amT,sA,sF,↓reduceIte,reduceCtorEq]
       refine hK4 (i+1) _ ?_ ?_ (B0 ?_ ?_ ?_ ?_)
       all_goals (try simp (disch:=(first | omega | (simp only [List.length_map]; omega))) only [amL,sF,↓reduceIte,reduceCtorEq])
       all_goals first | omega | exact ⟨by omega,has_step (by omega) (by omega) hr⟩ | trace_state
  ·first
   | exact Bool.noConfusion h
   |skip
    try simp only [decide_eq_false_iff_not] at h
    refine Bc ?_
    refine hK2 _ ?_
    refine Aa fun K10 hK10=>?_
    refine Ab ?_
    simp (disch:=(first | omega | (simp only [List.length_map]; omega))) only [amL,sA]
    refine hK10 _ ?_
    refine Ae ?_
    try simp (disch:=(first | omega | (simp only [List.length_map]; omega))) only [amL,↓reduceIte]
    all_goals first | (rw [← hr,has_yes (by omega) (by omega) (by omega)]; done) | (rw [← hr,has_end (by omega)]; done) | trace_state
def mixV (vs:List Ves) (k:Nat):List Ves:=(vs.take k).map fixV++vs.drop k
theorem mix_len (vs:List Ves) (k:Nat):(mixV vs k).length=vs.length:=by unfold mixV; simp; omega
theorem mix_at {vs:List Ves} {k:Nat} (h:k < vs.length):(mixV vs k).getD k default=vs.getD k default:=by
  unfold mixV
  rw [List.getD_eq_getElem?_getD,List.getElem?_append_right (by simp; omega)]
  simp [Nat.min_eq_left (Nat.le_of_lt h),List.getD]
theorem mix_set {vs:List Ves} {k:Nat} (h:k < vs.length):(mixV vs k).set k (fixV (vs.getD k default))=mixV vs (k+1):=by
  unfold mixV
  rw [List.set_append_right _ _ (by simp; omega),List.take_add_one,List.getElem?_eq_getElem h,List.map_append,List.drop_eq_getElem_cons h]
  simp [Nat.min_eq_left (Nat.le_of_lt h),List.getD,h]
  rw [List.drop_eq_getElem_cons h]; rfl
theorem mix_end (vs:List Ves):mixV vs vs.length=vs.map fixV:=by unfold mixV; simp
theorem encV_all (l:List Ves):((l.map Aex).all fun c=>decide (c.length=5))=true:=by simp
theorem encV_setM {S:List Ves} {k:Nat} {a b c d e:Int}:(S.map Aex).set k [iv a,iv b,iv c,iv d,iv e]=(S.set k ⟨⟨a,b⟩,⟨c,d⟩,e⟩).map Aex:=by rw [List.map_set]
theorem getV_eq {S:List Ves} {k:Nat} {a:Ves} (h:k < S.length):(S.set k a).getD k default=a:=by
  rw [List.getD_eq_getElem?_getD,List.getElem?_set_self h]; rfl
theorem c_lfixed (b:Cx) (hl:b.vs.length < 1000000):Bj Tryz.prog 52 [avB b] (avB (fixB b)):=by
  refine A7 (v:=[]) (q:=[]) (N:=42) (rs:=[.cell 2 25]) Tryz.func52 rfl rfl rfl rfl rfl ?_
  refine Aa fun K1 hK1=>?_
  refine Ab ?_
  simp (disch:=(first | omega | (simp only [List.length_set,mix_len]; omega))) only [amL,amT,sA,sB,sF,↓reduceIte]
  refine hK1 _ ?_
  refine Aa fun K2 hK2=>?_
  refine Ab ?_
  simp (disch:=(first | omega | (simp only [List.length_set,mix_len]; omega))) only [amL,amT,sA,sB,sF,↓reduceIte]
  refine hK2 _ ?_
  refine Aa fun K3 hK3=>?_
  refine Ab ?_
  simp (disch:=(first | omega | (simp only [List.length_set,mix_len]; omega))) only [encV_all,amL,amT,sA,sB,sE,sF,↓reduceIte,reduceCtorEq]
  refine hK3 _ ?_
  refine Aa fun K4 hK4=>?_
  refine Aa fun K5 hK5=>?_
  refine Ab ?_
  simp (disch:=(first | omega | (simp only [List.length_set,mix_len]; omega))) only [amL,sA]
  refine hK5 _ ?_
  refine Ak ?_
  skip
  refine A5 (α:=Nat) (fun k=>⟨T [(1,.ptr 1 0),(2,.ptr 2 0),(3,.ptr 3 0),(4,i64 (k:Int))],O [(1,.cells (cB b)),(2,.cells [Dk,Dk]),(3,.cells [.own 10 b.vs.length,.p (slS b.ss)]),(10,.arr 5 ((mixV b.vs k).map Aex))]⟩) (fun k=>b.vs.length - k) (fun k=>k≤b.vs.length) 0 ?_ ?_ (fun k hx6 K6 hK6=>?_)
  · exact Nat.zero_le _
  · refine B0 ?_ ?_ ?_ ?_ <;> (try simp (disch:=(first | omega | (simp only [List.length_set,mix_len]; omega))) only [amL,sF,sG,↓reduceIte]); all_goals first | rfl | (simp [mixV]; done) | trace_state
  have hk:=hx6
  refine Aa fun K7 hK7=>?_
  refine Aa fun K8 hK8=>?_
  refine Ab ?_
  simp (disch:=(first | omega | (simp only [List.length_set,mix_len]; omega))) only [amL,amT,sA,sF,↓reduceIte,reduceCtorEq]
  refine hK8 _ ?_
  refine Ag rfl (fun h=>?_) (fun h=>?_)
  ·first
   | exact Bool.noConfusion h
   |skip
    try simp only [decide_eq_true_eq] at h
    refine Ah ?_
    refine hK7 _ ?_
    refine Aa fun K9 hK9=>?_
    refine Ak ?_
    refine Aa fun K10 hK10=>?_
    refine Ab ?_
    simp (disch:=(first | omega | (simp only [List.length_set,mix_len]; omega))) only [mix_len,amL,amT,sA,sF,↓reduceIte,reduceCtorEq]
    refine hK10 _ ?_
    refine Bg (by kernel_rfl) (by kernel_rfl) ?_
    simp (disch:=(first | omega | (simp only [List.length_set,mix_len]; omega))) only [A0,encV_setM,mix_at,mix_len,getV_eq,List.set_set,List.length_set,amL,amT,sA,sB,sE,sF,↓reduceIte,reduceCtorEq]
    refine hK9 _ ?_
    refine Ab ?_
    simp (disch:=(first | omega | (simp only [List.length_set,mix_len]; omega))) only [amL,amT,sA,sF,↓reduceIte]
    refine hK6 (k+1) _ ?_ ?_ (B0 ?_ ?_ ?_ ?_)
    all_goals (try simp (disch:=(first | omega | (simp only [List.length_set,mix_len]; omega))) only [amL,sF,sG,↓reduceIte])
    all_goals first | omega | exact congrArg (AO.arr 5) (congrArg (List.map Aex) (mix_set (by omega))) | trace_state
  ·first
   | exact Bool.noConfusion h
   |skip
    try simp only [decide_eq_false_iff_not] at h
    refine Bc ?_
    refine hK4 _ ?_
    refine Aa fun K11 hK11=>?_
    refine Ab ?_
    simp (disch:=(first | omega | (simp only [List.length_set,mix_len]; omega))) only [amL,amT,sB,sF,↓reduceIte]
    refine hK11 _ ?_
    refine Ae ?_
    try simp (disch:=(first | omega | (simp only [List.length_set,mix_len]; omega))) only [mix_len,amL,amT,sB,sF,↓reduceIte]
    (obtain rfl:k=b.vs.length:=by omega) ; rw [List.take_of_length_le (by rw [List.length_map,mix_len]; exact Nat.le_refl _),mix_end] ; rfl
theorem stp_in {l:List Stp} (h:∀ s ∈ l,Ayk s):∀ s ∈ l,inR s.kind=true∧inR s.frm=true∧inR s.to=true∧inR s.g.lo=true∧inR s.g.hi=true:=fun s hs=>by
  obtain ⟨h1,h2,h3,h4,h5⟩:=h s hs
  exact ⟨h1,h2,h3,h4,h5⟩
theorem prove_f {b:Cx} {l:List Stp} {g k most:Int} (h:proveS b l g k most=false) (hx:Ja b) (hl:l.length < 1000000) (hin:∀ s ∈ l,inR s.kind=true∧inR s.frm=true∧inR s.to=true∧inR s.g.lo=true∧inR s.g.hi=true):Bj Tryz.prog 35 [avB b,.p (slS l),i64 g,i64 k,i64 most] (bl false):=by
  have:=c_prove b l g k most (Nat.lt_of_le_of_lt hx.nv (by decide)) (Nat.lt_of_le_of_lt hx.ns (by decide)) hl hin
  rwa [h] at this
theorem prove_t {b:Cx} {l:List Stp} {g k most:Int} (h:proveS b l g k most=true) (hx:Ja b) (hl:l.length < 1000000) (hin:∀ s ∈ l,inR s.kind=true∧inR s.frm=true∧inR s.to=true∧inR s.g.lo=true∧inR s.g.hi=true):Bj Tryz.prog 35 [avB b,.p (slS l),i64 g,i64 k,i64 most] (bl true):=by
  have:=c_prove b l g k most (Nat.lt_of_le_of_lt hx.nv (by decide)) (Nat.lt_of_le_of_lt hx.ns (by decide)) hl hin
  rwa [h] at this
theorem prove_plan {b:Cx} {l:List Stp} {g k most:Int} (h:planF b.vs g k (Dt b.vs).1 l=false):proveS b l g k most=false:=by
  unfold proveS; rw [h]; simp
theorem prove_len {b:Cx} {l:List Stp} {g k most:Int} (h:¬ (l.length:Int)≤most):proveS b l g k most=false:=prove_no (.inr (.inl h))
theorem few_bad {b:Cx} {g k:Int} (hf:B5 b=0) (h1:Lf b.vs=true) (h2:Pm g k=true) (h:(Dt b.vs).2=false∨Apz b.vs g k (Dt b.vs).1=none):Jh b g k=.tup [Dk,i64 10]:=by
  unfold Jh
  rw [if_neg (by omega),if_neg (by rw [h1,h2]; decide)]
  split
  · rfl
  · rename_i h3
    rcases h with h | h
    · exact absurd h h3
    · rw [h]
theorem few_good {b:Cx} {g k:Int} {p:List Stp} (hf:B5 b=0) (h1:Lf b.vs=true) (h2:Pm g k=true) (h3:(Dt b.vs).2=true) (h:Apz b.vs g k (Dt b.vs).1=some p):Jh b g k=.tup [.p (slS p),i64 0]:=by
  unfold Jh
  rw [if_neg (by omega),if_neg (by rw [h1,h2]; decide),if_neg (by rw [h3]; decide),h]
theorem c_wortFewer (b:Cx) (g0 k0:Nat) (tried:List Stp) (_:Arq b) (hg0:g0 < 256) (hk0:k0 < 256) (hti:∀ s ∈ tried,Ayk s):Bj Tryz.prog 12 [avB b,.p (.val (.int .u8 g0)),.p (.val (.int .u8 k0)),.p (slS tried)] (bl true):=by
  refine A7 (v:=[]) (q:=[]) (N:=127) (rs:=[.tmp 8]) Tryz.func12 rfl rfl rfl rfl rfl ?_
  cases hq:readyB b
  case' true=>
    by_cases h5:(tried.length:Int)≤5
    case' pos=>
      have hf:B5 b=0:=by simp [readyB] at hq; exact hq.2
      have hv:=Acu hf
      have hnv:=hv.nv
      have hx:=fix_valid hv
      have hfx:=fix_fault hf
      have hxn:(fixB b).vs.length≤4:=hx.nv
      obtain ⟨g,hg⟩:∃ g,g=1+(g0:Int) % 60:=⟨_,rfl⟩
      obtain ⟨k,hk⟩:∃ k,k=(k0:Int) % 121:=⟨_,rfl⟩
      have hgt:(g0:Int).tmod 60=(g0:Int) % 60:=Int.tmod_eq_emod_of_nonneg (by omega)
      have hkt:(k0:Int).tmod 121=k:=by rw [hk]; exact Int.tmod_eq_emod_of_nonneg (by omega)
      have hge:1+(g0:Int) % 60=g:=hg.symm
      have hwo:Pm g k=true:=by simp only [Pm,inB,Bool.and_eq_true,decide_eq_true_eq]; omega
      have hti2:=stp_in hti
      have hl0:=nth_listed hx 0
      have hnx:=c_rnth (fixB b) 0 hx (by omega) (by omega)
      have hbx:=Aqt (fixB b) (nthX (fixB b) 0) hx hl0
      have hbl:=(Y6 hx hl0).len hxn
      have hfew:=Ao7 (fixB b) g k (by omega) (Nat.lt_of_le_of_lt hx.ns (by decide))
      have hhas:=c_rhas (Nq (fixB b).vs (nthX (fixB b) 0).g (nthX (fixB b) 0).d) g k (by omega)
      obtain ⟨r1,r2⟩:=first_ref hv
      rw [← r1] at hbx
      cases hw:(Dt (fixB b).vs).2
      case' false=>
        rw [hw] at hbx
        rw [few_bad hfx (fix_one b) hwo (.inl hw)] at hfew
        have hp1:=prove_f (l:=tried) (g:=g) (k:=k) (most:=2) (prove_no (.inr (.inr (.inr (.inr hw))))) hx (by omega) hti2
      case' true=>
        rw [hw] at hbx
        obtain ⟨ho,hm⟩:=r2 hw
        have hm0:=hm g k
        cases hs:Apz (fixB b).vs g k (Dt (fixB b).vs).1
        case' none=>
          rw [few_bad hfx (fix_one b) hwo (.inr hs)] at hfew
          have e0:=few_none' hxn hx.v ho hs (ss:=[]) (by simp)
          have e0:W1 (fixB b).vs.length (Dt (fixB b).vs).1 g k=false:=e0
          rw [← hm0,e0] at hhas
          have hp1:Bj Tryz.prog 35 [avB (fixB b),.p (slS tried),i64 g,i64 k,i64 2] (bl false):=by
            by_cases h2:(tried.length:Int)≤2
            · exact prove_f (prove_plan (few_none' hxn hx.v ho hs (by omega))) hx (by omega) hti2
            · exact prove_f (prove_len h2) hx (by omega) hti2
        case' some p=>
          rw [few_good hfx (fix_one b) hwo hw hs] at hfew
          obtain ⟨p1,p2,p3⟩:=few_some' hxn hx.v ho hs
          have hpi:∀ s ∈ p,inR s.kind=true∧inR s.frm=true∧inR s.to=true∧inR s.g.lo=true∧inR s.g.hi=true:=fun s hs=>planOk_in hxn (plan_all p2 s hs)
          have hp1:=prove_t (b:=fixB b) (l:=p) (g:=g) (k:=k) (most:=(p.length:Int)) (prove_eq hfx (Int.le_refl _) hwo (fix_one b) hw p2) hx (by omega) hpi
          have hp2:=prove_f (b:=fixB b) (l:=p) (g:=g) (k:=k) (most:=(p.length:Int) - 1) (prove_len (by omega)) hx (by omega) hpi
          have hp3:Bj Tryz.prog 35 [avB (fixB b),.p (slS tried),i64 g,i64 k,i64 ((p.length:Int) - 1)] (bl false):=by
            by_cases h2:(tried.length:Int)≤(p.length:Int) - 1
            · exact prove_f (prove_plan (p3 tried (by omega))) hx (by omega) hti2
            · exact prove_f (prove_len h2) hx (by omega) hti2
          by_cases hp0:(p.length:Int)=0
          case' pos=>
            have e0:planF (fixB b).vs g k (Dt (fixB b).vs).1 []=true:=by
              have:p=[]:=List.eq_nil_of_length_eq_zero (by omega)
              rw [this] at p2; exact p2
            rw [hp0] at hp1 hp2 hp3
            rw [show (0:Int) - 1=-1 from rfl] at hp2 hp3
            have e0:W1 (fixB b).vs.length (Dt (fixB b).vs).1 g k=true:=e0
            rw [← hm0,e0] at hhas
          case' neg=>
            have e0:planF (fixB b).vs g k (Dt (fixB b).vs).1 []=false:=p3 [] (by simp; omega)
            have e0:W1 (fixB b).vs.length (Dt (fixB b).vs).1 g k=false:=e0
            rw [← hm0,e0] at hhas
  all_goals
    first | (have hgt:=hgt) | (have hgt:=hq)
    first | (have hkt:=hkt) | (have hkt:=hq)
    first | (have hge:=hge) | (have hge:=hq)
    first | (have hp0:=hp0) | (have hp0:=hq)
    refine Aa fun K1 hK1=>?_
    refine Ab ?_
    simp (disch:=omega) only [amL,sA,sB,↓reduceIte]
    refine hK1 _ ?_
    refine Aa fun K2 hK2=>?_
    refine Aa fun K3 hK3=>?_
    refine Ab ?_
    simp (disch:=omega) only [amL,amT,sA,sB,sF,↓reduceIte]
    repeat' first | (refine Cn (fun h=>?_) (fun h=>?_) <;> simp (disch:=omega) only [h,hq,hgt,hkt,hge,hp0,ne_eq,List.length_map,amL,amT,sA,sB,sC,sD,sE,sF,sG,sH,sI,sJ,sK,sL,sM,sN,sO,↓reduceIte,reduceCtorEq]) | (refine Bo (fun h=>?_) (fun h=>?_) <;> simp (disch:=omega) only [h,hq,hgt,hkt,hge,hp0,ne_eq,List.length_map,amL,amT,sA,sB,sC,sD,sE,sF,sG,sH,sI,sJ,sK,sL,sM,sN,sO,↓reduceIte,reduceCtorEq]) | (refine Al (by kernel_rfl) rfl (c_lready b) (by first | exact .inl rfl | exact .inr (.inl rfl)) ?_ ; simp (disch:=omega) only [hq,List.length_map,amL,amT,sA,sF,↓reduceIte,reduceCtorEq])
    all_goals
     skip
     refine hK3 _ ?_
     refine Ag rfl (fun h=>?_) (fun h=>?_)
     ·first
      | exact Bool.noConfusion h
      | ((try simp only [decide_eq_true_eq] at h) ; exfalso ; omega)
      |skip
       try simp only [decide_eq_true_eq] at h
       refine Aa fun K4 hK4=>?_
       refine Ab ?_
       simp (disch:=omega) only [amL]
       repeat' first | (refine Al (by kernel_rfl) rfl (Bgu) (by first | exact .inl rfl | exact .inr (.inl rfl)) ?_ ; simp (disch:=omega) only [amL,sA,↓reduceIte])
       refine hK4 _ ?_
       refine Ae ?_
       try simp (disch:=omega) only [amL,↓reduceIte]
       all_goals first | rfl | (exfalso; omega) | trace_state
     ·first
      | exact Bool.noConfusion h
      | ((try simp only [decide_eq_false_iff_not] at h) ; exfalso ; omega)
      |skip
       try simp only [decide_eq_false_iff_not] at h
       refine Ah ?_
       refine hK2 _ ?_
       refine Aa fun K5 hK5=>?_
       refine Ab ?_
       simp (disch:=omega) only [amL,amT,sA,sB,sF,↓reduceIte]
       repeat' first | (refine Al (by kernel_rfl) rfl (c_lfixed b (by omega)) (by first | exact .inl rfl | exact .inr (.inl rfl)) ?_ ; simp (disch:=omega) only [amL,amT,sA,sB,sF,↓reduceIte])
       refine hK5 _ ?_
       refine Aa fun K6 hK6=>?_
       refine Ab ?_
       simp (disch:=omega) only [hgt,hkt,hge,amL,amT,sA,sF,sO,↓reduceIte,reduceCtorEq]
       refine hK6 _ ?_
       refine Aa fun K7 hK7=>?_
       refine Ab ?_
       simp (disch:=omega) only [amL,amT,sA,sB,sF,↓reduceIte]
       repeat' first | (refine Al (by kernel_rfl) rfl (c_lbr hx) (by first | exact .inl rfl | exact .inr (.inl rfl)) ?_ ; simp (disch:=omega) only [amL,sA,sF,↓reduceIte]) | (refine Al (by kernel_rfl) rfl (hfew) (by first | exact .inl rfl | exact .inr (.inl rfl)) ?_ ; simp (disch:=omega) only [amL,sA,sF,↓reduceIte])
       refine hK7 _ ?_
       refine Aa fun K8 hK8=>?_
       refine Bg (by kernel_rfl) (by kernel_rfl) ?_
       simp (disch:=omega) only [amL,amT,sA,sB,sF,↓reduceIte]
       repeat' first | (refine Al (by kernel_rfl) rfl (hnx) (by first | exact .inl rfl | exact .inr (.inl rfl)) ?_ ; simp (disch:=omega) only [amL,sF,↓reduceIte]) | (refine Al (by kernel_rfl) rfl (hbx) (by first | exact .inl rfl | exact .inr (.inl rfl)) ?_ ; simp (disch:=omega) only [amL,sA,sF,↓reduceIte])
       refine hK8 _ ?_
       refine Aa fun K9 hK9=>?_
       refine Aa fun K10 hK10=>?_
       refine Ab ?_
       simp (disch:=omega) only [ne_eq,amL,amT,sA,sF,sO,↓reduceIte]
       refine hK10 _ ?_
       refine Ag rfl (fun h=>?_) (fun h=>?_)
       ·first
        | exact Bool.noConfusion h
        | ((try simp only [] at h) ; exfalso ; omega)
        |skip
         try simp only [] at h
         refine Aa fun K11 hK11=>?_
         refine Ab ?_
         simp (disch:=omega) only [amL,amT,sA,sB,sF,↓reduceIte]
         repeat' first | (refine Cn (fun h=>?_) (fun h=>?_) <;> simp (disch:=omega) only [h,hq,hgt,hkt,hge,hp0,ne_eq,List.length_map,amL,amT,sA,sB,sC,sD,sE,sF,sG,sH,sI,sJ,sK,sL,sM,sN,sO,↓reduceIte,reduceCtorEq]) | (refine Bo (fun h=>?_) (fun h=>?_) <;> simp (disch:=omega) only [h,hq,hgt,hkt,hge,hp0,ne_eq,List.length_map,amL,amT,sA,sB,sC,sD,sE,sF,sG,sH,sI,sJ,sK,sL,sM,sN,sO,↓reduceIte,reduceCtorEq]) | (refine Al (by kernel_rfl) rfl (hhas) (by first | exact .inl rfl | exact .inr (.inl rfl)) ?_ ; simp (disch:=omega) only [amL,amT,sA,sB,sF,↓reduceIte]) | (refine Al (by kernel_rfl) rfl (c_lbr hx) (by first | exact .inl rfl | exact .inr (.inl rfl)) ?_ ; simp (disch:=omega) only [amL,sA,sF,↓reduceIte,reduceCtorEq]) | (refine Al (by kernel_rfl) rfl (Anq tried (by omega)) (by first | exact .inl rfl | exact .inr (.inl rfl)) ?_ ; simp (disch:=omega) only [amL,sA,sF,↓reduceIte]) | (refine Al (by kernel_rfl) rfl (by first | exact hp1 | exact hp2 | exact hp3) (by first | exact .inl rfl | exact .inr (.inl rfl)) ?_ ; simp (disch:=omega) only [amL,sA,sF,↓reduceIte]) | (refine Al (by kernel_rfl) rfl (Bgu) (by first | exact .inl rfl | exact .inr (.inl rfl)) ?_ ; simp (disch:=omega) only [amL,sA,sF,↓reduceIte])
         all_goals
          skip
          refine hK11 _ ?_
          refine Ae ?_
          try simp (disch:=omega) only [amL,↓reduceIte]
          all_goals first | rfl | (exfalso; omega) | trace_state
       ·first
        | exact Bool.noConfusion h
        | ((try simp only [] at h) ; exfalso ; omega)
        |skip
         try simp only [] at h
         refine Ah ?_
         refine hK9 _ ?_
         refine Aa fun K12 hK12=>?_
         refine Ab ?_
         simp (disch:=omega) only [hp0,List.length_map,amL,amT,sA,sF,sL,↓reduceIte]
         repeat' first | (refine Cn (fun h=>?_) (fun h=>?_) <;> simp (disch:=omega) only [h,hp0,List.length_map,amL,amT,sA,sF,↓reduceIte]) | (refine Bo (fun h=>?_) (fun h=>?_) <;> simp (disch:=omega) only [h,hq,hgt,hkt,hge,hp0,ne_eq,List.length_map,amL,amT,sA,sB,sC,sD,sE,sF,sG,sH,sI,sJ,sK,sL,sM,sN,sO,↓reduceIte,reduceCtorEq]) | (refine Al (by kernel_rfl) rfl (hhas) (by first | exact .inl rfl | exact .inr (.inl rfl)) ?_ ; simp (disch:=omega) only [amL,amT,sA,sB,sF,↓reduceIte]) | (refine Al (by kernel_rfl) rfl (c_lbr hx) (by first | exact .inl rfl | exact .inr (.inl rfl)) ?_ ; simp (disch:=omega) only [hp0,List.length_map,amL,amT,sA,sF,sI,sM,↓reduceIte,reduceCtorEq]) | (refine Al (by kernel_rfl) rfl (by first | exact hp1 | exact hp2 | exact hp3) (by first | exact .inl rfl | exact .inr (.inl rfl)) ?_ ; simp (disch:=omega) only [amL,amT,sA,sB,sF,sM,↓reduceIte]) | (refine Al (by kernel_rfl) rfl (Anq tried (by omega)) (by first | exact .inl rfl | exact .inr (.inl rfl)) ?_ ; simp (disch:=omega) only [hp0,List.length_map,amL,amT,sA,sF,sI,sM,↓reduceIte]) | (refine Al (by kernel_rfl) rfl (Bgu) (by first | exact .inl rfl | exact .inr (.inl rfl)) ?_ ; simp (disch:=omega) only [amL,sA,sF,sM,↓reduceIte])
         all_goals
          skip
          refine hK12 _ ?_
          refine Ae ?_
          try simp (disch:=omega) only [amL,sM,↓reduceIte]
          all_goals first | rfl | (exfalso; omega) | trace_state
end AM.Try
end
