/- Lemmas for the proof: more of the program's functions, walked on the abstract machine. -/
import Derived.Test.YtbgiddcgdgdmbaaQ5
import Derived.Laws.Cover3
/- The abstract machine, part 48: an array of one's own is written no more: what refers to it is a value from then on. -/
section
namespace AM
open Go Go.Proofs
section
variable {P:Program} {r:RB} {N B:Nat} {S:Nat→Prop} {θ:Nat→Loc} {M M2:Nat→Prop} {w:World} {st:St} {a:Act} {Q:AEx→St→Prop} {n:Nat} {es:List (List PV)}
def Bcd (n:Nat) (es:List (List PV)):List (Nat × AO)→List (Nat × AO)
 | []=>[]
 | (j,x) :: l=>if j=n then Bcd n es l else (j,x.frz n es) :: Bcd n es l
theorem Bd5 {l:List (Nat × AO)}:(fun m=>if m=n then none else (O l m).map (AO.frz n es))=O (Bcd n es l):=by
 funext m
 induction l with
 | nil=>simp [O,Bcd]
 | cons p l ih=>
  obtain ⟨j,x⟩:=p
  simp only [O,Bcd]
  by_cases e:m=n
  ·subst e
   simp only [if_true] at ih ⊢
   split
   ·exact ih
   ·simp only [O]
    rw [if_neg (fun h=>by omega)]; exact ih
  ·rw [if_neg e] at ih ⊢
   by_cases e2:m=j
   ·subst e2
    rw [if_neg e]
    simp [O]
   ·rw [if_neg e2]
    split
    ·exact ih
    ·simp only [O]; rw [if_neg e2]; exact ih
theorem Bdz {l:List (Nat × AV)} {m:List (Nat × AO)}:St.frz n es ⟨T l,O m⟩=⟨T (Aja n es l),O (Bcd n es m)⟩:=by
 unfold St.frz; rw [Ax7,Bd5]
end
section
variable {P:Program} {r:RB} {N:Nat} {s:St} {K:St→Prop} {dst:Option Nat} {ty:TypeId} {pos:String} {after:Array Edge} {g:Option (Nat × Bool)}
def Bcx (esz:Nat→Nat) (ea:Nat→Option Bool) (e:Nat):Option (List (List PV))→Option Int→(Nat→Option Int)→Option Eff
 | some es,some l,hf=>match hf es.length with
  | some h=>if 0≤l∧l≤h∧h≤es.length∧(ea e).isSome∧(es.all fun c=>c.length=esz e) then some (.pure (.p (.sl ((es.take h.toNat).drop l.toNat)))) else none
  | none=>none
 | _,_,_=>none
theorem Bc5 {t:TypeId} {x:Operand} {lo hi:Option Operand} {e:Nat} (hk:(Aa P t).k=.sl e):EO P r N ⟨dst,.slice t x lo hi none,ty,pos,after,g⟩ s K=EOp r.b N dst s K (Bcx (fun e=>(Aa P e).sz) (fun e=>(Aa P e).agg) e ((ev s.t x).pv?.bind PV.list?) (Bn (ev s.t) 0 lo) (fun n=>Bn (ev s.t) n hi)):=by
 refine De rfl rfl ?_
 simp only [eff,hk]
 cases (ev s.t x).pv?.bind PV.list? with
 | none=>rfl
 | some es=>cases Bn (ev s.t) 0 lo with
  | none=>rfl
  | some l=>
   simp only [Bcx]
   cases Bn (ev s.t) es.length hi <;> rfl
theorem Bc0 {esz:Nat→Nat} {ea:Nat→Option Bool} {e:Nat} {es:List (List PV)} {l:Int} {hf:Nat→Option Int} {h:Int} (hh:hf es.length=some h) (h0:0≤l) (h1:l≤h) (h2:h≤es.length) (h3:(ea e).isSome=true) (h4:(es.all fun c=>c.length=esz e)=true):Bcx esz ea e (some es) (some l) hf=some (.pure (.p (.sl ((es.take h.toNat).drop l.toNat)))):=by
 simp only [Bcx,hh]; rw [if_pos ⟨h0,h1,h2,h3,h4⟩]
end
section
variable {P:Program} {r:RB} {N:Nat} {ops:List Oper}
theorem Bb9:∀ {ops:List Oper},∀ d ∈ Rf P ops,d ∈ ops.filterMap (·.dst)
 | [],d,hd=>by cases hd
 | o :: l,d,hd=>by
  have ih:=Bb9 (ops:=l) d
  simp only [Rf] at hd
  rw [List.filterMap_cons]
  split at hd
  ·split at hd
   ·rename_i d2 hd2
    rw [hd2]
    rcases List.mem_cons.1 hd with rfl | hd
    ·simp
    ·exact List.mem_cons_of_mem _ (ih hd)
   ·rename_i hd2
    rw [hd2]; exact ih hd
  ·cases o.dst with
   | none=>exact ih hd
   | some d2=>exact List.mem_cons_of_mem _ (ih hd)
end
section
variable {P:Program} {r:RB} {N:Nat} {all:List Oper} {d:Nat} {op:Op} {ρ ρ':Operand→AV} {os os':Nat→Option AO} {s:St}
def Bb1 (v:List Nat) (ops:List Oper) (b:Nat→Nat):Bool:=ops.zipIdx.all fun p=>(ops.take p.2).zipIdx.all fun q=>(b p.2).testBit q.2||Abh v ops q.1 p.1
def Bdr (v:List Nat) (ops:List Oper):Bool:=Jm ops [] fun l=>L7 ops (fun i=>l.getD i 0)&&Bb1 v ops (fun i=>l.getD i 0)
theorem Bb4 {ops:List Oper} {b:Nat→Nat} (h:Bb1 r.v ops b=true):∀ (i j:Nat) (oi oj:Oper),j < i→ops[i]?=some oi→ops[j]?=some oj→(b i).testBit j=false→Gv P r N ops oj∧Fo P r N ops oj oi:=by
 intro i j oi oj hj hi hoj ht
 unfold Bb1 at h
 rw [List.all_eq_true] at h
 have h1:=h (oi,i) (List.mem_zipIdx_iff_getElem?.2 hi)
 rw [List.all_eq_true] at h1
 have h2:=h1 (oj,j) (List.mem_zipIdx_iff_getElem?.2 (by rw [List.getElem?_take,if_pos hj]; exact hoj))
 simp only [ht,Bool.false_or] at h2
 exact Aa3 h2
theorem Bcn {ops:List Oper} {id:Nat} {st:St} {Q:AEx→St→Prop} (hm:P.follows .mixedOrders=true) (hchk:Bdr r.v ops=true) (h:EL P r N ops ops st (Q .normal)):AWP P r N (.region id ops.toArray true) st Q:=by
 obtain ⟨l,hl⟩:=Hg hchk
 rw [Bool.and_eq_true] at hl
 exact Tf hm (Fp hl.1) (Bb4 hl.2) h
end
section
variable {P:Program} {r:RB} {N:Nat} {ops:List Oper}
theorem Bc3 {id:Nat} {st:St} {Q:AEx→St→Prop} (cfs:List Cf) (ds:List Nat) (hm:P.follows .mixedOrders=true) (hchk:Tm P r.v r.q ops cfs=true) (hds:ops.filterMap (·.dst)=ds) (hfr:Aii st.o r.b ds) (h:EL P r N ops ops st (fun s=>(cfs.all fun c=>c.ok s.t)=true∧Q .normal s)):AWP P r N (.region id ops.toArray true) st Q:=
 Aee cfs hm hchk (fun d hd=>Vn hfr d (by rw [← hds]; exact Bb9 d hd)) h
end
end AM
end
/- What the reference says of vessels, in plain Lean; that it is what the program says. -/
section
namespace AM.Wort
open Go AM Go.Proofs
def Bbt:List Ves→List Int→Nat→Bool
 | [],_,_=>true
 | x :: vs,gs,i=>decide (gs.getD i 0≤x.room)&&Bbt vs gs (i+1)
def Bbh:List Ves→List Int→List Int→Nat→List Liq
 | [],_,_,_=>[]
 | _ :: vs,gs,ds,i=>⟨gs.getD i 0,gs.getD i 0 * ds.getD i 0⟩ :: Bbh vs gs ds (i+1)
def Bbr:List Ves→List Int→List Int→Nat→List Liq→List Liq
 | [],_,_,_,v=>v
 | _ :: vs,gs,ds,i,v=>Bbr vs gs ds (i+1) (v.set i ⟨gs.getD i 0,gs.getD i 0 * ds.getD i 0⟩)
theorem Bck:∀ {vs:List Ves} {gs ds:List Int} {i:Nat},(Bbh vs gs ds i).length=vs.length
 | [],_,_,_=>rfl
 | _ :: vs,gs,ds,i=>by unfold Bbh; rw [List.length_cons,Bck,List.length_cons]
theorem Bb0:∀ {vs:List Ves} {gs ds:List Int} {i:Nat} {v:List Liq},(Ho vs gs ds i v).2=Bbt vs gs i∧(Bbt vs gs i=true→(Ho vs gs ds i v).1=Bbr vs gs ds i v)
 | [],_,_,_,_=>⟨rfl,fun _=>rfl⟩
 | x :: vs,gs,ds,i,v=>by
  unfold Ho Bbt Bbr
  split
  ·rename_i h
   rw [decide_eq_false (by omega)]
   exact ⟨rfl,fun h=>by cases h⟩
  ·rename_i h
   rw [decide_eq_true (by omega),Bool.true_and]
   exact Bb0
theorem Bca:∀ {vs:List Ves} {gs ds:List Int} {i:Nat} {v:List Liq},i+vs.length≤v.length→(Bbr vs gs ds i v).take (i+vs.length)=v.take i++Bbh vs gs ds i
 | [],_,_,_,_,_=>by simp [Bbr,Bbh]
 | x :: vs,gs,ds,i,v,h=>by
  simp only [List.length_cons] at h
  unfold Bbr Bbh
  have:=Bca (vs:=vs) (gs:=gs) (ds:=ds) (i:=i+1) (v:=v.set i ⟨gs.getD i 0,gs.getD i 0 * ds.getD i 0⟩) (by rw [List.length_set]; omega)
  rw [show i+(x :: vs).length=i+1+vs.length by simp only [List.length_cons]; omega,this,List.take_add_one,List.take_set,List.getElem?_set_self (by omega)]
  rw [List.set_eq_of_length_le (by rw [List.length_take]; omega)]
  simp
def Bbo (vs:List Ves) (gs ds:List Int):List Liq:=Bbh vs gs ds 0
def Bdh (vs:List Ves) (gs:List Int):Bool:=Bbt vs gs 0
theorem Bb3 {w:List Liq} {n k:Nat} {a:Liq}:(w.take n).set k a=(w.set k a).take n:=by rw [List.take_set]
theorem Bdo {vs:List Ves} {w:List Liq} {s:Stp} {m:Int} (hs:H7 vs.length s=true):doS vs (w.take vs.length) s m=((doS vs w s m).1.take vs.length,(doS vs w s m).2):=by
 obtain ⟨hk,hf,ht,_,_⟩:=Gs hs
 have f1:s.frm.toNat < vs.length:=by omega
 have t1:s.to.toNat < vs.length:=by omega
 have a:Sk (w.take vs.length) s m=((Sk w s m).1.take vs.length,(Sk w s m).2):=by
  unfold Sk
  split
  ·unfold Hn
   rw [Aem f1]
   split
   ·rfl
   ·split
    ·simp only [N1,Li,G2,Aem f1,Bb3]
     rw [Aem t1]
    ·rfl
  ·split
   ·simp only [Qd,Aem t1,Bb3]
   ·simp only [V6,Aem f1,Bb3]
 simp only [doS,a]
 rw [Aem t1]
def doX (vs:List Ves) (v:List Liq) (s:Stp) (n:Int):List Liq × Bool:=if (doS vs v s n).2=true then doS vs v s n else (v,false)
def Bbd (vs:List Ves) (m:List Int):List Stp→Nat→List Liq × Bool→List Liq × Bool
 | [],_,r=>r
 | s :: ss,i,r=>if r.2=false then r else Bbd vs m ss (i+1) (doX vs r.1 s (m.getD i 0))
def Bci (b:E9) (t:Tru):List Liq × Bool:=Bbd b.vs t.m b.ss 0 (Bbo b.vs t.g t.d,Bdh b.vs t.g)
theorem Bbn {vs:List Ves} {m:List Int}:∀ {ss:List Stp} {i:Nat} {v:List Liq},(Bbd vs m ss i (v,false)).2=false
 | [],_,_=>rfl
 | _ :: _,_,_=>by unfold Bbd; rw [if_pos rfl]
theorem Bbu {vs:List Ves} {m:List Int}:∀ {ss:List Stp} {i:Nat} {v:List Liq},(J0 vs m ss i (v,false)).2=false
 | [],_,_=>rfl
 | _ :: _,_,_=>by unfold J0; rw [if_pos rfl]
theorem Bb6 {vs:List Ves} {m:List Int}:∀ {ss:List Stp} {i:Nat} {w:List Liq},ss.all (H7 vs.length)=true →
  (J0 vs m ss i (w,true)).2=(Bbd vs m ss i (w.take vs.length,true)).2∧((J0 vs m ss i (w,true)).2=true→(J0 vs m ss i (w,true)).1.take vs.length=(Bbd vs m ss i (w.take vs.length,true)).1)
 | [],_,_,_=>⟨rfl,fun _=>rfl⟩
 | s :: ss,i,w,hs=>by
  rw [List.all_cons,Bool.and_eq_true] at hs
  unfold J0 Bbd
  rw [if_neg (fun h=>by cases h),if_neg (fun h=>by cases h)]
  dsimp only
  have e:=Bdo (w:=w) (m:=m.getD i 0) hs.1
  cases hd:(doS vs w s (m.getD i 0)).2 with
  | true=>
   have e2:doX vs (w.take vs.length) s (m.getD i 0)=((doS vs w s (m.getD i 0)).1.take vs.length,true):=by
    unfold doX; rw [e,hd]; rfl
   have e3:doS vs w s (m.getD i 0)=((doS vs w s (m.getD i 0)).1,true):=by rw [← hd]
   rw [e2,e3]
   exact Bb6 hs.2
  | false=>
   have e2:doX vs (w.take vs.length) s (m.getD i 0)=(w.take vs.length,false):=by
    unfold doX; rw [e,hd]; rfl
   have e3:doS vs w s (m.getD i 0)=((doS vs w s (m.getD i 0)).1,false):=by rw [← hd]
   rw [e2,e3,Bbu,Bbn]
   exact ⟨rfl,fun h=>by cases h⟩
theorem Bdn {b:E9} (t:Tru) (hv:Nf b):(Ma b t).2=(Bci b t).2∧((Ma b t).2=true→(Ma b t).1.take b.vs.length=(Bci b t).1):=by
 unfold Ma Bci P7 Bdh
 obtain ⟨h1,h2⟩:=Bb0 (vs:=b.vs) (gs:=t.g) (ds:=t.d) (i:=0) (v:=v0)
 have h3:=Bca (vs:=b.vs) (gs:=t.g) (ds:=t.d) (i:=0) (v:=v0) (by have:=hv.nv; simp; omega)
 rw [Nat.zero_add] at h3
 cases hr:Bbt b.vs t.g 0 with
 | true=>
  have e:Ho b.vs t.g t.d 0 v0=(Bbr b.vs t.g t.d 0 v0,true):=by rw [← h2 hr,← hr,← h1]
  rw [e]
  have e2:Bbo b.vs t.g t.d=(Bbr b.vs t.g t.d 0 v0).take b.vs.length:=h3.symm
  rw [e2]
  exact Bb6 hv.s
 | false=>
  have e:Ho b.vs t.g t.d 0 v0=((Ho b.vs t.g t.d 0 v0).1,false):=by rw [← hr,← h1]
  rw [e,Bbu,Bbn]
  exact ⟨rfl,fun h=>by cases h⟩
section
variable {vs:List Ves} {v:List Liq} {s:Stp} {n:Int}
theorem Bcm {w:List Liq} (h:doS vs v s n=(w,true)):doX vs v s n=(w,true):=by
 unfold doX; rw [h]; rfl
theorem Bdq (hk:s.kind=0) (hs:H7 vs.length s=true) (hl:v.length=vs.length) (h:¬ (Ct v s.frm.toNat).g < n) (hn:0 < n) :
  doS vs v s n=((v.set s.frm.toNat ⟨(Ct v s.frm.toNat).g - n,(Ct v s.frm.toNat).e - G2 v s.frm.toNat n⟩).set s.to.toNat ⟨(Ct v s.to.toNat).g+n,(Ct v s.to.toNat).e+G2 v s.frm.toNat n⟩,decide ((Ct v s.to.toNat).g+n≤(vs.getD s.to.toNat default).room)):=by
 obtain ⟨_,q2,q3,q4,_⟩:=Gs hs
 have hne:¬ (s.to.toNat=s.frm.toNat∧s.frm.toNat < v.length):=by omega
 unfold doS Sk Hn; rw [if_pos hk,if_neg h,if_pos hn]
 unfold N1 Li
 dsimp only
 rw [X6 (v:=v.set _ _),if_pos ⟨rfl,by rw [List.length_set]; omega⟩,X6,if_neg hne]
 simp
theorem Bdi (hk:s.kind=1) (hs:H7 vs.length s=true) (hl:v.length=vs.length):doS vs v s n=(v.set s.to.toNat ⟨(Ct v s.to.toNat).g+n,(Ct v s.to.toNat).e⟩,decide ((Ct v s.to.toNat).g+n≤(vs.getD s.to.toNat default).room)):=by
 obtain ⟨_,q2,q3,q4,_⟩:=Gs hs
 unfold doS Sk Qd; rw [if_neg (by omega),if_pos hk]
 dsimp only
 rw [X6,if_pos ⟨rfl,by omega⟩]
 simp
end
def Bd0 (l:List Ves):List Rng:=l.flatMap fun v=>[v.g,v.d]
theorem Bcq {a b:List Rng} (h:a.Perm b):∀ n,Ll a n=Ll b n:=by
 induction h with
 | nil=>intro n; rfl
 | cons x _ ih=>intro n; exact ih _
 | swap x y l=>intro n; show Ll l (n * _ * _)=Ll l (n * _ * _); rw [Int.mul_assoc,Int.mul_comm (Ji y),← Int.mul_assoc]
 | trans _ _ ih1 ih2=>intro n; rw [ih1,ih2]
theorem Bb5:∀ l:List Ves,(Bd0 l).Perm (l.map (·.g)++l.map (·.d))
 | []=>.nil
 | v :: l=>by
  show (v.g :: v.d :: Bd0 l).Perm (v.g :: (l.map (·.g)++v.d :: l.map (·.d)))
  exact .cons _ ((List.Perm.cons _ (Bb5 l)).trans List.perm_middle.symm)
def Bdf (b:E9):Int:=Ll (Bd0 b.vs++b.ss.map (·.g)) 1
theorem Bdc (b:E9):Bdf b=Ni b:=Bcq ((Bb5 b.vs).append_right _) 1
theorem Bdb {b:E9} (h:b.vs.length≤4) (h1:b.ss.length≤6) (h2:0 < b.vs.length) (hv:b.vs.all Kd=true) (hs:b.ss.all (H7 b.vs.length)=true):C0 b=if 2000 < Bdf b then 3 else 0:=by
 unfold C0; rw [if_neg (by omega),if_neg (by omega),if_neg (by rw [hv]; decide),if_neg (by rw [hs]; decide),Bdc]
theorem Bcp {b:E9} {t:Tru} (h1:t.g.length=b.vs.length) (h2:t.d.length=b.vs.length) (h3:t.m.length=b.ss.length)
  (h4:∀ j,j < b.vs.length→inB (t.g.getD j 0) (b.vs.getD j default).g.lo (b.vs.getD j default).g.hi=true∧inB (t.d.getD j 0) (b.vs.getD j default).d.lo (b.vs.getD j default).d.hi=true)
  (h5:∀ j,j < b.ss.length→inB (t.m.getD j 0) (b.ss.getD j default).g.lo (b.ss.getD j default).g.hi=true):F0 b t=true:=by
 simp only [F0,Bool.and_eq_true,decide_eq_true_eq,List.all_eq_true,List.mem_range]
 exact ⟨h1,h2,h3,fun k hk=>h4 k hk,h5⟩
theorem Bc1 {α:Type} {l:List α} {k:Nat} (d:α) (h:k < l.length):l.drop k=l.getD k d :: l.drop (k+1):=by
 rw [List.drop_eq_getElem_cons h]; simp [List.getD,h]
section
variable {vs:List Ves} {v:List Liq} {s:Stp} {n:Int}
theorem Bcs:∀ {vs:List Ves} {gs ds:List Int} {i k:Nat},Ct (Bbh vs gs ds i) k=if k < vs.length then ⟨gs.getD (i+k) 0,gs.getD (i+k) 0 * ds.getD (i+k) 0⟩ else ⟨0,0⟩
 | [],_,_,_,k=>by unfold Bbh; rfl
 | x :: vs,gs,ds,i,0=>by unfold Bbh; rfl
 | x :: vs,gs,ds,i,k+1=>by
  unfold Bbh
  show Ct (Bbh vs gs ds (i+1)) k=_
  rw [Bcs,show i+1+k=i+(k+1) by omega]
  simp
end
def Ba8:List (Int × Int)→Int
 | []=>0
 | p :: l=>p.1 * p.2+Ba8 l
abbrev Bbw (p:Int × Int):Ves:=⟨⟨p.1,p.1⟩,⟨p.2,p.2⟩,60⟩
def Bbb:Nat→List (Int × Int)→List Stp
 | _,[]=>[]
 | i,p :: l=>⟨0,(i:Int),0,⟨p.1,p.1⟩⟩ :: Bbb (i+1) l
abbrev Bbm (n:Int):Stp:=⟨1,0,0,⟨n,n⟩⟩
def Ba9 (cs:List (Int × Int)) (n:Int):E9:=⟨cs.map Bbw,Bbb 1 (cs.drop 1)++[Bbm n]⟩
def Bbf (cs:List (Int × Int)) (n:Int):Tru:=⟨cs.map (·.1),cs.map (·.2),(cs.drop 1).map (·.1)++[n]⟩
theorem Bbg:∀ {cs:List (Int × Int)},(∀ p ∈ cs,1≤p.1)→0≤Aqz cs∧∀ p ∈ cs,p.1≤Aqz cs
 | [],_=>⟨by simp [Aqz],by simp⟩
 | q :: l,h=>by
  obtain ⟨h1,h2⟩:=Bbg (cs:=l) (fun p hp=>h p (by simp [hp]))
  have:=h q (by simp)
  refine ⟨by simp only [Aqz]; omega,fun p hp=>?_⟩
  simp only [Aqz]
  rcases List.mem_cons.1 hp with rfl | hp
  ·omega
  ·have:=h2 p hp; omega
theorem Bcw:∀ {cs:List (Int × Int)},(∀ p ∈ cs,1≤p.1)→(∀ p ∈ cs,0≤p.2∧p.2≤120)→0≤Ba8 cs
 | [],_,_=>by simp [Ba8]
 | q :: l,h,h2=>by
  have:=Bcw (cs:=l) (fun p hp=>h p (by simp [hp])) (fun p hp=>h2 p (by simp [hp]))
  have e:=Int.mul_nonneg (show 0≤q.1 by have:=h q (by simp); omega) (h2 q (by simp)).1
  simp only [Ba8]; omega
theorem Bct:∀ {cs:List (Int × Int)},(∀ p ∈ cs,1≤p.1)→(∀ p ∈ cs,0≤p.2∧p.2≤120)→Ba8 cs≤120 * Aqz cs
 | [],_,_=>by simp [Ba8,Aqz]
 | q :: l,h,h2=>by
  have:=Bct (cs:=l) (fun p hp=>h p (by simp [hp])) (fun p hp=>h2 p (by simp [hp]))
  have e:=Int.mul_le_mul_of_nonneg_left (h2 q (by simp)).2 (show 0≤q.1 by have:=h q (by simp); omega)
  simp only [Ba8,Aqz]; omega
theorem Bbc:∀ {l:List (Int × Int)} {i:Nat},(Bbb i l).length=l.length
 | [],_=>rfl
 | _ :: l,i=>by simp only [Bbb,List.length_cons,Bbc]
theorem Bch {c:Int}:∀ {l:List (Int × Int)} {i:Nat},1≤i→(i:Int)+(l.length:Int)≤c→(∀ p ∈ l,0≤p.1∧p.1≤60)→(Bbb i l).all (H7 c)=true
 | [],_,_,_,_=>rfl
 | p :: l,i,h1,h2,h3=>by
  have hp:=h3 p (by simp)
  simp only [List.length_cons] at h2
  rw [Bbb,List.all_cons,Bool.and_eq_true]
  refine ⟨?_,Bch (by omega) (by omega) (fun q hq=>h3 q (by simp [hq]))⟩
  have e:decide ((i:Int)=0)=false:=decide_eq_false (by omega)
  simp only [H7,inB,J9,Bool.and_eq_true,decide_eq_true_eq,e,beq_iff_eq]
  exact ⟨⟨by omega,by omega⟩,⟨by omega,by omega⟩,⟨by omega,by omega⟩,by decide,by omega,by omega,by omega,by omega⟩
theorem Bbp:∀ {l:List Rng} {n:Int},(∀ r ∈ l,r.lo=r.hi)→Ll l n=n
 | [],_,_=>rfl
 | r :: l,n,h=>by
  have:=h r (by simp)
  rw [Ll,Bbp (fun q hq=>h q (by simp [hq]))]
  have e:Ji r=1:=by unfold Ji; omega
  rw [e,Int.mul_one]
theorem Bbv:∀ {l:List (Int × Int)} {i:Nat},∀ s ∈ Bbb i l,s.g.lo=s.g.hi
 | [],_,s,hs=>by cases hs
 | p :: l,i,s,hs=>by
  rcases List.mem_cons.1 hs with rfl | hs
  ·rfl
  ·exact Bbv s hs
section
variable {cs:List (Int × Int)} {n:Int}
theorem Ba2.g60 (h:Ba2 cs n):∀ p ∈ cs,0≤p.1∧p.1≤60:=fun p hp=>by
 have h1:=h.g p hp
 have h2:=(Bbg h.g).2 p hp
 have:=h.all; have:=h.n0; omega
theorem Bbj (h:Ba2 cs n):Nf (Ba9 cs n):=by
 have h1:=h.l1
 have h4:=h.l4
 have hs:=Bbg h.g
 have ha:=h.all
 have hn:=h.n0
 refine ⟨by simp only [Ba9,List.length_map]; omega,by simp only [Ba9,List.length_append,Bbc,List.length_drop,List.length_singleton]; omega,?_,?_⟩
 ·rw [List.all_eq_true]
  intro v hv
  obtain ⟨p,hp,rfl⟩:=List.mem_map.1 hv
  have q1:=h.g60 p hp
  have q2:=h.d p hp
  simp only [Kd,J9,inB,Bool.and_eq_true,decide_eq_true_eq]
  omega
 ·show ((Bbb 1 (cs.drop 1)++[Bbm n]).all (H7 ((cs.map Bbw).length:Nat)))=true
  rw [List.all_append,Bool.and_eq_true,List.length_map]
  refine ⟨Bch (Nat.le_refl _) (by rw [List.length_drop]; omega) (fun p hp=>h.g60 p (List.mem_of_mem_drop hp)),?_⟩
  simp only [List.all_cons,List.all_nil,Bool.and_true,H7,inB,J9,Bool.and_eq_true,decide_eq_true_eq,beq_iff_eq]
  exact ⟨by omega,by omega,by omega,by simp,by omega,by omega,by omega,by omega⟩
theorem Bc4 (h:Ba2 cs n):C0 (Ba9 cs n)=0:=by
 have hv:=Bbj h
 have h1:=h.l1
 rw [Bdb hv.nv hv.ns (by simp only [Ba9,List.length_map]; exact h1) hv.v hv.s]
 have e:Bdf (Ba9 cs n)=1:=by
  refine Bbp fun r hr=>?_
  rcases List.mem_append.1 hr with hr | hr
  ·obtain ⟨v,hv,hr⟩:=List.mem_flatMap.1 hr
   obtain ⟨p,_,rfl⟩:=List.mem_map.1 hv
   simp only [List.mem_cons,List.not_mem_nil,or_false] at hr
   rcases hr with rfl | rfl <;> rfl
  ·obtain ⟨s,hs,rfl⟩:=List.mem_map.1 hr
   rcases List.mem_append.1 hs with hs | hs
   ·exact Bbv s hs
   ·simp only [List.mem_singleton] at hs; subst hs; rfl
 rw [e]; rfl
theorem Bcu:∀ {l:List (Int × Int)} {i k:Nat},k < l.length→(Bbb i l).getD k default=⟨0,((i+k:Nat):Int),0,⟨(l.getD k default).1,(l.getD k default).1⟩⟩
 | p :: l,i,0,_=>by simp [Bbb]
 | p :: l,i,k+1,h=>by
  simp only [List.length_cons] at h
  have:=Bcu (l:=l) (i:=i+1) (k:=k) (by omega)
  simp only [Bbb,List.getD_cons_succ]
  rw [this,show i+1+k=i+(k+1) by omega]
theorem Bcf (x:Int):inB x x x=true:=by simp [inB]
theorem Bbx:F0 (Ba9 cs n) (Bbf cs n)=true:=by
 refine Bcp (by simp [Ba9,Bbf]) (by simp [Ba9,Bbf]) (by simp [Ba9,Bbf,Bbc]) (fun j hj=>?_) (fun j hj=>?_)
 ·simp only [Ba9,List.length_map] at hj
  simp only [Ba9,Bbf]
  rw [C1 (·.1) 0 default hj,C1 (·.2) 0 default hj,C1 Bbw default default hj]
  exact ⟨Bcf _,Bcf _⟩
 ·simp only [Ba9,List.length_append,Bbc,List.length_singleton] at hj
  simp only [Ba9,Bbf]
  by_cases e:j < (cs.drop 1).length
  ·rw [Fq _ (by rw [List.length_map]; exact e),Fq _ (by rw [Bbc]; exact e),Bcu e,C1 (·.1) 0 default e]
   exact Bcf _
  ·have e2:j=(cs.drop 1).length:=by omega
   have a1:=Ek (l:=(cs.drop 1).map (·.1)) (r:=[n]) (k:=0) 0
   have a2:=Ek (l:=Bbb 1 (cs.drop 1)) (r:=[Bbm n]) (k:=0) default
   rw [List.length_map,Nat.add_zero] at a1
   rw [Bbc,Nat.add_zero] at a2
   rw [e2,a1,a2]
   exact Bcf _
theorem Bcj:∀ {vs:List Ves} {gs:List Int} {i:Nat},(∀ v ∈ vs,v.room=60)→(∀ k,gs.getD k 0≤60)→Bbt vs gs i=true
 | [],_,_,_,_=>rfl
 | x :: vs,gs,i,h,hg=>by
  unfold Bbt
  rw [Bool.and_eq_true,decide_eq_true_eq,h x (by simp)]
  exact ⟨hg i,Bcj (fun v hv=>h v (by simp [hv])) hg⟩
theorem Bcb {vs:List Ves} {m:List Int} (hvs:∀ k,k < vs.length→(vs.getD k default).room=60) (h0:0 < vs.length) (hn:0≤n):∀ (l:List (Int × Int)) (i j:Nat) (v:List Liq) (G E:Int),1≤i→v.length=vs.length→i+l.length=vs.length→Ct v 0=⟨G,E⟩ →
  (∀ k,k < l.length→Ct v (i+k)=⟨(l.getD k default).1,(l.getD k default).1 * (l.getD k default).2⟩)→(∀ p ∈ l,1≤p.1)→0≤G→G+Aqz l+n≤60→(∀ k,m.getD (j+k) 0=(l.map (·.1)++[n]).getD k 0) →
  ∃ w,Bbd vs m (Bbb i l++[Bbm n]) j (v,true)=(w,true)∧w.length=vs.length∧Ct w 0=⟨G+Aqz l+n,E+Ba8 l⟩
 | [],i,j,v,G,E,h1,h2,h3,h4,h5,h6,h7,h8,h9=>by
  have hm:=h9 0
  simp only [List.map_nil,List.nil_append,Nat.add_zero,List.getD_cons_zero] at hm
  simp only [Aqz,Int.add_zero] at h8
  have hw:doX vs v (Bbm n) n=(v.set 0 ⟨G+n,E⟩,true):=by
   refine Bcm ?_
   have:=Bdi (vs:=vs) (v:=v) (s:=Bbm n) (n:=n) rfl (by
    simp only [H7,inB,J9,Bool.and_eq_true,decide_eq_true_eq,beq_iff_eq]
    exact ⟨by omega,by omega,by omega,by simp,by omega,by omega,by omega,by omega⟩) h2
   rw [this]
   show (v.set 0 ⟨(Ct v 0).g+n,(Ct v 0).e⟩,decide ((Ct v 0).g+n≤(vs.getD 0 default).room))=_
   rw [h4,hvs 0 h0,decide_eq_true (by show G+n≤60; omega)]
  refine ⟨v.set 0 ⟨G+n,E⟩,?_,by rw [List.length_set]; exact h2,?_⟩
  ·show Bbd vs m [Bbm n] j (v,true)=_
   unfold Bbd
   rw [if_neg (by simp),hm,hw]
   rfl
  ·rw [X6,if_pos ⟨rfl,by omega⟩]; simp [Aqz,Ba8]
 | p :: l,i,j,v,G,E,h1,h2,h3,h4,h5,h6,h7,h8,h9=>by
  simp only [List.length_cons] at h3
  simp only [Aqz] at h8
  have hp:=h6 p (by simp)
  have hl:=Bbg (cs:=l) (fun q hq=>h6 q (by simp [hq]))
  have hv:=h5 0 (by simp)
  simp only [Nat.add_zero,List.getD_cons_zero] at hv
  have hm:=h9 0
  simp only [List.map_cons,List.cons_append,Nat.add_zero,List.getD_cons_zero] at hm
  have hmv:G2 v i p.1=p.1 * p.2:=by
   unfold G2
   rw [hv]
   exact Int.mul_ediv_cancel_left _ (by show p.1≠0; omega)
  have hw:doX vs v ⟨0,(i:Int),0,⟨p.1,p.1⟩⟩ p.1=((v.set i ⟨p.1 - p.1,p.1 * p.2 - p.1 * p.2⟩).set 0 ⟨G+p.1,E+p.1 * p.2⟩,true):=by
   refine Bcm ?_
   have e0:decide ((i:Int)=0)=false:=decide_eq_false (by omega)
   have:=Bdq (vs:=vs) (v:=v) (s:=⟨0,(i:Int),0,⟨p.1,p.1⟩⟩) (n:=p.1) rfl (by
    simp only [H7,inB,J9,Bool.and_eq_true,decide_eq_true_eq,e0,beq_iff_eq]
    exact ⟨by omega,⟨by omega,by omega⟩,⟨by omega,by omega⟩,by decide,by omega,by omega,by omega,by omega⟩) h2 (by
    show ¬ (Ct v i).g < p.1
    rw [hv]; show ¬ p.1 < p.1; omega) (by omega)
   rw [this]
   show ((v.set i ⟨(Ct v i).g - p.1,(Ct v i).e - G2 v i p.1⟩).set 0 ⟨(Ct v 0).g+p.1,(Ct v 0).e+G2 v i p.1⟩,decide ((Ct v 0).g+p.1≤(vs.getD 0 default).room))=_
   rw [hmv,hv,h4,hvs 0 h0,decide_eq_true (by show G+p.1≤60; omega)]
  have step:=Bcb hvs h0 hn l (i+1) (j+1) ((v.set i ⟨p.1 - p.1,p.1 * p.2 - p.1 * p.2⟩).set 0 ⟨G+p.1,E+p.1 * p.2⟩) (G+p.1) (E+p.1 * p.2) (by omega) (by rw [List.length_set,List.length_set]; exact h2) (by omega)
   (by rw [X6,if_pos ⟨rfl,by rw [List.length_set]; omega⟩]) (fun k hk=>by
    rw [X6,if_neg (by omega),X6,if_neg (by omega)]
    have:=h5 (k+1) (by simpa using hk)
    simp only [List.getD_cons_succ] at this
    rw [show i+1+k=i+(k+1) by omega]; exact this) (fun q hq=>h6 q (by simp [hq])) (by omega) (by omega) (fun k=>by
    have:=h9 (k+1)
    simp only [List.map_cons,List.cons_append,List.getD_cons_succ] at this
    rw [show j+1+k=j+(k+1) by omega]; exact this)
  obtain ⟨w,g1,g2,g3⟩:=step
  refine ⟨w,?_,g2,?_⟩
  ·rw [Bbb,List.cons_append]
   unfold Bbd
   rw [if_neg (by simp),hm,hw]
   exact g1
  ·rw [g3]; simp only [Aqz,Ba8,Int.add_assoc]
theorem Bde (h:Ba2 cs n):∃ w,Bci (Ba9 cs n) (Bbf cs n)=(w,true)∧w.length=cs.length∧Ct w 0=⟨Aqz cs+n,Ba8 cs⟩:=by
 match cs,h with
 | [],h=>exact absurd h.l1 (by simp)
 | p :: l,h=>
  have hp:=h.g p (by simp)
  have ha:=h.all
  simp only [Aqz] at ha
  have hl:=Bbg (cs:=l) (fun q hq=>h.g q (by simp [hq]))
  have hn:=h.n0
  have hbe:∀ k,k < (p :: l).length→Ct (Bbo (Ba9 (p :: l) n).vs (Bbf (p :: l) n).g (Bbf (p :: l) n).d) k=⟨((p :: l).getD k default).1,((p :: l).getD k default).1 * ((p :: l).getD k default).2⟩:=fun k hk=>by
   unfold Bbo
   rw [Bcs,if_pos (by simp only [Ba9,List.length_map]; exact hk),Nat.zero_add]
   simp only [Bbf]
   rw [C1 (·.1) 0 default hk,C1 (·.2) 0 default hk]
  have hr:Bdh (Ba9 (p :: l) n).vs (Bbf (p :: l) n).g=true:=Bcj (fun v hv=>by
   simp only [Ba9] at hv
   obtain ⟨q,_,rfl⟩:=List.mem_map.1 hv; rfl) (fun k=>by
   have:=(Km (Bbj h) Bbx).1 k
   exact this.2)
  obtain ⟨w,g1,g2,g3⟩:=Bcb (n:=n) (vs:=(Ba9 (p :: l) n).vs) (m:=(Bbf (p :: l) n).m) (fun k hk=>by
   simp only [Ba9] at hk ⊢
   rw [C1 Bbw default default (by simpa using hk)]) (by simp [Ba9]) hn l 1 0 (Bbo (Ba9 (p :: l) n).vs (Bbf (p :: l) n).g (Bbf (p :: l) n).d) p.1 (p.1 * p.2) (Nat.le_refl _) (by unfold Bbo; rw [Bck]) (by simp only [Ba9,List.length_map,List.length_cons]; omega)
   (by have:=hbe 0 (by simp); simpa using this) (fun k hk=>by
    have:=hbe (k+1) (by simpa using hk)
    simp only [List.getD_cons_succ] at this
    rw [show 1+k=k+1 by omega]; exact this) (fun q hq=>h.g q (by simp [hq])) (by omega) (by omega) (fun k=>by simp only [Bbf,List.drop_succ_cons,List.drop_zero,Nat.zero_add])
  refine ⟨w,?_,by rw [g2]; simp [Ba9],by rw [g3]; simp only [Aqz,Ba8]⟩
  unfold Bci
  rw [hr]
  exact g1
theorem Bc2 (h:Ba2 cs n):∃ w,C0 (Ba9 cs n)=0∧F0 (Ba9 cs n) (Bbf cs n)=true∧(Ma (Ba9 cs n) (Bbf cs n)).2=true∧(Ma (Ba9 cs n) (Bbf cs n)).1.take (Ba9 cs n).vs.length=w∧w.length=cs.length∧Ct w 0=⟨Aqz cs+n,Ba8 cs⟩:=by
 obtain ⟨w,h1,h2,h3⟩:=Bde h
 obtain ⟨e1,e2⟩:=Bdn (Bbf cs n) (Bbj h)
 rw [h1] at e1 e2
 exact ⟨w,Bc4 h,Bbx,e1,e2 e1,h2,h3⟩
theorem Bdv {G E:Int} (hG:0 < G) (_:0≤E):Vy ⟨G,E⟩=E / G∨Vy ⟨G,E⟩=E / G+1:=by
 unfold Vy
 dsimp only
 rw [if_neg (by omega)]
 have h1:=Int.emod_add_mul_ediv E G
 have h2:=Int.emod_nonneg E (show G≠0 by omega)
 have h3:=Int.emod_lt_of_pos E hG
 have e:2 * E+G=(2 * (E % G)+G)+(2 * G) * (E / G):=by
  conv=>lhs; rw [← h1]
  rw [Int.mul_add,Int.mul_assoc]; omega
 rw [e,Int.add_mul_ediv_left _ _ (by omega)]
 have h4:0≤(2 * (E % G)+G) / (2 * G):=Int.ediv_nonneg (by omega) (by omega)
 have h5:(2 * (E % G)+G) / (2 * G) < 2:=Int.ediv_lt_of_lt_mul (by omega) (by omega)
 omega
end
def Bcr (s:Sto):Sto:=⟨s.t,s.r,(s.c.take 4).map Ayu⟩
theorem Bcg {l:List Int} {r:Rng} (h:Ep l r=true):Ep l ⟨r.lo,r.lo⟩=true:=by
 simp only [Ep,Bool.and_eq_true,decide_eq_true_eq] at h ⊢
 omega
theorem Bdk {s:Sto} (h:Ng s):Ng (Bcr s):=by
 refine ⟨h.t,by simp only [Bcr,List.length_map,List.length_take]; omega,h.r,?_⟩
 rw [List.all_eq_true]
 intro c hc
 obtain ⟨d,hd,rfl⟩:=List.mem_map.1 hc
 have:=List.all_eq_true.1 h.c d (List.mem_of_mem_take hd)
 simp only [okC,Bool.and_eq_true] at this ⊢
 exact ⟨this.1,Bcg this.2.1,Bcg this.2.2⟩
abbrev upN (n:Nat):List Int:=(List.range n).map fun (j:Nat)=>(j:Int)
theorem Bcl (n:Nat):upN (n+1)=upN n++[(n:Int)]:=by
 unfold upN; rw [List.range_succ,List.map_append]; rfl
def prS (s:Sto):List (Int × Int):=s.c.map fun c=>(c.g,P9 s.t c)
theorem Bb7 {most:Int}:∀ (k i:Nat),(i:Int)+(k:Int)≤most+1→Cz most ((i:Int) - 1) ((List.range' i k).map fun (j:Nat)=>(j:Int))=true
 | 0,_,_=>rfl
 | k+1,i,h=>by
  rw [List.range'_succ,List.map_cons,Cz,Bool.and_eq_true]
  refine ⟨by simp only [inB,Bool.and_eq_true,decide_eq_true_eq]; omega,?_⟩
  have:=Bb7 (most:=most) k (i+1) (by omega)
  rw [show (((i+1:Nat):Int)) - 1=(i:Int) by omega] at this
  exact this
theorem Bdg (n:Nat):Cz ((n:Int) - 1) (-1) (upN n)=true:=by
 have:=Bb7 (most:=(n:Int) - 1) n 0 (by omega)
 unfold upN
 rw [List.range_eq_range']
 exact this
theorem Bbz {s:Sto}:∀ (a b:List Int),smG s (a++b)=smG s a+smG s b
 | [],b=>by simp [smG]
 | i :: a,b=>by simp only [List.cons_append,smG,Bbz a b]; omega
theorem Bby {s:Sto} {f:Rng→Int}:∀ (a b:List Int),smS s f (a++b)=smS s f a+smS s f b
 | [],b=>by simp [smS]
 | i :: a,b=>by simp only [List.cons_append,smS,Bby a b]; omega
theorem Bbi:∀ (a b:List (Int × Int)),Aqz (a++b)=Aqz a+Aqz b
 | [],b=>by simp [Aqz]
 | i :: a,b=>by simp only [List.cons_append,Aqz,Bbi a b]; omega
theorem Bbs:∀ (a b:List (Int × Int)),Ba8 (a++b)=Ba8 a+Ba8 b
 | [],b=>by simp [Ba8]
 | i :: a,b=>by simp only [List.cons_append,Ba8,Bbs a b]; omega
theorem Bce {s:Sto} (f:Rng→Int) (h:∀ c ∈ s.c,f (E8 s c)=P9 s.t c):∀ k,k≤s.c.length→smG s (upN k)=Aqz ((prS s).take k)∧smS s f (upN k)=Ba8 ((prS s).take k)
 | 0,_=>⟨rfl,rfl⟩
 | k+1,hk=>by
  obtain ⟨h1,h2⟩:=Bce f h k (by omega)
  have hm:s.c.getD k default ∈ s.c:=by rw [← List.getElem_eq_getD (h:=by omega)]; exact List.getElem_mem _
  have e:(prS s).getD k default=((s.c.getD k default).g,P9 s.t (s.c.getD k default)):=by unfold prS; rw [C1 _ default default (by omega)]
  rw [Bcl,Bbz,Bby,Ak0 default (by unfold prS; rw [List.length_map]; omega),Bbi,Bbs,h1,h2,e]
  simp only [smG,smS,Aqz,Ba8,Int.toNat_natCast,Int.add_zero,h _ hm,and_self]
theorem Bdy {t:Tbl} (h:Nc t=true):(t.w.length≤8∧t.m.length≤8∧t.v.length≤8)∧∀ r ∈ t.v,r.length≤8:=by
 simp only [Nc,Bool.and_eq_true,decide_eq_true_eq,List.all_eq_true] at h
 exact ⟨by omega,fun r hr=>by have:=h.2 r hr; omega⟩
theorem Bdd {s:Sto} (h:Am6 s=true):s.t.w.length < 1000000∧s.t.m.length < 1000000∧s.t.v.length < 1000000∧(∀ r ∈ s.t.v,r.length < 1000000)∧s.c.length < 1000000:=by
 simp only [Am6,Bool.and_eq_true,decide_eq_true_eq] at h
 obtain ⟨⟨h1,h2,h3⟩,h4⟩:=Bdy h.1
 exact ⟨by omega,by omega,by omega,fun r hr=>by have:=h4 r hr; omega,by omega⟩
def edL (l:List Csk) (k:Nat):List Csk:=(l.take k).map Ayu++l.drop k
theorem Ba7 {l:List Csk} {k:Nat}:(edL l k).length=l.length:=by
 unfold edL; rw [List.length_append,List.length_map,List.length_take,List.length_drop]; omega
theorem Bd3 {l:List Csk} {k:Nat} (h:k < l.length):(edL l k).getD k default=l.getD k default:=by
 unfold edL
 have e:((l.take k).map Ayu).length=k:=by rw [List.length_map,List.length_take]; omega
 rw [List.getD_eq_getElem?_getD,List.getElem?_append_right (by omega),e,Nat.sub_self,List.getElem?_drop,Nat.add_zero,List.getD_eq_getElem?_getD]
theorem Bdm {l:List Csk} {k:Nat} (h:k < l.length):(edL l k).set k (Ayu (l.getD k default))=edL l (k+1):=by
 unfold edL
 have e:((l.take k).map Ayu).length=k:=by rw [List.length_map,List.length_take]; omega
 rw [List.set_append_right (h:=by omega),e,Nat.sub_self,Bc1 default h,List.set_cons_zero,Ab9 default h,List.append_assoc]; rfl
theorem Bdt {l:List Csk} {k:Nat} (h:k < l.length):((edL l k).map Zf).getD k []=Zf (l.getD k default):=by
 rw [En (by rw [Ba7]; exact h),Bd3 h]
theorem Bdj {l:List Csk} {k:Nat} (h:k < l.length):((edL l k).map Zf).set k (Zf (Ayu (l.getD k default)))=(edL l (k+1)).map Zf:=by
 rw [← List.map_set,Bdm h]
theorem Bd8 {l:List Csk}:edL l 0=l:=by unfold edL; simp
theorem Bdp {l:List Csk} {k:Nat} (h:l.length≤k):edL l k=l.map Ayu:=by
 unfold edL; rw [List.take_of_length_le h,List.drop_of_length_le h,List.append_nil]
theorem Ba5 {s:Sto}:(prS s).length=s.c.length:=by unfold prS; rw [List.length_map]
theorem Bbk {s:Sto} {k:Nat} (h:k < s.c.length):(prS s).getD k default=((s.c.getD k default).g,P9 s.t (s.c.getD k default)):=by unfold prS; rw [C1 _ default default h]
theorem Bco {s:Sto} {k:Nat} (h:k < s.c.length):Aqz ((prS s).take (k+1))=Aqz ((prS s).take k)+(s.c.getD k default).g:=by
 rw [Ak0 default (by rw [Ba5]; exact h),Bbi,Bbk h]; simp [Aqz]
theorem Bbq:∀ {a b:List (Int × Int)} {i:Nat},Bbb i (a++b)=Bbb i a++Bbb (i+a.length) b
 | [],b,i=>rfl
 | p :: a,b,i=>by
  rw [List.cons_append,Bbb,Bbb,Bbq,List.length_cons,show i+(a.length+1)=i+1+a.length by omega]; rfl
theorem Bcc {l:List (Int × Int)} {k:Nat} (h:k < l.length) (h0:0 < k):(l.take (k+1)).drop 1=(l.take k).drop 1++[l.getD k default]:=by
 rw [Ak0 default h,List.drop_append_of_le_length (by rw [List.length_take]; omega)]
theorem Bcy {l:List (Int × Int)} {k:Nat} (h:k < l.length) (h0:0 < k):Bbb 1 ((l.take (k+1)).drop 1)=Bbb 1 ((l.take k).drop 1)++[⟨0,(k:Int),0,⟨(l.getD k default).1,(l.getD k default).1⟩⟩]:=by
 rw [Bcc h h0,Bbq,List.length_drop,List.length_take,show 1+(min k l.length - 1)=k by omega]; rfl
theorem Bc9 {l:List (Int × Int)}:(l.take 1).drop 1=[]:=by
 cases l <;> rfl
theorem Bd2 {x:Sto} {n:Int} (h:Ng x) (h0:0 < x.c.length) (h4:x.c.length≤4) (hn:0≤n) (ha:n+Aqz (prS x)≤60) (hd:∀ p ∈ prS x,0≤p.2∧p.2≤120):Ba2 (prS x) n:=by
 refine ⟨by rw [Ba5]; exact h0,by rw [Ba5]; exact h4,fun p hp=>?_,hd,hn,by omega⟩
 obtain ⟨c,hc,rfl⟩:=List.mem_map.1 hp
 have:=List.all_eq_true.1 h.c c hc
 simp only [okC,inB,Bool.and_eq_true,decide_eq_true_eq] at this
 exact this.1.1
theorem Bea {s:Sto} (hth:Am6 s=true) (hfa:Jp s=0) (hc0:0 < s.c.length):∃ x,Ame s x:=by
 obtain ⟨b1,b2,b3,b4,_⟩:=Bdd hth
 have hx:=Bdk (Avc hfa)
 refine ⟨Bcr s,hx,by simp [Bcr]; omega,by simp [Bcr]; omega,fun c hc=>?_,b1,b2,b3,b4,by simp [Bcr],rfl⟩
 have hc2:=hc
 simp only [Bcr,List.mem_map] at hc2
 obtain ⟨d,_,rfl⟩:=hc2
 exact Al3 hx hc rfl rfl
theorem Ame.s0 {s x:Sto} (h:Ame s x):∀ {i:Nat},i≤x.c.length→0≤Aqz ((prS x).take i)
 | 0,_=>by simp [Aqz]
 | i+1,hi=>by
  have:=Ame.s0 h (i:=i) (by omega)
  have hg:=h.g (k:=i) (by omega)
  rw [Bco (by omega)]; omega
theorem Bdl {x:Sto} {i:Nat} (h:i < x.c.length) (hp:∀ p ∈ (prS x).take i,0≤p.2∧p.2≤120) (hv:0≤P9 x.t (x.c.getD i default)∧P9 x.t (x.c.getD i default)≤120):∀ p ∈ (prS x).take (i+1),0≤p.2∧p.2≤120:=fun p hm=>by
 rw [Ak0 default (by rw [Ba5]; exact h),List.mem_append,List.mem_singleton,Bbk h] at hm
 rcases hm with hm | rfl
 ·exact hp p hm
 ·exact hv
section
variable {x:Sto} {i:Nat}
theorem Bd7:(upN i).map P0++[[iv (i:Int)]]=(upN (i+1)).map P0:=by rw [Bcl,List.map_append]; rfl
theorem Bd6 (h:i < x.c.length):(((prS x).take i).map Bbw).map Agh++[[iv (x.c.getD i default).g,iv (x.c.getD i default).g,iv (P9 x.t (x.c.getD i default)),iv (P9 x.t (x.c.getD i default)),iv 60]]=(((prS x).take (i+1)).map Bbw).map Agh:=by
 rw [Ab9 default (by rw [Ba5]; exact h),List.map_append,Bbk h]; rfl
theorem Bec (h:i < x.c.length):(((prS x).take i).map (·.1)).map P0++[[iv (x.c.getD i default).g]]=(((prS x).take (i+1)).map (·.1)).map P0:=by
 rw [Ab9 default (by rw [Ba5]; exact h),List.map_append,Bbk h]; rfl
theorem Bd9 (h:i < x.c.length):(((prS x).take i).map (·.2)).map P0++[[iv (P9 x.t (x.c.getD i default))]]=(((prS x).take (i+1)).map (·.2)).map P0:=by
 rw [Ab9 default (by rw [Ba5]; exact h),List.map_append,Bbk h]; rfl
theorem Bee (h:i < x.c.length) (h0:0 < i):(Bbb 1 (((prS x).take i).drop 1)).map Aj3++[[iv 0,iv (i:Int),iv 0,iv (x.c.getD i default).g,iv (x.c.getD i default).g]]=(Bbb 1 (((prS x).take (i+1)).drop 1)).map Aj3:=by
 rw [Bcy (by rw [Ba5]; exact h) h0,List.map_append,Bbk h]; rfl
theorem Bef (h:i < x.c.length) (h0:0 < i):((((prS x).take i).drop 1).map (·.1)).map P0++[[iv (x.c.getD i default).g]]=((((prS x).take (i+1)).drop 1).map (·.1)).map P0:=by
 rw [Bcc (by rw [Ba5]; exact h) h0,List.map_append,List.map_append,Bbk h]; rfl
theorem Beb (h0:¬ 0 < i):(Bbb 1 (((prS x).take i).drop 1)).map Aj3=(Bbb 1 (((prS x).take (i+1)).drop 1)).map Aj3:=by
 obtain rfl:i=0:=by omega
 rw [Bc9]; simp
theorem Bed (h0:¬ 0 < i):((((prS x).take i).drop 1).map (·.1)).map P0=((((prS x).take (i+1)).drop 1).map (·.1)).map P0:=by
 obtain rfl:i=0:=by omega
 rw [Bc9]; simp
theorem m1 (h0:0 < i):i - 1+1=i+1 - 1:=by omega
theorem m1z (h0:¬ 0 < i):i - 1=i+1 - 1:=by omega
end
end AM.Wort
end
/- The abstract machine, part 49: an object gets another name, ahead of some code. -/
section
namespace AM
open Go Go.Proofs
section
variable {P:Program} {r:RB} {N:Nat} {st:St} {Q:AEx→St→Prop} {c m:Nat}
theorem Bbe {cd:Code} {l:List (Nat × AV)} {o:List (Nat × AO)} {k:Nat} (n:Nat) {es:List (List PV)} (hn:O o n=some (.arr k es)) (h:AWP P r N cd ⟨T (Aja n es l),O (Bcd n es o)⟩ Q):AWP P r N cd ⟨T l,O o⟩ Q:=
 Amc n hn (by rw [Bdz]; exact h)
end
section
variable {P:Program} {r:RB} {N:Nat} {all:List Oper} {s:St}
def Bbl (v:List Nat) (o:Oper):Bool:=Jk v o||(qop o.op&&!isV v o.op)
theorem Bb8 {o:Oper} {x:AV} {ob:Option AO}:Rx r o s (C9 r.b o.dst x ob s):=fun m hm hne=>by
 have:(C9 r.b o.dst x ob s).o m=s.o m:=Mx (.inl fun d hd e=>hne d hd e.symm)
 rw [this]; exact hm
theorem Bdw {o:Oper} (h:Bbl r.v o=true) {l l':List Oper} {K:St→Prop} (hc:s.closed) (hl:∀ s1:St,s1.closed→Rx r o s s1→EL P r N all l s1 K→EL P r N all l' s1 K) (hE:EL P r N all (o :: l) s K):EL P r N all (o :: l') s K:=by
 unfold Bbl at h
 rw [Bool.or_eq_true] at h
 rcases h with h | h
 ·exact Anu h hc hl hE
 ·simp only [Bool.and_eq_true,Bool.not_eq_true'] at h
  rw [E1 h.1 h.2 hc] at hE ⊢
  obtain ⟨h1,x,ob,h2,h3⟩:=hE
  exact ⟨h1,x,ob,h2,hl _ (Kg h.1 hc h2) Bb8 h3⟩
theorem Bcv {D:(Nat→AV)→Prop} {oi:Oper} {post:List Oper} {K:St→Prop} (hK:∀ s':St,K s'→D s'.t):∀ {pre:List Oper} {s:St},s.closed→(xop P oi.op=true→Ac0 r s oi)→(∀ p1 oj p2,pre=p1++oj :: p2→Bbl r.v oj=true∧(∀ d,oi.dst=some d→oj.dst≠some d)∧(Kr P r N all D oj oi (p2++post)∨Als P all oj oi=true)) →
  EL P r N all (pre++oi :: post) s K→EL P r N all (oi :: (pre++post)) s K
 | [],_,_,_,_,h=>h
 | oj :: pre,s,hc,hf,hp,h=>by
  obtain ⟨hj1,hj2,hj3⟩:=hp [] oj pre rfl
  have h1:=Bdw (l':=oi :: (pre++post)) hj1 hc (fun s1 hc1 hn h1=>Bcv hK hc1 (fun hx d hd=>hn _ (hf hx d hd) (fun d2 hd2 e=>by
   have e:d=d2:=Nat.add_left_cancel e
   subst e
   exact hj2 d hd hd2)) (fun p1 o2 p2 e=>hp (oj :: p1) o2 p2 (by rw [e]; rfl)) h1) h
  rcases hj3 with hj3 | hj3
  ·exact hj3 s K hc hK h1
  ·simp only [Als,Bool.and_eq_true,Option.isNone_iff_eq_none] at hj3
   obtain ⟨⟨⟨⟨k1,k2⟩,k3⟩,k4⟩,k5⟩:=hj3
   exact Ab0 k1 k2 k3 k4 k5 hc (fun _=>hf k3) h1
end
section
variable {P:Program} {r:RB} {N:Nat} {ops:List Oper}
theorem Bda {o:Oper} {l:List Oper} {s:St} {K:St→Prop} {i:Nat} {B:Nat} {S:Nat→Prop} {θ:Nat→Loc} {M:Nat→Prop} {w:World} {a:Act} {Q:Exit→Act→World→Prop}
  (hp:Bbl r.v o=true) (hi:ops[i]?=some o) (hs:Aq N B S θ M w s a) (h:EL P r N ops (o :: l) s K) :
  wpOpIn (Wd r.rd) 0 P ops.toArray Q i (fun a' w'=>∃ s1,(EL P r N ops l s1 K∧Rx r o s s1)∧Fin r N B S θ M w a s1 a' w') a w:=by
 unfold Bbl at hp
 rw [Bool.or_eq_true] at hp
 rcases hp with hp | hp
 ·exact Ai3 hp hi hs h
 ·simp only [Bool.and_eq_true,Bool.not_eq_true'] at hp
  have h2:EL P r N ops [o] s (fun s1=>EL P r N ops l s1 K∧Rx r o s s1):=by
   rw [E1 hp.1 hp.2 hs.cl] at h ⊢
   obtain ⟨h1,x,ob,h2,h3⟩:=h
   exact ⟨h1,x,ob,h2,h3,Bb8⟩
  exact Rz hi hs h2
theorem Bcz {D:(Nat→AV)→Prop} {b:Nat→Nat} (hb:Q1 ops b) (hpl:∀ (i:Nat) (o:Oper),ops[i]?=some o→Bbl r.v o=true)
  (hdist:∀ (i j:Nat) (oi oj:Oper),i≠j→ops[i]?=some oi→ops[j]?=some oj→∀ d,oi.dst=some d→oj.dst≠some d)
  (hsw:∀ (i j:Nat) (oi oj:Oper) (rest:List Nat),j < i→ops[i]?=some oi→ops[j]?=some oj→(b i).testBit j=false→(∀ k ∈ rest,j < k∧k≠i∧(k < i→(b i).testBit k=false))→Kr P r N ops D oj oi (rest.filterMap (ops[·]?))∨Als P ops oj oi=true)
  {K:St→Prop} (hK:∀ s':St,K s'→D s'.t) {Q:Exit→Act→World→Prop} :
  ∀ (fuel:Nat) (listed:Array Bool) (s:St) (B:Nat) (S:Nat→Prop) (θ:Nat→Loc) (M:Nat→Prop) (w:World) (a:Act),Aq N B S θ M w s a→listed.size=ops.length→Mr ops listed→(∀ i ∈ B7 ops.length listed,∀ o,ops[i]?=some o→xop P o.op=true→Ac0 r s o)→(B7 ops.length listed).length≤fuel →
   EL P r N ops ((B7 ops.length listed).filterMap (ops[·]?)) s K→(∀ s' a' w',K s'→Fin r N B S θ M w a s' a' w'→Q .normal a' w')→wpAnyIn (Wd r.rd) 0 P .any ops.toArray Q fuel listed a w:=by
 intro fuel
 have hready:∀ {listed:Array Bool} {x:Nat},x ∈ Region.ready .any ops.toArray listed→x ∈ B7 ops.length listed:=fun h=>((C4 rfl).1 h).1
 induction fuel with
 | zero=>
  intro listed s B S θ M w a hs hsz hcl hfr hf hE hQ
  have hnil:B7 ops.length listed=[]:=List.length_eq_zero_iff.1 (by omega)
  refine ⟨List.eq_nil_iff_forall_not_mem.2 fun x hx=>?_,?_⟩
  ·have:=hready hx
   rw [hnil] at this; cases this
  ·rw [hnil] at hE
   exact hQ s a w hE ⟨H3.refl hs,rfl⟩
 | succ fuel ih=>
  intro listed s B S θ M w a hs hsz hcl hfr hf hE hQ
  refine ⟨fun hr=>?_,fun i hi=>?_⟩
  ·have hnil:B7 ops.length listed=[]:=by
    cases hrem:B7 ops.length listed with
    | nil=>rfl
    | cons x l=>
     exfalso
     have hx:x ∈ B7 ops.length listed:=by rw [hrem]; simp
     have hsort:(B7 ops.length listed).Pairwise (· < ·):=(List.pairwise_lt_range).filter _
     rw [hrem,List.pairwise_cons] at hsort
     obtain ⟨hxn,hxl⟩:=Db.1 hx
     have:x ∈ Region.ready .any ops.toArray listed:=(C4 rfl).2 ⟨hx,ops[x],by simp [hxn],fun e he hbe=>by
      have hlt:=hb.lt x ops[x] (by simp [hxn]) e he hbe
      cases hl:listed.getD e.on false with
      | true=>rfl
      | false=>
       exfalso
       have hen:e.on < ops.length:=Nat.lt_trans hlt hxn
       have:e.on ∈ B7 ops.length listed:=Db.2 ⟨hen,by
        rw [Array.getD_eq_getD_getElem?] at hl ⊢
        have hsz':e.on < listed.size:=by omega
        simp only [Array.getElem?_eq_getElem hsz',Option.getD_some] at hl ⊢
        exact hl⟩
       rw [hrem] at this
       rcases List.mem_cons.1 this with h | h
       ·omega
       ·have:=hsort.1 _ h; omega⟩
     rw [hr] at this; cases this
   rw [hnil] at hE
   exact hQ s a w hE ⟨H3.refl hs,rfl⟩
  ·obtain ⟨hrem,o,ho,hafter⟩:=(C4 rfl).1 hi
   obtain ⟨pre,post,he,hpre,hset⟩:=Hm hsz hrem
   have hsort:(pre++i :: post).Pairwise (· < ·):=by rw [← he]; exact (List.pairwise_lt_range).filter _
   have hnl:∀ k ∈ pre++i :: post,listed.getD k true=false:=fun k hk=>(Db.1 (show k ∈ B7 ops.length listed by rw [he]; exact hk)).2
   have hne:∀ k ∈ pre++post,k≠i:=fun k hk e=>by
    subst e
    have h4:=List.pairwise_append.1 hsort
    rcases List.mem_append.1 hk with h | h
    ·have:=h4.2.2 k h k (by simp); omega
    ·have:=(List.pairwise_cons.1 h4.2.1).1 k h; omega
   have hfree:∀ k ∈ pre++post,k < i→(b i).testBit k=false:=fun k hk hki=>by
    cases ht:(b i).testBit k with
    | false=>rfl
    | true=>
     have h1:=F2 hb hcl i o ho hafter hki ht
     have h2:=hnl k (by
      rcases List.mem_append.1 hk with h | h
      ·simp [h]
      ·simp [h])
     rw [Px h2] at h1; cases h1
   rw [he,List.filterMap_append,List.filterMap_cons] at hE
   simp only [ho] at hE
   have hE':=Bcv hK hs.cl (fun hx=>hfr i hrem o ho hx) (fun p1 oj p2 hp=>by
    obtain ⟨l1,j,l2,e1,e2,e3⟩:=Fh hp
    have hjp:j ∈ pre:=by rw [e1]; simp
    refine ⟨hpl j oj e2,hdist i j o oj (by have:=hpre j hjp; omega) ho e2,?_⟩
    have:=hsw i j o oj (l2++post) (hpre j hjp) ho e2 (hfree j (by simp [hjp]) (hpre j hjp)) (fun k hk=>by
     rw [e1,List.append_assoc,List.pairwise_append] at hsort
     have h3:=(List.pairwise_cons.1 hsort.2.1).1
     have hk':k ∈ l2++i :: post:=by
      rcases List.mem_append.1 hk with h | h
      ·simp [h]
      ·simp [h]
     refine ⟨h3 k hk',hne k (by
      rcases List.mem_append.1 hk with h | h
      ·rw [e1]; simp [h]
      ·simp [h]),hfree k (by
      rcases List.mem_append.1 hk with h | h
      ·rw [e1]; simp [h]
      ·simp [h])⟩)
    rw [List.filterMap_append,e3] at this
    exact this) hE
   refine wpOpIn_mono ?_ (Bda (hpl i o ho) ho hs hE')
   rintro a' w' ⟨s1,⟨hE1,hN1⟩,hF⟩
   obtain ⟨θ',M',hs',hcomp⟩:=hF.comp
   refine ih _ s1 B S θ' M' w' a' hs' (by simpa using hsz) ?_ ?_ ?_ ?_ (fun s' a'' w'' hK hF'=>hQ s' a'' w'' hK (hcomp _ _ _ hF'))
   ·intro k ok hk hl e hek hbe
    have hmono:∀ m,listed.getD m false=true→(listed.setIfInBounds i true).getD m false=true:=fun m hm=>by
     rw [Array.getD_eq_getD_getElem?] at hm ⊢
     rw [Array.getElem?_setIfInBounds]
     split
     ·split <;> simp_all
     ·exact hm
    by_cases hki:k=i
    ·subst hki
     rw [ho] at hk; cases hk
     exact hmono _ (hafter e hek hbe)
    ·have:listed.getD k false=true:=by
      rw [Array.getD_eq_getD_getElem?] at hl ⊢
      rw [Array.getElem?_setIfInBounds,if_neg (Ne.symm hki)] at hl
      exact hl
     exact hmono _ (hcl k ok hk this e hek hbe)
   ·intro k hk ok hok hx d hd
    rw [hset] at hk
    have hki:=hne k hk
    refine hN1 _ (hfr k (by rw [he]; rcases List.mem_append.1 hk with h | h <;> simp [h]) ok hok hx d hd) fun d2 hd2 e=>?_
    have e:d=d2:=Nat.add_left_cancel e
    subst e
    exact hdist k i ok o hki hok ho d hd hd2
   ·rw [hset]
    rw [he] at hf
    simp only [List.length_append,List.length_cons] at hf ⊢
    omega
   ·rw [hset,List.filterMap_append]
    exact hE1
def Bb2 (P:Program) (v q:List Nat) (ops:List Oper) (cfs:List Cf):Bool:=(ops.all (Bbl v))&&(W6 ops&&Jm ops [] fun l=>L7 ops (fun i=>l.getD i 0)&&match Vh P v q ops ops (fun i=>l.getD i 0) ops.zipIdx with
 | some c=>Zp c cfs
 | none=>false)
theorem Bc7 {id:Nat} {st:St} {Q:AEx→St→Prop} (cfs:List Cf) (hm:P.follows .mixedOrders=true) (hchk:Bb2 P r.v r.q ops cfs=true) (hfr:∀ d ∈ Rf P ops,st.o (r.b+d)=none) (h:EL P r N ops ops st (fun s=>(cfs.all fun c=>c.ok s.t)=true∧Q .normal s)):AWP P r N (.region id ops.toArray true) st Q:=by
 unfold Bb2 at hchk
 simp only [Bool.and_eq_true] at hchk
 obtain ⟨hpl,hds,hchk⟩:=hchk
 rw [List.all_eq_true] at hpl
 obtain ⟨l,hl⟩:=Hg hchk
 rw [Bool.and_eq_true] at hl
 obtain ⟨hl1,hl2⟩:=hl
 clear hchk
 have hrows:Vh P r.v r.q ops ops (fun i=>l.getD i 0) ops.zipIdx=some cfs:=by
  revert hl2
  cases Vh P r.v r.q ops ops (fun i=>l.getD i 0) ops.zipIdx with
  | none=>intro h; cases h
  | some c=>intro h; rw [T5 h]
 generalize hbb:(fun i=>l.getD i 0)=bb at *
 clear hl2
 intro B S θ M w a hs
 refine wpIn_region_any hm ?_
 have hrem:B7 ops.length (Array.replicate ops.length false)=List.range ops.length:=H4 _
 refine Bcz (D:=fun f=>∀ x ∈ cfs,x.ok f=true) (K:=fun s=>(cfs.all fun c=>c.ok s.t)=true∧Q .normal s) (Fp hl1) (fun i o ho=>hpl o (List.mem_of_getElem? ho)) (Rg hds) (fun i j oi oj rest hji hi hj hbit hrest=>?_) (fun s' hs'=>List.all_eq_true.1 hs'.1) ops.toArray.size (Array.replicate ops.toArray.size false) st B S θ M _ a (hs.drawn _) (by simp) (fun k o hk hL=>?_) (fun i _ o ho=>Vs hfr o (List.mem_of_getElem? ho)) ?_ ?_ (fun s' a' w' hk hF=>⟨.normal,s',rfl,hk.2,?_⟩)
 ·obtain ⟨c1,g1,g2⟩:=Ud hrows (oi,i) (List.mem_zipIdx_iff_getElem?.2 hi)
  obtain ⟨c2,g3,g4⟩:=Ql g1 (oj,j) (List.mem_zipIdx_iff_getElem?.2 (by rw [List.getElem?_take,if_pos hji]; exact hj)) hbit
  unfold Ahp at g3
  split at g3
  ·rename_i h7
   exact .inl (Qp (Aa3 (P:=P) (r:=r) (N:=N) h7).2)
  unfold Ai6 at g3
  split at g3
  ·rename_i c3 hc3
   cases g3
   exact .inl (S5 (b:=bb) hc3 (fun x hx=>g2 x (g4 x hx)) hji hi hj hbit hrest (fun k _ o ho=>List.mem_of_getElem? ho)).2
  ·split at g3
   ·rename_i hx; exact .inr hx
   ·cases g3
 ·simp only [Array.getD_eq_getD_getElem?,Array.getElem?_replicate] at hL
  split at hL <;> simp at hL
 ·simp only [List.size_toArray]; rw [hrem]; simp
 ·simp only [List.size_toArray]; rw [hrem,Eb]; exact h
 ·obtain ⟨⟨θ',M',h1,h2,h3,h4⟩,h5⟩:=hF
  exact ⟨⟨θ',M',h1,⟨h2.size,h2.same,h2.os,h2.tape,h2.output⟩,h3,h4⟩,h5⟩
theorem Bc8 {id:Nat} {st:St} {Q:AEx→St→Prop} (cfs:List Cf) (dx:List Nat) (hm:P.follows .mixedOrders=true) (hchk:Bb2 P r.v r.q ops cfs=true) (hdx:Rf P ops=dx) (hfr:Aii st.o r.b dx) (h:EL P r N ops ops st (fun s=>(cfs.all fun c=>c.ok s.t)=true∧Q .normal s)):AWP P r N (.region id ops.toArray true) st Q:=
 Bc7 cfs hm hchk (fun d hd=>Vn hfr d (by rw [← hdx]; exact hd)) h
end
end AM
end
/- The top law: what is blended of casks is what is moved into one vessel. -/
section
namespace AM.Try
open Go AM AM.Wort Go.Proofs
open Nat renaming reduceLT→sA,reduceAdd→sB,reduceMul→sC,reduceSub→sD,reduceLeDiff→sE,reduceEqDiff→sF,reduceBEq→sG
open Int renaming reduceAdd→sH,reduceSub→sI,reduceMul→sJ,reduceLT→sK,reduceLE→sL,reduceNeg→sM,reduceToNat→sN,reduceEq→sO
set_option maxRecDepth 100000
set_option maxHeartbeats 16000000
theorem Bba {r:RB} {N:Nat} {s:AM.St} {K:AM.St→Prop} {dst:Option Nat} {ty:TypeId} {pos:String} {after:Array Edge} {g:Option (Nat × Bool)} {x:Operand} {lo hi:Option Operand}:EO Try.prog r N ⟨dst,.slice 26 x lo hi none,ty,pos,after,g⟩ s K=EOp r.b N dst s K (Bcx (fun e=>(Aa Try.prog e).sz) (fun e=>(Aa Try.prog e).agg) 36 ((ev s.t x).pv?.bind PV.list?) (Bn (ev s.t) 0 lo) (fun n=>Bn (ev s.t) n hi)):=Bc5 (by rw [Az7])
theorem Ba6 (l:List Csk):((l.map Zf).all fun c=>decide (c.length=5))=true:=by simp
theorem Bds (s:Sto):Bcx (fun e=>(Aa Try.prog e).sz) (fun e=>(Aa Try.prog e).agg) 36 (some (s.c.map Zf)) (some 0) (fun _=>some (if (s.c.length:Int) < 4 then (s.c.length:Int) else 4))=some (.pure (.p (.sl ((s.c.take 4).map Zf)))):=by
  have e:(if (s.c.length:Int) < 4 then (s.c.length:Int) else 4).toNat=min 4 s.c.length:=by split <;> omega
  rw [Bc0 (h:=if (s.c.length:Int) < 4 then (s.c.length:Int) else 4) rfl (Int.le_refl _) (by split <;> omega) (by rw [List.length_map]; split <;> omega) (by simp only [amT]; rfl) (by simp only [amT]; exact Ba6 _),e]
  show some (Eff.pure (.p (.sl (((s.c.map Zf).take (min 4 s.c.length)).drop 0))))=_
  rw [List.drop_zero,← List.map_take]
  congr 4
  by_cases h:4≤s.c.length
  · rw [Nat.min_eq_left h]
  · rw [Nat.min_eq_right (by omega),List.take_of_length_le (Nat.le_refl _),List.take_of_length_le (by omega)]
theorem Bdu {s x:Sto} (hX:Ame s x) {n:Int} (hn:0≤n∧n < 30) (hg:0 < n+Aqz (prS x)):Bo Try.prog 15 [avO x,isl (upN x.c.length),i64 n] (.tup [avR ⟨Ba8 (prS x) / (n+Aqz (prS x)),Ba8 (prS x) / (n+Aqz (prS x))⟩,i64 0]):=by
  have h0:=hX.l0
  have h4:=hX.l4
  have e1:=Bce (s:=x) (fun r=>r.lo) (fun c hc=>by rw [(hX.one c hc).1]) x.c.length (Nat.le_refl _)
  have e2:=Bce (s:=x) (fun r=>r.hi) (fun c hc=>by rw [(hX.one c hc).1]) x.c.length (Nat.le_refl _)
  rw [List.take_of_length_le (by rw [Ba5]; exact Nat.le_refl _)] at e1 e2
  have ul:(upN x.c.length).length=x.c.length:=by simp
  have h:=Aiw hX.ok (l:=upN x.c.length) (w:=n) (fun c hc=>by
    obtain ⟨q1,q2⟩:=hX.one c hc
    rw [q1]; exact ⟨q2,q2⟩) (by omega) (Bdg _) (by omega) (by rw [e1.1]; exact hg)
  rw [e1.1,e1.2,e2.2] at h
  exact h
theorem Bd1 {cs:List (Int × Int)} {n:Int} (hM:Ba2 cs n):∃ v:List Liq,v.length=cs.length∧Ct v 0=⟨Aqz cs+n,Ba8 cs⟩∧Bo Try.prog 16 [avB (Ba9 cs n),avT (Bbf cs n)] (.tup [.p (.sl (v.map fun l=>Axo (Au5 l))),i64 0]):=by
  obtain ⟨v,e1,e2,e3,e4,e5,e6⟩:=Bc2 hM
  have hv:=Bbj hM
  have hnv:=hv.nv
  have hns:=hv.ns
  obtain ⟨q1,q2,q3,_⟩:=Dm e2
  have hp:=Alz (Ba9 cs n) (Bbf cs n) (by omega) (by omega) (by rw [Agw]; omega)
  unfold Dp at hp
  rw [if_pos e1,if_pos e2,if_pos e3,e4] at hp
  exact ⟨v,e5,e6,hp⟩
theorem Bdx (cs:List (Int × Int)) (n:Int):[AV.p (.sl ((cs.map Bbw).map Agh)),.p (.sl ((Bbb 1 (cs.drop 1)).map Aj3++[Aj3 (Bbm n)]))]=cB (Ba9 cs n):=by
  unfold cB Ba9
  dsimp only
  rw [show slS (Bbb 1 (cs.drop 1)++[Bbm n])=.sl ((Bbb 1 (cs.drop 1)++[Bbm n]).map Aj3) from rfl,List.map_append]; rfl
theorem Bd4 (cs:List (Int × Int)) (n:Int):[AV.p (.sl ((cs.map (·.1)).map P0)),.p (.sl ((cs.map (·.2)).map P0)),.p (.sl (((cs.drop 1).map (·.1)).map P0++[P0 n]))]=cT (Bbf cs n):=by
  unfold cT Bbf
  dsimp only
  rw [show isl ((cs.drop 1).map (·.1)++[n])=.p (.sl (((cs.drop 1).map (·.1)++[n]).map P0)) from rfl,List.map_append]; rfl
theorem Bc6 {α:Type} {l:List α} {k:Nat} {a d:α} (h:k < l.length):(l.set k a).getD k d=a:=by simp [List.getD,h]
theorem Ba4 (s:Sto):(Lq s s.c.length).length=s.c.length:=Hx (Nat.le_refl _)
theorem c_topB (s:Sto) (w:Int) (hw:0≤w∧w≤255):Bo Try.prog 3 [avO s,.p (.val (.int .u8 w))] (bl true):=by
  refine A0 (v:=[]) (q:=[]) (N:=273) (rs:=[.tmp 4]) Try.func3 rfl rfl rfl rfl rfl ?_
  have hlt:(s.c.take 4).length≤4:=by rw [List.length_take]; omega
  refine Ad fun K1 hK1=>?_
  simp (disch:=omega) only [eq_self,amL,sA,sB,↓reduceIte]
  refine hK1 _ ?_
  refine Ab fun K2 hK2=>?_
  refine Ad fun K3 hK3=>?_
  simp (disch:=omega) only [eq_self,amL,amT,sA,sB,sF,↓reduceIte]
  repeat' first | (refine Ck (fun h=>?_) (fun h=>?_) <;> simp (disch:=omega) only [h,eq_self,decide_false,amL,amT,sA,sF,↓reduceIte,reduceCtorEq]) | (refine Bp (fun h=>?_) (fun h=>?_) <;> simp (disch:=omega) only [h,eq_self,amL,amT,sA,sB,sF,↓reduceIte]) | (refine Aw (by kernel_rfl) rfl (Atu s) (by first | exact .inl rfl | exact .inr (.inl rfl)) ?_ ; simp (disch:=omega) only [eq_self,amL,sA,↓reduceIte]) | (refine Aw (by kernel_rfl) rfl (by have q:=Bdd (s:=s) (by first | assumption | (simpa using (by assumption:(!Am6 s)=false))); exact Apu s q.1 q.2.1 q.2.2.1 q.2.2.2.1 q.2.2.2.2) (by first | exact .inl rfl | exact .inr (.inl rfl)) ?_ ; simp (disch:=omega) only [ne_eq,eq_self,amL,amT,sA,sF,↓reduceIte])
  all_goals
   skip
   refine hK3 _ ?_
   refine Ai rfl (fun h=>MT.x ?_) (fun h=>ME.x ?_)
   all_goals
    first
    |refine MT.mk ?_
     first
     |exact Bool.noConfusion h
     |skip
      try simp only [nrm] at h
      refine Ad fun K4 hK4=>?_
      simp (disch:=omega) only [amL]
      repeat' first | (refine Aw (by kernel_rfl) rfl (Ao8) (by first | exact .inl rfl | exact .inr (.inl rfl)) ?_ ; simp (disch:=omega) only [eq_self,amL,sA,↓reduceIte])
      refine hK4 _ ?_
      refine Af ?_
      try simp (disch:=omega) only [eq_self,amL,↓reduceIte]
      all_goals first | rfl | (exfalso; rcases hgr with q | q <;> contradiction) | trace_state
    |refine ME.mk ?_
     first
     |exact Bool.noConfusion h
     |skip
      try simp only [nrm] at h
      refine Am ?_
      refine hK2 _ ?_
   all_goals
    skip
    refine Ad fun K5 hK5=>?_
    simp (disch:=omega) only [eq_self,amL,amT,sA,sB,sF,↓reduceIte]
    refine hK5 _ ?_
    refine Ad fun K6 hK6=>?_
    simp (disch:=omega) only [Bds,Option.bind_some,AV.pv?,PV.list?,eq_self,Bba,B1,B0,Cn,Ba6,amL,amT,sA,sB,sF,↓reduceIte,reduceCtorEq]
    refine hK6 _ ?_
    refine Ab fun K7 hK7=>?_
    refine Ad fun K8 hK8=>?_
    simp (disch:=omega) only [eq_self,amL,sA]
    refine hK8 _ ?_
    refine Aj ?_
    skip
    refine Bh (α:=Nat) (fun k=>⟨T [(1,.p (.val (.int .u8 w))),(5,.ptr 5 0),(6,i64 (k:Int))],O [(5,.cells [isl s.t.w,isl s.t.m,.p (slI s.t.v),i64 s.r,.own 46 (s.c.take 4).length]),(46,.arr 5 ((edL (s.c.take 4) k).map Zf))]⟩) (fun k=>(s.c.take 4).length - k) (fun k=>k≤(s.c.take 4).length) 0 ?_ ?_ (fun k hx9 K9 hK9=>?_)
    · exact Nat.zero_le _
    · refine C2 ?_ ?_ ?_ ?_ <;> (try simp (disch:=omega) only [eq_self,amL,sF,sG,↓reduceIte,reduceCtorEq]); all_goals first | rfl | (rw [Bd8]; done) | trace_state
    have hk:=hx9
    refine Ab fun K10 hK10=>?_
    refine Ad fun K11 hK11=>?_
    simp (disch:=omega) only [eq_self,amL,amT,sA,sF,↓reduceIte,reduceCtorEq]
    refine hK11 _ ?_
    refine Ai rfl (fun h=>MT.x ?_) (fun h=>ME.x ?_)
    all_goals
     first
     |refine MT.mk ?_
      first
      |exact Bool.noConfusion h
      |skip
       try simp only [nrm] at h
       refine Am ?_
       refine hK10 _ ?_
     |refine ME.mk ?_
      first
      |exact Bool.noConfusion h
      |skip
       try simp only [nrm] at h
       refine B2 ?_
       refine hK7 _ ?_
       refine Ab fun K12 hK12=>?_
       obtain rfl:k=(s.c.take 4).length:=by omega
       rw [Bdp (Nat.le_refl _)]
       refine Bbe 46 rfl ?_
       simp only [Aja,Bcd,AV.frz,AO.frz,List.map_cons,List.map_nil,Nat.reduceEqDiff,if_false,if_true,Nat.le_refl,List.length_map]
       have hth:Am6 s=true:=by first | assumption | (simpa using (by assumption:(!Am6 s)=false)) | (trace_state; fail)
       have hfa:Jp s=0:=by omega
       have hc0:0 < s.c.length:=by omega
       obtain ⟨x,hX⟩:=Bea hth hfa hc0
       rw [show List.take (s.c.take 4).length (((s.c.take 4).map Ayu).map Zf)=((s.c.take 4).map Ayu).map Zf from List.take_of_length_le (by simp),hX.cs]
       have hx0:=hX.l0
       have hx4:=hX.l4
       have hln:=Hx (s:=x) (Nat.le_refl _)
       obtain ⟨n,hn⟩:∃ n,w % 30=n:=⟨_,rfl⟩
       have hn2:0≤n∧n < 30:=by omega
       refine Ak ?_
       simp (disch:=omega) only [hn,eq_self,amL,amT,sA,sF,sO,↓reduceIte]
       refine hK12 _ ?_
       refine Ad fun K13 hK13=>?_
       simp (disch:=omega) only [eq_self,amL,amT,sA,sB,sF,↓reduceIte]
       repeat' first | (refine Aw (by kernel_rfl) rfl (Apt x hX.w hX.m hX.v hX.r (by omega)) (by first | exact .inl rfl | exact .inr (.inl rfl)) ?_ ; simp (disch:=omega) only [eq_self,amL,↓reduceIte]) | (refine Aw (by kernel_rfl) rfl (Al6 hX.ok) (by first | exact .inl rfl | exact .inr (.inl rfl)) ?_ ; simp (disch:=omega) only [eq_self,amL,sA,sF,↓reduceIte])
       refine hK13 _ ?_
       refine Ab fun K14 hK14=>?_
       refine Ad fun K15 hK15=>?_
       simp (disch:=omega) only [Ba4,ne_eq,eq_self,not_true_eq_false,decide_false,amL,amT,sA,sF,↓reduceIte,reduceCtorEq]
       repeat' first | (refine Ck (fun h=>?_) (fun h=>?_) <;> simp (disch:=omega) only [h,Ba7,List.set_set,List.length_set,Ba4,En,ne_eq,eq_self,not_true_eq_false,decide_false,Bba,B1,B0,Cn,Ba6,amL,amT,sA,sB,sC,sD,sE,sF,sG,sH,sI,sJ,sK,sL,sM,sN,sO,↓reduceIte,reduceCtorEq]) | (refine Bp (fun h=>?_) (fun h=>?_) <;> simp (disch:=omega) only [h,Ba7,List.set_set,List.length_set,Ba4,En,ne_eq,eq_self,not_true_eq_false,decide_false,Bba,B1,B0,Cn,Ba6,amL,amT,sA,sB,sC,sD,sE,sF,sG,sH,sI,sJ,sK,sL,sM,sN,sO,↓reduceIte,reduceCtorEq])
       all_goals
        skip
        refine hK15 _ ?_
        refine Ai rfl (fun h=>MT.x ?_) (fun h=>ME.x ?_)
        all_goals
         first
         |refine MT.mk ?_
          first
          |exact Bool.noConfusion h
          |skip
           try simp only [nrm] at h
           refine Ad fun K16 hK16=>?_
           simp (disch:=omega) only [Ba7,List.set_set,List.length_set,Ba4,En,ne_eq,eq_self,not_true_eq_false,decide_false,Bba,B1,B0,Cn,Ba6,amL,amT,sA,sB,sC,sD,sE,sF,sG,sH,sI,sJ,sK,sL,sM,sN,sO,↓reduceIte,reduceCtorEq]
           refine hK16 _ ?_
           refine Af ?_
           try simp (disch:=omega) only [Ba7,List.set_set,List.length_set,Ba4,En,ne_eq,eq_self,not_true_eq_false,decide_false,Bba,B1,B0,Cn,Ba6,amL,amT,sA,sB,sC,sD,sE,sF,sG,sH,sI,sJ,sK,sL,sM,sN,sO,↓reduceIte,reduceCtorEq]
           all_goals first | rfl | (exfalso; rcases hgr with q | q <;> contradiction) | trace_state
         |refine ME.mk ?_
          first
          |exact Bool.noConfusion h
          |skip
           try simp only [] at h
           refine Am ?_
           refine hK14 _ ?_
        all_goals
         skip
         refine Ad fun K17 hK17=>?_
         simp (disch:=omega) only [eq_self,amL,amT,sA,sB,sF,↓reduceIte]
         refine hK17 _ ?_
         refine Ad fun K18 hK18=>?_
         simp (disch:=omega) only [eq_self,amL,amT,sA,sB,sF,↓reduceIte]
         refine hK18 _ ?_
         refine Ad fun K19 hK19=>?_
         simp (disch:=omega) only [eq_self,amL,sA]
         refine hK19 _ ?_
         refine Ad fun K20 hK20=>?_
         simp (disch:=omega) only [eq_self,amL,sA,sF,↓reduceIte]
         refine hK20 _ ?_
         refine Ab fun K21 hK21=>?_
         refine Ad fun K22 hK22=>?_
         simp (disch:=omega) only [eq_self,amL,sA]
         refine hK22 _ ?_
         refine Aj ?_
         refine Tg 145 1 13 (by decide) rfl rfl ?_
         refine Qz 158 5 11 0 (by decide) rfl rfl rfl ?_
         refine Qz 185 5 11 1 (by decide) rfl rfl rfl ?_
         refine Qz 164 1 12 0 (by decide) rfl rfl rfl ?_
         refine Qz 173 1 12 1 (by decide) rfl rfl rfl ?_
         refine Qz 191 1 12 2 (by decide) rfl rfl rfl ?_
         refine Bh (α:=Nat) (fun i=>⟨T [(5,.ptr 5 0),(8,i64 n),(9,.p (.sl ((Lq x x.c.length).map Gp))),(11,.ptr 11 0),(12,.ptr 12 0),(13,.own 145 i),(14,i64 (n+Aqz ((prS x).take i))),(15,i64 (i:Int))],O [(5,.cells (cO x)),(11,.cells [.own 158 i,.own 185 (i - 1)]),(12,.cells [.own 164 i,.own 173 i,.own 191 (i - 1)]),(145,.arr 1 ((upN i).map P0)),(158,.arr 5 ((((prS x).take i).map Bbw).map Agh)),(185,.arr 5 ((Bbb 1 (((prS x).take i).drop 1)).map Aj3)),(164,.arr 1 ((((prS x).take i).map (·.1)).map P0)),(173,.arr 1 ((((prS x).take i).map (·.2)).map P0)),(191,.arr 1 (((((prS x).take i).drop 1).map (·.1)).map P0))]⟩) (fun i=>x.c.length - i) (fun i=>i≤x.c.length∧n+Aqz ((prS x).take i)≤60∧∀ p ∈ (prS x).take i,0≤p.2∧p.2≤120) 0 ?_ ?_ (fun i hx23 K23 hK23=>?_)
         · exact ⟨Nat.zero_le _,by simp [Aqz]; omega,by simp⟩
         · refine C2 ?_ ?_ ?_ ?_ <;> (try simp (disch:=omega) only [eq_self,amL,sD,sF,sG,↓reduceIte]); all_goals first | rfl | exact ⟨rfl,rfl,rfl⟩ | (simp [Aqz]; done) | trace_state
         obtain ⟨hi,hsm,hpd⟩:=hx23
         refine Ab fun K24 hK24=>?_
         refine Ad fun K25 hK25=>?_
         simp (disch:=omega) only [Ba4,eq_self,amL,amT,sA,sF,↓reduceIte]
         refine hK25 _ ?_
         refine Ai rfl (fun h=>MT.x ?_) (fun h=>ME.x ?_)
         all_goals
          first
          |refine MT.mk ?_
           first
           |exact Bool.noConfusion h
           |skip
            try simp only [nrm] at h
            refine Am ?_
            refine hK24 _ ?_
          |refine ME.mk ?_
           first
           |exact Bool.noConfusion h
           |skip
            try simp only [nrm] at h
            refine B2 ?_
            refine hK21 _ ?_
            refine Ab fun K26 hK26=>?_
            obtain rfl:i=x.c.length:=by omega
            have htk:(prS x).take x.c.length=prS x:=List.take_of_length_le (by rw [Ba5]; omega)
            simp only [htk]
            rw [htk] at hsm hpd
            have hM:=Bd2 hX.ok hx0 hx4 hn2.1 hsm hpd
            have hg0:0 < Aqz (prS x):=by
              have hgm:=Bbg hM.g
              have:=hgm.2 ((prS x).getD 0 default) (by rw [← List.getElem_eq_getD (h:=hM.l1)]; exact List.getElem_mem _)
              have:=hM.g ((prS x).getD 0 default) (by rw [← List.getElem_eq_getD (h:=hM.l1)]; exact List.getElem_mem _)
              omega
            have hE0:=Bcw hM.g hM.d
            have hbl:=Bdu hX hn2 (by omega)
            obtain ⟨v,hvl,hv0,hpl⟩:=Bd1 hM
            rw [Ba5] at hvl
            refine Bc8 [] [193,194,197,198,200,201,203,205,206] (by kernel_rfl) (by kernel_rfl) (by kernel_rfl) ⟨by rfl,by rfl,by rfl,by rfl,by rfl,by rfl,by rfl,by rfl,by rfl,trivial⟩ ?_
            simp (disch:=omega) only [eq_self,amL,amT,sA,sF,↓reduceIte,reduceCtorEq]
            repeat' first | (refine Aw (by kernel_rfl) rfl (Aps _) (by first | exact .inl rfl | exact .inr (.inl rfl)) ?_ ; simp (disch:=omega) only [Bbc,List.length_drop,Ba5,eq_self,amL,amT,sA,sB,sC,sE,sF,↓reduceIte,reduceCtorEq])
            refine hK26 _ ?_
            refine Ab fun K27 hK27=>?_
            have l1:((upN x.c.length).map P0).length=x.c.length:=by simp
            have l2:(((prS x).map Bbw).map Agh).length=x.c.length:=by simp [Ba5]
            have l3:((Bbb 1 ((prS x).drop 1)).map Aj3++[Aj3 (Bbm n)]).length=x.c.length - 1+1:=by simp [Bbc,Ba5]
            have l4:(((prS x).map (·.1)).map P0).length=x.c.length:=by simp [Ba5]
            have l5:(((prS x).map (·.2)).map P0).length=x.c.length:=by simp [Ba5]
            have l6:((((prS x).drop 1).map (·.1)).map P0++[P0 n]).length=x.c.length - 1+1:=by simp [Ba5]
            refine Ahs [(5,.ptr 5 0),(8,i64 n),(9,.p (.sl ((Lq x x.c.length).map Gp))),(11,.ptr 11 0),(12,.ptr 12 0),(13,.own 145 ((upN x.c.length).map P0).length),(14,i64 (n+Aqz (prS x)))] [(5,.cells (cO x)),(11,.cells [.own 158 (((prS x).map Bbw).map Agh).length,.own 199 ((Bbb 1 ((prS x).drop 1)).map Aj3++[Aj3 (Bbm n)]).length]),(12,.cells [.own 164 (((prS x).map (·.1)).map P0).length,.own 173 (((prS x).map (·.2)).map P0).length,.own 204 ((((prS x).drop 1).map (·.1)).map P0++[P0 n]).length]),(145,.arr 1 ((upN x.c.length).map P0)),(158,.arr 5 (((prS x).map Bbw).map Agh)),(199,.arr 5 ((Bbb 1 ((prS x).drop 1)).map Aj3++[Aj3 (Bbm n)])),(164,.arr 1 (((prS x).map (·.1)).map P0)),(173,.arr 1 (((prS x).map (·.2)).map P0)),(204,.arr 1 ((((prS x).drop 1).map (·.1)).map P0++[P0 n]))] (by rw [l1]; simp (disch:=omega) only [eq_self,amL,sF,↓reduceIte]) (by rw [l2,l3,l4,l5,l6]; simp (disch:=omega) only [eq_self,amL,sF,↓reduceIte]) (by simp (disch:=omega) only [eq_self,amL,sG]) (by simp (disch:=omega) only [eq_self,amL,sG]) ?_
            generalize h1:(upN x.c.length).map P0=A1
            generalize h2:((prS x).map Bbw).map Agh=A2
            generalize h3:(Bbb 1 ((prS x).drop 1)).map Aj3++[Aj3 (Bbm n)]=A3
            generalize h4:((prS x).map (·.1)).map P0=A4
            generalize h5:((prS x).map (·.2)).map P0=A5
            generalize h6:(((prS x).drop 1).map (·.1)).map P0++[P0 n]=A6
            refine Bbe 145 rfl ?_
            refine Bbe 158 rfl ?_
            refine Bbe 199 rfl ?_
            refine Bbe 164 rfl ?_
            refine Bbe 173 rfl ?_
            refine Bbe 204 rfl ?_
            simp only [Aja,Bcd,AV.frz,AO.frz,List.map_cons,List.map_nil,Nat.reduceEqDiff,if_false,if_true,Nat.le_refl,List.take_length]
            rw [← h1,← h2,← h3,← h4,← h5,← h6,Bdx,Bd4]
            have hEb:=Bct hM.g hM.d
            have hdv:=Ajh (m:=Ba8 (prS x)) (s:=n+Aqz (prS x)) hE0 (by omega)
            have hwE:IntKind.i64.wrap (Ba8 (prS x) / (n+Aqz (prS x)))=Ba8 (prS x) / (n+Aqz (prS x)):=Dk (by omega) (by omega)
            have hgr:=Bdv (G:=n+Aqz (prS x)) (E:=Ba8 (prS x)) (by omega) hE0
            have hv9:(v.map fun l=>Axo (Au5 l)).getD 0 []=[iv (n+Aqz (prS x)),iv (Ba8 (prS x)),iv (Vy ⟨n+Aqz (prS x),Ba8 (prS x)⟩)]:=by
              have h9:v.getD 0 default=⟨Aqz (prS x)+n,Ba8 (prS x)⟩:=hv0
              rw [C1 (fun l=>Axo (Au5 l)) [] default (by omega),h9,Int.add_comm]; rfl
            have htq:Jb Try.prog .eql 52 (some [Ba8 (prS x) / (n+Aqz (prS x)),Ba8 (prS x) / (n+Aqz (prS x))]) (some [Ba8 (prS x) / (n+Aqz (prS x)),Ba8 (prS x) / (n+Aqz (prS x))])=some (.pure (bl true)):=by
              have hin:([Ba8 (prS x) / (n+Aqz (prS x)),Ba8 (prS x) / (n+Aqz (prS x))]:List Int).all inR=true:=by
                simp only [List.all_cons,List.all_nil,inR,Bool.and_true,Bool.and_eq_true,decide_eq_true_eq]; omega
              rw [eqR hin hin,decide_eq_true rfl]
            refine Ak ?_
            simp (disch:=omega) only [eq_self,amL,amT,sA,sB,↓reduceIte]
            repeat' first | (refine Aw (by kernel_rfl) rfl (Apt x hX.w hX.m hX.v hX.r (by omega)) (by first | exact .inl rfl | exact .inr (.inl rfl)) ?_ ; simp (disch:=omega) only [eq_self,amL,sA,sF,↓reduceIte]) | (refine Aw (by kernel_rfl) rfl (hbl) (by first | exact .inl rfl | exact .inr (.inl rfl)) ?_ ; simp (disch:=omega) only [eq_self,amL,amT,sA,sB,sF,↓reduceIte])
            refine hK27 _ ?_
            refine Ad fun K28 hK28=>?_
            simp (disch:=omega) only [eq_self,amL,amT,sA,sB,sF,↓reduceIte]
            repeat' first | (refine Aw (by kernel_rfl) rfl (hpl) (by first | exact .inl rfl | exact .inr (.inl rfl)) ?_ ; simp (disch:=omega) only [eq_self,amL,sA,sF,↓reduceIte])
            refine hK28 _ ?_
            refine Ab fun K29 hK29=>?_
            refine Ad fun K30 hK30=>?_
            simp (disch:=omega) only [hv9,hvl,Ba4,ne_eq,eq_self,not_true_eq_false,decide_false,amL,amT,sA,sB,sF,sL,sN,↓reduceIte,reduceCtorEq]
            repeat' first | (refine Ck (fun h=>?_) (fun h=>?_) <;> simp (disch:=omega) only [h,hv9,hvl,Ba7,List.set_set,List.length_set,Ba4,En,ne_eq,eq_self,not_true_eq_false,decide_false,Bba,B1,B0,Cn,Ba6,amL,amT,sA,sB,sC,sD,sE,sF,sG,sH,sI,sJ,sK,sL,sM,sN,sO,↓reduceIte,reduceCtorEq]) | (refine Bp (fun h=>?_) (fun h=>?_) <;> simp (disch:=omega) only [h,hv9,hvl,Ba7,List.set_set,List.length_set,Ba4,En,ne_eq,eq_self,not_true_eq_false,decide_false,Bba,B1,B0,Cn,Ba6,amL,amT,sA,sB,sC,sD,sE,sF,sG,sH,sI,sJ,sK,sL,sM,sN,sO,↓reduceIte,reduceCtorEq])
            all_goals
             skip
             refine hK30 _ ?_
             refine Ai rfl (fun h=>MT.x ?_) (fun h=>ME.x ?_)
             all_goals
              first
              |refine MT.mk ?_
               first
               |exact Bool.noConfusion h
               |skip
                try simp only [nrm] at h
                refine Ad fun K31 hK31=>?_
                simp (disch:=omega) only [Ba7,List.set_set,List.length_set,Ba4,En,ne_eq,eq_self,not_true_eq_false,decide_false,Bba,B1,B0,Cn,Ba6,amL,amT,sA,sB,sC,sD,sE,sF,sG,sH,sI,sJ,sK,sL,sM,sN,sO,↓reduceIte,reduceCtorEq]
                refine hK31 _ ?_
                refine Af ?_
                try simp (disch:=omega) only [Ba7,List.set_set,List.length_set,Ba4,En,ne_eq,eq_self,not_true_eq_false,decide_false,Bba,B1,B0,Cn,Ba6,amL,amT,sA,sB,sC,sD,sE,sF,sG,sH,sI,sJ,sK,sL,sM,sN,sO,↓reduceIte,reduceCtorEq]
                all_goals first | rfl | (exfalso; rcases hgr with q | q <;> contradiction) | trace_state
              |refine ME.mk ?_
               first
               |exact Bool.noConfusion h
               |skip
                try simp only [] at h
                refine Am ?_
                refine hK29 _ ?_
             all_goals
              skip
              refine Ad fun K32 hK32=>?_
              simp (disch:=omega) only [hv9,hvl,hwE,eq_self,amL,amT,sA,sB,sF,sL,sN,↓reduceIte,reduceCtorEq]
              refine hK32 _ ?_
              refine Ad fun K33 hK33=>?_
              simp (disch:=omega) only [hv9,hvl,htq,eq_self,amL,amT,sA,sB,sE,sF,sL,sN,↓reduceIte,reduceCtorEq]
              repeat' first | (refine Ck (fun h=>?_) (fun h=>?_) <;> simp (disch:=omega) only [h,hv9,hvl,eq_self,decide_false,amL,amT,sA,sB,sF,sL,sN,↓reduceIte,reduceCtorEq]) | (refine Bp (fun h=>?_) (fun h=>?_) <;> simp (disch:=omega) only [h,hv9,hvl,htq,Ba7,List.set_set,List.length_set,Ba4,En,ne_eq,eq_self,not_true_eq_false,decide_false,Bba,B1,B0,Cn,Ba6,amL,amT,sA,sB,sC,sD,sE,sF,sG,sH,sI,sJ,sK,sL,sM,sN,sO,↓reduceIte,reduceCtorEq]) | (refine Aw (by kernel_rfl) rfl (Ao8) (by first | exact .inl rfl | exact .inr (.inl rfl)) ?_ ; simp (disch:=omega) only [eq_self,amL,sA,sF,↓reduceIte])
              all_goals
               skip
               refine hK33 _ ?_
               refine Af ?_
               try simp (disch:=omega) only [eq_self,amL,↓reduceIte]
               all_goals first | rfl | (exfalso; rcases hgr with q | q <;> contradiction) | trace_state
         all_goals
          skip
          refine Ab fun K34 hK34=>?_
          refine Aj ?_
          refine Ab fun K35 hK35=>?_
          refine Ab fun K36 hK36=>?_
          refine Bx (by kernel_rfl) (by kernel_rfl) ?_
          have hi2:i < x.c.length:=by omega
          have hat:=hX.at hi2
          have hgx:=hX.g hi2
          have hkn:((Lq x x.c.length).map Gp).getD i []=[iv (P9 x.t (x.c.getD i default)),iv (P9 x.t (x.c.getD i default))]:=by
            rw [Bw (by omega)]
            unfold Lq
            rw [List.take_length,C1 (E8 x) default default hi2,hat.1]
          have hsn:=Bco hi2
          have hs0:=hX.s0 hi
          have htl:((prS x).take i).length=i:=by rw [List.length_take,Ba5]; omega
          have hdl:(((prS x).take i).drop 1).length=i - 1:=by rw [List.length_drop,htl]
          have hul:(upN i).length=i:=by simp
          simp (disch:=omega) only [hkn,Ba4,ne_eq,eq_self,not_true_eq_false,decide_false,amL,amT,sA,sB,sF,↓reduceIte,reduceCtorEq]
          refine hK36 _ ?_
          refine Ai rfl (fun h=>MT.x ?_) (fun h=>ME.x ?_)
          all_goals
           first
           |refine MT.mk ?_
            first
            |exact Bool.noConfusion h
            |skip
             try simp only [nrm] at h
             refine Ad fun K37 hK37=>?_
             simp (disch:=omega) only [Ba7,List.set_set,List.length_set,Ba4,En,ne_eq,eq_self,not_true_eq_false,decide_false,Bba,B1,B0,Cn,Ba6,amL,amT,sA,sB,sC,sD,sE,sF,sG,sH,sI,sJ,sK,sL,sM,sN,sO,↓reduceIte,reduceCtorEq]
             refine hK37 _ ?_
             refine Af ?_
             try simp (disch:=omega) only [Ba7,List.set_set,List.length_set,Ba4,En,ne_eq,eq_self,not_true_eq_false,decide_false,Bba,B1,B0,Cn,Ba6,amL,amT,sA,sB,sC,sD,sE,sF,sG,sH,sI,sJ,sK,sL,sM,sN,sO,↓reduceIte,reduceCtorEq]
             all_goals first | rfl | (exfalso; rcases hgr with q | q <;> contradiction) | trace_state
           |refine ME.mk ?_
            first
            |exact Bool.noConfusion h
            |skip
             try simp only [] at h
             refine Am ?_
             refine hK35 _ ?_
          all_goals
           skip
           refine Ad fun K38 hK38=>?_
           simp (disch:=omega) only [En,eq_self,amL,amT,sA,sB,sF,↓reduceIte,reduceCtorEq]
           refine hK38 _ ?_
           refine Ad fun K39 hK39=>?_
           simp (disch:=omega) only [eq_self,amL,amT,sA,sF,↓reduceIte]
           refine hK39 _ ?_
           refine Ab fun K40 hK40=>?_
           refine Ad fun K41 hK41=>?_
           simp (disch:=omega) only [hkn,Ba4,eq_self,amL,amT,sA,sB,sF,↓reduceIte,reduceCtorEq]
           repeat' first | (refine Ck (fun h=>?_) (fun h=>?_) <;> simp (disch:=omega) only [h,hkn,Ba4,eq_self,decide_false,amL,amT,sA,sB,sF,↓reduceIte,reduceCtorEq]) | (refine Bp (fun h=>?_) (fun h=>?_) <;> simp (disch:=omega) only [h,hkn,Ba7,List.set_set,List.length_set,Ba4,En,ne_eq,eq_self,not_true_eq_false,decide_false,Bba,B1,B0,Cn,Ba6,amL,amT,sA,sB,sC,sD,sE,sF,sG,sH,sI,sJ,sK,sL,sM,sN,sO,↓reduceIte,reduceCtorEq])
           all_goals
            skip
            refine hK41 _ ?_
            refine Ai rfl (fun h=>MT.x ?_) (fun h=>ME.x ?_)
            all_goals
             first
             |refine MT.mk ?_
              first
              |exact Bool.noConfusion h
              |skip
               try simp only [nrm] at h
               refine Ad fun K42 hK42=>?_
               simp (disch:=omega) only [amL]
               repeat' first | (refine Aw (by kernel_rfl) rfl (Ao8) (by first | exact .inl rfl | exact .inr (.inl rfl)) ?_ ; simp (disch:=omega) only [eq_self,amL,sA,↓reduceIte])
               refine hK42 _ ?_
               refine Af ?_
               try simp (disch:=omega) only [eq_self,amL,↓reduceIte]
               all_goals first | rfl | (exfalso; rcases hgr with q | q <;> contradiction) | trace_state
             |refine ME.mk ?_
              first
              |exact Bool.noConfusion h
              |skip
               try simp only [nrm] at h
               refine Am ?_
               refine hK40 _ ?_
            all_goals
             skip
             refine Ad fun K43 hK43=>?_
             simp (disch:=omega) only [hul,eq_self,amL,amT,sA,sE,sF,↓reduceIte,reduceCtorEq]
             refine hK43 _ ?_
             refine Ab fun K44 hK44=>?_
             refine Bcn (by kernel_rfl) (by kernel_rfl) ?_
             simp (disch:=omega) only [eq_self,amL,amT,sA,sF,↓reduceIte,reduceCtorEq]
             repeat' first | (refine Aw (by kernel_rfl) rfl (Aps _) (by first | exact .inl rfl | exact .inr (.inl rfl)) ?_ ; simp (disch:=omega) only [hkn,htl,Ba4,eq_self,amL,amT,sA,sB,sC,sE,sF,↓reduceIte,reduceCtorEq])
             refine hK44 _ ?_
             refine Ab fun K45 hK45=>?_
             refine Mp [] [160,161,163,165,166,169,170,171,172,174,175] (by kernel_rfl) (by kernel_rfl) (by kernel_rfl) ⟨by rfl,by rfl,by rfl,by rfl,by rfl,by rfl,by rfl,by rfl,by rfl,by rfl,by rfl,trivial⟩ ?_
             simp (disch:=omega) only [hkn,htl,Ba4,eq_self,amL,amT,sA,sB,sE,sF,↓reduceIte,reduceCtorEq]
             refine hK45 _ ?_
             refine Ad fun K46 hK46=>?_
             simp (disch:=omega) only [eq_self,amL,amT,sA,sF,↓reduceIte]
             refine hK46 _ ?_
             refine Ai rfl (fun h=>MT.x ?_) (fun h=>ME.x ?_)
             all_goals
              first
              |refine MT.mk ?_
               first
               |exact Bool.noConfusion h
               |skip
                try simp only [nrm] at h
                refine Ab fun K47 hK47=>?_
                refine Bcn (by kernel_rfl) (by kernel_rfl) ?_
                simp (disch:=omega) only [eq_self,amL,amT,sA,sF,↓reduceIte,reduceCtorEq]
                repeat' first | (refine Aw (by kernel_rfl) rfl (Aps _) (by first | exact .inl rfl | exact .inr (.inl rfl)) ?_ ; simp (disch:=omega) only [Bbc,hdl,eq_self,amL,amT,sA,sB,sC,sE,sF,↓reduceIte,reduceCtorEq])
                refine hK47 _ ?_
                refine Ak ?_
                simp (disch:=omega) only [hdl,eq_self,amL,amT,sA,sB,sE,sF,↓reduceIte,reduceCtorEq]
                refine hK34 _ ?_
              |refine ME.mk ?_
               first
               |exact Bool.noConfusion h
               |skip
                try simp only [nrm] at h
                refine Am ?_
                refine hK34 _ ?_
             all_goals
              skip
              refine Ak ?_
              simp (disch:=omega) only [eq_self,amL,amT,sA,sF,↓reduceIte]
              refine hK23 (i+1) _ ?_ ?_ (C2 ?_ ?_ ?_ ?_)
              all_goals (try simp (disch:=omega) only [eq_self,amL,sF,sG,↓reduceIte])
              all_goals first | omega | exact ⟨by omega,by omega,Bdl hi2 hpd (by omega)⟩ | exact congrArg i64 (by omega) | exact ⟨by rw [m1 (by omega)],by rw [m1 (by omega)],congrArg (AO.arr 1) Bd7,congrArg (AO.arr 5) (Bd6 hi2),congrArg (AO.arr 5) (Bee hi2 (by omega)),congrArg (AO.arr 1) (Bec hi2),congrArg (AO.arr 1) (Bd9 hi2),congrArg (AO.arr 1) (Bef hi2 (by omega))⟩ | exact ⟨by rw [m1z (by omega)],by rw [m1z (by omega)],congrArg (AO.arr 1) Bd7,congrArg (AO.arr 5) (Bd6 hi2),congrArg (AO.arr 5) (Beb (by omega)),congrArg (AO.arr 1) (Bec hi2),congrArg (AO.arr 1) (Bd9 hi2),congrArg (AO.arr 1) (Bed (by omega))⟩ | trace_state
    all_goals
     skip
     refine Ab fun K48 hK48=>?_
     refine Aj ?_
     refine Ad fun K49 hK49=>?_
     have hk2:k < (s.c.take 4).length:=by omega
     have hke:=Bdt hk2
     simp (disch:=omega) only [Ba7,eq_self,amL,amT,sA,sF,↓reduceIte,reduceCtorEq]
     refine hK49 _ ?_
     refine Bc3 [] [59,60,61,62,63,64,65,66,67,68,69,70,71,72,73,74,75,76] (by kernel_rfl) (by kernel_rfl) rfl (by repeat' constructor) ?_
     simp (disch:=omega) only [hke,Ba7,List.set_set,List.length_set,eq_self,amL,amT,sA,sB,sE,sF,↓reduceIte,reduceCtorEq]
     refine hK48 _ ?_
     refine Ak ?_
     simp (disch:=omega) only [eq_self,amL,amT,sA,sF,↓reduceIte]
     refine hK9 (k+1) _ ?_ ?_ (C2 ?_ ?_ ?_ ?_)
     all_goals (try simp (disch:=omega) only [eq_self,amL,sF,sG,↓reduceIte])
     all_goals first | omega | (rw [Bc6 (by rw [List.length_map,Ba7]; exact hk2)]; exact congrArg (AO.arr 5) (Bdj hk2)) | trace_state
theorem c_topBlended (s:Sto) (w:Nat) (_:True) (hw:w < 256):Bo Try.prog 3 [avO s,.p (.val (.int .u8 (w:Int)))] (bl true):=c_topB s w (by omega)
end AM.Try
end
