/- Lemmas for the proof: more of the program's functions, walked on the abstract machine. -/
import Derived.Test.YtbgiddcgdgdmbaaQ6
import Derived.Laws.Cover3
/- The abstract machine, part 48: an array of one's own is written no more: what refers to it is a value from then on. -/
section
namespace AM
open Go Go.Proofs
section
variable {P:Program} {r:RB} {N B:Nat} {S:Nat→Prop} {θ:Nat→Loc} {M M2:Nat→Prop} {w:World} {st:St} {a:Act} {Q:AEx→St→Prop} {n:Nat} {es:List (List PV)}
def Bhs (n:Nat) (es:List (List PV)):List (Nat × AO)→List (Nat × AO)
 | []=>[]
 | (j,x) :: l=>if j=n then Bhs n es l else (j,x.frz n es) :: Bhs n es l
theorem Bpq {l:List (Nat × AO)}:(fun m=>if m=n then none else (O l m).map (AO.frz n es))=O (Bhs n es l):=by
 funext m
 induction l with
 | nil=>simp [O,Bhs]
 | cons p l ih=>
  obtain ⟨j,x⟩:=p
  simp only [O,Bhs]
  by_cases e:m=n
  ·subst e
   simp only [if_true] at ih ⊢
   split
   ·exact ih
   ·simp only [O]
    rw [if_neg (fun h=>by omega)]; exact ih
  ·rw [if_neg e] at ih ⊢
   by_cases e2:m=j
   ·subst e2
    rw [if_neg e]
    simp [O]
   ·rw [if_neg e2]
    split
    ·exact ih
    ·simp only [O]; rw [if_neg e2]; exact ih
theorem Bjr {l:List (Nat × AV)} {m:List (Nat × AO)}:St.frz n es ⟨T l,O m⟩=⟨T (W2 n es l),O (Bhs n es m)⟩:=by
 unfold St.frz; rw [Awn,Bpq]
end
end AM
namespace AM
open Go
theorem Bit {K:St→Prop} {Q:AEx→St→Prop} {s:St} {i:Nat}:Ju K Q (.exit i) s=Q (.exit i) s:=rfl
end AM
namespace AM
open Go
end AM
namespace AM
open Go
section
variable {P:Program} {r:RB} {N:Nat} {s:St} {K:St→Prop} {dst:Option Nat} {ty:TypeId} {pos:String} {after:Array Edge} {g:Option (Nat × Bool)}
def Bm7 (esz:Nat→Nat) (ea:Nat→Option Bool) (e:Nat):Option (List (List PV))→Option Int→(Nat→Option Int)→Option Eff
 | some es,some l,hf=>match hf es.length with
  | some h=>if 0≤l∧l≤h∧h≤es.length∧(ea e).isSome∧(es.all fun c=>c.length=esz e) then some (.pure (.p (.sl ((es.take h.toNat).drop l.toNat)))) else none
  | none=>none
 | _,_,_=>none
theorem Bm5 {t:TypeId} {x:Operand} {lo hi:Option Operand} {e:Nat} (hk:(Aa P t).k=.sl e):EO P r N ⟨dst,.slice t x lo hi none,ty,pos,after,g⟩ s K=EOp r.b N dst s K (Bm7 (fun e=>(Aa P e).sz) (fun e=>(Aa P e).agg) e ((ev s.t x).pv?.bind PV.list?) (Ba (ev s.t) 0 lo) (fun n=>Ba (ev s.t) n hi)):=by
 refine C7 rfl rfl ?_
 simp only [eff,hk]
 cases (ev s.t x).pv?.bind PV.list? with
 | none=>rfl
 | some es=>cases Ba (ev s.t) 0 lo with
  | none=>rfl
  | some l=>
   simp only [Bm7]
   cases Ba (ev s.t) es.length hi <;> rfl
def Bn1 (esz:Nat→Nat) (ea:Nat→Option Bool) (e:Nat):Option (List (List PV))→Option Int→Option Int→Option Int→Option Eff
 | some es,some l,some h,some m=>if 0≤l∧l≤h∧h≤m∧m≤es.length∧(ea e).isSome∧(es.all fun c=>c.length=esz e) then some (.pure (.p (.sl ((es.take h.toNat).drop l.toNat)))) else none
 | _,_,_,_=>none
theorem Bnc {t:TypeId} {x hi mx:Operand} {lo:Option Operand} {e:Nat} (hk:(Aa P t).k=.sl e):EO P r N ⟨dst,.slice t x lo (some hi) (some mx),ty,pos,after,g⟩ s K=EOp r.b N dst s K (Bn1 (fun e=>(Aa P e).sz) (fun e=>(Aa P e).agg) e ((ev s.t x).pv?.bind PV.list?) (Ba (ev s.t) 0 lo) (Ba (ev s.t) 0 (some hi)) (Ba (ev s.t) 0 (some mx))):=by
 refine C7 rfl rfl ?_
 simp only [eff,hk]
 cases (ev s.t x).pv?.bind PV.list? <;> cases Ba (ev s.t) 0 lo <;> cases Ba (ev s.t) 0 (some hi) <;> cases Ba (ev s.t) 0 (some mx) <;> rfl
theorem Bna {esz:Nat→Nat} {ea:Nat→Option Bool} {e:Nat} {es:List (List PV)} {l:Int} {hf:Nat→Option Int} {h:Int} (hh:hf es.length=some h) (h0:0≤l) (h1:l≤h) (h2:h≤es.length) (h3:(ea e).isSome=true) (h4:(es.all fun c=>c.length=esz e)=true):Bm7 esz ea e (some es) (some l) hf=some (.pure (.p (.sl ((es.take h.toNat).drop l.toNat)))):=by
 simp only [Bm7,hh]; rw [if_pos ⟨h0,h1,h2,h3,h4⟩]
theorem Bm9 {esz:Nat→Nat} {ea:Nat→Option Bool} {e:Nat} {es:List (List PV)} {l h m:Int} (h0:0≤l) (h1:l≤h) (h2:h≤m) (h3:m≤es.length) (h5:(ea e).isSome=true) (h4:(es.all fun c=>c.length=esz e)=true):Bn1 esz ea e (some es) (some l) (some h) (some m)=some (.pure (.p (.sl ((es.take h.toNat).drop l.toNat)))):=by
 simp only [Bn1]; rw [if_pos ⟨h0,h1,h2,h3,h5,h4⟩]
def fMk (k by8:Nat) (z:List PV) (d:Nat):AV→AV→Option Eff
 | .p (.val (.int .i64 n)),.p (.val (.int .i64 m))=>if n=m∧0≤n∧n≤4611686018427387904∧by8 * n≤281474976710656 then some (.new (.arr k (List.replicate n.toNat z)) (.own d n.toNat)) else none
 | _,_=>none
theorem Bpl {t e:TypeId} {l c:Operand} {d k by8:Nat} {z:List Value} (hk:(Aa P t).k=.sl e) (h1:(Aa P e).sz=k) (h2:(Aa P e).bytes=by8) (h3:(Aa P e).zero=z) (h4:z.all Value.oneCell'=true) (h5:k=z.length) (h6:0 < k) (h7:(Aa P e).agg.isSome=true) :
  EO P r N ⟨some d,.makeSlice t l c,ty,pos,after,g⟩ s K=EOp r.b N (some d) s K (fMk k by8 (z.map .val) (r.b+d) (ev s.t l) (ev s.t c)):=by
 refine C7 rfl rfl ?_
 have e5:(k=z.length)=True:=eq_true h5
 have e6:(0 < k)=True:=eq_true h6
 simp only [eff,hk]
 cases ev s.t l with
 | p q=>cases q with
  | val v=>cases v with
   | int kd n=>cases kd <;> (cases ev s.t c with
    | p q'=>cases q' with
     | val v'=>cases v' with
      | int kd' m=>cases kd' <;> simp only [fMk,h1,h2,h3,h4,h7,e5,e6,and_true,Option.getD_some]
      | _=>rfl
     | _=>rfl
    | _=>rfl)
   | _=>rfl
  | _=>rfl
 | _=>rfl
end
end AM
namespace AM
open Go
theorem Bl6 {P:Program} {r:RB} {N:Nat} {c:Code} {s:St} {Q:AEx→St→Prop} (n k m off:Nat) {cs:List AV} (hn4:r.b≤n) (hm:s.o m=some (.cells cs)) (hi:cs[off]?=some (.p (.val (.slice none 0 0)))) (hfree:s.o n=none)
  (h:AWP P r N c ⟨s.t,upd (upd s.o n (some (.arr k []))) m (some (.cells (cs.set off (.own n 0))))⟩ Q):AWP P r N c s Q:=by
 intro B S θ M w a hs
 have hmn:m≠n:=fun e=>by rw [e,hfree] at hm; cases hm
 have hS:=hs.new (d:=n) hfree (w':=w) (l:=⟨0,0,true⟩) (o:=.arr k []) (Nat.le_refl _) (fun _ _=>rfl) (fun e=>by cases e)
  ⟨fun i e he=>by simp at he,.inl ⟨rfl,rfl⟩⟩ (AO.lives_arr _ _ _)
 have hm1:(s.setO n (.arr k [])).o m=some (.cells cs):=by show upd s.o n _ m=_; rw [Au hmn]; exact hm
 have hsome:∀ j,(upd (upd s.o n (some (.arr k []))) m (some (.cells (cs.set off (.own n 0)))) j).isSome=((s.setO n (.arr k [])).o j).isSome:=fun j=>by
  by_cases e:j=m
  ·subst e; rw [Ey,hm1]; rfl
  ·rw [Au e]; rfl
 have hS2:Aq N B S (Dc θ n ⟨0,0,true⟩) (fun b=>M b∨((true:Bool)=false∧b=0)) w ⟨s.t,upd (upd s.o n (some (.arr k []))) m (some (.cells (cs.set off (.own n 0))))⟩ a:=by
  refine ⟨hS.size,hS.tm,fun j o hj=>?_,fun j o hj hnil=>?_,fun i j hi hj=>hS.inj i j (by rw [← hsome]; exact hi) (by rw [← hsome]; exact hj),hS.base,hS.mlt,⟨fun j=>AV.lives_mono (fun i hi=>(hsome i).trans hi) (hS.cl.1 j),fun j o hj=>?_⟩⟩
  ·have hj:upd (upd s.o n (some (.arr k []))) m (some (.cells (cs.set off (.own n 0)))) j=some o:=hj
   by_cases e:j=m
   ·subst e
    rw [Ey] at hj
    cases hj
    obtain ⟨h1,cur,e,h2,h3,h4,h5⟩:=hS.ob j _ hm1
    refine ⟨h1,cur,e,h2,by simpa using h3,fun i hi=>h4 i (by simpa using hi),fun i x hx=>?_⟩
    rw [List.getElem?_set] at hx
    split at hx
    ·rename_i hoff
     split at hx
     ·cases hx
      have hv:=Ql (h5 off _ hi)
      rw [← hoff,hv]
      exact .ownNil n (by simp)
     ·cases hx
    ·exact h5 i x hx
   ·rw [Au e] at hj
    exact hS.ob j o hj
  ·have hj:upd (upd s.o n (some (.arr k []))) m (some (.cells (cs.set off (.own n 0)))) j=some o:=hj
   by_cases e:j=m
   ·subst e; exact hS.lv j _ hm1 hnil
   ·rw [Au e] at hj; exact hS.lv j o hj hnil
  ·have hj:upd (upd s.o n (some (.arr k []))) m (some (.cells (cs.set off (.own n 0)))) j=some o:=hj
   have hmono:∀ i,((s.setO n (.arr k [])).o i).isSome=true→(upd (upd s.o n (some (.arr k []))) m (some (.cells (cs.set off (.own n 0)))) i).isSome=true:=fun i hi=>(hsome i).trans hi
   by_cases e:j=m
   ·subst e
    rw [Ey] at hj
    cases hj
    rw [AO.lives_cells]
    intro i x hx
    rw [List.getElem?_set] at hx
    split at hx
    ·split at hx
     ·cases hx
      intro p hp
      simp only [AV.clean,bne_eq_false_iff_eq] at hp
      subst hp
      refine hmono n ?_
      show (upd s.o n _ n).isSome=true
      simp
     ·cases hx
    ·exact AV.lives_mono hmono (AO.lives_cells.1 (hS.cl.2 j _ hm1) i x hx)
   ·rw [Au e] at hj
    exact AO.lives_mono hmono (hS.cl.2 j o hj)
 have:=h B S _ _ w a hS2
 refine wpIn_mono this ?_
 rintro e a' w' ⟨ae,st',h1,h2,⟨⟨θ',M',h3,h4,h5,h6⟩,h7⟩⟩
 exact ⟨ae,st',h1,h2,⟨⟨θ',M',h3,h4,fun m hm hv=>(h5 m hm hv).trans (Az (by omega)),fun b hb hm=>h6 b hb (.inl hm)⟩,h7⟩⟩
theorem Blu {P:Program} {r:RB} {N:Nat} {c:Code} {l:List (Nat × AV)} {mm:List (Nat × AO)} {Q:AEx→St→Prop} (n k m off:Nat) {cs:List AV} (hn4:r.b≤n) (hm:O mm m=some (.cells cs)) (hi:cs[off]?=some (.p (.val (.slice none 0 0)))) (hfree:O mm n=none)
  (h:AWP P r N c ⟨T l,O ((m,.cells (cs.set off (.own n 0))) :: (n,.arr k []) :: mm)⟩ Q):AWP P r N c ⟨T l,O mm⟩ Q:=Bl6 n k m off hn4 hm hi hfree h
end AM
end
/- Worts in plain Lean, and how they lie in abstract values. -/
section
namespace AM.Wort
open Go AM Go.Proofs
abbrev Biq (r:Rdg):List PV:=[iv r.v,iv r.g.lo,iv r.g.hi,iv r.d.lo,iv r.d.hi]
theorem Bik {l:List Rdg} {k:Nat} (h:k < l.length):(l.map Biq).getD k []=Biq (l.getD k default):=Cp _ _ _ h
end AM.Wort
end
/- The abstract machine, part 42: an object gets another name. -/
section
namespace AM
open Go Go.Proofs
section
variable {P:Program} {r:RB} {N B:Nat} {S:Nat→Prop} {θ:Nat→Loc} {M:Nat→Prop} {w:World} {st:St} {a:Act} {Q:AEx→St→Prop} {c m:Nat}
theorem Aq.wk {s1:St} (h:Aq N B S θ M w st a) (hw:s1.wk st):Aq N B S θ M w s1 a:=by
 have hob:∀ n o,s1.o n=some o→∃ o',st.o n=some o'∧(Ln θ M w (θ n) o'→Ln θ M w (θ n) o):=fun n o hn=>by
  rcases hw.o n with e | e | ⟨cs,cs',e1,e2,e3,e4⟩
  ·rw [e] at hn; cases hn
  ·rw [e] at hn; exact ⟨o,hn,id⟩
  ·rw [e2] at hn; cases hn
   refine ⟨_,e1,fun ⟨h0,cur,e,hb,hs,ho,hx⟩=>⟨h0,cur,e,hb,by rw [hs,e3],fun i hi=>ho i (by rw [← e3]; exact hi),fun i x hi=>?_⟩⟩
   rcases e4 i x hi with rfl | h
   ·exact .undef _
   ·exact hx i x h
 refine ⟨h.size,fun i=>?_,fun n o hn=>?_,fun n o hn hnil=>?_,fun n m hn hm=>?_,h.base,h.mlt,hw.cl⟩
 ·rcases hw.t i with e | e
  ·rw [e]; exact .undef _
  ·rw [e]; exact h.tm i
 ·obtain ⟨o',h1,h2⟩:=hob n o hn
  exact h2 (h.ob n o' h1)
 ·obtain ⟨o',h1,_⟩:=hob n o hn
  exact h.lv n o' h1 hnil
 ·obtain ⟨o1,ho1⟩:=Option.isSome_iff_exists.1 hn
  obtain ⟨o2,ho2⟩:=Option.isSome_iff_exists.1 hm
  obtain ⟨o1',g1,_⟩:=hob n o1 ho1
  obtain ⟨o2',g2,_⟩:=hob m o2 ho2
  exact h.inj n m (by rw [g1]; rfl) (by rw [g2]; rfl)
theorem AWP.wk {cd:Code} (h:AWP P r N cd st (fun e s=>∃ s1:St,s1.wk s∧Q e s1)):AWP P r N cd st Q:=by
 intro B S θ M w a hs
 refine wpIn_mono (h B S θ M w a hs) ?_
 rintro e a' w' ⟨ae,st',rfl,⟨s1,h1,hq⟩,⟨θ',M',hs',hk,ht,hm⟩,hd⟩
 exact ⟨ae,s1,rfl,hq,⟨θ',M',hs'.wk h1,hk,ht,hm⟩,hd⟩
end
section
variable {P:Program} {r:RB} {N:Nat} {st:St} {Q:AEx→St→Prop} {c m:Nat}
theorem Blx {cd:Code} {l:List (Nat × AV)} {o:List (Nat × AO)} {k:Nat} (n:Nat) {es:List (List PV)} (hn:O o n=some (.arr k es)) (h:AWP P r N cd ⟨T (W2 n es l),O (Bhs n es o)⟩ Q):AWP P r N cd ⟨T l,O o⟩ Q:=
 Aqi n hn (by rw [Bjr]; exact h)
end
end AM
end
/- What the reference says of vessels, in plain Lean; that it is what the program says. -/
section
namespace AM.Wort
open Go AM Go.Proofs
def Bi1:List Ves→List Int→Nat→Bool
 | [],_,_=>true
 | x :: vs,gs,i=>decide (gs.getD i 0≤x.room)&&Bi1 vs gs (i+1)
def Bjd:List Ves→List Int→List Int→Nat→List Liq
 | [],_,_,_=>[]
 | _ :: vs,gs,ds,i=>⟨gs.getD i 0,gs.getD i 0 * ds.getD i 0⟩ :: Bjd vs gs ds (i+1)
def Bjf:List Ves→List Int→List Int→Nat→List Liq→List Liq
 | [],_,_,_,v=>v
 | _ :: vs,gs,ds,i,v=>Bjf vs gs ds (i+1) (v.set i ⟨gs.getD i 0,gs.getD i 0 * ds.getD i 0⟩)
theorem Bj1:∀ {vs:List Ves} {gs ds:List Int} {i:Nat} {v:List Liq},(Gg vs gs ds i v).2=Bi1 vs gs i∧(Bi1 vs gs i=true→(Gg vs gs ds i v).1=Bjf vs gs ds i v)
 | [],_,_,_,_=>⟨rfl,fun _=>rfl⟩
 | x :: vs,gs,ds,i,v=>by
  unfold Gg Bi1 Bjf
  split
  ·rename_i h
   rw [decide_eq_false (by omega)]
   exact ⟨rfl,fun h=>by cases h⟩
  ·rename_i h
   rw [decide_eq_true (by omega),Bool.true_and]
   exact Bj1
theorem Bks:∀ {vs:List Ves} {gs ds:List Int} {i:Nat} {v:List Liq},i+vs.length≤v.length→(Bjf vs gs ds i v).take (i+vs.length)=v.take i++Bjd vs gs ds i
 | [],_,_,_,_,_=>by simp [Bjf,Bjd]
 | x :: vs,gs,ds,i,v,h=>by
  simp only [List.length_cons] at h
  unfold Bjf Bjd
  have:=Bks (vs:=vs) (gs:=gs) (ds:=ds) (i:=i+1) (v:=v.set i ⟨gs.getD i 0,gs.getD i 0 * ds.getD i 0⟩) (by rw [List.length_set]; omega)
  rw [show i+(x :: vs).length=i+1+vs.length by simp only [List.length_cons]; omega,this,List.take_add_one,List.take_set,List.getElem?_set_self (by omega)]
  rw [List.set_eq_of_length_le (by rw [List.length_take]; omega)]
  simp
def OkN (n:Nat) (v:List Liq):Prop:=∃ w,OkV w∧v=w.take n
def Bmi (vs:List Ves) (gs ds:List Int):List Liq:=Bjd vs gs ds 0
def Bnu (vs:List Ves) (gs:List Int):Bool:=Bi1 vs gs 0
theorem OkN.len {n:Nat} {v:List Liq} (h:OkN n v) (hn:n≤4):v.length=n:=by
 obtain ⟨w,hw,rfl⟩:=h
 rw [List.length_take,hw.len]; omega
theorem Bhn {w:List Liq} {n k:Nat} (h:k < n):B6 (w.take n) k=B6 w k:=by
 unfold B6
 rw [List.getD_eq_getElem?_getD,List.getD_eq_getElem?_getD,List.getElem?_take,if_pos h]
theorem OkN.at {n:Nat} {v:List Liq} (h:OkN n v) (k:Nat):(0≤(B6 v k).g∧(B6 v k).g≤60)∧0≤(B6 v k).e∧(B6 v k).e≤28800:=by
 obtain ⟨w,hw,rfl⟩:=h
 by_cases hk:k < n
 ·rw [Bhn hk]
  have:=Anc hw.e k
  have:=hw.t
  exact ⟨hw.g k,hw.e k,by unfold B6; omega⟩
 ·have:B6 (w.take n) k=⟨0,0⟩:=by
   unfold B6
   rw [List.getD_eq_getElem?_getD,List.getElem?_eq_none (by rw [List.length_take]; omega)]; rfl
  rw [this]; decide
theorem Bjq {w:List Liq} {n k:Nat} {a:Liq}:(w.take n).set k a=(w.set k a).take n:=by rw [List.take_set]
theorem Bo0 {vs:List Ves} {w:List Liq} {s:Stp} {m:Int} (hs:F4 vs.length s=true):doS vs (w.take vs.length) s m=((doS vs w s m).1.take vs.length,(doS vs w s m).2):=by
 obtain ⟨hk,hf,ht,_,_⟩:=Fq hs
 have f1:s.frm.toNat < vs.length:=by omega
 have t1:s.to.toNat < vs.length:=by omega
 have a:Gx (w.take vs.length) s m=((Gx w s m).1.take vs.length,(Gx w s m).2):=by
  unfold Gx
  split
  ·unfold G8
   rw [Bhn f1]
   split
   ·rfl
   ·split
    ·simp only [Ml,Jz,G4,Bhn f1,Bjq]
     rw [Bhn t1]
    ·rfl
  ·split
   ·simp only [Pg,Bhn t1,Bjq]
   ·simp only [Yo,Bhn f1,Bjq]
 simp only [doS,a]
 rw [Bhn t1]
def doX (vs:List Ves) (v:List Liq) (s:Stp) (n:Int):List Liq × Bool:=if (doS vs v s n).2=true then doS vs v s n else (v,false)
def Bh5 (vs:List Ves) (m:List Int):List Stp→Nat→List Liq × Bool→List Liq × Bool
 | [],_,r=>r
 | s :: ss,i,r=>if r.2=false then r else Bh5 vs m ss (i+1) (doX vs r.1 s (m.getD i 0))
def Bic (b:Ed) (t:Tru):List Liq × Bool:=Bh5 b.vs t.m b.ss 0 (Bmi b.vs t.g t.d,Bnu b.vs t.g)
theorem Biu {vs:List Ves} {m:List Int}:∀ {ss:List Stp} {i:Nat} {v:List Liq},(Bh5 vs m ss i (v,false)).2=false
 | [],_,_=>rfl
 | _ :: _,_,_=>by unfold Bh5; rw [if_pos rfl]
theorem Bjh {vs:List Ves} {m:List Int}:∀ {ss:List Stp} {i:Nat} {v:List Liq},(J5 vs m ss i (v,false)).2=false
 | [],_,_=>rfl
 | _ :: _,_,_=>by unfold J5; rw [if_pos rfl]
theorem Bkj {vs:List Ves} {m:List Int}:∀ {ss:List Stp} {i:Nat} {w:List Liq},ss.all (F4 vs.length)=true →
  (J5 vs m ss i (w,true)).2=(Bh5 vs m ss i (w.take vs.length,true)).2∧((J5 vs m ss i (w,true)).2=true→(J5 vs m ss i (w,true)).1.take vs.length=(Bh5 vs m ss i (w.take vs.length,true)).1)
 | [],_,_,_=>⟨rfl,fun _=>rfl⟩
 | s :: ss,i,w,hs=>by
  rw [List.all_cons,Bool.and_eq_true] at hs
  unfold J5 Bh5
  rw [if_neg (fun h=>by cases h),if_neg (fun h=>by cases h)]
  dsimp only
  have e:=Bo0 (w:=w) (m:=m.getD i 0) hs.1
  cases hd:(doS vs w s (m.getD i 0)).2 with
  | true=>
   have e2:doX vs (w.take vs.length) s (m.getD i 0)=((doS vs w s (m.getD i 0)).1.take vs.length,true):=by
    unfold doX; rw [e,hd]; rfl
   have e3:doS vs w s (m.getD i 0)=((doS vs w s (m.getD i 0)).1,true):=by rw [← hd]
   rw [e2,e3]
   exact Bkj hs.2
  | false=>
   have e2:doX vs (w.take vs.length) s (m.getD i 0)=(w.take vs.length,false):=by
    unfold doX; rw [e,hd]; rfl
   have e3:doS vs w s (m.getD i 0)=((doS vs w s (m.getD i 0)).1,false):=by rw [← hd]
   rw [e2,e3,Bjh,Biu]
   exact ⟨rfl,fun h=>by cases h⟩
theorem Bms {b:Ed} (t:Tru) (hv:Pb b):(Me b t).2=(Bic b t).2∧((Me b t).2=true→(Me b t).1.take b.vs.length=(Bic b t).1):=by
 unfold Me Bic Na Bnu
 obtain ⟨h1,h2⟩:=Bj1 (vs:=b.vs) (gs:=t.g) (ds:=t.d) (i:=0) (v:=v0)
 have h3:=Bks (vs:=b.vs) (gs:=t.g) (ds:=t.d) (i:=0) (v:=v0) (by have:=hv.nv; simp; omega)
 rw [Nat.zero_add] at h3
 cases hr:Bi1 b.vs t.g 0 with
 | true=>
  have e:Gg b.vs t.g t.d 0 v0=(Bjf b.vs t.g t.d 0 v0,true):=by rw [← h2 hr,← hr,← h1]
  rw [e]
  have e2:Bmi b.vs t.g t.d=(Bjf b.vs t.g t.d 0 v0).take b.vs.length:=h3.symm
  rw [e2]
  exact Bkj hv.s
 | false=>
  have e:Gg b.vs t.g t.d 0 v0=((Gg b.vs t.g t.d 0 v0).1,false):=by rw [← hr,← h1]
  rw [e,Bjh,Biu]
  exact ⟨rfl,fun h=>by cases h⟩
def Bhz (l:List Ves):List Rng:=l.flatMap fun v=>[v.g,v.d]
theorem Bi7:∀ (l:List Rng) (n c:Int),L8 l (n * c)=L8 l n * c
 | [],_,_=>rfl
 | r :: l,n,c=>by
  show L8 l (n * c * Fb r)=L8 l (n * Fb r) * c
  rw [show n * c * Fb r=n * Fb r * c by rw [Int.mul_assoc,Int.mul_comm c,← Int.mul_assoc],Bi7]
theorem Bht (a b:List Rng) (n:Int):L8 (a++b) n=L8 b (L8 a n):=by
 induction a generalizing n with
 | nil=>rfl
 | cons x a ih=>exact ih _
theorem Bl0 {a b:List Rng} (h:a.Perm b):∀ n,L8 a n=L8 b n:=by
 induction h with
 | nil=>intro n; rfl
 | cons x _ ih=>intro n; exact ih _
 | swap x y l=>intro n; show L8 l (n * _ * _)=L8 l (n * _ * _); rw [Int.mul_assoc,Int.mul_comm (Fb y),← Int.mul_assoc]
 | trans _ _ ih1 ih2=>intro n; rw [ih1,ih2]
theorem Bkm:∀ l:List Ves,(Bhz l).Perm (l.map (·.g)++l.map (·.d))
 | []=>.nil
 | v :: l=>by
  show (v.g :: v.d :: Bhz l).Perm (v.g :: (l.map (·.g)++v.d :: l.map (·.d)))
  exact .cons _ ((List.Perm.cons _ (Bkm l)).trans List.perm_middle.symm)
def Bjs (b:Ed):Int:=L8 (Bhz b.vs++b.ss.map (·.g)) 1
theorem Bn2 (b:Ed):Bjs b=N9 b:=Bl0 ((Bkm b.vs).append_right _) 1
theorem Bon {l:List Ves} {k:Nat} (h:k < l.length):L8 (Bhz (l.take (k+1))) 1=L8 (Bhz (l.take k)) 1 * (Fb (l.getD k default).g * Fb (l.getD k default).d):=by
 rw [List.take_add_one,List.getElem?_eq_getElem h]
 unfold Bhz
 rw [List.flatMap_append,Bht]
 simp [L8,List.getD,h,Int.mul_assoc]
theorem Bl7 {l:List Stp} {k:Nat} {n:Int} (h:k < l.length):L8 ((l.take (k+1)).map (·.g)) n=L8 ((l.take k).map (·.g)) n * Fb (l.getD k default).g:=by
 rw [List.take_add_one,List.getElem?_eq_getElem h,List.map_append,Bht]
 simp [L8,List.getD,h]
theorem Bml (l:List Ves):(Bhz l).length=2 * l.length:=by
 induction l with
 | nil=>rfl
 | cons v l ih=>show (v.g :: v.d :: Bhz l).length=_; simp only [List.length_cons,ih]; omega
theorem Blw {l:List Rng} (hl:∀ r ∈ l,1≤Fb r∧Fb r≤3) (hn:l.length≤14):1≤L8 l 1∧L8 l 1≤4782969:=by
 have h:=Uo hl l.length (Nat.le_refl _)
 rw [List.take_length] at h
 exact ⟨h.1,Int.le_trans h.2 (Ap9 hn)⟩
theorem Bm3 {b:Ed} (hv:b.vs.all Eu=true) (hn:b.vs.length≤4) (k:Nat):1≤L8 (Bhz (b.vs.take k)) 1∧L8 (Bhz (b.vs.take k)) 1≤4782969:=by
 refine Blw (fun r hr=>?_) (by rw [Bml,List.length_take]; omega)
 simp only [Bhz,List.mem_flatMap,List.mem_cons,List.not_mem_nil,or_false] at hr
 obtain ⟨v,hv',hr⟩:=hr
 have hp:=Da (List.all_eq_true.1 hv v (List.mem_of_mem_take hv'))
 rcases hr with rfl | rfl
 ·exact Po hp.1
 ·exact Po hp.2.1
theorem Bmf {b:Ed} (hv:Pb b) (k:Nat):1≤L8 (Bhz b.vs++(b.ss.take k).map (·.g)) 1∧L8 (Bhz b.vs++(b.ss.take k).map (·.g)) 1≤4782969:=by
 refine Blw (fun r hr=>?_) (by have:=hv.nv; have:=hv.ns; rw [List.length_append,Bml,List.length_map,List.length_take]; omega)
 rw [List.mem_append] at hr
 rcases hr with hr | hr
 ·simp only [Bhz,List.mem_flatMap,List.mem_cons,List.not_mem_nil,or_false] at hr
  obtain ⟨v,hv',hr⟩:=hr
  have hp:=Da (List.all_eq_true.1 hv.v v hv')
  rcases hr with rfl | rfl
  ·exact Po hp.1
  ·exact Po hp.2.1
 ·obtain ⟨s,hs,rfl⟩:=List.mem_map.1 hr
  exact Po (Fq (List.all_eq_true.1 hv.s s (List.mem_of_mem_take hs))).2.2.2.2
section
variable {α:Type} {p:α→Bool} {l:List α} {k:Nat} {d:α}
theorem Bk1 (hk:k < l.length) (h:(l.take k).all p=true) (hp:p (l.getD k d)=true):(l.take (k+1)).all p=true:=by
 rw [List.take_add_one,List.all_append,h]
 simp [hk,List.getD] at hp ⊢
 exact hp
theorem Bhh (hk:k < l.length) (hp:p (l.getD k d)=false):l.all p=false:=by
 have:l.getD k d ∈ l:=by rw [← List.getElem_eq_getD (h:=hk)]; exact List.getElem_mem _
 cases h:l.all p with
 | false=>rfl
 | true=>rw [List.all_eq_true] at h; rw [h _ this] at hp; cases hp
theorem Bki (hk:l.length≤k) (h:(l.take k).all p=true):l.all p=true:=by rwa [List.take_of_length_le hk] at h
end
theorem Bi5 {b:Ed} (h:4 < b.vs.length∨6 < b.ss.length):B5 b=3:=by unfold B5; rw [if_pos h]
theorem Bho {b:Ed} (h:¬ (4 < b.vs.length∨6 < b.ss.length)) (h2:b.vs.length=0∨b.vs.all Eu=false∨b.ss.all (F4 b.vs.length)=false):B5 b=1:=by
 unfold B5; rw [if_neg h]
 split
 ·rfl
 ·rename_i h3
  rcases h2 with h2 | h2 | h2
  ·exact absurd h2 h3
  ·rw [if_pos h2]
  ·split
   ·rfl
   ·first | rfl | rw [if_pos h2]
theorem Bhl {b:Ed} (h:b.vs.length≤4) (h1:b.ss.length≤6) (h2:0 < b.vs.length) (hv:b.vs.all Eu=true) (hs:b.ss.all (F4 b.vs.length)=true):B5 b=if 2000 < Bjs b then 3 else 0:=by
 unfold B5; rw [if_neg (by omega),if_neg (by omega),if_neg (by rw [hv]; decide),if_neg (by rw [hs]; decide),Bn2]
theorem Bka {b:Ed} {t:Tru} (h1:t.g.length=b.vs.length) (h2:t.d.length=b.vs.length) (h3:t.m.length=b.ss.length)
  (h4:∀ j,j < b.vs.length→inB (t.g.getD j 0) (b.vs.getD j default).g.lo (b.vs.getD j default).g.hi=true∧inB (t.d.getD j 0) (b.vs.getD j default).d.lo (b.vs.getD j default).d.hi=true)
  (h5:∀ j,j < b.ss.length→inB (t.m.getD j 0) (b.ss.getD j default).g.lo (b.ss.getD j default).g.hi=true):F0 b t=true:=by
 simp only [F0,Bool.and_eq_true,decide_eq_true_eq,List.all_eq_true,List.mem_range]
 exact ⟨h1,h2,h3,fun k hk=>h4 k hk,h5⟩
def Bi6:List Ves→Int→List Int × List Int × Int
 | [],n=>([],[],n)
 | v :: l,n=>((v.g.lo+n % Fb v.g) :: (Bi6 l (n / Fb v.g / Fb v.d)).1,(v.d.lo+n / Fb v.g % Fb v.d) :: (Bi6 l (n / Fb v.g / Fb v.d)).2.1,(Bi6 l (n / Fb v.g / Fb v.d)).2.2)
def Bme:List Stp→Int→List Int
 | [],_=>[]
 | s :: l,n=>(s.g.lo+n % Fb s.g) :: Bme l (n / Fb s.g)
def Bl5 (b:Ed) (n:Int):Tru:=⟨(Bi6 b.vs n).1,(Bi6 b.vs n).2.1,Bme b.ss (Bi6 b.vs n).2.2⟩
theorem Bpb {m s:Int} (h1:1≤s):0≤m % s∧m % s < s:=⟨Int.emod_nonneg _ (by omega),Int.emod_lt_of_pos _ (by omega)⟩
theorem Blg:∀ (l:List Ves) (n:Int),(Bi6 l n).1.length=l.length∧(Bi6 l n).2.1.length=l.length
 | [],_=>⟨rfl,rfl⟩
 | v :: l,n=>by
  obtain ⟨h1,h2⟩:=Blg l (n / Fb v.g / Fb v.d)
  unfold Bi6
  simp only [List.length_cons,h1,h2,and_self]
theorem Blr:∀ (l:List Stp) (n:Int),(Bme l n).length=l.length
 | [],_=>rfl
 | s :: l,n=>by unfold Bme; rw [List.length_cons,Blr,List.length_cons]
theorem Bk2 {r:Rng} {n:Int} (h:1≤Fb r):inB (r.lo+n % Fb r) r.lo r.hi=true:=by
 have:=Bpb (m:=n) h
 unfold Fb at *
 simp only [inB,Bool.and_eq_true,decide_eq_true_eq]; omega
theorem Bmu:∀ {l:List Ves} (n:Int),l.all Eu=true→∀ k,k < l.length→inB ((Bi6 l n).1.getD k 0) (l.getD k default).g.lo (l.getD k default).g.hi=true∧inB ((Bi6 l n).2.1.getD k 0) (l.getD k default).d.lo (l.getD k default).d.hi=true
 | [],_,_,k,hk=>by cases hk
 | v :: l,n,hv,k,hk=>by
  rw [List.all_cons,Bool.and_eq_true] at hv
  obtain ⟨h1,h2,_⟩:=Da hv.1
  cases k with
  | zero=>exact ⟨Bk2 (Po h1).1,Bk2 (Po h2).1⟩
  | succ k=>exact Bmu (n / Fb v.g / Fb v.d) hv.2 k (by simpa using hk)
theorem Bmr:∀ {l:List Stp} {c:Int} (n:Int),l.all (F4 c)=true→∀ k,k < l.length→inB ((Bme l n).getD k 0) (l.getD k default).g.lo (l.getD k default).g.hi=true
 | [],_,_,_,k,hk=>by cases hk
 | s :: l,c,n,hv,k,hk=>by
  rw [List.all_cons,Bool.and_eq_true] at hv
  have h1:=(Fq hv.1).2.2.2.2
  cases k with
  | zero=>exact Bk2 (Po h1).1
  | succ k=>exact Bmr (n / Fb s.g) hv.2 k (by simpa using hk)
theorem Bmj {b:Ed} (hv:Pb b) (n:Int):F0 b (Bl5 b n)=true:=by
 obtain ⟨h1,h2⟩:=Blg b.vs n
 exact Bka h1 h2 (Blr _ _) (Bmu n hv.v) (Bmr _ hv.s)
def Bhx (f:Int→List (List Int)):Nat→Int→List (List Int)
 | 0,_=>[]
 | c+1,n=>f n++Bhx f c (n+1)
def Bha:List Rng→List Int→List (List Int)
 | [],p=>[p]
 | r :: rs,p=>Bhx (fun n=>Bha rs (p++[n])) (Fb r).toNat r.lo
theorem Bhr {f:Int→List (List Int)} {sz n:Nat} {lo:Int} (h:n < sz):Bhx f (sz - n) (lo+n)=f (lo+n)++Bhx f (sz - (n+1)) (lo+(n+1:Nat)):=by
 rw [show sz - n=(sz - (n+1))+1 by omega,show lo+((n+1:Nat):Int)=lo+n+1 by omega]; rfl
theorem Bip {f:Int→List (List Int)} {sz n:Nat} {lo:Int} (h:sz≤n):Bhx f (sz - n) lo=[]:=by
 rw [show sz - n=0 by omega]; rfl
theorem Bis {f:Int→List (List Int)} {x:List Int}:∀ (c:Nat) (n:Int) (k:Nat),k < c→x ∈ f (n+k)→x ∈ Bhx f c n
 | 0,_,k,hk,_=>by omega
 | c+1,n,0,_,h=>by
  simp only [Bhx,List.mem_append]
  left; simpa using h
 | c+1,n,k+1,hk,h=>by
  simp only [Bhx,List.mem_append]
  right
  refine Bis c (n+1) k (by omega) ?_
  rw [show n+1+(k:Int)=n+((k+1:Nat):Int) by omega]; exact h
theorem Bjx {f:Int→List (List Int)} {x:List Int}:∀ (c:Nat) (n:Int),x ∈ Bhx f c n→∃ k:Nat,k < c∧x ∈ f (n+k)
 | 0,_,h=>by cases h
 | c+1,n,h=>by
  simp only [Bhx,List.mem_append] at h
  rcases h with h | h
  ·exact ⟨0,by omega,by simpa using h⟩
  ·obtain ⟨k,h1,h2⟩:=Bjx c (n+1) h
   exact ⟨k+1,by omega,by rw [show n+((k+1:Nat):Int)=n+1+k by omega]; exact h2⟩
theorem Bjz {α:Type} {l:List α} {i:Nat} (d:α) (h:i < l.length):l.drop i=l.getD i d :: l.drop (i+1):=by
 rw [List.drop_eq_getElem_cons h]; simp [List.getD,h]
theorem Bl9 {rs:List Rng} {cur:List Int} {d:Rng} (h:cur.length < rs.length):Bha (rs.drop cur.length) cur=Bhx (fun n=>Bha (rs.drop (cur.length+1)) (cur++[n])) ((Fb (rs.getD cur.length d)).toNat - 0) ((rs.getD cur.length d).lo+(0:Nat)):=by
 rw [Bjz d h,Nat.sub_zero]; simp only [Bha,Int.natCast_zero,Int.add_zero]
theorem Bnb {rs:List Rng} {cur:List Int} (h:rs.length≤cur.length):Bha (rs.drop cur.length) cur=[cur]:=by
 rw [List.drop_of_length_le h]; rfl
def Blo:List Rng→List Int→Prop
 | [],[]=>True
 | r :: rs,x :: l=>(r.lo≤x∧x≤r.hi)∧Blo rs l
 | _,_=>False
theorem Bim:∀ (rs:List Rng) (p x:List Int),x ∈ Bha rs p↔∃ y,x=p++y∧Blo rs y
 | [],p,x=>by
  simp only [Bha,List.mem_singleton]
  constructor
  ·intro h; exact ⟨[],by simpa using h,trivial⟩
  ·rintro ⟨y,rfl,hy⟩
   cases y with
   | nil=>simp
   | cons a l=>exact hy.elim
 | r :: rs,p,x=>by
  simp only [Bha]
  constructor
  ·intro h
   obtain ⟨k,h1,h2⟩:=Bjx _ _ h
   obtain ⟨y,rfl,hy⟩:=(Bim rs _ x).1 h2
   refine ⟨(r.lo+k) :: y,by simp,⟨?_,?_⟩,hy⟩
   ·omega
   ·unfold Fb at h1; omega
  ·rintro ⟨y,rfl,hy⟩
   cases y with
   | nil=>exact hy.elim
   | cons a l=>
    obtain ⟨⟨h1,h2⟩,h3⟩:=hy
    refine Bis _ _ (a - r.lo).toNat (by unfold Fb; omega) ((Bim rs _ _).2 ⟨l,?_,h3⟩)
    rw [show r.lo+((a - r.lo).toNat:Int)=a by omega]; simp
theorem Bkv:∀ {rs:List Rng} {l:List Int},Blo rs l→l.length=rs.length
 | [],[],_=>rfl
 | [],_ :: _,h=>h.elim
 | _ :: _,[],h=>h.elim
 | _ :: rs,_ :: l,h=>by simp [Bkv h.2]
def Bh7 (k:Nat) (x:List Int):Tru:=⟨x.take k,(x.take (2 * k)).drop k,x.drop (2 * k)⟩
theorem Bnh {k:Nat} {x:List Int}:(Bh7 k x).g++((Bh7 k x).d++(Bh7 k x).m)=x:=by
 show x.take k++((x.take (2 * k)).drop k++x.drop (2 * k))=x
 rw [← List.append_assoc]
 have:x.take k++(x.take (2 * k)).drop k=x.take (2 * k):=by
  rw [show x.take k=(x.take (2 * k)).take k by rw [List.take_take]; congr 1; omega]
  exact List.take_append_drop _ _
 rw [this]; exact List.take_append_drop _ _
theorem Bkt:∀ {rs:List Rng} {x:List Int},Blo rs x→∀ k,k < rs.length→Jm (rs.getD k default) (x.getD k 0)=true
 | [],[],_,k,hk=>by simp at hk
 | [],_ :: _,h,_,_=>h.elim
 | _ :: _,[],h,_,_=>h.elim
 | r :: rs,n :: x,h,0,_=>by
  simp only [Jm,inB,List.getD_cons_zero,Bool.and_eq_true,decide_eq_true_eq]
  exact h.1
 | r :: rs,n :: x,h,k+1,hk=>by
  simp only [List.getD_cons_succ]
  exact Bkt h.2 k (by simpa using hk)
theorem Bh3 {b:Ed} {x:List Int} (h:x ∈ Bha (Fy b) []):F0 b (Bh7 b.vs.length x)=true:=by
 obtain ⟨y,e,hy⟩:=(Bim _ _ _).1 h
 rw [List.nil_append] at e
 subst e
 have hl:=Bkv hy
 rw [Q9] at hl
 refine Aj7 (by simp [Bh7]; omega) (by simp [Bh7]; omega) (by simp [Bh7]; omega) fun k hk=>?_
 rw [show Jy (Bh7 b.vs.length x)=x by
  have e:Jy (Bh7 b.vs.length x)=(Bh7 b.vs.length x).g++((Bh7 b.vs.length x).d++(Bh7 b.vs.length x).m):=by simp [Jy]
  rw [e,Bnh]]
 exact Bkt hy k hk
theorem Bo7 {v:List Liq} (h:OkV v):(wI v).all inR=true:=by
 have hk:=Bfn (s:=⟨0,0,0,⟨0,0⟩⟩) (n:=0) (v:=v) (by decide) (by decide) h.small
 unfold kD at hk
 simp only [List.all_cons,Bool.and_eq_true] at hk
 exact hk.2.2.2.2.2.2
theorem Bn3:∀ {v w:List Liq},wI v=wI w→v=w
 | [],[],_=>rfl
 | [],_ :: _,h=>by simp [wI] at h
 | _ :: _,[],h=>by simp [wI] at h
 | l :: v,m :: w,h=>by
  have h':l.g :: l.e :: wI v=m.g :: m.e :: wI w:=h
  injection h' with h1 h2
  injection h2 with h2 h3
  rw [Bn3 h3]
  cases l; cases m; cases h1; cases h2; rfl
theorem Bkh (v:List Liq):Cn (cW v)=some (wI v):=Ux _
structure Bnd where
 g:Rng
 e:Rng
 k:Rng
instance:Inhabited Bnd:=⟨⟨⟨0,0⟩,⟨0,0⟩,⟨0,0⟩⟩⟩
def Bma (r:Rng) (n:Int) (f:Bool):Rng:=if f=true then ⟨n,n⟩ else ⟨min r.lo n,if r.hi < n then n else r.hi⟩
def Bpk (x:Bnd) (l:Liq) (k:Int) (f:Bool):Bnd:=⟨Bma x.g l.g f,Bma x.e l.e f,Bma x.k k f⟩
def Bhm (x:Bnd):List PV:=[iv x.g.lo,iv x.g.hi,iv x.e.lo,iv x.e.hi,iv x.k.lo,iv x.k.hi]
theorem Bn6 {s x n:Int} (h0:0≤x) (h1:x < s) (hn:0≤n):(x+s * n) % s=x∧(x+s * n) / s=n∧0≤x+s * n∧∀ R,n < R→x+s * n < s * R:=by
 refine ⟨?_,?_,?_,fun R hR=>?_⟩
 ·rw [Int.add_mul_emod_self_left,Int.emod_eq_of_lt h0 h1]
 ·rw [Int.add_mul_ediv_left _ _ (by omega),Int.ediv_eq_zero_of_lt h0 h1]; omega
 ·have:=Int.mul_nonneg (show 0≤s by omega) hn; omega
 ·have:=Int.mul_le_mul_of_nonneg_left (show n+1≤R by omega) (show 0≤s by omega)
  rw [Int.mul_add,Int.mul_one] at this
  omega
theorem Bir (r:Rng) (l:List Rng):L8 (r :: l) 1=Fb r * L8 l 1:=by
 show L8 l (1 * Fb r)=_
 rw [Bi7,Int.mul_comm]
theorem Bko:∀ (l:List Stp) (ms:List Int),ms.length=l.length→(∀ k,k < l.length→(l.getD k default).g.lo≤ms.getD k 0∧ms.getD k 0≤(l.getD k default).g.hi)→∃ n,0≤n∧n < L8 (l.map (·.g)) 1∧Bme l n=ms
 | [],[],_,_=>⟨0,Int.le_refl _,by decide,rfl⟩
 | [],_ :: _,h,_=>by cases h
 | _ :: _,[],h,_=>by cases h
 | s :: l,m :: ms,hl,h=>by
  obtain ⟨n,h1,h2,h3⟩:=Bko l ms (by simpa using hl) (fun k hk=>h (k+1) (by simpa using hk))
  have h0:=h 0 (by simp)
  simp only [List.getD_cons_zero] at h0
  obtain ⟨d1,d2,d3,d4⟩:=Bn6 (s:=Fb s.g) (x:=m - s.g.lo) (n:=n) (by omega) (by unfold Fb; omega) h1
  refine ⟨m - s.g.lo+Fb s.g * n,d3,?_,?_⟩
  ·rw [List.map_cons,Bir]; exact d4 _ h2
  ·unfold Bme
   rw [d1,d2,h3,show s.g.lo+(m - s.g.lo)=m by omega]
theorem Bkx:∀ (l:List Ves) (gs ds:List Int) (r:Int),gs.length=l.length→ds.length=l.length→0≤r →
  (∀ k,k < l.length→((l.getD k default).g.lo≤gs.getD k 0∧gs.getD k 0≤(l.getD k default).g.hi)∧(l.getD k default).d.lo≤ds.getD k 0∧ds.getD k 0≤(l.getD k default).d.hi) →
  ∃ n,0≤n∧(∀ R,r < R→n < L8 (Bhz l) 1 * R)∧Bi6 l n=(gs,ds,r)
 | [],[],[],r,_,_,hr,_=>⟨r,hr,fun R h=>by show r < 1 * R; omega,rfl⟩
 | [],_ :: _,_,_,h,_,_,_=>by cases h
 | [],_,_ :: _,_,_,h,_,_=>by cases h
 | _ :: _,[],_,_,h,_,_,_=>by cases h
 | _ :: _,_,[],_,_,h,_,_=>by cases h
 | v :: l,g :: gs,d :: ds,r,hg,hd,hr,h=>by
  obtain ⟨n,h1,h2,h3⟩:=Bkx l gs ds r (by simpa using hg) (by simpa using hd) hr (fun k hk=>h (k+1) (by simpa using hk))
  have h0:=h 0 (by simp)
  simp only [List.getD_cons_zero] at h0
  obtain ⟨a1,a2,a3,a4⟩:=Bn6 (s:=Fb v.d) (x:=d - v.d.lo) (n:=n) (by omega) (by unfold Fb; omega) h1
  obtain ⟨b1,b2,b3,b4⟩:=Bn6 (s:=Fb v.g) (x:=g - v.g.lo) (n:=d - v.d.lo+Fb v.d * n) (by omega) (by unfold Fb; omega) a3
  refine ⟨_,b3,fun R hR=>?_,?_⟩
  ·have e:L8 (Bhz (v :: l)) 1=Fb v.g * (Fb v.d * L8 (Bhz l) 1):=by
    show L8 (v.g :: v.d :: Bhz l) 1=_
    rw [Bir,Bir]
   rw [e,Int.mul_assoc,Int.mul_assoc]
   exact b4 _ (a4 _ (h2 R hR))
  ·unfold Bi6
   rw [b2,b1,a2,a1,h3,show v.g.lo+(g - v.g.lo)=g by omega,show v.d.lo+(d - v.d.lo)=d by omega]
theorem Bn4 {b:Ed} {t:Tru} (h:F0 b t=true):∃ n,0≤n∧n < Bjs b∧Bl5 b n=t:=by
 obtain ⟨h1,h2,h3,h4,h5⟩:=Dm h
 obtain ⟨r,r1,r2,r3⟩:=Bko b.ss t.m h3 h5
 obtain ⟨n,n1,n2,n3⟩:=Bkx b.vs t.g t.d r h1 h2 r1 h4
 refine ⟨n,n1,?_,?_⟩
 ·have e:Bjs b=L8 (Bhz b.vs) 1 * L8 (b.ss.map (·.g)) 1:=by
   unfold Bjs
   rw [Bht]
   conv=>lhs; rw [← Int.one_mul (L8 (Bhz b.vs) 1)]
   rw [Bi7,Int.mul_comm]
  rw [e]; exact n2 _ r2
 ·unfold Bl5; rw [n3,r3]
def Bk5 (b:Ed) (v:List Liq):Prop:=∃ t,F0 b t=true∧(Bic b t).2=true∧v=(Bic b t).1
def Bkd (b:Ed):Nat→List (List Liq)
 | 0=>[]
 | k+1=>if (Bic b (Bl5 b k)).2=true then Bkd b k++[(Bic b (Bl5 b k)).1] else Bkd b k
def Bhj (b:Ed):List (List Liq):=Bkd b (Bjs b).toNat
theorem Bjv {b:Ed} {v:List Liq}:∀ k:Nat,v ∈ Bkd b k↔∃ n,n < k∧(Bic b (Bl5 b (n:Nat))).2=true∧v=(Bic b (Bl5 b n)).1
 | 0=>by
  constructor
  ·intro h; cases h
  ·rintro ⟨n,h,_⟩; omega
 | k+1=>by
  have ih:=Bjv (b:=b) (v:=v) k
  unfold Bkd
  constructor
  ·intro h
   split at h
   ·rename_i hx
    rcases List.mem_append.1 h with h | h
    ·obtain ⟨n,h1,h2⟩:=ih.1 h; exact ⟨n,by omega,h2⟩
    ·exact ⟨k,by omega,hx,List.mem_singleton.1 h⟩
   ·obtain ⟨n,h1,h2⟩:=ih.1 h; exact ⟨n,by omega,h2⟩
  ·rintro ⟨n,h1,h2,h3⟩
   by_cases e:n=k
   ·subst e
    rw [if_pos h2]; exact List.mem_append_right _ (List.mem_singleton.2 h3)
   ·have:=ih.2 ⟨n,by omega,h2,h3⟩
    split
    ·exact List.mem_append_left _ this
    ·exact this
theorem Bia {b:Ed} (hv:Pb b) {v:List Liq}:v ∈ Bhj b↔Bk5 b v:=by
 unfold Bhj
 rw [Bjv]
 constructor
 ·rintro ⟨n,_,h2,h3⟩; exact ⟨_,Bmj hv n,h2,h3⟩
 ·rintro ⟨t,h1,h2,h3⟩
  obtain ⟨n,a1,a2,rfl⟩:=Bn4 h1
  refine ⟨n.toNat,by omega,?_⟩
  rw [show ((n.toNat:Nat):Int)=n by omega]
  exact ⟨h2,h3⟩
theorem Blj:∀ {rs:List Rng} {x:List Int},x.length=rs.length→(∀ k,k < rs.length→Jm (rs.getD k default) (x.getD k 0)=true)→Blo rs x
 | [],[],_,_=>trivial
 | [],_ :: _,h,_=>by cases h
 | _ :: _,[],h,_=>by cases h
 | r :: rs,n :: x,hl,h=>by
  refine ⟨?_,Blj (by simpa using hl) fun k hk=>h (k+1) (by simpa using hk)⟩
  have:=h 0 (by simp)
  simpa only [Jm,inB,List.getD_cons_zero,Bool.and_eq_true,decide_eq_true_eq] using this
theorem Bl8 {b:Ed} {t:Tru} (h:F0 b t=true):∃ x ∈ Bha (Fy b) [],Bh7 b.vs.length x=t:=by
 obtain ⟨h1,h2,h3,_⟩:=Dm h
 have e:Jy t=t.g++(t.d++t.m):=by simp [Jy]
 refine ⟨Jy t,(Bim _ _ _).2 ⟨Jy t,rfl,Blj (by rw [Amm,Q9]; omega) fun k hk=>J7 h hk⟩,?_⟩
 unfold Bh7
 rw [e]
 have a1:(t.g++(t.d++t.m)).take b.vs.length=t.g:=by rw [← h1]; exact List.take_left
 have a2:(t.g++(t.d++t.m)).drop (2 * b.vs.length)=t.m:=by
  rw [← List.append_assoc,show 2 * b.vs.length=(t.g++t.d).length by rw [List.length_append]; omega]
  exact List.drop_left
 have a3:((t.g++(t.d++t.m)).take (2 * b.vs.length)).drop b.vs.length=t.d:=by
  rw [← List.append_assoc,show 2 * b.vs.length=(t.g++t.d).length by rw [List.length_append]; omega,List.take_left,← h1]
  exact List.drop_left
 rw [a1,a2,a3]
theorem Bn8 {b:Ed} (hv:Pb b) {v:List Liq}:Bk5 b v↔∃ x ∈ Bha (Fy b) [],(Me b (Bh7 b.vs.length x)).2=true∧v=(Me b (Bh7 b.vs.length x)).1.take b.vs.length:=by
 constructor
 ·rintro ⟨t,h1,h2,rfl⟩
  obtain ⟨x,hx,rfl⟩:=Bl8 h1
  obtain ⟨e1,e2⟩:=Bms (Bh7 b.vs.length x) hv
  exact ⟨x,hx,e1.trans h2,(e2 (e1.trans h2)).symm⟩
 ·rintro ⟨x,hx,h2,rfl⟩
  obtain ⟨e1,e2⟩:=Bms (Bh7 b.vs.length x) hv
  exact ⟨_,Bh3 hx,e1.symm.trans h2,e2 h2⟩
def IsW (P:Int→Prop) (r:Rng):Prop:=P r.lo∧P r.hi∧∀ x,P x→r.lo≤x∧x≤r.hi
theorem IsW.unique {P:Int→Prop} {r s:Rng} (h:IsW P r) (h2:IsW P s):r=s:=by
 obtain ⟨a1,a2,a3⟩:=h
 obtain ⟨b1,b2,b3⟩:=h2
 have:=a3 _ b1; have:=a3 _ b2; have:=b3 _ a1; have:=b3 _ a2
 cases r; cases s
 simp only [Rng.mk.injEq]
 dsimp only at *
 omega
theorem IsW.wider {P Q:Int→Prop} {r s:Rng} (h:IsW P r) (h2:IsW Q s) (hPQ:∀ x,P x→Q x):s.lo≤r.lo∧r.hi≤s.hi:=
 ⟨(h2.2.2 _ (hPQ _ h.1)).1,(h2.2.2 _ (hPQ _ h.2.1)).2⟩
theorem IsW.congr {P Q:Int→Prop} {r:Rng} (h:IsW P r) (hPQ:∀ x,P x↔Q x):IsW Q r:=
 ⟨(hPQ _).1 h.1,(hPQ _).1 h.2.1,fun x hx=>h.2.2 x ((hPQ x).2 hx)⟩
theorem Bjn (n:Int):IsW (fun x=>x=n) ⟨n,n⟩:=⟨rfl,rfl,fun x h=>by dsimp only; omega⟩
theorem Bjl {P:Int→Prop} {r:Rng} (h:IsW P r) (n:Int):IsW (fun x=>P x∨x=n) (Bma r n false):=by
 obtain ⟨h1,h2,h3⟩:=h
 have hw:Bma r n false=⟨min r.lo n,if r.hi < n then n else r.hi⟩:=rfl
 have:=h3 _ h1; have:=h3 _ h2
 rw [hw]
 refine ⟨?_,?_,fun x hx=>?_⟩
 ·dsimp only
  by_cases e:r.lo≤n
  ·rw [show min r.lo n=r.lo by omega]; exact .inl h1
  ·rw [show min r.lo n=n by omega]; exact .inr rfl
 ·dsimp only
  split
  ·exact .inr rfl
  ·exact .inl h2
 ·dsimp only
  rcases hx with hx | rfl
  ·have:=h3 x hx; split <;> omega
  ·split <;> omega
def Bjj (l:List Int):Nat→Rng
 | 0=>⟨l.getD 0 0,l.getD 0 0⟩
 | k+1=>⟨if l.getD k 0 < (Bjj l k).lo then l.getD k 0 else (Bjj l k).lo,if (Bjj l k).hi < l.getD k 0 then l.getD k 0 else (Bjj l k).hi⟩
def Blc (l:List Int):Rng:=Bjj l l.length
theorem Bmz {l:List Int} (h:0 < l.length):∀ k,k≤l.length→IsW (fun x=>x=l.getD 0 0∨∃ j,j < k∧x=l.getD j 0) (Bjj l k)
 | 0,_=>(Bjn _).congr fun x=>⟨.inl,fun h=>h.elim id fun ⟨_,h,_⟩=>by omega⟩
 | k+1,hk=>by
  have ih:=Bjl (Bmz h k (by omega)) (l.getD k 0)
  have e:Bma (Bjj l k) (l.getD k 0) false=Bjj l (k+1):=by
   show (⟨_,_⟩:Rng)=⟨_,_⟩
   simp only [Rng.mk.injEq,and_true]
   split <;> omega
  rw [e] at ih
  refine ih.congr fun x=>⟨?_,?_⟩
  ·rintro ((h | ⟨j,h1,h2⟩) | h)
   ·exact .inl h
   ·exact .inr ⟨j,by omega,h2⟩
   ·exact .inr ⟨k,by omega,h⟩
  ·rintro (h | ⟨j,h1,h2⟩)
   ·exact .inl (.inl h)
   ·by_cases e:j=k
    ·subst e; exact .inr h2
    ·exact .inl (.inr ⟨j,by omega,h2⟩)
theorem Bo3 {l:List Int} (h:l≠[]):IsW (· ∈ l) (Blc l):=by
 have hl:0 < l.length:=List.length_pos_iff.2 h
 refine (Bmz hl l.length (Nat.le_refl _)).congr fun x=>⟨?_,fun hx=>?_⟩
 ·rintro (rfl | ⟨j,h1,rfl⟩)
  ·exact Dv 0 hl
  ·exact Dv 0 h1
 ·obtain ⟨j,hj⟩:=List.mem_iff_getElem?.1 hx
  have hj2:j < l.length:=by
   rcases Nat.lt_or_ge j l.length with h | h
   ·exact h
   ·rw [List.getElem?_eq_none h] at hj; cases hj
  exact .inr ⟨j,hj2,by rw [List.getD_eq_getElem?_getD,hj]; rfl⟩
def Bli (b:Ed) (k:Nat) (f:Liq→Int) (x:Int):Prop:=∃ v,Bk5 b v∧f (B6 v k)=x
theorem Bj4 {b:Ed} (hv:Pb b) (h:Bhj b≠[]) (k:Nat) (f:Liq→Int):IsW (Bli b k f) (Blc ((Bhj b).map fun v=>f (B6 v k))):=
 (Bo3 (by simpa using h)).congr fun x=>by
  simp only [List.mem_map]
  exact ⟨fun ⟨v,h1,h2⟩=>⟨v,(Bia hv).1 h1,h2⟩,fun ⟨v,h1,h2⟩=>⟨v,(Bia hv).2 h1,h2⟩⟩
def Bhg:List Int→List Int→Bool
 | [],[]=>false
 | [],_ :: _=>true
 | _ :: _,[]=>false
 | a :: r,b :: s=>if a=b then Bhg r s else decide (a < b)
def Bhd (a b:List Int):Bool:=decide (a.length < b.length)||(decide (a.length=b.length)&&Bhg a b)
theorem Bj9:∀ a:List Int,Bhg a a=false
 | []=>rfl
 | x :: a=>by simp only [Bhg,if_true]; exact Bj9 a
theorem Biz:∀ {a b c:List Int},Bhg a b=true→Bhg b c=true→Bhg a c=true
 | [],[],c,h,_=>by cases h
 | [],_ :: _,[],_,h=>by cases h
 | [],_ :: _,_ :: _,_,_=>rfl
 | _ :: _,[],c,h,_=>by cases h
 | _ :: _,_ :: _,[],_,h=>by cases h
 | x :: a,y :: b,z :: c,h1,h2=>by
  simp only [Bhg] at h1 h2 ⊢
  split at h1
  ·rename_i e; subst e
   split at h2
   ·rename_i e; rw [if_pos e]; exact Biz h1 h2
   ·rename_i e; rw [if_neg e]; exact h2
  ·rename_i e
   have h1:=of_decide_eq_true h1
   split at h2
   ·rename_i e2; subst e2; rw [if_neg e]; exact decide_eq_true h1
   ·have h2:=of_decide_eq_true h2
    rw [if_neg (by omega)]; exact decide_eq_true (by omega)
theorem Bjg {a b:List Int}:Bhd a b=true↔a.length < b.length∨(a.length=b.length∧Bhg a b=true):=by simp [Bhd]
theorem Bji (a:List Int):Bhd a a=false:=by simp [Bhd,Bj9]
theorem Bly (a:List Int):Bhd a []=false:=by cases a <;> simp [Bhd,Bhg]
theorem Bkf {a b c:List Int} (h1:Bhd a b=true) (h2:Bhd b c=true):Bhd a c=true:=by
 rw [Bjg] at *
 rcases h1 with h1 | ⟨h1,g1⟩ <;> rcases h2 with h2 | ⟨h2,g2⟩
 ·left; omega
 ·left; omega
 ·left; omega
 ·exact .inr ⟨by omega,Biz g1 g2⟩
def Bh2 (P:List Int→Prop) (x:List Int):Prop:=P x∧∀ y,P y→Bhd y x=false
theorem Bh2.congr {P Q:List Int→Prop} {x:List Int} (h:Bh2 P x) (e:∀ y,P y↔Q y):Bh2 Q x:=⟨(e _).1 h.1,fun y hy=>h.2 y ((e _).2 hy)⟩
theorem Bnv {P:List Int→Prop} (h:P []):Bh2 P []:=⟨h,fun _ _=>Bly _⟩
theorem Bnj {P:List Int→Prop} {x:List Int} (h:Bh2 P x) (o:List Int):Bh2 (fun y=>P y∨y=o) (if Bhd o x=true then o else x):=by
 split
 ·rename_i hs
  refine ⟨.inr rfl,fun y hy=>?_⟩
  rcases hy with hy | rfl
  ·cases hq:Bhd y o with
   | false=>rfl
   | true=>rw [← h.2 y hy,Bkf hq hs]
  ·exact Bji _
 ·rename_i hs
  refine ⟨.inl h.1,fun y hy=>?_⟩
  rcases hy with hy | rfl
  ·exact h.2 y hy
  ·simpa using hs
def Bh0 (v:List Liq) (r:Rdg):Bool:=Jm r.g (v.getD r.v.toNat default).g&&Jm r.d (Q7 (v.getD r.v.toNat default))
def Bhw (n:Int) (r:Rdg):Bool:=inB r.v 0 (n - 1)&&(decide (r.g.lo≤r.g.hi)&&decide (r.d.lo≤r.d.hi))
def Bid (v:List Liq) (l:List Rdg):Nat→List Int
 | 0=>[]
 | k+1=>if Bh0 v (l.getD k default)=true then Bid v l k else Bid v l k++[(k:Int)]
def Bi9 (v:List Liq) (l:List Rdg):List Int:=Bid v l l.length
theorem Bj7 {v:List Liq} {l:List Rdg}:∀ k,(Bid v l k).length≤k
 | 0=>Nat.le_refl _
 | k+1=>by
  have:=Bj7 (v:=v) (l:=l) k
  unfold Bid
  split
  ·omega
  ·simp only [List.length_append,List.length_singleton]; omega
theorem Bn7 {v:List Liq} {l:List Rdg}:(Bi9 v l).length≤l.length:=Bj7 _
def Bi4 (s:List Int × Bool) (o:List Int):Bool:=!s.2||Bhd o s.1
def Bh6 (l:List Rdg) (s:List Int × Bool) (v:List Liq):List Int × Bool:=if Bi4 s (Bi9 v l)=true then (Bi9 v l,true) else s
def Bhu (l:List Rdg):List Int × Bool→List (List Liq)→List Int × Bool
 | s,[]=>s
 | s,v :: L=>if (Bh6 l s v).1.length=0 then Bh6 l s v else Bhu l (Bh6 l s v) L
def Bi3 (P:List Liq→Prop) (l:List Rdg) (o:List Int):Prop:=∃ v,P v∧o=Bi9 v l
theorem Bnf {l:List Rdg} {s:List Int × Bool} {v:List Liq} {P:List Liq→Prop} (h:(s.2=false∧∀ w,¬ P w)∨(s.2=true∧Bh2 (Bi3 P l) s.1)) :
  (Bh6 l s v).2=true∧Bh2 (Bi3 (fun w=>P w∨w=v) l) (Bh6 l s v).1:=by
 have hcong:∀ y,(Bi3 P l y∨y=Bi9 v l)↔Bi3 (fun w=>P w∨w=v) l y:=fun y=>
  ⟨fun h=>h.elim (fun ⟨w,h1,h2⟩=>⟨w,.inl h1,h2⟩) fun h=>⟨v,.inr rfl,h⟩,fun ⟨w,h1,h2⟩=>h1.elim (fun h1=>.inl ⟨w,h1,h2⟩) fun h1=>.inr (by rw [h2,h1])⟩
 unfold Bh6 Bi4
 rcases h with ⟨h1,h2⟩ | ⟨h1,h2⟩
 ·rw [h1]
  simp only [Bool.not_false,Bool.true_or,if_true,true_and]
  refine ⟨⟨v,.inr rfl,rfl⟩,fun y hy=>?_⟩
  obtain ⟨w,h3,h4⟩:=hy
  rcases h3 with h3 | h3
  ·exact absurd h3 (h2 w)
  ·subst h3; rw [h4]; exact Bji _
 ·rw [h1,Bool.not_true,Bool.false_or]
  have hb:=(Bnj h2 (Bi9 v l)).congr hcong
  split
  ·rename_i hs; rw [if_pos hs] at hb; exact ⟨rfl,hb⟩
  ·rename_i hs; rw [if_neg hs] at hb; exact ⟨h1,hb⟩
theorem Bj6 {l:List Rdg}:∀ (L:List (List Liq)) (s:List Int × Bool) (P:List Liq→Prop),((s.2=false∧∀ w,¬ P w)∨(s.2=true∧Bh2 (Bi3 P l) s.1)) →
  ((Bhu l s L).2=false∧∀ w,¬ (P w∨w ∈ L))∨((Bhu l s L).2=true∧Bh2 (Bi3 (fun w=>P w∨w ∈ L) l) (Bhu l s L).1)
 | [],s,P,h=>by
  unfold Bhu
  rcases h with ⟨h1,h2⟩ | ⟨h1,h2⟩
  ·exact .inl ⟨h1,fun w hw=>hw.elim (h2 w) (by simp)⟩
  ·exact .inr ⟨h1,h2.congr fun y=>⟨fun ⟨w,a,b⟩=>⟨w,.inl a,b⟩,fun ⟨w,a,b⟩=>⟨w,a.elim id (by simp),b⟩⟩⟩
 | v :: L,s,P,h=>by
  obtain ⟨h1,h2⟩:=Bnf (v:=v) h
  unfold Bhu
  split
  ·rename_i he
   have he:(Bh6 l s v).1=[]:=List.length_eq_zero_iff.1 he
   rw [he] at h2 ⊢
   obtain ⟨w,a,b⟩:=h2.1
   exact .inr ⟨h1,Bnv ⟨w,a.imp id (by rintro rfl; simp),b⟩⟩
  ·have:=Bj6 L (Bh6 l s v) (fun w=>P w∨w=v) (.inr ⟨h1,h2⟩)
   have hc:∀ w,((P w∨w=v)∨w ∈ L)↔(P w∨w ∈ v :: L):=fun w=>by rw [List.mem_cons,or_assoc]
   rcases this with ⟨h3,h4⟩ | ⟨h3,h4⟩
   ·exact .inl ⟨h3,fun w hw=>h4 w ((hc w).2 hw)⟩
   ·exact .inr ⟨h3,h4.congr fun y=>⟨fun ⟨w,a,b⟩=>⟨w,(hc w).1 a,b⟩,fun ⟨w,a,b⟩=>⟨w,(hc w).2 a,b⟩⟩⟩
theorem Bnx {l:List Rdg} {L:List (List Liq)} (h:L≠[]):(Bhu l ([],false) L).2=true∧Bh2 (Bi3 (· ∈ L) l) (Bhu l ([],false) L).1:=by
 rcases Bj6 L ([],false) (fun _=>False) (.inl ⟨rfl,fun _=>id⟩) with ⟨_,h2⟩ | ⟨h1,h2⟩
 ·obtain ⟨v,hv⟩:=List.exists_mem_of_ne_nil L h
  exact absurd (.inr hv) (h2 v)
 ·exact ⟨h1,h2.congr fun y=>⟨fun ⟨w,a,b⟩=>⟨w,a.elim False.elim id,b⟩,fun ⟨w,a,b⟩=>⟨w,.inr a,b⟩⟩⟩
theorem Bmd {w:List Liq} {n k:Nat} (h:k < n):(w.take n).getD k default=w.getD k default:=Bhn h
theorem Bkw {w:List Liq} {n:Nat} {l:List Rdg} (hl:∀ r ∈ l,Bhw n r=true):Bi9 (w.take n) l=Bi9 w l:=by
 have h:∀ k,k≤l.length→Bid (w.take n) l k=Bid w l k:=by
  intro k
  induction k with
  | zero=>intro _; rfl
  | succ k ih=>
   intro hk
   have hr:=hl _ (Dv default (show k < l.length by omega))
   have e:Bh0 (w.take n) (l.getD k default)=Bh0 w (l.getD k default):=by
    simp only [Bhw,inB,Bool.and_eq_true,decide_eq_true_eq] at hr
    unfold Bh0
    rw [Bmd (by omega)]
   unfold Bid
   rw [ih (by omega),e]
 exact h _ (Nat.le_refl _)
end AM.Wort
end
/- Ranges over functions that yield values; searches of the beginning of an array. -/
section
namespace AM
open Go AM AM.Duty Go.Proofs
open Nat renaming reduceLT→sA,reduceAdd→sB,reduceMul→sC,reduceSub→sD,reduceLeDiff→sE,reduceEqDiff→sF,reduceBEq→sG
open Int renaming reduceAdd→sH,reduceSub→sI,reduceMul→sJ,reduceLT→sK,reduceLE→sL,reduceNeg→sM,reduceToNat→sN,reduceEq→sO
set_option maxHeartbeats 4000000
theorem Ahe.drop {P:Program} {fv:AV} {F:Nat→Prop} {σ α:Type} {arg:α→AV} {l:List α} {go:σ→Prop} {I:σ→(Nat→Option AO)→Prop} {step:σ→α→σ × Bool} (hT:Ahe P fv F arg l go I step) {os os2:Nat→Option AO} {bd:Nat} (hcl:(Hp os).closed) (hfree:∀ n,bd≤n→os n=none) {s s':σ} (hs:I s os) (hI:I s' os2) (hfr:∀ n,n < bd→¬ F n→os2 n=os n) :
  (Hp (Du bd os2)).closed∧I s' (Du bd os2)∧∀ n,¬ F n→Du bd os2 n=os n:=by
 have hF:∀ n,F n→n < bd:=fun n hn=>by obtain ⟨o,h,_⟩:=hT.foot s os n hs hn; exact Ap hfree h
 have hfr2:∀ n,¬ F n→Du bd os2 n=os n:=fun n hn=>by
  by_cases h:n < bd
  ·rw [Fr h]; exact hfr n h hn
  ·rw [Su (by omega),hfree n (by omega)]
 refine ⟨⟨fun _=>AV.lives_undef _,fun n o hn=>?_⟩,hT.stable s' os2 _ hI (fun n hn=>Fr (hF n hn)),hfr2⟩
 have hn:Du bd os2 n=some o:=hn
 by_cases hFn:F n
 ·obtain ⟨o',h1,h2⟩:=hT.foot s' os2 n hI hFn
  rw [Fr (hF n hFn),h1] at hn
  cases hn
  intro m hm
  obtain ⟨o'',h3,_⟩:=hT.foot s' os2 m hI (h2 m hm)
  show (Du bd os2 m).isSome=true
  rw [Fr (hF m (h2 m hm)),h3]; rfl
 ·rw [hfr2 n hFn] at hn
  intro m hm
  have h3:=hcl.2 n o hn m hm
  show (Du bd os2 m).isSome=true
  by_cases hFm:F m
  ·obtain ⟨o',h1,_⟩:=hT.foot s' os2 m hI hFm
   rw [Fr (hF m hFm),h1]; rfl
  ·rw [hfr2 m hFm]; exact h3
theorem Blk {σ α:Type} {step:σ→α→σ × Bool} {go:σ→Prop}:∀ {l:List α} {s:σ},(∀ s x,x ∈ l→go s→(step s x).2=true→go (step s x).1)→go s→(Gb step s l).2=true→go (Gb step s l).1
 | [],_,_,hg,_=>hg
 | x :: l,s,hn,hg,h=>by
  simp only [Gb] at h ⊢
  split at h
  ·rename_i h1
   rw [if_pos h1]
   exact Blk (fun s y hy=>hn s y (by simp [hy])) (hn s x (by simp) hg h1) h
  ·cases h
end AM
end
/- The abstract machine, part 70: the beginning of a slice that is a value. -/
section
namespace AM
open Go Go.Proofs
theorem Bl4 {es:List (List PV)}:(AV.p (.sl es)).pv?.bind PV.list?=some es:=rfl
end AM
end
/- Ranges over functions whose loop's state tells when it may go on. -/
section
namespace AM
open Go AM AM.Duty Go.Proofs
open Nat renaming reduceLT→sA,reduceAdd→sB,reduceMul→sC,reduceSub→sD,reduceLeDiff→sE,reduceEqDiff→sF,reduceBEq→sG
open Int renaming reduceAdd→sH,reduceSub→sI,reduceMul→sJ,reduceLT→sK,reduceLE→sL,reduceNeg→sM,reduceToNat→sN,reduceEq→sO
structure Bla (P:Program) (bdL:Nat) (k:F1) (tm:List (Nat × AV)) (v q:List Nat) (F:Nat→Prop) {σ α:Type} (arg:α→AV) (l:List α) (go:σ→Prop) (I:σ→(Nat→Option AO)→Prop) (bst:σ→α→σ × Option Code):Prop where
 ready:k=Al1 k none
 lenp:k.ps.length=1
 psn:∀ p ∈ k.ps,p < k.n
 notF:¬ F bdL
 tmF:∀ m,(AO.loop k tm).clean m=false→F m
 stable:∀ s os os',I s os→(∀ n,F n→os' n=os n)→I s os'
 foot:∀ s os n,I s os→F n→∃ o,os n=some o∧∀ m,o.clean m=false→F m
 next:∀ s x,x ∈ l→go s→(bst s x).2=none→go (bst s x).1
 body:∀ s x os bd,x ∈ l→go s→I s os→os bdL=some (.loop k tm)→(Hp os).closed→(∀ n,bd≤n→os n=none)→bdL < bd →
  ∀ rl,AWP P ⟨⟨some rl,fun _=>False⟩,bd,v,q⟩ k.n k.assign ⟨Jh k.ps [arg x] (T tm),os⟩ (Ju (fun s1=>s1.o bdL=some (.loop k tm)∧AWP P ⟨⟨some rl,fun _=>False⟩,bd,v,q⟩ k.n k.body ⟨s1.t,upd s1.o bdL (some (.loop { k with state:=.busy } tm))⟩
   (Tz bdL k tm fun res os'=>res=bl (bst s x).2.isNone∧(I (bst s x).1 os'∧os' bdL=some (.loop (Al1 k (bst s x).2) tm))∧∀ n,¬ (F n∨n=bdL)→os' n=os n)) (fun _ _=>False))
theorem Bla.yields {P:Program} {bdL:Nat} {k:F1} {tm:List (Nat × AV)} {v q:List Nat} {F:Nat→Prop} {σ α:Type} {arg:α→AV} {l:List α} {go:σ→Prop} {I:σ→(Nat→Option AO)→Prop} {bst:σ→α→σ × Option Code} (h:Bla P bdL k tm v q F arg l go I bst) :
  Ahe P (.yld bdL) (fun n=>F n∨n=bdL) arg l (fun (s:σ × Option Code)=>s.2=none∧go s.1) (fun s os=>I s.1 os∧os bdL=some (.loop (Al1 k s.2) tm)) (fun s x=>(bst s.1 x,(bst s.1 x).2.isNone)) where
 live s os hI:=by rw [Ra,hI.2]; rfl
 stable s os os' hI he:=⟨h.stable s.1 os os' hI.1 (fun n hn=>he n (.inl hn)),(he bdL (.inr rfl)).trans hI.2⟩
 foot s os n hI hn:=by
  rcases hn with hn | rfl
  ·obtain ⟨o,h1,h2⟩:=h.foot s.1 os n hI.1 hn
   exact ⟨o,h1,fun m hm=>.inl (h2 m hm)⟩
  ·exact ⟨_,hI.2,fun m hm=>.inl (h.tmF m hm)⟩
 next s x hx hg hs:=⟨Option.isNone_iff_eq_none.1 hs,h.next s.1 x hx hg.2 (Option.isNone_iff_eq_none.1 hs)⟩
 call s x os bd hx hg hI hcl0:=by
  have hloop:os bdL=some (.loop k tm):=by
   have:=hI.2
   rw [hg.1,← h.ready] at this
   exact this
  intro hfree
  have hb:=Ap hfree hloop
  refine Si (fun hm=>hm) (k:=k) (tm:=tm) (v:=v) (q:=q) hloop (by rw [h.ready]; rfl) (by rw [h.lenp]; rfl) h.psn (fun hcl _ rl=>?_) hfree
  exact h.body s.1 x os bd hx hg.2 hI.1 hloop hcl hfree hb rl
end AM
end
/- Wider ranges: what vessels can have with them. -/
section
namespace AM.Wort
open Go AM Go.Proofs
def Bjk (s:Stp):Int × Int × Int:=(s.kind,s.frm,s.to)
structure Big (b x:Ed):Prop where
 rm:x.vs.map (·.room)=b.vs.map (·.room)
 st:x.ss.map Bjk=b.ss.map Bjk
 v:∀ k,k < b.vs.length→((x.vs.getD k default).g.lo≤(b.vs.getD k default).g.lo∧(b.vs.getD k default).g.hi≤(x.vs.getD k default).g.hi)∧(x.vs.getD k default).d.lo≤(b.vs.getD k default).d.lo∧(b.vs.getD k default).d.hi≤(x.vs.getD k default).d.hi
 s:∀ k,k < b.ss.length→(x.ss.getD k default).g.lo≤(b.ss.getD k default).g.lo∧(b.ss.getD k default).g.hi≤(x.ss.getD k default).g.hi
theorem Big.nv {b x:Ed} (h:Big b x):x.vs.length=b.vs.length:=by have:=congrArg List.length h.rm; simpa using this
theorem Big.ns {b x:Ed} (h:Big b x):x.ss.length=b.ss.length:=by have:=congrArg List.length h.st; simpa using this
theorem Bmb {b x:Ed} {t:Tru} (h:Big b x) (hl:F0 b t=true):F0 x t=true:=by
 obtain ⟨h1,h2,h3,h4,h5⟩:=Dm hl
 refine Bka (h1.trans h.nv.symm) (h2.trans h.nv.symm) (h3.trans h.ns.symm) (fun j hj=>?_) (fun j hj=>?_)
 ·rw [h.nv] at hj
  have a:=h4 j hj
  have c:=h.v j hj
  simp only [inB,Bool.and_eq_true,decide_eq_true_eq]; omega
 ·rw [h.ns] at hj
  have a:=h5 j hj
  have c:=h.s j hj
  simp only [inB,Bool.and_eq_true,decide_eq_true_eq]; omega
theorem Bku:∀ {vs us:List Ves} {gs ds:List Int} {i:Nat},vs.length=us.length→Bjd vs gs ds i=Bjd us gs ds i
 | [],[],_,_,_,_=>rfl
 | [],_ :: _,_,_,_,h=>by cases h
 | _ :: _,[],_,_,_,h=>by cases h
 | _ :: vs,_ :: us,gs,ds,i,h=>by
  unfold Bjd
  rw [Bku (vs:=vs) (us:=us) (by simpa using h)]
theorem Bkl:∀ {vs us:List Ves} {gs:List Int} {i:Nat},vs.map (·.room)=us.map (·.room)→Bi1 vs gs i=Bi1 us gs i
 | [],[],_,_,_=>rfl
 | [],_ :: _,_,_,h=>by cases h
 | _ :: _,[],_,_,h=>by cases h
 | v :: vs,u :: us,gs,i,h=>by
  rw [List.map_cons,List.map_cons] at h
  injection h with h1 h2
  unfold Bi1
  rw [h1,Bkl h2]
theorem Bmy (vs:List Ves) (k:Nat):(vs.getD k default).room=(vs.map (·.room)).getD k 0:=by
 rw [List.getD_eq_getElem?_getD,List.getD_eq_getElem?_getD,List.getElem?_map]
 cases vs[k]? <;> rfl
theorem Boi {v:List Liq} {s t:Stp} {n:Int} (h:Bjk s=Bjk t):Gx v s n=Gx v t n:=by
 unfold Bjk at h
 injection h with h1 h2
 injection h2 with h2 h3
 unfold Gx; rw [h1,h2,h3]
theorem Bob {vs us:List Ves} {v:List Liq} {s t:Stp} {n:Int} (hr:vs.map (·.room)=us.map (·.room)) (h:Bjk s=Bjk t):doX vs v s n=doX us v t n:=by
 have ht:s.to=t.to:=by unfold Bjk at h; injection h with h1 h2; injection h2
 have e:doS vs v s n=doS us v t n:=by unfold doS; rw [Boi h,Bmy,Bmy,hr,ht]
 unfold doX; rw [e]
theorem Bje {vs us:List Ves} {m:List Int} (hr:vs.map (·.room)=us.map (·.room)):∀ {ss ts:List Stp} {i:Nat} {r:List Liq × Bool},ss.map Bjk=ts.map Bjk→Bh5 vs m ss i r=Bh5 us m ts i r
 | [],[],_,_,_=>rfl
 | [],_ :: _,_,_,h=>by cases h
 | _ :: _,[],_,_,h=>by cases h
 | s :: ss,t :: ts,i,r,h=>by
  rw [List.map_cons,List.map_cons] at h
  injection h with h1 h2
  unfold Bh5
  rw [Bob hr h1]
  split
  ·rfl
  ·exact Bje hr h2
theorem Bln {b x:Ed} {t:Tru} (h:Big b x):Bic x t=Bic b t:=by
 unfold Bic Bmi Bnu
 rw [Bku h.nv,Bkl h.rm]
 exact Bje h.rm h.st
theorem Blb {b x:Ed} {v:List Liq} (h:Big b x) (hv:Bk5 b v):Bk5 x v:=by
 obtain ⟨t,h1,h2,h3⟩:=hv
 exact ⟨t,Bmb h h1,by rw [Bln h]; exact h2,by rw [Bln h]; exact h3⟩
theorem Bk7 {b x:Ed} (h:Big b x) {k:Nat} {f:Liq→Int} {y:Int} (hy:Bli b k f y):Bli x k f y:=by
 obtain ⟨v,h1,h2⟩:=hy
 exact ⟨v,Blb h h1,h2⟩
theorem Bnq {P Q:List Liq→Prop} {l:List Rdg} {u w:List Int} (hu:Bh2 (Bi3 P l) u) (hw:Bh2 (Bi3 Q l) w) (h:∀ v,P v→Q v):w.length≤u.length:=by
 obtain ⟨v,h1,h2⟩:=hu.1
 have:=hw.2 u ⟨v,h v h1,h2⟩
 have h3:¬ Bhd u w=true:=by rw [this]; decide
 rw [Bjg] at h3
 omega
def Bm4 (r:Rng) (by_:Nat):Rng:=⟨if 0 < r.lo - ((by_ % 2:Nat):Int) then r.lo - ((by_ % 2:Nat):Int) else 0,r.hi+((by_ / 2 % 2:Nat):Int)⟩
theorem Bk6 {r:Rng} {by_:Nat} (h:0≤r.lo):(Bm4 r by_).lo≤r.lo∧r.hi≤(Bm4 r by_).hi:=by
 unfold Bm4
 dsimp only
 constructor
 ·split <;> omega
 ·omega
theorem Bop {vs:List Ves} {j k:Nat} {a:Ves} (hj:j < vs.length):(vs.set j a).getD k default=if k=j then a else vs.getD k default:=by
 rw [List.getD_eq_getElem?_getD,List.getD_eq_getElem?_getD,List.getElem?_set]
 by_cases e:j=k
 ·subst e; simp [hj]
 ·rw [if_neg e,if_neg (fun h=>e h.symm)]
theorem Boa {ss:List Stp} {j k:Nat} {a:Stp} (hj:j < ss.length):(ss.set j a).getD k default=if k=j then a else ss.getD k default:=by
 rw [List.getD_eq_getElem?_getD,List.getD_eq_getElem?_getD,List.getElem?_set]
 by_cases e:j=k
 ·subst e; simp [hj]
 ·rw [if_neg e,if_neg (fun h=>e h.symm)]
theorem Biw {α β:Type} {f:α→β} {l:List α} {j:Nat} {a:α} (d:α) (h:j < l.length) (e:f a=f (l.getD j d)):(l.set j a).map f=l.map f:=by
 rw [List.map_set,e]
 have:f (l.getD j d)=(l.map f)[j]'(by simpa using h):=by simp [List.getD,h]
 rw [this]
 exact List.set_getElem_self _
theorem Bof {b:Ed} {j:Nat} {a:Ves} (hj:j < b.vs.length) (h1:a.room=(b.vs.getD j default).room) (h2:(a.g.lo≤(b.vs.getD j default).g.lo∧(b.vs.getD j default).g.hi≤a.g.hi)∧a.d.lo≤(b.vs.getD j default).d.lo∧(b.vs.getD j default).d.hi≤a.d.hi):Big b ⟨b.vs.set j a,b.ss⟩ where
 rm:=Biw default hj h1
 st:=rfl
 v k hk:=by
  dsimp only
  rw [Bop hj]
  split
  ·rename_i e; rw [e]; exact h2
  ·omega
 s k hk:=by dsimp only; omega
theorem Bpi {b:Ed} {j:Nat} {a:Stp} (hj:j < b.ss.length) (h1:Bjk a=Bjk (b.ss.getD j default)) (h2:a.g.lo≤(b.ss.getD j default).g.lo∧(b.ss.getD j default).g.hi≤a.g.hi):Big b ⟨b.vs,b.ss.set j a⟩ where
 rm:=rfl
 st:=Biw default hj h1
 v k hk:=by dsimp only; omega
 s k hk:=by
  dsimp only
  rw [Boa hj]
  split
  ·rename_i e; rw [e]; exact h2
  ·omega
theorem Bmv {S:List Int} {r:Rng}:Jg S [r] 1=if S.any (Jm r)=true then [0] else []:=by
 unfold Jg
 simp only [List.range_succ,List.range_zero,List.nil_append,List.filter_cons,List.filter_nil]
 rfl
theorem Bng {l:List Int} {g sp r q:Rng} (h:r.lo≤r.hi) (h2:q.lo=r.lo) (h3:r.hi≤q.hi) :
  (∃ e:Int,J6 l g sp [r]=.tup [C4,i64 e]∧J6 l g sp [q]=.tup [C4,i64 e])∨(∃ a c:List Nat,a.length≤c.length∧J6 l g sp [r]=.tup [.p (.sl (a.map Asc)),i64 0]∧J6 l g sp [q]=.tup [.p (.sl (c.map Asc)),i64 0]):=by
 have hb:Sk l g sp [q]=Sk l g sp [r]:=by
  unfold Sk
  simp only [List.all_cons,List.all_nil,decide_eq_true h,decide_eq_true (show q.lo≤q.hi by omega)]
 unfold J6
 split
 ·exact .inl ⟨_,rfl,rfl⟩
 ·rw [hb]
  split
  ·refine .inr ⟨_,_,?_,rfl,rfl⟩
   show (Jg _ [r] 1).length≤(Jg _ [q] 1).length
   rw [Bmv,Bmv]
   split
   ·rename_i ha
    have:(N1 l g sp).any (Jm q)=true:=by
     rw [List.any_eq_true] at ha ⊢
     obtain ⟨n,h4,h5⟩:=ha
     refine ⟨n,h4,?_⟩
     simp only [Jm,inB,Bool.and_eq_true,decide_eq_true_eq] at h5 ⊢
     omega
    rw [if_pos this]; exact Nat.le_refl _
   ·exact Nat.zero_le _
  ·exact .inl ⟨_,rfl,rfl⟩
end AM.Wort
end
/- The abstract machine: a nil slice returned where an empty one may be. -/
section
namespace AM
open Go Go.Proofs
theorem Bv.res_nil {P:Program} {f:FuncId} {args:List AV} {y:AV} (h:Bv P f args (.tup [.p (.val (.slice none 0 0)),y])):Bv P f args (.tup [.p (.sl []),y]):=by
 refine ⟨h.1,fun θ M w vs hM hsz hrel=>?_⟩
 refine (h.2 θ M w vs hM hsz hrel).mono ?_
 rintro e w' ⟨v,h1,h2,h3⟩
 refine ⟨v,h1,?_,h3⟩
 cases h2 with
 | tup _ us hs hr=>
  refine .tup _ us hs fun i x hx=>?_
  match i,hx with
  | 0,hx=>
   cases hx
   rw [Ql (hr 0 _ rfl)]
   exact .p _ _ .nil
  | i+1,hx=>exact hr (i+1) x hx
end AM
end
/- The reference: what is valid, how many lists there are, which are listed. -/
section
namespace AM.Try
open Go AM AM.Wort Go.Proofs
open Nat renaming reduceLT→sA,reduceAdd→sB,reduceMul→sC,reduceSub→sD,reduceLeDiff→sE,reduceEqDiff→sF,reduceBEq→sG
open Int renaming reduceAdd→sH,reduceSub→sI,reduceMul→sJ,reduceLT→sK,reduceLE→sL,reduceNeg→sM,reduceToNat→sN,reduceEq→sO
set_option maxRecDepth 100000
set_option maxHeartbeats 8000000
theorem Bok (n lo hi:Int):Bv Try.prog 82 [i64 n,i64 lo,i64 hi] (bl (inB n lo hi)):=by
  refine Bo (v:=[]) (q:=[]) (N:=15) (rs:=[.tmp 6]) Try.func82 rfl rfl rfl rfl rfl ?_
  refine Ad fun K1 hK1=>?_
  simp (disch:=omega) only [amL,sA,sB]
  refine hK1 _ ?_
  refine Ad fun K2 hK2=>?_
  simp (disch:=omega) only [amL,amT,sA,sF,↓reduceIte,reduceCtorEq]
  repeat' first | (refine Eo (fun h=>?_) (fun h=>?_) <;> simp (disch:=omega) only [h,amL,amT,sA,sF,↓reduceIte,reduceCtorEq]) | (refine Cy (fun h=>?_) (fun h=>?_) <;> simp (disch:=omega) only [h,amL,amT,sA,sB,sC,sD,sE,sF,sG,sH,sI,sJ,sK,sL,sM,sN,sO,↓reduceIte,reduceCtorEq])
  all_goals
   skip
   refine hK2 _ ?_
   refine Aj ?_
   try simp (disch:=omega) only [amL,↓reduceIte]
   simp [inB,h]
theorem Bpd {r:Rng} {most:Int}:H7 r most=(inB r.lo 0 r.hi&&(decide (r.hi≤most)&&decide (r.hi - r.lo≤2))):=by
  unfold H7 inB; rw [Bool.and_assoc]
theorem Bns (r:Rng) (most:Int) (hm:most < 1000000):Bv Try.prog 151 [avR r,i64 most] (bl (H7 r most)):=by
  refine Bo (v:=[]) (q:=[]) (N:=24) (rs:=[.tmp 4]) Try.func151 rfl rfl rfl rfl rfl ?_
  have hin:inB r.lo 0 r.hi=true→0≤r.lo∧r.lo≤r.hi:=fun h=>by simpa [inB] using h
  refine Ad fun K1 hK1=>?_
  simp (disch:=omega) only [amL,sA,sB,↓reduceIte]
  refine hK1 _ ?_
  refine Ad fun K2 hK2=>?_
  simp (disch:=omega) only [amL,amT,sA,sF,↓reduceIte,reduceCtorEq]
  repeat' first | (refine Eo (fun h=>?_) (fun h=>?_) <;> simp (disch:=omega) only [h,amL,amT,sA,sF,↓reduceIte,reduceCtorEq]) | (refine Cy (fun h=>?_) (fun h=>?_) <;> simp (disch:=omega) only [h,amL,amT,sA,sF,↓reduceIte,reduceCtorEq]) | (refine Ax (by kernel_rfl) rfl (Bok _ _ _) (by first | exact .inl rfl | exact .inr (.inl rfl)) ?_ ; simp (disch:=omega) only [amL,sA,↓reduceIte]) | (have hin2:=hin (by assumption); simp (disch:=omega) only [amL])
  all_goals
   skip
   refine hK2 _ ?_
   refine Aj ?_
   try simp (disch:=omega) only [amL,↓reduceIte]
   all_goals (simp_all [Bpd] <;> omega)
theorem Bmh {n:Int} {s:Stp}:F4 n s=(inB s.kind 0 2&&(inB s.frm 0 (n - 1)&&(inB s.to 0 (n - 1)&&(H7 s.g 60&&(decide (s.frm=s.to) == !decide (s.kind=0)))))):=by
  unfold F4; rw [Bool.and_comm (H7 s.g 60)]
theorem Bpg (s:Stp) (n:Nat) (hn:n < 1000000):Bv Try.prog 152 [avS s,i64 (n:Int)] (bl (F4 n s)):=by
  refine Bo (v:=[]) (q:=[]) (N:=44) (rs:=[.tmp 4]) Try.func152 rfl rfl rfl rfl rfl ?_
  refine Ad fun K1 hK1=>?_
  simp (disch:=omega) only [amL,sA,sB,↓reduceIte]
  refine hK1 _ ?_
  refine Ab fun K2 hK2=>?_
  refine Ad fun K3 hK3=>?_
  simp (disch:=omega) only [amL,amT,sA,sF,↓reduceIte,reduceCtorEq]
  repeat' first | (refine Eo (fun h=>?_) (fun h=>?_) <;> simp (disch:=omega) only [h,amL,amT,sA,sB,sC,sD,sE,sF,sG,sH,sI,sJ,sK,sL,sM,sN,sO,↓reduceIte,reduceCtorEq]) | (refine Cy (fun h=>?_) (fun h=>?_) <;> simp (disch:=omega) only [h,amL,amT,sA,sB,sF,↓reduceIte,reduceCtorEq]) | (refine Ax (by kernel_rfl) rfl (Bok _ _ _) (by first | exact .inl rfl | exact .inr (.inl rfl)) ?_ ; simp (disch:=omega) only [amL,sA,sF,↓reduceIte]) | (refine Ax (by kernel_rfl) rfl (Bns ⟨_,_⟩ _ (by omega)) (by first | exact .inl rfl | exact .inr (.inl rfl)) ?_ ; simp (disch:=omega) only [amL,sA,sF,↓reduceIte])
  all_goals
   skip
   refine hK3 _ ?_
   refine Al rfl (fun h=>MT.x ?_) (fun h=>ME.x ?_)
   all_goals
    first
    |refine MT.mk ?_
     first
     |exact Bool.noConfusion h
     |skip
      try simp only [nrm] at h
      refine Ad fun K4 hK4=>?_
      simp (disch:=omega) only [amL,sA]
      refine hK4 _ ?_
      refine Aj ?_
      try simp (disch:=omega) only [amL,↓reduceIte]
      all_goals simp_all [Bmh]
    |refine ME.mk ?_
     first
     |exact Bool.noConfusion h
     |skip
      try simp only [nrm] at h
      refine Am ?_
      refine hK2 _ ?_
   all_goals
    skip
    refine Ab fun K5 hK5=>?_
    refine Ad fun K6 hK6=>?_
    simp (disch:=omega) only [amL,amT,sA,sF,↓reduceIte,reduceCtorEq]
    refine hK6 _ ?_
    refine Al rfl (fun h=>MT.x ?_) (fun h=>ME.x ?_)
    all_goals
     first
     |refine MT.mk ?_
      first
      |exact Bool.noConfusion h
      |skip
       try simp only [nrm] at h
       refine Ad fun K7 hK7=>?_
       simp (disch:=omega) only [amL,amT,sA,sF,↓reduceIte,reduceCtorEq]
       refine hK7 _ ?_
       refine Aj ?_
       try simp (disch:=omega) only [amL,↓reduceIte]
       all_goals simp_all [Bmh]
     |refine ME.mk ?_
      first
      |exact Bool.noConfusion h
      |skip
       try simp only [nrm] at h
       refine Am ?_
       refine hK5 _ ?_
    all_goals
     skip
     refine Ad fun K8 hK8=>?_
     simp (disch:=omega) only [amL,amT,sA,sF,↓reduceIte,reduceCtorEq]
     refine hK8 _ ?_
     refine Aj ?_
     try simp (disch:=omega) only [amL,↓reduceIte]
     all_goals simp_all [Bmh]
theorem Bij (r:Rng) (h1:-9223372036854775808≤r.hi - r.lo) (h2:r.hi - r.lo < 9223372036854775807):Bv Try.prog 183 [avR r] (i64 (Fb r)):=by
  refine Bo (v:=[]) (q:=[]) (N:=9) (rs:=[.tmp 2]) Try.func183 rfl rfl rfl rfl rfl ?_
  refine Ad fun K1 hK1=>?_
  simp (disch:=omega) only [amL,sA,↓reduceIte]
  refine hK1 _ ?_
  refine Ad fun K2 hK2=>?_
  simp (disch:=omega) only [amL,amT,sA,sF,↓reduceIte,reduceCtorEq]
  refine hK2 _ ?_
  refine Aj ?_
  try simp (disch:=omega) only [amL,↓reduceIte]
  rfl
theorem Bjt {p s:Int} (h1:1≤p) (h2:p≤4782969) (h3:1≤s) (h4:s≤9):-9223372036854775808≤p * s∧p * s < 9223372036854775808:=by
  have e1:=Int.mul_le_mul h2 h4 (by omega) (by omega)
  have e2:=Int.mul_nonneg (show 0≤p by omega) (show 0≤s by omega)
  omega
theorem Boe {p s:Int} (h1:1≤p) (h2:p≤3) (h3:1≤s) (h4:s≤3):1≤p * s∧p * s≤9:=by
  have e1:=Int.mul_le_mul h2 h4 (by omega) (by omega)
  have e2:=Int.mul_le_mul h1 h3 (by omega) (by omega)
  omega
theorem Boz (b:Ed) (hv:Pb b):Bv Try.prog 153 [avB b] (i64 (Bjs b)):=by
  refine Bo (v:=[]) (q:=[]) (N:=47) (rs:=[.tmp 2]) Try.func153 rfl rfl rfl rfl rfl ?_
  have hnv:=hv.nv
  have hns:=hv.ns
  refine Ad fun K1 hK1=>?_
  simp (disch:=omega) only [amL,sA,↓reduceIte]
  refine hK1 _ ?_
  refine Ad fun K2 hK2=>?_
  simp (disch:=omega) only [amL,sA]
  refine hK2 _ ?_
  refine Ab fun K3 hK3=>?_
  refine Ad fun K4 hK4=>?_
  simp (disch:=omega) only [amL,sA]
  refine hK4 _ ?_
  refine Ar ?_
  skip
  refine Bg (α:=Nat) (fun k=>⟨T [(1,.ptr 1 0),(3,i64 (L8 (Bhz (b.vs.take k)) 1)),(4,i64 (k:Int))],O [(1,.cells (cB b))]⟩) (fun k=>b.vs.length - k) (fun k=>k≤b.vs.length) 0 ?_ ?_ (fun k hx5 K5 hK5=>?_)
  · exact Nat.zero_le _
  · refine Df ?_ ?_ ?_ ?_ <;> (try simp (disch:=omega) only [amL,sF,↓reduceIte]); all_goals rfl
  have hk:=hx5
  refine Ab fun K6 hK6=>?_
  refine Ad fun K7 hK7=>?_
  simp (disch:=omega) only [amL,amT,sA,sF,↓reduceIte,reduceCtorEq]
  refine hK7 _ ?_
  refine Al rfl (fun h=>MT.x ?_) (fun h=>ME.x ?_)
  all_goals
   first
   |refine MT.mk ?_
    first
    |exact Bool.noConfusion h
    |skip
     try simp only [nrm] at h
     refine Am ?_
     refine hK6 _ ?_
   |refine ME.mk ?_
    first
    |exact Bool.noConfusion h
    |skip
     try simp only [nrm] at h
     refine Bq ?_
     refine hK3 _ ?_
     refine Ab fun K8 hK8=>?_
     refine Ad fun K9 hK9=>?_
     simp (disch:=omega) only [amL,sA]
     refine hK9 _ ?_
     refine Ar ?_
     skip
     refine Bg (α:=Nat) (fun k=>⟨T [(1,.ptr 1 0),(3,i64 (L8 (Bhz b.vs++(b.ss.take k).map (·.g)) 1)),(5,i64 (k:Int))],O [(1,.cells (cB b))]⟩) (fun k=>b.ss.length - k) (fun k=>k≤b.ss.length) 0 ?_ ?_ (fun k hx10 K10 hK10=>?_)
     · exact Nat.zero_le _
     · refine Df ?_ ?_ ?_ ?_ <;> (try simp (disch:=omega) only [amL,sF,↓reduceIte]); all_goals first | rfl | (rw [List.take_of_length_le (by omega)]; done) | (rw [List.take_of_length_le (by omega),List.take_zero,List.map_nil,List.append_nil]; done) | trace_state
     have hk:=hx10
     refine Ab fun K11 hK11=>?_
     refine Ad fun K12 hK12=>?_
     simp (disch:=omega) only [amL,amT,sA,sF,↓reduceIte,reduceCtorEq]
     refine hK12 _ ?_
     refine Al rfl (fun h=>MT.x ?_) (fun h=>ME.x ?_)
     all_goals
      first
      |refine MT.mk ?_
       first
       |exact Bool.noConfusion h
       |skip
        try simp only [nrm] at h
        refine Am ?_
        refine hK11 _ ?_
      |refine ME.mk ?_
       first
       |exact Bool.noConfusion h
       |skip
        try simp only [nrm] at h
        refine Bq ?_
        refine hK8 _ ?_
        refine Ad fun K13 hK13=>?_
        simp (disch:=omega) only [amL,sA,sF,↓reduceIte]
        refine hK13 _ ?_
        refine Aj ?_
        try simp (disch:=omega) only [amL,↓reduceIte]
        rw [List.take_of_length_le (by omega)]; rfl
     all_goals
      skip
      refine Ab fun K14 hK14=>?_
      refine Ar ?_
      refine Ah ?_
      have hk2:k < b.ss.length:=by omega
      have hp1:=(Fq (hv.stp hk2)).2.2.2.2
      have z1:=Po hp1
      have hb0:=Bmf hv k
      have hms:=Bjt hb0.1 hb0.2 z1.1 (by omega)
      have hw:IntKind.i64.wrap (L8 (Bhz b.vs++(b.ss.take k).map (·.g)) 1 * Fb (b.ss.getD k default).g)=_:=Fc hms.1 hms.2
      have y1:=C9 hp1
      simp (disch:=omega) only [X9,amL,amT,sA,sB,sF,↓reduceIte,reduceCtorEq]
      repeat' first | (refine Ax (by kernel_rfl) rfl (by first | exact Bij (b.vs.getD k default).g (by omega) (by omega) | exact Bij (b.vs.getD k default).d (by omega) (by omega) | exact Bij (b.ss.getD k default).g (by omega) (by omega)) (by first | exact .inl rfl | exact .inr (.inl rfl)) ?_ ; simp (disch:=omega) only [hw,amL,amT,sA,sF,↓reduceIte])
      refine hK14 _ ?_
      refine Ah ?_
      simp (disch:=omega) only [amL,amT,sA,sF,↓reduceIte]
      refine hK10 (k+1) _ ?_ ?_ (Df ?_ ?_ ?_ ?_)
      all_goals (try simp (disch:=omega) only [amL,sF,↓reduceIte])
      all_goals first | omega | (rw [Bht,Bht,Bl7 (by omega)]) | trace_state
  all_goals
   skip
   refine Ab fun K15 hK15=>?_
   refine Ar ?_
   refine Ch (by kernel_rfl) (by kernel_rfl) ?_
   have hk2:k < b.vs.length:=by omega
   obtain ⟨hp1,hp2,_⟩:=Da (hv.ves hk2)
   have z1:=Po hp1
   have z2:=Po hp2
   have hm9:=Boe z1.1 z1.2 z2.1 z2.2
   have hb0:=Bm3 hv.v hnv k
   have hms:=Bjt hb0.1 hb0.2 hm9.1 hm9.2
   have hw0:IntKind.i64.wrap (Fb (b.vs.getD k default).g * Fb (b.vs.getD k default).d)=_:=Fc (by omega) (by omega)
   have hw:IntKind.i64.wrap (L8 (Bhz (b.vs.take k)) 1 * (Fb (b.vs.getD k default).g * Fb (b.vs.getD k default).d))=_:=Fc hms.1 hms.2
   have y1:=C9 hp1
   have y2:=C9 hp2
   simp (disch:=omega) only [Di,amL,amT,sA,sB,sE,sF,↓reduceIte,reduceCtorEq]
   repeat' first | (refine Ax (by kernel_rfl) rfl (by first | exact Bij (b.vs.getD k default).g (by omega) (by omega) | exact Bij (b.vs.getD k default).d (by omega) (by omega) | exact Bij (b.ss.getD k default).g (by omega) (by omega)) (by first | exact .inl rfl | exact .inr (.inl rfl)) ?_ ; simp (disch:=omega) only [hw0,hw,Di,amL,amT,sA,sB,sE,sF,↓reduceIte,reduceCtorEq])
   refine hK15 _ ?_
   refine Ah ?_
   simp (disch:=omega) only [amL,amT,sA,sF,↓reduceIte]
   refine hK5 (k+1) _ ?_ ?_ (Df ?_ ?_ ?_ ?_)
   all_goals (try simp (disch:=omega) only [amL,sF,↓reduceIte])
   all_goals first | omega | (rw [Bon (by omega)]) | trace_state
theorem Bog (b:Ed) (h1:b.vs.length < 1000000) (h2:b.ss.length < 1000000):Bv Try.prog 105 [avB b] (i64 (B5 b)):=by
  refine Bo (v:=[]) (q:=[]) (N:=68) (rs:=[.tmp 2]) Try.func105 rfl rfl rfl rfl rfl ?_
  refine Ad fun K1 hK1=>?_
  simp (disch:=omega) only [amL,sA,↓reduceIte]
  refine hK1 _ ?_
  refine Ab fun K2 hK2=>?_
  refine Ad fun K3 hK3=>?_
  simp (disch:=omega) only [amL,amT,sA,sF,↓reduceIte,reduceCtorEq]
  repeat' first | (refine Eo (fun h=>?_) (fun h=>?_) <;> simp (disch:=omega) only [h,amL,amT,sA,sF,↓reduceIte,reduceCtorEq]) | (refine Cy (fun h=>?_) (fun h=>?_) <;> simp (disch:=omega) only [h,Di,X9,amL,amT,sA,sB,sC,sD,sE,sF,sG,sH,sI,sJ,sK,sL,sM,sN,sO,↓reduceIte,reduceCtorEq])
  all_goals
   skip
   refine hK3 _ ?_
   refine Al rfl (fun h=>MT.x ?_) (fun h=>ME.x ?_)
   all_goals
    first
    |refine MT.mk ?_
     first
     |exact Bool.noConfusion h
     |skip
      try simp only [nrm] at h
      refine Ad fun K4 hK4=>?_
      simp (disch:=omega) only [amL,sA]
      refine hK4 _ ?_
      refine Aj ?_
      try simp (disch:=omega) only [amL,↓reduceIte]
      all_goals first | (rw [Bi5 (by omega)]; done) | (rw [Bho (by omega) (.inl (by omega))]; done) | (rw [Bho (by omega) (.inr (.inl (Bhh (d:=default) (k:=k) (by omega) (by simp_all [Eu]))))]; done) | (rw [Bho (by omega) (.inr (.inr (Bhh (d:=default) (k:=k2) (by omega) (by simpa using h))))]; done) | (rw [Bhl (by omega) (by omega) (by omega) hva hsa,if_pos h]; done) | (rw [Bhl (by omega) (by omega) (by omega) hva hsa,if_neg h]; done) | trace_state
    |refine ME.mk ?_
     first
     |exact Bool.noConfusion h
     |skip
      try simp only [nrm] at h
      refine Am ?_
      refine hK2 _ ?_
   all_goals
    skip
    refine Ab fun K5 hK5=>?_
    refine Ad fun K6 hK6=>?_
    simp (disch:=omega) only [amL,amT,sA,sF,↓reduceIte,reduceCtorEq]
    refine hK6 _ ?_
    refine Al rfl (fun h=>MT.x ?_) (fun h=>ME.x ?_)
    all_goals
     first
     |refine MT.mk ?_
      first
      |exact Bool.noConfusion h
      |skip
       try simp only [nrm] at h
       refine Ad fun K7 hK7=>?_
       simp (disch:=omega) only [amL,sA]
       refine hK7 _ ?_
       refine Aj ?_
       try simp (disch:=omega) only [amL,↓reduceIte]
       all_goals first | (rw [Bi5 (by omega)]; done) | (rw [Bho (by omega) (.inl (by omega))]; done) | (rw [Bho (by omega) (.inr (.inl (Bhh (d:=default) (k:=k) (by omega) (by simp_all [Eu]))))]; done) | (rw [Bho (by omega) (.inr (.inr (Bhh (d:=default) (k:=k2) (by omega) (by simpa using h))))]; done) | (rw [Bhl (by omega) (by omega) (by omega) hva hsa,if_pos h]; done) | (rw [Bhl (by omega) (by omega) (by omega) hva hsa,if_neg h]; done) | trace_state
     |refine ME.mk ?_
      first
      |exact Bool.noConfusion h
      |skip
       try simp only [nrm] at h
       refine Am ?_
       refine hK5 _ ?_
    all_goals
     skip
     refine Ab fun K8 hK8=>?_
     refine Ad fun K9 hK9=>?_
     simp (disch:=omega) only [amL,sA]
     refine hK9 _ ?_
     refine Ar ?_
     skip
     refine Bg (α:=Nat) (fun k=>⟨T [(1,.ptr 1 0),(3,i64 (k:Int))],O [(1,.cells (cB b))]⟩) (fun k=>b.vs.length - k) (fun k=>k≤b.vs.length∧(b.vs.take k).all Eu=true) 0 ?_ ?_ (fun k hx10 K10 hK10=>?_)
     · exact ⟨Nat.zero_le _,rfl⟩
     · refine Df ?_ ?_ ?_ ?_ <;> (try simp (disch:=omega) only [amL,sF,↓reduceIte]); all_goals rfl
     obtain ⟨hk,hpre⟩:=hx10
     refine Ab fun K11 hK11=>?_
     refine Ad fun K12 hK12=>?_
     simp (disch:=omega) only [amL,amT,sA,sF,↓reduceIte,reduceCtorEq]
     refine hK12 _ ?_
     refine Al rfl (fun h=>MT.x ?_) (fun h=>ME.x ?_)
     all_goals
      first
      |refine MT.mk ?_
       first
       |exact Bool.noConfusion h
       |skip
        try simp only [nrm] at h
        refine Am ?_
        refine hK11 _ ?_
      |refine ME.mk ?_
       first
       |exact Bool.noConfusion h
       |skip
        try simp only [nrm] at h
        refine Bq ?_
        refine hK8 _ ?_
        refine Ab fun K13 hK13=>?_
        refine Ad fun K14 hK14=>?_
        simp (disch:=omega) only [amL,sA]
        refine hK14 _ ?_
        refine Ar ?_
        have hva:b.vs.all Eu=true:=Bki (by omega) hpre
        refine Bg (α:=Nat) (fun k2=>⟨T [(1,.ptr 1 0),(5,i64 (k2:Int))],O [(1,.cells (cB b))]⟩) (fun k2=>b.ss.length - k2) (fun k2=>k2≤b.ss.length∧(b.ss.take k2).all (F4 b.vs.length)=true) 0 ?_ ?_ (fun k2 hx15 K15 hK15=>?_)
        · exact ⟨Nat.zero_le _,rfl⟩
        · refine Df ?_ ?_ ?_ ?_ <;> (try simp (disch:=omega) only [amL,sF,↓reduceIte]); all_goals rfl
        obtain ⟨hk2,hpre2⟩:=hx15
        refine Ab fun K16 hK16=>?_
        refine Ad fun K17 hK17=>?_
        simp (disch:=omega) only [amL,amT,sA,sF,↓reduceIte,reduceCtorEq]
        refine hK17 _ ?_
        refine Al rfl (fun h=>MT.x ?_) (fun h=>ME.x ?_)
        all_goals
         first
         |refine MT.mk ?_
          first
          |exact Bool.noConfusion h
          |skip
           try simp only [nrm] at h
           refine Am ?_
           refine hK16 _ ?_
         |refine ME.mk ?_
          first
          |exact Bool.noConfusion h
          |skip
           try simp only [nrm] at h
           refine Bq ?_
           refine hK13 _ ?_
           refine Ab fun K18 hK18=>?_
           refine Ad fun K19 hK19=>?_
           have hsa:b.ss.all (F4 b.vs.length)=true:=Bki (by omega) hpre2
           simp (disch:=omega) only [amL,amT,sA,sB,sF,↓reduceIte]
           repeat' first | (refine Ax (by kernel_rfl) rfl (Boz b ⟨by omega,by omega,hva,hsa⟩) (by first | exact .inl rfl | exact .inr (.inl rfl)) ?_ ; simp (disch:=omega) only [amL,amT,↓reduceIte])
           refine hK19 _ ?_
           refine Al rfl (fun h=>MT.x ?_) (fun h=>ME.x ?_)
           all_goals
            first
            |refine MT.mk ?_
             first
             |exact Bool.noConfusion h
             |skip
              try simp only [nrm] at h
              refine Ad fun K20 hK20=>?_
              simp (disch:=omega) only [amL,sA]
              refine hK20 _ ?_
              refine Aj ?_
              try simp (disch:=omega) only [amL,↓reduceIte]
              all_goals first | (rw [Bi5 (by omega)]; done) | (rw [Bho (by omega) (.inl (by omega))]; done) | (rw [Bho (by omega) (.inr (.inl (Bhh (d:=default) (k:=k) (by omega) (by simp_all [Eu]))))]; done) | (rw [Bho (by omega) (.inr (.inr (Bhh (d:=default) (k:=k2) (by omega) (by simpa using h))))]; done) | (rw [Bhl (by omega) (by omega) (by omega) hva hsa,if_pos h]; done) | (rw [Bhl (by omega) (by omega) (by omega) hva hsa,if_neg h]; done) | trace_state
            |refine ME.mk ?_
             first
             |exact Bool.noConfusion h
             |skip
              try simp only [nrm] at h
              refine Am ?_
              refine hK18 _ ?_
           all_goals
            skip
            refine Ad fun K21 hK21=>?_
            simp (disch:=omega) only [amL,sA]
            refine hK21 _ ?_
            refine Aj ?_
            try simp (disch:=omega) only [amL,↓reduceIte]
            all_goals first | (rw [Bi5 (by omega)]; done) | (rw [Bho (by omega) (.inl (by omega))]; done) | (rw [Bho (by omega) (.inr (.inl (Bhh (d:=default) (k:=k) (by omega) (by simp_all [Eu]))))]; done) | (rw [Bho (by omega) (.inr (.inr (Bhh (d:=default) (k:=k2) (by omega) (by simpa using h))))]; done) | (rw [Bhl (by omega) (by omega) (by omega) hva hsa,if_pos h]; done) | (rw [Bhl (by omega) (by omega) (by omega) hva hsa,if_neg h]; done) | trace_state
        all_goals
         skip
         refine Ab fun K22 hK22=>?_
         refine Ar ?_
         refine Ab fun K23 hK23=>?_
         refine Ch (by kernel_rfl) (by kernel_rfl) ?_
         simp (disch:=omega) only [X9,amL,amT,sA,sB,sF,↓reduceIte,reduceCtorEq]
         repeat' first | (refine Ax (by kernel_rfl) rfl (Bpg (b.ss.getD k2 default) b.vs.length h1) (by first | exact .inl rfl | exact .inr (.inl rfl)) ?_ ; simp (disch:=omega) only [amL,sA,↓reduceIte])
         refine hK23 _ ?_
         refine Al rfl (fun h=>MT.x ?_) (fun h=>ME.x ?_)
         all_goals
          first
          |refine MT.mk ?_
           first
           |exact Bool.noConfusion h
           |skip
            try simp only [nrm] at h
            refine Ad fun K24 hK24=>?_
            simp (disch:=omega) only [amL,sA]
            refine hK24 _ ?_
            refine Aj ?_
            try simp (disch:=omega) only [amL,↓reduceIte]
            all_goals first | (rw [Bi5 (by omega)]; done) | (rw [Bho (by omega) (.inl (by omega))]; done) | (rw [Bho (by omega) (.inr (.inl (Bhh (d:=default) (k:=k) (by omega) (by simp_all [Eu]))))]; done) | (rw [Bho (by omega) (.inr (.inr (Bhh (d:=default) (k:=k2) (by omega) (by simpa using h))))]; done) | (rw [Bhl (by omega) (by omega) (by omega) hva hsa,if_pos h]; done) | (rw [Bhl (by omega) (by omega) (by omega) hva hsa,if_neg h]; done) | trace_state
          |refine ME.mk ?_
           first
           |exact Bool.noConfusion h
           |skip
            try simp only [nrm] at h
            refine Am ?_
            refine hK22 _ ?_
         all_goals
          skip
          refine Ah ?_
          simp (disch:=omega) only [amL,amT,sA,sF,↓reduceIte]
          refine hK15 (k2+1) _ ?_ ?_ (Df ?_ ?_ ?_ ?_)
          all_goals (try simp (disch:=omega) only [amL,sF,↓reduceIte])
          all_goals first | omega | exact ⟨by omega,Bk1 (d:=default) (by omega) hpre2 (by simpa using h)⟩ | trace_state
     all_goals
      skip
      refine Ab fun K25 hK25=>?_
      refine Ar ?_
      refine Ad fun K26 hK26=>?_
      simp (disch:=omega) only [Di,amL,amT,sA,sB,sF,↓reduceIte,reduceCtorEq]
      refine hK26 _ ?_
      refine Ad fun K27 hK27=>?_
      simp (disch:=omega) only [amL,amT,sA,sB,sE,↓reduceIte,reduceCtorEq]
      repeat' first | (refine Eo (fun h=>?_) (fun h=>?_) <;> simp (disch:=omega) only [h,Di,X9,amL,amT,sA,sB,sC,sD,sE,sF,sG,sH,sI,sJ,sK,sL,sM,sN,sO,↓reduceIte,reduceCtorEq]) | (refine Cy (fun h=>?_) (fun h=>?_) <;> simp (disch:=omega) only [h,amL,amT,sA,sB,sE,sF,↓reduceIte,reduceCtorEq]) | (refine Ax (by kernel_rfl) rfl (Bns ⟨_,_⟩ _ (by omega)) (by first | exact .inl rfl | exact .inr (.inl rfl)) ?_ ; simp (disch:=omega) only [amL,sA,sF,↓reduceIte]) | (refine Ax (by kernel_rfl) rfl (Bok _ _ _) (by first | exact .inl rfl | exact .inr (.inl rfl)) ?_ ; simp (disch:=omega) only [amL,sA,sF,↓reduceIte])
      all_goals
       skip
       refine hK27 _ ?_
       refine Al rfl (fun h=>MT.x ?_) (fun h=>ME.x ?_)
       all_goals
        first
        |refine MT.mk ?_
         first
         |exact Bool.noConfusion h
         |skip
          try simp only [nrm] at h
          refine Ad fun K28 hK28=>?_
          simp (disch:=omega) only [amL,sA]
          refine hK28 _ ?_
          refine Aj ?_
          try simp (disch:=omega) only [amL,↓reduceIte]
          all_goals first | (rw [Bi5 (by omega)]; done) | (rw [Bho (by omega) (.inl (by omega))]; done) | (rw [Bho (by omega) (.inr (.inl (Bhh (d:=default) (k:=k) (by omega) (by simp_all [Eu]))))]; done) | (rw [Bho (by omega) (.inr (.inr (Bhh (d:=default) (k:=k2) (by omega) (by simpa using h))))]; done) | (rw [Bhl (by omega) (by omega) (by omega) hva hsa,if_pos h]; done) | (rw [Bhl (by omega) (by omega) (by omega) hva hsa,if_neg h]; done) | trace_state
        |refine ME.mk ?_
         first
         |exact Bool.noConfusion h
         |skip
          try simp only [nrm] at h
          refine Am ?_
          refine hK25 _ ?_
       all_goals
        skip
        refine Ah ?_
        simp (disch:=omega) only [amL,amT,sA,sF,↓reduceIte]
        refine hK10 (k+1) _ ?_ ?_ (Df ?_ ?_ ?_ ?_)
        all_goals (try simp (disch:=omega) only [amL,sF,↓reduceIte])
        all_goals first | omega | exact ⟨by omega,Bk1 (d:=default) (by omega) hpre (by simp_all [Eu])⟩ | trace_state
theorem Bkn (r:Rng):Bv Try.prog 25 [avR r] (avR r):=by
  refine Bo (v:=[]) (q:=[]) (N:=8) (rs:=[.cell 2 53]) Try.func25 rfl rfl rfl rfl rfl ?_
  refine Ad fun K1 hK1=>?_
  simp (disch:=omega) only [amL,amT,sA,sB,sF,↓reduceIte]
  refine hK1 _ ?_
  refine Ad fun K2 hK2=>?_
  simp (disch:=omega) only [amL,amT,sA,sB,sE,sF,↓reduceIte,reduceCtorEq]
  refine hK2 _ ?_
  refine Aj ?_
  try simp (disch:=omega) only [amL,amT,sB,sF,↓reduceIte]
  all_goals rfl
theorem Bnt (l:List Int):((l.map fun n=>[iv n]).all fun c=>decide (c.length=1))=true:=by simp
theorem Bmk (l:List Int) (hl:l.length < 1000000):Bv Try.prog 27 [isl l] (isl l):=by
  refine Bo (v:=[]) (q:=[]) (N:=6) (rs:=[.tmp 2]) Try.func27 rfl rfl rfl rfl rfl ?_
  refine Ad fun K1 hK1=>?_
  simp (disch:=omega) only [amL,sA]
  refine hK1 _ ?_
  refine Ad fun K2 hK2=>?_
  simp (disch:=omega) only [Bnt,amL,amT,sA,sF,↓reduceIte,reduceCtorEq]
  refine hK2 _ ?_
  refine Aj ?_
  try simp (disch:=omega) only [amL,↓reduceIte]
  rw [show l.length=(l.map fun n=>[iv n]).length by simp,List.take_length]
theorem Bnr (l:List Stp) (hl:l.length < 1000000):Bv Try.prog 106 [.p (slS l)] (.p (slS l)):=by
  refine Bo (v:=[]) (q:=[]) (N:=37) (rs:=[.tmp 2]) Try.func106 rfl rfl rfl rfl rfl ?_
  refine Ad fun K1 hK1=>?_
  simp (disch:=omega) only [amL,sA]
  refine hK1 _ ?_
  refine Ad fun K2 hK2=>?_
  simp (disch:=omega) only [amL,sA]
  refine hK2 _ ?_
  refine Ab fun K3 hK3=>?_
  refine Ad fun K4 hK4=>?_
  simp (disch:=omega) only [amL,sA]
  refine hK4 _ ?_
  refine Ar ?_
  refine Pw 35 5 3 (by decide) rfl rfl ?_
  refine Bg (α:=Nat) (fun k=>⟨T [(0,.p (slS l)),(3,.own 35 k),(4,i64 (k:Int))],O [(35,.arr 5 ((l.take k).map P7))]⟩) (fun k=>l.length - k) (fun k=>k≤l.length) 0 ?_ ?_ (fun k hx5 K5 hK5=>?_)
  · exact Nat.zero_le _
  · refine Df ?_ ?_ ?_ ?_ <;> (try simp (disch:=omega) only [amL,sF,↓reduceIte,reduceCtorEq]); all_goals first | rfl | trace_state
  have hk:=hx5
  refine Ab fun K6 hK6=>?_
  refine Ad fun K7 hK7=>?_
  simp (disch:=omega) only [amL,amT,sA,sF,↓reduceIte,reduceCtorEq]
  refine hK7 _ ?_
  refine Al rfl (fun h=>MT.x ?_) (fun h=>ME.x ?_)
  all_goals
   first
   |refine MT.mk ?_
    first
    |exact Bool.noConfusion h
    |skip
     try simp only [nrm] at h
     refine Am ?_
     refine hK6 _ ?_
   |refine ME.mk ?_
    first
    |exact Bool.noConfusion h
    |skip
     try simp only [nrm] at h
     refine Bq ?_
     refine hK3 _ ?_
     refine Ad fun K8 hK8=>?_
     simp (disch:=omega) only [amL,sA,sF,↓reduceIte,reduceCtorEq]
     refine hK8 _ ?_
     refine Aj ?_
     try simp (disch:=omega) only [amL,↓reduceIte]
     rw [List.take_of_length_le (by simp; omega),List.take_of_length_le (by omega)]
  all_goals
   skip
   refine Ab fun K9 hK9=>?_
   refine Ar ?_
   refine Ch (by kernel_rfl) (by kernel_rfl) ?_
   simp (disch:=omega) only [X9,amL,amT,sA,sB,sF,↓reduceIte,reduceCtorEq]
   repeat' first | (refine Ax (by kernel_rfl) rfl (Bkn ⟨_,_⟩) (by first | exact .inl rfl | exact .inr (.inl rfl)) ?_ ; simp (disch:=omega) only [amL,amT,sA,sB,sC,sE,sF,↓reduceIte,reduceCtorEq])
   refine hK9 _ ?_
   refine Ah ?_
   simp (disch:=omega) only [amL,amT,sA,sF,↓reduceIte,reduceCtorEq]
   refine hK5 (k+1) _ ?_ ?_ (Df ?_ ?_ ?_ ?_)
   all_goals (try simp (disch:=omega) only [amL,sF,↓reduceIte,reduceCtorEq])
   all_goals first | omega | exact (congrArg (AO.arr 5) (Ac6 default (by omega))).symm | trace_state
theorem Bh4 (b:Ed) (h1:b.vs.length < 1000000) (h2:b.ss.length < 1000000):Bv Try.prog 45 [avB b] (avB b):=by
  refine Bo (v:=[]) (q:=[]) (N:=37) (rs:=[.cell 2 49]) Try.func45 rfl rfl rfl rfl rfl ?_
  refine Ad fun K1 hK1=>?_
  simp (disch:=omega) only [amL,amT,sA,sB,sF,↓reduceIte]
  refine hK1 _ ?_
  refine Ad fun K2 hK2=>?_
  simp (disch:=omega) only [amL,amT,sA,sB,sF,↓reduceIte]
  refine hK2 _ ?_
  refine Ab fun K3 hK3=>?_
  refine Ad fun K4 hK4=>?_
  simp (disch:=omega) only [amL,sA]
  refine hK4 _ ?_
  refine Ar ?_
  refine Blu 30 5 3 0 (by decide) rfl rfl rfl ?_
  refine Bg (α:=Nat) (fun k=>⟨T [(1,.ptr 1 0),(2,.ptr 2 0),(3,.ptr 3 0),(4,i64 (k:Int))],O [(1,.cells (cB b)),(2,.cells [C4,C4]),(3,.cells [.own 30 k,C4]),(30,.arr 5 ((b.vs.take k).map Ae7))]⟩) (fun k=>b.vs.length - k) (fun k=>k≤b.vs.length) 0 ?_ ?_ (fun k hx5 K5 hK5=>?_)
  · exact Nat.zero_le _
  · refine Df ?_ ?_ ?_ ?_ <;> (try simp (disch:=omega) only [amL,sF,sG,↓reduceIte]); all_goals first | rfl | trace_state
  have hk:=hx5
  refine Ab fun K6 hK6=>?_
  refine Ad fun K7 hK7=>?_
  simp (disch:=omega) only [amL,amT,sA,sF,↓reduceIte,reduceCtorEq]
  refine hK7 _ ?_
  refine Al rfl (fun h=>MT.x ?_) (fun h=>ME.x ?_)
  all_goals
   first
   |refine MT.mk ?_
    first
    |exact Bool.noConfusion h
    |skip
     try simp only [nrm] at h
     refine Am ?_
     refine hK6 _ ?_
   |refine ME.mk ?_
    first
    |exact Bool.noConfusion h
    |skip
     try simp only [nrm] at h
     refine Bq ?_
     refine hK3 _ ?_
     refine Ad fun K8 hK8=>?_
     simp (disch:=omega) only [amL,amT,sA,sF,↓reduceIte,reduceCtorEq]
     repeat' first | (refine Ax (by kernel_rfl) rfl (Bnr b.ss h2) (by first | exact .inl rfl | exact .inr (.inl rfl)) ?_ ; simp (disch:=omega) only [amL,amT,sA,sB,sF,↓reduceIte,reduceCtorEq])
     refine hK8 _ ?_
     refine Ad fun K9 hK9=>?_
     simp (disch:=omega) only [amL,amT,sB,sF,↓reduceIte]
     refine hK9 _ ?_
     refine Aj ?_
     try simp (disch:=omega) only [amL,amT,sB,sF,↓reduceIte]
     rw [List.take_of_length_le (by simp; omega),List.take_of_length_le (by omega)]
  all_goals
   skip
   refine Ab fun K10 hK10=>?_
   refine Ar ?_
   refine Ad fun K11 hK11=>?_
   simp (disch:=omega) only [Di,amL,amT,sA,sB,sF,↓reduceIte,reduceCtorEq]
   refine hK11 _ ?_
   refine Ch (by kernel_rfl) (by kernel_rfl) ?_
   simp (disch:=omega) only [amL,amT,sA,sB,sE,sF,↓reduceIte,reduceCtorEq]
   repeat' first | (refine Ax (by kernel_rfl) rfl (Bkn ⟨_,_⟩) (by first | exact .inl rfl | exact .inr (.inl rfl)) ?_ ; simp (disch:=omega) only [amL,amT,sA,sB,sC,sE,sF,↓reduceIte,reduceCtorEq])
   refine hK10 _ ?_
   refine Ah ?_
   simp (disch:=omega) only [amL,amT,sA,sF,↓reduceIte]
   refine hK5 (k+1) _ ?_ ?_ (Df ?_ ?_ ?_ ?_)
   all_goals (try simp (disch:=omega) only [amL,sF,sG,↓reduceIte])
   all_goals first | omega | exact (congrArg (AO.arr 5) (Ac6 default (by omega))).symm | trace_state
theorem Blm (b:Ed) (h1:b.vs.length < 1000000) (h2:b.ss.length < 1000000):Bv Try.prog 44 [avB b] (i64 (B5 b)):=by
  refine Bo (v:=[]) (q:=[]) (N:=5) (rs:=[.tmp 2]) Try.func44 rfl rfl rfl rfl rfl ?_
  refine Ad fun K1 hK1=>?_
  simp (disch:=omega) only [amL,sA,↓reduceIte]
  refine hK1 _ ?_
  refine Ad fun K2 hK2=>?_
  simp (disch:=omega) only [amL,amT,sA,sB,sF,↓reduceIte]
  repeat' first | (refine Ax (by kernel_rfl) rfl (Bog b h1 h2) (by first | exact .inl rfl | exact .inr (.inl rfl)) ?_ ; simp (disch:=omega) only [amL,sA,↓reduceIte])
  refine hK2 _ ?_
  refine Aj ?_
  try simp (disch:=omega) only [amL,↓reduceIte]
  skip
def Bjc (b:Ed) (t:Tru):Bool:=decide ((b.vs.length:Int)≤7)&&(decide ((b.ss.length:Int)≤9)&&(decide ((t.g.length:Int)≤9)&&(decide ((t.d.length:Int)≤9)&&decide ((t.m.length:Int)≤9))))
theorem Bn9 (b:Ed):Bv Try.prog 104 [avB b,.agg [C4,C4,C4]] (bl (Bjc b ⟨[],[],[]⟩)):=by
  refine Bo (v:=[]) (q:=[]) (N:=33) (rs:=[.tmp 4]) Try.func104 rfl rfl rfl rfl rfl ?_
  refine Ad fun K1 hK1=>?_
  simp (disch:=omega) only [amL,sA,sB,sF,↓reduceIte,reduceCtorEq]
  refine hK1 _ ?_
  refine Ad fun K2 hK2=>?_
  simp (disch:=omega) only [amL,amT,sA,sF,↓reduceIte,reduceCtorEq]
  repeat' first | (refine Eo (fun h=>?_) (fun h=>?_) <;> simp (disch:=omega) only [h,amL,amT,sA,sF,sL,↓reduceIte,reduceCtorEq]) | (refine Cy (fun h=>?_) (fun h=>?_) <;> simp (disch:=omega) only [h,amL,amT,sA,sB,sC,sD,sE,sF,sG,sH,sI,sJ,sK,sL,sM,sN,sO,↓reduceIte,reduceCtorEq])
  all_goals
   skip
   refine hK2 _ ?_
   refine Aj ?_
   try simp (disch:=omega) only [amL,↓reduceIte]
   all_goals first | (simp only [Bjc, *,decide_true,decide_false,Bool.true_and,Bool.false_and]; done) | (simp_all [Bjc]; done) | (simp_all [Bjc]; omega)
theorem Bor {b:Ed} {t:Tru} (h:Bjc b t=true):b.vs.length < 1000000∧b.ss.length < 1000000:=by
  simp only [Bjc,Bool.and_eq_true,decide_eq_true_eq] at h
  omega
def Bj2 (b:Ed):Bool:=Bjc b ⟨[],[],[]⟩&&decide (B5 b=0)
theorem Boo (b:Ed):Bv Try.prog 43 [avB b] (bl (Bj2 b)):=by
  refine Bo (v:=[]) (q:=[]) (N:=11) (rs:=[.tmp 2]) Try.func43 rfl rfl rfl rfl rfl ?_
  refine Ad fun K1 hK1=>?_
  simp (disch:=omega) only [amL,sA,↓reduceIte]
  refine hK1 _ ?_
  refine Ad fun K2 hK2=>?_
  simp (disch:=omega) only [amL,amT,sA,sB,sF,↓reduceIte]
  repeat' first | (refine Eo (fun h=>?_) (fun h=>?_) <;> simp (disch:=omega) only [h,amL,amT,sA,sB,sC,sD,sE,sF,sG,sH,sI,sJ,sK,sL,sM,sN,sO,↓reduceIte,reduceCtorEq]) | (refine Cy (fun h=>?_) (fun h=>?_) <;> simp (disch:=omega) only [h,amL,amT,sA,sB,sF,↓reduceIte]) | (refine Ax (by kernel_rfl) rfl (Bn9 b) (by first | exact .inl rfl | exact .inr (.inl rfl)) ?_ ; simp (disch:=omega) only [amL,sA,↓reduceIte]) | (refine Ax (by kernel_rfl) rfl (Blm b (Bor (by assumption)).1 (Bor (by assumption)).2) (by first | exact .inl rfl | exact .inr (.inl rfl)) ?_ ; simp (disch:=omega) only [amL,amT,sA,sF,↓reduceIte])
  all_goals
   skip
   refine hK2 _ ?_
   refine Aj ?_
   try simp (disch:=omega) only [amL,↓reduceIte]
   all_goals first | (simp_all [Bj2]; done) | trace_state
theorem Bmp (l:List Rdg) (hl:l.length < 1000000):Bv Try.prog 46 [.p (.sl (l.map Biq))] (.p (.sl (l.map Biq))):=by
  refine Bo (v:=[]) (q:=[]) (N:=33) (rs:=[.tmp 2]) Try.func46 rfl rfl rfl rfl rfl ?_
  refine Ad fun K1 hK1=>?_
  simp (disch:=omega) only [amL,sA]
  refine hK1 _ ?_
  refine Ad fun K2 hK2=>?_
  simp (disch:=omega) only [amL,sA]
  refine hK2 _ ?_
  refine Ab fun K3 hK3=>?_
  refine Ad fun K4 hK4=>?_
  simp (disch:=omega) only [amL,sA]
  refine hK4 _ ?_
  refine Ar ?_
  refine Pw 31 5 3 (by decide) rfl rfl ?_
  refine Bg (α:=Nat) (fun k=>⟨T [(0,.p (.sl (l.map Biq))),(3,.own 31 k),(4,i64 (k:Int))],O [(31,.arr 5 ((l.take k).map Biq))]⟩) (fun k=>l.length - k) (fun k=>k≤l.length) 0 ?_ ?_ (fun k hx5 K5 hK5=>?_)
  · exact Nat.zero_le _
  · refine Df ?_ ?_ ?_ ?_ <;> (try simp (disch:=omega) only [amL,sF,↓reduceIte,reduceCtorEq]); all_goals first | rfl | trace_state
  have hk:=hx5
  refine Ab fun K6 hK6=>?_
  refine Ad fun K7 hK7=>?_
  simp (disch:=omega) only [amL,amT,sA,sF,↓reduceIte,reduceCtorEq]
  refine hK7 _ ?_
  refine Al rfl (fun h=>MT.x ?_) (fun h=>ME.x ?_)
  all_goals
   first
   |refine MT.mk ?_
    first
    |exact Bool.noConfusion h
    |skip
     try simp only [nrm] at h
     refine Am ?_
     refine hK6 _ ?_
   |refine ME.mk ?_
    first
    |exact Bool.noConfusion h
    |skip
     try simp only [nrm] at h
     refine Bq ?_
     refine hK3 _ ?_
     refine Ad fun K8 hK8=>?_
     simp (disch:=omega) only [amL,sA,sF,↓reduceIte,reduceCtorEq]
     refine hK8 _ ?_
     refine Aj ?_
     try simp (disch:=omega) only [amL,↓reduceIte]
     rw [List.take_of_length_le (by simp; omega),List.take_of_length_le (by omega)]
  all_goals
   skip
   refine Ab fun K9 hK9=>?_
   refine Ar ?_
   refine Ch (by kernel_rfl) (by kernel_rfl) ?_
   simp (disch:=omega) only [Bik,amL,amT,sA,sB,sE,sF,↓reduceIte,reduceCtorEq]
   repeat' first | (refine Ax (by kernel_rfl) rfl (by first | exact Bkn (l.getD k default).g | exact Bkn (l.getD k default).d) (by first | exact .inl rfl | exact .inr (.inl rfl)) ?_ ; simp (disch:=omega) only [Bik,amL,amT,sA,sB,sC,sE,sF,↓reduceIte,reduceCtorEq])
   refine hK9 _ ?_
   refine Ah ?_
   simp (disch:=omega) only [amL,amT,sA,sF,↓reduceIte,reduceCtorEq]
   refine hK5 (k+1) _ ?_ ?_ (Df ?_ ?_ ?_ ?_)
   all_goals (try simp (disch:=omega) only [amL,sF,↓reduceIte,reduceCtorEq])
   all_goals first | omega | exact (congrArg (AO.arr 5) (Ac6 default (by omega))).symm | trace_state
theorem elD:ElT Try.prog 113 112 avD Biq:=Aa8 (P:=Try.prog) (tS:=113) (tE:=112) (enc:=Biq) (n:=5) (by simp only [amT]) (by simp only [amT]; rfl) (by simp only [amT]) (fun _=>rfl)
theorem Bhk {σ α:Type} {step:σ→α→σ × Bool}:∀ (l1 l2:List α) (s:σ),Gb step s (l1++l2)=if (Gb step s l1).2=true then Gb step (Gb step s l1).1 l2 else Gb step s l1
  | [],l2,s=>rfl
  | x :: l1,l2,s=>by
    simp only [List.cons_append,Gb]
    split
    · rw [Bhk l1 l2]
    · rename_i h; simp
theorem Bh8 {σ α:Type} {step:σ→α→σ × Bool} {s:σ} {x:α}:Gb step s [x]=step s x:=by
  simp only [Gb]
  split
  · rename_i h; exact Prod.ext rfl h.symm
  · rename_i h; exact Prod.ext rfl (Bool.eq_false_iff.2 h).symm
theorem Bh.of_nil0 {P:Program} {bd:Nat} {fv:AV} {os:Nat→Option AO} {R:AV→(Nat→Option AO)→Prop} (h:Bh P bd fv [.p (.sl [])] os R):Bh P bd fv [C4] os R:=by
  intro hfree S θ M w vf vs h1 h2 h3 h4 h5 h6
  refine h hfree S θ M w vf vs h1 h2 h3 (fun i x hx=>?_) h5 (fun i x hx=>?_)
  · match i,hx with
    | 0,hx=>
      cases hx
      have:=Ql (h4 0 C4 rfl)
      rw [this]; exact .p _ _ .nil
  · match i,hx with
    | 0,hx=>cases hx; exact AV.lives_p _ _
theorem Bk4 {r:RB} {N:Nat} {s:St} {K:St→Prop} {dst:Option Nat} {ty:TypeId} {pos:String} {after:Array Edge} {g:Option (Nat × Bool)} {x hi mx:Operand} {lo:Option Operand}:EO Try.prog r N ⟨dst,.slice 22 x lo (some hi) (some mx),ty,pos,after,g⟩ s K=EOp r.b N dst s K (Bn1 (fun e=>(Aa Try.prog e).sz) (fun e=>(Aa Try.prog e).agg) 3 ((ev s.t x).pv?.bind PV.list?) (Ba (ev s.t) 0 lo) (Ba (ev s.t) 0 (some hi)) (Ba (ev s.t) 0 (some mx))):=Bnc (by rw [Bet])
theorem Bk9 {r:RB} {N:Nat} {s:St} {K:St→Prop} {dst:Option Nat} {ty:TypeId} {pos:String} {after:Array Edge} {g:Option (Nat × Bool)} {x:Operand} {lo hi:Option Operand}:EO Try.prog r N ⟨dst,.slice 22 x lo hi none,ty,pos,after,g⟩ s K=EOp r.b N dst s K (Bm7 (fun e=>(Aa Try.prog e).sz) (fun e=>(Aa Try.prog e).agg) 3 ((ev s.t x).pv?.bind PV.list?) (Ba (ev s.t) 0 lo) (fun n=>Ba (ev s.t) n hi)):=Bm5 (by rw [Bet])
theorem Bkk (l:List Int):((l.map fun n=>[iv n]).all fun c=>decide (c.length=(Aa Try.prog 3).sz))=true:=by
  simp only [amT]; simp
theorem Bpa {l:List Int} {lo hi m:Int} (h0:0≤lo) (h1:lo≤hi) (h2:hi≤m) (h3:m≤l.length):Bn1 (fun e=>(Aa Try.prog e).sz) (fun e=>(Aa Try.prog e).agg) 3 (some (l.map fun n=>[iv n])) (some lo) (some hi) (some m)=some (.pure (isl ((l.take hi.toNat).drop lo.toNat))):=by
  rw [Bm9 h0 h1 h2 (by simpa using h3) (by simp only [amT]; rfl) (Bkk l),← List.map_take,← List.map_drop]
theorem Bph {l:List Int} {lo:Int} (h0:0≤lo) (h1:lo≤l.length):Bm7 (fun e=>(Aa Try.prog e).sz) (fun e=>(Aa Try.prog e).agg) 3 (some (l.map fun n=>[iv n])) (some lo) (fun n=>some (n:Int))=some (.pure (isl (l.drop lo.toNat))):=by
  rw [Bna (h:=(l.length:Int)) (by simp) h0 h1 (by simp) (by simp only [amT]; rfl) (Bkk l),← List.map_take,← List.map_drop,List.take_of_length_le (by simp)]
theorem Bo1 {bd:Nat} {fv:AV} {p:List Int} {x:Int} {os:Nat→Option AO} {R:AV→(Nat→Option AO)→Prop} (h:Bh Try.prog bd fv [isl (p++[x])] os R):Bh Try.prog bd fv [.p (.sl ((p.map fun n=>[iv n])++[[iv x]]))] os R:=by
  rw [show isl (p++[x])=.p (.sl ((p.map fun n=>[iv n])++[[iv x]])) from by simp [List.map_append]] at h; exact h
theorem Bne {n len:Nat} {es:List (List PV)} (h:len=es.length):[AV.own n len].map (AV.frz n es)=[.p (.sl es)]:=by
  subst h
  show [(AV.own n es.length).frz n es]=_
  simp only [AV.frz,if_true,Nat.le_refl,List.take_length]
abbrev avL (k:Nat) (x:List Int):AV:=.agg [isl (x.take k),isl ((x.take (2 * k)).drop k),isl (x.drop (2 * k))]
abbrev chF (nr ny nk nc:Nat):AV:=.fn (.func 178) [] [.ptr nr 0,.ptr ny 0,.ptr nk 0,.ptr nc 0]
theorem Bpj {n nr ny nk nc:Nat} {es:List (List PV)} (h1:nr≠n) (h2:ny≠n) (h3:nk≠n) (h4:nc≠n):(chF nr ny nk nc).frz n es=chF nr ny nk nc:=by
  simp only [AV.frz,AV.frz.frzL,h1,h2,h3,h4,if_false]
structure Chs (rs:List Rng) (k nr ny nk nc:Nat) (yv:AV) (os:Nat→Option AO):Prop where
  r:os nr=some (.cells [.p (.sl (rs.map Hy))])
  y:os ny=some (.cells [yv])
  k:os nk=some (.cells [i64 (k:Int)])
  c:os nc=some (.cells [chF nr ny nk nc])
theorem Bnm {rs:List Rng} {k:Nat} {yv:AV} {F:Nat→Prop} {σ:Type} {L:List (List Int)} {go:σ→Prop} {I:σ→(Nat→Option AO)→Prop} {step:σ→List Int→σ × Bool} (hY:Ahe Try.prog yv F (avL k) L go I step) (hrs:∀ r ∈ rs,0≤r.lo∧r.lo≤r.hi∧r.hi≤1000) (hn:rs.length≤100) (hk:2 * k≤rs.length) {nr ny nk nc:Nat} (f1:¬ F nr) (f2:¬ F ny) (f3:¬ F nk) (f4:¬ F nc) (m:Nat) :
    ∀ (cur:List Int) (s:σ) (os:Nat→Option AO) (bd:Nat),rs.length - cur.length=m→cur.length≤rs.length→(∀ x ∈ Bha (rs.drop cur.length) cur,x ∈ L)→Chs rs k nr ny nk nc yv os→go s→I s os →
    Bh Try.prog bd (chF nr ny nk nc) [isl cur] os fun res os'=>res=bl (Gb step s (Bha (rs.drop cur.length) cur)).2∧I (Gb step s (Bha (rs.drop cur.length) cur)).1 os'∧∀ n,¬ F n→os' n=os n:=by
  induction m using Nat.strongRecOn with
  | ind m ih=>
  intro cur s os bd hm hcu hL hch hg hI
  refine B3 (v:=[]) (q:=[]) (N:=54) (rs:=[.tmp 6]) Try.func178 rfl (by kernel_rfl) rfl rfl (fun hcl hfree=>?_)
  obtain ⟨o1,o2,o3,o4⟩:=hch
  have hfr0:∀ k,os (bd+k)=none:=fun k=>hfree _ (by omega)
  have b1:=Ap hfree o1
  have b2:=Ap hfree o2
  have b3:=Ap hfree o3
  have b4:=Ap hfree o4
  have hF:∀ n,F n→n < bd:=fun n hn=>by obtain ⟨o,h,_⟩:=hY.foot s os n hI hn; exact Ap hfree h
  have hlv:=hY.live _ _ hI
  have hpg:∀ j,pgO (bd+j) os=os:=fun j=>Ady hcl (hfr0 j)
  have hpf:∀ j,AV.purge (bd+j) (chF nr ny nk nc)=chF nr ny nk nc:=fun j=>by
    unfold AV.purge
    refine if_pos ?_
    simp [AV.clean,AV.clean.cleanL]; omega
  have hw2:IntKind.i64.wrap (2 * (k:Int))=2 * k:=Fc (by omega) (by omega)
  refine Ad fun K1 hK1=>?_
  simp (disch:=omega) only [amL,sA,sB]
  refine hK1 _ ?_
  refine Ab fun K2 hK2=>?_
  refine Ad fun K3 hK3=>?_
  simp (disch:=omega) only [o1,amL,amT,sA,sF,↓reduceIte,reduceCtorEq]
  refine hK3 _ ?_
  refine Al rfl (fun h=>MT.x ?_) (fun h=>ME.x ?_)
  all_goals
   first
   |refine MT.mk ?_
    first
    |exact Bool.noConfusion h
    |skip
     try simp only [nrm] at h
     refine Ab fun K4 hK4=>?_
     refine Ch (by kernel_rfl) (by kernel_rfl) ?_
     have hone:=Bnb (rs:=rs) (cur:=cur) (by omega)
     simp (disch:=omega) only [o2,o3,hw2,Bk4,Bk9,Bl4,Bl,Bk,B4,Bpa,Bph,List.map_cons,List.map_nil,amL,amT,sA,sB,sE,sF,sN,↓reduceIte,reduceCtorEq]
     have hcall:=hY.call s cur os (bd+54) (hL cur (by rw [hone]; exact List.mem_singleton.2 rfl)) hg hI hcl
     refine A2 [] (by decide) hcall (fun q hq=>hfree q (by omega)) (Nat.le_add_right _ _) (fun res os4 hR hcl4 hlvr=>?_)
     obtain ⟨rfl,hI4,hfr4⟩:=hR
     simp (disch:=omega) only [amL,sA,↓reduceIte]
     refine hK4 _ ?_
     refine Aj ?_
     try simp (disch:=omega) only [amL]
     first
       | (refine A6 (res:=bl (step s cur).2) os4 rfl (Sub.refl _) hcl4 (A9 _ rfl) ⟨?_,?_,hfr4⟩
          · rw [hone,Bh8]
          · rw [hone,Bh8]; exact hI4)
       | (have hf:=h
          refine A6 (res:=bl false) (Du bd os4) rfl hsb4 hd4.1 (A9 _ rfl) ⟨?_,?_,hd4.2.2⟩
          · rw [← hall,Bhr (by omega),Bhk,if_neg (by rw [hf]; decide),hf]
          · rw [← hall,Bhr (by omega),Bhk,if_neg (by rw [hf]; decide)]; exact hd4.2.1)
       | (rw [Bip (by omega)] at hall
          refine A6 (res:=bl true) os1 (by simp (disch:=omega) only [o1,o2,o3,o4,hw2,hfr0,Ac,Bz,Bi,Bk4,Bk9,Bl4,Bl,Bk,B4,Bpa,Bph,hpf,hpg,Hm,Ns,Lb,Ep,Gl,List.map_cons,List.map_nil,Lz,if_true,amL,amT,sA,sB,sC,sD,sE,sF,sG,sH,sI,sJ,sK,sL,sM,sN,sO,↓reduceIte,reduceCtorEq]; try rfl) (fun q=>?_) hcl1 (A9 _ rfl) ⟨?_,?_,hfr1⟩
          · by_cases e:q=bd+7
            · subst e; left; exact hfr0 7
            · right; simp only [Ac e]
          · rw [← hall]; rfl
          · rw [← hall]; exact hI1)
   |refine ME.mk ?_
    first
    |exact Bool.noConfusion h
    |skip
     try simp only [nrm] at h
     refine Am ?_
     refine hK2 _ ?_
  all_goals
   skip
   refine Ad fun K5 hK5=>?_
   have hcl3:cur.length < rs.length:=by omega
   obtain ⟨q1,q2,q3⟩:=hrs (rs.getD cur.length default) (AM.Wort.Dv default hcl3)
   have hhere:=Bl9 (d:=default) hcl3
   have hsz:Fb (rs.getD cur.length default)=(rs.getD cur.length default).hi - (rs.getD cur.length default).lo+1:=rfl
   simp (disch:=omega) only [o1,hfr0,Bz,Bi,List.map_cons,List.map_nil,amL,amT,sA,sB,sF,↓reduceIte,reduceCtorEq]
   refine hK5 _ ?_
   refine Ab fun K6 hK6=>?_
   refine Ad fun K7 hK7=>?_
   simp (disch:=omega) only [List.map_cons,List.map_nil,amL,amT,sA,sB,↓reduceIte]
   repeat' first | (refine Ax (by kernel_rfl) rfl (Afo (rs.getD cur.length default) (by omega) (by omega)) (by first | exact .inl rfl | exact .inr (.inl rfl)) ?_ ; simp (disch:=omega) only [amL,sA])
   refine hK7 _ ?_
   refine Ar ?_
   skip
   refine Bg (α:=Nat × σ × (Nat→Option AO)) (fun x=>⟨T [(0,isl cur),(1,.ptr nr 0),(2,.ptr ny 0),(3,.ptr nk 0),(4,.ptr nc 0),(7,.ptr (bd+7) 0),(38,i64 (Fb (rs.getD cur.length default))),(39,i64 (x.1:Int))],upd x.2.2 (bd+7) (some (.cells [i64 (rs.getD cur.length default).lo,i64 (rs.getD cur.length default).hi]))⟩) (fun x=>(Fb (rs.getD cur.length default)).toNat - x.1) (fun x=>x.1≤(Fb (rs.getD cur.length default)).toNat∧go x.2.1∧I x.2.1 x.2.2∧(Hp x.2.2).closed∧(∀ n,¬ F n→x.2.2 n=os n)∧Gb step x.2.1 (Bhx (fun n=>Bha (rs.drop (cur.length+1)) (cur++[n])) ((Fb (rs.getD cur.length default)).toNat - x.1) ((rs.getD cur.length default).lo+(x.1:Nat)))=Gb step s (Bha (rs.drop cur.length) cur)) (0,s,os) ?_ ?_ (fun x hx8 K8 hK8=>?_)
   · exact ⟨Nat.zero_le _,hg,hI,hcl,fun _ _=>rfl,by rw [hhere]⟩
   · refine Hd ?_ ?_ ?_ ?_ <;> (try simp (disch:=omega) only [o1,o2,o3,o4,Ac,amL,sF,↓reduceIte,reduceCtorEq]); all_goals first | exact Sub.refl _ | exact F7 hcl (by simp [AV.isP]) | trace_state
   obtain ⟨n,s1,os1⟩:=x; dsimp only at hx8 ⊢; obtain ⟨hn1,hg1,hI1,hcl1,hfr1,hall⟩:=hx8; have o1:=(hfr1 nr f1).trans o1; have o2:=(hfr1 ny f2).trans o2; have o3:=(hfr1 nk f3).trans o3; have o4:=(hfr1 nc f4).trans o4; have hfreeI:∀ q,bd≤q→os1 q=none:=fun q hq=>(hfr1 q (fun h=>by have:=hF q h; omega)).trans (hfree q hq); have hfr0:∀ k,os1 (bd+k)=none:=fun k=>hfreeI _ (by omega); have hpg:∀ j,pgO (bd+j) os1=os1:=fun j=>Ady hcl1 (hfr0 j)
   refine Ad fun K9 hK9=>?_
   simp (disch:=omega) only [amL,amT,sA,sF,↓reduceIte,reduceCtorEq]
   refine hK9 _ ?_
   refine Ab fun K10 hK10=>?_
   refine Al rfl (fun h=>MT.x ?_) (fun h=>ME.x ?_)
   all_goals
    first
    |refine MT.mk ?_
     first
     |exact Bool.noConfusion h
     |skip
      try simp only [nrm] at h
      refine Am ?_
      refine hK10 _ ?_
    |refine ME.mk ?_
     first
     |exact Bool.noConfusion h
     |skip
      try simp only [nrm] at h
      refine Bq ?_
      refine hK6 _ ?_
      refine Ad fun K11 hK11=>?_
      simp (disch:=omega) only [amL,sA]
      refine hK11 _ ?_
      refine Aj ?_
      try simp (disch:=omega) only [amL]
      first
        | (refine A6 (res:=bl (step s cur).2) os4 rfl (Sub.refl _) hcl4 (A9 _ rfl) ⟨?_,?_,hfr4⟩
           · rw [hone,Bh8]
           · rw [hone,Bh8]; exact hI4)
        | (have hf:=h
           refine A6 (res:=bl false) (Du bd os4) rfl hsb4 hd4.1 (A9 _ rfl) ⟨?_,?_,hd4.2.2⟩
           · rw [← hall,Bhr (by omega),Bhk,if_neg (by rw [hf]; decide),hf]
           · rw [← hall,Bhr (by omega),Bhk,if_neg (by rw [hf]; decide)]; exact hd4.2.1)
        | (rw [Bip (by omega)] at hall
           refine A6 (res:=bl true) os1 (by simp (disch:=omega) only [amL,↓reduceIte]; try rfl) (fun q=>?_) hcl1 (A9 _ rfl) ⟨?_,?_,hfr1⟩
           · by_cases e:q=bd+7
             · subst e; left; exact hfr0 7
             · right; simp only [Ac e]
           · rw [← hall]; rfl
           · rw [← hall]; exact hI1)
   all_goals
    skip
    refine Ab fun K12 hK12=>?_
    refine Ar ?_
    refine Ad fun K13 hK13=>?_
    simp (disch:=omega) only [amL,sA,sF,↓reduceIte,reduceCtorEq]
    refine hK13 _ ?_
    refine Ab fun K14 hK14=>?_
    have hw3:IntKind.i64.wrap ((rs.getD cur.length default).lo+(n:Int))=(rs.getD cur.length default).lo+n:=Fc (by omega) (by omega)
    refine T4 9 [.app [4]] (by kernel_rfl) (by kernel_rfl) ?_
    simp only [List.take_succ_cons,List.take_zero,List.drop_succ_cons,List.drop_zero]
    simp (disch:=omega) only [o4,Ac,List.map_cons,List.map_nil,amL,amT,sA,sF,↓reduceIte,reduceCtorEq]
    refine Ui (by kernel_rfl) (by decide) (Aph (cur.map fun n=>[iv n]) (by simp) (by simp [PV.isVal]) (by rw [List.length_map]; omega)) (by simp (disch:=omega) only [hfr0,Ac]) ?_
    simp (disch:=omega) only [hfr0,Ac,hpf,hpg,Hm,Ns,Lb,Ep,Gl,List.map_cons,List.map_nil,Lz,amL,amT,sA,sE,sF,↓reduceIte,reduceCtorEq]
    refine ⟨rfl,?_⟩
    have hin:∀ x ∈ Bha (rs.drop (cur.length+1)) (cur++[(rs.getD cur.length default).lo+(n:Int)]),x ∈ L:=fun x hx=>hL x (by rw [hhere]; exact Bis _ _ n (by omega) (by simpa using hx))
    have hcall:=ih (rs.length - (cur++[(rs.getD cur.length default).lo+(n:Int)]).length) (by rw [List.length_append,List.length_singleton]; omega) (cur++[(rs.getD cur.length default).lo+(n:Int)]) s1 (upd (upd os1 (bd+7) (some (.cells [i64 (rs.getD cur.length default).lo,i64 (rs.getD cur.length default).hi]))) (bd+49) (some (.arr 1 [[iv ((rs.getD cur.length default).lo+(n:Int))]]))) (bd+54) rfl (by rw [List.length_append,List.length_singleton]; omega) (by rw [List.length_append,List.length_singleton]; exact hin) ⟨by simp (disch:=omega) only [Ac]; exact o1,by simp (disch:=omega) only [Ac]; exact o2,by simp (disch:=omega) only [Ac]; exact o3,by simp (disch:=omega) only [Ac]; exact o4⟩ hg1 (hY.stable _ _ _ hI1 (fun q hq=>by have:=hF q hq; simp (disch:=omega) only [Ac]))
    rw [List.length_append,List.length_singleton] at hcall
    refine Aes (bd:=bd+54) (bd+50) Bc _ [(0,isl cur),(1,.ptr nr 0),(2,.ptr ny 0),(3,.ptr nk 0),(4,.ptr nc 0),(7,.ptr (bd+7) 0),(38,i64 (Fb (rs.getD cur.length default))),(39,i64 (n:Int))] ((Abp (Nc (F7 hcl1 (by simp [AV.isP]))) (by simp (disch:=omega) only [Ac]; exact hfr0 _)).trans rfl) (by decide) (by
      rw [Bpj (by omega) (by omega) (by omega) (by omega),Bne (by simp)]
      exact Bo1 hcall) (fun q hq=>by simp (disch:=omega) only [Ac]; exact hfreeI q (by omega)) (Nat.le_add_right _ _) (fun res os4 hR hcl4 hlv4=>?_)
    obtain ⟨rfl,hI4,hfr4⟩:=hR
    simp (disch:=omega) only [W2,AV.frz,if_neg]
    have hd4:=hY.drop hcl hfree hI hI4 (fun q hq1 hq2=>(hfr4 q hq2).trans (by simp (disch:=omega) only [Ac]; exact hfr1 q hq2))
    have h74:os4 (bd+7)=some (.cells [i64 (rs.getD cur.length default).lo,i64 (rs.getD cur.length default).hi]):=(hfr4 (bd+7) (fun h=>by have:=hF _ h; omega)).trans (by simp (disch:=omega) only [Ac,Bc])
    have hsb4:Sub (Du bd os4) os4:=L6 bd os4
    have hsub4:Sub (upd (Du bd os4) (bd+7) (some (.cells [i64 (rs.getD cur.length default).lo,i64 (rs.getD cur.length default).hi]))) os4:=fun q=>by
      by_cases e:q=bd+7
      · subst e; right; rw [Bc,h74]
      · rw [Ac e]; exact hsb4 q
    simp (disch:=omega) only [amL,sA,sF,↓reduceIte,reduceCtorEq]
    refine ⟨⟨by rw [hfr4 nr f1]; simp (disch:=omega) only [Ac]; rw [o1]; rfl,by rw [hfr4 ny f2]; simp (disch:=omega) only [Ac]; rw [o2]; rfl,by rw [hfr4 nk f3]; simp (disch:=omega) only [Ac]; rw [o3]; rfl,by rw [hfr4 nc f4]; simp (disch:=omega) only [Ac]; rw [o4]; rfl,by rw [h74]; rfl⟩,?_⟩
    refine hK14 _ ?_
    refine Al rfl (fun h=>MT.x ?_) (fun h=>ME.x ?_)
    all_goals
     first
     |refine MT.mk ?_
      first
      |exact Bool.noConfusion h
      |skip
       try simp only [nrm] at h
       refine Ad fun K15 hK15=>?_
       simp (disch:=omega) only [amL,sA]
       refine hK15 _ ?_
       refine Aj ?_
       try simp (disch:=omega) only [amL]
       first
         | (refine A6 (res:=bl (step s cur).2) os4 rfl (Sub.refl _) hcl4 (A9 _ rfl) ⟨?_,?_,hfr4⟩
            · rw [hone,Bh8]
            · rw [hone,Bh8]; exact hI4)
         | (have hf:=h
            refine A6 (res:=bl false) (Du bd os4) rfl hsb4 hd4.1 (A9 _ rfl) ⟨?_,?_,hd4.2.2⟩
            · rw [← hall,Bhr (by omega),Bhk,if_neg (by rw [hf]; decide),hf]
            · rw [← hall,Bhr (by omega),Bhk,if_neg (by rw [hf]; decide)]; exact hd4.2.1)
         | (rw [Bip (by omega)] at hall
            refine A6 (res:=bl true) os1 (by simp (disch:=omega) only [o1,o2,o3,o4,hw2,hfr0,Ac,Bz,Bi,Bk4,Bk9,Bl4,Bl,Bk,B4,Bpa,Bph,hpf,hpg,Hm,Ns,Lb,Ep,Gl,List.map_cons,List.map_nil,Lz,if_true,amL,amT,sA,sB,sC,sD,sE,sF,sG,sH,sI,sJ,sK,sL,sM,sN,sO,↓reduceIte,reduceCtorEq]; try rfl) (fun q=>?_) hcl1 (A9 _ rfl) ⟨?_,?_,hfr1⟩
            · by_cases e:q=bd+7
              · subst e; left; exact hfr0 7
              · right; simp only [Ac e]
            · rw [← hall]; rfl
            · rw [← hall]; exact hI1)
     |refine ME.mk ?_
      first
      |exact Bool.noConfusion h
      |skip
       try simp only [nrm] at h
       refine Am ?_
       refine hK12 _ ?_
    all_goals
     skip
     refine Ah ?_
     simp (disch:=omega) only [amL,amT,sA,sF,↓reduceIte,reduceCtorEq]
     refine hK8 (n+1,(Gb step s1 (Bha (rs.drop (cur.length+1)) (cur++[(rs.getD cur.length default).lo+(n:Nat)]))).1,Du bd os4) _ ?_ ?_ (Hd ?_ ?_ ?_ ?_)
     all_goals (try simp (disch:=omega) only [Ac,amL,sF,↓reduceIte,reduceCtorEq])
     all_goals first | omega | exact hsub4 | exact F7 hd4.1 (by simp [AV.isP]) | exact ⟨by omega,Blk (fun s x hx=>hY.next s x (hin x hx)) hg1 h,hd4.2.1,hd4.1,hd4.2.2,by rw [← hall,Bhr (by omega),Bhk,if_pos h]; rfl⟩ | exact ⟨by rw [hd4.2.2 nr f1,← hfr1 nr f1,o1]; rfl,by rw [hd4.2.2 ny f2,← hfr1 ny f2,o2]; rfl,by rw [hd4.2.2 nk f3,← hfr1 nk f3,o3]; rfl,by rw [hd4.2.2 nc f4,← hfr1 nc f4,o4]; rfl⟩ | trace_state
theorem Bod {b:Ed} {nw m:Nat} {os:Nat→Option AO} {bd:Nat} (hl:b.vs.length < 1000000) (hl2:b.ss.length < 1000000) (hw:os nw=some (.cells [.p (slV b.vs),.p (slS b.ss),.mp m])) :
  Bh Try.prog bd (.fn (.func 143) [] []) [.ptr nw 0] os fun res os'=>res=.fn (.func 177) [] [.ptr (bd+3) 0,.ptr (bd+4) 0]∧os'=upd (upd os (bd+3) (some (.cells [.p (.sl ((Fy b).map Hy))]))) (bd+4) (some (.cells [i64 b.vs.length])):=by
 refine B3 (v:=[]) (q:=[]) (N:=17) (rs:=[.tmp 2]) Try.func143 rfl (by kernel_rfl) rfl rfl (fun hcl hfree=>?_)
 have hfr0:∀ k,os (bd+k)=none:=fun k=>hfree _ (by omega)
 have hb:=Ap hfree hw
 refine Ad fun K1 hK1=>?_
 simp (disch:=omega) only [amL,sA]
 refine hK1 _ ?_
 refine Ad fun K2 hK2=>?_
 simp (disch:=omega) only [hw,amL,amT,sA,sB,sE,↓reduceIte,reduceCtorEq]
 repeat' first | (refine Ax (by kernel_rfl) rfl (Ace b hl hl2) (by first | exact .inl rfl | exact .inr (.inl rfl)) ?_ ; simp (disch:=omega) only [hfr0,amL,amT,sA,sF,↓reduceIte])
 refine hK2 _ ?_
 refine Ad fun K3 hK3=>?_
 simp (disch:=omega) only [hw,hfr0,Ac,amL,amT,sA,sF,↓reduceIte,reduceCtorEq]
 refine hK3 _ ?_
 refine Ad fun K4 hK4=>?_
 simp (disch:=omega) only [amL,sA,sF,↓reduceIte]
 refine hK4 _ ?_
 refine Aj ?_
 try simp (disch:=omega) only [amL]
 refine A6 (res:=.fn (.func 177) [] [.ptr (bd+3) 0,.ptr (bd+4) 0]) (upd (upd os (bd+3) (some (.cells [.p (.sl ((Fy b).map Hy))]))) (bd+4) (some (.cells [i64 b.vs.length]))) (by simp (disch:=omega) only [amL,↓reduceIte]; try rfl) (by simp only [Bz]; exact Sub.refl _) (F7 (F7 hcl (by simp [AV.isP])) (by simp [AV.isP])) ?_ ⟨rfl,rfl⟩
 ·rw [Fu]; simp (disch:=omega) only [Cs,Cm,C6,Ac,Bc,Option.isSome_some,and_self]
theorem Bm6 {rs:List Rng} {k:Nat} {yv:AV} {F:Nat→Prop} {σ:Type} {go:σ→Prop} {I:σ→(Nat→Option AO)→Prop} {step:σ→List Int→σ × Bool} (hY:Ahe Try.prog yv F (avL k) (Bha rs []) go I step) (hcs:yv.cs?=some [yv]) (hrs:∀ r ∈ rs,0≤r.lo∧r.lo≤r.hi∧r.hi≤1000) (hn:rs.length≤100) (hk:2 * k≤rs.length) {nr nk:Nat} (f1:¬ F nr) (f3:¬ F nk) {s:σ} {os:Nat→Option AO} {bd:Nat} (o1:os nr=some (.cells [.p (.sl (rs.map Hy))])) (o3:os nk=some (.cells [i64 (k:Int)])) (hg:go s) (hI:I s os) :
  Bh Try.prog bd (.fn (.func 177) [] [.ptr nr 0,.ptr nk 0]) [yv] os fun res os'=>res=.tup []∧I (Gb step s (Bha rs [])).1 os'∧∀ n,¬ F n→os' n=os n:=by
 refine B3 (v:=[]) (q:=[]) (N:=8) (rs:=[]) Try.func177 rfl (by kernel_rfl) rfl rfl (fun hcl hfree=>?_)
 have hfr0:∀ k,os (bd+k)=none:=fun k=>hfree _ (by omega)
 have b1:=Ap hfree o1
 have b3:=Ap hfree o3
 have hF:∀ n,F n→n < bd:=fun n hn=>by obtain ⟨o,h,_⟩:=hY.foot s os n hI hn; exact Ap hfree h
 have hlv:=hY.live _ _ hI
 refine Ad fun K1 hK1=>?_
 simp (disch:=omega) only [hfr0,hcs,amL,sA,sB,↓reduceIte]
 refine hK1 _ ?_
 refine Ad fun K2 hK2=>?_
 simp (disch:=omega) only [hfr0,Ac,amL,amT,sA,↓reduceIte]
 refine hK2 _ ?_
 refine Ad fun K3 hK3=>?_
 simp (disch:=omega) only [Bz,amL,amT,sA,sF,↓reduceIte,reduceCtorEq]
 refine hK3 _ ?_
 refine Ah ?_
 simp (disch:=omega) only [amL,amT,sA,sF,↓reduceIte]
 have hcall:=Bh.of_nil0 (Bnm hY hrs hn hk (nr:=nr) (ny:=bd+3) (nk:=nk) (nc:=bd+4) f1 (fun h=>by have:=hF _ h; omega) f3 (fun h=>by have:=hF _ h; omega) rs.length [] s (upd (upd os (bd+3) (some (.cells [yv]))) (bd+4) (some (.cells [chF nr (bd+3) nk (bd+4)]))) (bd+8) rfl (Nat.zero_le _) (fun x hx=>hx) ⟨by simp (disch:=omega) only [Ac]; exact o1,by simp (disch:=omega) only [Ac,Bc],by simp (disch:=omega) only [Ac]; exact o3,Bc⟩ hg (hY.stable _ _ _ hI (fun q hq=>by have:=hF q hq; simp (disch:=omega) only [Ac])))
 refine A2 [] (by decide) hcall (fun q hq=>by simp (disch:=omega) only [Ac]; exact hfree q (by omega)) (Nat.le_add_right _ _) (fun res os4 hR hcl4 hlv4=>?_)
 obtain ⟨rfl,hI4,hfr4⟩:=hR
 have hd4:=hY.drop hcl hfree hI hI4 (fun q hq1 hq2=>(hfr4 q hq2).trans (by simp (disch:=omega) only [Ac]))
 simp (disch:=omega) only [amL]
 try simp (disch:=omega) only [o1,o3,hfr0,Ac,Bz,hcs,amL,amT,sA,sB,sC,sD,sE,sF,sG,sH,sI,sJ,sK,sL,sM,sN,sO,↓reduceIte,reduceCtorEq]
 refine A6 (res:=.tup []) (Du bd os4) rfl (L6 bd os4) hd4.1 (A9 _ rfl) ⟨rfl,hd4.2.1,hd4.2.2⟩
theorem Bpf:M9 Try.prog 166 8:=R2 (by kernel_rfl)
theorem eqV {v w:List Liq} (hv:OkV v) (hw:OkV w):Gz Try.prog .eql 166 (Cn (cW v)) (Cn (cW w))=some (.pure (bl (decide (v=w)))):=by
 have l1:(wI v).length=8:=by rw [Bbf,hv.len]
 have l2:(wI w).length=8:=by rw [Bbf,hw.len]
 rw [Bkh,Bkh,Nm (by rw [l1]; exact Bpf) (by rw [l1,l2]) (Bo7 hv) (Bo7 hw)]
 by_cases e:v=w
 ·subst e; rw [decide_eq_true rfl,decide_eq_true rfl]
 ·rw [decide_eq_false e,decide_eq_false (fun h=>e (Bn3 h))]
theorem Bnp {nw:Nat} {os:Nat→Option AO} {bd:Nat} (hw:(os nw).isSome=true) :
  Bh Try.prog bd (.fn (.func 94) [] []) [.ptr nw 0] os fun res os'=>res=.fn (.func 142) [] [.ptr (bd+1) 0]∧os'=upd os (bd+1) (some (.cells [.ptr nw 0])):=by
 refine B3 (v:=[]) (q:=[]) (N:=4) (rs:=[.tmp 2]) Try.func94 rfl (by kernel_rfl) rfl rfl (fun hcl hfree=>?_)
 have hfr0:∀ k,os (bd+k)=none:=fun k=>hfree _ (by omega)
 have hb:nw < bd:=by
  cases Nat.lt_or_ge nw bd with
  | inl h=>exact h
  | inr h=>rw [hfree nw h] at hw; cases hw
 refine Ad fun K1 hK1=>?_
 simp (disch:=omega) only [hfr0,amL,sA,↓reduceIte]
 refine hK1 _ ?_
 refine Ad fun K2 hK2=>?_
 simp (disch:=omega) only [amL,sA,sF,↓reduceIte]
 refine hK2 _ ?_
 refine Aj ?_
 try simp (disch:=omega) only [amL]
 refine A6 (res:=.fn (.func 142) [] [.ptr (bd+1) 0]) (upd os (bd+1) (some (.cells [.ptr nw 0]))) (by simp (disch:=omega) only [amL,↓reduceIte]; try rfl) (by simp only []; exact Sub.refl _) (Cr hcl ?_) ?_ ⟨rfl,rfl⟩
 ·rw [Dt]; simp (disch:=omega) only [Cs,Cm,C6,Ac,hw,and_self]
 ·rw [Fu]; simp (disch:=omega) only [Cs,Cm,C6,Bc,Option.isSome_some,and_self]
abbrev tmE (n1 ny nl nf:Nat):List (Nat × AV):=[(1,.ptr n1 0),(2,.ptr ny 0),(3,.ptr nl 0),(4,.ptr nf 0)]
def Bhe (b:Ed) (x:List Int):List Liq:=(Me b (Bh7 b.vs.length x)).1
def Bhv (b:Ed) (x:List Int):Bool:=(Me b (Bh7 b.vs.length x)).2
def Bj5 {σ:Type} (b:Ed) (step:σ→List Liq→σ × Bool) (s:σ × List Liq × Bool) (x:List Int):(σ × List Liq × Bool) × Option Code:=
  if Bhv b x=false∨(s.2.2=false∧Bhe b x=s.2.1) then (s,none)
  else if (step s.1 (Bhe b x)).2=true then (((step s.1 (Bhe b x)).1,Bhe b x,false),none) else (((step s.1 (Bhe b x)).1,s.2.1,s.2.2),some .ret)
theorem Bjo {σ:Type} {b:Ed} {step:σ→List Liq→σ × Bool} {s:σ × List Liq × Bool} {x:List Int} (h:Bhv b x=false∨(s.2.2=false∧Bhe b x=s.2.1)):Bj5 b step s x=(s,none):=if_pos h
theorem Bjm {σ:Type} {b:Ed} {step:σ→List Liq→σ × Bool} {s:σ × List Liq × Bool} {x:List Int} (h:¬ (Bhv b x=false∨(s.2.2=false∧Bhe b x=s.2.1))) (h2:(step s.1 (Bhe b x)).2=true):Bj5 b step s x=(((step s.1 (Bhe b x)).1,Bhe b x,false),none):=(if_neg h).trans (if_pos h2)
theorem Biy {σ:Type} {b:Ed} {step:σ→List Liq→σ × Bool} {s:σ × List Liq × Bool} {x:List Int} (h:¬ (Bhv b x=false∨(s.2.2=false∧Bhe b x=s.2.1))) (h2:(step s.1 (Bhe b x)).2=false):Bj5 b step s x=(((step s.1 (Bhe b x)).1,s.2.1,s.2.2),some .ret):=(if_neg h).trans (if_neg (by rw [h2]; decide))
structure EnI {σ:Type} (b:Ed) (yv:AV) (I:σ→(Nat→Option AO)→Prop) (n1 nw m ny nl nf:Nat) (s:σ × List Liq × Bool) (os:Nat→Option AO):Prop where
  i:I s.1 os
  w1:os n1=some (.cells [.ptr nw 0])
  wk:Wk b.vs b.ss nw m os
  y:os ny=some (.cells [yv])
  l:os nl=some (.cells (cW s.2.1))
  f:os nf=some (.cells [bl s.2.2])
  ok:OkV s.2.1
def FE (F:Nat→Prop) (n1 nw m ny nl nf n:Nat):Prop:=F n∨n=n1∨n=nw∨n=m∨n=ny∨n=nl∨n=nf
theorem Box {b:Ed} {x:List Int} {nw m:Nat} {os:Nat→Option AO} {bd:Nat} (hW:Wk b.vs b.ss nw m os) (hv:Pb b) (hx:x ∈ Bha (Fy b) []) :
    Bh Try.prog bd (.fn (.func 62) [] []) [.ptr nw 0,avL b.vs.length x] os fun res os'=>res=.tup [avW (Bhe b x),bl (Bhv b x)]∧os'=os:=Ek (t:=Bh7 b.vs.length x) hW hv (Bh3 hx)
theorem Bom {b:Ed} {yv:AV} {F:Nat→Prop} {σ:Type} {L:List (List Liq)} {go:σ→Prop} {I:σ→(Nat→Option AO)→Prop} {step:σ→List Liq→σ × Bool} (hY:Ahe Try.prog yv F avW L go I step) (hL:∀ x ∈ Bha (Fy b) [],Bhv b x=true→Bhe b x ∈ L) (hv:Pb b) (own:∀ q,yv.clean q=false→F q) {n1 nw m ny nl nf bdL:Nat} (f1:¬ F n1) (fw:¬ F nw) (fm:¬ F m) (fy:¬ F ny) (fl:¬ F nl) (ff:¬ F nf) (fL:¬ F bdL) (d1:n1 < ny) (dw:nw < ny) (dm:m < ny) (dy:ny < nl) (dl:nl < nf) (df:nf < bdL)
    {A B:Code} (hcode:(Try.f142.body.bind Nl)=some (A,B)) :
    Bla Try.prog bdL ⟨33,[10],A,B,.ready,none⟩ (tmE n1 ny nl nf) [62] [] (FE F n1 nw m ny nl nf) (avL b.vs.length) (Bha (Fy b) []) (fun s=>go s.1) (EnI b yv I n1 nw m ny nl nf) (Bj5 b step) where
  ready:=rfl
  lenp:=rfl
  psn q hq:=by
    simp only [List.mem_cons,List.not_mem_nil,or_false] at hq
    subst hq; exact (by decide:10 < 33)
  notF h:=by
    rcases h with h | h | h | h | h | h | h
    · exact fL h
    all_goals omega
  tmF q hq:=by
    simp [AO.clean,AV.clean,AV.clean.cleanL] at hq
    unfold FE; omega
  stable s o1 o2 hI he:=⟨hY.stable _ _ _ hI.i (fun n hn=>he n (.inl hn)),(he n1 (by unfold FE; omega)).trans hI.w1,⟨(he nw (by unfold FE; omega)).trans hI.wk.ow,(he m (by unfold FE; omega)).trans hI.wk.om⟩,(he ny (by unfold FE; omega)).trans hI.y,(he nl (by unfold FE; omega)).trans hI.l,(he nf (by unfold FE; omega)).trans hI.f,hI.ok⟩
  foot s o1 n hI hn:=by
    rcases hn with h | rfl | rfl | rfl | rfl | rfl | rfl
    · obtain ⟨o,h1,h2⟩:=hY.foot _ _ _ hI.i h
      exact ⟨o,h1,fun q hq=>.inl (h2 q hq)⟩
    · exact ⟨_,hI.w1,fun q hq=>by simp [AO.clean,AV.clean,AV.clean.cleanL] at hq; unfold FE; omega⟩
    · exact ⟨_,hI.wk.ow,fun q hq=>by simp [AO.clean,AV.clean,AV.clean.cleanL] at hq; unfold FE; omega⟩
    · exact ⟨_,hI.wk.om,fun q hq=>by simp [AO.clean] at hq⟩
    · exact ⟨_,hI.y,fun q hq=>.inl (own q (by simpa [AO.clean,AV.clean.cleanL] using hq))⟩
    · exact ⟨_,hI.l,fun q hq=>by rw [show (AO.cells (cW s.2.1)).clean q=true from Anr] at hq; cases hq⟩
    · exact ⟨_,hI.f,fun q hq=>by simp [AO.clean,AV.clean,AV.clean.cleanL] at hq⟩
  next s x hx hg hb:=by
    unfold Bj5 at hb ⊢
    split at hb
    · rename_i h; rw [if_pos h]; exact hg
    · rename_i h
      rw [if_neg h]
      split at hb
      · rename_i h2
        rw [if_pos h2]
        refine hY.next _ _ (hL x hx ?_) hg h2
        cases he:Bhv b x with
        | true=>rfl
        | false=>exact absurd (.inl he) h
      · cases hb
  body s x o1 bd1 hx hg hI hl hcl1 hfree1 hb1 rl:=by
    obtain ⟨s,last,first⟩:=s
    obtain ⟨hi,a1,⟨aw,am⟩,ay,al,af,hok⟩:=hI
    dsimp only at hi al af hok hg
    have hfr0:∀ k,o1 (bd1+k)=none:=fun k=>hfree1 _ (by omega)
    have hpp:=Amw hv (Bh3 hx)
    have hp4:(Bhe b x).length=4:=hpp.1
    have hpo:Bhv b x=true→OkV (Bhe b x):=hpp.2
    have hlast:=hok.len
    have b1:=Ap hfree1 a1
    have bw:=Ap hfree1 aw
    have bm:=Ap hfree1 am
    have b2:=Ap hfree1 ay
    have b3:=Ap hfree1 al
    have b4:=Ap hfree1 af
    have hF:∀ q,F q→q < bd1∧q≠bdL∧q≠nl∧q≠nf:=fun q hq=>by
      obtain ⟨o,h,_⟩:=hY.foot s o1 q hi hq
      exact ⟨Ap hfree1 h,fun e=>fL (e ▸ hq),fun e=>fl (e ▸ hq),fun e=>ff (e ▸ hq)⟩
    have hlq:∀ {q:Nat} {kk:F1},(AO.loop kk (tmE n1 ny nl nf)).clean q=false→(o1 q).isSome=true∧(q=n1∨q=ny∨q=nl∨q=nf):=fun {q kk} hq=>by
      have e:q=n1∨q=ny∨q=nl∨q=nf:=by
        simp [AO.clean,AV.clean,AV.clean.cleanL] at hq; omega
      refine ⟨?_,e⟩
      rcases e with e | e | e | e <;> rw [e]
      · rw [a1]; rfl
      · rw [ay]; rfl
      · rw [al]; rfl
      · rw [af]; rfl
    have hclL:∀ {os:Nat→Option AO} {kk:F1},(Hp os).closed→(os n1).isSome=true→(os ny).isSome=true→(os nl).isSome=true→(os nf).isSome=true→(Hp (upd os bdL (some (.loop kk (tmE n1 ny nl nf))))).closed:=fun {os kk} hc h1 h2 h3 h4=>Cr hc (fun q hq=>by
      obtain ⟨_,e⟩:=hlq hq
      unfold upd
      split
      · rfl
      · rcases e with e | e | e | e <;> rw [e] <;> assumption)
    have hlv:=hY.live _ _ hi
    have key:(Bhv b x=false∧(Bhv b x=false∨(first=false∧Bhe b x=last)))∨(Bhv b x=true∧first=true∧¬ (Bhv b x=false∨(first=false∧Bhe b x=last)))∨(Bhv b x=true∧first=false∧Bhe b x=last∧(Bhv b x=false∨(first=false∧Bhe b x=last)))∨(Bhv b x=true∧first=false∧¬ Bhe b x=last∧¬ (Bhv b x=false∨(first=false∧Bhe b x=last))):=by
      cases he:Bhv b x with
      | false=>exact .inl ⟨rfl,.inl rfl⟩
      | true=>cases first with
        | true=>exact .inr (.inl ⟨rfl,rfl,by simp⟩)
        | false=>
                   by_cases hev:Bhe b x=last
                   · exact .inr (.inr (.inl ⟨rfl,rfl,hev,.inr ⟨rfl,hev⟩⟩))
                   · exact .inr (.inr (.inr ⟨rfl,rfl,hev,by simp [hev]⟩))
    rcases key with ⟨he,hC⟩ | ⟨he,hf,hC⟩ | ⟨he,hf,hev,hC⟩ | ⟨he,hf,hev,hC⟩
    all_goals
      first
        | (have hce:Gz Try.prog .eql 166 (Cn (cW (Bhe b x))) (Cn (cW last))=some (.pure (bl true)):=by rw [eqV (hpo he) hok,decide_eq_true hev])
        | (have hce:Gz Try.prog .eql 166 (Cn (cW (Bhe b x))) (Cn (cW last))=some (.pure (bl false)):=by rw [eqV (hpo he) hok,decide_eq_false hev])
        | (have hce:=he)
      cases (show some (_,_)=some (A,B) from hcode)
      have he:=he
      have hce:=hce
      first | (have hf:=hf) | (have hf:=he)
      show AWP _ _ 33 _ ⟨T [(10,avL b.vs.length x),(1,.ptr n1 0),(2,.ptr ny 0),(3,.ptr nl 0),(4,.ptr nf 0)],o1⟩ _
      refine Ah ?_
      simp (disch:=omega) only [hl,hfr0,Ac,Bz,amL,amT,sA,sB,sF,↓reduceIte]
      try simp (disch:=omega) only [hl,hfr0,Ac,Bz,amL,amT,sA,sB,sC,sD,sE,sF,sG,sH,sI,sJ,sK,sL,sM,sN,sO,↓reduceIte,reduceCtorEq]
      skip
      refine Ar ?_
      refine Ad fun K1 hK1=>?_
      simp (disch:=(first | assumption | omega)) only [a1,Ac,amL,amT,sA,sB,sF,↓reduceIte]
      refine Cc (bd:=bd1+33) (by decide) (Box (b:=b) (x:=x) (nw:=nw) (m:=m) ⟨by simp (disch:=omega) only [Ac]; exact aw,by simp (disch:=omega) only [Ac]; exact am⟩ hv hx) (fun q hq=>by simp (disch:=omega) only [Ac]; exact hfree1 q (by omega)) (Nat.le_add_right _ _) (Eb _ _) ?_
      simp (disch:=(first | assumption | omega)) only [hfr0,Ac,Bz,A0,Aio,he,amL,amT,sA,sB,sF,↓reduceIte]
      refine hK1 _ ?_
      refine Ab fun K2 hK2=>?_
      refine Ad fun K3 hK3=>?_
      simp (disch:=(first | assumption | omega)) only [al,af,Ac,Br,A0,hce,hf,amL,amT,sA,sF,↓reduceIte]
      repeat' first | (refine Eo (fun h=>?_) (fun h=>?_) <;> simp (disch:=(first | assumption | omega)) only [h,a1,aw,am,ay,al,af,hl,hfr0,Ac,Bz,Br,A0,Aio,he,hce,hf,ne_eq,Wq,Af7,amL,amT,sA,sB,sC,sD,sE,sF,sG,sH,sI,sJ,sK,sL,sM,sN,sO,↓reduceIte,reduceCtorEq]) | (refine Cy (fun h=>?_) (fun h=>?_) <;> simp (disch:=(first | assumption | omega)) only [h,a1,aw,am,ay,al,af,hl,hfr0,Ac,Bz,Br,A0,Aio,he,hce,hf,ne_eq,Wq,Af7,amL,amT,sA,sB,sC,sD,sE,sF,sG,sH,sI,sJ,sK,sL,sM,sN,sO,↓reduceIte,reduceCtorEq])
      all_goals
       skip
       refine hK3 _ ?_
       refine Al rfl (fun h=>MT.x ?_) (fun h=>ME.x ?_)
       all_goals
        first
        |refine MT.mk ?_
         first
         |exact Bool.noConfusion h
         |skip
          try simp only [] at h
          refine Bq ?_
          try simp (disch:=(first | assumption | omega)) only [hf]
          first
            | (try subst hf
               have hb:=Bjo (step:=step) (s:=(s,last,_)) hC
               simp only [Bit,Ss,reduceIte,Wq]
               refine Qb o1 (by simp (disch:=omega) only [Ac,Bc]) (fun z=>?_) hcl1 ⟨by rw [hb] ; first | done | rfl,⟨by rw [hb]; exact ⟨hi,a1,⟨aw,am⟩,ay,al,af,hok⟩,by rw [hb]; exact hl⟩,fun _ _=>rfl⟩
               by_cases e1:z=bdL
               · subst e1; right; rw [Bc]; exact hl
               · by_cases e4:bd1≤z
                 · left; exact hfree1 z e4
                 · right; simp (disch:=omega) only [Ac])
            | (try subst hf
               have hst:(step s (Bhe b x)).2=false:=by assumption
               have hb:=Biy (step:=step) (s:=(s,last,_)) hC hst
               dsimp only at hb
               refine Qb (upd (Du bd1 os4) bdL (some (.loop (Al1 _ (some .ret)) (tmE n1 ny nl nf)))) rL (fun z=>?_) (hclL hd4.1 (by rw [g1]; rfl) (by rw [gy]; rfl) (by rw [gl]; rfl) (by rw [gf]; rfl)) ⟨by rw [hb] ; first | done | rfl,⟨?_,by rw [hb,Bc]⟩,fun n hn=>?_⟩
               · by_cases e1:z=bdL
                 · subst e1; right; rw [Bc,Bc] ; first | done | rfl
                 · rw [Ac e1,Ac e1]; exact L6 bd1 os4 z
               · rw [hb]
                 exact ⟨hY.stable _ _ _ hd4.2.1 (fun q hq=>Ac (hF q hq).2.1),(Ac (by omega)).trans g1,⟨(Ac (by omega)).trans gw,(Ac (by omega)).trans gm⟩,(Ac (by omega)).trans gy,(Ac (by omega)).trans gl,(Ac (by omega)).trans gf,hok⟩
               · have e1:n≠bdL:=fun e=>hn (.inr e)
                 rw [Ac e1,gL n (fun h=>hn (.inl (.inl h))),Ac e1])
            | (try subst hf
               have hst:(step s (Bhe b x)).2=true:=by assumption
               have hb:=Bjm (step:=step) (s:=(s,last,_)) hC hst
               dsimp only at hb
               refine Qb (upd (upd (upd (Du bd1 os4) nl (some (.cells (cW (Bhe b x))))) nf (some (.cells [bl false]))) bdL (some (.loop (Al1 _ none) (tmE n1 ny nl nf)))) (by simp (disch:=omega) only [Ac]; exact rL) (fun z=>?_) (hclL (F7 (Ec hd4.1) (by simp [AV.isP])) (by simp (disch:=omega) only [Ac]; rw [g1]; rfl) (by simp (disch:=omega) only [Ac]; rw [gy]; rfl) (by simp (disch:=omega) only [Ac,Bc,Option.isSome_some]) (by simp (disch:=omega) only [Bc,Option.isSome_some])) ⟨by rw [hb] ; first | done | rfl,⟨?_,by rw [hb,Bc]⟩,fun n hn=>?_⟩
               · by_cases e1:z=bdL
                 · subst e1; right; rw [Bc,Bc] ; first | done | rfl
                 · by_cases e2:z=nf
                   · subst e2; right; simp (disch:=omega) only [Ac,Bc]
                   · by_cases e3:z=nl
                     · subst e3; right; simp (disch:=omega) only [Ac,Bc] ; first | done | rfl | (rw [B7 (by omega)])
                     · rw [Ac e1,Ac e2,Ac e3]
                       rcases L6 bd1 os4 z with h0 | h0
                       · exact .inl h0
                       · right; rw [h0]; simp (disch:=omega) only [Ac]
               · rw [hb]
                 exact ⟨hY.stable _ _ _ hd4.2.1 (fun q hq=>by obtain ⟨_,_,_,_⟩:=hF q hq; simp (disch:=omega) only [Ac]),by simp (disch:=omega) only [Ac]; exact g1,⟨by simp (disch:=omega) only [Ac]; exact gw,by simp (disch:=omega) only [Ac]; exact gm⟩,by simp (disch:=omega) only [Ac]; exact gy,by simp (disch:=omega) only [Ac,Bc],by simp (disch:=omega) only [Ac,Bc],hpo he⟩
               · have e1:n≠bdL:=fun e=>hn (.inr e)
                 have e2:n≠nl:=fun e=>hn (.inl (by unfold FE; omega))
                 have e3:n≠nf:=fun e=>hn (.inl (by unfold FE; omega))
                 rw [Ac e1,Ac e3,Ac e2,gL n (fun h=>hn (.inl (.inl h))),Ac e1])
        |refine ME.mk ?_
         first
         |exact Bool.noConfusion h
         |skip
          try simp only [] at h
          refine Am ?_
          refine hK2 _ ?_
       all_goals
        skip
        refine Ab fun K4 hK4=>?_
        refine Ad fun K5 hK5=>?_
        simp (disch:=(first | assumption | omega)) only [ay,Ac,Br,A0,amL,amT,sA,sF,↓reduceIte]
        have hcall:=fun os h1 h2=>hY.call s (Bhe b x) os (bd1+33) (hL x hx he) hg h1 h2
        refine A2 [(1,.ptr n1 0),(2,.ptr ny 0),(3,.ptr nl 0),(4,.ptr nf 0),(6,.ptr (bd1+6) 0)] (by decide) (hcall _ (hY.stable _ _ _ hi (fun q hq=>by obtain ⟨_,_,_,_⟩:=hF q hq; simp (disch:=omega) only [Ac])) (Ec (hclL (F7 hcl1 (by simp [AV.isP])) (by simp (disch:=omega) only [Ac,a1,Option.isSome_some]) (by simp (disch:=omega) only [Ac,ay,Option.isSome_some]) (by simp (disch:=omega) only [Ac,al,Option.isSome_some]) (by simp (disch:=omega) only [Ac,af,Option.isSome_some])))) (fun q hq=>by simp (disch:=omega) only [Ac]; exact hfree1 q (by omega)) (Nat.le_add_right _ _) (fun res os4 hR hcl4 hlv4=>?_)
        obtain ⟨rfl,hI4,hfr4⟩:=hR
        have r1:os4 n1=some (.cells [.ptr nw 0]):=(hfr4 n1 f1).trans (by simp (disch:=omega) only [Ac]; exact a1)
        have rw':os4 nw=some (.cells [.p (slV b.vs),.p (slS b.ss),.mp m]):=(hfr4 nw fw).trans (by simp (disch:=omega) only [Ac]; exact aw)
        have rm:os4 m=some (.obj (F9 14 (Sx b.vs))):=(hfr4 m fm).trans (by simp (disch:=omega) only [Ac]; exact am)
        have ry:os4 ny=some (.cells [yv]):=(hfr4 ny fy).trans (by simp (disch:=omega) only [Ac]; exact ay)
        have rl':os4 nl=some (.cells (cW last)):=(hfr4 nl fl).trans (by simp (disch:=omega) only [Ac]; exact al)
        have rf:os4 nf=some (.cells [bl first]):=(hfr4 nf ff).trans (by simp (disch:=omega) only [Ac]; exact af)
        have r6:os4 (bd1+6)=some (.cells (cW (Bhe b x))):=(hfr4 (bd1+6) (fun h=>by have:=(hF _ h).1; omega)).trans Bc
        have rL:os4 bdL=_:=(hfr4 bdL fL).trans ((Ac (by omega)).trans Bc)
        have hd4:=hY.drop (bd:=bd1) (os:=upd o1 bdL (os4 bdL)) (os2:=os4) (by rw [rL]; exact hclL hcl1 (by rw [a1]; rfl) (by rw [ay]; rfl) (by rw [al]; rfl) (by rw [af]; rfl)) (fun q hq=>(Ac (by omega)).trans (hfree1 q hq)) (hY.stable _ _ _ hi (fun q hq=>Ac (hF q hq).2.1)) hI4 (fun q hq1 hq2=>by
          by_cases e:q=bdL
          · subst e; rw [Bc]
          · rw [Ac e]; exact (hfr4 q hq2).trans (by simp (disch:=omega) only [Ac]))
        have g1:=(Fr b1).trans r1
        have gw:=(Fr bw).trans rw'
        have gm:=(Fr bm).trans rm
        have gy:=(Fr b2).trans ry
        have gl:=(Fr b3).trans rl'
        have gf:=(Fr b4).trans rf
        have gL:=hd4.2.2
        simp (disch:=(first | assumption | omega)) only [amL,sA,sF,↓reduceIte]
        refine ⟨⟨by rw [r1]; rfl,by rw [ry]; rfl,by rw [rl']; rfl,by rw [rf]; rfl,by rw [r6]; rfl⟩,?_⟩
        refine hK5 _ ?_
        refine Al rfl (fun h=>MT.x ?_) (fun h=>ME.x ?_)
        all_goals
         first
         |refine MT.mk ?_
          first
          |exact Bool.noConfusion h
          |skip
           try simp only [nrm] at h
           refine Aj ?_
           try simp (disch:=(first | assumption | omega)) only [hf,Af7,amL]
           first
             | (try subst hf
                have hb:=Bjo (step:=step) (s:=(s,last,_)) hC
                simp only [Bit,Ss,reduceIte,Wq]
                refine Qb o1 (by simp (disch:=omega) only [Ac,Bc]) (fun z=>?_) hcl1 ⟨by rw [hb] ; first | done | rfl,⟨by rw [hb]; exact ⟨hi,a1,⟨aw,am⟩,ay,al,af,hok⟩,by rw [hb]; exact hl⟩,fun _ _=>rfl⟩
                by_cases e1:z=bdL
                · subst e1; right; rw [Bc]; exact hl
                · by_cases e4:bd1≤z
                  · left; exact hfree1 z e4
                  · right; simp (disch:=omega) only [Ac])
             | (try subst hf
                have hst:(step s (Bhe b x)).2=false:=by assumption
                have hb:=Biy (step:=step) (s:=(s,last,_)) hC hst
                dsimp only at hb
                refine Qb (upd (Du bd1 os4) bdL (some (.loop (Al1 _ (some .ret)) (tmE n1 ny nl nf)))) rL (fun z=>?_) (hclL hd4.1 (by rw [g1]; rfl) (by rw [gy]; rfl) (by rw [gl]; rfl) (by rw [gf]; rfl)) ⟨by rw [hb] ; first | done | rfl,⟨?_,by rw [hb,Bc]⟩,fun n hn=>?_⟩
                · by_cases e1:z=bdL
                  · subst e1; right; rw [Bc,Bc] ; first | done | rfl
                  · rw [Ac e1,Ac e1]; exact L6 bd1 os4 z
                · rw [hb]
                  exact ⟨hY.stable _ _ _ hd4.2.1 (fun q hq=>Ac (hF q hq).2.1),(Ac (by omega)).trans g1,⟨(Ac (by omega)).trans gw,(Ac (by omega)).trans gm⟩,(Ac (by omega)).trans gy,(Ac (by omega)).trans gl,(Ac (by omega)).trans gf,hok⟩
                · have e1:n≠bdL:=fun e=>hn (.inr e)
                  rw [Ac e1,gL n (fun h=>hn (.inl (.inl h))),Ac e1])
             | (try subst hf
                have hst:(step s (Bhe b x)).2=true:=by assumption
                have hb:=Bjm (step:=step) (s:=(s,last,_)) hC hst
                dsimp only at hb
                refine Qb (upd (upd (upd (Du bd1 os4) nl (some (.cells (cW (Bhe b x))))) nf (some (.cells [bl false]))) bdL (some (.loop (Al1 _ none) (tmE n1 ny nl nf)))) (by simp (disch:=omega) only [Ac]; exact rL) (fun z=>?_) (hclL (F7 (Ec hd4.1) (by simp [AV.isP])) (by simp (disch:=omega) only [Ac]; rw [g1]; rfl) (by simp (disch:=omega) only [Ac]; rw [gy]; rfl) (by simp (disch:=omega) only [Ac,Bc,Option.isSome_some]) (by simp (disch:=omega) only [Bc,Option.isSome_some])) ⟨by rw [hb] ; first | done | rfl,⟨?_,by rw [hb,Bc]⟩,fun n hn=>?_⟩
                · by_cases e1:z=bdL
                  · subst e1; right; rw [Bc,Bc] ; first | done | rfl
                  · by_cases e2:z=nf
                    · subst e2; right; simp (disch:=omega) only [Ac,Bc]
                    · by_cases e3:z=nl
                      · subst e3; right; simp (disch:=omega) only [Ac,Bc] ; first | done | rfl | (rw [B7 (by omega)])
                      · rw [Ac e1,Ac e2,Ac e3]
                        rcases L6 bd1 os4 z with h0 | h0
                        · exact .inl h0
                        · right; rw [h0]; simp (disch:=omega) only [Ac]
                · rw [hb]
                  exact ⟨hY.stable _ _ _ hd4.2.1 (fun q hq=>by obtain ⟨_,_,_,_⟩:=hF q hq; simp (disch:=omega) only [Ac]),by simp (disch:=omega) only [Ac]; exact g1,⟨by simp (disch:=omega) only [Ac]; exact gw,by simp (disch:=omega) only [Ac]; exact gm⟩,by simp (disch:=omega) only [Ac]; exact gy,by simp (disch:=omega) only [Ac,Bc],by simp (disch:=omega) only [Ac,Bc],hpo he⟩
                · have e1:n≠bdL:=fun e=>hn (.inr e)
                  have e2:n≠nl:=fun e=>hn (.inl (by unfold FE; omega))
                  have e3:n≠nf:=fun e=>hn (.inl (by unfold FE; omega))
                  rw [Ac e1,Ac e3,Ac e2,gL n (fun h=>hn (.inl (.inl h))),Ac e1])
         |refine ME.mk ?_
          first
          |exact Bool.noConfusion h
          |skip
           try simp only [nrm] at h
           refine Am ?_
           refine hK4 _ ?_
        all_goals
         skip
         refine Ah ?_
         simp (disch:=(first | assumption | omega)) only [rl',rf,r6,Br,A0,Ac,Br,A0,hf,Wq,amL,amT,sF,↓reduceIte]
         try simp (disch:=(first | assumption | omega)) only [a1,aw,am,ay,al,af,hl,hfr0,Ac,Bz,Br,A0,Aio,he,hce,hf,ne_eq,Wq,Af7,amL,amT,sA,sB,sC,sD,sE,sF,sG,sH,sI,sJ,sK,sL,sM,sN,sO,↓reduceIte,reduceCtorEq]
         first
           | (try subst hf
              have hb:=Bjo (step:=step) (s:=(s,last,_)) hC
              simp only [Bit,Ss,reduceIte,Wq]
              refine Qb o1 (by simp (disch:=omega) only [Ac,Bc]) (fun z=>?_) hcl1 ⟨by rw [hb] ; first | done | rfl,⟨by rw [hb]; exact ⟨hi,a1,⟨aw,am⟩,ay,al,af,hok⟩,by rw [hb]; exact hl⟩,fun _ _=>rfl⟩
              by_cases e1:z=bdL
              · subst e1; right; rw [Bc]; exact hl
              · by_cases e4:bd1≤z
                · left; exact hfree1 z e4
                · right; simp (disch:=omega) only [Ac])
           | (try subst hf
              have hst:(step s (Bhe b x)).2=false:=by assumption
              have hb:=Biy (step:=step) (s:=(s,last,_)) hC hst
              dsimp only at hb
              refine Qb (upd (Du bd1 os4) bdL (some (.loop (Al1 _ (some .ret)) (tmE n1 ny nl nf)))) rL (fun z=>?_) (hclL hd4.1 (by rw [g1]; rfl) (by rw [gy]; rfl) (by rw [gl]; rfl) (by rw [gf]; rfl)) ⟨by rw [hb] ; first | done | rfl,⟨?_,by rw [hb,Bc]⟩,fun n hn=>?_⟩
              · by_cases e1:z=bdL
                · subst e1; right; rw [Bc,Bc] ; first | done | rfl
                · rw [Ac e1,Ac e1]; exact L6 bd1 os4 z
              · rw [hb]
                exact ⟨hY.stable _ _ _ hd4.2.1 (fun q hq=>Ac (hF q hq).2.1),(Ac (by omega)).trans g1,⟨(Ac (by omega)).trans gw,(Ac (by omega)).trans gm⟩,(Ac (by omega)).trans gy,(Ac (by omega)).trans gl,(Ac (by omega)).trans gf,hok⟩
              · have e1:n≠bdL:=fun e=>hn (.inr e)
                rw [Ac e1,gL n (fun h=>hn (.inl (.inl h))),Ac e1])
           | (try subst hf
              have hst:(step s (Bhe b x)).2=true:=by assumption
              have hb:=Bjm (step:=step) (s:=(s,last,_)) hC hst
              dsimp only at hb
              refine Qb (upd (upd (upd (Du bd1 os4) nl (some (.cells (cW (Bhe b x))))) nf (some (.cells [bl false]))) bdL (some (.loop (Al1 _ none) (tmE n1 ny nl nf)))) (by simp (disch:=omega) only [Ac]; exact rL) (fun z=>?_) (hclL (F7 (Ec hd4.1) (by simp [AV.isP])) (by simp (disch:=omega) only [Ac]; rw [g1]; rfl) (by simp (disch:=omega) only [Ac]; rw [gy]; rfl) (by simp (disch:=omega) only [Ac,Bc,Option.isSome_some]) (by simp (disch:=omega) only [Bc,Option.isSome_some])) ⟨by rw [hb] ; first | done | rfl,⟨?_,by rw [hb,Bc]⟩,fun n hn=>?_⟩
              · by_cases e1:z=bdL
                · subst e1; right; rw [Bc,Bc] ; first | done | rfl
                · by_cases e2:z=nf
                  · subst e2; right; simp (disch:=omega) only [Ac,Bc]
                  · by_cases e3:z=nl
                    · subst e3; right; simp (disch:=omega) only [Ac,Bc] ; first | done | rfl | (rw [B7 (by omega)])
                    · rw [Ac e1,Ac e2,Ac e3]
                      rcases L6 bd1 os4 z with h0 | h0
                      · exact .inl h0
                      · right; rw [h0]; simp (disch:=omega) only [Ac]
              · rw [hb]
                exact ⟨hY.stable _ _ _ hd4.2.1 (fun q hq=>by obtain ⟨_,_,_,_⟩:=hF q hq; simp (disch:=omega) only [Ac]),by simp (disch:=omega) only [Ac]; exact g1,⟨by simp (disch:=omega) only [Ac]; exact gw,by simp (disch:=omega) only [Ac]; exact gm⟩,by simp (disch:=omega) only [Ac]; exact gy,by simp (disch:=omega) only [Ac,Bc],by simp (disch:=omega) only [Ac,Bc],hpo he⟩
              · have e1:n≠bdL:=fun e=>hn (.inr e)
                have e2:n≠nl:=fun e=>hn (.inl (by unfold FE; omega))
                have e3:n≠nf:=fun e=>hn (.inl (by unfold FE; omega))
                rw [Ac e1,Ac e3,Ac e2,gL n (fun h=>hn (.inl (.inl h))),Ac e1])
end AM.Try
end
