/- Lemmas for the proof: more of the program's functions, walked on the abstract machine. -/
import Derived.Test.YtbgiddcgdgdmbaaGreatQ5
import Derived.Laws.Cover3
/- The abstract machine, part 48: an array of one's own is written no more: what refers to it is a value from then on. -/
section
namespace AM
open Go Go.Proofs
section
variable {P:Program} {r:RB} {N B:Nat} {S:Nat→Prop} {θ:Nat→Loc} {M M2:Nat→Prop} {w:World} {st:St} {a:Act} {Q:AEx→St→Prop} {n:Nat} {es:List (List PV)}
def Bh7 (n:Nat) (es:List (List PV)):List (Nat × AO)→List (Nat × AO)
 | []=>[]
 | (j,x) :: l=>if j=n then Bh7 n es l else (j,x.frz n es) :: Bh7 n es l
theorem Box {l:List (Nat × AO)}:(fun m=>if m=n then none else (O l m).map (AO.frz n es))=O (Bh7 n es l):=by
 funext m
 induction l with
 | nil=>simp [O,Bh7]
 | cons p l ih=>
  obtain ⟨j,x⟩:=p
  simp only [O,Bh7]
  by_cases e:m=n
  ·subst e
   simp only [if_true] at ih ⊢
   split
   ·exact ih
   ·simp only [O]
    rw [if_neg (fun h=>by omega)]; exact ih
  ·rw [if_neg e] at ih ⊢
   by_cases e2:m=j
   ·subst e2
    rw [if_neg e]
    simp [O]
   ·rw [if_neg e2]
    split
    ·exact ih
    ·simp only [O]; rw [if_neg e2]; exact ih
theorem Boi {l:List (Nat × AV)} {m:List (Nat × AO)}:St.frz n es ⟨T l,O m⟩=⟨T (Wr n es l),O (Bh7 n es m)⟩:=by
 unfold St.frz; rw [Aul,Box]
end
end AM
namespace AM
open Go
theorem Bge {K:St→Prop} {Q:AEx→St→Prop} {s:St} {i:Nat}:Jp K Q (.exit i) s=Q (.exit i) s:=rfl
end AM
namespace AM
open Go
end AM
namespace AM
open Go
section
variable {P:Program} {r:RB} {N:Nat} {s:St} {K:St→Prop} {dst:Option Nat} {ty:TypeId} {pos:String} {after:Array Edge} {g:Option (Nat × Bool)}
def Bk5 (esz:Nat→Nat) (ea:Nat→Option Bool) (e:Nat):Option (List (List PV))→Option Int→(Nat→Option Int)→Option Eff
 | some es,some l,hf=>match hf es.length with
  | some h=>if 0≤l∧l≤h∧h≤es.length∧(ea e).isSome∧(es.all fun c=>c.length=esz e) then some (.pure (.p (.sl ((es.take h.toNat).drop l.toNat)))) else none
  | none=>none
 | _,_,_=>none
theorem Blg {t:TypeId} {x:Operand} {lo hi:Option Operand} {e:Nat} (hk:(Aa P t).k=.sl e):EO P r N ⟨dst,.slice t x lo hi none,ty,pos,after,g⟩ s K=EOp r.b N dst s K (Bk5 (fun e=>(Aa P e).sz) (fun e=>(Aa P e).agg) e ((ev s.t x).pv?.bind PV.list?) (Ba (ev s.t) 0 lo) (fun n=>Ba (ev s.t) n hi)):=by
 refine C7 rfl rfl ?_
 simp only [eff,hk]
 cases (ev s.t x).pv?.bind PV.list? with
 | none=>rfl
 | some es=>cases Ba (ev s.t) 0 lo with
  | none=>rfl
  | some l=>
   simp only [Bk5]
   cases Ba (ev s.t) es.length hi <;> rfl
def Bl2 (esz:Nat→Nat) (ea:Nat→Option Bool) (e:Nat):Option (List (List PV))→Option Int→Option Int→Option Int→Option Eff
 | some es,some l,some h,some m=>if 0≤l∧l≤h∧h≤m∧m≤es.length∧(ea e).isSome∧(es.all fun c=>c.length=esz e) then some (.pure (.p (.sl ((es.take h.toNat).drop l.toNat)))) else none
 | _,_,_,_=>none
theorem Bln {t:TypeId} {x hi mx:Operand} {lo:Option Operand} {e:Nat} (hk:(Aa P t).k=.sl e):EO P r N ⟨dst,.slice t x lo (some hi) (some mx),ty,pos,after,g⟩ s K=EOp r.b N dst s K (Bl2 (fun e=>(Aa P e).sz) (fun e=>(Aa P e).agg) e ((ev s.t x).pv?.bind PV.list?) (Ba (ev s.t) 0 lo) (Ba (ev s.t) 0 (some hi)) (Ba (ev s.t) 0 (some mx))):=by
 refine C7 rfl rfl ?_
 simp only [eff,hk]
 cases (ev s.t x).pv?.bind PV.list? <;> cases Ba (ev s.t) 0 lo <;> cases Ba (ev s.t) 0 (some hi) <;> cases Ba (ev s.t) 0 (some mx) <;> rfl
theorem Blb {esz:Nat→Nat} {ea:Nat→Option Bool} {e:Nat} {es:List (List PV)} {l:Int} {hf:Nat→Option Int} {h:Int} (hh:hf es.length=some h) (h0:0≤l) (h1:l≤h) (h2:h≤es.length) (h3:(ea e).isSome=true) (h4:(es.all fun c=>c.length=esz e)=true):Bk5 esz ea e (some es) (some l) hf=some (.pure (.p (.sl ((es.take h.toNat).drop l.toNat)))):=by
 simp only [Bk5,hh]; rw [if_pos ⟨h0,h1,h2,h3,h4⟩]
theorem Blk {esz:Nat→Nat} {ea:Nat→Option Bool} {e:Nat} {es:List (List PV)} {l h m:Int} (h0:0≤l) (h1:l≤h) (h2:h≤m) (h3:m≤es.length) (h5:(ea e).isSome=true) (h4:(es.all fun c=>c.length=esz e)=true):Bl2 esz ea e (some es) (some l) (some h) (some m)=some (.pure (.p (.sl ((es.take h.toNat).drop l.toNat)))):=by
 simp only [Bl2]; rw [if_pos ⟨h0,h1,h2,h3,h5,h4⟩]
end
end AM
namespace AM
open Go
theorem Bj5 {P:Program} {r:RB} {N:Nat} {c:Code} {s:St} {Q:AEx→St→Prop} (n k m off:Nat) {cs:List AV} (hn4:r.b≤n) (hm:s.o m=some (.cells cs)) (hi:cs[off]?=some (.p (.val (.slice none 0 0)))) (hfree:s.o n=none)
  (h:AWP P r N c ⟨s.t,upd (upd s.o n (some (.arr k []))) m (some (.cells (cs.set off (.own n 0))))⟩ Q):AWP P r N c s Q:=by
 intro B S θ M w a hs
 have hmn:m≠n:=fun e=>by rw [e,hfree] at hm; cases hm
 have hS:=hs.new (d:=n) hfree (w':=w) (l:=⟨0,0,true⟩) (o:=.arr k []) (Nat.le_refl _) (fun _ _=>rfl) (fun e=>by cases e)
  ⟨fun i e he=>by simp at he,.inl ⟨rfl,rfl⟩⟩ (AO.lives_arr _ _ _)
 have hm1:(s.setO n (.arr k [])).o m=some (.cells cs):=by show upd s.o n _ m=_; rw [Aq hmn]; exact hm
 have hsome:∀ j,(upd (upd s.o n (some (.arr k []))) m (some (.cells (cs.set off (.own n 0)))) j).isSome=((s.setO n (.arr k [])).o j).isSome:=fun j=>by
  by_cases e:j=m
  ·subst e; rw [Eu,hm1]; rfl
  ·rw [Aq e]; rfl
 have hS2:Ar N B S (Dc θ n ⟨0,0,true⟩) (fun b=>M b∨((true:Bool)=false∧b=0)) w ⟨s.t,upd (upd s.o n (some (.arr k []))) m (some (.cells (cs.set off (.own n 0))))⟩ a:=by
  refine ⟨hS.size,hS.tm,fun j o hj=>?_,fun j o hj hnil=>?_,fun i j hi hj=>hS.inj i j (by rw [← hsome]; exact hi) (by rw [← hsome]; exact hj),hS.base,hS.mlt,⟨fun j=>AV.lives_mono (fun i hi=>(hsome i).trans hi) (hS.cl.1 j),fun j o hj=>?_⟩⟩
  ·have hj:upd (upd s.o n (some (.arr k []))) m (some (.cells (cs.set off (.own n 0)))) j=some o:=hj
   by_cases e:j=m
   ·subst e
    rw [Eu] at hj
    cases hj
    obtain ⟨h1,cur,e,h2,h3,h4,h5⟩:=hS.ob j _ hm1
    refine ⟨h1,cur,e,h2,by simpa using h3,fun i hi=>h4 i (by simpa using hi),fun i x hx=>?_⟩
    rw [List.getElem?_set] at hx
    split at hx
    ·rename_i hoff
     split at hx
     ·cases hx
      have hv:=Re (h5 off _ hi)
      rw [← hoff,hv]
      exact .ownNil n (by simp)
     ·cases hx
    ·exact h5 i x hx
   ·rw [Aq e] at hj
    exact hS.ob j o hj
  ·have hj:upd (upd s.o n (some (.arr k []))) m (some (.cells (cs.set off (.own n 0)))) j=some o:=hj
   by_cases e:j=m
   ·subst e; exact hS.lv j _ hm1 hnil
   ·rw [Aq e] at hj; exact hS.lv j o hj hnil
  ·have hj:upd (upd s.o n (some (.arr k []))) m (some (.cells (cs.set off (.own n 0)))) j=some o:=hj
   have hmono:∀ i,((s.setO n (.arr k [])).o i).isSome=true→(upd (upd s.o n (some (.arr k []))) m (some (.cells (cs.set off (.own n 0)))) i).isSome=true:=fun i hi=>(hsome i).trans hi
   by_cases e:j=m
   ·subst e
    rw [Eu] at hj
    cases hj
    rw [AO.lives_cells]
    intro i x hx
    rw [List.getElem?_set] at hx
    split at hx
    ·split at hx
     ·cases hx
      intro p hp
      simp only [AV.clean,bne_eq_false_iff_eq] at hp
      subst hp
      refine hmono n ?_
      show (upd s.o n _ n).isSome=true
      simp
     ·cases hx
    ·exact AV.lives_mono hmono (AO.lives_cells.1 (hS.cl.2 j _ hm1) i x hx)
   ·rw [Aq e] at hj
    exact AO.lives_mono hmono (hS.cl.2 j o hj)
 have:=h B S _ _ w a hS2
 refine wpIn_mono this ?_
 rintro e a' w' ⟨ae,st',h1,h2,⟨⟨θ',M',h3,h4,h5,h6⟩,h7⟩⟩
 exact ⟨ae,st',h1,h2,⟨⟨θ',M',h3,h4,fun m hm hv=>(h5 m hm hv).trans (Az (by omega)),fun b hb hm=>h6 b hb (.inl hm)⟩,h7⟩⟩
theorem Bfb {P:Program} {r:RB} {N:Nat} {c:Code} {l:List (Nat × AV)} {mm:List (Nat × AO)} {Q:AEx→St→Prop} (n k m off:Nat) {cs:List AV} (hn4:r.b≤n) (hm:O mm m=some (.cells cs)) (hi:cs[off]?=some (.p (.val (.slice none 0 0)))) (hfree:O mm n=none)
  (h:AWP P r N c ⟨T l,O ((m,.cells (cs.set off (.own n 0))) :: (n,.arr k []) :: mm)⟩ Q):AWP P r N c ⟨T l,O mm⟩ Q:=Bj5 n k m off hn4 hm hi hfree h
end AM
end
/- Worts in plain Lean, and how they lie in abstract values. -/
section
namespace AM.Wort
open Go AM Go.Proofs
abbrev avD (r:Rdg):AV:=.agg [i64 r.v,i64 r.g.lo,i64 r.g.hi,i64 r.d.lo,i64 r.d.hi]
theorem Bg2 {l:List Rdg} {k:Nat} (h:k < l.length):(l.map Aye).getD k []=Aye (l.getD k default):=Cp _ _ _ h
theorem Bed {l:List Sta} {k:Nat} (h:k < l.length):(l.map Bag).getD k []=Bag (l.getD k default):=Cp _ _ _ h
end AM.Wort
end
/- The abstract machine, part 42: an object gets another name. -/
section
namespace AM
open Go Go.Proofs
section
variable {P:Program} {r:RB} {N B:Nat} {S:Nat→Prop} {θ:Nat→Loc} {M:Nat→Prop} {w:World} {st:St} {a:Act} {Q:AEx→St→Prop} {c m:Nat}
theorem Ar.wk {s1:St} (h:Ar N B S θ M w st a) (hw:s1.wk st):Ar N B S θ M w s1 a:=by
 have hob:∀ n o,s1.o n=some o→∃ o',st.o n=some o'∧(Lf θ M w (θ n) o'→Lf θ M w (θ n) o):=fun n o hn=>by
  rcases hw.o n with e | e | ⟨cs,cs',e1,e2,e3,e4⟩
  ·rw [e] at hn; cases hn
  ·rw [e] at hn; exact ⟨o,hn,id⟩
  ·rw [e2] at hn; cases hn
   refine ⟨_,e1,fun ⟨h0,cur,e,hb,hs,ho,hx⟩=>⟨h0,cur,e,hb,by rw [hs,e3],fun i hi=>ho i (by rw [← e3]; exact hi),fun i x hi=>?_⟩⟩
   rcases e4 i x hi with rfl | h
   ·exact .undef _
   ·exact hx i x h
 refine ⟨h.size,fun i=>?_,fun n o hn=>?_,fun n o hn hnil=>?_,fun n m hn hm=>?_,h.base,h.mlt,hw.cl⟩
 ·rcases hw.t i with e | e
  ·rw [e]; exact .undef _
  ·rw [e]; exact h.tm i
 ·obtain ⟨o',h1,h2⟩:=hob n o hn
  exact h2 (h.ob n o' h1)
 ·obtain ⟨o',h1,_⟩:=hob n o hn
  exact h.lv n o' h1 hnil
 ·obtain ⟨o1,ho1⟩:=Option.isSome_iff_exists.1 hn
  obtain ⟨o2,ho2⟩:=Option.isSome_iff_exists.1 hm
  obtain ⟨o1',g1,_⟩:=hob n o1 ho1
  obtain ⟨o2',g2,_⟩:=hob m o2 ho2
  exact h.inj n m (by rw [g1]; rfl) (by rw [g2]; rfl)
theorem AWP.wk {cd:Code} (h:AWP P r N cd st (fun e s=>∃ s1:St,s1.wk s∧Q e s1)):AWP P r N cd st Q:=by
 intro B S θ M w a hs
 refine wpIn_mono (h B S θ M w a hs) ?_
 rintro e a' w' ⟨ae,st',rfl,⟨s1,h1,hq⟩,⟨θ',M',hs',hk,ht,hm⟩,hd⟩
 exact ⟨ae,s1,rfl,hq,⟨θ',M',hs'.wk h1,hk,ht,hm⟩,hd⟩
end
section
variable {P:Program} {r:RB} {N:Nat} {st:St} {Q:AEx→St→Prop} {c m:Nat}
theorem Bgn {cd:Code} {l:List (Nat × AV)} {o:List (Nat × AO)} {k:Nat} (n:Nat) {es:List (List PV)} (hn:O o n=some (.arr k es)) (h:AWP P r N cd ⟨T (Wr n es l),O (Bh7 n es o)⟩ Q):AWP P r N cd ⟨T l,O o⟩ Q:=
 Asi n hn (by rw [Boi]; exact h)
end
end AM
end
/- What the reference says of vessels, in plain Lean; that it is what the program says. -/
section
namespace AM.Wort
open Go AM Go.Proofs
def Bf2 (e g:Int):Int:=if g=0 then 0 else if g≤2 * (e - e / g * g) then e / g+1 else e / g
theorem Bmf {l:Liq} (hg:0≤l.g):Bf2 l.e l.g=Q8 l:=by
 obtain ⟨g,e⟩:=l
 unfold Bf2 Q8
 dsimp only at hg ⊢
 split
 ·rfl
 ·rename_i h
  have hp:0 < g:=by omega
  have h1:=Int.mul_ediv_add_emod e g
  have h2:=Int.emod_nonneg e h
  have h3:=Int.emod_lt_of_pos e hp
  rw [Int.mul_comm] at h1
  generalize e / g=q at *
  generalize e % g=r at *
  have e0:q * (2 * g)=2 * (q * g):=by rw [← Int.mul_assoc,Int.mul_comm q 2,Int.mul_assoc]
  have e1:2 * e+g=(2 * r+g)+q * (2 * g):=by omega
  rw [e1,Int.add_mul_ediv_right _ _ (by omega)]
  split
  ·have a1:1≤(2 * r+g) / (2 * g):=Int.le_ediv_of_mul_le (by omega) (by omega)
   have a2:(2 * r+g) / (2 * g) < 2:=Int.ediv_lt_of_lt_mul (by omega) (by omega)
   omega
  ·rw [Int.ediv_eq_zero_of_lt (by omega) (by omega)]; omega
def Bfe:List Ves→List Int→Nat→Bool
 | [],_,_=>true
 | x :: vs,gs,i=>decide (gs.getD i 0≤x.room)&&Bfe vs gs (i+1)
def Bfm:List Ves→List Int→List Int→Nat→List Liq
 | [],_,_,_=>[]
 | _ :: vs,gs,ds,i=>⟨gs.getD i 0,gs.getD i 0 * ds.getD i 0⟩ :: Bfm vs gs ds (i+1)
def Bf0:List Ves→List Int→List Int→Nat→List Liq→List Liq
 | [],_,_,_,v=>v
 | _ :: vs,gs,ds,i,v=>Bf0 vs gs ds (i+1) (v.set i ⟨gs.getD i 0,gs.getD i 0 * ds.getD i 0⟩)
theorem Bld {vs:List Ves} {gs:List Int} {k:Nat} (h:k < vs.length):Bfe (vs.drop k) gs k=(decide (gs.getD k 0≤(vs.getD k default).room)&&Bfe (vs.drop (k+1)) gs (k+1)):=by
 have:vs.drop k=vs.getD k default :: vs.drop (k+1):=by rw [List.drop_eq_getElem_cons h]; simp [List.getD,h]
 rw [this]; rfl
theorem Bk7 {vs:List Ves} {gs ds:List Int} {k:Nat} (h:k < vs.length):Bfm (vs.drop k) gs ds k=⟨gs.getD k 0,gs.getD k 0 * ds.getD k 0⟩ :: Bfm (vs.drop (k+1)) gs ds (k+1):=by
 have:vs.drop k=vs.getD k default :: vs.drop (k+1):=by rw [List.drop_eq_getElem_cons h]; simp [List.getD,h]
 rw [this]; rfl
theorem Bm5 {vs:List Ves} {gs:List Int} {k:Nat} (h:vs.length≤k):Bfe (vs.drop k) gs k=true:=by rw [List.drop_of_length_le h]; rfl
theorem Bmp {vs:List Ves} {gs ds:List Int} {k:Nat} (h:vs.length≤k):Bfm (vs.drop k) gs ds k=[]:=by rw [List.drop_of_length_le h]; rfl
theorem Bhy:∀ {vs:List Ves} {gs ds:List Int} {i:Nat} {v:List Liq},(Gb vs gs ds i v).2=Bfe vs gs i∧(Bfe vs gs i=true→(Gb vs gs ds i v).1=Bf0 vs gs ds i v)
 | [],_,_,_,_=>⟨rfl,fun _=>rfl⟩
 | x :: vs,gs,ds,i,v=>by
  unfold Gb Bfe Bf0
  split
  ·rename_i h
   rw [decide_eq_false (by omega)]
   exact ⟨rfl,fun h=>by cases h⟩
  ·rename_i h
   rw [decide_eq_true (by omega),Bool.true_and]
   exact Bhy
theorem Bg0:∀ {vs:List Ves} {gs ds:List Int} {i:Nat} {v:List Liq},i+vs.length≤v.length→(Bf0 vs gs ds i v).take (i+vs.length)=v.take i++Bfm vs gs ds i
 | [],_,_,_,_,_=>by simp [Bf0,Bfm]
 | x :: vs,gs,ds,i,v,h=>by
  simp only [List.length_cons] at h
  unfold Bf0 Bfm
  have:=Bg0 (vs:=vs) (gs:=gs) (ds:=ds) (i:=i+1) (v:=v.set i ⟨gs.getD i 0,gs.getD i 0 * ds.getD i 0⟩) (by rw [List.length_set]; omega)
  rw [show i+(x :: vs).length=i+1+vs.length by simp only [List.length_cons]; omega,this,List.take_add_one,List.take_set,List.getElem?_set_self (by omega)]
  rw [List.set_eq_of_length_le (by rw [List.length_take]; omega)]
  simp
theorem Bk1:∀ {vs:List Ves} {gs ds:List Int} {i:Nat} {v:List Liq},i+vs.length≤4→(∀ k,0≤gs.getD k 0∧gs.getD k 0≤60)→(∀ k,0≤ds.getD k 0∧ds.getD k 0≤120) →
  OkV v→tot v≤7200 * (i:Int)→(∀ k,i≤k→(v.getD k default).e=0)→OkV (Bf0 vs gs ds i v)
 | [],_,_,_,_,_,_,_,h,_,_=>h
 | x :: vs,gs,ds,i,v,hi,hg,hd,h,ht,hz=>by
  unfold Bf0
  have g1:=hg i
  have d1:=hd i
  have e1:0≤gs.getD i 0 * ds.getD i 0:=Int.mul_nonneg g1.1 d1.1
  have e2:gs.getD i 0 * ds.getD i 0≤7200:=by
   have:=Int.mul_le_mul g1.2 d1.2 d1.1 (by omega); omega
  have hz0:=hz i (Nat.le_refl _)
  have hl:=h.len
  simp only [List.length_cons] at hi
  have t2:tot (v.set i ⟨gs.getD i 0,gs.getD i 0 * ds.getD i 0⟩)=tot v - (v.getD i default).e+gs.getD i 0 * ds.getD i 0:=Th (by omega)
  refine Bk1 (by omega) hg hd (h.set (by omega) g1 e1 (by show _ - _+gs.getD i 0 * ds.getD i 0≤_; rw [hz0]; omega)) (by rw [t2,hz0]; omega) fun k hk=>?_
  rw [Fv,if_neg (by omega)]
  exact hz k (by omega)
def OkN (n:Nat) (v:List Liq):Prop:=∃ w,OkV w∧v=w.take n
def Bfq (vs:List Ves) (gs ds:List Int):List Liq:=Bfm vs gs ds 0
theorem Bgz {b:Eg} {t:Tru} (hv:N3 b) (h:F7 b t=true):OkN b.vs.length (Bfq b.vs t.g t.d):=by
 obtain ⟨h1,h2,_⟩:=Lc hv h
 refine ⟨Bf0 b.vs t.g t.d 0 v0,Bk1 (by have:=hv.nv; omega) h1 h2 Ale (by decide) fun k _=>?_,?_⟩
 ·match k with
  | 0=>rfl
  | 1=>rfl
  | 2=>rfl
  | 3=>rfl
  | k+4=>rfl
 ·have:=Bg0 (vs:=b.vs) (gs:=t.g) (ds:=t.d) (i:=0) (v:=v0) (by have:=hv.nv; simp; omega)
  rw [Nat.zero_add] at this
  exact this.symm
def Bhp (vs:List Ves) (gs:List Int):Bool:=Bfe vs gs 0
def Bht (vs:List Ves) (v:List Liq):Prop:=∀ k,k < vs.length→(B6 v k).g≤(vs.getD k default).room
theorem OkN.len {n:Nat} {v:List Liq} (h:OkN n v) (hn:n≤4):v.length=n:=by
 obtain ⟨w,hw,rfl⟩:=h
 rw [List.length_take,hw.len]; omega
theorem Bev {w:List Liq} {n k:Nat} (h:k < n):B6 (w.take n) k=B6 w k:=by
 unfold B6
 rw [List.getD_eq_getElem?_getD,List.getD_eq_getElem?_getD,List.getElem?_take,if_pos h]
theorem OkN.at {n:Nat} {v:List Liq} (h:OkN n v) (k:Nat):(0≤(B6 v k).g∧(B6 v k).g≤60)∧0≤(B6 v k).e∧(B6 v k).e≤28800:=by
 obtain ⟨w,hw,rfl⟩:=h
 by_cases hk:k < n
 ·rw [Bev hk]
  have:=Apm hw.e k
  have:=hw.t
  exact ⟨hw.g k,hw.e k,by unfold B6; omega⟩
 ·have:B6 (w.take n) k=⟨0,0⟩:=by
   unfold B6
   rw [List.getD_eq_getElem?_getD,List.getElem?_eq_none (by rw [List.length_take]; omega)]; rfl
  rw [this]; decide
theorem Bh5 {w:List Liq} {n k:Nat} {a:Liq}:(w.take n).set k a=(w.set k a).take n:=by rw [List.take_set]
theorem Bkp {vs:List Ves} {w:List Liq} {s:Stp} {m:Int} (hs:F4 vs.length s=true):doS vs (w.take vs.length) s m=((doS vs w s m).1.take vs.length,(doS vs w s m).2):=by
 obtain ⟨hk,hf,ht,_,_⟩:=Fp hs
 have f1:s.frm.toNat < vs.length:=by omega
 have t1:s.to.toNat < vs.length:=by omega
 have a:Gv (w.take vs.length) s m=((Gv w s m).1.take vs.length,(Gv w s m).2):=by
  unfold Gv
  split
  ·unfold G8
   rw [Bev f1]
   split
   ·rfl
   ·split
    ·simp only [Mj,J1,G2,Bev f1,Bh5]
     rw [Bev t1]
    ·rfl
  ·split
   ·simp only [P0,Bev t1,Bh5]
   ·simp only [Yd,Bev f1,Bh5]
 simp only [doS,a]
 rw [Bev t1]
def doX (vs:List Ves) (v:List Liq) (s:Stp) (n:Int):List Liq × Bool:=if (doS vs v s n).2=true then doS vs v s n else (v,false)
theorem Bm6 {vs:List Ves} {v:List Liq} {s:Stp} {n:Int} (h:OkN vs.length v) (hvs:vs.length≤4) (hv:vs.all Er=true) (hs:F4 vs.length s=true) (hn:0≤n):OkN vs.length (doX vs v s n).1:=by
 unfold doX; split
 ·rename_i hd
  obtain ⟨w,hw,rfl⟩:=h
  rw [Bkp hs] at hd ⊢
  exact ⟨_,Apd hw hvs hv hs hn hd,rfl⟩
 ·exact h
theorem Bmk {vs:List Ves} {v:List Liq} {s:Stp} {n:Int} (h:Bht vs v) (hs:F4 vs.length s=true) (hn:0≤n) (_:v.length=vs.length):∀ k,k < vs.length→k≠s.to.toNat→(B6 (Gv v s n).1 k).g≤(vs.getD k default).room:=by
 intro k hk hne
 have hr:=h k hk
 obtain ⟨_,hf,ht,hft,_⟩:=Fp hs
 unfold Gv
 split
 ·unfold G8
  split
  ·exact hr
  ·split
   ·unfold Mj J1
    rw [Mx,if_neg (fun e=>hne e.1),Mx]
    split
    ·rename_i e; rw [e.1] at hr ⊢; show _ - n≤_; omega
    ·exact hr
   ·exact hr
 ·split
  ·unfold P0
   rw [Mx,if_neg (fun e=>hne e.1)]; exact hr
  ·unfold Yd
   rw [Mx]
   split
   ·rename_i e; rw [e.1] at hr ⊢; show _ - n≤_; omega
   ·exact hr
theorem Bmu {vs:List Ves} {v:List Liq} {s:Stp} {n:Int} (h:Bht vs v) (hs:F4 vs.length s=true) (hn:0≤n) (hl:v.length=vs.length):Bht vs (doX vs v s n).1:=by
 unfold doX; split
 ·rename_i hd
  intro k hk
  simp only [doS,Bool.and_eq_true,decide_eq_true_eq] at hd ⊢
  by_cases e:k=s.to.toNat
  ·rw [e]; exact hd.2
  ·exact Bmk h hs hn hl k hk e
 ·exact h
def Bes (vs:List Ves) (m:List Int):List Stp→Nat→List Liq × Bool→List Liq × Bool
 | [],_,r=>r
 | s :: ss,i,r=>if r.2=false then r else Bes vs m ss (i+1) (doX vs r.1 s (m.getD i 0))
def Beh (b:Eg) (t:Tru):List Liq × Bool:=Bes b.vs t.m b.ss 0 (Bfq b.vs t.g t.d,Bhp b.vs t.g)
theorem Bkh {vs:List Ves} {m:List Int} {ss:List Stp} {k:Nat} {r R:List Liq × Bool} (h:k < ss.length) (hr:r.2=true) (hp:Bes vs m (ss.drop k) k r=R):Bes vs m (ss.drop (k+1)) (k+1) (doX vs r.1 (ss.getD k default) (m.getD k 0))=R:=by
 have:ss.drop k=ss.getD k default :: ss.drop (k+1):=by rw [List.drop_eq_getElem_cons h]; simp [List.getD,h]
 rw [this] at hp; unfold Bes at hp; rw [if_neg (by rw [hr]; decide)] at hp; exact hp
theorem Bkb {vs:List Ves} {m:List Int} {ss:List Stp} {k:Nat} {r R:List Liq × Bool} (h:k < ss.length) (hr:r.2=false) (hp:Bes vs m (ss.drop k) k r=R):R=r:=by
 have:ss.drop k=ss.getD k default :: ss.drop (k+1):=by rw [List.drop_eq_getElem_cons h]; simp [List.getD,h]
 rw [this] at hp; unfold Bes at hp; rw [if_pos hr] at hp; exact hp.symm
theorem Blq {vs:List Ves} {m:List Int} {ss:List Stp} {k:Nat} {r R:List Liq × Bool} (h:ss.length≤k) (hp:Bes vs m (ss.drop k) k r=R):R=r:=by
 rw [List.drop_of_length_le h] at hp; exact hp.symm
theorem Bgo {vs:List Ves} {m:List Int}:∀ {ss:List Stp} {i:Nat} {v:List Liq},(Bes vs m ss i (v,false)).2=false
 | [],_,_=>rfl
 | _ :: _,_,_=>by unfold Bes; rw [if_pos rfl]
theorem Bg8 {vs:List Ves} {m:List Int}:∀ {ss:List Stp} {i:Nat} {v:List Liq},(Kx vs m ss i (v,false)).2=false
 | [],_,_=>rfl
 | _ :: _,_,_=>by unfold Kx; rw [if_pos rfl]
theorem Bii {vs:List Ves} {m:List Int}:∀ {ss:List Stp} {i:Nat} {w:List Liq},ss.all (F4 vs.length)=true →
  (Kx vs m ss i (w,true)).2=(Bes vs m ss i (w.take vs.length,true)).2∧((Kx vs m ss i (w,true)).2=true→(Kx vs m ss i (w,true)).1.take vs.length=(Bes vs m ss i (w.take vs.length,true)).1)
 | [],_,_,_=>⟨rfl,fun _=>rfl⟩
 | s :: ss,i,w,hs=>by
  rw [List.all_cons,Bool.and_eq_true] at hs
  unfold Kx Bes
  rw [if_neg (fun h=>by cases h),if_neg (fun h=>by cases h)]
  dsimp only
  have e:=Bkp (w:=w) (m:=m.getD i 0) hs.1
  cases hd:(doS vs w s (m.getD i 0)).2 with
  | true=>
   have e2:doX vs (w.take vs.length) s (m.getD i 0)=((doS vs w s (m.getD i 0)).1.take vs.length,true):=by
    unfold doX; rw [e,hd]; rfl
   have e3:doS vs w s (m.getD i 0)=((doS vs w s (m.getD i 0)).1,true):=by rw [← hd]
   rw [e2,e3]
   exact Bii hs.2
  | false=>
   have e2:doX vs (w.take vs.length) s (m.getD i 0)=(w.take vs.length,false):=by
    unfold doX; rw [e,hd]; rfl
   have e3:doS vs w s (m.getD i 0)=((doS vs w s (m.getD i 0)).1,false):=by rw [← hd]
   rw [e2,e3,Bg8,Bgo]
   exact ⟨rfl,fun h=>by cases h⟩
theorem Bgv {b:Eg} (t:Tru) (hv:N3 b):(Md b t).2=(Beh b t).2∧((Md b t).2=true→(Md b t).1.take b.vs.length=(Beh b t).1):=by
 unfold Md Beh M7 Bhp
 obtain ⟨h1,h2⟩:=Bhy (vs:=b.vs) (gs:=t.g) (ds:=t.d) (i:=0) (v:=v0)
 have h3:=Bg0 (vs:=b.vs) (gs:=t.g) (ds:=t.d) (i:=0) (v:=v0) (by have:=hv.nv; simp; omega)
 rw [Nat.zero_add] at h3
 cases hr:Bfe b.vs t.g 0 with
 | true=>
  have e:Gb b.vs t.g t.d 0 v0=(Bf0 b.vs t.g t.d 0 v0,true):=by rw [← h2 hr,← hr,← h1]
  rw [e]
  have e2:Bfq b.vs t.g t.d=(Bf0 b.vs t.g t.d 0 v0).take b.vs.length:=h3.symm
  rw [e2]
  exact Bii hv.s
 | false=>
  have e:Gb b.vs t.g t.d 0 v0=((Gb b.vs t.g t.d 0 v0).1,false):=by rw [← hr,← h1]
  rw [e,Bg8,Bgo]
  exact ⟨rfl,fun h=>by cases h⟩
def Be7 (l:List Ves):List Rng:=l.flatMap fun v=>[v.g,v.d]
theorem Bg4:∀ (l:List Rng) (n c:Int),Ma l (n * c)=Ma l n * c
 | [],_,_=>rfl
 | r :: l,n,c=>by
  show Ma l (n * c * Fa r)=Ma l (n * Fa r) * c
  rw [show n * c * Fa r=n * Fa r * c by rw [Int.mul_assoc,Int.mul_comm c,← Int.mul_assoc],Bg4]
theorem Bex (a b:List Rng) (n:Int):Ma (a++b) n=Ma b (Ma a n):=by
 induction a generalizing n with
 | nil=>rfl
 | cons x a ih=>exact ih _
theorem Bkd {a b:List Rng} (h:a.Perm b):∀ n,Ma a n=Ma b n:=by
 induction h with
 | nil=>intro n; rfl
 | cons x _ ih=>intro n; exact ih _
 | swap x y l=>intro n; show Ma l (n * _ * _)=Ma l (n * _ * _); rw [Int.mul_assoc,Int.mul_comm (Fa y),← Int.mul_assoc]
 | trans _ _ ih1 ih2=>intro n; rw [ih1,ih2]
theorem Biy:∀ l:List Ves,(Be7 l).Perm (l.map (·.g)++l.map (·.d))
 | []=>.nil
 | v :: l=>by
  show (v.g :: v.d :: Be7 l).Perm (v.g :: (l.map (·.g)++v.d :: l.map (·.d)))
  exact .cons _ ((List.Perm.cons _ (Biy l)).trans List.perm_middle.symm)
def Bey (b:Eg):Int:=Ma (Be7 b.vs++b.ss.map (·.g)) 1
theorem Bmx (b:Eg):Bey b=N1 b:=Bkd ((Biy b.vs).append_right _) 1
theorem Bm9 {l:List Ves} {k:Nat} (h:k < l.length):Ma (Be7 (l.take (k+1))) 1=Ma (Be7 (l.take k)) 1 * (Fa (l.getD k default).g * Fa (l.getD k default).d):=by
 rw [List.take_add_one,List.getElem?_eq_getElem h]
 unfold Be7
 rw [List.flatMap_append,Bex]
 simp [Ma,List.getD,h,Int.mul_assoc]
theorem Bj0 {l:List Stp} {k:Nat} {n:Int} (h:k < l.length):Ma ((l.take (k+1)).map (·.g)) n=Ma ((l.take k).map (·.g)) n * Fa (l.getD k default).g:=by
 rw [List.take_add_one,List.getElem?_eq_getElem h,List.map_append,Bex]
 simp [Ma,List.getD,h]
theorem Bk3 (l:List Ves):(Be7 l).length=2 * l.length:=by
 induction l with
 | nil=>rfl
 | cons v l ih=>show (v.g :: v.d :: Be7 l).length=_; simp only [List.length_cons,ih]; omega
theorem Bjh {l:List Rng} (hl:∀ r ∈ l,1≤Fa r∧Fa r≤3) (hn:l.length≤14):1≤Ma l 1∧Ma l 1≤4782969:=by
 have h:=Um hl l.length (Nat.le_refl _)
 rw [List.take_length] at h
 exact ⟨h.1,Int.le_trans h.2 (Ask hn)⟩
theorem Blh {b:Eg} (hv:b.vs.all Er=true) (hn:b.vs.length≤4) (k:Nat):1≤Ma (Be7 (b.vs.take k)) 1∧Ma (Be7 (b.vs.take k)) 1≤4782969:=by
 refine Bjh (fun r hr=>?_) (by rw [Bk3,List.length_take]; omega)
 simp only [Be7,List.mem_flatMap,List.mem_cons,List.not_mem_nil,or_false] at hr
 obtain ⟨v,hv',hr⟩:=hr
 have hp:=C9 (List.all_eq_true.1 hv v (List.mem_of_mem_take hv'))
 rcases hr with rfl | rfl
 ·exact Pu hp.1
 ·exact Pu hp.2.1
theorem Bhl {b:Eg} (hv:N3 b) (k:Nat):1≤Ma (Be7 b.vs++(b.ss.take k).map (·.g)) 1∧Ma (Be7 b.vs++(b.ss.take k).map (·.g)) 1≤4782969:=by
 refine Bjh (fun r hr=>?_) (by have:=hv.nv; have:=hv.ns; rw [List.length_append,Bk3,List.length_map,List.length_take]; omega)
 rw [List.mem_append] at hr
 rcases hr with hr | hr
 ·simp only [Be7,List.mem_flatMap,List.mem_cons,List.not_mem_nil,or_false] at hr
  obtain ⟨v,hv',hr⟩:=hr
  have hp:=C9 (List.all_eq_true.1 hv.v v hv')
  rcases hr with rfl | rfl
  ·exact Pu hp.1
  ·exact Pu hp.2.1
 ·obtain ⟨s,hs,rfl⟩:=List.mem_map.1 hr
  exact Pu (Fp (List.all_eq_true.1 hv.s s (List.mem_of_mem_take hs))).2.2.2.2
section
variable {α:Type} {p:α→Bool} {l:List α} {k:Nat} {d:α}
theorem Bim (hk:k < l.length) (h:(l.take k).all p=true) (hp:p (l.getD k d)=true):(l.take (k+1)).all p=true:=by
 rw [List.take_add_one,List.all_append,h]
 simp [hk,List.getD] at hp ⊢
 exact hp
theorem Bee (hk:k < l.length) (hp:p (l.getD k d)=false):l.all p=false:=by
 have:l.getD k d ∈ l:=by rw [← List.getElem_eq_getD (h:=hk)]; exact List.getElem_mem _
 cases h:l.all p with
 | false=>rfl
 | true=>rw [List.all_eq_true] at h; rw [h _ this] at hp; cases hp
theorem Bie (hk:l.length≤k) (h:(l.take k).all p=true):l.all p=true:=by rwa [List.take_of_length_le hk] at h
end
theorem Bg3 {b:Eg} (h:4 < b.vs.length∨6 < b.ss.length):B5 b=3:=by unfold B5; rw [if_pos h]
theorem Ben {b:Eg} (h:¬ (4 < b.vs.length∨6 < b.ss.length)) (h2:b.vs.length=0∨b.vs.all Er=false∨b.ss.all (F4 b.vs.length)=false):B5 b=1:=by
 unfold B5; rw [if_neg h]
 split
 ·rfl
 ·rename_i h3
  rcases h2 with h2 | h2 | h2
  ·exact absurd h2 h3
  ·rw [if_pos h2]
  ·split
   ·rfl
   ·first | rfl | rw [if_pos h2]
theorem Bem {b:Eg} (h:b.vs.length≤4) (h1:b.ss.length≤6) (h2:0 < b.vs.length) (hv:b.vs.all Er=true) (hs:b.ss.all (F4 b.vs.length)=true):B5 b=if 2000 < Bey b then 3 else 0:=by
 unfold B5; rw [if_neg (by omega),if_neg (by omega),if_neg (by rw [hv]; decide),if_neg (by rw [hs]; decide),Bmx]
theorem Bkg {b:Eg} {t:Tru} (h1:t.g.length=b.vs.length) (h2:t.d.length=b.vs.length) (h3:t.m.length=b.ss.length)
  (h4:∀ j,j < b.vs.length→inB (t.g.getD j 0) (b.vs.getD j default).g.lo (b.vs.getD j default).g.hi=true∧inB (t.d.getD j 0) (b.vs.getD j default).d.lo (b.vs.getD j default).d.hi=true)
  (h5:∀ j,j < b.ss.length→inB (t.m.getD j 0) (b.ss.getD j default).g.lo (b.ss.getD j default).g.hi=true):F7 b t=true:=by
 simp only [F7,Bool.and_eq_true,decide_eq_true_eq,List.all_eq_true,List.mem_range]
 exact ⟨h1,h2,h3,fun k hk=>h4 k hk,h5⟩
def prA (s:Sta):Liq:=⟨s.g,s.e⟩
def wei (s:Sta):Sta:=⟨s.g,s.e,Bf2 s.e s.g⟩
def Bhv (l:Liq):Sta:=⟨l.g,l.e,0⟩
def stL (v:List Liq):List (List PV):=v.map fun l=>Bag (Bby l)
theorem Bi6 (v:List Liq):stL v=(v.map Bby).map Bag:=by unfold stL; rw [List.map_map]; rfl
theorem Bky {S:List Sta} (h:∀ s ∈ S,0≤s.g):S.map wei=(S.map prA).map Bby:=by
 rw [List.map_map]
 refine List.map_congr_left fun s hs=>?_
 have:=Bmf (l:=prA s) (h s hs)
 show (⟨s.g,s.e,Bf2 s.e s.g⟩:Sta)=⟨s.g,s.e,Q8 (prA s)⟩
 rw [← this]; rfl
theorem Bn7 (v:List Liq):(v.map Bby).map prA=v:=by
 rw [List.map_map]; exact (List.map_congr_left fun l _=>rfl).trans (List.map_id v)
theorem Bom (v:List Liq):(v.map Bhv).map prA=v:=by
 rw [List.map_map]; exact (List.map_congr_left fun l _=>rfl).trans (List.map_id v)
theorem Bh6 (S:List Sta):((S.map Bag).all fun c=>decide (c.length=3))=true:=by simp
theorem Be8 {S:List Sta} {k:Nat} {x y z:Int}:(S.map Bag).set k [iv x,iv y,iv z]=(S.set k ⟨x,y,z⟩).map Bag:=by rw [List.map_set]
theorem Bhu {S:List Sta} {k j:Nat} {a:Sta}:(S.set k a).getD j default=if j=k∧k < S.length then a else S.getD j default:=by
 rw [List.getD_eq_getElem?_getD,List.getD_eq_getElem?_getD,List.getElem?_set]
 by_cases h:k=j
 ·subst h
  by_cases h2:k < S.length
  ·simp [h2]
  ·simp [h2]
 ·rw [if_neg h,if_neg (fun e=>h e.1.symm)]
theorem Bjj {v:List Liq} {k:Nat} (h:k < v.length):(v.map Bby).getD k default=Bby (B6 v k):=by
 unfold B6; rw [List.getD_eq_getElem?_getD,List.getD_eq_getElem?_getD,List.getElem?_map,List.getElem?_eq_getElem h]; rfl
theorem Bjo {e g:Int} (he:0≤e) (hg:0 < g):(0≤e / g∧e / g≤e)∧(0≤e / g * g∧e / g * g≤e):=by
 have h1:0≤e / g:=Int.ediv_nonneg he (by omega)
 exact ⟨⟨h1,Int.ediv_le_self _ he⟩,Int.mul_nonneg h1 (by omega),Int.ediv_mul_le e (by omega)⟩
theorem OkN.mem {n:Nat} {v:List Liq} (h:OkN n v) {l:Liq} (hl:l ∈ v):(0≤l.g∧l.g≤60)∧0≤l.e∧l.e≤28800:=by
 obtain ⟨k,hk⟩:=List.mem_iff_getElem?.1 hl
 have:=h.at k
 unfold B6 at this
 rwa [List.getD_eq_getElem?_getD,hk] at this
theorem Bn8 (v:List Liq) (k:Nat):(v.map Bhv).getD k default=Bhv (B6 v k):=by
 unfold B6; rw [List.getD_eq_getElem?_getD,List.getD_eq_getElem?_getD,List.getElem?_map]
 cases v[k]? <;> rfl
theorem Bk8 {n:Nat} {v:List Liq} (h:OkN n v) (k:Nat):(0≤((v.map Bhv).getD k default).e∧((v.map Bhv).getD k default).e≤1000000000)∧0≤((v.map Bhv).getD k default).g∧((v.map Bhv).getD k default).g≤1000000:=by
 have:=h.at k
 rw [Bn8]; simp only [Bhv]; omega
theorem Bnl {n:Nat} {v:List Liq} (h:OkN n v):((v.map Bhv).map wei).map Bag=stL v:=by
 rw [Bky,Bom,Bi6]
 intro s hs
 obtain ⟨l,hl,rfl⟩:=List.mem_map.1 hs
 exact (h.mem hl).1.1
abbrev Bj8 (gs ds:List Int) (k:Nat):Liq:=⟨gs.getD k 0,gs.getD k 0 * ds.getD k 0⟩
theorem Bm0 {acc R:List Liq} {is B:Bool} {vs:List Ves} {gs ds:List Int} (hk:acc.length < vs.length) (h1:acc++Bfm (vs.drop acc.length) gs ds acc.length=R) (h2:(is&&Bfe (vs.drop acc.length) gs acc.length)=B) :
  (acc++[Bj8 gs ds acc.length]).length≤vs.length ∧
  acc++[Bj8 gs ds acc.length]++Bfm (vs.drop (acc++[Bj8 gs ds acc.length]).length) gs ds (acc++[Bj8 gs ds acc.length]).length=R ∧
  (is&&decide (gs.getD acc.length 0≤(vs.getD acc.length default).room)&&Bfe (vs.drop (acc++[Bj8 gs ds acc.length]).length) gs (acc++[Bj8 gs ds acc.length]).length)=B:=by
 rw [Bk7 hk] at h1
 rw [Bld hk] at h2
 have hl:(acc++[Bj8 gs ds acc.length]).length=acc.length+1:=by simp
 rw [hl]
 refine ⟨by omega,?_,?_⟩
 ·rw [List.append_assoc]; exact h1
 ·rw [Bool.and_assoc]; exact h2
theorem Bn1 {a b:Int} (h1:0≤a∧a≤100000) (h2:0≤b∧b≤100000):0≤a * b∧a * b≤10000000000:=by
 have e1:=Int.mul_nonneg h1.1 h2.1
 have e2:=Int.mul_le_mul h1.2 h2.2 h2.1 (by omega)
 omega
theorem Bfl (l:Liq):(Bby l).g=l.g:=rfl
theorem Bfg (l:Liq):(Bby l).e=l.e:=rfl
theorem Bfr {S:List Sta} {k:Nat} {a:Sta} (h:k < S.length):(S.set k a).getD k default=a:=by rw [Bhu,if_pos ⟨rfl,h⟩]
theorem Bi7 {S:List Sta} {k j:Nat} {a:Sta} (h:j≠k):(S.set k a).getD j default=S.getD j default:=by rw [Bhu,if_neg fun e=>h e.1]
def SmA (S:List Sta):Prop:=∀ k,(0≤(S.getD k default).e∧(S.getD k default).e≤1000000000)∧0≤(S.getD k default).g∧(S.getD k default).g≤1000000
theorem Bef {S:List Sta} {k:Nat} {a:Sta} (h:SmA S) (ha:(0≤a.e∧a.e≤1000000000)∧0≤a.g∧a.g≤1000000):SmA (S.set k a):=fun j=>by
 rw [Bhu]; split
 ·exact ha
 ·exact h j
theorem Bop (v:List Liq) (k:Nat):(v.map Bby).getD k default=Bby (B6 v k):=by
 unfold B6; rw [List.getD_eq_getElem?_getD,List.getD_eq_getElem?_getD,List.getElem?_map]
 cases v[k]? <;> rfl
theorem Bol {n:Nat} {v:List Liq} (h:OkN n v):SmA (v.map Bby):=fun k=>by
 have:=h.at k
 rw [Bop,Bfl,Bfg]; omega
theorem Bnw {S:List Sta} {w:List Liq} (h:SmA S) (hw:S.map prA=w):(S.map wei).map Bag=(w.map Bby).map Bag:=by
 rw [Bky (fun s hs=>?_),hw]
 obtain ⟨k,hk⟩:=List.mem_iff_getElem?.1 hs
 have:=(h k).2.1
 rwa [List.getD_eq_getElem?_getD,hk] at this
theorem Be4 {v:List Liq} {k:Nat} (h:k < v.length) {a:Liq} (ha:a=B6 v k):v.set k a=v:=by
 subst ha
 refine List.ext_getElem? fun i=>?_
 rw [List.getElem?_set]
 split
 ·rename_i e; subst e; unfold B6; simp [List.getD,h]
 ·rfl
section
variable {vs:List Ves} {v:List Liq} {s:Stp} {n:Int}
theorem Bd7 (h:(doS vs v s n).2=false):doX vs v s n=(v,false):=by
 unfold doX; rw [if_neg (by rw [h]; decide)]
theorem Bmr {w:List Liq} (h:doS vs v s n=(w,true)):doX vs v s n=(w,true):=by
 unfold doX; rw [h]; rfl
theorem Bo0 (hk:s.kind=0) (h:(B6 v s.frm.toNat).g < n):doX vs v s n=(v,false):=by
 refine Bd7 ?_
 unfold doS Gv G8; rw [if_pos hk,if_pos h]; rfl
theorem Bku (hk:s.kind≠1) (hs:F4 vs.length s=true) (_:v.length=vs.length) (h:(B6 v s.frm.toNat).g < n):doX vs v s n=(v,false):=by
 by_cases h0:s.kind=0
 ·exact Bo0 h0 h
 ·obtain ⟨_,q2,q3,q4,_⟩:=Fp hs
  refine Bd7 ?_
  unfold doS Gv Yd; rw [if_neg h0,if_neg hk]
  dsimp only
  rw [decide_eq_false (show ¬ 0 < (B6 v s.frm.toNat).g - n by omega),decide_eq_false (show ¬ (B6 v s.frm.toNat).g - n=0 by omega)]; rfl
theorem doA {v w:List Liq} {S:List Sta} {b:Bool} (hS:S=v.map Bby) (h:doX vs v s n=(w,b)) (hw:w=v) (hb:b=false):(AV.tup [.p (.sl (S.map Bag)),.p (.val (.bool false))])=.tup [.p (.sl (((doX vs v s n).1.map Bby).map Bag)),bl (doX vs v s n).2]:=by
 rw [h,hS,hw,hb]
theorem doB {v w:List Liq} {S:List Sta} (h:doS vs v s n=(w,true)) (hs:SmA S) (hw:S.map prA=w):(AV.tup [.p (.sl ((S.map wei).map Bag)),.p (.val (.bool true))])=.tup [.p (.sl (((doX vs v s n).1.map Bby).map Bag)),bl (doX vs v s n).2]:=by
 rw [Bmr h,Bnw hs hw]
theorem Bfd (hk:s.kind=0) (hs:F4 vs.length s=true) (hl:v.length=vs.length) (h:¬ (B6 v s.frm.toNat).g < n) (hn:0 < n) :
  doS vs v s n=((v.set s.frm.toNat ⟨(B6 v s.frm.toNat).g - n,(B6 v s.frm.toNat).e - G2 v s.frm.toNat n⟩).set s.to.toNat ⟨(B6 v s.to.toNat).g+n,(B6 v s.to.toNat).e+G2 v s.frm.toNat n⟩,decide ((B6 v s.to.toNat).g+n≤(vs.getD s.to.toNat default).room)):=by
 obtain ⟨_,q2,q3,q4,_⟩:=Fp hs
 have hne:¬ (s.to.toNat=s.frm.toNat∧s.frm.toNat < v.length):=by omega
 unfold doS Gv G8; rw [if_pos hk,if_neg h,if_pos hn]
 unfold Mj J1
 dsimp only
 rw [Mx (v:=v.set _ _),if_pos ⟨rfl,by rw [List.length_set]; omega⟩,Mx,if_neg hne]
 simp
theorem Be5 (hk:s.kind=0) (h:¬ (B6 v s.frm.toNat).g < n) (hn:¬ 0 < n):doS vs v s n=(v,decide ((B6 v s.to.toNat).g≤(vs.getD s.to.toNat default).room)):=by
 unfold doS Gv G8; rw [if_pos hk,if_neg h,if_neg hn]; simp
theorem Be3 (hk:s.kind=1) (hs:F4 vs.length s=true) (hl:v.length=vs.length):doS vs v s n=(v.set s.to.toNat ⟨(B6 v s.to.toNat).g+n,(B6 v s.to.toNat).e⟩,decide ((B6 v s.to.toNat).g+n≤(vs.getD s.to.toNat default).room)):=by
 obtain ⟨_,q2,q3,q4,_⟩:=Fp hs
 unfold doS Gv P0; rw [if_neg (by omega),if_pos hk]
 dsimp only
 rw [Mx,if_pos ⟨rfl,by omega⟩]
 simp
theorem Bet (hk:s.kind=2) (hs:F4 vs.length s=true) (hl:v.length=vs.length) (hr:Bht vs v) (hn:0≤n):doS vs v s n=(v.set s.frm.toNat ⟨(B6 v s.frm.toNat).g - n,(B6 v s.frm.toNat).e⟩,decide (0 < (B6 v s.frm.toNat).g - n)||(decide ((B6 v s.frm.toNat).g - n=0)&&decide ((B6 v s.frm.toNat).e=0))):=by
 obtain ⟨_,q2,q3,q4,_⟩:=Fp hs
 have e:s.to.toNat=s.frm.toNat:=by omega
 have hrr:=hr s.frm.toNat (by omega)
 unfold doS Gv Yd; rw [if_neg (by omega),if_neg (by omega)]
 dsimp only
 rw [e,Mx,if_pos ⟨rfl,by omega⟩]
 rw [decide_eq_true (show (B6 v s.frm.toNat).g - n≤(vs.getD s.frm.toNat default).room by omega),Bool.and_true]
end
theorem Biu:∀ {vs:List Ves} {gs ds:List Int} {i:Nat},Bfe vs gs i=true→∀ k,k < vs.length→(B6 (Bfm vs gs ds i) k).g≤(vs.getD k default).room
 | [],_,_,_,_,k,hk=>by cases hk
 | x :: vs,gs,ds,i,h,k,hk=>by
  unfold Bfe at h
  rw [Bool.and_eq_true,decide_eq_true_eq] at h
  unfold Bfm
  cases k with
  | zero=>exact h.1
  | succ k=>exact Biu h.2 k (by simpa using hk)
theorem Bjf {vs:List Ves} {gs ds:List Int} (h:Bhp vs gs=true):Bht vs (Bfq vs gs ds):=fun k hk=>Biu h k hk
def Bfk:List Ves→Int→List Int × List Int × Int
 | [],n=>([],[],n)
 | v :: l,n=>((v.g.lo+n % Fa v.g) :: (Bfk l (n / Fa v.g / Fa v.d)).1,(v.d.lo+n / Fa v.g % Fa v.d) :: (Bfk l (n / Fa v.g / Fa v.d)).2.1,(Bfk l (n / Fa v.g / Fa v.d)).2.2)
def Bgs:List Stp→Int→List Int
 | [],_=>[]
 | s :: l,n=>(s.g.lo+n % Fa s.g) :: Bgs l (n / Fa s.g)
def Bhc (b:Eg) (n:Int):Tru:=⟨(Bfk b.vs n).1,(Bfk b.vs n).2.1,Bgs b.ss (Bfk b.vs n).2.2⟩
theorem Bip {α:Type} {l:List α} {k:Nat} (d:α) (h:k < l.length):l.drop k=l.getD k d :: l.drop (k+1):=by
 rw [List.drop_eq_getElem_cons h]; simp [List.getD,h]
abbrev Bn3 (v:Ves) (n:Int):Int:=n / Fa v.g / Fa v.d
def Ble (gs ds:List Int) (r:List Int × List Int × Int):List Int × List Int × Int:=(gs++r.1,ds++r.2.1,r.2.2)
theorem Blw {vs:List Ves} {gs ds:List Int} {n:Int} {R:List Int × List Int × Int} (hk:gs.length < vs.length) (h:Ble gs ds (Bfk (vs.drop gs.length) n)=R) (a c:Int)
  (ha:a=(vs.getD gs.length default).g.lo+n % Fa (vs.getD gs.length default).g) (hc:c=(vs.getD gs.length default).d.lo+n / Fa (vs.getD gs.length default).g % Fa (vs.getD gs.length default).d) :
  Ble (gs++[a]) (ds++[c]) (Bfk (vs.drop (gs++[a]).length) (Bn3 (vs.getD gs.length default) n))=R:=by
 subst ha hc
 rw [Bip default hk] at h
 rw [List.length_append,List.length_singleton]
 rw [← h]
 simp [Ble,Bfk]
theorem Bnp {vs:List Ves} {gs ds:List Int} {n:Int} {R:List Int × List Int × Int} (hk:vs.length≤gs.length) (h:Ble gs ds (Bfk (vs.drop gs.length) n)=R):R=(gs,ds,n):=by
 rw [List.drop_of_length_le hk] at h
 rw [← h]; simp [Ble,Bfk]
theorem Bla {ss:List Stp} {ms:List Int} {n:Int} {R:List Int} (hk:ms.length < ss.length) (h:ms++Bgs (ss.drop ms.length) n=R) (a:Int) (ha:a=(ss.getD ms.length default).g.lo+n % Fa (ss.getD ms.length default).g) :
  (ms++[a])++Bgs (ss.drop (ms++[a]).length) (n / Fa (ss.getD ms.length default).g)=R:=by
 subst ha
 rw [Bip default hk] at h
 rw [List.length_append,List.length_singleton,← h]
 simp [Bgs]
theorem Bnb {ss:List Stp} {ms:List Int} {n:Int} {R:List Int} (hk:ss.length≤ms.length) (h:ms++Bgs (ss.drop ms.length) n=R):R=ms:=by
 rw [List.drop_of_length_le hk] at h
 rw [← h]; simp [Bgs]
theorem Bj2 {m s:Int} (h0:0≤m) (h1:1≤s):0≤m / s∧m / s≤m:=⟨Int.ediv_nonneg h0 (by omega),Int.ediv_le_self _ h0⟩
theorem Bib {m s:Int} (h1:1≤s):0≤m % s∧m % s < s:=⟨Int.emod_nonneg _ (by omega),Int.emod_lt_of_pos _ (by omega)⟩
theorem Bjb:∀ (l:List Ves) (n:Int),(Bfk l n).1.length=l.length∧(Bfk l n).2.1.length=l.length
 | [],_=>⟨rfl,rfl⟩
 | v :: l,n=>by
  obtain ⟨h1,h2⟩:=Bjb l (n / Fa v.g / Fa v.d)
  unfold Bfk
  simp only [List.length_cons,h1,h2,and_self]
theorem Bjn:∀ (l:List Stp) (n:Int),(Bgs l n).length=l.length
 | [],_=>rfl
 | s :: l,n=>by unfold Bgs; rw [List.length_cons,Bjn,List.length_cons]
theorem Bi4 {r:Rng} {n:Int} (h:1≤Fa r):inB (r.lo+n % Fa r) r.lo r.hi=true:=by
 have:=Bib (m:=n) h
 unfold Fa at *
 simp only [inB,Bool.and_eq_true,decide_eq_true_eq]; omega
theorem Bkm:∀ {l:List Ves} (n:Int),l.all Er=true→∀ k,k < l.length→inB ((Bfk l n).1.getD k 0) (l.getD k default).g.lo (l.getD k default).g.hi=true∧inB ((Bfk l n).2.1.getD k 0) (l.getD k default).d.lo (l.getD k default).d.hi=true
 | [],_,_,k,hk=>by cases hk
 | v :: l,n,hv,k,hk=>by
  rw [List.all_cons,Bool.and_eq_true] at hv
  obtain ⟨h1,h2,_⟩:=C9 hv.1
  cases k with
  | zero=>exact ⟨Bi4 (Pu h1).1,Bi4 (Pu h2).1⟩
  | succ k=>exact Bkm (n / Fa v.g / Fa v.d) hv.2 k (by simpa using hk)
theorem Bkx:∀ {l:List Stp} {c:Int} (n:Int),l.all (F4 c)=true→∀ k,k < l.length→inB ((Bgs l n).getD k 0) (l.getD k default).g.lo (l.getD k default).g.hi=true
 | [],_,_,_,k,hk=>by cases hk
 | s :: l,c,n,hv,k,hk=>by
  rw [List.all_cons,Bool.and_eq_true] at hv
  have h1:=(Fp hv.1).2.2.2.2
  cases k with
  | zero=>exact Bi4 (Pu h1).1
  | succ k=>exact Bkx (n / Fa s.g) hv.2 k (by simpa using hk)
theorem Bgg {b:Eg} (hv:N3 b) (n:Int):F7 b (Bhc b n)=true:=by
 obtain ⟨h1,h2⟩:=Bjb b.vs n
 exact Bkg h1 h2 (Bjn _ _) (Bkm n hv.v) (Bkx _ hv.s)
theorem Beo {v:List Liq} {k:Nat} (h:k < v.length):(stL v).getD k []=Bag (Bby (B6 v k)):=by
 unfold stL B6
 rw [List.getD_eq_getElem?_getD,List.getD_eq_getElem?_getD,List.getElem?_map,List.getElem?_eq_getElem h]; rfl
theorem Bix {b:Eg} (hv:N3 b) {m:List Int} (hm:∀ k,0≤m.getD k 0):∀ (ss:List Stp) (k:Nat) (r:List Liq × Bool),ss.all (F4 b.vs.length)=true→OkN b.vs.length r.1→OkN b.vs.length (Bes b.vs m ss k r).1
 | [],_,_,_,h=>h
 | s :: ss,k,r,hs,h=>by
  rw [List.all_cons,Bool.and_eq_true] at hs
  unfold Bes
  split
  ·exact h
  ·exact Bix hv hm ss (k+1) _ hs.2 (Bm6 h hv.nv hv.v hs.1 (hm k))
theorem Bmh {b:Eg} {t:Tru} (hv:N3 b) (hl:F7 b t=true):OkN b.vs.length (Beh b t).1:=
 Bix hv (fun k=>((Lc hv hl).2.2 k).1) _ _ _ hv.s (Bgz hv hl)
theorem Bnm {l:Liq} (hg:0≤l.g∧l.g≤60) (he:0≤l.e∧l.e≤28800):0≤Q8 l∧Q8 l≤57660:=by
 unfold Q8
 split
 ·omega
 ·have h1:=Int.ediv_nonneg (show 0≤2 * l.e+l.g by omega) (show 0≤2 * l.g by omega)
  have h2:=Int.ediv_le_self (2 * l.g) (show 0≤2 * l.e+l.g by omega)
  omega
def Be6 (f:Int→List (List Int)):Nat→Int→List (List Int)
 | 0,_=>[]
 | c+1,n=>f n++Be6 f c (n+1)
def Bea:List Rng→List Int→List (List Int)
 | [],p=>[p]
 | r :: rs,p=>Be6 (fun n=>Bea rs (p++[n])) (Fa r).toNat r.lo
theorem Beq {f:Int→List (List Int)} {sz n:Nat} {lo:Int} (h:n < sz):Be6 f (sz - n) (lo+n)=f (lo+n)++Be6 f (sz - (n+1)) (lo+(n+1:Nat)):=by
 rw [show sz - n=(sz - (n+1))+1 by omega,show lo+((n+1:Nat):Int)=lo+n+1 by omega]; rfl
theorem Bgc {f:Int→List (List Int)} {sz n:Nat} {lo:Int} (h:sz≤n):Be6 f (sz - n) lo=[]:=by
 rw [show sz - n=0 by omega]; rfl
theorem Bgj {f:Int→List (List Int)} {x:List Int}:∀ (c:Nat) (n:Int) (k:Nat),k < c→x ∈ f (n+k)→x ∈ Be6 f c n
 | 0,_,k,hk,_=>by omega
 | c+1,n,0,_,h=>by
  simp only [Be6,List.mem_append]
  left; simpa using h
 | c+1,n,k+1,hk,h=>by
  simp only [Be6,List.mem_append]
  right
  refine Bgj c (n+1) k (by omega) ?_
  rw [show n+1+(k:Int)=n+((k+1:Nat):Int) by omega]; exact h
theorem Bhz {f:Int→List (List Int)} {x:List Int}:∀ (c:Nat) (n:Int),x ∈ Be6 f c n→∃ k:Nat,k < c∧x ∈ f (n+k)
 | 0,_,h=>by cases h
 | c+1,n,h=>by
  simp only [Be6,List.mem_append] at h
  rcases h with h | h
  ·exact ⟨0,by omega,by simpa using h⟩
  ·obtain ⟨k,h1,h2⟩:=Bhz c (n+1) h
   exact ⟨k+1,by omega,by rw [show n+((k+1:Nat):Int)=n+1+k by omega]; exact h2⟩
theorem Bhj {α:Type} {l:List α} {i:Nat} (d:α) (h:i < l.length):l.drop i=l.getD i d :: l.drop (i+1):=by
 rw [List.drop_eq_getElem_cons h]; simp [List.getD,h]
theorem Bkf {rs:List Rng} {cur:List Int} {d:Rng} (h:cur.length < rs.length):Bea (rs.drop cur.length) cur=Be6 (fun n=>Bea (rs.drop (cur.length+1)) (cur++[n])) ((Fa (rs.getD cur.length d)).toNat - 0) ((rs.getD cur.length d).lo+(0:Nat)):=by
 rw [Bhj d h,Nat.sub_zero]; simp only [Bea,Int.natCast_zero,Int.add_zero]
theorem Bk6 {rs:List Rng} {cur:List Int} (h:rs.length≤cur.length):Bea (rs.drop cur.length) cur=[cur]:=by
 rw [List.drop_of_length_le h]; rfl
def Bjc:List Rng→List Int→Prop
 | [],[]=>True
 | r :: rs,x :: l=>(r.lo≤x∧x≤r.hi)∧Bjc rs l
 | _,_=>False
theorem Bf8:∀ (rs:List Rng) (p x:List Int),x ∈ Bea rs p↔∃ y,x=p++y∧Bjc rs y
 | [],p,x=>by
  simp only [Bea,List.mem_singleton]
  constructor
  ·intro h; exact ⟨[],by simpa using h,trivial⟩
  ·rintro ⟨y,rfl,hy⟩
   cases y with
   | nil=>simp
   | cons a l=>exact hy.elim
 | r :: rs,p,x=>by
  simp only [Bea]
  constructor
  ·intro h
   obtain ⟨k,h1,h2⟩:=Bhz _ _ h
   obtain ⟨y,rfl,hy⟩:=(Bf8 rs _ x).1 h2
   refine ⟨(r.lo+k) :: y,by simp,⟨?_,?_⟩,hy⟩
   ·omega
   ·unfold Fa at h1; omega
  ·rintro ⟨y,rfl,hy⟩
   cases y with
   | nil=>exact hy.elim
   | cons a l=>
    obtain ⟨⟨h1,h2⟩,h3⟩:=hy
    refine Bgj _ _ (a - r.lo).toNat (by unfold Fa; omega) ((Bf8 rs _ _).2 ⟨l,?_,h3⟩)
    rw [show r.lo+((a - r.lo).toNat:Int)=a by omega]; simp
theorem Bit:∀ {rs:List Rng} {l:List Int},Bjc rs l→l.length=rs.length
 | [],[],_=>rfl
 | [],_ :: _,h=>h.elim
 | _ :: _,[],h=>h.elim
 | _ :: rs,_ :: l,h=>by simp [Bit h.2]
def Bfh (k:Nat) (x:List Int):Tru:=⟨x.take k,(x.take (2 * k)).drop k,x.drop (2 * k)⟩
theorem Bmb {k:Nat} {x:List Int}:(Bfh k x).g++((Bfh k x).d++(Bfh k x).m)=x:=by
 show x.take k++((x.take (2 * k)).drop k++x.drop (2 * k))=x
 rw [← List.append_assoc]
 have:x.take k++(x.take (2 * k)).drop k=x.take (2 * k):=by
  rw [show x.take k=(x.take (2 * k)).take k by rw [List.take_take]; congr 1; omega]
  exact List.take_append_drop _ _
 rw [this]; exact List.take_append_drop _ _
theorem Bir:∀ {rs:List Rng} {x:List Int},Bjc rs x→∀ k,k < rs.length→Jk (rs.getD k default) (x.getD k 0)=true
 | [],[],_,k,hk=>by simp at hk
 | [],_ :: _,h,_,_=>h.elim
 | _ :: _,[],h,_,_=>h.elim
 | r :: rs,n :: x,h,0,_=>by
  simp only [Jk,inB,List.getD_cons_zero,Bool.and_eq_true,decide_eq_true_eq]
  exact h.1
 | r :: rs,n :: x,h,k+1,hk=>by
  simp only [List.getD_cons_succ]
  exact Bir h.2 k (by simpa using hk)
theorem Bft {b:Eg} {x:List Int} (h:x ∈ Bea (Fy b) []):F7 b (Bfh b.vs.length x)=true:=by
 obtain ⟨y,e,hy⟩:=(Bf8 _ _ _).1 h
 rw [List.nil_append] at e
 subst e
 have hl:=Bit hy
 rw [Qo] at hl
 refine Ajj (by simp [Bfh]; omega) (by simp [Bfh]; omega) (by simp [Bfh]; omega) fun k hk=>?_
 rw [show Js (Bfh b.vs.length x)=x by
  have e:Js (Bfh b.vs.length x)=(Bfh b.vs.length x).g++((Bfh b.vs.length x).d++(Bfh b.vs.length x).m):=by simp [Js]
  rw [e,Bmb]]
 exact Bir hy k hk
theorem Bn4 {v:List Liq} (h:OkV v):(wI v).all inR=true:=by
 have hk:=Bbw (s:=⟨0,0,0,⟨0,0⟩⟩) (n:=0) (v:=v) (by decide) (by decide) h.small
 unfold kD at hk
 simp only [List.all_cons,Bool.and_eq_true] at hk
 exact hk.2.2.2.2.2.2
theorem Bmy:∀ {v w:List Liq},wI v=wI w→v=w
 | [],[],_=>rfl
 | [],_ :: _,h=>by simp [wI] at h
 | _ :: _,[],h=>by simp [wI] at h
 | l :: v,m :: w,h=>by
  have h':l.g :: l.e :: wI v=m.g :: m.e :: wI w:=h
  injection h' with h1 h2
  injection h2 with h2 h3
  rw [Bmy h3]
  cases l; cases m; cases h1; cases h2; rfl
theorem Bil (v:List Liq):Cn (cW v)=some (wI v):=Vi _
structure Bnd where
 g:Rng
 e:Rng
 k:Rng
instance:Inhabited Bnd:=⟨⟨⟨0,0⟩,⟨0,0⟩,⟨0,0⟩⟩⟩
theorem Bmz {s x n:Int} (h0:0≤x) (h1:x < s) (hn:0≤n):(x+s * n) % s=x∧(x+s * n) / s=n∧0≤x+s * n∧∀ R,n < R→x+s * n < s * R:=by
 refine ⟨?_,?_,?_,fun R hR=>?_⟩
 ·rw [Int.add_mul_emod_self_left,Int.emod_eq_of_lt h0 h1]
 ·rw [Int.add_mul_ediv_left _ _ (by omega),Int.ediv_eq_zero_of_lt h0 h1]; omega
 ·have:=Int.mul_nonneg (show 0≤s by omega) hn; omega
 ·have:=Int.mul_le_mul_of_nonneg_left (show n+1≤R by omega) (show 0≤s by omega)
  rw [Int.mul_add,Int.mul_one] at this
  omega
theorem Bgi (r:Rng) (l:List Rng):Ma (r :: l) 1=Fa r * Ma l 1:=by
 show Ma l (1 * Fa r)=_
 rw [Bg4,Int.mul_comm]
theorem Bij:∀ (l:List Stp) (ms:List Int),ms.length=l.length→(∀ k,k < l.length→(l.getD k default).g.lo≤ms.getD k 0∧ms.getD k 0≤(l.getD k default).g.hi)→∃ n,0≤n∧n < Ma (l.map (·.g)) 1∧Bgs l n=ms
 | [],[],_,_=>⟨0,Int.le_refl _,by decide,rfl⟩
 | [],_ :: _,h,_=>by cases h
 | _ :: _,[],h,_=>by cases h
 | s :: l,m :: ms,hl,h=>by
  obtain ⟨n,h1,h2,h3⟩:=Bij l ms (by simpa using hl) (fun k hk=>h (k+1) (by simpa using hk))
  have h0:=h 0 (by simp)
  simp only [List.getD_cons_zero] at h0
  obtain ⟨d1,d2,d3,d4⟩:=Bmz (s:=Fa s.g) (x:=m - s.g.lo) (n:=n) (by omega) (by unfold Fa; omega) h1
  refine ⟨m - s.g.lo+Fa s.g * n,d3,?_,?_⟩
  ·rw [List.map_cons,Bgi]; exact d4 _ h2
  ·unfold Bgs
   rw [d1,d2,h3,show s.g.lo+(m - s.g.lo)=m by omega]
theorem Biz:∀ (l:List Ves) (gs ds:List Int) (r:Int),gs.length=l.length→ds.length=l.length→0≤r →
  (∀ k,k < l.length→((l.getD k default).g.lo≤gs.getD k 0∧gs.getD k 0≤(l.getD k default).g.hi)∧(l.getD k default).d.lo≤ds.getD k 0∧ds.getD k 0≤(l.getD k default).d.hi) →
  ∃ n,0≤n∧(∀ R,r < R→n < Ma (Be7 l) 1 * R)∧Bfk l n=(gs,ds,r)
 | [],[],[],r,_,_,hr,_=>⟨r,hr,fun R h=>by show r < 1 * R; omega,rfl⟩
 | [],_ :: _,_,_,h,_,_,_=>by cases h
 | [],_,_ :: _,_,_,h,_,_=>by cases h
 | _ :: _,[],_,_,h,_,_,_=>by cases h
 | _ :: _,_,[],_,_,h,_,_=>by cases h
 | v :: l,g :: gs,d :: ds,r,hg,hd,hr,h=>by
  obtain ⟨n,h1,h2,h3⟩:=Biz l gs ds r (by simpa using hg) (by simpa using hd) hr (fun k hk=>h (k+1) (by simpa using hk))
  have h0:=h 0 (by simp)
  simp only [List.getD_cons_zero] at h0
  obtain ⟨a1,a2,a3,a4⟩:=Bmz (s:=Fa v.d) (x:=d - v.d.lo) (n:=n) (by omega) (by unfold Fa; omega) h1
  obtain ⟨b1,b2,b3,b4⟩:=Bmz (s:=Fa v.g) (x:=g - v.g.lo) (n:=d - v.d.lo+Fa v.d * n) (by omega) (by unfold Fa; omega) a3
  refine ⟨_,b3,fun R hR=>?_,?_⟩
  ·have e:Ma (Be7 (v :: l)) 1=Fa v.g * (Fa v.d * Ma (Be7 l) 1):=by
    show Ma (v.g :: v.d :: Be7 l) 1=_
    rw [Bgi,Bgi]
   rw [e,Int.mul_assoc,Int.mul_assoc]
   exact b4 _ (a4 _ (h2 R hR))
  ·unfold Bfk
   rw [b2,b1,a2,a1,h3,show v.g.lo+(g - v.g.lo)=g by omega,show v.d.lo+(d - v.d.lo)=d by omega]
theorem Bm3 {b:Eg} {t:Tru} (h:F7 b t=true):∃ n,0≤n∧n < Bey b∧Bhc b n=t:=by
 obtain ⟨h1,h2,h3,h4,h5⟩:=Dk h
 obtain ⟨r,r1,r2,r3⟩:=Bij b.ss t.m h3 h5
 obtain ⟨n,n1,n2,n3⟩:=Biz b.vs t.g t.d r h1 h2 r1 h4
 refine ⟨n,n1,?_,?_⟩
 ·have e:Bey b=Ma (Be7 b.vs) 1 * Ma (b.ss.map (·.g)) 1:=by
   unfold Bey
   rw [Bex]
   conv=>lhs; rw [← Int.one_mul (Ma (Be7 b.vs) 1)]
   rw [Bg4,Int.mul_comm]
  rw [e]; exact n2 _ r2
 ·unfold Bhc; rw [n3,r3]
def Bj9 (b:Eg) (v:List Liq):Prop:=∃ t,F7 b t=true∧(Beh b t).2=true∧v=(Beh b t).1
def Bhm (b:Eg):Nat→List (List Liq)
 | 0=>[]
 | k+1=>if (Beh b (Bhc b k)).2=true then Bhm b k++[(Beh b (Bhc b k)).1] else Bhm b k
def Bg7 (b:Eg):List (List Liq):=Bhm b (Bey b).toNat
theorem Bhk {b:Eg} {v:List Liq}:∀ k:Nat,v ∈ Bhm b k↔∃ n,n < k∧(Beh b (Bhc b (n:Nat))).2=true∧v=(Beh b (Bhc b n)).1
 | 0=>by
  constructor
  ·intro h; cases h
  ·rintro ⟨n,h,_⟩; omega
 | k+1=>by
  have ih:=Bhk (b:=b) (v:=v) k
  unfold Bhm
  constructor
  ·intro h
   split at h
   ·rename_i hx
    rcases List.mem_append.1 h with h | h
    ·obtain ⟨n,h1,h2⟩:=ih.1 h; exact ⟨n,by omega,h2⟩
    ·exact ⟨k,by omega,hx,List.mem_singleton.1 h⟩
   ·obtain ⟨n,h1,h2⟩:=ih.1 h; exact ⟨n,by omega,h2⟩
  ·rintro ⟨n,h1,h2,h3⟩
   by_cases e:n=k
   ·subst e
    rw [if_pos h2]; exact List.mem_append_right _ (List.mem_singleton.2 h3)
   ·have:=ih.2 ⟨n,by omega,h2,h3⟩
    split
    ·exact List.mem_append_left _ this
    ·exact this
theorem Bh9 {b:Eg} (hv:N3 b) {v:List Liq}:v ∈ Bg7 b↔Bj9 b v:=by
 unfold Bg7
 rw [Bhk]
 constructor
 ·rintro ⟨n,_,h2,h3⟩; exact ⟨_,Bgg hv n,h2,h3⟩
 ·rintro ⟨t,h1,h2,h3⟩
  obtain ⟨n,a1,a2,rfl⟩:=Bm3 h1
  refine ⟨n.toNat,by omega,?_⟩
  rw [show ((n.toNat:Nat):Int)=n by omega]
  exact ⟨h2,h3⟩
theorem Bjg:∀ {rs:List Rng} {x:List Int},x.length=rs.length→(∀ k,k < rs.length→Jk (rs.getD k default) (x.getD k 0)=true)→Bjc rs x
 | [],[],_,_=>trivial
 | [],_ :: _,h,_=>by cases h
 | _ :: _,[],h,_=>by cases h
 | r :: rs,n :: x,hl,h=>by
  refine ⟨?_,Bjg (by simpa using hl) fun k hk=>h (k+1) (by simpa using hk)⟩
  have:=h 0 (by simp)
  simpa only [Jk,inB,List.getD_cons_zero,Bool.and_eq_true,decide_eq_true_eq] using this
theorem Bkk {b:Eg} {t:Tru} (h:F7 b t=true):∃ x ∈ Bea (Fy b) [],Bfh b.vs.length x=t:=by
 obtain ⟨h1,h2,h3,_⟩:=Dk h
 have e:Js t=t.g++(t.d++t.m):=by simp [Js]
 refine ⟨Js t,(Bf8 _ _ _).2 ⟨Js t,rfl,Bjg (by rw [An8,Qo]; omega) fun k hk=>Kn h hk⟩,?_⟩
 unfold Bfh
 rw [e]
 have a1:(t.g++(t.d++t.m)).take b.vs.length=t.g:=by rw [← h1]; exact List.take_left
 have a2:(t.g++(t.d++t.m)).drop (2 * b.vs.length)=t.m:=by
  rw [← List.append_assoc,show 2 * b.vs.length=(t.g++t.d).length by rw [List.length_append]; omega]
  exact List.drop_left
 have a3:((t.g++(t.d++t.m)).take (2 * b.vs.length)).drop b.vs.length=t.d:=by
  rw [← List.append_assoc,show 2 * b.vs.length=(t.g++t.d).length by rw [List.length_append]; omega,List.take_left,← h1]
  exact List.drop_left
 rw [a1,a2,a3]
theorem Bm1 {b:Eg} (hv:N3 b) {v:List Liq}:Bj9 b v↔∃ x ∈ Bea (Fy b) [],(Md b (Bfh b.vs.length x)).2=true∧v=(Md b (Bfh b.vs.length x)).1.take b.vs.length:=by
 constructor
 ·rintro ⟨t,h1,h2,rfl⟩
  obtain ⟨x,hx,rfl⟩:=Bkk h1
  obtain ⟨e1,e2⟩:=Bgv (Bfh b.vs.length x) hv
  exact ⟨x,hx,e1.trans h2,(e2 (e1.trans h2)).symm⟩
 ·rintro ⟨x,hx,h2,rfl⟩
  obtain ⟨e1,e2⟩:=Bgv (Bfh b.vs.length x) hv
  exact ⟨_,Bft hx,e1.symm.trans h2,e2 h2⟩
def Bd6:List Int→List Int→Bool
 | [],[]=>false
 | [],_ :: _=>true
 | _ :: _,[]=>false
 | a :: r,b :: s=>if a=b then Bd6 r s else decide (a < b)
theorem Bhh {l:List Int} {k:Nat} (h:k < l.length):l.drop k=l.getD k 0 :: l.drop (k+1):=by
 rw [List.drop_eq_getElem_cons h]; simp [List.getD,h]
theorem Bf1 {a b:List Int} {k:Nat} (h1:k < a.length) (h2:k < b.length):Bd6 (a.drop k) (b.drop k)=if a.getD k 0=b.getD k 0 then Bd6 (a.drop (k+1)) (b.drop (k+1)) else decide (a.getD k 0 < b.getD k 0):=by
 rw [Bhh h1,Bhh h2]; rfl
theorem Bh1 {a b:List Int} {k:Nat} (h:¬ (k < a.length∧k < b.length)) (h1:k≤a.length) (h2:k≤b.length):Bd6 (a.drop k) (b.drop k)=decide ((a.length:Int) < b.length):=by
 by_cases he:k < a.length
 ·have:k=b.length:=by omega
  subst this
  rw [Bhh he,List.drop_length]
  have:¬ ((a.length:Int) < b.length):=by omega
  simp [Bd6]; omega
 ·have:k=a.length:=by omega
  subst this
  rw [List.drop_length]
  by_cases ht:a.length < b.length
  ·rw [Bhh ht]
   simp [Bd6,ht]
  ·have:a.length=b.length:=by omega
   rw [this,List.drop_length]
   simp [Bd6]
def Bd5 (a b:List Int):Bool:=decide (a.length < b.length)||(decide (a.length=b.length)&&Bd6 a b)
theorem Bh0:∀ a:List Int,Bd6 a a=false
 | []=>rfl
 | x :: a=>by simp only [Bd6,if_true]; exact Bh0 a
theorem Bf3:∀ {a b:List Int},a.length=b.length→Bd6 a b=false→Bd6 b a=false→a=b
 | [],[],_,_,_=>rfl
 | x :: a,y :: b,hl,h1,h2=>by
  simp only [Bd6] at h1 h2
  by_cases e:x=y
  ·subst e
   rw [if_pos rfl] at h1 h2
   rw [Bf3 (by simpa using hl) h1 h2]
  ·rw [if_neg e] at h1
   rw [if_neg (fun h=>e h.symm)] at h2
   have:=of_decide_eq_false h1; have:=of_decide_eq_false h2
   omega
 | [],_ :: _,h,_,_=>by simp at h
 | _ :: _,[],h,_,_=>by simp at h
theorem Bgu:∀ {a b c:List Int},Bd6 a b=true→Bd6 b c=true→Bd6 a c=true
 | [],[],c,h,_=>by cases h
 | [],_ :: _,[],_,h=>by cases h
 | [],_ :: _,_ :: _,_,_=>rfl
 | _ :: _,[],c,h,_=>by cases h
 | _ :: _,_ :: _,[],_,h=>by cases h
 | x :: a,y :: b,z :: c,h1,h2=>by
  simp only [Bd6] at h1 h2 ⊢
  split at h1
  ·rename_i e; subst e
   split at h2
   ·rename_i e; rw [if_pos e]; exact Bgu h1 h2
   ·rename_i e; rw [if_neg e]; exact h2
  ·rename_i e
   have h1:=of_decide_eq_true h1
   split at h2
   ·rename_i e2; subst e2; rw [if_neg e]; exact decide_eq_true h1
   ·have h2:=of_decide_eq_true h2
    rw [if_neg (by omega)]; exact decide_eq_true (by omega)
theorem Bfx {a b:List Int}:Bd5 a b=true↔a.length < b.length∨(a.length=b.length∧Bd6 a b=true):=by simp [Bd5]
theorem Bhb (a:List Int):Bd5 a a=false:=by simp [Bd5,Bh0]
theorem Bji (a:List Int):Bd5 a []=false:=by cases a <;> simp [Bd5,Bd6]
theorem Bid {a b:List Int} (h1:Bd5 a b=false) (h2:Bd5 b a=false):a=b:=by
 have g1:¬ Bd5 a b=true:=by simp [h1]
 have g2:¬ Bd5 b a=true:=by simp [h2]
 rw [Bfx] at g1 g2
 have hl:a.length=b.length:=by omega
 refine Bf3 hl ?_ ?_
 ·cases h:Bd6 a b
  ·rfl
  ·exact absurd (.inr ⟨hl,h⟩) g1
 ·cases h:Bd6 b a
  ·rfl
  ·exact absurd (.inr ⟨hl.symm,h⟩) g2
theorem Bgb {a b c:List Int} (h1:Bd5 a b=true) (h2:Bd5 b c=true):Bd5 a c=true:=by
 rw [Bfx] at *
 rcases h1 with h1 | ⟨h1,g1⟩ <;> rcases h2 with h2 | ⟨h2,g2⟩
 ·left; omega
 ·left; omega
 ·left; omega
 ·exact .inr ⟨by omega,Bgu g1 g2⟩
def Bew (P:List Int→Prop) (x:List Int):Prop:=P x∧∀ y,P y→Bd5 y x=false
theorem Bew.unique {P:List Int→Prop} {x y:List Int} (h:Bew P x) (h2:Bew P y):x=y:=Bid (h2.2 _ h.1) (h.2 _ h2.1)
theorem Bew.congr {P Q:List Int→Prop} {x:List Int} (h:Bew P x) (e:∀ y,P y↔Q y):Bew Q x:=⟨(e _).1 h.1,fun y hy=>h.2 y ((e _).2 hy)⟩
theorem Bjx {P:List Int→Prop} (h:P []):Bew P []:=⟨h,fun _ _=>Bji _⟩
theorem Bml {P:List Int→Prop} {x:List Int} (h:Bew P x) (o:List Int):Bew (fun y=>P y∨y=o) (if Bd5 o x=true then o else x):=by
 split
 ·rename_i hs
  refine ⟨.inr rfl,fun y hy=>?_⟩
  rcases hy with hy | rfl
  ·cases hq:Bd5 y o with
   | false=>rfl
   | true=>rw [← h.2 y hy,Bgb hq hs]
  ·exact Bhb _
 ·rename_i hs
  refine ⟨.inl h.1,fun y hy=>?_⟩
  rcases hy with hy | rfl
  ·exact h.2 y hy
  ·simpa using hs
def Bep (last:Int):Int→List Int→Bool
 | _,[]=>true
 | prev,n :: r=>decide (prev < n)&&(decide (n≤last)&&Bep last n r)
theorem Bnc {last:Int}:∀ {l:List Int} {p q:Int},q≤p→Bep last p l=true→Bep last q l=true
 | [],_,_,_,_=>rfl
 | n :: r,p,q,h,hp=>by
  simp only [Bep,Bool.and_eq_true,decide_eq_true_eq] at hp ⊢
  exact ⟨by omega,hp.2⟩
theorem Bfn {last:Int}:∀ {l:List Int} {p:Int},Bep last p l=true→∀ x ∈ l,p < x∧x≤last
 | [],_,_,x,hx=>by cases hx
 | n :: r,p,h,x,hx=>by
  simp only [Bep,Bool.and_eq_true,decide_eq_true_eq] at h
  rcases List.mem_cons.1 hx with rfl | hx
  ·exact ⟨h.1,h.2.1⟩
  ·have:=Bfn h.2.2 x hx; omega
theorem Bia {last:Int}:∀ {a b:List Int} {p q:Int},Bep last p a=true→Bep last q b=true→(∀ x ∈ a,x ∈ b)→a.length < b.length∨a=b
 | [],[],_,_,_,_,_=>.inr rfl
 | [],_ :: _,_,_,_,_,_=>.inl (by simp)
 | x :: a,[],_,_,_,_,h=>by have:=h x (by simp); cases this
 | x :: a,y :: b,p,q,ha,hb,h=>by
  have ha0:=ha
  simp only [Bep,Bool.and_eq_true,decide_eq_true_eq] at ha hb
  have hm:=Bfn ha.2.2
  by_cases e:x=y
  ·subst e
   rcases Bia ha.2.2 hb.2.2 (fun z hz=>by
    rcases List.mem_cons.1 (h z (List.mem_cons_of_mem _ hz)) with rfl | h2
    ·have:=hm z hz; omega
    ·exact h2) with h1 | h1
   ·left; simpa using h1
   ·right; rw [h1]
  ·have hx:x ∈ b:=by
    rcases List.mem_cons.1 (h x (by simp)) with h2 | h2
    ·exact absurd h2 e
    ·exact h2
   have hxy:=Bfn hb.2.2 x hx
   rcases Bia ha0 hb.2.2 (fun z hz=>by
    rcases List.mem_cons.1 (h z hz) with h2 | h2
    ·subst h2
     rcases List.mem_cons.1 hz with h3 | h3
     ·exact absurd h3.symm e
     ·have:=hm z h3; omega
    ·exact h2) with h1 | h1
   ·left; simp only [List.length_cons] at h1 ⊢; omega
   ·left; rw [h1]; simp
def Ber:Nat→Nat→Nat→List Int
 | 0,_,_=>[]
 | c+1,p,n=>if n % 2=1 then (p:Int) :: Ber c (p+1) (n / 2) else Ber c (p+1) (n / 2)
def Bfc (n:Nat):List Int:=Ber 16 0 n
theorem Bgd:∀ c p,Ber c p 0=[]
 | 0,_=>rfl
 | c+1,p=>by simp only [Ber]; rw [if_neg (by decide)]; exact Bgd c (p+1)
theorem Bhs:∀ {c p k n:Nat},n < 2 ^ k→Bep ((p:Int)+k - 1) ((p:Int) - 1) (Ber c p n)=true
 | 0,_,_,_,_=>rfl
 | c+1,p,0,n,h=>by
  have:n=0:=by simpa using h
  subst this; rw [Bgd]; rfl
 | c+1,p,k+1,n,h=>by
  have h1:n / 2 < 2 ^ k:=by rw [Nat.pow_succ] at h; omega
  have ih:=Bhs (c:=c) (p:=p+1) h1
  rw [show ((p+1:Nat):Int)+k - 1=(p:Int)+(k+1:Nat) - 1 by omega,show ((p+1:Nat):Int) - 1=p by omega] at ih
  simp only [Ber]
  split
  ·simp only [Bep,ih,Bool.and_true,Bool.and_eq_true,decide_eq_true_eq]; omega
  ·exact Bnc (by omega) ih
theorem Blp {n k:Nat} (h:n < 2 ^ k):Bep ((k:Int) - 1) (-1) (Bfc n)=true:=by
 have:=Bhs (c:=16) (p:=0) h
 rwa [show ((0:Nat):Int)+k - 1=(k:Int) - 1 by omega] at this
theorem Biq:∀ c p n,(Ber c p n).length≤c
 | 0,_,_=>by simp [Ber]
 | c+1,p,n=>by
  have:=Biq c (p+1) (n / 2)
  simp only [Ber]; split
  ·simp; omega
  ·omega
theorem Bms (n:Nat):(Bfc n).length≤16:=Biq _ _ _
theorem Bh2:∀ {c p n i:Nat},((p+i:Nat):Int) ∈ Ber c p n↔i < c∧n / 2 ^ i % 2=1
 | 0,p,n,i=>by simp [Ber]
 | c+1,p,n,i=>by
  have hlow:∀ x ∈ Ber c (p+1) (n / 2),(p:Int) < x:=fun x hx=>by
   have:∀ {c p n:Nat} {x:Int},x ∈ Ber c p n→(p:Int)≤x:=by
    intro c
    induction c with
    | zero=>intro p n x h; cases h
    | succ c ih=>
     intro p n x h
     simp only [Ber] at h
     split at h
     ·rcases List.mem_cons.1 h with rfl | h
      ·omega
      ·have:=ih h; omega
     ·have:=ih h; omega
   have:=this hx
   omega
  cases i with
  | zero=>
   simp only [Ber,Nat.add_zero,Nat.pow_zero,Nat.div_one]
   split
   ·rename_i h; simp [h]
   ·rename_i h
    constructor
    ·intro hx; have:=hlow _ hx; omega
    ·intro hx; exact absurd hx.2 h
  | succ i=>
   have ih:=Bh2 (c:=c) (p:=p+1) (n:=n / 2) (i:=i)
   rw [show p+1+i=p+(i+1) by omega,Nat.div_div_eq_div_mul,← Nat.pow_succ'] at ih
   simp only [Ber]
   split
   ·rw [List.mem_cons]
    constructor
    ·rintro (h | h)
     ·omega
     ·have:=ih.1 h; exact ⟨by omega,this.2⟩
    ·intro h; exact .inr (ih.2 ⟨by omega,h.2⟩)
   ·rw [ih]
    constructor
    ·intro h; exact ⟨by omega,h.2⟩
    ·intro h; exact ⟨by omega,h.2⟩
theorem Bg6 {n i:Nat}:(i:Int) ∈ Bfc n↔i < 16∧n / 2 ^ i % 2=1:=by
 have:=Bh2 (c:=16) (p:=0) (n:=n) (i:=i)
 rwa [Nat.zero_add] at this
def Bei (v:List Liq) (r:Rdg):Bool:=Jk r.g (v.getD r.v.toNat default).g&&Jk r.d (Q8 (v.getD r.v.toNat default))
def Beg (n:Int) (r:Rdg):Bool:=inB r.v 0 (n - 1)&&(decide (r.g.lo≤r.g.hi)&&decide (r.d.lo≤r.d.hi))
def Be9 (v:List Liq) (l:List Rdg):Nat→List Int
 | 0=>[]
 | k+1=>if Bei v (l.getD k default)=true then Be9 v l k else Be9 v l k++[(k:Int)]
def Bfj (v:List Liq) (l:List Rdg):List Int:=Be9 v l l.length
theorem Bhr {v:List Liq} {l:List Rdg}:∀ k,(Be9 v l k).length≤k
 | 0=>Nat.le_refl _
 | k+1=>by
  have:=Bhr (v:=v) (l:=l) k
  unfold Be9
  split
  ·omega
  ·simp only [List.length_append,List.length_singleton]; omega
theorem Bfp {v:List Liq} {l:List Rdg} {x:Int}:∀ k,x ∈ Be9 v l k↔∃ j:Nat,j < k∧x=j∧Bei v (l.getD j default)=false
 | 0=>by
  constructor
  ·intro h; cases h
  ·rintro ⟨j,h,_⟩; omega
 | k+1=>by
  have ih:=Bfp (v:=v) (l:=l) (x:=x) k
  unfold Be9
  constructor
  ·intro h
   split at h
   ·obtain ⟨j,h1,h2⟩:=ih.1 h; exact ⟨j,by omega,h2⟩
   ·rename_i hx
    rcases List.mem_append.1 h with h | h
    ·obtain ⟨j,h1,h2⟩:=ih.1 h; exact ⟨j,by omega,h2⟩
    ·exact ⟨k,by omega,List.mem_singleton.1 h,by simpa using hx⟩
  ·rintro ⟨j,h1,h2,h3⟩
   by_cases e:j=k
   ·subst e
    rw [if_neg (by rw [h3]; decide)]; exact List.mem_append_right _ (List.mem_singleton.2 h2)
   ·have:=ih.2 ⟨j,by omega,h2,h3⟩
    split
    ·exact this
    ·exact List.mem_append_left _ this
theorem Big {last x:Int}:∀ {l:List Int} {p:Int},Bep last p l=true→p < x→(∀ y ∈ l,y < x)→x≤last→Bep last p (l++[x])=true
 | [],p,_,h1,_,h2=>by
  simp only [List.nil_append,Bep,Bool.and_true,Bool.and_eq_true,decide_eq_true_eq]; exact ⟨h1,h2⟩
 | y :: l,p,h,h1,h2,h3=>by
  simp only [Bep,List.cons_append,Bool.and_eq_true,decide_eq_true_eq] at h ⊢
  exact ⟨h.1,h.2.1,Big h.2.2 (h2 y (by simp)) (fun z hz=>h2 z (by simp [hz])) h3⟩
theorem Bi0 {v:List Liq} {l:List Rdg}:∀ k,k≤l.length→Bep ((l.length:Int) - 1) (-1) (Be9 v l k)=true
 | 0,_=>rfl
 | k+1,h=>by
  have ih:=Bi0 (v:=v) (l:=l) k (by omega)
  unfold Be9
  split
  ·exact ih
  ·refine Big ih (by omega) (fun y hy=>?_) (by omega)
   obtain ⟨j,h1,h2,_⟩:=(Bfp k).1 hy
   omega
theorem Bg5 {v:List Liq} {l:List Rdg}:Bep ((l.length:Int) - 1) (-1) (Bfj v l)=true:=Bi0 _ (Nat.le_refl _)
theorem Bjw {v:List Liq} {l:List Rdg}:(Bfj v l).length≤l.length:=Bhr _
theorem Blz {v:List Liq} {l:List Rdg}:Bfj v l=[]↔∀ j,j < l.length→Bei v (l.getD j default)=true:=by
 constructor
 ·intro h j hj
  cases ha:Bei v (l.getD j default) with
  | true=>rfl
  | false=>
   have:(j:Int) ∈ Bfj v l:=(Bfp _).2 ⟨j,hj,rfl,ha⟩
   rw [h] at this; cases this
 ·intro h
  refine List.eq_nil_iff_forall_not_mem.2 fun x hx=>?_
  obtain ⟨j,h1,_,h3⟩:=(Bfp _).1 hx
  rw [h j h1] at h3; cases h3
def Bg1 (s:List Int × Bool) (o:List Int):Bool:=!s.2||Bd5 o s.1
def Bff (l:List Rdg) (s:List Int × Bool) (v:List Liq):List Int × Bool:=if Bg1 s (Bfj v l)=true then (Bfj v l,true) else s
def Be0 (l:List Rdg):List Int × Bool→List (List Liq)→List Int × Bool
 | s,[]=>s
 | s,v :: L=>if (Bff l s v).1.length=0 then Bff l s v else Be0 l (Bff l s v) L
def Bfu (P:List Liq→Prop) (l:List Rdg) (o:List Int):Prop:=∃ v,P v∧o=Bfj v l
theorem Bk9 {l:List Rdg} {s:List Int × Bool} {v:List Liq} {P:List Liq→Prop} (h:(s.2=false∧∀ w,¬ P w)∨(s.2=true∧Bew (Bfu P l) s.1)) :
  (Bff l s v).2=true∧Bew (Bfu (fun w=>P w∨w=v) l) (Bff l s v).1:=by
 have hcong:∀ y,(Bfu P l y∨y=Bfj v l)↔Bfu (fun w=>P w∨w=v) l y:=fun y=>
  ⟨fun h=>h.elim (fun ⟨w,h1,h2⟩=>⟨w,.inl h1,h2⟩) fun h=>⟨v,.inr rfl,h⟩,fun ⟨w,h1,h2⟩=>h1.elim (fun h1=>.inl ⟨w,h1,h2⟩) fun h1=>.inr (by rw [h2,h1])⟩
 unfold Bff Bg1
 rcases h with ⟨h1,h2⟩ | ⟨h1,h2⟩
 ·rw [h1]
  simp only [Bool.not_false,Bool.true_or,if_true,true_and]
  refine ⟨⟨v,.inr rfl,rfl⟩,fun y hy=>?_⟩
  obtain ⟨w,h3,h4⟩:=hy
  rcases h3 with h3 | h3
  ·exact absurd h3 (h2 w)
  ·subst h3; rw [h4]; exact Bhb _
 ·rw [h1,Bool.not_true,Bool.false_or]
  have hb:=(Bml h2 (Bfj v l)).congr hcong
  split
  ·rename_i hs; rw [if_pos hs] at hb; exact ⟨rfl,hb⟩
  ·rename_i hs; rw [if_neg hs] at hb; exact ⟨h1,hb⟩
theorem Bhw {l:List Rdg}:∀ (L:List (List Liq)) (s:List Int × Bool) (P:List Liq→Prop),((s.2=false∧∀ w,¬ P w)∨(s.2=true∧Bew (Bfu P l) s.1)) →
  ((Be0 l s L).2=false∧∀ w,¬ (P w∨w ∈ L))∨((Be0 l s L).2=true∧Bew (Bfu (fun w=>P w∨w ∈ L) l) (Be0 l s L).1)
 | [],s,P,h=>by
  unfold Be0
  rcases h with ⟨h1,h2⟩ | ⟨h1,h2⟩
  ·exact .inl ⟨h1,fun w hw=>hw.elim (h2 w) (by simp)⟩
  ·exact .inr ⟨h1,h2.congr fun y=>⟨fun ⟨w,a,b⟩=>⟨w,.inl a,b⟩,fun ⟨w,a,b⟩=>⟨w,a.elim id (by simp),b⟩⟩⟩
 | v :: L,s,P,h=>by
  obtain ⟨h1,h2⟩:=Bk9 (v:=v) h
  unfold Be0
  split
  ·rename_i he
   have he:(Bff l s v).1=[]:=List.length_eq_zero_iff.1 he
   rw [he] at h2 ⊢
   obtain ⟨w,a,b⟩:=h2.1
   exact .inr ⟨h1,Bjx ⟨w,a.imp id (by rintro rfl; simp),b⟩⟩
  ·have:=Bhw L (Bff l s v) (fun w=>P w∨w=v) (.inr ⟨h1,h2⟩)
   have hc:∀ w,((P w∨w=v)∨w ∈ L)↔(P w∨w ∈ v :: L):=fun w=>by rw [List.mem_cons,or_assoc]
   rcases this with ⟨h3,h4⟩ | ⟨h3,h4⟩
   ·exact .inl ⟨h3,fun w hw=>h4 w ((hc w).2 hw)⟩
   ·exact .inr ⟨h3,h4.congr fun y=>⟨fun ⟨w,a,b⟩=>⟨w,(hc w).1 a,b⟩,fun ⟨w,a,b⟩=>⟨w,(hc w).2 a,b⟩⟩⟩
theorem Bl3 {l:List Rdg} {L:List (List Liq)} (h:L≠[]):(Be0 l ([],false) L).2=true∧Bew (Bfu (· ∈ L) l) (Be0 l ([],false) L).1:=by
 rcases Bhw L ([],false) (fun _=>False) (.inl ⟨rfl,fun _=>id⟩) with ⟨_,h2⟩ | ⟨h1,h2⟩
 ·obtain ⟨v,hv⟩:=List.exists_mem_of_ne_nil L h
  exact absurd (.inr hv) (h2 v)
 ·exact ⟨h1,h2.congr fun y=>⟨fun ⟨w,a,b⟩=>⟨w,a.elim False.elim id,b⟩,fun ⟨w,a,b⟩=>⟨w,.inr a,b⟩⟩⟩
theorem Bkj {w:List Liq} {n k:Nat} (h:k < n):(w.take n).getD k default=w.getD k default:=Bev h
theorem Bio {w:List Liq} {n:Nat} {l:List Rdg} (hl:∀ r ∈ l,Beg n r=true):Bfj (w.take n) l=Bfj w l:=by
 have h:∀ k,k≤l.length→Be9 (w.take n) l k=Be9 w l k:=by
  intro k
  induction k with
  | zero=>intro _; rfl
  | succ k ih=>
   intro hk
   have hr:=hl _ (Du default (show k < l.length by omega))
   have e:Bei (w.take n) (l.getD k default)=Bei w (l.getD k default):=by
    simp only [Beg,inB,Bool.and_eq_true,decide_eq_true_eq] at hr
    unfold Bei
    rw [Bkj (by omega)]
   unfold Be9
   rw [ih (by omega),e]
 exact h _ (Nat.le_refl _)
end AM.Wort
end
/- Ranges over functions that yield values; searches of the beginning of an array. -/
section
namespace AM
open Go AM AM.Duty Go.Proofs
open Nat renaming reduceLT→sA,reduceAdd→sB,reduceMul→sC,reduceSub→sD,reduceLeDiff→sE,reduceEqDiff→sF,reduceBEq→sG
open Int renaming reduceAdd→sH,reduceSub→sI,reduceMul→sJ,reduceLT→sK,reduceLE→sL,reduceNeg→sM,reduceToNat→sN,reduceEq→sO
set_option maxHeartbeats 4000000
theorem Ahk.drop {P:Program} {fv:AV} {F:Nat→Prop} {σ α:Type} {arg:α→AV} {l:List α} {go:σ→Prop} {I:σ→(Nat→Option AO)→Prop} {step:σ→α→σ × Bool} (hT:Ahk P fv F arg l go I step) {os os2:Nat→Option AO} {bd:Nat} (hcl:(Hp os).closed) (hfree:∀ n,bd≤n→os n=none) {s s':σ} (hs:I s os) (hI:I s' os2) (hfr:∀ n,n < bd→¬ F n→os2 n=os n) :
  (Hp (Dt bd os2)).closed∧I s' (Dt bd os2)∧∀ n,¬ F n→Dt bd os2 n=os n:=by
 have hF:∀ n,F n→n < bd:=fun n hn=>by obtain ⟨o,h,_⟩:=hT.foot s os n hs hn; exact Ap hfree h
 have hfr2:∀ n,¬ F n→Dt bd os2 n=os n:=fun n hn=>by
  by_cases h:n < bd
  ·rw [Fq h]; exact hfr n h hn
  ·rw [Sl (by omega),hfree n (by omega)]
 refine ⟨⟨fun _=>AV.lives_undef _,fun n o hn=>?_⟩,hT.stable s' os2 _ hI (fun n hn=>Fq (hF n hn)),hfr2⟩
 have hn:Dt bd os2 n=some o:=hn
 by_cases hFn:F n
 ·obtain ⟨o',h1,h2⟩:=hT.foot s' os2 n hI hFn
  rw [Fq (hF n hFn),h1] at hn
  cases hn
  intro m hm
  obtain ⟨o'',h3,_⟩:=hT.foot s' os2 m hI (h2 m hm)
  show (Dt bd os2 m).isSome=true
  rw [Fq (hF m (h2 m hm)),h3]; rfl
 ·rw [hfr2 n hFn] at hn
  intro m hm
  have h3:=hcl.2 n o hn m hm
  show (Dt bd os2 m).isSome=true
  by_cases hFm:F m
  ·obtain ⟨o',h1,_⟩:=hT.foot s' os2 m hI hFm
   rw [Fq (hF m hFm),h1]; rfl
  ·rw [hfr2 m hFm]; exact h3
theorem Bjd {σ α:Type} {step:σ→α→σ × Bool} {go:σ→Prop}:∀ {l:List α} {s:σ},(∀ s x,x ∈ l→go s→(step s x).2=true→go (step s x).1)→go s→(Gn step s l).2=true→go (Gn step s l).1
 | [],_,_,hg,_=>hg
 | x :: l,s,hn,hg,h=>by
  simp only [Gn] at h ⊢
  split at h
  ·rename_i h1
   rw [if_pos h1]
   exact Bjd (fun s y hy=>hn s y (by simp [hy])) (hn s x (by simp) hg h1) h
  ·cases h
end AM
end
/- The abstract machine, part 70: the beginning of a slice that is a value. -/
section
namespace AM
open Go Go.Proofs
theorem Bki {es:List (List PV)}:(AV.p (.sl es)).pv?.bind PV.list?=some es:=rfl
end AM
end
/- Ranges over functions whose loop's state tells when it may go on. -/
section
namespace AM
open Go AM AM.Duty Go.Proofs
open Nat renaming reduceLT→sA,reduceAdd→sB,reduceMul→sC,reduceSub→sD,reduceLeDiff→sE,reduceEqDiff→sF,reduceBEq→sG
open Int renaming reduceAdd→sH,reduceSub→sI,reduceMul→sJ,reduceLT→sK,reduceLE→sL,reduceNeg→sM,reduceToNat→sN,reduceEq→sO
structure Bi1 (P:Program) (bdL:Nat) (k:F0) (tm:List (Nat × AV)) (v q:List Nat) (F:Nat→Prop) {σ α:Type} (arg:α→AV) (l:List α) (go:σ→Prop) (I:σ→(Nat→Option AO)→Prop) (bst:σ→α→σ × Option Code):Prop where
 ready:k=Apv k none
 lenp:k.ps.length=1
 psn:∀ p ∈ k.ps,p < k.n
 notF:¬ F bdL
 tmF:∀ m,(AO.loop k tm).clean m=false→F m
 stable:∀ s os os',I s os→(∀ n,F n→os' n=os n)→I s os'
 foot:∀ s os n,I s os→F n→∃ o,os n=some o∧∀ m,o.clean m=false→F m
 next:∀ s x,x ∈ l→go s→(bst s x).2=none→go (bst s x).1
 body:∀ s x os bd,x ∈ l→go s→I s os→os bdL=some (.loop k tm)→(Hp os).closed→(∀ n,bd≤n→os n=none)→bdL < bd →
  ∀ rl,AWP P ⟨⟨some rl,fun _=>False⟩,bd,v,q⟩ k.n k.assign ⟨Jb k.ps [arg x] (T tm),os⟩ (Jp (fun s1=>s1.o bdL=some (.loop k tm)∧AWP P ⟨⟨some rl,fun _=>False⟩,bd,v,q⟩ k.n k.body ⟨s1.t,upd s1.o bdL (some (.loop { k with state:=.busy } tm))⟩
   (U7 bdL k tm fun res os'=>res=bl (bst s x).2.isNone∧(I (bst s x).1 os'∧os' bdL=some (.loop (Apv k (bst s x).2) tm))∧∀ n,¬ (F n∨n=bdL)→os' n=os n)) (fun _ _=>False))
theorem Bi1.yields {P:Program} {bdL:Nat} {k:F0} {tm:List (Nat × AV)} {v q:List Nat} {F:Nat→Prop} {σ α:Type} {arg:α→AV} {l:List α} {go:σ→Prop} {I:σ→(Nat→Option AO)→Prop} {bst:σ→α→σ × Option Code} (h:Bi1 P bdL k tm v q F arg l go I bst) :
  Ahk P (.yld bdL) (fun n=>F n∨n=bdL) arg l (fun (s:σ × Option Code)=>s.2=none∧go s.1) (fun s os=>I s.1 os∧os bdL=some (.loop (Apv k s.2) tm)) (fun s x=>(bst s.1 x,(bst s.1 x).2.isNone)) where
 live s os hI:=by rw [Qd,hI.2]; rfl
 stable s os os' hI he:=⟨h.stable s.1 os os' hI.1 (fun n hn=>he n (.inl hn)),(he bdL (.inr rfl)).trans hI.2⟩
 foot s os n hI hn:=by
  rcases hn with hn | rfl
  ·obtain ⟨o,h1,h2⟩:=h.foot s.1 os n hI.1 hn
   exact ⟨o,h1,fun m hm=>.inl (h2 m hm)⟩
  ·exact ⟨_,hI.2,fun m hm=>.inl (h.tmF m hm)⟩
 next s x hx hg hs:=⟨Option.isNone_iff_eq_none.1 hs,h.next s.1 x hx hg.2 (Option.isNone_iff_eq_none.1 hs)⟩
 call s x os bd hx hg hI hcl0:=by
  have hloop:os bdL=some (.loop k tm):=by
   have:=hI.2
   rw [hg.1,← h.ready] at this
   exact this
  intro hfree
  have hb:=Ap hfree hloop
  refine Sn (fun hm=>hm) (k:=k) (tm:=tm) (v:=v) (q:=q) hloop (by rw [h.ready]; rfl) (by rw [h.lenp]; rfl) h.psn (fun hcl _ rl=>?_) hfree
  exact h.body s.1 x os bd hx hg.2 hI.1 hloop hcl hfree hb rl
end AM
end
/- Readings without some of them. -/
section
namespace AM.Wort
open Go AM Go.Proofs
def Be1 (l:List Rdg) (n:Nat):Nat→List Rdg
 | 0=>[]
 | k+1=>if n / 2 ^ k % 2=0 then Be1 l n k++[l.getD k default] else Be1 l n k
def Bfw (l:List Rdg) (n:Nat):List Rdg:=Be1 l n l.length
theorem Bgr (l:List Rdg) (n:Nat):∀ k,(Be1 l n k).length≤k
 | 0=>Nat.le_refl _
 | k+1=>by
  have:=Bgr l n k
  unfold Be1; split
  ·rw [List.length_append,List.length_singleton]; omega
  ·omega
theorem Bgl {l:List Rdg} {n:Nat} {r:Rdg}:∀ k,r ∈ Be1 l n k↔∃ j,j < k∧n / 2 ^ j % 2=0∧r=l.getD j default
 | 0=>by
  constructor
  ·intro h; cases h
  ·rintro ⟨j,h,_⟩; omega
 | k+1=>by
  have ih:=Bgl (l:=l) (n:=n) (r:=r) k
  unfold Be1
  constructor
  ·intro h
   split at h
   ·rename_i hx
    rcases List.mem_append.1 h with h | h
    ·obtain ⟨j,h1,h2⟩:=ih.1 h; exact ⟨j,by omega,h2⟩
    ·exact ⟨k,by omega,hx,List.mem_singleton.1 h⟩
   ·obtain ⟨j,h1,h2⟩:=ih.1 h; exact ⟨j,by omega,h2⟩
  ·rintro ⟨j,h1,h2,h3⟩
   by_cases e:j=k
   ·subst e
    rw [if_pos h2]; exact List.mem_append_right _ (List.mem_singleton.2 h3)
   ·have:=ih.2 ⟨j,by omega,h2,h3⟩
    split
    ·exact List.mem_append_left _ this
    ·exact this
theorem Bjl {v:List Liq} {l:List Rdg}:Bfj v l=[]↔∀ r ∈ l,Bei v r=true:=by
 rw [Blz]
 constructor
 ·intro h r hr
  obtain ⟨j,hj⟩:=List.mem_iff_getElem?.1 hr
  have hj2:j < l.length:=by
   rcases Nat.lt_or_ge j l.length with h | h
   ·exact h
   ·rw [List.getElem?_eq_none h] at hj; cases hj
  have:=h j hj2
  rwa [List.getD_eq_getElem?_getD,hj] at this
 ·intro h j hj
  exact h _ (Du default hj)
theorem Bjv {v:List Liq} {l:List Rdg} {n:Nat} (hl:l.length≤16):Bfj v (Bfw l n)=[]↔∀ x ∈ Bfj v l,x ∈ Bfc n:=by
 rw [Bjl]
 constructor
 ·intro h x hx
  obtain ⟨j,h1,rfl,h3⟩:=(Bfp _).1 hx
  refine Bg6.2 ⟨by omega,?_⟩
  by_cases e:n / 2 ^ j % 2=0
  ·rw [h _ ((Bgl _).2 ⟨j,h1,e,rfl⟩)] at h3; cases h3
  ·omega
 ·intro h r hr
  obtain ⟨j,h1,h2,rfl⟩:=(Bgl _).1 hr
  cases ha:Bei v (l.getD j default) with
  | true=>rfl
  | false=>
   have:=(Bg6.1 (h j ((Bfp _).2 ⟨j,h1,rfl,ha⟩))).2
   omega
def Bgh (l:List Int):Nat:=l.foldl (fun s x=>s ||| 2 ^ x.toNat) 0
theorem Blo {l:List Int} {k:Nat} (h:k < l.length):Bgh (l.take (k+1))=Bgh (l.take k) ||| 2 ^ (l.getD k 0).toNat:=by
 unfold Bgh
 rw [List.take_add_one,List.foldl_append,List.getElem?_eq_getElem h]
 simp [List.getD,h]
theorem Bjs {i:Nat}:∀ {l:List Int} {s:Nat},(∀ x ∈ l,0≤x)→((l.foldl (fun s x=>s ||| 2 ^ x.toNat) s).testBit i=true↔s.testBit i=true∨(i:Int) ∈ l)
 | [],s,_=>by simp
 | x :: l,s,h=>by
  rw [List.foldl_cons,Bjs (fun y hy=>h y (by simp [hy])),Nat.testBit_or,Nat.testBit_two_pow,Bool.or_eq_true,decide_eq_true_eq,List.mem_cons]
  have:=h x (by simp)
  constructor
  ·rintro ((h | h) | h)
   ·exact .inl h
   ·exact .inr (.inl (by omega))
   ·exact .inr (.inr h)
  ·rintro (h | h | h)
   ·exact .inl (.inl h)
   ·exact .inl (.inr (by omega))
   ·exact .inr h
theorem Bl4 {m:Nat}:∀ {l:List Int} {s:Nat},s < 2 ^ m→(∀ x ∈ l,x.toNat < m)→l.foldl (fun s x=>s ||| 2 ^ x.toNat) s < 2 ^ m
 | [],s,h,_=>h
 | x :: l,s,h,hx=>by
  rw [List.foldl_cons]
  exact Bl4 (Nat.or_lt_two_pow h (Nat.pow_lt_pow_right (by decide) (hx x (by simp)))) fun y hy=>hx y (by simp [hy])
theorem Bn0 {l:List Int} {m:Nat} (h:∀ x ∈ l,x.toNat < m):Bgh l < 2 ^ m:=Bl4 (Nat.pow_pos (by decide)) h
theorem Blj {l:List Int} {x:Int} (h:∀ x ∈ l,0≤x∧x < 16) (hx:x ∈ l):x ∈ Bfc (Bgh l):=by
 obtain ⟨h1,h2⟩:=h x hx
 obtain ⟨i,rfl⟩:∃ i:Nat,x=i:=⟨x.toNat,by omega⟩
 refine Bg6.2 ⟨by omega,?_⟩
 have:(Bgh l).testBit i=true:=(Bjs fun y hy=>(h y hy).1).2 (.inr hx)
 rwa [Nat.testBit_eq_decide_div_mod_eq,decide_eq_true_eq] at this
theorem Bmj {P:List Liq→Prop} {l:List Rdg} {y:List Int} (hl:l.length≤16) (h:Bew (Bfu P l) y):Bfu P (Bfw l (Bgh y)) []:=by
 obtain ⟨v,hv,rfl⟩:=h.1
 refine ⟨v,hv,((Bjv hl).2 fun x hx=>Blj (fun z hz=>?_) hx).symm⟩
 have:=Bfn (Bg5 (v:=v) (l:=l)) z hz
 omega
theorem Bj1 {P:List Liq→Prop} {l:List Rdg} {y:List Int} {n:Nat} (hl:l.length≤16) (h:Bew (Bfu P l) y) (hn:n < 2 ^ l.length) (h2:Bfu P (Bfw l n) []):Bd5 (Bfc n) y=false:=by
 obtain ⟨v,hv,e⟩:=h2
 have hs:=(Bjv hl).1 e.symm
 cases hq:Bd5 (Bfc n) y with
 | false=>rfl
 | true=>
  have hb:=h.2 _ ⟨v,hv,rfl⟩
  rcases Bia (Bg5 (v:=v) (l:=l)) (Blp hn) hs with h3 | h3
  ·rw [Bgb (Bfx.2 (.inl h3)) hq] at hb; cases hb
  ·rw [h3,hq] at hb; cases hb
theorem Bhx {P:List Liq→Prop} {l:List Rdg} {x:List Int} (h:Bew (Bfu P l) x) (h2:Bfu P l []):x=[]:=h.unique (Bjx h2)
end AM.Wort
end
/- The reference: what is valid, how many lists there are, which are listed. -/
section
namespace AM.Try
open Go AM AM.Wort Go.Proofs
open Nat renaming reduceLT→sA,reduceAdd→sB,reduceMul→sC,reduceSub→sD,reduceLeDiff→sE,reduceEqDiff→sF,reduceBEq→sG
open Int renaming reduceAdd→sH,reduceSub→sI,reduceMul→sJ,reduceLT→sK,reduceLE→sL,reduceNeg→sM,reduceToNat→sN,reduceEq→sO
set_option maxRecDepth 100000
set_option maxHeartbeats 16000000
theorem Bkv (n lo hi:Int):Bu Tryz.prog 30 [i64 n,i64 lo,i64 hi] (bl (inB n lo hi)):=by
  refine Bo (v:=[]) (q:=[]) (N:=15) (rs:=[.tmp 6]) Tryz.func30 rfl rfl rfl rfl rfl ?_
  refine Ad fun K1 hK1=>?_
  simp (disch:=omega) only [amL,sA,sB]
  refine hK1 _ ?_
  refine Ad fun K2 hK2=>?_
  simp (disch:=omega) only [amL,amT,sA,sF,↓reduceIte,reduceCtorEq]
  repeat' first | (refine E3 (fun h=>?_) (fun h=>?_) <;> simp (disch:=omega) only [h,amL,amT,sA,sF,↓reduceIte,reduceCtorEq]) | (refine Cz (fun h=>?_) (fun h=>?_) <;> simp (disch:=omega) only [h,amL,amT,sA,sB,sC,sD,sE,sF,sG,sH,sI,sJ,sK,sL,sM,sN,sO,↓reduceIte,reduceCtorEq])
  all_goals
   skip
   refine hK2 _ ?_
   refine Aj ?_
   try simp (disch:=omega) only [amL,↓reduceIte]
   simp [inB,h]
theorem Bon {r:Rng} {most:Int}:Hz r most=(inB r.lo 0 r.hi&&(decide (r.hi≤most)&&decide (r.hi - r.lo≤2))):=by
  unfold Hz inB; rw [Bool.and_assoc]
theorem Bmw (r:Rng) (most:Int) (hm:most < 1000000):Bu Tryz.prog 102 [avR r,i64 most] (bl (Hz r most)):=by
  refine Bo (v:=[]) (q:=[]) (N:=24) (rs:=[.tmp 4]) Tryz.func102 rfl rfl rfl rfl rfl ?_
  have hin:inB r.lo 0 r.hi=true→0≤r.lo∧r.lo≤r.hi:=fun h=>by simpa [inB] using h
  refine Ad fun K1 hK1=>?_
  simp (disch:=omega) only [amL,sA,sB,↓reduceIte]
  refine hK1 _ ?_
  refine Ad fun K2 hK2=>?_
  simp (disch:=omega) only [amL,amT,sA,sF,↓reduceIte,reduceCtorEq]
  repeat' first | (refine E3 (fun h=>?_) (fun h=>?_) <;> simp (disch:=omega) only [h,amL,amT,sA,sF,↓reduceIte,reduceCtorEq]) | (refine Cz (fun h=>?_) (fun h=>?_) <;> simp (disch:=omega) only [h,amL,amT,sA,sF,↓reduceIte,reduceCtorEq]) | (refine Ax (by kernel_rfl) rfl (Bkv _ _ _) (by first | exact .inl rfl | exact .inr (.inl rfl)) ?_ ; simp (disch:=omega) only [amL,sA,↓reduceIte]) | (have hin2:=hin (by assumption); simp (disch:=omega) only [amL])
  all_goals
   skip
   refine hK2 _ ?_
   refine Aj ?_
   try simp (disch:=omega) only [amL,↓reduceIte]
   all_goals (simp_all [Bon] <;> omega)
theorem Bkl {n:Int} {s:Stp}:F4 n s=(inB s.kind 0 2&&(inB s.frm 0 (n - 1)&&(inB s.to 0 (n - 1)&&(Hz s.g 60&&(decide (s.frm=s.to) == !decide (s.kind=0)))))):=by
  unfold F4; rw [Bool.and_comm (Hz s.g 60)]
theorem Bor (s:Stp) (n:Nat) (hn:n < 1000000):Bu Tryz.prog 90 [avS s,i64 (n:Int)] (bl (F4 n s)):=by
  refine Bo (v:=[]) (q:=[]) (N:=44) (rs:=[.tmp 4]) Tryz.func90 rfl rfl rfl rfl rfl ?_
  refine Ad fun K1 hK1=>?_
  simp (disch:=omega) only [amL,sA,sB,↓reduceIte]
  refine hK1 _ ?_
  refine Ab fun K2 hK2=>?_
  refine Ad fun K3 hK3=>?_
  simp (disch:=omega) only [amL,amT,sA,sF,↓reduceIte,reduceCtorEq]
  repeat' first | (refine E3 (fun h=>?_) (fun h=>?_) <;> simp (disch:=omega) only [h,amL,amT,sA,sB,sC,sD,sE,sF,sG,sH,sI,sJ,sK,sL,sM,sN,sO,↓reduceIte,reduceCtorEq]) | (refine Cz (fun h=>?_) (fun h=>?_) <;> simp (disch:=omega) only [h,amL,amT,sA,sB,sF,↓reduceIte,reduceCtorEq]) | (refine Ax (by kernel_rfl) rfl (Bkv _ _ _) (by first | exact .inl rfl | exact .inr (.inl rfl)) ?_ ; simp (disch:=omega) only [amL,sA,sF,↓reduceIte]) | (refine Ax (by kernel_rfl) rfl (Bmw ⟨_,_⟩ _ (by omega)) (by first | exact .inl rfl | exact .inr (.inl rfl)) ?_ ; simp (disch:=omega) only [amL,sA,sF,↓reduceIte])
  all_goals
   skip
   refine hK3 _ ?_
   refine Al rfl (fun h=>MT.x ?_) (fun h=>ME.x ?_)
   all_goals
    first
    |refine MT.mk ?_
     first
     |exact Bool.noConfusion h
     |skip
      try simp only [nrm] at h
      refine Ad fun K4 hK4=>?_
      simp (disch:=omega) only [amL,sA]
      refine hK4 _ ?_
      refine Aj ?_
      try simp (disch:=omega) only [amL,↓reduceIte]
      all_goals simp_all [Bkl]
    |refine ME.mk ?_
     first
     |exact Bool.noConfusion h
     |skip
      try simp only [nrm] at h
      refine Am ?_
      refine hK2 _ ?_
   all_goals
    skip
    refine Ab fun K5 hK5=>?_
    refine Ad fun K6 hK6=>?_
    simp (disch:=omega) only [amL,amT,sA,sF,↓reduceIte,reduceCtorEq]
    refine hK6 _ ?_
    refine Al rfl (fun h=>MT.x ?_) (fun h=>ME.x ?_)
    all_goals
     first
     |refine MT.mk ?_
      first
      |exact Bool.noConfusion h
      |skip
       try simp only [nrm] at h
       refine Ad fun K7 hK7=>?_
       simp (disch:=omega) only [amL,amT,sA,sF,↓reduceIte,reduceCtorEq]
       refine hK7 _ ?_
       refine Aj ?_
       try simp (disch:=omega) only [amL,↓reduceIte]
       all_goals simp_all [Bkl]
     |refine ME.mk ?_
      first
      |exact Bool.noConfusion h
      |skip
       try simp only [nrm] at h
       refine Am ?_
       refine hK5 _ ?_
    all_goals
     skip
     refine Ad fun K8 hK8=>?_
     simp (disch:=omega) only [amL,amT,sA,sF,↓reduceIte,reduceCtorEq]
     refine hK8 _ ?_
     refine Aj ?_
     try simp (disch:=omega) only [amL,↓reduceIte]
     all_goals simp_all [Bkl]
theorem Bd9 (r:Rng) (h1:-9223372036854775808≤r.hi - r.lo) (h2:r.hi - r.lo < 9223372036854775807):Bu Tryz.prog 89 [avR r] (i64 (Fa r)):=by
  refine Bo (v:=[]) (q:=[]) (N:=9) (rs:=[.tmp 2]) Tryz.func89 rfl rfl rfl rfl rfl ?_
  refine Ad fun K1 hK1=>?_
  simp (disch:=omega) only [amL,sA,↓reduceIte]
  refine hK1 _ ?_
  refine Ad fun K2 hK2=>?_
  simp (disch:=omega) only [amL,amT,sA,sF,↓reduceIte,reduceCtorEq]
  refine hK2 _ ?_
  refine Aj ?_
  try simp (disch:=omega) only [amL,↓reduceIte]
  rfl
theorem Bhq {p s:Int} (h1:1≤p) (h2:p≤4782969) (h3:1≤s) (h4:s≤9):-9223372036854775808≤p * s∧p * s < 9223372036854775808:=by
  have e1:=Int.mul_le_mul h2 h4 (by omega) (by omega)
  have e2:=Int.mul_nonneg (show 0≤p by omega) (show 0≤s by omega)
  omega
theorem Blt {p s:Int} (h1:1≤p) (h2:p≤3) (h3:1≤s) (h4:s≤3):1≤p * s∧p * s≤9:=by
  have e1:=Int.mul_le_mul h2 h4 (by omega) (by omega)
  have e2:=Int.mul_le_mul h1 h3 (by omega) (by omega)
  omega
theorem Bk0 (b:Eg) (hv:N3 b):Bu Tryz.prog 45 [avB b] (i64 (Bey b)):=by
  refine Bo (v:=[]) (q:=[]) (N:=47) (rs:=[.tmp 2]) Tryz.func45 rfl rfl rfl rfl rfl ?_
  have hnv:=hv.nv
  have hns:=hv.ns
  refine Ad fun K1 hK1=>?_
  simp (disch:=omega) only [amL,sA,↓reduceIte]
  refine hK1 _ ?_
  refine Ad fun K2 hK2=>?_
  simp (disch:=omega) only [amL,sA]
  refine hK2 _ ?_
  refine Ab fun K3 hK3=>?_
  refine Ad fun K4 hK4=>?_
  simp (disch:=omega) only [amL,sA]
  refine hK4 _ ?_
  refine Au ?_
  skip
  refine Bg (α:=Nat) (fun k=>⟨T [(1,.ptr 1 0),(3,i64 (Ma (Be7 (b.vs.take k)) 1)),(4,i64 (k:Int))],O [(1,.cells (cB b))]⟩) (fun k=>b.vs.length - k) (fun k=>k≤b.vs.length) 0 ?_ ?_ (fun k hx5 K5 hK5=>?_)
  · exact Nat.zero_le _
  · refine Dg ?_ ?_ ?_ ?_ <;> (try simp (disch:=omega) only [amL,sF,↓reduceIte]); all_goals rfl
  have hk:=hx5
  refine Ab fun K6 hK6=>?_
  refine Ad fun K7 hK7=>?_
  simp (disch:=omega) only [amL,amT,sA,sF,↓reduceIte,reduceCtorEq]
  refine hK7 _ ?_
  refine Al rfl (fun h=>MT.x ?_) (fun h=>ME.x ?_)
  all_goals
   first
   |refine MT.mk ?_
    first
    |exact Bool.noConfusion h
    |skip
     try simp only [nrm] at h
     refine Am ?_
     refine hK6 _ ?_
   |refine ME.mk ?_
    first
    |exact Bool.noConfusion h
    |skip
     try simp only [nrm] at h
     refine Bq ?_
     refine hK3 _ ?_
     refine Ab fun K8 hK8=>?_
     refine Ad fun K9 hK9=>?_
     simp (disch:=omega) only [amL,sA]
     refine hK9 _ ?_
     refine Au ?_
     skip
     refine Bg (α:=Nat) (fun k=>⟨T [(1,.ptr 1 0),(3,i64 (Ma (Be7 b.vs++(b.ss.take k).map (·.g)) 1)),(5,i64 (k:Int))],O [(1,.cells (cB b))]⟩) (fun k=>b.ss.length - k) (fun k=>k≤b.ss.length) 0 ?_ ?_ (fun k hx10 K10 hK10=>?_)
     · exact Nat.zero_le _
     · refine Dg ?_ ?_ ?_ ?_ <;> (try simp (disch:=omega) only [amL,sF,↓reduceIte]); all_goals first | rfl | (rw [List.take_of_length_le (by omega)]; done) | (rw [List.take_of_length_le (by omega),List.take_zero,List.map_nil,List.append_nil]; done) | trace_state
     have hk:=hx10
     refine Ab fun K11 hK11=>?_
     refine Ad fun K12 hK12=>?_
     simp (disch:=omega) only [amL,amT,sA,sF,↓reduceIte,reduceCtorEq]
     refine hK12 _ ?_
     refine Al rfl (fun h=>MT.x ?_) (fun h=>ME.x ?_)
     all_goals
      first
      |refine MT.mk ?_
       first
       |exact Bool.noConfusion h
       |skip
        try simp only [nrm] at h
        refine Am ?_
        refine hK11 _ ?_
      |refine ME.mk ?_
       first
       |exact Bool.noConfusion h
       |skip
        try simp only [nrm] at h
        refine Bq ?_
        refine hK8 _ ?_
        refine Ad fun K13 hK13=>?_
        simp (disch:=omega) only [amL,sA,sF,↓reduceIte]
        refine hK13 _ ?_
        refine Aj ?_
        try simp (disch:=omega) only [amL,↓reduceIte]
        rw [List.take_of_length_le (by omega)]; rfl
     all_goals
      skip
      refine Ab fun K14 hK14=>?_
      refine Au ?_
      refine Ah ?_
      have hk2:k < b.ss.length:=by omega
      have hp1:=(Fp (hv.stp hk2)).2.2.2.2
      have z1:=Pu hp1
      have hb0:=Bhl hv k
      have hms:=Bhq hb0.1 hb0.2 z1.1 (by omega)
      have hw:IntKind.i64.wrap (Ma (Be7 b.vs++(b.ss.take k).map (·.g)) 1 * Fa (b.ss.getD k default).g)=_:=Fc hms.1 hms.2
      have y1:=Da hp1
      simp (disch:=omega) only [Yh,amL,amT,sA,sB,sF,↓reduceIte,reduceCtorEq]
      repeat' first | (refine Ax (by kernel_rfl) rfl (by first | exact Bd9 (b.vs.getD k default).g (by omega) (by omega) | exact Bd9 (b.vs.getD k default).d (by omega) (by omega) | exact Bd9 (b.ss.getD k default).g (by omega) (by omega)) (by first | exact .inl rfl | exact .inr (.inl rfl)) ?_ ; simp (disch:=omega) only [hw,amL,amT,sA,sF,↓reduceIte])
      refine hK14 _ ?_
      refine Ah ?_
      simp (disch:=omega) only [amL,amT,sA,sF,↓reduceIte]
      refine hK10 (k+1) _ ?_ ?_ (Dg ?_ ?_ ?_ ?_)
      all_goals (try simp (disch:=omega) only [amL,sF,↓reduceIte])
      all_goals first | omega | (rw [Bex,Bex,Bj0 (by omega)]) | trace_state
  all_goals
   skip
   refine Ab fun K15 hK15=>?_
   refine Au ?_
   refine Cj (by kernel_rfl) (by kernel_rfl) ?_
   have hk2:k < b.vs.length:=by omega
   obtain ⟨hp1,hp2,_⟩:=C9 (hv.ves hk2)
   have z1:=Pu hp1
   have z2:=Pu hp2
   have hm9:=Blt z1.1 z1.2 z2.1 z2.2
   have hb0:=Blh hv.v hnv k
   have hms:=Bhq hb0.1 hb0.2 hm9.1 hm9.2
   have hw0:IntKind.i64.wrap (Fa (b.vs.getD k default).g * Fa (b.vs.getD k default).d)=_:=Fc (by omega) (by omega)
   have hw:IntKind.i64.wrap (Ma (Be7 (b.vs.take k)) 1 * (Fa (b.vs.getD k default).g * Fa (b.vs.getD k default).d))=_:=Fc hms.1 hms.2
   have y1:=Da hp1
   have y2:=Da hp2
   simp (disch:=omega) only [Dj,amL,amT,sA,sB,sE,sF,↓reduceIte,reduceCtorEq]
   repeat' first | (refine Ax (by kernel_rfl) rfl (by first | exact Bd9 (b.vs.getD k default).g (by omega) (by omega) | exact Bd9 (b.vs.getD k default).d (by omega) (by omega) | exact Bd9 (b.ss.getD k default).g (by omega) (by omega)) (by first | exact .inl rfl | exact .inr (.inl rfl)) ?_ ; simp (disch:=omega) only [hw0,hw,Dj,amL,amT,sA,sB,sE,sF,↓reduceIte,reduceCtorEq])
   refine hK15 _ ?_
   refine Ah ?_
   simp (disch:=omega) only [amL,amT,sA,sF,↓reduceIte]
   refine hK5 (k+1) _ ?_ ?_ (Dg ?_ ?_ ?_ ?_)
   all_goals (try simp (disch:=omega) only [amL,sF,↓reduceIte])
   all_goals first | omega | (rw [Bm9 (by omega)]) | trace_state
theorem Bme (b:Eg) (h1:b.vs.length < 1000000) (h2:b.ss.length < 1000000):Bu Tryz.prog 64 [avB b] (i64 (B5 b)):=by
  refine Bo (v:=[]) (q:=[]) (N:=68) (rs:=[.tmp 2]) Tryz.func64 rfl rfl rfl rfl rfl ?_
  refine Ad fun K1 hK1=>?_
  simp (disch:=omega) only [amL,sA,↓reduceIte]
  refine hK1 _ ?_
  refine Ab fun K2 hK2=>?_
  refine Ad fun K3 hK3=>?_
  simp (disch:=omega) only [amL,amT,sA,sF,↓reduceIte,reduceCtorEq]
  repeat' first | (refine E3 (fun h=>?_) (fun h=>?_) <;> simp (disch:=omega) only [h,amL,amT,sA,sF,↓reduceIte,reduceCtorEq]) | (refine Cz (fun h=>?_) (fun h=>?_) <;> simp (disch:=omega) only [h,Dj,Yh,amL,amT,sA,sB,sC,sD,sE,sF,sG,sH,sI,sJ,sK,sL,sM,sN,sO,↓reduceIte,reduceCtorEq])
  all_goals
   skip
   refine hK3 _ ?_
   refine Al rfl (fun h=>MT.x ?_) (fun h=>ME.x ?_)
   all_goals
    first
    |refine MT.mk ?_
     first
     |exact Bool.noConfusion h
     |skip
      try simp only [nrm] at h
      refine Ad fun K4 hK4=>?_
      simp (disch:=omega) only [amL,sA]
      refine hK4 _ ?_
      refine Aj ?_
      try simp (disch:=omega) only [amL,↓reduceIte]
      all_goals first | (rw [Bg3 (by omega)]; done) | (rw [Ben (by omega) (.inl (by omega))]; done) | (rw [Ben (by omega) (.inr (.inl (Bee (d:=default) (k:=k) (by omega) (by simp_all [Er]))))]; done) | (rw [Ben (by omega) (.inr (.inr (Bee (d:=default) (k:=k2) (by omega) (by simpa using h))))]; done) | (rw [Bem (by omega) (by omega) (by omega) hva hsa,if_pos h]; done) | (rw [Bem (by omega) (by omega) (by omega) hva hsa,if_neg h]; done) | trace_state
    |refine ME.mk ?_
     first
     |exact Bool.noConfusion h
     |skip
      try simp only [nrm] at h
      refine Am ?_
      refine hK2 _ ?_
   all_goals
    skip
    refine Ab fun K5 hK5=>?_
    refine Ad fun K6 hK6=>?_
    simp (disch:=omega) only [amL,amT,sA,sF,↓reduceIte,reduceCtorEq]
    refine hK6 _ ?_
    refine Al rfl (fun h=>MT.x ?_) (fun h=>ME.x ?_)
    all_goals
     first
     |refine MT.mk ?_
      first
      |exact Bool.noConfusion h
      |skip
       try simp only [nrm] at h
       refine Ad fun K7 hK7=>?_
       simp (disch:=omega) only [amL,sA]
       refine hK7 _ ?_
       refine Aj ?_
       try simp (disch:=omega) only [amL,↓reduceIte]
       all_goals first | (rw [Bg3 (by omega)]; done) | (rw [Ben (by omega) (.inl (by omega))]; done) | (rw [Ben (by omega) (.inr (.inl (Bee (d:=default) (k:=k) (by omega) (by simp_all [Er]))))]; done) | (rw [Ben (by omega) (.inr (.inr (Bee (d:=default) (k:=k2) (by omega) (by simpa using h))))]; done) | (rw [Bem (by omega) (by omega) (by omega) hva hsa,if_pos h]; done) | (rw [Bem (by omega) (by omega) (by omega) hva hsa,if_neg h]; done) | trace_state
     |refine ME.mk ?_
      first
      |exact Bool.noConfusion h
      |skip
       try simp only [nrm] at h
       refine Am ?_
       refine hK5 _ ?_
    all_goals
     skip
     refine Ab fun K8 hK8=>?_
     refine Ad fun K9 hK9=>?_
     simp (disch:=omega) only [amL,sA]
     refine hK9 _ ?_
     refine Au ?_
     skip
     refine Bg (α:=Nat) (fun k=>⟨T [(1,.ptr 1 0),(3,i64 (k:Int))],O [(1,.cells (cB b))]⟩) (fun k=>b.vs.length - k) (fun k=>k≤b.vs.length∧(b.vs.take k).all Er=true) 0 ?_ ?_ (fun k hx10 K10 hK10=>?_)
     · exact ⟨Nat.zero_le _,rfl⟩
     · refine Dg ?_ ?_ ?_ ?_ <;> (try simp (disch:=omega) only [amL,sF,↓reduceIte]); all_goals rfl
     obtain ⟨hk,hpre⟩:=hx10
     refine Ab fun K11 hK11=>?_
     refine Ad fun K12 hK12=>?_
     simp (disch:=omega) only [amL,amT,sA,sF,↓reduceIte,reduceCtorEq]
     refine hK12 _ ?_
     refine Al rfl (fun h=>MT.x ?_) (fun h=>ME.x ?_)
     all_goals
      first
      |refine MT.mk ?_
       first
       |exact Bool.noConfusion h
       |skip
        try simp only [nrm] at h
        refine Am ?_
        refine hK11 _ ?_
      |refine ME.mk ?_
       first
       |exact Bool.noConfusion h
       |skip
        try simp only [nrm] at h
        refine Bq ?_
        refine hK8 _ ?_
        refine Ab fun K13 hK13=>?_
        refine Ad fun K14 hK14=>?_
        simp (disch:=omega) only [amL,sA]
        refine hK14 _ ?_
        refine Au ?_
        have hva:b.vs.all Er=true:=Bie (by omega) hpre
        refine Bg (α:=Nat) (fun k2=>⟨T [(1,.ptr 1 0),(5,i64 (k2:Int))],O [(1,.cells (cB b))]⟩) (fun k2=>b.ss.length - k2) (fun k2=>k2≤b.ss.length∧(b.ss.take k2).all (F4 b.vs.length)=true) 0 ?_ ?_ (fun k2 hx15 K15 hK15=>?_)
        · exact ⟨Nat.zero_le _,rfl⟩
        · refine Dg ?_ ?_ ?_ ?_ <;> (try simp (disch:=omega) only [amL,sF,↓reduceIte]); all_goals rfl
        obtain ⟨hk2,hpre2⟩:=hx15
        refine Ab fun K16 hK16=>?_
        refine Ad fun K17 hK17=>?_
        simp (disch:=omega) only [amL,amT,sA,sF,↓reduceIte,reduceCtorEq]
        refine hK17 _ ?_
        refine Al rfl (fun h=>MT.x ?_) (fun h=>ME.x ?_)
        all_goals
         first
         |refine MT.mk ?_
          first
          |exact Bool.noConfusion h
          |skip
           try simp only [nrm] at h
           refine Am ?_
           refine hK16 _ ?_
         |refine ME.mk ?_
          first
          |exact Bool.noConfusion h
          |skip
           try simp only [nrm] at h
           refine Bq ?_
           refine hK13 _ ?_
           refine Ab fun K18 hK18=>?_
           refine Ad fun K19 hK19=>?_
           have hsa:b.ss.all (F4 b.vs.length)=true:=Bie (by omega) hpre2
           simp (disch:=omega) only [amL,amT,sA,sB,sF,↓reduceIte]
           repeat' first | (refine Ax (by kernel_rfl) rfl (Bk0 b ⟨by omega,by omega,hva,hsa⟩) (by first | exact .inl rfl | exact .inr (.inl rfl)) ?_ ; simp (disch:=omega) only [amL,amT,↓reduceIte])
           refine hK19 _ ?_
           refine Al rfl (fun h=>MT.x ?_) (fun h=>ME.x ?_)
           all_goals
            first
            |refine MT.mk ?_
             first
             |exact Bool.noConfusion h
             |skip
              try simp only [nrm] at h
              refine Ad fun K20 hK20=>?_
              simp (disch:=omega) only [amL,sA]
              refine hK20 _ ?_
              refine Aj ?_
              try simp (disch:=omega) only [amL,↓reduceIte]
              all_goals first | (rw [Bg3 (by omega)]; done) | (rw [Ben (by omega) (.inl (by omega))]; done) | (rw [Ben (by omega) (.inr (.inl (Bee (d:=default) (k:=k) (by omega) (by simp_all [Er]))))]; done) | (rw [Ben (by omega) (.inr (.inr (Bee (d:=default) (k:=k2) (by omega) (by simpa using h))))]; done) | (rw [Bem (by omega) (by omega) (by omega) hva hsa,if_pos h]; done) | (rw [Bem (by omega) (by omega) (by omega) hva hsa,if_neg h]; done) | trace_state
            |refine ME.mk ?_
             first
             |exact Bool.noConfusion h
             |skip
              try simp only [nrm] at h
              refine Am ?_
              refine hK18 _ ?_
           all_goals
            skip
            refine Ad fun K21 hK21=>?_
            simp (disch:=omega) only [amL,sA]
            refine hK21 _ ?_
            refine Aj ?_
            try simp (disch:=omega) only [amL,↓reduceIte]
            all_goals first | (rw [Bg3 (by omega)]; done) | (rw [Ben (by omega) (.inl (by omega))]; done) | (rw [Ben (by omega) (.inr (.inl (Bee (d:=default) (k:=k) (by omega) (by simp_all [Er]))))]; done) | (rw [Ben (by omega) (.inr (.inr (Bee (d:=default) (k:=k2) (by omega) (by simpa using h))))]; done) | (rw [Bem (by omega) (by omega) (by omega) hva hsa,if_pos h]; done) | (rw [Bem (by omega) (by omega) (by omega) hva hsa,if_neg h]; done) | trace_state
        all_goals
         skip
         refine Ab fun K22 hK22=>?_
         refine Au ?_
         refine Ab fun K23 hK23=>?_
         refine Cj (by kernel_rfl) (by kernel_rfl) ?_
         simp (disch:=omega) only [Yh,amL,amT,sA,sB,sF,↓reduceIte,reduceCtorEq]
         repeat' first | (refine Ax (by kernel_rfl) rfl (Bor (b.ss.getD k2 default) b.vs.length h1) (by first | exact .inl rfl | exact .inr (.inl rfl)) ?_ ; simp (disch:=omega) only [amL,sA,↓reduceIte])
         refine hK23 _ ?_
         refine Al rfl (fun h=>MT.x ?_) (fun h=>ME.x ?_)
         all_goals
          first
          |refine MT.mk ?_
           first
           |exact Bool.noConfusion h
           |skip
            try simp only [nrm] at h
            refine Ad fun K24 hK24=>?_
            simp (disch:=omega) only [amL,sA]
            refine hK24 _ ?_
            refine Aj ?_
            try simp (disch:=omega) only [amL,↓reduceIte]
            all_goals first | (rw [Bg3 (by omega)]; done) | (rw [Ben (by omega) (.inl (by omega))]; done) | (rw [Ben (by omega) (.inr (.inl (Bee (d:=default) (k:=k) (by omega) (by simp_all [Er]))))]; done) | (rw [Ben (by omega) (.inr (.inr (Bee (d:=default) (k:=k2) (by omega) (by simpa using h))))]; done) | (rw [Bem (by omega) (by omega) (by omega) hva hsa,if_pos h]; done) | (rw [Bem (by omega) (by omega) (by omega) hva hsa,if_neg h]; done) | trace_state
          |refine ME.mk ?_
           first
           |exact Bool.noConfusion h
           |skip
            try simp only [nrm] at h
            refine Am ?_
            refine hK22 _ ?_
         all_goals
          skip
          refine Ah ?_
          simp (disch:=omega) only [amL,amT,sA,sF,↓reduceIte]
          refine hK15 (k2+1) _ ?_ ?_ (Dg ?_ ?_ ?_ ?_)
          all_goals (try simp (disch:=omega) only [amL,sF,↓reduceIte])
          all_goals first | omega | exact ⟨by omega,Bim (d:=default) (by omega) hpre2 (by simpa using h)⟩ | trace_state
     all_goals
      skip
      refine Ab fun K25 hK25=>?_
      refine Au ?_
      refine Ad fun K26 hK26=>?_
      simp (disch:=omega) only [Dj,amL,amT,sA,sB,sF,↓reduceIte,reduceCtorEq]
      refine hK26 _ ?_
      refine Ad fun K27 hK27=>?_
      simp (disch:=omega) only [amL,amT,sA,sB,sE,↓reduceIte,reduceCtorEq]
      repeat' first | (refine E3 (fun h=>?_) (fun h=>?_) <;> simp (disch:=omega) only [h,Dj,Yh,amL,amT,sA,sB,sC,sD,sE,sF,sG,sH,sI,sJ,sK,sL,sM,sN,sO,↓reduceIte,reduceCtorEq]) | (refine Cz (fun h=>?_) (fun h=>?_) <;> simp (disch:=omega) only [h,amL,amT,sA,sB,sE,sF,↓reduceIte,reduceCtorEq]) | (refine Ax (by kernel_rfl) rfl (Bmw ⟨_,_⟩ _ (by omega)) (by first | exact .inl rfl | exact .inr (.inl rfl)) ?_ ; simp (disch:=omega) only [amL,sA,sF,↓reduceIte]) | (refine Ax (by kernel_rfl) rfl (Bkv _ _ _) (by first | exact .inl rfl | exact .inr (.inl rfl)) ?_ ; simp (disch:=omega) only [amL,sA,sF,↓reduceIte])
      all_goals
       skip
       refine hK27 _ ?_
       refine Al rfl (fun h=>MT.x ?_) (fun h=>ME.x ?_)
       all_goals
        first
        |refine MT.mk ?_
         first
         |exact Bool.noConfusion h
         |skip
          try simp only [nrm] at h
          refine Ad fun K28 hK28=>?_
          simp (disch:=omega) only [amL,sA]
          refine hK28 _ ?_
          refine Aj ?_
          try simp (disch:=omega) only [amL,↓reduceIte]
          all_goals first | (rw [Bg3 (by omega)]; done) | (rw [Ben (by omega) (.inl (by omega))]; done) | (rw [Ben (by omega) (.inr (.inl (Bee (d:=default) (k:=k) (by omega) (by simp_all [Er]))))]; done) | (rw [Ben (by omega) (.inr (.inr (Bee (d:=default) (k:=k2) (by omega) (by simpa using h))))]; done) | (rw [Bem (by omega) (by omega) (by omega) hva hsa,if_pos h]; done) | (rw [Bem (by omega) (by omega) (by omega) hva hsa,if_neg h]; done) | trace_state
        |refine ME.mk ?_
         first
         |exact Bool.noConfusion h
         |skip
          try simp only [nrm] at h
          refine Am ?_
          refine hK25 _ ?_
       all_goals
        skip
        refine Ah ?_
        simp (disch:=omega) only [amL,amT,sA,sF,↓reduceIte]
        refine hK10 (k+1) _ ?_ ?_ (Dg ?_ ?_ ?_ ?_)
        all_goals (try simp (disch:=omega) only [amL,sF,↓reduceIte])
        all_goals first | omega | exact ⟨by omega,Bim (d:=default) (by omega) hpre (by simp_all [Er])⟩ | trace_state
theorem Bn5 (r:Rng):Bu Tryz.prog 27 [avR r] (avR r):=by
  refine Bo (v:=[]) (q:=[]) (N:=8) (rs:=[.cell 2 58]) Tryz.func27 rfl rfl rfl rfl rfl ?_
  refine Ad fun K1 hK1=>?_
  simp (disch:=omega) only [amL,amT,sA,sB,sF,↓reduceIte]
  refine hK1 _ ?_
  refine Ad fun K2 hK2=>?_
  simp (disch:=omega) only [amL,amT,sA,sB,sE,sF,↓reduceIte,reduceCtorEq]
  refine hK2 _ ?_
  refine Aj ?_
  try simp (disch:=omega) only [amL,amT,sB,sF,↓reduceIte]
  all_goals rfl
theorem Bma (l:List Int):((l.map fun n=>[iv n]).all fun c=>decide (c.length=1))=true:=by simp
theorem Bi3 (l:List Int) (hl:l.length < 1000000):Bu Tryz.prog 63 [isl l] (isl l):=by
  refine Bo (v:=[]) (q:=[]) (N:=6) (rs:=[.tmp 2]) Tryz.func63 rfl rfl rfl rfl rfl ?_
  refine Ad fun K1 hK1=>?_
  simp (disch:=omega) only [amL,sA]
  refine hK1 _ ?_
  refine Ad fun K2 hK2=>?_
  simp (disch:=omega) only [Bma,amL,amT,sA,sF,↓reduceIte,reduceCtorEq]
  refine hK2 _ ?_
  refine Aj ?_
  try simp (disch:=omega) only [amL,↓reduceIte]
  rw [show l.length=(l.map fun n=>[iv n]).length by simp,List.take_length]
theorem Bl0 (l:List Stp) (hl:l.length < 1000000):Bu Tryz.prog 36 [.p (slS l)] (.p (slS l)):=by
  refine Bo (v:=[]) (q:=[]) (N:=37) (rs:=[.tmp 2]) Tryz.func36 rfl rfl rfl rfl rfl ?_
  refine Ad fun K1 hK1=>?_
  simp (disch:=omega) only [amL,sA]
  refine hK1 _ ?_
  refine Ad fun K2 hK2=>?_
  simp (disch:=omega) only [amL,sA]
  refine hK2 _ ?_
  refine Ab fun K3 hK3=>?_
  refine Ad fun K4 hK4=>?_
  simp (disch:=omega) only [amL,sA]
  refine hK4 _ ?_
  refine Au ?_
  refine Px 35 5 3 (by decide) rfl rfl ?_
  refine Bg (α:=Nat) (fun k=>⟨T [(0,.p (slS l)),(3,.own 35 k),(4,i64 (k:Int))],O [(35,.arr 5 ((l.take k).map Pz))]⟩) (fun k=>l.length - k) (fun k=>k≤l.length) 0 ?_ ?_ (fun k hx5 K5 hK5=>?_)
  · exact Nat.zero_le _
  · refine Dg ?_ ?_ ?_ ?_ <;> (try simp (disch:=omega) only [amL,sF,↓reduceIte,reduceCtorEq]); all_goals first | rfl | trace_state
  have hk:=hx5
  refine Ab fun K6 hK6=>?_
  refine Ad fun K7 hK7=>?_
  simp (disch:=omega) only [amL,amT,sA,sF,↓reduceIte,reduceCtorEq]
  refine hK7 _ ?_
  refine Al rfl (fun h=>MT.x ?_) (fun h=>ME.x ?_)
  all_goals
   first
   |refine MT.mk ?_
    first
    |exact Bool.noConfusion h
    |skip
     try simp only [nrm] at h
     refine Am ?_
     refine hK6 _ ?_
   |refine ME.mk ?_
    first
    |exact Bool.noConfusion h
    |skip
     try simp only [nrm] at h
     refine Bq ?_
     refine hK3 _ ?_
     refine Ad fun K8 hK8=>?_
     simp (disch:=omega) only [amL,sA,sF,↓reduceIte,reduceCtorEq]
     refine hK8 _ ?_
     refine Aj ?_
     try simp (disch:=omega) only [amL,↓reduceIte]
     rw [List.take_of_length_le (by simp; omega),List.take_of_length_le (by omega)]
  all_goals
   skip
   refine Ab fun K9 hK9=>?_
   refine Au ?_
   refine Cj (by kernel_rfl) (by kernel_rfl) ?_
   simp (disch:=omega) only [Yh,amL,amT,sA,sB,sF,↓reduceIte,reduceCtorEq]
   repeat' first | (refine Ax (by kernel_rfl) rfl (Bn5 ⟨_,_⟩) (by first | exact .inl rfl | exact .inr (.inl rfl)) ?_ ; simp (disch:=omega) only [amL,amT,sA,sB,sC,sE,sF,↓reduceIte,reduceCtorEq])
   refine hK9 _ ?_
   refine Ah ?_
   simp (disch:=omega) only [amL,amT,sA,sF,↓reduceIte,reduceCtorEq]
   refine hK5 (k+1) _ ?_ ?_ (Dg ?_ ?_ ?_ ?_)
   all_goals (try simp (disch:=omega) only [amL,sF,↓reduceIte,reduceCtorEq])
   all_goals first | omega | exact (congrArg (AO.arr 5) (Abp default (by omega))).symm | trace_state
theorem Bnv (b:Eg) (h1:b.vs.length < 1000000) (h2:b.ss.length < 1000000):Bu Tryz.prog 16 [avB b] (avB b):=by
  refine Bo (v:=[]) (q:=[]) (N:=37) (rs:=[.cell 2 38]) Tryz.func16 rfl rfl rfl rfl rfl ?_
  refine Ad fun K1 hK1=>?_
  simp (disch:=omega) only [amL,amT,sA,sB,sF,↓reduceIte]
  refine hK1 _ ?_
  refine Ad fun K2 hK2=>?_
  simp (disch:=omega) only [amL,amT,sA,sB,sF,↓reduceIte]
  refine hK2 _ ?_
  refine Ab fun K3 hK3=>?_
  refine Ad fun K4 hK4=>?_
  simp (disch:=omega) only [amL,sA]
  refine hK4 _ ?_
  refine Au ?_
  refine Bfb 30 5 3 0 (by decide) rfl rfl rfl ?_
  refine Bg (α:=Nat) (fun k=>⟨T [(1,.ptr 1 0),(2,.ptr 2 0),(3,.ptr 3 0),(4,i64 (k:Int))],O [(1,.cells (cB b)),(2,.cells [C4,C4]),(3,.cells [.own 30 k,C4]),(30,.arr 5 ((b.vs.take k).map Aeo))]⟩) (fun k=>b.vs.length - k) (fun k=>k≤b.vs.length) 0 ?_ ?_ (fun k hx5 K5 hK5=>?_)
  · exact Nat.zero_le _
  · refine Dg ?_ ?_ ?_ ?_ <;> (try simp (disch:=omega) only [amL,sF,sG,↓reduceIte]); all_goals first | rfl | trace_state
  have hk:=hx5
  refine Ab fun K6 hK6=>?_
  refine Ad fun K7 hK7=>?_
  simp (disch:=omega) only [amL,amT,sA,sF,↓reduceIte,reduceCtorEq]
  refine hK7 _ ?_
  refine Al rfl (fun h=>MT.x ?_) (fun h=>ME.x ?_)
  all_goals
   first
   |refine MT.mk ?_
    first
    |exact Bool.noConfusion h
    |skip
     try simp only [nrm] at h
     refine Am ?_
     refine hK6 _ ?_
   |refine ME.mk ?_
    first
    |exact Bool.noConfusion h
    |skip
     try simp only [nrm] at h
     refine Bq ?_
     refine hK3 _ ?_
     refine Ad fun K8 hK8=>?_
     simp (disch:=omega) only [amL,amT,sA,sF,↓reduceIte,reduceCtorEq]
     repeat' first | (refine Ax (by kernel_rfl) rfl (Bl0 b.ss h2) (by first | exact .inl rfl | exact .inr (.inl rfl)) ?_ ; simp (disch:=omega) only [amL,amT,sA,sB,sF,↓reduceIte,reduceCtorEq])
     refine hK8 _ ?_
     refine Ad fun K9 hK9=>?_
     simp (disch:=omega) only [amL,amT,sB,sF,↓reduceIte]
     refine hK9 _ ?_
     refine Aj ?_
     try simp (disch:=omega) only [amL,amT,sB,sF,↓reduceIte]
     rw [List.take_of_length_le (by simp; omega),List.take_of_length_le (by omega)]
  all_goals
   skip
   refine Ab fun K10 hK10=>?_
   refine Au ?_
   refine Ad fun K11 hK11=>?_
   simp (disch:=omega) only [Dj,amL,amT,sA,sB,sF,↓reduceIte,reduceCtorEq]
   refine hK11 _ ?_
   refine Cj (by kernel_rfl) (by kernel_rfl) ?_
   simp (disch:=omega) only [amL,amT,sA,sB,sE,sF,↓reduceIte,reduceCtorEq]
   repeat' first | (refine Ax (by kernel_rfl) rfl (Bn5 ⟨_,_⟩) (by first | exact .inl rfl | exact .inr (.inl rfl)) ?_ ; simp (disch:=omega) only [amL,amT,sA,sB,sC,sE,sF,↓reduceIte,reduceCtorEq])
   refine hK10 _ ?_
   refine Ah ?_
   simp (disch:=omega) only [amL,amT,sA,sF,↓reduceIte]
   refine hK5 (k+1) _ ?_ ?_ (Dg ?_ ?_ ?_ ?_)
   all_goals (try simp (disch:=omega) only [amL,sF,sG,↓reduceIte])
   all_goals first | omega | exact (congrArg (AO.arr 5) (Abp default (by omega))).symm | trace_state
theorem Bmo (t:Tru) (h1:t.g.length < 1000000) (h2:t.d.length < 1000000) (h3:t.m.length < 1000000):Bu Tryz.prog 17 [avT t] (avT t):=by
  refine Bo (v:=[]) (q:=[]) (N:=13) (rs:=[.cell 2 40]) Tryz.func17 rfl rfl rfl rfl rfl ?_
  refine Ad fun K1 hK1=>?_
  simp (disch:=omega) only [amL,amT,sA,sB,sF,↓reduceIte]
  refine hK1 _ ?_
  refine Ab fun K2 hK2=>?_
  refine Cj (by kernel_rfl) (by kernel_rfl) ?_
  simp (disch:=omega) only [amL,amT,sA,sF,↓reduceIte,reduceCtorEq]
  repeat' first | (refine Ax (by kernel_rfl) rfl (by first | exact Bi3 t.g h1 | exact Bi3 t.d h2 | exact Bi3 t.m h3) (by first | exact .inl rfl | exact .inr (.inl rfl)) ?_ ; simp (disch:=omega) only [amL,amT,sA,sB,sE,sF,↓reduceIte,reduceCtorEq])
  refine hK2 _ ?_
  refine Aj ?_
  try simp (disch:=omega) only [amL,amT,sB,sF,↓reduceIte]
  all_goals rfl
theorem Bmg (b:Eg) (h1:b.vs.length < 1000000) (h2:b.ss.length < 1000000):Bu Tryz.prog 18 [avB b] (i64 (B5 b)):=by
  refine Bo (v:=[]) (q:=[]) (N:=5) (rs:=[.tmp 2]) Tryz.func18 rfl rfl rfl rfl rfl ?_
  refine Ad fun K1 hK1=>?_
  simp (disch:=omega) only [amL,sA,↓reduceIte]
  refine hK1 _ ?_
  refine Ad fun K2 hK2=>?_
  simp (disch:=omega) only [amL,amT,sA,sB,sF,↓reduceIte]
  repeat' first | (refine Ax (by kernel_rfl) rfl (Bme b h1 h2) (by first | exact .inl rfl | exact .inr (.inl rfl)) ?_ ; simp (disch:=omega) only [amL,sA,↓reduceIte])
  refine hK2 _ ?_
  refine Aj ?_
  try simp (disch:=omega) only [amL,↓reduceIte]
  skip
def Bg9 (b:Eg) (t:Tru):Bool:=decide ((b.vs.length:Int)≤7)&&(decide ((b.ss.length:Int)≤9)&&(decide ((t.g.length:Int)≤9)&&(decide ((t.d.length:Int)≤9)&&decide ((t.m.length:Int)≤9))))
theorem Boo (b:Eg) (n:Int) (hv:N3 b) (hn0:0≤n) (hn1:n≤1000000000):Bu Tryz.prog 44 [avB b,i64 n] (avT (Bhc b n)):=by
  refine Bo (v:=[]) (q:=[]) (N:=92) (rs:=[.cell 4 28]) Tryz.func44 rfl rfl rfl rfl rfl ?_
  have hnv:=hv.nv
  have hns:=hv.ns
  refine Ad fun K1 hK1=>?_
  simp (disch:=omega) only [amL,amT,sA,sB,sF,↓reduceIte]
  refine hK1 _ ?_
  refine Ad fun K2 hK2=>?_
  simp (disch:=omega) only [amL,amT,sA,sB,sF,↓reduceIte]
  refine hK2 _ ?_
  refine Ab fun K3 hK3=>?_
  refine Ad fun K4 hK4=>?_
  simp (disch:=omega) only [amL,sA]
  refine hK4 _ ?_
  refine Au ?_
  refine Bfb 40 1 5 0 (by decide) rfl rfl rfl ?_
  refine Bfb 56 1 5 1 (by decide) rfl rfl rfl ?_
  refine Bg (α:=(List Int × List Int) × Int) (fun x=>⟨T [(1,i64 x.2),(2,.ptr 2 0),(4,.ptr 4 0),(5,.ptr 5 0),(6,i64 (x.1.1.length:Int))],O [(2,.cells (cB b)),(4,.cells [C4,C4,C4]),(5,.cells [.own 40 x.1.1.length,.own 56 x.1.2.length,C4]),(40,.arr 1 (x.1.1.map J3)),(56,.arr 1 (x.1.2.map J3))]⟩) (fun x=>b.vs.length - x.1.1.length) (fun x=>x.1.1.length≤b.vs.length∧x.1.2.length=x.1.1.length∧(0≤x.2∧x.2≤1000000000)∧Ble x.1.1 x.1.2 (Bfk (b.vs.drop x.1.1.length) x.2)=Bfk b.vs n) (([],[]),n) ?_ ?_ (fun x hx5 K5 hK5=>?_)
  · exact ⟨Nat.zero_le _,rfl,⟨hn0,hn1⟩,rfl⟩
  · refine Dg ?_ ?_ ?_ ?_ <;> (try simp (disch:=omega) only [amL,sF,sG,↓reduceIte,reduceCtorEq]); all_goals first | rfl | trace_state
  obtain ⟨⟨gs,ds⟩,m⟩:=x; dsimp only at hx5 ⊢; obtain ⟨hk,hk2,⟨hm0,hm1⟩,hr⟩:=hx5
  refine Ab fun K6 hK6=>?_
  refine Ad fun K7 hK7=>?_
  simp (disch:=omega) only [amL,amT,sA,sF,↓reduceIte,reduceCtorEq]
  refine hK7 _ ?_
  refine Al rfl (fun h=>MT.x ?_) (fun h=>ME.x ?_)
  all_goals
   first
   |refine MT.mk ?_
    first
    |exact Bool.noConfusion h
    |skip
     try simp only [nrm] at h
     refine Am ?_
     refine hK6 _ ?_
   |refine ME.mk ?_
    first
    |exact Bool.noConfusion h
    |skip
     try simp only [nrm] at h
     refine Bq ?_
     refine hK3 _ ?_
     refine Ab fun K8 hK8=>?_
     refine Ad fun K9 hK9=>?_
     simp (disch:=omega) only [amL,sA]
     refine hK9 _ ?_
     refine Au ?_
     refine Bfb 85 1 5 2 (by decide) rfl rfl rfl ?_
     refine Bg (α:=List Int × Int) (fun x=>⟨T [(1,i64 x.2),(2,.ptr 2 0),(4,.ptr 4 0),(5,.ptr 5 0),(9,i64 (x.1.length:Int))],O [(2,.cells (cB b)),(4,.cells [C4,C4,C4]),(5,.cells [.own 40 gs.length,.own 56 ds.length,.own 85 x.1.length]),(40,.arr 1 (gs.map J3)),(56,.arr 1 (ds.map J3)),(85,.arr 1 (x.1.map J3))]⟩) (fun x=>b.ss.length - x.1.length) (fun x=>x.1.length≤b.ss.length∧(0≤x.2∧x.2≤1000000000)∧x.1++Bgs (b.ss.drop x.1.length) x.2=Bgs b.ss m) ([],m) ?_ ?_ (fun x hx10 K10 hK10=>?_)
     · exact ⟨Nat.zero_le _,⟨hm0,hm1⟩,rfl⟩
     · refine Dg ?_ ?_ ?_ ?_ <;> (try simp (disch:=omega) only [amL,sF,sG,↓reduceIte]); all_goals first | rfl | trace_state
     obtain ⟨ms,m2⟩:=x; dsimp only at hx10 ⊢; obtain ⟨hj,⟨hm20,hm21⟩,hr2⟩:=hx10
     refine Ab fun K11 hK11=>?_
     refine Ad fun K12 hK12=>?_
     simp (disch:=omega) only [amL,amT,sA,sF,↓reduceIte,reduceCtorEq]
     refine hK12 _ ?_
     refine Al rfl (fun h=>MT.x ?_) (fun h=>ME.x ?_)
     all_goals
      first
      |refine MT.mk ?_
       first
       |exact Bool.noConfusion h
       |skip
        try simp only [nrm] at h
        refine Am ?_
        refine hK11 _ ?_
      |refine ME.mk ?_
       first
       |exact Bool.noConfusion h
       |skip
        try simp only [nrm] at h
        refine Bq ?_
        refine hK8 _ ?_
        refine Ad fun K13 hK13=>?_
        simp (disch:=omega) only [amL,amT,sB,sF,↓reduceIte]
        refine hK13 _ ?_
        refine Aj ?_
        try simp (disch:=omega) only [amL,amT,sB,sF,↓reduceIte]
        have e1:=Bnp (by omega) hr
        have e2:=Bnb (by omega) hr2
        unfold Bhc
        rw [e1]
        dsimp only
        rw [e2,List.take_of_length_le (by simp),List.take_of_length_le (by simp),List.take_of_length_le (by simp)]
     all_goals
      skip
      refine Ab fun K14 hK14=>?_
      refine Au ?_
      refine Ad fun K15 hK15=>?_
      simp (disch:=omega) only [Yh,amL,amT,sA,sB,sF,↓reduceIte,reduceCtorEq]
      refine hK15 _ ?_
      refine Ab fun K16 hK16=>?_
      refine Cj (by kernel_rfl) (by kernel_rfl) ?_
      have hk3:ms.length < b.ss.length:=by omega
      have hp1:=(Fp (hv.stp hk3)).2.2.2.2
      have z1:=Pu hp1
      have y1:=Da hp1
      have hmo:=Bib (m:=m2) z1.1
      have hdi:=Bj2 hm20 z1.1
      have htm:m2.tmod (Fa (b.ss.getD ms.length default).g)=m2 % Fa (b.ss.getD ms.length default).g:=Int.tmod_eq_emod_of_nonneg hm20
      have htd:m2.tdiv (Fa (b.ss.getD ms.length default).g)=m2 / Fa (b.ss.getD ms.length default).g:=Int.tdiv_eq_ediv_of_nonneg hm20
      simp (disch:=omega) only [amL,amT,sA,sB,sF,↓reduceIte,reduceCtorEq]
      repeat' first | (refine Ax (by kernel_rfl) rfl (by first | exact Bd9 (b.vs.getD gs.length default).g (by omega) (by omega) | exact Bd9 (b.vs.getD gs.length default).d (by omega) (by omega) | exact Bd9 (b.ss.getD ms.length default).g (by omega) (by omega)) (by first | exact .inl rfl | exact .inr (.inl rfl)) ?_ ; simp (disch:=omega) only [htm,amL,amT,sA,sB,sE,sF,↓reduceIte,reduceCtorEq])
      refine hK16 _ ?_
      refine Ah ?_
      simp (disch:=omega) only [amL,amT,sA,sB,sF,↓reduceIte]
      repeat' first | (refine Ax (by kernel_rfl) rfl (by first | exact Bd9 (b.vs.getD gs.length default).g (by omega) (by omega) | exact Bd9 (b.vs.getD gs.length default).d (by omega) (by omega) | exact Bd9 (b.ss.getD ms.length default).g (by omega) (by omega)) (by first | exact .inl rfl | exact .inr (.inl rfl)) ?_ ; simp (disch:=omega) only [htd,amL,amT,sA,sF,↓reduceIte])
      refine hK14 _ ?_
      refine Ah ?_
      simp (disch:=omega) only [amL,amT,sA,sF,↓reduceIte]
      refine hK10 (ms++[(b.ss.getD ms.length default).g.lo+m2 % Fa (b.ss.getD ms.length default).g],m2 / Fa (b.ss.getD ms.length default).g) _ ?_ ?_ (Dg ?_ ?_ ?_ ?_)
      all_goals (try simp (disch:=omega) only [amL,sF,sG,↓reduceIte])
      all_goals first | omega | exact ⟨by simp; omega,⟨by omega,by omega⟩,Bla (by omega) hr2 _ rfl⟩ | (simp; omega) | (rw [List.length_append]; rfl) | (rw [List.map_append]; rfl) | (simp; done) | trace_state
  all_goals
   skip
   refine Ab fun K17 hK17=>?_
   refine Au ?_
   refine Ab fun K18 hK18=>?_
   refine Al2 [.sto [2] 7,.sto [24] 7,.sto [25,26] 7,.sto [27] 7,.sto [28] 7] (by kernel_rfl) (by kernel_rfl) ?_
   simp (disch:=omega) only [Dj,amL,amT,sA,sB,sE,sF,↓reduceIte,reduceCtorEq]
   refine ⟨by simp [Cf.ok,Vs,T,AV.known,AV.clean],?_⟩
   all_goals
    skip
    refine hK18 _ ?_
    refine Ab fun K19 hK19=>?_
    refine Cj (by kernel_rfl) (by kernel_rfl) ?_
    have hk3:gs.length < b.vs.length:=by omega
    obtain ⟨hp1,hp2,_⟩:=C9 (hv.ves hk3)
    have z1:=Pu hp1
    have z2:=Pu hp2
    have y1:=Da hp1
    have y2:=Da hp2
    have hmo:=Bib (m:=m) z1.1
    have hdi:=Bj2 hm0 z1.1
    have htm:m.tmod (Fa (b.vs.getD gs.length default).g)=m % Fa (b.vs.getD gs.length default).g:=Int.tmod_eq_emod_of_nonneg hm0
    have htd:m.tdiv (Fa (b.vs.getD gs.length default).g)=m / Fa (b.vs.getD gs.length default).g:=Int.tdiv_eq_ediv_of_nonneg hm0
    have hmo2:=Bib (m:=m / Fa (b.vs.getD gs.length default).g) z2.1
    have hdi2:=Bj2 hdi.1 z2.1
    have htm2:(m / Fa (b.vs.getD gs.length default).g).tmod (Fa (b.vs.getD gs.length default).d)=m / Fa (b.vs.getD gs.length default).g % Fa (b.vs.getD gs.length default).d:=Int.tmod_eq_emod_of_nonneg hdi.1
    have htd2:(m / Fa (b.vs.getD gs.length default).g).tdiv (Fa (b.vs.getD gs.length default).d)=m / Fa (b.vs.getD gs.length default).g / Fa (b.vs.getD gs.length default).d:=Int.tdiv_eq_ediv_of_nonneg hdi.1
    simp (disch:=omega) only [amL,amT,sA,sB,sF,↓reduceIte,reduceCtorEq]
    repeat' first | (refine Ax (by kernel_rfl) rfl (by first | exact Bd9 (b.vs.getD gs.length default).g (by omega) (by omega) | exact Bd9 (b.vs.getD gs.length default).d (by omega) (by omega) | exact Bd9 (b.ss.getD ms.length default).g (by omega) (by omega)) (by first | exact .inl rfl | exact .inr (.inl rfl)) ?_ ; simp (disch:=omega) only [htm,amL,amT,sA,sB,sE,sF,↓reduceIte,reduceCtorEq])
    refine hK19 _ ?_
    refine Ad fun K20 hK20=>?_
    simp (disch:=omega) only [amL,amT,sA,sB,sF,↓reduceIte]
    repeat' first | (refine Ax (by kernel_rfl) rfl (by first | exact Bd9 (b.vs.getD gs.length default).g (by omega) (by omega) | exact Bd9 (b.vs.getD gs.length default).d (by omega) (by omega) | exact Bd9 (b.ss.getD ms.length default).g (by omega) (by omega)) (by first | exact .inl rfl | exact .inr (.inl rfl)) ?_ ; simp (disch:=omega) only [htd,amL,amT,sA,sF,↓reduceIte])
    refine hK20 _ ?_
    refine Ab fun K21 hK21=>?_
    refine Cj (by kernel_rfl) (by kernel_rfl) ?_
    simp (disch:=omega) only [amL,amT,sA,sB,sF,↓reduceIte,reduceCtorEq]
    repeat' first | (refine Ax (by kernel_rfl) rfl (by first | exact Bd9 (b.vs.getD gs.length default).g (by omega) (by omega) | exact Bd9 (b.vs.getD gs.length default).d (by omega) (by omega) | exact Bd9 (b.ss.getD ms.length default).g (by omega) (by omega)) (by first | exact .inl rfl | exact .inr (.inl rfl)) ?_ ; simp (disch:=omega) only [htm2,amL,amT,sA,sB,sE,sF,↓reduceIte,reduceCtorEq])
    refine hK21 _ ?_
    refine Ah ?_
    simp (disch:=omega) only [amL,amT,sA,sB,sF,↓reduceIte]
    repeat' first | (refine Ax (by kernel_rfl) rfl (by first | exact Bd9 (b.vs.getD gs.length default).g (by omega) (by omega) | exact Bd9 (b.vs.getD gs.length default).d (by omega) (by omega) | exact Bd9 (b.ss.getD ms.length default).g (by omega) (by omega)) (by first | exact .inl rfl | exact .inr (.inl rfl)) ?_ ; simp (disch:=omega) only [htd2,amL,amT,sA,sF,↓reduceIte])
    refine hK17 _ ?_
    refine Ah ?_
    simp (disch:=omega) only [amL,amT,sA,sF,↓reduceIte]
    refine hK5 ((gs++[(b.vs.getD gs.length default).g.lo+m % Fa (b.vs.getD gs.length default).g],ds++[(b.vs.getD gs.length default).d.lo+m / Fa (b.vs.getD gs.length default).g % Fa (b.vs.getD gs.length default).d]),Bn3 (b.vs.getD gs.length default) m) _ ?_ ?_ (Dg ?_ ?_ ?_ ?_)
    all_goals (try simp (disch:=omega) only [amL,sF,sG,↓reduceIte])
    all_goals first | omega | exact ⟨by simp; omega,by simp [hk2],⟨hdi2.1,Int.le_trans hdi2.2 (Int.le_trans hdi.2 hm1)⟩,Blw (by omega) hr _ _ rfl rfl⟩ | (simp; omega) | (rw [List.length_append]; rfl) | (rw [List.map_append]; rfl) | (simp; done) | trace_state
theorem Bly (b:Eg):Bu Tryz.prog 13 [avB b,.agg [C4,C4,C4]] (bl (Bg9 b ⟨[],[],[]⟩)):=by
  refine Bo (v:=[]) (q:=[]) (N:=33) (rs:=[.tmp 4]) Tryz.func13 rfl rfl rfl rfl rfl ?_
  refine Ad fun K1 hK1=>?_
  simp (disch:=omega) only [amL,sA,sB,sF,↓reduceIte,reduceCtorEq]
  refine hK1 _ ?_
  refine Ad fun K2 hK2=>?_
  simp (disch:=omega) only [amL,amT,sA,sF,↓reduceIte,reduceCtorEq]
  repeat' first | (refine E3 (fun h=>?_) (fun h=>?_) <;> simp (disch:=omega) only [h,amL,amT,sA,sF,sL,↓reduceIte,reduceCtorEq]) | (refine Cz (fun h=>?_) (fun h=>?_) <;> simp (disch:=omega) only [h,amL,amT,sA,sB,sC,sD,sE,sF,sG,sH,sI,sJ,sK,sL,sM,sN,sO,↓reduceIte,reduceCtorEq])
  all_goals
   skip
   refine hK2 _ ?_
   refine Aj ?_
   try simp (disch:=omega) only [amL,↓reduceIte]
   all_goals first | (simp only [Bg9, *,decide_true,decide_false,Bool.true_and,Bool.false_and]; done) | (simp_all [Bg9]; done) | (simp_all [Bg9]; omega)
theorem Bl9 {b:Eg} {t:Tru} (h:Bg9 b t=true):b.vs.length < 1000000∧b.ss.length < 1000000:=by
  simp only [Bg9,Bool.and_eq_true,decide_eq_true_eq] at h
  omega
def Bhi (b:Eg):Bool:=Bg9 b ⟨[],[],[]⟩&&decide (B5 b=0)
theorem Bm7 (b:Eg):Bu Tryz.prog 42 [avB b] (bl (Bhi b)):=by
  refine Bo (v:=[]) (q:=[]) (N:=11) (rs:=[.tmp 2]) Tryz.func42 rfl rfl rfl rfl rfl ?_
  refine Ad fun K1 hK1=>?_
  simp (disch:=omega) only [amL,sA,↓reduceIte]
  refine hK1 _ ?_
  refine Ad fun K2 hK2=>?_
  simp (disch:=omega) only [amL,amT,sA,sB,sF,↓reduceIte]
  repeat' first | (refine E3 (fun h=>?_) (fun h=>?_) <;> simp (disch:=omega) only [h,amL,amT,sA,sB,sC,sD,sE,sF,sG,sH,sI,sJ,sK,sL,sM,sN,sO,↓reduceIte,reduceCtorEq]) | (refine Cz (fun h=>?_) (fun h=>?_) <;> simp (disch:=omega) only [h,amL,amT,sA,sB,sF,↓reduceIte]) | (refine Ax (by kernel_rfl) rfl (Bly b) (by first | exact .inl rfl | exact .inr (.inl rfl)) ?_ ; simp (disch:=omega) only [amL,sA,↓reduceIte]) | (refine Ax (by kernel_rfl) rfl (Bmg b (Bl9 (by assumption)).1 (Bl9 (by assumption)).2) (by first | exact .inl rfl | exact .inr (.inl rfl)) ?_ ; simp (disch:=omega) only [amL,amT,sA,sF,↓reduceIte])
  all_goals
   skip
   refine hK2 _ ?_
   refine Aj ?_
   try simp (disch:=omega) only [amL,↓reduceIte]
   all_goals first | (simp_all [Bhi]; done) | trace_state
theorem Bni (e g:Int) (h1:0≤e∧e≤1000000000) (h2:0≤g∧g≤1000000):Bu Tryz.prog 122 [i64 e,i64 g] (i64 (Bf2 e g)):=by
  refine Bo (v:=[]) (q:=[]) (N:=22) (rs:=[.tmp 4]) Tryz.func122 rfl rfl rfl rfl rfl ?_
  refine Ad fun K1 hK1=>?_
  simp (disch:=omega) only [amL,sA,sB]
  refine hK1 _ ?_
  refine Ab fun K2 hK2=>?_
  refine Ad fun K3 hK3=>?_
  simp (disch:=omega) only [amL,amT,sA,sF,↓reduceIte,reduceCtorEq]
  refine hK3 _ ?_
  refine Al rfl (fun h=>MT.x ?_) (fun h=>ME.x ?_)
  all_goals
   first
   |refine MT.mk ?_
    first
    |exact Bool.noConfusion h
    |skip
     try simp only [nrm] at h
     refine Ad fun K4 hK4=>?_
     simp (disch:=omega) only [amL,sA]
     refine hK4 _ ?_
     refine Aj ?_
     try simp (disch:=omega) only [amL,↓reduceIte]
     first | (rw [Bf2,if_pos h]; done) | (rw [Bf2,if_neg (by assumption),if_pos (by assumption)]; done) | (rw [Bf2,if_neg (by assumption),if_neg (by assumption)]; done) | trace_state
   |refine ME.mk ?_
    first
    |exact Bool.noConfusion h
    |skip
     try simp only [nrm] at h
     refine Am ?_
     refine hK2 _ ?_
  all_goals
   skip
   refine Ad fun K5 hK5=>?_
   have hb:=Bjo h1.1 (show 0 < g by omega)
   have htd:e.tdiv g=e / g:=Int.tdiv_eq_ediv_of_nonneg h1.1
   have hw1:IntKind.i64.wrap (e / g)=e / g:=Fc (by omega) (by omega)
   simp (disch:=omega) only [htd,hw1,amL,amT,sA,sF,↓reduceIte,reduceCtorEq]
   refine hK5 _ ?_
   refine Ab fun K6 hK6=>?_
   refine Ad fun K7 hK7=>?_
   have hw2:IntKind.i64.wrap (e / g * g)=e / g * g:=Fc (by omega) (by omega)
   have hw3:IntKind.i64.wrap (e - e / g * g)=e - e / g * g:=Fc (by omega) (by omega)
   simp (disch:=omega) only [hw2,hw3,amL,amT,sA,sF,↓reduceIte,reduceCtorEq]
   refine hK7 _ ?_
   refine Al rfl (fun h=>MT.x ?_) (fun h=>ME.x ?_)
   all_goals
    first
    |refine MT.mk ?_
     first
     |exact Bool.noConfusion h
     |skip
      try simp only [nrm] at h
      refine Ah ?_
      simp (disch:=omega) only [amL,amT,sA,sF,↓reduceIte]
      refine hK6 _ ?_
    |refine ME.mk ?_
     first
     |exact Bool.noConfusion h
     |skip
      try simp only [nrm] at h
      refine Am ?_
      refine hK6 _ ?_
   all_goals
    skip
    refine Ad fun K8 hK8=>?_
    simp (disch:=omega) only [amL,sA,sF,↓reduceIte]
    refine hK8 _ ?_
    refine Aj ?_
    try simp (disch:=omega) only [amL,↓reduceIte]
    first | (rw [Bf2,if_pos h]; done) | (rw [Bf2,if_neg (by assumption),if_pos (by assumption)]; done) | (rw [Bf2,if_neg (by assumption),if_neg (by assumption)]; done) | trace_state
theorem Bh8 (l:List Sta) (hl:l.length < 1000000) (hs:∀ k,(0≤(l.getD k default).e∧(l.getD k default).e≤1000000000)∧0≤(l.getD k default).g∧(l.getD k default).g≤1000000):Bu Tryz.prog 92 [.p (.sl (l.map Bag))] (.p (.sl ((l.map wei).map Bag))):=by
  refine Bo (v:=[]) (q:=[]) (N:=37) (rs:=[.tmp 2]) Tryz.func92 rfl rfl rfl rfl rfl ?_
  refine Ad fun K1 hK1=>?_
  simp (disch:=omega) only [amL,sA]
  refine hK1 _ ?_
  refine Ad fun K2 hK2=>?_
  simp (disch:=omega) only [amL,sA]
  refine hK2 _ ?_
  refine Ab fun K3 hK3=>?_
  refine Ad fun K4 hK4=>?_
  simp (disch:=omega) only [amL,sA]
  refine hK4 _ ?_
  refine Au ?_
  refine Px 35 3 3 (by decide) rfl rfl ?_
  refine Bg (α:=Nat) (fun k=>⟨T [(0,.p (.sl (l.map Bag))),(3,.own 35 k),(4,i64 (k:Int))],O [(35,.arr 3 (((l.take k).map wei).map Bag))]⟩) (fun k=>l.length - k) (fun k=>k≤l.length) 0 ?_ ?_ (fun k hx5 K5 hK5=>?_)
  · exact Nat.zero_le _
  · refine Dg ?_ ?_ ?_ ?_ <;> (try simp (disch:=omega) only [amL,sF,↓reduceIte,reduceCtorEq]); all_goals first | rfl | trace_state
  have hk:=hx5
  refine Ab fun K6 hK6=>?_
  refine Ad fun K7 hK7=>?_
  simp (disch:=omega) only [amL,amT,sA,sF,↓reduceIte,reduceCtorEq]
  refine hK7 _ ?_
  refine Al rfl (fun h=>MT.x ?_) (fun h=>ME.x ?_)
  all_goals
   first
   |refine MT.mk ?_
    first
    |exact Bool.noConfusion h
    |skip
     try simp only [nrm] at h
     refine Am ?_
     refine hK6 _ ?_
   |refine ME.mk ?_
    first
    |exact Bool.noConfusion h
    |skip
     try simp only [nrm] at h
     refine Bq ?_
     refine hK3 _ ?_
     refine Ad fun K8 hK8=>?_
     simp (disch:=omega) only [amL,sA,sF,↓reduceIte,reduceCtorEq]
     refine hK8 _ ?_
     refine Aj ?_
     try simp (disch:=omega) only [amL,↓reduceIte]
     rw [List.take_of_length_le (by simp; omega),List.take_of_length_le (by omega)]
  all_goals
   skip
   refine Ab fun K9 hK9=>?_
   refine Au ?_
   refine Cj (by kernel_rfl) (by kernel_rfl) ?_
   simp (disch:=omega) only [Bed,amL,amT,sA,sB,sF,↓reduceIte,reduceCtorEq]
   repeat' first | (refine Ax (by kernel_rfl) rfl (Bni (l.getD k default).e (l.getD k default).g (hs k).1 (hs k).2) (by first | exact .inl rfl | exact .inr (.inl rfl)) ?_ ; simp (disch:=omega) only [amL,amT,sA,sB,sC,sE,sF,↓reduceIte,reduceCtorEq])
   refine hK9 _ ?_
   refine Ah ?_
   simp (disch:=omega) only [amL,amT,sA,sF,↓reduceIte,reduceCtorEq]
   refine hK5 (k+1) _ ?_ ?_ (Dg ?_ ?_ ?_ ?_)
   all_goals (try simp (disch:=omega) only [amL,sF,↓reduceIte,reduceCtorEq])
   all_goals first | omega | (rw [Abp default (by omega),List.map_append]; rfl) | trace_state
theorem Bls (b:Eg) (t:Tru) (hv:N3 b) (hl:F7 b t=true):Bu Tryz.prog 53 [avB b,avT t] (.tup [.p (.sl (stL (Bfq b.vs t.g t.d))),bl (Bhp b.vs t.g)]):=by
  refine Bo (v:=[]) (q:=[]) (N:=54) (rs:=[.tmp 4,.tmp 5]) Tryz.func53 rfl rfl rfl rfl rfl ?_
  have hnv:=hv.nv
  obtain ⟨p1,p2,p3,p4,p5⟩:=Dk hl
  obtain ⟨s1,s2,s3⟩:=Lc hv hl
  have hbo:=Bgz hv hl
  have hbl:=hbo.len hnv
  refine Ad fun K1 hK1=>?_
  simp (disch:=omega) only [amL,sA,sB,sF,↓reduceIte,reduceCtorEq]
  refine hK1 _ ?_
  refine Ad fun K2 hK2=>?_
  simp (disch:=omega) only [amL,sA]
  refine hK2 _ ?_
  refine Ad fun K3 hK3=>?_
  simp (disch:=omega) only [amL,sA]
  refine hK3 _ ?_
  refine Ab fun K4 hK4=>?_
  refine Ad fun K5 hK5=>?_
  simp (disch:=omega) only [amL,sA]
  refine hK5 _ ?_
  refine Au ?_
  refine Px 35 3 6 (by decide) rfl rfl ?_
  refine Bg (α:=List Liq × Bool) (fun x=>⟨T [(2,.ptr 2 0),(3,.ptr 3 0),(6,.own 35 x.1.length),(7,bl x.2),(8,i64 (x.1.length:Int))],O [(2,.cells (cB b)),(3,.cells (cT t)),(35,.arr 3 ((x.1.map Bhv).map Bag))]⟩) (fun x=>b.vs.length - x.1.length) (fun x=>x.1.length≤b.vs.length∧x.1++Bfm (b.vs.drop x.1.length) t.g t.d x.1.length=Bfq b.vs t.g t.d∧(x.2&&Bfe (b.vs.drop x.1.length) t.g x.1.length)=Bhp b.vs t.g) ([],true) ?_ ?_ (fun x hx6 K6 hK6=>?_)
  · exact ⟨Nat.zero_le _,rfl,rfl⟩
  · refine Dg ?_ ?_ ?_ ?_ <;> (try simp (disch:=omega) only [amL,sF,sG,↓reduceIte]); all_goals first | rfl | trace_state
  obtain ⟨acc,is⟩:=x; dsimp only at hx6 ⊢; obtain ⟨hk,hr1,hr2⟩:=hx6
  refine Ab fun K7 hK7=>?_
  refine Ad fun K8 hK8=>?_
  simp (disch:=omega) only [amL,amT,sA,sF,↓reduceIte,reduceCtorEq]
  refine hK8 _ ?_
  refine Al rfl (fun h=>MT.x ?_) (fun h=>ME.x ?_)
  all_goals
   first
   |refine MT.mk ?_
    first
    |exact Bool.noConfusion h
    |skip
     try simp only [nrm] at h
     refine Am ?_
     refine hK7 _ ?_
   |refine ME.mk ?_
    first
    |exact Bool.noConfusion h
    |skip
     try simp only [nrm] at h
     refine Bq ?_
     refine hK4 _ ?_
     refine Ab fun K9 hK9=>?_
     have e1:acc=Bfq b.vs t.g t.d:=by rw [Bmp (by omega),List.append_nil] at hr1; exact hr1
     have e2:is=Bhp b.vs t.g:=by rw [Bm5 (by omega),Bool.and_true] at hr2; exact hr2
     subst e1 e2
     refine Bgn 35 rfl ?_
     simp only [Wr,Bh7,AV.frz,AO.frz,List.map_cons,List.map_nil,Nat.reduceEqDiff,if_false,if_true,Nat.le_refl,List.length_map]
     rw [List.take_of_length_le (by simp)]
     refine Ah ?_
     simp (disch:=omega) only [amL,sA,sF,↓reduceIte]
     refine Ax (by kernel_rfl) rfl (Bh8 ((Bfq b.vs t.g t.d).map Bhv) (by simp; omega) (Bk8 hbo)) (by first | exact .inl rfl | exact .inr (.inl rfl)) ?_
     rw [Bnl hbo]
     simp (disch:=omega) only [amL,sA,sF,↓reduceIte]
     refine hK9 _ ?_
     refine Aj ?_
     try simp (disch:=omega) only [amL,sF,↓reduceIte]
     skip
  all_goals
   skip
   refine Ab fun K10 hK10=>?_
   refine Au ?_
   refine Ab fun K11 hK11=>?_
   refine Cj (by kernel_rfl) (by kernel_rfl) ?_
   have g1:=s1 acc.length
   have g2:=s2 acc.length
   have g3:=Bn1 (show 0≤t.g.getD acc.length 0∧t.g.getD acc.length 0≤100000 by omega) (show 0≤t.d.getD acc.length 0∧t.d.getD acc.length 0≤100000 by omega)
   simp (disch:=omega) only [Bm,amL,amT,sA,sB,sC,sE,sF,↓reduceIte,reduceCtorEq]
   refine hK11 _ ?_
   refine Cj (by kernel_rfl) (by kernel_rfl) ?_
   simp (disch:=omega) only [amL,sA,sF,↓reduceIte]
   repeat' first | (refine E3 (fun h=>?_) (fun h=>?_) <;> simp (disch:=omega) only [h,Dj,Bm,amL,amT,sA,sB,sC,sD,sE,sF,sG,sH,sI,sJ,sK,sL,sM,sN,sO,↓reduceIte,reduceCtorEq]) | (refine Cz (fun h=>?_) (fun h=>?_) <;> simp (disch:=omega) only [h,Dj,Bm,amL,amT,sA,sB,sF,↓reduceIte,reduceCtorEq])
   all_goals
    skip
    refine hK10 _ ?_
    refine Ah ?_
    simp (disch:=omega) only [amL,amT,sA,sF,↓reduceIte]
    refine hK6 (acc++[⟨t.g.getD acc.length 0,t.g.getD acc.length 0 * t.d.getD acc.length 0⟩],is&&decide (t.g.getD acc.length 0≤(b.vs.getD acc.length default).room)) _ ?_ ?_ (Dg ?_ ?_ ?_ ?_)
    all_goals (try simp (disch:=omega) only [amL,sF,sG,↓reduceIte])
    all_goals first | omega | exact Bm0 (by omega) hr1 hr2 | (simp; omega) | exact ⟨by simp,by simp_all,by simp⟩ | (rw [List.map_append,List.map_append]; rfl) | trace_state
theorem Bov (b:Eg) (v:List Liq) (s:Stp) (n:Int) (hv:N3 b) (ho:OkN b.vs.length v) (hr:Bht b.vs v) (hs:F4 b.vs.length s=true) (hn:0≤n∧n≤60) :
    Bu Tryz.prog 70 [avB b,.p (.sl (stL v)),avS s,i64 n] (.tup [.p (.sl (stL (doX b.vs v s n).1)),bl (doX b.vs v s n).2]):=by
  rw [Bi6,Bi6]
  refine Bo (v:=[]) (q:=[]) (N:=126) (rs:=[.tmp 8,.tmp 9]) Tryz.func70 rfl rfl rfl rfl rfl ?_
  have hnv:=hv.nv
  have hvl:=ho.len hnv
  obtain ⟨q1,q2,q3,q4,_⟩:=Fp hs
  obtain ⟨⟨f1,f2⟩,f3,f4⟩:=ho.at s.frm.toNat
  obtain ⟨⟨t1,t2⟩,t3,t4⟩:=ho.at s.to.toNat
  obtain ⟨S,hS⟩:∃ S,S=v.map Bby:=⟨_,rfl⟩
  have hSl:S.length=b.vs.length:=by rw [hS,List.length_map,hvl]
  have hSf:S.getD s.frm.toNat default=Bby (B6 v s.frm.toNat):=by rw [hS]; exact Bjj (by omega)
  have hSt:S.getD s.to.toNat default=Bby (B6 v s.to.toNat):=by rw [hS]; exact Bjj (by omega)
  have hSm:SmA S:=by rw [hS]; exact Bol ho
  have hSp:S.map prA=v:=by rw [hS]; exact Bn7 v
  rw [← hS]
  refine Ad fun K1 hK1=>?_
  simp (disch:=(first | omega | (simp only [List.length_set]; omega))) only [amL,sA,sB,sF,↓reduceIte,reduceCtorEq]
  refine hK1 _ ?_
  refine Ad fun K2 hK2=>?_
  simp (disch:=(first | omega | (simp only [List.length_set]; omega))) only [Bh6,amL,amT,sA,sB,sF,↓reduceIte,reduceCtorEq]
  refine hK2 _ ?_
  refine Ad fun K3 hK3=>?_
  simp (disch:=(first | omega | (simp only [List.length_set]; omega))) only [amL,sA]
  refine hK3 _ ?_
  refine Ab fun K4 hK4=>?_
  refine Ad fun K5 hK5=>?_
  simp (disch:=(first | omega | (simp only [List.length_set]; omega))) only [amL,amT,sA,sF,↓reduceIte,reduceCtorEq]
  refine hK5 _ ?_
  refine Al rfl (fun h=>MT.x ?_) (fun h=>ME.x ?_)
  all_goals
   first
   |refine MT.mk ?_
    first
    |exact Bool.noConfusion h
    |((try simp only [nrm] at h) ; exfalso ; omega)
    |skip
     try simp only [nrm] at h
     refine Ab fun K6 hK6=>?_
     refine Ad fun K7 hK7=>?_
     simp (disch:=(first | omega | (simp only [List.length_set]; omega))) only [Bed,hSf,Bfl,Bfg,amL,amT,sA,sF,↓reduceIte,reduceCtorEq]
     refine hK7 _ ?_
     refine Al rfl (fun h=>MT.x ?_) (fun h=>ME.x ?_)
     all_goals
      first
      |refine MT.mk ?_
       first
       |exact Bool.noConfusion h
       |((try simp only [nrm] at h) ; exfalso ; omega)
       |skip
        try simp only [nrm] at h
        refine Ad fun K8 hK8=>?_
        simp (disch:=(first | omega | (simp only [List.length_set]; omega))) only [amL,sA,sF,↓reduceIte,reduceCtorEq]
        refine hK8 _ ?_
        refine Aj ?_
        try simp (disch:=(first | omega | (simp only [List.length_set]; omega))) only [amL,sF,↓reduceIte]
        all_goals first | (exfalso; omega) | exact doA hS (Bku (by omega) hs hvl (by omega)) rfl rfl | exact doA hS (Bd7 (by rw [Bfd (by omega) hs hvl (by omega) (by omega)]; exact decide_eq_false (by omega))) rfl rfl | exact doA hS (Bd7 (by rw [Be5 (by omega) (by omega) (by omega)]; exact decide_eq_false (by omega))) rfl rfl | exact doA hS (Bd7 (by rw [Be3 (by omega) hs hvl]; exact decide_eq_false (by omega))) rfl rfl | exact doA hS (Bd7 (by rw [Bet (by omega) hs hvl hr hn.1,decide_eq_false (by omega),decide_eq_true (by omega),decide_eq_false (by omega)]; rfl)) rfl rfl | exact doB (by rw [Bfd (by omega) hs hvl (by omega) (by omega),decide_eq_true (by omega)]) (by repeat' first | exact hSm | refine Bef ?_ (by dsimp only; omega)) (by simp only [List.map_set,hSp]; rfl) | exact doB (by rw [Be3 (by omega) hs hvl,decide_eq_true (by omega)]) (by repeat' first | exact hSm | refine Bef ?_ (by dsimp only; omega)) (by simp only [List.map_set,hSp]; rfl) | exact doB (by rw [Bet (by omega) hs hvl hr hn.1,decide_eq_true (by omega)] <;> rfl) (by repeat' first | exact hSm | refine Bef ?_ (by dsimp only; omega)) (by simp only [List.map_set,hSp,prA,Int.sub_zero]) | exact doB (by rw [Bet (by omega) hs hvl hr hn.1,decide_eq_false (by omega),decide_eq_true (by omega),decide_eq_true (by omega)] <;> rfl) (by repeat' first | exact hSm | refine Bef ?_ (by dsimp only; omega)) (by simp only [List.map_set,hSp,prA,Int.sub_zero] <;> rw [show (B6 v s.frm.toNat).g - n=0 by omega]) | exact doB (by rw [Be5 (by omega) (by omega) (by omega),decide_eq_true (by omega)]) (by repeat' first | exact hSm | refine Bef ?_ (by dsimp only; omega)) (by simp only [List.map_set,hSp]; rw [Be4 (k:=s.frm.toNat) (by omega) (by unfold prA; dsimp only; rw [show n=0 by omega]; simp),Be4 (k:=s.to.toNat) (by omega) (by unfold prA; dsimp only; rw [show n=0 by omega]; simp)]) | trace_state
      |refine ME.mk ?_
       first
       |exact Bool.noConfusion h
       |((try simp only [nrm] at h) ; exfalso ; omega)
       |skip
        try simp only [nrm] at h
        refine Am ?_
        refine hK6 _ ?_
     all_goals
      skip
      refine Ab fun K9 hK9=>?_
      refine Ad fun K10 hK10=>?_
      simp (disch:=(first | omega | (simp only [List.length_set]; omega))) only [amL,amT,sA,sF,↓reduceIte,reduceCtorEq]
      repeat' first | (refine E3 (fun h=>?_) (fun h=>?_) <;> simp (disch:=(first | omega | (simp only [List.length_set]; omega))) only [h,amL,amT,sA,sF,↓reduceIte,reduceCtorEq]) | (refine Cz (fun h=>?_) (fun h=>?_) <;> simp (disch:=(first | omega | (simp only [List.length_set]; omega))) only [h,Bh6,Bed,Dj,Be8,Bfr,Bi7,hSf,hSt,Bfl,Bfg,List.set_set,List.length_set,amL,amT,sA,sB,sC,sD,sE,sF,sG,sH,sI,sJ,sK,sL,sM,sN,sO,↓reduceIte,reduceCtorEq])
      all_goals
       skip
       refine hK10 _ ?_
       refine Al rfl (fun h=>MT.x ?_) (fun h=>ME.x ?_)
       all_goals
        first
        |refine MT.mk ?_
         first
         |exact Bool.noConfusion h
         |((try simp only [nrm] at h) ; exfalso ; omega)
         |skip
          try simp only [nrm] at h
          refine Cj (by kernel_rfl) (by kernel_rfl) ?_
          have hb:=Uz (n:=n) (e:=(B6 v s.frm.toNat).e) (g:=(B6 v s.frm.toNat).g) hn.1 (by omega) f3 (by omega)
          have hx1:0≤G2 v s.frm.toNat n:=hb.1
          have hx2:G2 v s.frm.toNat n≤(B6 v s.frm.toNat).e:=hb.2
          have hb2:=Bn1 (a:=n) (b:=(B6 v s.frm.toNat).e) (by omega) (by omega)
          have hw7:IntKind.i64.wrap (n * (B6 v s.frm.toNat).e)=n * (B6 v s.frm.toNat).e:=Fc (by omega) (by omega)
          have htd:(n * (B6 v s.frm.toNat).e).tdiv (B6 v s.frm.toNat).g=G2 v s.frm.toNat n:=Int.tdiv_eq_ediv_of_nonneg (by omega)
          simp (disch:=(first | omega | (simp only [List.length_set]; omega))) only [hw7,htd,Bed,hSf,Bfl,Bfg,amL,amT,sA,sF,↓reduceIte,reduceCtorEq]
          refine hK9 _ ?_
        |refine ME.mk ?_
         first
         |exact Bool.noConfusion h
         |((try simp only [nrm] at h) ; exfalso ; omega)
         |skip
          try simp only [nrm] at h
          refine Am ?_
          refine hK9 _ ?_
       all_goals
        skip
        refine Ad fun K11 hK11=>?_
        simp (disch:=(first | omega | (simp only [List.length_set]; omega))) only [Bed,Be8,hSf,Bfl,Bfg,amL,amT,sA,sE,sF,↓reduceIte,reduceCtorEq]
        refine hK11 _ ?_
        refine Ah ?_
        simp (disch:=(first | omega | (simp only [List.length_set]; omega))) only [Bed,Be8,Bfr,List.set_set,List.length_set,amL,amT,sA,sB,sE,sF,↓reduceIte,reduceCtorEq]
        refine hK4 _ ?_
   |refine ME.mk ?_
    first
    |exact Bool.noConfusion h
    |((try simp only [nrm] at h) ; exfalso ; omega)
    |skip
     try simp only [nrm] at h
     refine Am ?_
     refine hK4 _ ?_
  all_goals
   skip
   refine Ab fun K12 hK12=>?_
   refine Ad fun K13 hK13=>?_
   simp (disch:=(first | omega | (simp only [List.length_set]; omega))) only [amL,amT,sA,sF,↓reduceIte,reduceCtorEq]
   refine hK13 _ ?_
   refine Al rfl (fun h=>MT.x ?_) (fun h=>ME.x ?_)
   all_goals
    first
    |refine MT.mk ?_
     first
     |exact Bool.noConfusion h
     |((try simp only [nrm] at h) ; exfalso ; omega)
     |skip
      try simp only [nrm] at h
      refine Ad fun K14 hK14=>?_
      simp (disch:=(first | omega | (simp only [List.length_set]; omega))) only [Bed,Be8,Bi7,hSt,Bfl,Bfg,List.length_set,amL,amT,sA,sE,sF,↓reduceIte,reduceCtorEq]
      refine hK14 _ ?_
      refine Ad fun K15 hK15=>?_
      simp (disch:=(first | omega | (simp only [List.length_set]; omega))) only [Bed,Be8,Bfr,List.set_set,List.length_set,amL,amT,sA,sB,sE,sF,↓reduceIte,reduceCtorEq]
      refine hK15 _ ?_
      refine Ab fun K16 hK16=>?_
      refine Cj (by kernel_rfl) (by kernel_rfl) ?_
      simp (disch:=(first | omega | (simp only [List.length_set]; omega))) only [Bed,Dj,Bfr,List.length_set,amL,amT,sA,sB,sF,↓reduceIte,reduceCtorEq]
      refine hK16 _ ?_
      refine Al rfl (fun h=>MT.x ?_) (fun h=>ME.x ?_)
      all_goals
       first
       |refine MT.mk ?_
        first
        |exact Bool.noConfusion h
        |((try simp only [nrm] at h) ; exfalso ; omega)
        |skip
         try simp only [nrm] at h
         refine Ad fun K17 hK17=>?_
         simp (disch:=(first | omega | (simp only [List.length_set]; omega))) only [amL,sA,sF,↓reduceIte,reduceCtorEq]
         refine hK17 _ ?_
         refine Aj ?_
         try simp (disch:=(first | omega | (simp only [List.length_set]; omega))) only [amL,sF,↓reduceIte]
         all_goals first | (exfalso; omega) | exact doA hS (Bku (by omega) hs hvl (by omega)) rfl rfl | exact doA hS (Bd7 (by rw [Bfd (by omega) hs hvl (by omega) (by omega)]; exact decide_eq_false (by omega))) rfl rfl | exact doA hS (Bd7 (by rw [Be5 (by omega) (by omega) (by omega)]; exact decide_eq_false (by omega))) rfl rfl | exact doA hS (Bd7 (by rw [Be3 (by omega) hs hvl]; exact decide_eq_false (by omega))) rfl rfl | exact doA hS (Bd7 (by rw [Bet (by omega) hs hvl hr hn.1,decide_eq_false (by omega),decide_eq_true (by omega),decide_eq_false (by omega)]; rfl)) rfl rfl | exact doB (by rw [Bfd (by omega) hs hvl (by omega) (by omega),decide_eq_true (by omega)]) (by repeat' first | exact hSm | refine Bef ?_ (by dsimp only; omega)) (by simp only [List.map_set,hSp]; rfl) | exact doB (by rw [Be3 (by omega) hs hvl,decide_eq_true (by omega)]) (by repeat' first | exact hSm | refine Bef ?_ (by dsimp only; omega)) (by simp only [List.map_set,hSp]; rfl) | exact doB (by rw [Bet (by omega) hs hvl hr hn.1,decide_eq_true (by omega)] <;> rfl) (by repeat' first | exact hSm | refine Bef ?_ (by dsimp only; omega)) (by simp only [List.map_set,hSp,prA,Int.sub_zero]) | exact doB (by rw [Bet (by omega) hs hvl hr hn.1,decide_eq_false (by omega),decide_eq_true (by omega),decide_eq_true (by omega)] <;> rfl) (by repeat' first | exact hSm | refine Bef ?_ (by dsimp only; omega)) (by simp only [List.map_set,hSp,prA,Int.sub_zero] <;> rw [show (B6 v s.frm.toNat).g - n=0 by omega]) | exact doB (by rw [Be5 (by omega) (by omega) (by omega),decide_eq_true (by omega)]) (by repeat' first | exact hSm | refine Bef ?_ (by dsimp only; omega)) (by simp only [List.map_set,hSp]; rw [Be4 (k:=s.frm.toNat) (by omega) (by unfold prA; dsimp only; rw [show n=0 by omega]; simp),Be4 (k:=s.to.toNat) (by omega) (by unfold prA; dsimp only; rw [show n=0 by omega]; simp)]) | trace_state
       |refine ME.mk ?_
        first
        |exact Bool.noConfusion h
        |((try simp only [nrm] at h) ; exfalso ; omega)
        |skip
         try simp only [nrm] at h
         refine Am ?_
         refine hK12 _ ?_
    |refine ME.mk ?_
     first
     |exact Bool.noConfusion h
     |((try simp only [nrm] at h) ; exfalso ; omega)
     |skip
      try simp only [nrm] at h
      refine Ad fun K18 hK18=>?_
      simp (disch:=(first | omega | (simp only [List.length_set]; omega))) only [Bed,Bfr,List.length_set,amL,amT,sA,sF,↓reduceIte,reduceCtorEq]
      repeat' first | (refine E3 (fun h=>?_) (fun h=>?_) <;> simp (disch:=(first | omega | (simp only [List.length_set]; omega))) only [h,Bed,Bfr,List.length_set,amL,amT,sA,sF,↓reduceIte,reduceCtorEq]) | (refine Cz (fun h=>?_) (fun h=>?_) <;> simp (disch:=(first | omega | (simp only [List.length_set]; omega))) only [h,Bh6,Bed,Dj,Be8,Bfr,Bi7,hSf,hSt,Bfl,Bfg,List.set_set,List.length_set,amL,amT,sA,sB,sC,sD,sE,sF,sG,sH,sI,sJ,sK,sL,sM,sN,sO,↓reduceIte,reduceCtorEq])
      all_goals
       skip
       refine hK18 _ ?_
       refine Al rfl (fun h=>MT.x ?_) (fun h=>ME.x ?_)
       all_goals
        first
        |refine MT.mk ?_
         first
         |exact Bool.noConfusion h
         |((try simp only [nrm] at h) ; exfalso ; omega)
         |skip
          try simp only [nrm] at h
          refine Ad fun K19 hK19=>?_
          simp (disch:=(first | omega | (simp only [List.length_set]; omega))) only [amL,sA,sF,↓reduceIte,reduceCtorEq]
          refine hK19 _ ?_
          refine Aj ?_
          try simp (disch:=(first | omega | (simp only [List.length_set]; omega))) only [amL,sF,↓reduceIte]
          all_goals first | (exfalso; omega) | exact doA hS (Bku (by omega) hs hvl (by omega)) rfl rfl | exact doA hS (Bd7 (by rw [Bfd (by omega) hs hvl (by omega) (by omega)]; exact decide_eq_false (by omega))) rfl rfl | exact doA hS (Bd7 (by rw [Be5 (by omega) (by omega) (by omega)]; exact decide_eq_false (by omega))) rfl rfl | exact doA hS (Bd7 (by rw [Be3 (by omega) hs hvl]; exact decide_eq_false (by omega))) rfl rfl | exact doA hS (Bd7 (by rw [Bet (by omega) hs hvl hr hn.1,decide_eq_false (by omega),decide_eq_true (by omega),decide_eq_false (by omega)]; rfl)) rfl rfl | exact doB (by rw [Bfd (by omega) hs hvl (by omega) (by omega),decide_eq_true (by omega)]) (by repeat' first | exact hSm | refine Bef ?_ (by dsimp only; omega)) (by simp only [List.map_set,hSp]; rfl) | exact doB (by rw [Be3 (by omega) hs hvl,decide_eq_true (by omega)]) (by repeat' first | exact hSm | refine Bef ?_ (by dsimp only; omega)) (by simp only [List.map_set,hSp]; rfl) | exact doB (by rw [Bet (by omega) hs hvl hr hn.1,decide_eq_true (by omega)] <;> rfl) (by repeat' first | exact hSm | refine Bef ?_ (by dsimp only; omega)) (by simp only [List.map_set,hSp,prA,Int.sub_zero]) | exact doB (by rw [Bet (by omega) hs hvl hr hn.1,decide_eq_false (by omega),decide_eq_true (by omega),decide_eq_true (by omega)] <;> rfl) (by repeat' first | exact hSm | refine Bef ?_ (by dsimp only; omega)) (by simp only [List.map_set,hSp,prA,Int.sub_zero] <;> rw [show (B6 v s.frm.toNat).g - n=0 by omega]) | exact doB (by rw [Be5 (by omega) (by omega) (by omega),decide_eq_true (by omega)]) (by repeat' first | exact hSm | refine Bef ?_ (by dsimp only; omega)) (by simp only [List.map_set,hSp]; rw [Be4 (k:=s.frm.toNat) (by omega) (by unfold prA; dsimp only; rw [show n=0 by omega]; simp),Be4 (k:=s.to.toNat) (by omega) (by unfold prA; dsimp only; rw [show n=0 by omega]; simp)]) | trace_state
        |refine ME.mk ?_
         first
         |exact Bool.noConfusion h
         |((try simp only [nrm] at h) ; exfalso ; omega)
         |skip
          try simp only [nrm] at h
          refine Am ?_
          refine hK12 _ ?_
   all_goals
    skip
    refine Ab fun K20 hK20=>?_
    refine Bgn 14 rfl ?_
    simp only [Wr,Bh7,AV.frz,AO.frz,AV.frz.frzL,List.map_cons,List.map_nil,Nat.reduceEqDiff,if_false,if_true,Nat.le_refl,List.length_map,List.length_set]
    rw [List.take_of_length_le (by simp)]
    refine Ah ?_
    simp (disch:=(first | omega | (simp only [List.length_set]; omega))) only [amL,sA,sF,↓reduceIte]
    refine Ax (by kernel_rfl) rfl (Bh8 _ (by simp only [List.length_set]; omega) (by repeat' first | exact hSm | refine Bef ?_ (by dsimp only; omega))) (by first | exact .inl rfl | exact .inr (.inl rfl)) ?_
    simp (disch:=(first | omega | (simp only [List.length_set]; omega))) only [amL,sA,↓reduceIte]
    refine hK20 _ ?_
    refine Aj ?_
    try simp (disch:=(first | omega | (simp only [List.length_set]; omega))) only [amL,sF,↓reduceIte]
    all_goals first | (exfalso; omega) | exact doA hS (Bku (by omega) hs hvl (by omega)) rfl rfl | exact doA hS (Bd7 (by rw [Bfd (by omega) hs hvl (by omega) (by omega)]; exact decide_eq_false (by omega))) rfl rfl | exact doA hS (Bd7 (by rw [Be5 (by omega) (by omega) (by omega)]; exact decide_eq_false (by omega))) rfl rfl | exact doA hS (Bd7 (by rw [Be3 (by omega) hs hvl]; exact decide_eq_false (by omega))) rfl rfl | exact doA hS (Bd7 (by rw [Bet (by omega) hs hvl hr hn.1,decide_eq_false (by omega),decide_eq_true (by omega),decide_eq_false (by omega)]; rfl)) rfl rfl | exact doB (by rw [Bfd (by omega) hs hvl (by omega) (by omega),decide_eq_true (by omega)]) (by repeat' first | exact hSm | refine Bef ?_ (by dsimp only; omega)) (by simp only [List.map_set,hSp]; rfl) | exact doB (by rw [Be3 (by omega) hs hvl,decide_eq_true (by omega)]) (by repeat' first | exact hSm | refine Bef ?_ (by dsimp only; omega)) (by simp only [List.map_set,hSp]; rfl) | exact doB (by rw [Bet (by omega) hs hvl hr hn.1,decide_eq_true (by omega)] <;> rfl) (by repeat' first | exact hSm | refine Bef ?_ (by dsimp only; omega)) (by simp only [List.map_set,hSp,prA,Int.sub_zero]) | exact doB (by rw [Bet (by omega) hs hvl hr hn.1,decide_eq_false (by omega),decide_eq_true (by omega),decide_eq_true (by omega)] <;> rfl) (by repeat' first | exact hSm | refine Bef ?_ (by dsimp only; omega)) (by simp only [List.map_set,hSp,prA,Int.sub_zero] <;> rw [show (B6 v s.frm.toNat).g - n=0 by omega]) | exact doB (by rw [Be5 (by omega) (by omega) (by omega),decide_eq_true (by omega)]) (by repeat' first | exact hSm | refine Bef ?_ (by dsimp only; omega)) (by simp only [List.map_set,hSp]; rw [Be4 (k:=s.frm.toNat) (by omega) (by unfold prA; dsimp only; rw [show n=0 by omega]; simp),Be4 (k:=s.to.toNat) (by omega) (by unfold prA; dsimp only; rw [show n=0 by omega]; simp)]) | trace_state
theorem Bnn (b:Eg) (t:Tru) (hv:N3 b) (hl:F7 b t=true):Bu Tryz.prog 21 [avB b,avT t] (.tup [.p (.sl (stL (Beh b t).1)),bl (Beh b t).2]):=by
  refine Bo (v:=[]) (q:=[]) (N:=43) (rs:=[.tmp 4,.tmp 5]) Tryz.func21 rfl rfl rfl rfl rfl ?_
  have hnv:=hv.nv
  have hns:=hv.ns
  obtain ⟨p1,p2,p3,p4,p5⟩:=Dk hl
  obtain ⟨s1,s2,s3⟩:=Lc hv hl
  refine Ad fun K1 hK1=>?_
  simp (disch:=omega) only [amL,sA,sB,sF,↓reduceIte,reduceCtorEq]
  refine hK1 _ ?_
  refine Ad fun K2 hK2=>?_
  simp (disch:=omega) only [amL,amT,sA,sB,sF,↓reduceIte]
  repeat' first | (refine Ax (by kernel_rfl) rfl (Bls b t hv hl) (by first | exact .inl rfl | exact .inr (.inl rfl)) ?_ ; simp (disch:=omega) only [amL,sA,sF,↓reduceIte])
  refine hK2 _ ?_
  refine Ab fun K3 hK3=>?_
  refine Ad fun K4 hK4=>?_
  simp (disch:=omega) only [amL,sA]
  refine hK4 _ ?_
  refine Au ?_
  skip
  refine Bg (α:=Nat × (List Liq × Bool)) (fun x=>⟨T [(2,.ptr 2 0),(3,.ptr 3 0),(6,.p (.sl (stL x.2.1))),(7,bl x.2.2),(8,i64 (x.1:Int))],O [(2,.cells (cB b)),(3,.cells (cT t))]⟩) (fun x=>b.ss.length - x.1) (fun x=>x.1≤b.ss.length∧OkN b.vs.length x.2.1∧(x.2.2=true→Bht b.vs x.2.1)∧Bes b.vs t.m (b.ss.drop x.1) x.1 x.2=Beh b t) (0,(Bfq b.vs t.g t.d,Bhp b.vs t.g)) ?_ ?_ (fun x hx5 K5 hK5=>?_)
  · exact ⟨by simp,Bgz hv hl,Bjf,rfl⟩
  · refine Dg ?_ ?_ ?_ ?_ <;> (try simp (disch:=omega) only [amL,sF,sG,↓reduceIte]); all_goals first | rfl | trace_state
  obtain ⟨k,v,is⟩:=x; dsimp only at hx5 ⊢; obtain ⟨hk,ho,hr,hp⟩:=hx5
  refine Ab fun K6 hK6=>?_
  refine Ad fun K7 hK7=>?_
  simp (disch:=omega) only [amL,amT,sA,sF,↓reduceIte,reduceCtorEq]
  repeat' first | (refine E3 (fun h=>?_) (fun h=>?_) <;> simp (disch:=omega) only [h,amL,sA,sF,↓reduceIte]) | (refine Cz (fun h=>?_) (fun h=>?_) <;> simp (disch:=omega) only [h,Yh,Bm,amL,amT,sA,sB,sC,sD,sE,sF,sG,sH,sI,sJ,sK,sL,sM,sN,sO,↓reduceIte,reduceCtorEq])
  all_goals
   skip
   refine hK7 _ ?_
   refine Al rfl (fun h=>MT.x ?_) (fun h=>ME.x ?_)
   all_goals
    first
    |refine MT.mk ?_
     first
     |exact Bool.noConfusion h
     |skip
      try simp only [nrm] at h
      refine Am ?_
      refine hK6 _ ?_
    |refine ME.mk ?_
     first
     |exact Bool.noConfusion h
     |skip
      try simp only [] at h
      refine Bq ?_
      refine hK3 _ ?_
      refine Ad fun K8 hK8=>?_
      simp (disch:=omega) only [amL,sA,sF,↓reduceIte]
      refine hK8 _ ?_
      refine Aj ?_
      try simp (disch:=omega) only [amL,sF,↓reduceIte]
      all_goals first | (rw [Blq (by omega) hp]; done) | (rw [Bkb (by omega) (by first | assumption | exact Bool.eq_false_iff.2 (by assumption)) hp]; done) | trace_state
   all_goals
    skip
    refine Ab fun K9 hK9=>?_
    refine Au ?_
    refine Cj (by kernel_rfl) (by kernel_rfl) ?_
    have his:is=true:=by first | assumption
    have hst:=hv.stp (k:=k) (by omega)
    have hmk:=s3 k
    simp (disch:=omega) only [Yh,Bm,amL,amT,sA,sB,sF,↓reduceIte,reduceCtorEq]
    repeat' first | (refine Ax (by kernel_rfl) rfl (Bov b v (b.ss.getD k default) (t.m.getD k 0) hv ho (hr his) hst hmk) (by first | exact .inl rfl | exact .inr (.inl rfl)) ?_ ; simp (disch:=omega) only [amL,sA,sF,↓reduceIte])
    refine hK9 _ ?_
    refine Ah ?_
    simp (disch:=omega) only [amL,amT,sA,sF,↓reduceIte]
    refine hK5 (k+1,doX b.vs v (b.ss.getD k default) (t.m.getD k 0)) _ ?_ ?_ (Dg ?_ ?_ ?_ ?_)
    all_goals (try simp (disch:=omega) only [amL,sF,sG,↓reduceIte])
    all_goals first | omega | exact ⟨by omega,Bm6 ho hnv hv.v hst hmk.1,fun _=>Bmu (hr his) hst hmk.1 (ho.len hnv),Bkh (by omega) his hp⟩ | trace_state
theorem Bez {x:Int} (h1:0≤x) (h2:x < 9223372036854775808):IntKind.wrap .u64 x=x:=by
  simp only [IntKind.wrap,IntKind.signed,IntKind.bits]
  simp; omega
theorem Bga {n p:Nat} (h:p≤16):((n:Int).fdiv (2 ^ (min p IntKind.i64.bits)):Int)=((n / 2 ^ p:Nat):Int):=by
  have e:(2:Int) ^ p=((2 ^ p:Nat):Int):=by rw [Int.natCast_pow]; rfl
  rw [Nat.min_eq_left (by simp only [IntKind.bits]; omega),e,Int.fdiv_eq_ediv_of_nonneg _ (Int.natCast_nonneg _),Int.natCast_ediv]
theorem Bo5 {n:Nat} (h:n≤16):((1:Int) * 2 ^ (min n IntKind.i64.bits):Int)=((2 ^ n:Nat):Int):=by
  have e:(2:Int) ^ n=((2 ^ n:Nat):Int):=by rw [Int.natCast_pow]; rfl
  rw [Nat.min_eq_left (by simp only [IntKind.bits]; omega),e,Int.one_mul]
def Bik (n p:Nat) (acc:List Int):List Int:=if n / 2 ^ p % 2=1 then acc++[(p:Int)] else acc
theorem Bj3 {n p:Nat} {acc:List Int} {R:List Int} (hp:p < 16) (hal:acc.length≤p) (hr:acc++Ber (16 - p) p (n / 2 ^ p)=R):p≤15∧(Bik n p acc).length≤p+1∧Bik n p acc++Ber (16 - (p+1)) (p+1) (n / 2 ^ (p+1))=R:=by
  rw [show 16 - p=(16 - (p+1))+1 by omega] at hr
  simp only [Ber] at hr
  rw [Nat.pow_succ,← Nat.div_div_eq_div_mul]
  unfold Bik
  split
  · rename_i h; rw [if_pos h] at hr; exact ⟨by omega,by simp; omega,by rw [← hr]; simp⟩
  · rename_i h; rw [if_neg h] at hr; exact ⟨by omega,by omega,hr⟩
theorem Bnf {n p:Nat} (hn:n < 65536) (hp:p≤16) (h:(0:Int) < ((n / 2 ^ p:Nat):Int)):p < 16:=by
  have h1:0 < n / 2 ^ p:=by generalize n / 2 ^ p=m at h ⊢; omega
  have h2:n < 2 ^ 16:=hn
  have:p≠16:=fun e=>by subst e; rw [Nat.div_eq_of_lt h2] at h1; omega
  omega
theorem Bna {n p:Nat} {acc:List Int} (h:¬ (0:Int) < ((n / 2 ^ p:Nat):Int)) (hr:acc++Ber (16 - p) p (n / 2 ^ p)=Bfc n):acc=Bfc n:=by
  have h1:n / 2 ^ p=0:=by generalize n / 2 ^ p=m at h; omega
  rw [h1,Bgd,List.append_nil] at hr; exact hr
theorem Bkn {n p:Nat} {acc:List Int} (h:((n / 2 ^ p:Nat):Int) % 2=1):Bik n p acc=acc++[(p:Int)]:=if_pos (by generalize n / 2 ^ p=m at h ⊢; omega)
theorem Bnq {n p:Nat} {acc:List Int} (h:¬ ((n / 2 ^ p:Nat):Int) % 2=1):Bik n p acc=acc:=if_neg (by generalize n / 2 ^ p=m at h ⊢; omega)
theorem Bfa {m:Nat}:(m:Int).tmod 2=(m:Int) % 2:=Int.tmod_eq_emod_of_nonneg (by omega)
theorem Bnr (n:Nat) (hn:n < 65536):Bu Tryz.prog 51 [i64 (n:Int)] (isl (Bfc n)):=by
  refine Bo (v:=[]) (q:=[]) (N:=23) (rs:=[.tmp 2]) Tryz.func51 rfl rfl rfl rfl rfl ?_
  refine Ad fun K1 hK1=>?_
  simp (disch:=omega) only [amL,sA]
  refine hK1 _ ?_
  refine Ad fun K2 hK2=>?_
  simp (disch:=omega) only [amL,sA]
  refine hK2 _ ?_
  refine Ab fun K3 hK3=>?_
  refine Ad fun K4 hK4=>?_
  simp (disch:=omega) only [amL,sA]
  refine hK4 _ ?_
  refine Au ?_
  refine Px 21 1 3 (by decide) rfl rfl ?_
  refine Bg (α:=Nat × List Int) (fun x=>⟨T [(0,i64 (n:Int)),(3,.own 21 x.2.length),(4,i64 (x.1:Int))],O [(21,.arr 1 (x.2.map J3))]⟩) (fun x=>16 - x.1) (fun x=>x.1≤16∧x.2.length≤x.1∧x.2++Ber (16 - x.1) x.1 (n / 2 ^ x.1)=Bfc n) (0,[]) ?_ ?_ (fun x hx5 K5 hK5=>?_)
  · simp [Bfc]
  · refine Dg ?_ ?_ ?_ ?_ <;> (try simp (disch:=omega) only [amL,sF,↓reduceIte,reduceCtorEq]); all_goals rfl
  obtain ⟨p,acc⟩:=x; obtain ⟨hp,hal,hr⟩:=hx5; dsimp only at hp hal hr ⊢
  refine Ab fun K6 hK6=>?_
  refine Ad fun K7 hK7=>?_
  simp (disch:=omega) only [Bez,Bga,amL,amT,sA,sF,↓reduceIte,reduceCtorEq]
  refine hK7 _ ?_
  refine Al rfl (fun h=>MT.x ?_) (fun h=>ME.x ?_)
  all_goals
   first
   |refine MT.mk ?_
    first
    |exact Bool.noConfusion h
    |skip
     try simp only [nrm] at h
     refine Am ?_
     refine hK6 _ ?_
   |refine ME.mk ?_
    first
    |exact Bool.noConfusion h
    |skip
     try simp only [nrm] at h
     refine Bq ?_
     refine hK3 _ ?_
     refine Ad fun K8 hK8=>?_
     simp (disch:=omega) only [amL,sA,sF,↓reduceIte,reduceCtorEq]
     refine hK8 _ ?_
     refine Aj ?_
     try simp (disch:=omega) only [amL,↓reduceIte]
     have e:=Bna h hr
     subst e
     rw [List.take_of_length_le (by simp)]
  all_goals
   skip
   refine Ab fun K9 hK9=>?_
   refine Au ?_
   refine Ad fun K10 hK10=>?_
   have hp16:=Bnf hn hp (by assumption)
   simp (disch:=omega) only [Bez,Bga,amL,amT,sA,sF,sO,↓reduceIte,reduceCtorEq]
   refine hK10 _ ?_
   refine Al rfl (fun h=>MT.x ?_) (fun h=>ME.x ?_)
   all_goals
    first
    |refine MT.mk ?_
     first
     |exact Bool.noConfusion h
     |skip
      try simp only [nrm] at h
      refine Ah ?_
      simp (disch:=omega) only [amL,amT,sA,sE,sF,↓reduceIte,reduceCtorEq]
      refine hK9 _ ?_
    |refine ME.mk ?_
     first
     |exact Bool.noConfusion h
     |skip
      try simp only [nrm] at h
      refine Am ?_
      refine hK9 _ ?_
   all_goals
    skip
    refine Ah ?_
    simp (disch:=omega) only [amL,amT,sA,sF,↓reduceIte,reduceCtorEq]
    refine hK5 (p+1,Bik n p acc) _ ?_ ?_ (Dg ?_ ?_ ?_ ?_)
    all_goals (try simp (disch:=omega) only [amL,sE,sF,↓reduceIte,reduceCtorEq])
    all_goals first | omega | exact Bj3 hp16 hal hr | (rw [Bkn (by assumption),List.length_append]; rfl) | (rw [Bkn (by assumption),List.map_append]; rfl) | (rw [Bnq (by assumption)]; done) | trace_state
theorem Boq (a b:List Int) (ha:a.length < 1000000) (_:b.length < 1000000):Bu Tryz.prog 79 [isl a,isl b] (bl (Bd6 a b)):=by
  refine Bo (v:=[]) (q:=[]) (N:=41) (rs:=[.tmp 4]) Tryz.func79 rfl rfl rfl rfl rfl ?_
  refine Ad fun K1 hK1=>?_
  simp (disch:=omega) only [amL,sA,sB]
  refine hK1 _ ?_
  refine Ab fun K2 hK2=>?_
  refine Ad fun K3 hK3=>?_
  simp (disch:=omega) only [amL,sA]
  refine hK3 _ ?_
  refine Au ?_
  skip
  refine Bg (α:=Nat) (fun k=>⟨T [(0,isl a),(1,isl b),(5,i64 (k:Int))],O []⟩) (fun k=>a.length - k) (fun k=>k≤a.length∧k≤b.length∧Bd6 (a.drop k) (b.drop k)=Bd6 a b) 0 ?_ ?_ (fun k hx4 K4 hK4=>?_)
  · exact ⟨Nat.zero_le _,Nat.zero_le _,rfl⟩
  · refine Dg ?_ ?_ ?_ ?_ <;> (try simp (disch:=omega) only [amL,sF,↓reduceIte,reduceCtorEq])
  obtain ⟨hk,hk2,hn⟩:=hx4
  refine Ab fun K5 hK5=>?_
  refine Ad fun K6 hK6=>?_
  simp (disch:=omega) only [amL,amT,sA,sF,↓reduceIte,reduceCtorEq]
  repeat' first | (refine E3 (fun h=>?_) (fun h=>?_) <;> simp (disch:=omega) only [h,amL,amT,sA,sF,↓reduceIte,reduceCtorEq]) | (refine Cz (fun h=>?_) (fun h=>?_) <;> simp (disch:=omega) only [h,Bm,amL,amT,sA,sB,sC,sD,sE,sF,sG,sH,sI,sJ,sK,sL,sM,sN,sO,↓reduceIte,reduceCtorEq])
  all_goals
   skip
   refine hK6 _ ?_
   refine Al rfl (fun h=>MT.x ?_) (fun h=>ME.x ?_)
   all_goals
    first
    |refine MT.mk ?_
     first
     |exact Bool.noConfusion h
     |skip
      try simp only [nrm] at h
      refine Am ?_
      refine hK5 _ ?_
    |refine ME.mk ?_
     first
     |exact Bool.noConfusion h
     |skip
      try simp only [nrm] at h
      refine Bq ?_
      refine hK2 _ ?_
      refine Ad fun K7 hK7=>?_
      simp (disch:=omega) only [amL,amT,sA,sF,↓reduceIte,reduceCtorEq]
      refine hK7 _ ?_
      refine Aj ?_
      try simp (disch:=omega) only [amL,↓reduceIte]
      all_goals first | (rw [← hn,Bf1 (by omega) (by omega),if_neg (by omega)]; done) | (rw [← hn,Bh1 (by omega) (by omega) (by omega)]; done) | trace_state
   all_goals
    skip
    refine Ab fun K8 hK8=>?_
    refine Au ?_
    refine Ab fun K9 hK9=>?_
    refine Cj (by kernel_rfl) (by kernel_rfl) ?_
    simp (disch:=omega) only [Bm,amL,amT,sA,sF,↓reduceIte,reduceCtorEq]
    refine hK9 _ ?_
    refine Al rfl (fun h=>MT.x ?_) (fun h=>ME.x ?_)
    all_goals
     first
     |refine MT.mk ?_
      first
      |exact Bool.noConfusion h
      |skip
       try simp only [nrm] at h
       refine Ab fun K10 hK10=>?_
       refine Cj (by kernel_rfl) (by kernel_rfl) ?_
       simp (disch:=omega) only [Bm,amL,amT,sA,sF,↓reduceIte,reduceCtorEq]
       refine hK10 _ ?_
       refine Aj ?_
       try simp (disch:=omega) only [amL,↓reduceIte]
       all_goals first | (rw [← hn,Bf1 (by omega) (by omega),if_neg (by omega)]; done) | (rw [← hn,Bh1 (by omega) (by omega) (by omega)]; done) | trace_state
     |refine ME.mk ?_
      first
      |exact Bool.noConfusion h
      |skip
       try simp only [nrm] at h
       refine Am ?_
       refine hK8 _ ?_
    all_goals
     skip
     refine Ah ?_
     simp (disch:=omega) only [amL,amT,sA,sF,↓reduceIte,reduceCtorEq]
     refine hK4 (k+1) _ ?_ ?_ (Dg ?_ ?_ ?_ ?_)
     all_goals (try simp (disch:=omega) only [amL,sF,↓reduceIte,reduceCtorEq])
     all_goals first | omega | exact ⟨by omega,by omega,by rw [Bf1 (by omega) (by omega),if_pos (by omega)] at hn; exact hn⟩ | trace_state
theorem Bke (a b:List Int) (ha:a.length < 1000000) (hb:b.length < 1000000):Bu Tryz.prog 50 [isl a,isl b] (bl (Bd5 a b)):=by
  refine Bo (v:=[]) (q:=[]) (N:=22) (rs:=[.tmp 4]) Tryz.func50 rfl rfl rfl rfl rfl ?_
  refine Ad fun K1 hK1=>?_
  simp (disch:=omega) only [amL,sA,sB]
  refine hK1 _ ?_
  refine Ad fun K2 hK2=>?_
  simp (disch:=omega) only [amL,amT,sA,sF,↓reduceIte,reduceCtorEq]
  repeat' first | (refine E3 (fun h=>?_) (fun h=>?_) <;> simp (disch:=omega) only [h,amL,amT,sA,sF,↓reduceIte,reduceCtorEq]) | (refine Cz (fun h=>?_) (fun h=>?_) <;> simp (disch:=omega) only [h,amL,amT,sA,sB,sC,sD,sE,sF,sG,sH,sI,sJ,sK,sL,sM,sN,sO,↓reduceIte,reduceCtorEq]) | (refine Ax (by kernel_rfl) rfl (Boq _ _ ha hb) (by first | exact .inl rfl | exact .inr (.inl rfl)) ?_ ; simp (disch:=omega) only [amL,sA,sF,↓reduceIte])
  all_goals
   skip
   refine hK2 _ ?_
   refine Aj ?_
   try simp (disch:=omega) only [amL,↓reduceIte]
   all_goals first | ((have e:a.length < b.length:=by omega); simp [Bd5,e]; done) | ((have e:¬ a.length < b.length:=by omega); (have e2:a.length=b.length:=by omega); simp [Bd5,e2]; done) | ((have e:¬ a.length < b.length:=by omega); (have e2:¬ a.length=b.length:=by omega); simp [Bd5,e,e2]; done) | trace_state
end AM.Try
end
