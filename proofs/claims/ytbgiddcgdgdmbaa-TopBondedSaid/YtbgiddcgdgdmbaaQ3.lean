/- Lemmas for the proof: an abstract machine over the program's form in Lean, and the program's functions walked on it. -/
import Derived.Test.YtbgiddcgdgdmbaaQ2
import Derived.Laws.Cover3
import Derived.ProofKit
import Derived.Deep.Slices
import Derived.ChangeStays
/- Tables and stores in plain Lean, and how they lie in abstract values. -/
section
namespace AM.Wort
open Go AM
structure Tbl where
 w:List Int
 m:List Int
 v:List (List Int)
structure Csk where
 g:Int
 t:Rng
 k:Rng
structure Sto where
 t:Tbl
 r:Int
 c:List Csk
instance:Inhabited Csk:=⟨⟨0,default,default⟩⟩
abbrev Hh (l:List Int):List PV:=[.sl (l.map V3)]
abbrev Zk (c:Csk):List PV:=[iv c.g,iv c.t.lo,iv c.t.hi,iv c.k.lo,iv c.k.hi]
abbrev avC (c:Csk):AV:=.agg [i64 c.g,i64 c.t.lo,i64 c.t.hi,i64 c.k.lo,i64 c.k.hi]
abbrev slI (l:List (List Int)):PV:=.sl (l.map Hh)
abbrev slC (l:List Csk):PV:=.sl (l.map Zk)
abbrev cQ (t:Tbl):List AV:=[isl t.w,isl t.m,.p (slI t.v)]
abbrev avQ (t:Tbl):AV:=.agg (cQ t)
abbrev cO (s:Sto):List AV:=[isl s.t.w,isl s.t.m,.p (slI s.t.v),i64 s.r,.p (slC s.c)]
abbrev avO (s:Sto):AV:=.agg (cO s)
theorem C8 {l:List (List Int)} {k:Nat} (h:k < l.length):(l.map Hh).getD k []=Hh (l.getD k []):=E6 _ _ _ h
theorem C5 {l:List Csk} {k:Nat} (h:k < l.length):(l.map Zk).getD k []=Zk (l.getD k default):=E6 _ _ _ h
def C4 (most:Int):Int→List Int→Bool
 | _,[]=>true
 | last,x :: l=>inB x (last+1) most&&C4 most x l
def S3 (most last n:Int):Int × Bool:=(n,inB n (IntKind.i64.wrap (last+1)) most)
theorem P7 {most:Int} (hm:most≤1000):∀ (l:List Int) (last:Int),-1≤last→last≤most→(Ca (S3 most) last l).2=C4 most last l
 | [],_,_,_=>rfl
 | x :: l,last,h1,h2=>by
  have hw:IntKind.i64.wrap (last+1)=last+1:=Gk (by omega) (by omega)
  simp only [Ca,C4,S3,hw]
  cases hx:inB x (last+1) most with
  | false=>simp
  | true=>
   simp only [if_true,Bool.true_and]
   simp only [inB,Bool.and_eq_true,decide_eq_true_eq] at hx
   exact P7 hm l x (by omega) (by omega)
theorem Uc {most:Int}:∀ (l:List Int) (last:Int),C4 most last l=true→(∀ x ∈ l,last < x∧x≤most)∧l.Pairwise (· < ·)
 | [],_,_=>⟨by simp,.nil⟩
 | x :: l,last,h=>by
  simp only [C4,inB,Bool.and_eq_true,decide_eq_true_eq] at h
  obtain ⟨⟨h1,h2⟩,h3⟩:=h
  obtain ⟨g1,g2⟩:=Uc l x h3
  refine ⟨fun y hy=>?_,List.pairwise_cons.2 ⟨fun y hy=>(g1 y hy).1,g2⟩⟩
  rcases List.mem_cons.1 hy with rfl | hy
  ·omega
  ·have:=g1 y hy; omega
theorem Rt {most:Int}:∀ (l:List Int) (last:Int) (k:Nat),k < l.length→C4 most last (l.take (k+1))=(C4 most last (l.take k)&&(decide ((if k=0 then last else l.getD (k - 1) 0)+1≤l.getD k 0)&&decide (l.getD k 0≤most)))
 | x :: l,last,0,_=>by simp [C4,inB]
 | x :: l,last,k+1,h=>by
  have h2:k < l.length:=by simpa using h
  rw [List.take_succ_cons,List.take_succ_cons,C4,C4,Rt l x k h2,Bool.and_assoc]
  congr 2
  cases k with
  | zero=>simp
  | succ k=>simp
theorem Agj {most:Int} {l:List Int} {last:Int}:∀ {k:Nat},C4 most last (l.take k)=false→C4 most last l=false:=by
 intro k h
 cases hh:C4 most last l with
 | false=>rfl
 | true=>
  exfalso
  revert h
  rw [Bool.eq_false_iff]
  intro hk
  apply hk
  clear hk
  induction l generalizing last k with
  | nil=>simp [C4]
  | cons x l ih=>
   cases k with
   | zero=>rfl
   | succ k=>
    simp only [C4,Bool.and_eq_true,List.take_succ_cons] at hh ⊢
    exact ⟨hh.1,ih hh.2⟩
def N0 (n:Int) (r:List Int):Bool:=decide ((r.length:Int)=n)&&r.all fun x=>inB x 0 2000
def Fu (t:Tbl):Int:=
 if 5 < (t.w.length:Int)∨5 < (t.m.length:Int)∨5 < (t.v.length:Int) then 3
 else if (t.w.length:Int) < 2∨(t.m.length:Int) < 2∨C4 40 (-1) t.w=false∨C4 60 (-1) t.m=false∨(t.v.length:Int)≠t.w.length∨(t.v.all (N0 t.m.length))=false then 1 else 0
def Hg (l:List Int):Int:=l.getD (l.length - 1) 0
def En (l:List Int) (r:Rng):Bool:=decide (r.lo≤r.hi)&&(decide (l.getD 0 0≤r.lo)&&decide (r.hi≤Hg l))
def okC (t:Tbl) (c:Csk):Bool:=inB c.g 1 99&&(En t.w c.t&&En t.m c.k)
def J9 (s:Sto):Int:=
 if Fu s.t≠0 then Fu s.t else if 6 < (s.c.length:Int) then 3 else if inB s.r 0 200=false∨s.c.all (okC s.t)=false then 1 else 0
structure Hf (t:Tbl):Prop where
 nw:2≤t.w.length∧t.w.length≤5
 nm:2≤t.m.length∧t.m.length≤5
 nv:t.v.length=t.w.length
 w:C4 40 (-1) t.w=true
 m:C4 60 (-1) t.m=true
 v:t.v.all (N0 t.m.length)=true
structure Ku (s:Sto):Prop where
 t:Hf s.t
 n:s.c.length≤6
 r:inB s.r 0 200=true
 c:s.c.all (okC s.t)=true
theorem Aod {t:Tbl} (h:Fu t=0):Hf t:=by
 unfold Fu at h
 split at h
 ·cases h
 ·split at h
  ·cases h
  ·rename_i h1 h2
   simp only [not_or,Bool.not_eq_false] at h1 h2
   obtain ⟨a1,a2,a3⟩:=h1
   obtain ⟨b1,b2,b3,b4,b5,b6⟩:=h2
   exact ⟨by omega,by omega,by omega,b3,b4,b6⟩
theorem At5 {s:Sto} (h:J9 s=0):Ku s:=by
 unfold J9 at h
 split at h
 ·rename_i h1; exact absurd h h1
 ·rename_i h1
  split at h
  ·cases h
  ·split at h
   ·cases h
   ·rename_i h2 h3
    simp only [not_or,Bool.not_eq_false] at h3
    exact ⟨Aod (by simpa using h1),by omega,h3.1,h3.2⟩
theorem Hf.row {t:Tbl} (h:Hf t) {i:Nat} (hi:i < t.w.length):(t.v.getD i []).length=t.m.length∧∀ k,0≤(t.v.getD i []).getD k 0∧(t.v.getD i []).getD k 0≤2000:=by
 have h1:=List.all_eq_true.1 h.v (t.v.getD i []) (by rw [← List.getElem_eq_getD (h:=by rw [h.nv]; exact hi)]; exact List.getElem_mem _)
 simp only [N0,Bool.and_eq_true,decide_eq_true_eq] at h1
 refine ⟨by omega,fun k=>?_⟩
 by_cases hk:k < (t.v.getD i []).length
 ·have h2:=List.all_eq_true.1 h1.2 ((t.v.getD i []).getD k 0) (by rw [← List.getElem_eq_getD (h:=hk)]; exact List.getElem_mem _)
  simpa [inB] using h2
 ·have:(t.v.getD i []).getD k 0=0:=by
   generalize t.v.getD i []=r at hk ⊢
   simp [List.getD,List.getElem?_eq_none (show r.length≤k by omega)]
  omega
theorem Gq {l:List Int} {most last:Int} (h:C4 most last l=true) {k:Nat} (hk:k < l.length):last < l.getD k 0∧l.getD k 0≤most:=
 (Uc l last h).1 _ (by rw [← List.getElem_eq_getD (h:=hk)]; exact List.getElem_mem _)
theorem Aej {l:List Int} {most last:Int} (h:C4 most last l=true) {j k:Nat} (hk:k < l.length) (hjk:j < k):l.getD j 0 < l.getD k 0:=by
 have:=List.pairwise_iff_getElem.1 (Uc l last h).2 j k (by omega) hk hjk
 rwa [List.getElem_eq_getD 0,List.getElem_eq_getD 0] at this
def Jk (l:List Int) (n:Int) (i:Nat):Nat→Nat
 | 0=>i
 | f+1=>if i+2 < l.length∧l.getD (i+1) 0≤n then Jk l n (i+1) f else i
def Bw (l:List Int) (n:Int):Nat:=Jk l n 0 l.length
theorem Aac {l:List Int} {n:Int} (h2:n≤Hg l):∀ (f i:Nat),i+2≤l.length→l.length≤i+f+2→l.getD i 0≤n →
  Jk l n i f+2≤l.length∧l.getD (Jk l n i f) 0≤n∧n≤l.getD (Jk l n i f+1) 0
 | 0,i,h3,h4,h5=>by
  have e:l.length - 1=i+1:=by omega
  unfold Hg at h2
  rw [e] at h2
  exact ⟨by simpa [Jk] using h3,by simpa [Jk] using h5,by simpa [Jk] using h2⟩
 | f+1,i,h3,h4,h5=>by
  unfold Jk
  split
  ·rename_i h
   exact Aac h2 f (i+1) (by omega) (by omega) h.2
  ·rename_i h
   refine ⟨h3,h5,?_⟩
   by_cases h6:i+2 < l.length
   ·have:¬ l.getD (i+1) 0≤n:=fun e=>h ⟨h6,e⟩
    omega
   ·have e:l.length - 1=i+1:=by omega
    unfold Hg at h2
    rw [e] at h2; exact h2
theorem Adz {l:List Int} {n:Int} (hl:2≤l.length) (h1:l.getD 0 0≤n) (h2:n≤Hg l):Bw l n+2≤l.length∧l.getD (Bw l n) 0≤n∧n≤l.getD (Bw l n+1) 0:=
 Aac h2 l.length 0 (by omega) (by omega) h1
def Jo (i k:Nat) (wide long w m:Int):List (Int × Int × Int):=[(i,k,(wide - w) * (long - m)),((i:Int)+1,k,w * (long - m)),(i,(k:Int)+1,(wide - w) * m),((i:Int)+1,(k:Int)+1,w * m)]
abbrev Aou (p:Int × Int × Int):List PV:=[iv p.1,iv p.2.1,iv p.2.2]
instance:Inhabited (Int × Int × Int):=⟨(0,0,0)⟩
theorem Ags {l:List (Int × Int × Int)} {k:Nat} (h:k < l.length):(l.map Aou).getD k []=Aou (l.getD k default):=E6 _ _ _ h
def Q1 (t:Tbl) (p:Int × Int × Int):Int:=(t.v.getD p.1.toNat []).getD p.2.1.toNat 0
def J3 (t:Tbl):List (Int × Int × Int)→Int
 | []=>0
 | p :: l=>Q1 t p * p.2.2+J3 t l
theorem Sl {t:Tbl}:∀ (a b:List (Int × Int × Int)),J3 t (a++b)=J3 t a+J3 t b
 | [],b=>by simp [J3]
 | p :: a,b=>by simp only [List.cons_append,J3,Sl a b]; omega
def atX (t:Tbl) (warmth B8:Int):Int:=
 let i:=Bw t.w warmth
 let k:=Bw t.m B8
 let wide:=t.w.getD (i+1) 0 - t.w.getD i 0
 let long:=t.m.getD (k+1) 0 - t.m.getD k 0
 (2 * J3 t (Jo i k wide long (warmth - t.w.getD i 0) (B8 - t.m.getD k 0))+wide * long) / (2 * wide * long)
def Ak2 (t:Tbl) (warmth B8:Int):Prop:=(t.w.getD 0 0≤warmth∧warmth≤Hg t.w)∧t.m.getD 0 0≤B8∧B8≤Hg t.m
theorem Ep {a b A B:Int} (h1:0≤a) (h2:a≤A) (h3:0≤b) (h4:b≤B):0≤a * b∧a * b≤A * B:=
 ⟨Int.mul_nonneg h1 h3,Int.mul_le_mul h2 h4 h3 (by omega)⟩
def Ut (t:Tbl) (p:Int × Int × Int):Prop:=(0≤p.1∧p.1 < (t.w.length:Int))∧(0≤p.2.1∧p.2.1 < (t.m.length:Int))∧0≤p.2.2∧p.2.2≤2400
theorem Aa9 {t:Tbl} (ht:Hf t) {p:Int × Int × Int} (h:Ut t p):0≤Q1 t p∧Q1 t p≤2000:=(ht.row (i:=p.1.toNat) (by have:=h.1; omega)).2 _
theorem Aat {t:Tbl} (ht:Hf t) {p:Int × Int × Int} (h:Ut t p):0≤Q1 t p * p.2.2∧Q1 t p * p.2.2≤4800000:=by
 have h1:=Aa9 ht h
 have:=Ep h1.1 h1.2 h.2.2.1 h.2.2.2
 omega
theorem Vg {t:Tbl} (ht:Hf t):∀ (l:List (Int × Int × Int)),(∀ p ∈ l,Ut t p)→0≤J3 t l∧J3 t l≤4800000 * (l.length:Int)
 | [],_=>by simp [J3]
 | p :: l,h=>by
  have h1:=Aat ht (h p (by simp))
  have h2:=Vg ht l (fun q hq=>h q (by simp [hq]))
  simp only [J3,List.length_cons]
  omega
theorem Aeg {t:Tbl} {i k:Nat} {wide long w m:Int} (hi:i+2≤t.w.length) (hk:k+2≤t.m.length) (h1:0≤w) (h2:w≤wide) (h3:wide≤40) (h4:0≤m) (h5:m≤long) (h6:long≤60):∀ p ∈ Jo i k wide long w m,Ut t p:=by
 have e1:=Ep (a:=wide - w) (b:=long - m) (A:=40) (B:=60) (by omega) (by omega) (by omega) (by omega)
 have e2:=Ep (a:=w) (b:=long - m) (A:=40) (B:=60) (by omega) (by omega) (by omega) (by omega)
 have e3:=Ep (a:=wide - w) (b:=m) (A:=40) (B:=60) (by omega) (by omega) (by omega) (by omega)
 have e4:=Ep (a:=w) (b:=m) (A:=40) (B:=60) (by omega) (by omega) (by omega) (by omega)
 intro p hp
 simp only [Jo,List.mem_cons,List.not_mem_nil,or_false] at hp
 rcases hp with rfl | rfl | rfl | rfl
 ·exact ⟨⟨by show (0:Int)≤(i:Int); omega,by show (i:Int) < _; omega⟩,⟨by show (0:Int)≤(k:Int); omega,by show (k:Int) < _; omega⟩,e1⟩
 ·exact ⟨⟨by show (0:Int)≤(i:Int)+1; omega,by show (i:Int)+1 < _; omega⟩,⟨by show (0:Int)≤(k:Int); omega,by show (k:Int) < _; omega⟩,e2⟩
 ·exact ⟨⟨by show (0:Int)≤(i:Int); omega,by show (i:Int) < _; omega⟩,⟨by show (0:Int)≤(k:Int)+1; omega,by show (k:Int)+1 < _; omega⟩,e3⟩
 ·exact ⟨⟨by show (0:Int)≤(i:Int)+1; omega,by show (i:Int)+1 < _; omega⟩,⟨by show (0:Int)≤(k:Int)+1; omega,by show (k:Int)+1 < _; omega⟩,e4⟩
theorem Zt {t:Tbl} (ht:Hf t) {i k:Nat} {wide long w m:Int} (hi:i+2≤t.w.length) (hk:k+2≤t.m.length) (h1:0≤w) (h2:w≤wide) (h3:wide≤40) (h4:0≤m) (h5:m≤long) (h6:long≤60):0≤J3 t (Jo i k wide long w m)∧J3 t (Jo i k wide long w m)≤2000 * (wide * long):=by
 have hq:=Aeg hi hk h1 h2 h3 h4 h5 h6
 refine ⟨(Vg ht _ hq).1,?_⟩
 have le:∀ p ∈ Jo i k wide long w m,Q1 t p * p.2.2≤2000 * p.2.2:=fun p hp=>Int.mul_le_mul_of_nonneg_right (Aa9 ht (hq p hp)).2 (hq p hp).2.2.1
 have f1:=le ((i:Int),(k:Int),(wide - w) * (long - m)) (by simp [Jo])
 have f2:=le ((i:Int)+1,(k:Int),w * (long - m)) (by simp [Jo])
 have f3:=le ((i:Int),(k:Int)+1,(wide - w) * m) (by simp [Jo])
 have f4:=le ((i:Int)+1,(k:Int)+1,w * m) (by simp [Jo])
 have e:wide * long=(wide - w) * (long - m)+(w * (long - m)+((wide - w) * m+w * m)):=by
  rw [← Int.add_mul,← Int.add_assoc,← Int.add_mul,Int.sub_add_cancel,← Int.mul_add,Int.sub_add_cancel]
 have g:J3 t (Jo i k wide long w m)=Q1 t ((i:Int),(k:Int),(wide - w) * (long - m)) * ((wide - w) * (long - m))+(Q1 t ((i:Int)+1,(k:Int),w * (long - m)) * (w * (long - m))+(Q1 t ((i:Int),(k:Int)+1,(wide - w) * m) * ((wide - w) * m)+(Q1 t ((i:Int)+1,(k:Int)+1,w * m) * (w * m)+0))):=rfl
 rw [g,e]
 dsimp only at f1 f2 f3 f4
 omega
structure Aqa (t:Tbl) (warmth B8:Int):Prop where
 i:Bw t.w warmth+2≤t.w.length
 k:Bw t.m B8+2≤t.m.length
 w1:t.w.getD (Bw t.w warmth) 0≤warmth
 w2:warmth≤t.w.getD (Bw t.w warmth+1) 0
 m1:t.m.getD (Bw t.m B8) 0≤B8
 m2:B8≤t.m.getD (Bw t.m B8+1) 0
 w0:0≤t.w.getD (Bw t.w warmth) 0
 w3:t.w.getD (Bw t.w warmth+1) 0≤40
 w4:t.w.getD (Bw t.w warmth) 0 < t.w.getD (Bw t.w warmth+1) 0
 m0:0≤t.m.getD (Bw t.m B8) 0
 m3:t.m.getD (Bw t.m B8+1) 0≤60
 m4:t.m.getD (Bw t.m B8) 0 < t.m.getD (Bw t.m B8+1) 0
theorem Ajm {t:Tbl} (ht:Hf t) {warmth B8:Int} (h:Ak2 t warmth B8):Aqa t warmth B8:=by
 have a:=Adz ht.nw.1 h.1.1 h.1.2
 have b:=Adz ht.nm.1 h.2.1 h.2.2
 have a1:=Gq ht.w (k:=Bw t.w warmth) (by omega)
 have a2:=Gq ht.w (k:=Bw t.w warmth+1) (by omega)
 have a3:=Aej ht.w (j:=Bw t.w warmth) (k:=Bw t.w warmth+1) (by omega) (by omega)
 have b1:=Gq ht.m (k:=Bw t.m B8) (by omega)
 have b2:=Gq ht.m (k:=Bw t.m B8+1) (by omega)
 have b3:=Aej ht.m (j:=Bw t.m B8) (k:=Bw t.m B8+1) (by omega) (by omega)
 exact ⟨a.1,b.1,a.2.1,a.2.2,b.2.1,b.2.2,by omega,a2.2,a3,by omega,b2.2,b3⟩
theorem Alm {t:Tbl} (ht:Hf t) {warmth B8:Int} (h:Ak2 t warmth B8):0≤atX t warmth B8∧atX t warmth B8≤2000:=by
 have c:=Ajm ht h
 obtain ⟨c1,c2,c3,c4,c5,c6,c7,c8,c9,d1,d2,d3⟩:=c
 unfold atX
 dsimp only
 have s:=Zt ht (wide:=t.w.getD (Bw t.w warmth+1) 0 - t.w.getD (Bw t.w warmth) 0) (long:=t.m.getD (Bw t.m B8+1) 0 - t.m.getD (Bw t.m B8) 0) (w:=warmth - t.w.getD (Bw t.w warmth) 0) (m:=B8 - t.m.getD (Bw t.m B8) 0) c1 c2 (by omega) (by omega) (by omega) (by omega) (by omega) (by omega)
 revert s
 generalize J3 t _=n
 intro s
 have hp:0 < (t.w.getD (Bw t.w warmth+1) 0 - t.w.getD (Bw t.w warmth) 0) * (t.m.getD (Bw t.m B8+1) 0 - t.m.getD (Bw t.m B8) 0):=Int.mul_pos (by omega) (by omega)
 rw [Int.mul_assoc 2]
 revert s hp
 generalize (t.w.getD (Bw t.w warmth+1) 0 - t.w.getD (Bw t.w warmth) 0) * (t.m.getD (Bw t.m B8+1) 0 - t.m.getD (Bw t.m B8) 0)=A
 intro s hp
 refine ⟨Int.ediv_nonneg (by omega) (by omega),?_⟩
 have:(2 * n+A) / (2 * A) < 2001:=Int.ediv_lt_of_lt_mul (by omega) (by omega)
 omega
def Qx (r:Rng):List Int:=(List.range (r.hi+1 - r.lo).toNat).map fun (j:Nat)=>r.lo+(j:Int)
def Kv (t:Tbl) (w m:Rng):List (Int × Int):=(Qx m).flatMap fun y=>(Qx w).map fun x=>(y,atX t x y)
def Aoy (l:List (Int × Int)):Rng:=l.foldl (fun r p=>⟨min r.lo p.2,max r.hi p.2⟩) ⟨2000,0⟩
def D6 (s:Sto) (c:Csk):Rng:=Aoy (Kv s.t c.t c.k)
end AM.Wort
end
/- The abstract machine, part 36: a slice literal that is never written again. -/
section
namespace AM
open Go
section
variable {P:Program} {nb N B:Nat} {S:Nat→Prop} {θ:Nat→Loc} {M:Nat→Prop} {w:World} {st st':St} {a:Act} {o:Oper} {d:Nat} {e:Eff}
theorem Aab (h:Av N B S θ M w st a) {dk:Nat} (hdst:o.dst=some dk) (hdN:dk < N) {k:Nat} {es:List (List PV)} {vs:List Value} {t:TypeId} {cap:Nat}
  (hk:∀ (i:Nat) (e:List PV),es[i]?=some e→e.length=k) (hc:es.length≤cap) (_:vs.length=cap * k) (_:∀ (i:Nat) (v:Value),vs[i]?=some v→v.oneCell'=true) (hfl:FL M w k es vs) :
  Adv nb N B S θ M w (st.put o.dst (.p (.sl es))) (a.put o.dst (.slice (some ⟨w.heap.size,0,none⟩) es.length cap)) (w.alloc (.cells vs.toArray t)):=by
 have hS:=h.ext (Bx.alloc (fun b=>w.heap.size≤b) w (.cells vs.toArray t))
 have hk':∀ b,b < w.heap.size→(w.alloc (.cells vs.toArray t)).heap[b]?=w.heap[b]?:=fun b hb=>Kh w _ hb
 refine ⟨θ,M,hS.put (d:=o.dst) (fun k e=>by rw [hdst] at e; cases e; exact hdN) (x:=.p (.sl es)) (v:=.slice (some ⟨w.heap.size,0,none⟩) es.length cap) (.p _ _ ?_) (AV.lives_p _ _),Bx.alloc _ _ _,fun _ _=>rfl,fun _ _ h=>h⟩
 refine Cp.sl es w.heap.size 0 cap k (fun i j=>vs.getD (i * k+j) undef) hk hc (fun i e j x hi hj=>?_) (fun i e j x hi hj=>?_)
 ·obtain ⟨v,h2,_⟩:=hfl i e j x hi hj
  refine ⟨fun hm=>Nat.lt_irrefl _ (h.mlt _ hm),?_⟩
  refine C2 (Kz w _) ?_
  rw [Nat.zero_add,List.getElem?_toArray,h2,List.getD_eq_getElem?_getD,h2]; rfl
 ·obtain ⟨v,h2,h3⟩:=hfl i e j x hi hj
  rw [List.getD_eq_getElem?_getD,h2]
  exact h3.mono (fun b hb _=>hk' b hb) (fun _ _ hm=>hm)
theorem X2 (h:Av N B S θ M w st a) {t e:TypeId} {len:Nat} {parts:Array (Nat × Operand)} (ho:o.op=.buildSlice t len parts) {dk:Nat} (hdst:o.dst=some dk) (hdN:dk < N)
  (hk:(Ab P t).k=.sl e) (hg:∀ k,(Ab P e).k=k→k≠.bad) {es:List (List PV)} (hp:Bu (Ab P e).sz 0 (parts.toList.map fun p=>(p.1,ev st.t p.2))=some es) (hlen:es.length=len)
  (h24:len * (Ab P e).sz≤16777216) (hz:len=0∨((Ab P e).sz=(Ab P e).zero.length∧0 < (Ab P e).sz)) :
  Dr P nb N B S θ M w (st.put o.dst (.p (.sl es))) o a:=by
 subst hlen
 have hu:=Hn hk
 have hzero:∃ z:Array Value,(es.length * (Ab P e).sz=0→z=#[])∧(es.length * (Ab P e).sz≠0→∃ z',(zeroValue e).run P w=.ok z' w∧z=z'.cells):=by
  by_cases h0:es.length * (Ab P e).sz=0
  ·exact ⟨#[],fun _=>rfl,fun h=>absurd h0 h⟩
  ·rcases hz with h1 | ⟨h1,h2⟩
   ·exact absurd (by rw [h1]; simp) h0
   ·obtain ⟨z,hz1,_⟩:=Fl (P:=P) (w:=w) hg h1 h2
    exact ⟨z.cells,fun h=>absurd h h0,fun _=>⟨z,hz1,rfl⟩⟩
 obtain ⟨z,hza,hzb⟩:=hzero
 have hpl:(parts.toList.map fun p=>(p.1,ev st.t p.2)).length=es.length:=by
  have:∀ (k i:Nat) (l:List (Nat × AV)) (es:List (List PV)),Bu k i l=some es→l.length=es.length:=by
   intro k i l
   induction l generalizing i with
   | nil=>intro es h; simp only [Bu,Option.some.injEq] at h; subst h; rfl
   | cons x r ih=>
    intro es h
    obtain ⟨j,x⟩:=x
    simp only [Bu] at h
    cases hb:x.cs?.bind Lv with
    | none=>simp [hb] at h
    | some c=>
     cases hq:Bu k (i+1) r with
     | none=>simp [hb,hq] at h
     | some es'=>
      simp only [hb,hq] at h
      split at h
      ·have h:=Option.some.inj h; subst h; simp [ih _ _ hq]
      ·cases h
  exact this _ _ _ _ hp
 obtain ⟨out,vs,h1,h2,h3,h4,h5,h6,h7,h8⟩:=Rj (θ:=θ) (M:=M) (w:=w) (Ab P e).sz (parts.toList.map fun p=>(p.1,ev st.t p.2)) (parts.toList.map fun p=>(p.1,a.eval p.2)) 0 es
  ((Array.range (es.length * (Ab P e).sz)).map (z[· % z.size]!)) [] (by simp [List.map_map,Function.comp_def]) (fun i p q hi hq=>by
   simp only [List.getElem?_map,Option.map_eq_some_iff] at hi hq
   obtain ⟨y,hy,rfl⟩:=hi
   obtain ⟨y',hy',rfl⟩:=hq
   rw [hy] at hy'; cases hy'
   exact A0 h y.2) hp (by simp) (by simp) (by rw [hpl]; simp)
 have hov:out.toList=vs:=by
  rw [Nat.zero_add,List.nil_append,hpl] at h3
  rw [← h3,List.take_of_length_le]
  simp [h2]
 have hrun:(Instr.buildSlice t es.length (parts.map fun (i,x)=>(i,a.eval x))).run P w=.ok (.slice (some ⟨w.heap.size,0,none⟩) es.length es.length) (w.alloc (.cells out e)):=by
  have h24':¬ (16777216 < es.length * (Ab P e).sz):=by omega
  have h1':Instr.fill (fun i=>some (i * (Ab P e).sz,(Ab P e).sz)) ((Array.range (es.length * (Ab P e).sz)).map (z[· % z.size]!)) (parts.map fun (i,x)=>(i,a.eval x)).toList=some out:=by
   rw [Array.toList_map]; exact h1
  by_cases h0:es.length * (Ab P e).sz=0
  ·have hz0:=hza h0
   subst hz0
   simp only [Instr.buildSlice,Sem.run_bind,Bt hu,Result.andThen_ok,Cd (w:=w) hg]
   rw [if_neg h24',if_pos h0]
   simp only [Sem.run_bind,Sem.run_pure,Result.andThen_ok,h1',newRow,run_newObj]
   rfl
  ·obtain ⟨z',hz1,rfl⟩:=hzb h0
   simp only [Instr.buildSlice,Sem.run_bind,Bt hu,Result.andThen_ok,Cd (w:=w) hg]
   rw [if_neg h24',if_neg h0]
   simp only [Sem.run_bind,hz1,Sem.run_pure,Result.andThen_ok,h1',newRow,run_newObj]
   rfl
 have hadv:=Aab (nb:=nb) (t:=e) (vs:=out.toList) h hdst hdN h6 (Nat.le_refl _) (by rw [hov]; exact h5) (by rw [hov]; exact h7) (by rw [hov]; exact h8)
 refine ⟨.slice (some ⟨w.heap.size,0,none⟩) es.length es.length,w.alloc (.cells out e),.inl ?_,by simpa using hadv⟩
 simp only [execOp,ho]
 exact Te hrun
end
section
variable {P:Program} {r:RB} {N:Nat} {s:St} {K:St→Prop} {dst:Option Nat} {ty:TypeId} {pos:String} {after:Array Edge} {g:Option (Nat × Bool)} {all rest:List Oper}
def EPp (N:Nat) (dst:Option Nat) (s:St) (K:St→Prop):Option Eff→Prop
 | some (.new (.arr _ es) _)=>dst.isSome=true∧Cm N dst=true∧K (s.put dst (.p (.sl es)))
 | _=>False
theorem Jp {k:Nat} {es:List (List PV)} {x:AV}:EPp N dst s K (some (.new (.arr k es) x))=(dst.isSome=true∧Cm N dst=true∧K (s.put dst (.p (.sl es)))):=rfl
def EPb (P:Program) (N:Nat) (o:Oper) (s:St) (K:St→Prop):Prop:=match o.op with
 | .buildSlice t n parts=>EPp N o.dst s K (fBS P 0 n (parts.toList.map fun p=>(p.1,ev s.t p.2)) (Ab P t).k)
 | _=>False
theorem Pm {t:TypeId} {n:Nat} {parts:Array (Nat × Operand)}:EPb P N ⟨dst,.buildSlice t n parts,ty,pos,after,g⟩ s K=EPp N dst s K (fBS P 0 n (parts.toList.map fun p=>(p.1,ev s.t p.2)) (Ab P t).k):=rfl
theorem We {o:Oper} (h:EPb P N o s K):D1 P r N o s K:=by
 unfold EPb at h
 split at h
 ·rename_i t n parts ho
  intro B S θ M w a Q hs
  cases hk:(Ab P t).k with
  | sl e=>
   rw [hk,Ah1] at h
   cases hp:Bu (Ab P e).sz 0 (parts.toList.map fun p=>(p.1,ev s.t p.2)) with
   | none=>rw [hp] at h; exact h.elim
   | some es=>
    rw [hp,Abc] at h
    split at h
    ·rename_i hc
     rw [Jp] at h
     obtain ⟨h1,h2,h3⟩:=h
     obtain ⟨dk,hd⟩:=Option.isSome_iff_exists.1 h1
     obtain ⟨v,w',hr,hadv⟩:=X2 (nb:=r.b) hs ho hd (Cw h2 dk hd) hk (Db hc.2.1) hp hc.1 hc.2.2.1 hc.2.2.2
     refine ⟨fun _ _=>trivial,?_⟩
     rw [Oper.semAt_eq _ _ _ (by rw [ho]; intro c h; cases h)]
     rcases hr with hr | ⟨hr,rfl⟩
     ·rw [hr]; exact ⟨_,h3,hadv.toM,by cases o.dst <;> rfl⟩
     ·rw [hr]; exact ⟨_,h3,hadv.toM,by cases o.dst <;> rfl⟩
    ·exact h.elim
  | _=>rw [hk] at h; exact h.elim
 ·exact h.elim
def ELp (P:Program) (r:RB) (N:Nat) (all:List Oper):Nat→List Oper→St→(St→Prop)→Prop
 | 0,o :: rest,s,K=>o.guard=none∧EPb P N o s fun s'=>EL P r N all rest s' K
 | k+1,o :: rest,s,K=>o.guard=none∧EO P r N o s fun s'=>ELp P r N all k rest s' K
 | _,[],_,_=>False
theorem Wq:∀ {l:List Oper} {k:Nat} {s:St} {K:St→Prop},ELp P r N all k l s K→AL P r N all l s K
 | ⟨dst,op,ty,pos,after,g⟩ :: rest,0,s,K,h=>by
  obtain ⟨h1,h2⟩:=h
  have h1:g=none:=h1
  subst h1
  exact AL.step ((We h2).mono fun s' h'=>Jh h')
 | ⟨dst,op,ty,pos,after,g⟩ :: rest,k+1,s,K,h=>by
  obtain ⟨h1,h2⟩:=h
  have h1:g=none:=h1
  subst h1
  exact AL.step ((Jb h2).mono fun s' h'=>Wq h')
 | [],0,_,_,h=>h.elim
 | [],_+1,_,_,h=>h.elim
theorem Alr (k:Nat) {Q:AEx→St→Prop} {id:Nat} {ops:List Oper} (h:ELp P r N ops k ops s (Q .normal)):AWP P r N (.region id ops.toArray false) s Q:=Pz (Wq h)
def EKp (P:Program) (r:RB) (N:Nat) (all:List Oper) (k:Nat) (rest:List Oper) (K:St→Prop) (s:St):Prop:=ELp P r N all k rest s K
theorem Yk {t:Nat→AV} {o:Nat→Option AO} {k:Nat}:EKp P r N all k rest K ⟨t,o⟩=ELp P r N all k rest ⟨t,o⟩ K:=rfl
theorem Aei {o:Op}:ELp P r N all 0 (⟨dst,o,ty,pos,after,none⟩ :: rest) s K=EPb P N ⟨dst,o,ty,pos,after,none⟩ s (EK P r N all rest K):=propext ⟨fun h=>h.2,fun h=>⟨rfl,h⟩⟩
theorem Aek {o:Op} {k:Nat}:ELp P r N all (k+1) (⟨dst,o,ty,pos,after,none⟩ :: rest) s K=EO P r N ⟨dst,o,ty,pos,after,none⟩ s (EKp P r N all k rest K):=propext ⟨fun h=>h.2,fun h=>⟨rfl,h⟩⟩
end
end AM
end
/- A program's 'all' at any place of its text (srch: that of wort). -/
section
namespace AM
open Go AM AM.Duty
open Nat renaming reduceLT→sA,reduceAdd→sB,reduceMul→sC,reduceSub→sD,reduceLeDiff→sE,reduceEqDiff→sF,reduceBEq→sG
open Int renaming reduceAdd→sH,reduceSub→sI,reduceMul→sJ,reduceLT→sK,reduceLE→sL,reduceNeg→sM,reduceToNat→sN,reduceEq→sO
set_option maxHeartbeats 4000000
def Aor (p2:String) (tE tF tB:Nat):Code:=
  (.seq (.region 0 #[⟨some 3,.assign (.const (.bool false)),tB,p2,#[],none⟩] false) (.seq (.region 1 #[⟨some 4,.load tF (.tmp 1),tF,p2,#[],none⟩,⟨some 5,.move (.tmp 0),tE,p2,#[],none⟩,⟨some 6,.call ⟨(.value (.tmp 4)),#[(.tmp 5)],#[tE]⟩,tB,p2,#[⟨0,.data⟩,⟨1,.data⟩],none⟩,⟨some 7,.unOp .not tB (.tmp 6),tB,p2,#[⟨2,.data⟩],none⟩,⟨some 3,.assign (.tmp 7),tB,p2,#[⟨3,.data⟩,⟨2,.chain⟩,⟨0,.phase⟩,⟨1,.phase⟩,⟨2,.phase⟩,⟨3,.phase⟩],none⟩] false) .ret))
def Apw (p2:String) (tE tF tB:Nat):Code:=
  (.seq (.region 0 #[⟨some 2,.box tE (.tmp 0),0,p2,#[],none⟩,⟨some 3,.assign (.const (.bool false)),tB,p2,#[],none⟩] false) (.seq (.region 1 #[⟨some 4,.load tF (.tmp 1),tF,p2,#[],none⟩,⟨some 5,.load tE (.tmp 2),tE,p2,#[],none⟩,⟨some 6,.call ⟨(.value (.tmp 4)),#[(.tmp 5)],#[tE]⟩,tB,p2,#[⟨0,.data⟩,⟨1,.data⟩],none⟩,⟨some 7,.unOp .not tB (.tmp 6),tB,p2,#[⟨2,.data⟩],none⟩,⟨some 3,.assign (.tmp 7),tB,p2,#[⟨3,.data⟩,⟨2,.chain⟩,⟨0,.phase⟩,⟨1,.phase⟩,⟨2,.phase⟩,⟨3,.phase⟩],none⟩] false) .ret))
def Acp (ps p2:String) (tS tF tB fC f1:Nat):Code:=
  (.seq (.region 0 #[⟨some 3,.box tF (.tmp 1),0,ps,#[],none⟩,⟨some 4,.assign (.const (.bool false)),tB,ps,#[],none⟩] false) (.seq (.region 1 #[⟨some 5,.move (.tmp 0),tS,p2,#[],none⟩,⟨some 6,.makeFunc (.func f1) #[] #[(.tmp 3)],tF,p2,#[],none⟩,⟨some 7,.call ⟨(.value (.func fC)),#[(.tmp 5),(.tmp 6)],#[tS,tF]⟩,tB,p2,#[⟨0,.data⟩,⟨1,.data⟩],none⟩,⟨some 8,.unOp .not tB (.tmp 7),tB,p2,#[⟨2,.data⟩],none⟩,⟨some 4,.assign (.tmp 8),tB,p2,#[⟨3,.data⟩,⟨2,.chain⟩,⟨0,.phase⟩,⟨1,.phase⟩,⟨2,.phase⟩,⟨3,.phase⟩],none⟩] false) .ret))
def Uh (P:Program) (ps p2:String) (tS tE tF tB fC f1 fA:Nat):Prop:=(∃ fn,P.funcs[f1]?=some fn∧fn.body=some (Aor p2 tE tF tB)∧fn.ntmps=8∧fn.results.toList=[.tmp 3]∧Bs P f1=true) ∧
  ∃ fn,P.funcs[fA]?=some fn∧fn.body=some (Acp ps p2 tS tF tB fC f1)∧fn.ntmps=9∧fn.results.toList=[.tmp 4]∧Bs P fA=true
def Y6 (P:Program) (ps p2:String) (tS tE tF tB fC f1 fA:Nat):Prop:=(∃ fn,P.funcs[f1]?=some fn∧fn.body=some (Apw p2 tE tF tB)∧fn.ntmps=8∧fn.results.toList=[.tmp 3]∧Bs P f1=true) ∧
  ∃ fn,P.funcs[fA]?=some fn∧fn.body=some (Acp ps p2 tS tF tB fC f1)∧fn.ntmps=9∧fn.results.toList=[.tmp 4]∧Bs P fA=true
theorem Ank {P:Program} {ps p2:String} {σ α:Type} {tS tE tF tB:Nat} {arg:α→AV} {enc:α→List PV} [Inhabited α] (hE:ElT P tS tE arg enc) {fC f1 fA:Nat} (hA:Y6 P ps p2 tS tE tF tB fC f1 fA) {fv:AV} {F:Nat→Prop} {l:List α} {I:σ→(Nat→Option AO)→Prop} {step:σ→α→σ × Bool} (hfvT:(Ab P tF).agg=some false) (hT:Cv P fv F arg l I step) {nb:Nat} (hnb:¬ F nb) {s:σ} {x:α} {os:Nat→Option AO} {bd:Nat} (hx:x ∈ l) (hI:I s os) (hnb1:os nb=some (.cells [fv])) :
    Bm P bd (.fn (.func f1) [] [.ptr nb 0]) [arg x] os fun res os'=>res=bl (!(step s x).2)∧(I (step s x).1 os'∧os' nb=some (.cells [fv]))∧∀ n,¬ (F n∨n=nb)→os' n=os n:=by
  obtain ⟨fn,hf,hb,hN,hrs,hcal⟩:=hA.1
  refine Bn (v:=[]) (q:=[]) (N:=8) (rs:=[.tmp 3]) hf hb hcal hN hrs (fun hcl hfree=>?_)
  have hlt:=Al hfree hnb1
  have hfr0:∀ k,os (bd+k)=none:=fun k=>hfree _ (by omega)
  have hlv:=hT.live _ _ hI
  have hF:∀ n,F n→n < bd:=fun n hn=>by obtain ⟨o,h,_⟩:=hT.foot s os n hI hn; exact Al hfree h
  have hbx:=hE.bx
  have hl2:=hE.ld2 (upd os (bd+2) (some (.cells ((enc x).map .p)))) (bd+2) x Ak
  have hcl0:(Hp (upd os (bd+2) (some (.cells ((enc x).map .p))))).closed:=Bc hcl (AO.lives_cells.2 fun i y hy=>by
    rw [List.getElem?_map,Option.map_eq_some_iff] at hy
    obtain ⟨z,_,rfl⟩:=hy
    exact AV.lives_p _ _)
  have hI0:I s (upd os (bd+2) (some (.cells ((enc x).map .p)))):=hT.stable s os _ hI (fun n hn=>Ad (by have:=hF n hn; omega))
  have hfr8:∀ n,bd+8≤n→upd os (bd+2) (some (.cells ((enc x).map .p))) n=none:=fun n hn=>by rw [Ad (by omega)]; exact hfree n (by omega)
  refine Aa fun K1 hK1=>?_
  refine Ac ?_
  simp (disch:=omega) only [hbx,hfr0,amL,sA,sB,↓reduceIte]
  refine hK1 _ ?_
  refine Aa fun K2 hK2=>?_
  refine Ac ?_
  simp (disch:=omega) only [hl2,hnb1,hfvT,Ad,amL,sA,sF,↓reduceIte,reduceCtorEq]
  have hvc:=hT.call s x _ (bd+8) hx hI0 hcl0
  refine Be [] (by decide) hvc hfr8 (Nat.le_add_right bd 8) (fun res os2 hR hcl2 hlv2=>?_)
  obtain ⟨rfl,hI2,hfr2⟩:=hR
  simp (disch:=omega) only [amL,sA,↓reduceIte]
  refine hK2 _ ?_
  refine Ae ?_
  try simp (disch:=omega) only [amL]
  obtain ⟨g1,g2,g3⟩:=hT.drop hcl hfree hI hI2 (fun n hn hF=>by first | exact hfr2 n hF | (rw [hfr2 n hF,Ad (by omega)]))
  refine Az (res:=bl _) (Ap bd os2) (by simp (disch:=omega) only [amL,↓reduceIte]; try rfl) (Bh _ _) g1 (AV.lives_p _ _) ⟨rfl,⟨g2,?_⟩,fun n hn=>g3 n (fun h=>hn (.inl h))⟩
  rw [g3 nb hnb]; exact hnb1
theorem Ajt {P:Program} {ps p2:String} {σ α:Type} {tE tF tB:Nat} {arg:α→AV} [Inhabited α] {fC f1 fA tS:Nat} (hA:Uh P ps p2 tS tE tF tB fC f1 fA) (hlva:∀ x os,(arg x).lives os) {fv:AV} {F:Nat→Prop} {l:List α} {I:σ→(Nat→Option AO)→Prop} {step:σ→α→σ × Bool} (hfvT:(Ab P tF).agg=some false) (hT:Cv P fv F arg l I step):Ap9 P f1 fv F arg l I step:=by
  intro nb hnb s x os bd hx hI hnb1
  obtain ⟨fn,hf,hb,hN,hrs,hcal⟩:=hA.1
  refine Bn (v:=[]) (q:=[]) (N:=8) (rs:=[.tmp 3]) hf hb hcal hN hrs (fun hcl hfree=>?_)
  have hlt:=Al hfree hnb1
  have hfr0:∀ k,os (bd+k)=none:=fun k=>hfree _ (by omega)
  have hlv:=hT.live _ _ hI
  have hlx:=hlva x os
  refine Aa fun K1 hK1=>?_
  refine Ac ?_
  simp (disch:=omega) only [amL,sA,sB]
  refine hK1 _ ?_
  refine Aa fun K2 hK2=>?_
  refine Ac ?_
  simp (disch:=omega) only [hnb1,hfvT,amL,sA,sF,↓reduceIte,reduceCtorEq]
  have hvc:=hT.call s x os (bd+8) hx hI hcl
  refine Be [] (by decide) hvc (fun n hn=>hfree n (by omega)) (Nat.le_add_right bd 8) (fun res os2 hR hcl2 hlv2=>?_)
  obtain ⟨rfl,hI2,hfr2⟩:=hR
  simp (disch:=omega) only [amL,sA,↓reduceIte]
  refine hK2 _ ?_
  refine Ae ?_
  try simp (disch:=omega) only [amL]
  obtain ⟨g1,g2,g3⟩:=hT.drop hcl hfree hI hI2 (fun n hn hF=>hfr2 n hF)
  refine Az (res:=bl _) (Ap bd os2) (by simp (disch:=omega) only [amL,↓reduceIte]; try rfl) (Bh _ _) g1 (AV.lives_p _ _) ⟨rfl,⟨g2,?_⟩,fun n hn=>g3 n (fun h=>hn (.inl h))⟩
  rw [g3 nb hnb]; exact hnb1
theorem Aa6 {P:Program} {ps p2:String} {σ α:Type} {tS tE tF tI tB:Nat} {arg:α→AV} {enc:α→List PV} [Inhabited α] (hE:ElT P tS tE arg enc) {fI fC f1 fA:Nat} (hF:Qh P tS tE tF tI tB fI fC) (hA:∃ fn,P.funcs[fA]?=some fn∧fn.body=some (Acp ps p2 tS tF tB fC f1)∧fn.ntmps=9∧fn.results.toList=[.tmp 4]∧Bs P fA=true) {ff:Fn} {fs cs:List AV} {F:Nat→Prop} {l:List α} {I:σ→(Nat→Option AO)→Prop} {step:σ→α→σ × Bool} (hl:l.length < 1000000) (hT:Cv P (.fn ff fs cs) F arg l I step) (hU:Ap9 P f1 (.fn ff fs cs) F arg l I step) (hfv:∀ m,(AV.fn ff fs cs).clean m=false→F m) {s:σ} {os:Nat→Option AO} {bd:Nat} (hI:I s os) :
    Bm P bd (.fn (.func fA) [] []) [.p (.sl (l.map enc)),.fn ff fs cs] os fun res os'=>res=bl ((Ca step s l).2)∧I ((Ca step s l).1) os'∧∀ n,¬ F n→os' n=os n:=by
  obtain ⟨fn,hf,hb,hN,hrs,hcal⟩:=hA
  refine Bn (v:=[fC]) (q:=[]) (N:=9) (rs:=[.tmp 4]) hf hb hcal hN hrs (fun hcl hfree=>?_)
  have hfr0:∀ k,os (bd+k)=none:=fun k=>hfree _ (by omega)
  have hFb:∀ n,F n→n < bd:=fun n hn=>by obtain ⟨o,h,_⟩:=hT.foot s os n hI hn; exact Al hfree h
  have hlv:=hT.live _ _ hI
  have hcl0:(Hp (upd os (bd+3) (some (.cells [.fn ff fs cs])))).closed:=Bc hcl (by
    rw [Bp,Ax,A8]
    exact ⟨AV.lives_mono (fun n hn=>by
                                         by_cases e:n=bd+3; · subst e; rw [Ak]; rfl
                                         · rw [Ad e]; exact hn) hlv,trivial⟩)
  have hI0:I s (upd os (bd+3) (some (.cells [.fn ff fs cs]))):=hT.stable s os _ hI (fun n hn=>Ad (by have:=hFb n hn; omega))
  have ht:=Ay3 hU hT (nb:=bd+3) (fun h=>by have:=hFb _ h; omega) hfv
  obtain ⟨sa1,sa2⟩:=H3 (step:=step) l s 0
  have cC:=Axn hE hF (bd:=bd+9) hl ht (s:=s) (os:=upd os (bd+3) (some (.cells [.fn ff fs cs]))) ⟨hI0,Ak⟩
  refine Aa fun K1 hK1=>?_
  refine Ac ?_
  simp (disch:=omega) only [hfr0,amL,sA,sB,↓reduceIte,reduceCtorEq]
  refine hK1 _ ?_
  refine Aa fun K2 hK2=>?_
  refine Ac ?_
  simp (disch:=omega) only [amL,sA,sF,↓reduceIte,reduceCtorEq]
  refine Be [] (by decide) cC (fun n hn=>by first | exact hfree n (by omega) | (rw [Ad (by omega)]; exact hfree n (by omega))) (Nat.le_add_right bd 9) (fun res os2 hR hcl2 hlv2=>?_)
  obtain ⟨rfl,⟨hI2,_⟩,hfr2⟩:=hR
  simp (disch:=omega) only [amL,sA,↓reduceIte]
  refine hK2 _ ?_
  refine Ae ?_
  try simp (disch:=omega) only [amL]
  rw [sa1] at hI2
  obtain ⟨g1,g2,g3⟩:=hT.drop hcl hfree hI hI2 (fun n hn hF=>by rw [hfr2 n (fun h=>h.elim hF (fun e=>by omega)),Ad (by omega)])
  refine Az (res:=bl _) (Ap bd os2) (by simp (disch:=omega) only [amL,↓reduceIte]; try rfl) (Bh _ _) g1 (AV.lives_p _ _) ⟨by rw [sa2],g2,g3⟩
theorem Amu {P:Program} {ps p2:String} {σ α:Type} {tS tE tF tI tB:Nat} {arg:α→AV} {enc:α→List PV} [Inhabited α] (hE:ElT P tS tE arg enc) {fI fC f1 fA:Nat} (hF:Qh P tS tE tF tI tB fI fC) (hA:Y6 P ps p2 tS tE tF tB fC f1 fA) (hfvT:(Ab P tF).agg=some false) {ff:Fn} {fs cs:List AV} {F:Nat→Prop} {l:List α} {I:σ→(Nat→Option AO)→Prop} {step:σ→α→σ × Bool} (hl:l.length < 1000000) (hT:Cv P (.fn ff fs cs) F arg l I step) (hfv:∀ m,(AV.fn ff fs cs).clean m=false→F m) {s:σ} {os:Nat→Option AO} {bd:Nat} (hI:I s os) :
    Bm P bd (.fn (.func fA) [] []) [.p (.sl (l.map enc)),.fn ff fs cs] os fun res os'=>res=bl ((Ca step s l).2)∧I ((Ca step s l).1) os'∧∀ n,¬ F n→os' n=os n:=
  Aa6 hE hF hA.2 hl hT (fun _ hnb _ _ _ _ hx hI h=>Ank hE hA hfvT hT hnb hx hI h) hfv hI
theorem Aax {P:Program} {ps p2:String} {σ α:Type} {tS tE tF tI tB:Nat} {arg:α→AV} {enc:α→List PV} [Inhabited α] (hE:ElT P tS tE arg enc) {fI fC f1 fA:Nat} (hF:Qh P tS tE tF tI tB fI fC) (hA:Uh P ps p2 tS tE tF tB fC f1 fA) (hfvT:(Ab P tF).agg=some false) {ff:Fn} {fs cs:List AV} {F:Nat→Prop} {l:List α} {I:σ→(Nat→Option AO)→Prop} {step:σ→α→σ × Bool} (hl:l.length < 1000000) (hT:Cv P (.fn ff fs cs) F arg l I step) (hfv:∀ m,(AV.fn ff fs cs).clean m=false→F m) {s:σ} {os:Nat→Option AO} {bd:Nat} (hI:I s os) :
    Bm P bd (.fn (.func fA) [] []) [.p (.sl (l.map enc)),.fn ff fs cs] os fun res os'=>res=bl ((Ca step s l).2)∧I ((Ca step s l).1) os'∧∀ n,¬ F n→os' n=os n:=
  Aa6 hE hF hA.2 hl hT (Ajt hA (fun x os=>hE.lv os x) hfvT hT) hfv hI
theorem Ajp {P:Program} {ps p2:String} {α:Type} {tS tE tF tI tB:Nat} {arg:α→AV} {enc:α→List PV} [Inhabited α] (hE:ElT P tS tE arg enc) {fI fC f1 fA:Nat} (hF:Qh P tS tE tF tI tB fI fC) (hA:Y6 P ps p2 tS tE tF tB fC f1 fA) (hfvT:(Ab P tF).agg=some false) {f:Nat} {fs:List AV} {l:List α} {g:α→Bool} (hcal:Bs P f=true) (hfs:fs.all AV.isP=true) (h:∀ x ∈ l,Bf P f (fs++[arg x]) (bl (g x))) (hl:l.length < 1000000) {os:Nat→Option AO} {bd:Nat} :
    Bm P bd (.fn (.func fA) [] []) [.p (.sl (l.map enc)),.fn (.func f) fs []] os fun res os'=>res=bl (l.all g)∧os'=os:=by
  have hc:∀ m,(AV.fn (.func f) fs []).clean m=false→False:=fun m hm=>by
    have h1:AV.clean.cleanL m fs=true:=(B0 m fs).2 fun i x hx=>W2 (List.all_eq_true.1 hfs x (List.mem_of_getElem? hx)) m
    rw [AV.clean,h1] at hm; cases hm
  refine Bm.mono (Amu hE hF hA hfvT hl (Alw hcal hfs h) (fun m hm=>hc m hm) (s:=()) (bd:=bd) trivial) ?_
  rintro r os' ⟨rfl,_,hfr⟩
  exact ⟨by rw [Dy],funext fun n=>hfr n id⟩
theorem Aho {P:Program} {ps p2:String} {α:Type} {tS tE tF tI tB:Nat} {arg:α→AV} {enc:α→List PV} [Inhabited α] (hE:ElT P tS tE arg enc) {fI fC f1 fA:Nat} (hF:Qh P tS tE tF tI tB fI fC) (hA:Uh P ps p2 tS tE tF tB fC f1 fA) (hfvT:(Ab P tF).agg=some false) {f:Nat} {fs:List AV} {l:List α} {g:α→Bool} (hcal:Bs P f=true) (hfs:fs.all AV.isP=true) (h:∀ x ∈ l,Bf P f (fs++[arg x]) (bl (g x))) (hl:l.length < 1000000) {os:Nat→Option AO} {bd:Nat} :
    Bm P bd (.fn (.func fA) [] []) [.p (.sl (l.map enc)),.fn (.func f) fs []] os fun res os'=>res=bl (l.all g)∧os'=os:=by
  have hc:∀ m,(AV.fn (.func f) fs []).clean m=false→False:=fun m hm=>by
    have h1:AV.clean.cleanL m fs=true:=(B0 m fs).2 fun i x hx=>W2 (List.all_eq_true.1 hfs x (List.mem_of_getElem? hx)) m
    rw [AV.clean,h1] at hm; cases hm
  refine Bm.mono (Aax hE hF hA hfvT hl (Alw hcal hfs h) (fun m hm=>hc m hm) (s:=()) (bd:=bd) trivial) ?_
  rintro r os' ⟨rfl,_,hfr⟩
  exact ⟨by rw [Dy],funext fun n=>hfr n id⟩
end AM
end
/- The abstract machine, part 47: regions that draw their order: an append, then operations that look. -/
section
namespace AM
open Go
def xop (P:Program):Op→Bool
 | .fieldAddr ..=>true
 | .indexAddr ..=>true
 | .build ..=>true
 | .buildSlice ..=>true
 | .load t _=>(Ab P t).agg == some false
 | _=>false
section
variable {P:Program} {r:RB} {N:Nat} {all:List Oper} {d:Nat} {op:Op} {ρ ρ':Operand→AV} {os os':Nat→Option AO} {s:St}
theorem Ary (h:xop P op=true):qop op=true∧Ct op=false∧Ds op=false∧isM op=false:=by
 cases op <;> first | (simp [xop] at h; done) | exact ⟨rfl,rfl,rfl,rfl⟩
theorem T7 {n:Nat} {x:AV} (h:x.purge n=x) (hu:x≠.undef):x.clean n=true:=by
 unfold AV.purge at h
 split at h
 ·assumption
 ·exact absurd h.symm hu
theorem Lf {zero:List AV} {place:Nat→Option (Nat × Nat)}:∀ {l:List (Nat × AV)} {cs:List AV},B6 zero place l=some cs→∀ p ∈ l,p.2≠.undef
 | [],_,_,p,hp=>by cases hp
 | (i,x) :: l,cs,h,p,hp=>by
  simp only [B6] at h
  split at h
  ·rename_i off sz cs' g1 g2
   split at h
   ·rcases List.mem_cons.1 hp with rfl | hp
    ·intro e
     dsimp only at e; subst e; simp [AV.cs?] at g2
    ·exact Lf h p hp
   ·cases h
  ·cases h
theorem Q0 {k:Nat}:∀ {l:List (Nat × AV)} {i:Nat} {es:List (List PV)},Bu k i l=some es→∀ p ∈ l,p.2≠.undef
 | [],_,_,_,p,hp=>by cases hp
 | (j,x) :: l,i,es,h,p,hp=>by
  simp only [Bu] at h
  split at h
  ·rename_i c es' g1 g2
   split at h
   ·rcases List.mem_cons.1 hp with rfl | hp
    ·intro e
     dsimp only at e; subst e; simp [AV.cs?] at g1
    ·exact Q0 g2 p hp
   ·cases h
  ·cases h
theorem Pk {n:Nat} {l:List (Nat × Operand)} (hρ:∀ p ∈ l,ρ' p.2=(ρ p.2).purge n) (h:∀ p ∈ l.map fun p=>(p.1,ρ' p.2),p.2≠.undef):(l.map fun p=>(p.1,ρ' p.2))=l.map fun p=>(p.1,ρ p.2):=by
 refine List.map_congr_left fun p hp=>?_
 have h1:=h (p.1,ρ' p.2) (List.mem_map.2 ⟨p,hp,rfl⟩)
 have h2:=hρ p hp
 rcases Co n (ρ p.2) with e | e
 ·rw [h2,e]
 ·exact absurd (h2.trans e) h1
theorem Ahd (h:xop P op=true) {n:Nat} (hρ:∀ x ∈ op.operands.toList,ρ' x=(ρ x).purge n) (ho:∀ m,m≠n→os' m=(os m).map (AO.purge n)) {e:Eff} (he:eff P d op ρ' os'=some e) (hgood:∀ y,e=.pure y→y.clean n=true) :
  (∃ y y',e=.pure y∧y=y'.purge n∧eff P d op ρ os=some (.pure y'))∨(∃ k es len,e=.new (.arr k es) (.own d len)∧eff P d op ρ os=some e):=by
 cases op with
 | load t x=>
  have hld:∀ ρ os,eff P d (.load t x) ρ os=Ec (Ab P t).agg (Ab P t).sz os (ρ x):=fun _ _=>rfl
  rw [hld] at he ⊢
  have hx:=hρ x (by simp [Op.operands])
  have hag:(Ab P t).agg=some false:=by simpa [xop] using h
  rw [hag] at he ⊢
  rcases Co n (ρ x) with e1 | e1
  ·have hxx:ρ' x=ρ x:=hx.trans e1
   rw [hxx] at he
   left
   cases hv:ρ x with
   | ptr m off=>
    have hmn:m≠n:=fun em=>by
     have hcl:=T7 e1 (by rw [hv]; intro h; cases h)
     rw [hv] at hcl; simp [AV.clean,em] at hcl
    rw [hv,Ek,ho m hmn] at he
    rw [Ek]
    cases hm:os m with
    | none=>rw [hm] at he; cases he
    | some o=>
     rw [hm,Option.map_some] at he
     cases o with
     | cells cs=>
      simp only [AO.purge,Hr,Ay,Bool.false_eq_true,if_false,← List.map_drop,List.head?_map] at he ⊢
      cases hc:(cs.drop off).head? with
      | none=>rw [hc] at he; cases he
      | some z=>
       rw [hc] at he
       cases he
       exact ⟨_,z,rfl,rfl,rfl⟩
     | arr k es=>cases he
     | obj X=>cases he
     | it k X=>(simp only [AO.purge] at he; split at he <;> cases he)
     | loop k tm=>cases he
   | eptr m k i off=>
    have hmn:m≠n:=fun em=>by
     have hcl:=T7 e1 (by rw [hv]; intro h; cases h)
     rw [hv] at hcl; simp [AV.clean,em] at hcl
    rw [hv,E2,ho m hmn] at he
    rw [E2]
    cases hm:os m with
    | none=>rw [hm] at he; cases he
    | some o=>
     rw [hm,Option.map_some] at he
     cases o with
     | cells cs=>cases he
     | arr k es=>
      simp only [AO.purge] at he
      simp only [Ty] at he ⊢
      split at he
      ·rename_i hcnd
       rw [if_pos hcnd]
       simp only [Ay,Bool.false_eq_true,if_false] at he ⊢
       rw [List.head?_map] at he ⊢
       cases hc:((es.getD i []).drop off).head? with
       | none=>rw [hc] at he; cases he
       | some z=>rw [hc] at he; cases he; exact ⟨_,.p z,rfl,rfl,rfl⟩
      ·cases he
     | obj X=>cases he
     | it k X=>(simp only [AO.purge] at he; split at he <;> cases he)
     | loop k tm=>cases he
   | p z=>
    cases z with
    | ro cs=>
     rw [hv,Jj] at he
     rw [Jj]
     simp only [Ay,Bool.false_eq_true,if_false,List.head?_map] at he ⊢
     cases hc:cs.head? with
     | none=>rw [hc] at he; cases he
     | some z=>rw [hc] at he; cases he; exact ⟨_,.p z,rfl,rfl,rfl⟩
    | val v=>rw [hv] at he; cases he
    | sl es=>rw [hv] at he; cases he
   | _=>rw [hv] at he; cases he
  ·rw [hx,e1] at he; cases he
 | fieldAddr t x f=>
  have hx:=hρ x (by simp [Op.operands])
  left
  rcases Co n (ρ x) with e1 | e1
  ·have hxx:ρ' x=ρ x:=hx.trans e1
   simp only [eff,hxx] at he ⊢
   split at he
   ·split at he
    ·split at he
     ·cases he
     ·rename_i hz
      rw [if_neg hz]
      split at he
      ·rename_i m off hv
       cases he
       exact ⟨_,_,rfl,(if_pos (hgood _ rfl)).symm,rfl⟩
      ·rename_i m k i off hv
       cases he
       exact ⟨_,_,rfl,(if_pos (hgood _ rfl)).symm,rfl⟩
      ·cases he
       exact ⟨_,_,rfl,rfl,rfl⟩
      ·cases he
    ·cases he
   ·cases he
  ·simp only [eff,hx,e1] at he
   split at he
   ·split at he
    ·split at he <;> cases he
    ·cases he
   ·cases he
 | build t parts=>
  left
  have key:∀ p ∈ parts.toList,ρ' p.2=(ρ p.2).purge n:=fun p hp=>hρ p.2 (by simp only [Op.operands]; exact List.mem_map.2 ⟨p,hp,rfl⟩)
  simp only [eff] at he ⊢
  split at he
  ·rename_i hz
   rw [if_pos hz]
   split at he
   ·split at he
    ·cases he
    ·rename_i hb
     rw [if_neg hb]
     obtain ⟨cs,h1,rfl⟩:=Option.map_eq_some_iff.1 he
     have hs:=Pk key (Lf h1)
     rw [hs] at h1
     exact ⟨_,.agg cs,rfl,(if_pos (hgood _ rfl)).symm,by rw [h1]; rfl⟩
   ·split at he
    ·cases he
    ·rename_i hb
     rw [if_neg hb]
     obtain ⟨cs,h1,rfl⟩:=Option.map_eq_some_iff.1 he
     have hs:=Pk key (Lf h1)
     rw [hs] at h1
     exact ⟨_,.agg cs,rfl,(if_pos (hgood _ rfl)).symm,by rw [h1]; rfl⟩
   ·cases he
  ·cases he
 | buildSlice t len parts=>
  right
  have key:∀ p ∈ parts.toList,ρ' p.2=(ρ p.2).purge n:=fun p hp=>hρ p.2 (by simp only [Op.operands]; exact List.mem_map.2 ⟨p,hp,rfl⟩)
  simp only [eff] at he ⊢
  split at he
  ·split at he
   ·rename_i es h1
    have hs:=Pk key (Q0 h1)
    rw [hs] at h1
    rw [h1]
    dsimp only
    split at he
    ·rename_i hc
     rw [if_pos hc]
     cases he
     exact ⟨_,_,_,rfl,rfl⟩
    ·cases he
   ·cases he
  ·cases he
 | indexAddr t x i=>
  left
  have hx:=hρ x (by simp [Op.operands])
  have hi:=hρ i (by simp [Op.operands])
  have hii:ρ' i=ρ i∨ρ' i=.undef:=by
   rcases Co n (ρ i) with e1 | e1
   ·exact .inl (hi.trans e1)
   ·exact .inr (hi.trans e1)
  have hxx:ρ' x=ρ x∨ρ' x=.undef:=by
   rcases Co n (ρ x) with e1 | e1
   ·exact .inl (hx.trans e1)
   ·exact .inr (hx.trans e1)
  rcases hii with hii | hii
  ·rcases hxx with hxx | hxx
   ·have hcl:ρ x≠.undef→(ρ x).clean n=true:=fun hu=>T7 (hx.symm.trans hxx) hu
    simp only [eff,hii,hxx] at he ⊢
    split at he
    ·split at he
     ·split at he
      ·rename_i hc
       rw [if_pos hc]; cases he
       exact ⟨_,_,rfl,rfl,rfl⟩
      ·cases he
     ·rename_i m len hv
      have hcl:=hcl (by rw [hv]; intro h; cases h)
      rw [hv] at hcl
      have hmn:m≠n:=fun em=>by simp [AV.clean,em] at hcl
      rw [ho m hmn] at he
      cases hm:os m with
      | none=>rw [hm] at he; cases he
      | some o=>
       rw [hm] at he
       cases o with
       | arr k es=>
        simp only [Option.map_some,AO.purge] at he ⊢
        split at he
        ·rename_i hc
         rw [if_pos hc]; cases he
         exact ⟨_,_,rfl,(if_pos (hgood _ rfl)).symm,rfl⟩
        ·cases he
       | cells cs=>cases he
       | obj X=>cases he
       | it k X=>(by_cases hkn:k=n <;> simp [AO.purge,hkn] at he)
       | loop k tm=>cases he
     ·rename_i m off k len hv
      split at he
      ·rename_i hc
       rw [if_pos hc]; cases he
       exact ⟨_,_,rfl,(if_pos (hgood _ rfl)).symm,rfl⟩
      ·cases he
     ·cases he
    ·split at he
     ·rename_i m off hv
      split at he
      ·rename_i hc
       rw [if_pos hc]; cases he
       exact ⟨_,_,rfl,(if_pos (hgood _ rfl)).symm,rfl⟩
      ·cases he
     ·split at he
      ·rename_i hc
       rw [if_pos hc]; cases he
       exact ⟨_,_,rfl,rfl,rfl⟩
      ·cases he
     ·cases he
    ·cases he
   ·simp only [eff,hxx] at he
    split at he <;> first | cases he | (split at he <;> cases he)
  ·simp only [eff,hii] at he
   split at he <;> first | contradiction | (cases he; done)
 | _=>simp [xop] at h
theorem Aic {x:AV} (h:∀ m,x.clean m=false→os' m=os m):Dd os' x=Dd os x:=by
 cases x with
 | own m len=>simp only [Dd]; rw [h m (by simp [AV.clean])]
 | csl m off k len=>simp only [Dd]; rw [h m (by simp [AV.clean])]
 | _=>rfl
theorem Ali (h:Hj op=true) (ho:∀ x ∈ op.operands.toList,∀ m,(ρ x).clean m=false→os' m=os m):eff P d op ρ os'=eff P d op ρ os:=by
 unfold Hj at h
 split at h
 ·rename_i az ts
  have hm:∀ x ∈ az.toList,∀ m,(ρ x).clean m=false→os' m=os m:=fun x hx=>ho x (by simp [Op.operands,Call.operands]; simpa using hx)
  simp only [eff]
  cases hts:ts.toList with
  | nil=>rfl
  | cons t r=>cases r with
   | nil=>rfl
   | cons t' r=>cases r with
    | cons _ _=>rfl
    | nil=>cases hargs:az.toList with
     | nil=>rfl
     | cons x l=>cases l with
      | nil=>rfl
      | cons y l=>cases l with
       | cons _ _=>rfl
       | nil=>
        rw [hargs] at hm
        have h1:=hm x (by simp)
        have h2:=Aic (hm y (by simp))
        simp only [h2]
        by_cases hz:∃ n len,ρ x=.own n len
        ·obtain ⟨n,len,e⟩:=hz
         rw [e] at h1 ⊢
         have h3:=h1 n (by simp [AV.clean])
         simp only [h3]
        ·split
         ·split
          ·split
           ·split
            ·rename_i e; simp only []
            ·rename_i n len e; exact absurd ⟨n,len,e⟩ hz
            ·rfl
           ·rfl
          ·rfl
         ·rfl
 ·cases h
def Ado (r:RB) (s:St) (i:Oper):Prop:=∀ d,i.dst=some d→s.o (r.b+d)=none
def Tb (r:RB) (o:Oper) (s s1:St):Prop:=∀ m,s.o m=none→(∀ d,o.dst=some d→m≠r.b+d)→s1.o m=none
def Ju (v:List Nat) (o:Oper):Bool:=o.guard.isNone&&!isM o.op&&!isV v o.op&&!Ct o.op&&!Ds o.op&&(qop o.op||Hj o.op||Mz o.op)
theorem Pa {v:List Nat} {o:Oper} (h:Ju v o=true):o.guard=none∧isM o.op=false∧isV v o.op=false∧Ct o.op=false∧Ds o.op=false∧(qop o.op=true∨Hj o.op=true∨Mz o.op=true):=by
 simp only [Ju,Bool.and_eq_true,Bool.or_eq_true,Bool.not_eq_true',Option.isNone_iff_eq_none] at h
 obtain ⟨⟨⟨⟨⟨h1,h2⟩,h3⟩,h4⟩,h5⟩,h6⟩:=h
 exact ⟨h1,h2,h3,h4,h5,h6.elim (fun h=>h.elim .inl fun h=>.inr (.inl h)) fun h=>.inr (.inr h)⟩
theorem Uk {o:Oper} (h:Ju r.v o=true) (hc:s.closed) {e:Eff} {s1:St} (he:eff P (r.b+o.dst.getD 0) o.op (ev s.t) s.o=some e) (hs:e.apply r.b o.dst s=some s1):s1.closed∧Tb r o s s1:=by
 obtain ⟨h1,h2,h3,h4,h5,h6⟩:=Pa h
 rcases h6 with h6 | h6 | h6
 ·have hg:=Nc (P:=P) (d:=r.b+o.dst.getD 0) h6 h4 hc e he
  cases e with
  | pure x=>
   cases hs
   exact ⟨C6 hc hg,fun m hm _=>by cases o.dst <;> exact hm⟩
  | new a x=>
   obtain ⟨d,hd,hn,rfl⟩:=Dh hs
   refine ⟨Dt hc hg.1 (fun m hm=>by have:=hg.2 m hm; rw [hd] at this; exact this),fun m hm hne=>?_⟩
   show upd s.o (r.b+d) _ m=none
   rw [Ao (hne d hd)]; exact hm
  | upd n a=>exact hg.elim
  | app n a x=>exact hg.elim
 ·rcases G7 h6 he with ⟨k,es,len,rfl⟩ | ⟨n,k,es,len,rfl⟩
  ·obtain ⟨d,hd,_,rfl⟩:=Dh hs
   refine ⟨Dt hc (AO.lives_arr _ _ _) (fun m hm=>by rw [hd] at hm; exact Em m hm),fun m hm hne=>?_⟩
   show upd s.o (r.b+d) _ m=none
   rw [Ao (hne d hd)]; exact hm
  ·obtain ⟨d,hd,_,rfl⟩:=Ey hs
   refine ⟨Dt (Fc hc n) (AO.lives_arr _ _ _) (fun m hm=>by rw [hd] at hm; exact Em m hm),fun m hm hne=>?_⟩
   show upd (s.purge n).o (r.b+d) _ m=none
   rw [Ao (hne d hd)]
   by_cases e:m=n
   ·subst e; exact St.purge_o_same ..
   ·rw [St.purge_o_other s e,hm]; rfl
 ·obtain ⟨n,ob,rfl,h5,h7⟩:=G2 h6 hc he
  cases hs
  refine ⟨C6 (G8 hc h5) (AV.lives_undef _),fun m hm _=>?_⟩
  have:((s.setO n ob).put o.dst .undef).o m=upd s.o n (some ob) m:=by cases o.dst <;> rfl
  rw [this,Ao (fun e=>by subst e; rw [hm] at h7; cases h7)]
  exact hm
def Aci:Op→Bool
 | .load ..=>true
 | _=>false
theorem Xh {d:Nat} {op:Op} {ρ:Operand→AV} {os:Nat→Option AO} {e:Eff} (h:Aci op=true) (he:eff P d op ρ os=some e):∃ y,e=.pure y:=by
 cases op <;> first | (simp [Aci] at h; done) | skip
 rename_i t x
 have he:Ec (Ab P t).agg (Ab P t).sz os (ρ x)=some e:=he
 unfold Ec at he
 split at he
 ·cases he
 ·split at he
  ·split at he
   ·obtain ⟨y,_,rfl⟩:=Option.map_eq_some_iff.1 he; exact ⟨y,rfl⟩
   ·cases he
  ·split at he
   ·split at he
    ·obtain ⟨y,_,rfl⟩:=Option.map_eq_some_iff.1 he; exact ⟨y,rfl⟩
    ·cases he
   ·cases he
  ·obtain ⟨y,_,rfl⟩:=Option.map_eq_some_iff.1 he; exact ⟨y,rfl⟩
  ·cases he
theorem Ab2 {j i:Oper} {l:List Oper} {K:St→Prop} (hj:Hj j.op=true) (hjg:j.guard=none) (hi:xop P i.op=true) (hig:i.guard=none) (hap:j.apart all.toArray i=true) (hc:s.closed) (hfr:Aci i.op=false→Ado r s i) (hE:EL P r N all (j :: i :: l) s K):EL P r N all (i :: j :: l) s K:=by
 obtain ⟨f1,f2,f3⟩:=Gh hj
 obtain ⟨q1,q2,q3,q4⟩:=Ary hi
 obtain ⟨a1,a2,a3⟩:=Oper.apart_spec hap
 rw [Bi hjg f1 f2 f3] at hE
 obtain ⟨h1,e,s1,he,hs1,h2⟩:=hE
 rw [Bi hig q2 q3 q4] at h2
 obtain ⟨h3,e2,s2,he2,hs2,h4⟩:=h2
 have hlook:∀ x ∈ i.op.operands.toList,∀ d,j.dst=some d→x≠.tmp d:=fun x hx d hd hxd=>a1 d hd (Cx hx hxd)
 have hlook2:∀ x ∈ j.op.operands.toList,∀ d,i.dst=some d→x≠.tmp d:=fun x hx d hd hxd=>a3 d hd (Cx hx hxd)
 have done:∀ s' e2',eff P (r.b+i.dst.getD 0) i.op (ev s.t) s.o=some e2'→e2'.apply r.b i.dst s=some s'→eff P (r.b+j.dst.getD 0) j.op (ev s'.t) s'.o=some e→e.apply r.b j.dst s'=some s2→EL P r N all (i :: j :: l) s K:=fun s' e2' g1 g2 g3 g4=>by
  rw [Bi hig q2 q3 q4]
  refine ⟨h3,e2',s',g1,g2,?_⟩
  rw [Bi hjg f1 f2 f3]
  exact ⟨h1,e,s2,g3,g4,h4⟩
 have live:∀ x:Operand,∀ m,(ev s.t x).clean m=false→(s.o m).isSome=true:=fun x m hm=>Ld hc x m hm
 rcases G7 hj he with ⟨k,es,len,rfl⟩ | ⟨n,k,es,len,rfl⟩
 ·obtain ⟨d,hd,hn,rfl⟩:=Dh hs1
  have he0:eff P (r.b+i.dst.getD 0) i.op (ev s.t) s.o=some e2:=by
   rw [← he2]
   refine (Ky q1 q2 ⟨fun x hx=>L1 (hlook x hx d hd),fun x hx m hm=>?_⟩).symm
   show upd s.o (r.b+d) _ m=s.o m
   refine Ao fun em=>?_
   have:=live x m hm
   rw [em,hn] at this; cases this
  have hg:=Nc (P:=P) (d:=r.b+i.dst.getD 0) q1 q2 hc e2 he0
  cases e2 with
  | pure y=>
   have hs2:s2=((s.setO (r.b+d) (.arr k es)).put (some d) (.own (r.b+j.dst.getD 0) len)).put i.dst y:=by cases hs2; rfl
   have ho:(s.put i.dst y).o=s.o:=by cases i.dst <;> rfl
   refine done (s.put i.dst y) (.pure y) he0 rfl ?_ ?_
   ·rw [ho,← he]; exact Fy hj fun x hx=>Jm (hlook2 x hx)
   ·rw [hs2,hd]
    have:((s.put i.dst y).o (r.b+d)).isNone=true:=by rw [ho,hn]; rfl
    simp only [Eff.apply,this,if_true,Option.some.injEq]
    cases hid:i.dst with
    | none=>rfl
    | some d2=>
     have hne:d2≠d:=fun e=>a2 d hd (by rw [hid,e])
     simp only [St.put,St.setO,Cq hne]
  | new a x=>
   obtain ⟨d2,hd2,hn2,rfl⟩:=Dh hs2
   have hne:d2≠d:=fun e=>a2 d hd (by rw [hd2,e])
   have hldf:Aci i.op=false:=by
    cases hl:Aci i.op with
    | false=>rfl
    | true=>obtain ⟨y,hy⟩:=Xh hl he0; cases hy
   have hfree:=hfr hldf d2 hd2
   refine done ((s.setO (r.b+d2) a).put (some d2) x) (.new a x) he0 (by rw [hd2]; simp [Eff.apply,hfree]) ?_ ?_
   ·rw [← he]
    have e1:eff P (r.b+j.dst.getD 0) j.op (ev ((s.setO (r.b+d2) a).put (some d2) x).t) ((s.setO (r.b+d2) a).put (some d2) x).o=eff P (r.b+j.dst.getD 0) j.op (ev s.t) ((s.setO (r.b+d2) a).put (some d2) x).o:=Fy hj fun x hx=>L1 (hlook2 x hx d2 hd2)
    rw [e1]
    refine Ali hj fun x hx m hm=>?_
    show upd s.o (r.b+d2) _ m=s.o m
    refine Ao fun em=>?_
    have:=live x m hm
    rw [em,hfree] at this; cases this
   ·rw [hd]
    have:(((s.setO (r.b+d2) a).put (some d2) x).o (r.b+d)).isNone=true:=by
     show (upd s.o (r.b+d2) _ (r.b+d)).isNone=true
     rw [Ao (by omega),hn]; rfl
    simp only [Eff.apply,this,if_true,Option.some.injEq]
    simp only [St.put,St.setO]
    rw [Cq (f:=s.t) hne,Cq (f:=s.o) (show r.b+d2≠r.b+d by omega)]
  | upd n a=>exact hg.elim
  | app n a x=>exact hg.elim
 ·obtain ⟨d,hd,hn,rfl⟩:=Ey hs1
  have hcp:=Fc hc n
  have he0:eff P (r.b+i.dst.getD 0) i.op (ev (s.purge n).t) (s.purge n).o=some e2:=by
   rw [← he2]
   refine (Ky q1 q2 ⟨fun x hx=>L1 (hlook x hx d hd),fun x hx m hm=>?_⟩).symm
   show upd (s.purge n).o (r.b+d) _ m=(s.purge n).o m
   refine Ao fun em=>?_
   have:=Ld hcp x m hm
   rw [em,hn] at this; cases this
  have hg:=Nc (P:=P) (d:=r.b+i.dst.getD 0) q1 q2 hcp e2 he0
  have hgood:∀ y,e2=.pure y→y.clean n=true:=fun y hy=>by
   subst hy
   cases hcl:y.clean n with
   | true=>rfl
   | false=>
    have:=hg n hcl
    rw [St.purge_o_same] at this; cases this
  rcases Ahd hi (fun x _=>Ts x) (fun m hm=>St.purge_o_other s hm) he0 hgood with ⟨y,y',rfl,hy,he'⟩ | ⟨k2,es2,len2,rfl,he'⟩
  ·have hs2:s2=(((s.purge n).setO (r.b+d) (.arr k es)).put (some d) (.own (r.b+j.dst.getD 0) len)).put i.dst y:=by cases hs2; rfl
   have ho:(s.put i.dst y').o=s.o:=by cases i.dst <;> rfl
   refine done (s.put i.dst y') (.pure y') he' rfl ?_ ?_
   ·rw [ho,← he]; exact Fy hj fun x hx=>Jm (hlook2 x hx)
   ·rw [hs2,hd]
    have hp:((s.put i.dst y').purge n).o=(s.purge n).o:=by cases i.dst <;> rfl
    have:(((s.put i.dst y').purge n).o (r.b+d)).isNone=true:=by rw [hp,hn]; rfl
    simp only [Eff.apply,this,if_true,Option.some.injEq]
    cases hid:i.dst with
    | none=>rfl
    | some d2=>
     have hne:d2≠d:=fun e=>a2 d hd (by rw [hid,e])
     simp only [St.put,St.setO]
     congr 1
     show upd (fun i=>(upd s.t d2 y' i).purge n) d _=upd (upd (fun i=>(s.t i).purge n) d _) d2 y
     rw [Cq (Ne.symm hne)]
     congr 1
     funext q
     unfold upd
     by_cases hq:q=d2
     ·subst hq; simp [hy]
     ·simp [hq]
  ·obtain ⟨d2,hd2,hn2,rfl⟩:=Dh hs2
   have hne:d2≠d:=fun e=>a2 d hd (by rw [hd2,e])
   have hldf:Aci i.op=false:=by
    cases hl:Aci i.op with
    | false=>rfl
    | true=>obtain ⟨y,hy⟩:=Xh hl he0; cases hy
   have hfree:=hfr hldf d2 hd2
   have hown:(AV.own (r.b+i.dst.getD 0) len2).purge n=.own (r.b+i.dst.getD 0) len2:=by
    refine if_pos ?_
    obtain ⟨k3,es3,h3⟩:=Adi hj he
    simp only [AV.clean,hd2,Option.getD_some,bne_iff_ne,ne_eq]
    intro em
    rw [← em,hfree] at h3; cases h3
   have hnn:r.b+d2≠n:=fun em=>by
    obtain ⟨k3,es3,h3⟩:=Adi hj he
    rw [← em,hfree] at h3; cases h3
   refine done ((s.setO (r.b+d2) (.arr k2 es2)).put (some d2) (.own (r.b+i.dst.getD 0) len2)) _ he' (by rw [hd2]; simp [Eff.apply,hfree]) ?_ ?_
   ·rw [← he]
    have e1:eff P (r.b+j.dst.getD 0) j.op (ev ((s.setO (r.b+d2) (.arr k2 es2)).put (some d2) (.own (r.b+i.dst.getD 0) len2)).t) ((s.setO (r.b+d2) (.arr k2 es2)).put (some d2) (.own (r.b+i.dst.getD 0) len2)).o=eff P (r.b+j.dst.getD 0) j.op (ev s.t) ((s.setO (r.b+d2) (.arr k2 es2)).put (some d2) (.own (r.b+i.dst.getD 0) len2)).o:=Fy hj fun x hx=>L1 (hlook2 x hx d2 hd2)
    rw [e1]
    refine Ali hj fun x hx m hm=>?_
    show upd s.o (r.b+d2) _ m=s.o m
    refine Ao fun em=>?_
    have:=live x m hm
    rw [em,hfree] at this; cases this
   ·rw [hd]
    have hpo:(((s.setO (r.b+d2) (.arr k2 es2)).put (some d2) (.own (r.b+i.dst.getD 0) len2)).purge n).o=upd (s.purge n).o (r.b+d2) (some (.arr k2 es2)):=by
     funext m
     show (if m=n then none else (upd s.o (r.b+d2) (some (.arr k2 es2)) m).map (AO.purge n))=_
     by_cases em:m=r.b+d2
     ·subst em
      rw [if_neg hnn]
      unfold upd; simp [AO.purge]
     ·rw [Ao em,Ao em]; rfl
    have hpt:(((s.setO (r.b+d2) (.arr k2 es2)).put (some d2) (.own (r.b+i.dst.getD 0) len2)).purge n).t=upd (s.purge n).t d2 (.own (r.b+i.dst.getD 0) len2):=by
     funext q
     show (upd s.t d2 (.own (r.b+i.dst.getD 0) len2) q).purge n=upd (fun i=>(s.t i).purge n) d2 _ q
     unfold upd
     by_cases hq:q=d2
     ·subst hq; simp [hown]
     ·simp [hq]
    have:((((s.setO (r.b+d2) (.arr k2 es2)).put (some d2) (.own (r.b+i.dst.getD 0) len2)).purge n).o (r.b+d)).isNone=true:=by
     rw [hpo,Ao (by omega),hn]; rfl
    simp only [Eff.apply,this,if_true,Option.some.injEq]
    simp only [St.put,St.setO] at hpo hpt ⊢
    rw [hpo,hpt]
    rw [Cq (f:=(s.purge n).t) hne,Cq (f:=(s.purge n).o) (show r.b+d2≠r.b+d by omega)]
end
section
variable {P:Program} {r:RB} {N:Nat} {all:List Oper} {s:St}
theorem Apm {o:Oper} (h:Ju r.v o=true) {l l':List Oper} {K:St→Prop} (hc:s.closed) (hl:∀ s1:St,s1.closed→Tb r o s s1→EL P r N all l s1 K→EL P r N all l' s1 K) (hE:EL P r N all (o :: l) s K):EL P r N all (o :: l') s K:=by
 obtain ⟨h1,h2,h3,h4,h5,h6⟩:=Pa h
 rw [Bi h1 h4 h5 h2] at hE ⊢
 obtain ⟨g1,e,s1,g2,g3,g4⟩:=hE
 obtain ⟨k1,k2⟩:=Uk h hc g2 g3
 exact ⟨g1,e,s1,g2,g3,hl s1 k1 k2 g4⟩
def Ant (P:Program) (ops:List Oper) (oj oi:Oper):Bool:=Hj oj.op&&oj.guard.isNone&&xop P oi.op&&oi.guard.isNone&&oj.apart ops.toArray oi
theorem Aep {D:(Nat→AV)→Prop} {oi:Oper} {post:List Oper} {K:St→Prop} (hK:∀ s':St,K s'→D s'.t):∀ {pre:List Oper} {s:St},s.closed→(xop P oi.op=true→Ado r s oi)→(∀ p1 oj p2,pre=p1++oj :: p2→Ju r.v oj=true∧(∀ d,oi.dst=some d→oj.dst≠some d)∧(Lw P r N all D oj oi (p2++post)∨Ant P all oj oi=true)) →
  EL P r N all (pre++oi :: post) s K→EL P r N all (oi :: (pre++post)) s K
 | [],_,_,_,_,h=>h
 | oj :: pre,s,hc,hf,hp,h=>by
  obtain ⟨hj1,hj2,hj3⟩:=hp [] oj pre rfl
  have h1:=Apm (l':=oi :: (pre++post)) hj1 hc (fun s1 hc1 hn h1=>Aep hK hc1 (fun hx d hd=>hn _ (hf hx d hd) (fun d2 hd2 e=>by
   have e:d=d2:=Nat.add_left_cancel e
   subst e
   exact hj2 d hd hd2)) (fun p1 o2 p2 e=>hp (oj :: p1) o2 p2 (by rw [e]; rfl)) h1) h
  rcases hj3 with hj3 | hj3
  ·exact hj3 s K hc hK h1
  ·simp only [Ant,Bool.and_eq_true,Option.isNone_iff_eq_none] at hj3
   obtain ⟨⟨⟨⟨k1,k2⟩,k3⟩,k4⟩,k5⟩:=hj3
   exact Ab2 k1 k2 k3 k4 k5 hc (fun _=>hf k3) h1
end
section
variable {P:Program} {r:RB} {N:Nat} {ops:List Oper}
theorem Aky {o:Oper} {l:List Oper} {s:St} {K:St→Prop} {i:Nat} {B:Nat} {S:Nat→Prop} {θ:Nat→Loc} {M:Nat→Prop} {w:World} {a:Act} {Q:Exit→Act→World→Prop}
  (hp:Ju r.v o=true) (hi:ops[i]?=some o) (hs:Av N B S θ M w s a) (h:EL P r N ops (o :: l) s K) :
  wpOpIn (Wd r.rd) 0 P ops.toArray Q i (fun a' w'=>∃ s1,(EL P r N ops l s1 K∧Tb r o s s1)∧Fin r N B S θ M w a s1 a' w') a w:=by
 obtain ⟨h1,h2,h3,h4,h5,h6⟩:=Pa hp
 rw [Bi h1 h4 h5 h2] at h
 obtain ⟨g1,e,s1,g2,g3,g4⟩:=h
 obtain ⟨_,k2⟩:=Uk hp hs.cl g2 g3
 have hi':ops.toArray[i]?=some o:=by simpa using hi
 unfold wpOpIn
 simp only [hi']
 have hw:Region.wanted o (yielded ops.toArray a.tmps)=true:=by unfold Region.wanted; rw [h1]
 rw [if_pos hw]
 have hEO:EO P r N o s (fun s'=>EL P r N ops l s' K∧Tb r o s s'):=by
  unfold EO
  rw [h2,h3,h4,h5]
  simp only [Bool.false_eq_true,if_false,true_and]
  refine ⟨g1,?_⟩
  unfold EA
  simp only [g2,g3]
  exact ⟨g4,k2⟩
 exact Jb hEO B S θ M w a Q hs
theorem Ahb {D:(Nat→AV)→Prop} {b:Nat→Nat} (hb:Wp ops b) (hpl:∀ (i:Nat) (o:Oper),ops[i]?=some o→Ju r.v o=true)
  (hdist:∀ (i j:Nat) (oi oj:Oper),i≠j→ops[i]?=some oi→ops[j]?=some oj→∀ d,oi.dst=some d→oj.dst≠some d)
  (hsw:∀ (i j:Nat) (oi oj:Oper) (rest:List Nat),j < i→ops[i]?=some oi→ops[j]?=some oj→(b i).testBit j=false→(∀ k ∈ rest,j < k∧k≠i∧(k < i→(b i).testBit k=false))→Lw P r N ops D oj oi (rest.filterMap (ops[·]?))∨Ant P ops oj oi=true)
  {K:St→Prop} (hK:∀ s':St,K s'→D s'.t) {Q:Exit→Act→World→Prop} :
  ∀ (fuel:Nat) (listed:Array Bool) (s:St) (B:Nat) (S:Nat→Prop) (θ:Nat→Loc) (M:Nat→Prop) (w:World) (a:Act),Av N B S θ M w s a→listed.size=ops.length→Tc ops listed→(∀ i ∈ Di ops.length listed,∀ o,ops[i]?=some o→xop P o.op=true→Ado r s o)→(Di ops.length listed).length≤fuel →
   EL P r N ops ((Di ops.length listed).filterMap (ops[·]?)) s K→(∀ s' a' w',K s'→Fin r N B S θ M w a s' a' w'→Q .normal a' w')→wpAnyIn (Wd r.rd) 0 P .any ops.toArray Q fuel listed a w:=by
 intro fuel
 have hready:∀ {listed:Array Bool} {x:Nat},x ∈ Region.ready .any ops.toArray listed→x ∈ Di ops.length listed:=fun h=>((Fb rfl).1 h).1
 induction fuel with
 | zero=>
  intro listed s B S θ M w a hs hsz hcl hfr hf hE hQ
  have hnil:Di ops.length listed=[]:=List.length_eq_zero_iff.1 (by omega)
  refine ⟨List.eq_nil_iff_forall_not_mem.2 fun x hx=>?_,?_⟩
  ·have:=hready hx
   rw [hnil] at this; cases this
  ·rw [hnil] at hE
   exact hQ s a w hE ⟨Ln.refl hs,rfl⟩
 | succ fuel ih=>
  intro listed s B S θ M w a hs hsz hcl hfr hf hE hQ
  refine ⟨fun hr=>?_,fun i hi=>?_⟩
  ·have hnil:Di ops.length listed=[]:=by
    cases hrem:Di ops.length listed with
    | nil=>rfl
    | cons x l=>
     exfalso
     have hx:x ∈ Di ops.length listed:=by rw [hrem]; simp
     have hsort:(Di ops.length listed).Pairwise (· < ·):=(List.pairwise_lt_range).filter _
     rw [hrem,List.pairwise_cons] at hsort
     obtain ⟨hxn,hxl⟩:=Fp.1 hx
     have:x ∈ Region.ready .any ops.toArray listed:=(Fb rfl).2 ⟨hx,ops[x],by simp [hxn],fun e he hbe=>by
      have hlt:=hb.lt x ops[x] (by simp [hxn]) e he hbe
      cases hl:listed.getD e.on false with
      | true=>rfl
      | false=>
       exfalso
       have hen:e.on < ops.length:=Nat.lt_trans hlt hxn
       have:e.on ∈ Di ops.length listed:=Fp.2 ⟨hen,by
        rw [Array.getD_eq_getD_getElem?] at hl ⊢
        have hsz':e.on < listed.size:=by omega
        simp only [Array.getElem?_eq_getElem hsz',Option.getD_some] at hl ⊢
        exact hl⟩
       rw [hrem] at this
       rcases List.mem_cons.1 this with h | h
       ·omega
       ·have:=hsort.1 _ h; omega⟩
     rw [hr] at this; cases this
   rw [hnil] at hE
   exact hQ s a w hE ⟨Ln.refl hs,rfl⟩
  ·obtain ⟨hrem,o,ho,hafter⟩:=(Fb rfl).1 hi
   obtain ⟨pre,post,he,hpre,hset⟩:=N8 hsz hrem
   have hsort:(pre++i :: post).Pairwise (· < ·):=by rw [← he]; exact (List.pairwise_lt_range).filter _
   have hnl:∀ k ∈ pre++i :: post,listed.getD k true=false:=fun k hk=>(Fp.1 (show k ∈ Di ops.length listed by rw [he]; exact hk)).2
   have hne:∀ k ∈ pre++post,k≠i:=fun k hk e=>by
    subst e
    have h4:=List.pairwise_append.1 hsort
    rcases List.mem_append.1 hk with h | h
    ·have:=h4.2.2 k h k (by simp); omega
    ·have:=(List.pairwise_cons.1 h4.2.1).1 k h; omega
   have hfree:∀ k ∈ pre++post,k < i→(b i).testBit k=false:=fun k hk hki=>by
    cases ht:(b i).testBit k with
    | false=>rfl
    | true=>
     have h1:=Lu hb hcl i o ho hafter hki ht
     have h2:=hnl k (by
      rcases List.mem_append.1 hk with h | h
      ·simp [h]
      ·simp [h])
     rw [Xy h2] at h1; cases h1
   rw [he,List.filterMap_append,List.filterMap_cons] at hE
   simp only [ho] at hE
   have hE':=Aep hK hs.cl (fun hx=>hfr i hrem o ho hx) (fun p1 oj p2 hp=>by
    obtain ⟨l1,j,l2,e1,e2,e3⟩:=Fr hp
    have hjp:j ∈ pre:=by rw [e1]; simp
    refine ⟨hpl j oj e2,hdist i j o oj (by have:=hpre j hjp; omega) ho e2,?_⟩
    have:=hsw i j o oj (l2++post) (hpre j hjp) ho e2 (hfree j (by simp [hjp]) (hpre j hjp)) (fun k hk=>by
     rw [e1,List.append_assoc,List.pairwise_append] at hsort
     have h3:=(List.pairwise_cons.1 hsort.2.1).1
     have hk':k ∈ l2++i :: post:=by
      rcases List.mem_append.1 hk with h | h
      ·simp [h]
      ·simp [h]
     refine ⟨h3 k hk',hne k (by
      rcases List.mem_append.1 hk with h | h
      ·rw [e1]; simp [h]
      ·simp [h]),hfree k (by
      rcases List.mem_append.1 hk with h | h
      ·rw [e1]; simp [h]
      ·simp [h])⟩)
    rw [List.filterMap_append,e3] at this
    exact this) hE
   refine wpOpIn_mono ?_ (Aky (hpl i o ho) ho hs hE')
   rintro a' w' ⟨s1,⟨hE1,hN1⟩,hF⟩
   obtain ⟨θ',M',hs',hcomp⟩:=hF.comp
   refine ih _ s1 B S θ' M' w' a' hs' (by simpa using hsz) ?_ ?_ ?_ ?_ (fun s' a'' w'' hK hF'=>hQ s' a'' w'' hK (hcomp _ _ _ hF'))
   ·intro k ok hk hl e hek hbe
    have hmono:∀ m,listed.getD m false=true→(listed.setIfInBounds i true).getD m false=true:=fun m hm=>by
     rw [Array.getD_eq_getD_getElem?] at hm ⊢
     rw [Array.getElem?_setIfInBounds]
     split
     ·split <;> simp_all
     ·exact hm
    by_cases hki:k=i
    ·subst hki
     rw [ho] at hk; cases hk
     exact hmono _ (hafter e hek hbe)
    ·have:listed.getD k false=true:=by
      rw [Array.getD_eq_getD_getElem?] at hl ⊢
      rw [Array.getElem?_setIfInBounds,if_neg (Ne.symm hki)] at hl
      exact hl
     exact hmono _ (hcl k ok hk this e hek hbe)
   ·intro k hk ok hok hx d hd
    rw [hset] at hk
    have hki:=hne k hk
    refine hN1 _ (hfr k (by rw [he]; rcases List.mem_append.1 hk with h | h <;> simp [h]) ok hok hx d hd) fun d2 hd2 e=>?_
    have e:d=d2:=Nat.add_left_cancel e
    subst e
    exact hdist k i ok o hki hok ho d hd hd2
   ·rw [hset]
    rw [he] at hf
    simp only [List.length_append,List.length_cons] at hf ⊢
    omega
   ·rw [hset,List.filterMap_append]
    exact hE1
def Akz (P:Program) (v q:List Nat) (ops tl:List Oper) (m:Nat) (i j:Nat) (oi oj:Oper):Option (List Cf):=match Abg P v q ops tl m i j oi oj with
 | some c=>some c
 | none=>if Ant P ops oj oi=true then some [] else none
def Awt (P:Program) (v q:List Nat) (ops tl:List Oper) (m i:Nat) (oi:Oper):List (Oper × Nat)→Option (List Cf)
 | []=>some []
 | (oj,j) :: r=>if m.testBit j=true then Awt P v q ops tl m i oi r else
  match Akz P v q ops tl m i j oi oj,Awt P v q ops tl m i oi r with
  | some a,some b=>some (a++b)
  | _,_=>none
def Y1:List Oper→Bool
 | []=>true
 | o :: l=>(l.all fun p=>match o.dst,p.dst with
  | some a,some b=>a != b
  | _,_=>true)&&Y1 l
theorem Sm:∀ {ops:List Oper},Y1 ops=true→∀ (i j:Nat) (oi oj:Oper),i≠j→ops[i]?=some oi→ops[j]?=some oj→∀ d,oi.dst=some d→oj.dst≠some d
 | [],_,i,_,_,_,_,hi,_,_,_=>by simp at hi
 | o :: l,h,i,j,oi,oj,hij,hi,hj,d,hd=>by
  simp only [Y1,Bool.and_eq_true] at h
  obtain ⟨h1,h2⟩:=h
  rw [List.all_eq_true] at h1
  have key:∀ p ∈ l,∀ d,o.dst=some d→p.dst≠some d:=fun p hp d hd hp2=>by
   have:=h1 p hp
   rw [hd,hp2] at this
   simp at this
  cases i with
  | zero=>cases j with
   | zero=>exact absurd rfl hij
   | succ j=>
    simp at hi; subst hi
    simp only [List.getElem?_cons_succ] at hj
    exact key oj (List.mem_of_getElem? hj) d hd
  | succ i=>cases j with
   | zero=>
    simp at hj; subst hj
    simp only [List.getElem?_cons_succ] at hi
    exact fun h3=>key oi (List.mem_of_getElem? hi) d h3 hd
   | succ j=>
    simp only [List.getElem?_cons_succ] at hi hj
    exact Sm h2 i j oi oj (by omega) hi hj d hd
def Ao2 (P:Program) (r:RB) (s:St) (ops:List Oper):Prop:=∀ o ∈ ops,xop P o.op=true→Ado r s o
def R4 (P:Program):List Oper→List Nat
 | []=>[]
 | o :: l=>if xop P o.op=true then (match o.dst with | some d=>d :: R4 P l | none=>R4 P l) else R4 P l
theorem Xo {s:St}:∀ {ops:List Oper},(∀ d ∈ R4 P ops,s.o (r.b+d)=none)→Ao2 P r s ops
 | [],_,o,ho,_,_,_=>by cases ho
 | p :: l,h,o,ho,hx,d,hd=>by
  rcases List.mem_cons.1 ho with rfl | ho
  ·refine h d ?_
   simp only [R4,hx,if_true,hd]; simp
  ·refine Xo (ops:=l) (fun d hd=>h d ?_) o ho hx d hd
   simp only [R4]
   split
   ·split
    ·exact List.mem_cons_of_mem _ hd
    ·exact hd
   ·exact hd
def Ah5 (os:Nat→Option AO) (b:Nat):List Nat→Prop
 | []=>True
 | d :: l=>os (b+d)=none∧Ah5 os b l
theorem Xe {os:Nat→Option AO} {b:Nat}:∀ {l:List Nat},Ah5 os b l→∀ d ∈ l,os (b+d)=none
 | [],_,d,hd=>by cases hd
 | x :: l,h,d,hd=>by
  rcases List.mem_cons.1 hd with rfl | hd
  ·exact h.1
  ·exact Xe h.2 d hd
end
end AM
end
/- Ranges over functions that yield values; searches of the beginning of an array. -/
section
namespace AM
open Go AM AM.Duty
open Nat renaming reduceLT→sA,reduceAdd→sB,reduceMul→sC,reduceSub→sD,reduceLeDiff→sE,reduceEqDiff→sF,reduceBEq→sG
open Int renaming reduceAdd→sH,reduceSub→sI,reduceMul→sJ,reduceLT→sK,reduceLE→sL,reduceNeg→sM,reduceToNat→sN,reduceEq→sO
set_option maxHeartbeats 4000000
abbrev Agr (k:D3) (j:Option Code):D3:={ k with state:=if j.isNone then .ready else .done,pending:=j }
structure Ay5 (P:Program) (fv:AV) (F:Nat→Prop) {σ α:Type} (arg:α→AV) (l:List α) (go:σ→Prop) (I:σ→(Nat→Option AO)→Prop) (step:σ→α→σ × Bool):Prop where
 live:∀ s os,I s os→fv.lives os
 stable:∀ s os os',I s os→(∀ n,F n→os' n=os n)→I s os'
 foot:∀ s os n,I s os→F n→∃ o,os n=some o∧∀ m,o.clean m=false→F m
 next:∀ s x,x ∈ l→go s→(step s x).2=true→go (step s x).1
 call:∀ s x os bd,x ∈ l→go s→I s os→(Hp os).closed→Bm P bd fv [arg x] os fun res os'=>res=bl (step s x).2∧I (step s x).1 os'∧∀ n,¬ F n→os' n=os n
structure Ay6 (P:Program) (bdL:Nat) (k:D3) (tm:List (Nat × AV)) (v q:List Nat) (F:Nat→Prop) {σ α:Type} (arg:α→AV) (l:List α) (I:σ→(Nat→Option AO)→Prop) (bst:σ→α→σ × Option Code):Prop where
 ready:k=Agr k none
 lenp:k.ps.length=1
 psn:∀ p ∈ k.ps,p < k.n
 notF:¬ F bdL
 tmF:∀ m,(AO.loop k tm).clean m=false→F m
 stable:∀ s os os',I s os→(∀ n,F n→os' n=os n)→I s os'
 foot:∀ s os n,I s os→F n→∃ o,os n=some o∧∀ m,o.clean m=false→F m
 body:∀ s x os bd,x ∈ l→I s os→os bdL=some (.loop k tm)→(Hp os).closed→(∀ n,bd≤n→os n=none)→bdL < bd →
  ∀ rl,AWP P ⟨⟨some rl,fun _=>False⟩,bd,v,q⟩ k.n k.assign ⟨Pt k.ps [arg x] (T tm),os⟩ (H7 (fun s1=>s1.o bdL=some (.loop k tm)∧AWP P ⟨⟨some rl,fun _=>False⟩,bd,v,q⟩ k.n k.body ⟨s1.t,upd s1.o bdL (some (.loop { k with state:=.busy } tm))⟩
   (Rl bdL k tm fun res os'=>res=bl (bst s x).2.isNone∧(I (bst s x).1 os'∧os' bdL=some (.loop (Agr k (bst s x).2) tm))∧∀ n,¬ (F n∨n=bdL)→os' n=os n)) (fun _ _=>False))
def pgO (n:Nat) (os:Nat→Option AO):Nat→Option AO:=fun m=>if m=n then none else (os m).map (AO.purge n)
theorem Km {n:Nat} {l:List (Nat × AV)} {os:Nat→Option AO}:St.purge n ⟨T l,os⟩=⟨T (Ter n l),pgO n os⟩:=by
 rw [← Adl]; rfl
theorem Ql {n m:Nat} {os:Nat→Option AO} {o:AO} (h:m≠n):pgO n (upd os m (some o))=upd (pgO n os) m (some (o.purge n)):=by
 funext k
 by_cases e:k=m
 ·subst e; rw [Ak]; unfold pgO; rw [if_neg h,Ak]; rfl
 ·rw [Ad e]; unfold pgO; rw [Ad e]
theorem M6 {n:Nat} {os:Nat→Option AO} {x:Option AO}:pgO n (upd os n x)=pgO n os:=by
 funext k
 unfold pgO
 by_cases e:k=n
 ·rw [if_pos e,if_pos e]
 ·rw [if_neg e,if_neg e,Ad e]
theorem Ahx {n:Nat} {os:Nat→Option AO} (hcl:(Hp os).closed) (hn:os n=none):pgO n os=os:=by
 funext m
 unfold pgO
 by_cases e:m=n
 ·subst e; rw [if_pos rfl,hn]
 ·rw [if_neg e]
  cases ho:os m with
  | none=>rfl
  | some o=>
   have hc:o.clean n=true:=by
    cases hc:o.clean n with
    | true=>rfl
    | false=>
     have:(os n).isSome=true:=hcl.2 m o ho n hc
     rw [hn] at this; cases this
   cases o with
   | cells cs=>show some (AO.cells (cs.map _))=_; rw [Pg hc]
   | arr k es=>rfl
   | obj X=>rfl
   | it m X=>
    have hmn:m≠n:=by simpa [AO.clean] using hc
    show some (if m=n then _ else _)=_
    rw [if_neg hmn]
   | loop k tm=>
    show some (AO.loop k (tm.map fun p=>(p.1,p.2.purge n)))=_
    congr 2
    have hc:AV.clean.cleanL n (tm.map (·.2))=true:=hc
    clear ho
    induction tm with
    | nil=>rfl
    | cons p tm ih=>
     have h':p.2.clean n=true∧AV.clean.cleanL n (tm.map (·.2))=true:=by simpa [AV.clean.cleanL] using hc
     rw [List.map_cons,ih h'.2 h'.2]
     congr 1
     unfold AV.purge
     rw [if_pos h'.1]
structure Ad9 (P:Program) (fv:AV) (F:Nat→Prop) {σ α:Type} (args:α→List AV) (l:List α) (go:σ→Prop) (I:σ→(Nat→Option AO)→Prop) (step:σ→α→σ × Bool):Prop where
 live:∀ s os,I s os→fv.lives os
 stable:∀ s os os',I s os→(∀ n,F n→os' n=os n)→I s os'
 foot:∀ s os n,I s os→F n→∃ o,os n=some o∧∀ m,o.clean m=false→F m
 next:∀ s x,x ∈ l→go s→(step s x).2=true→go (step s x).1
 call:∀ s x os bd,x ∈ l→go s→I s os→(Hp os).closed→Bm P bd fv (args x) os fun res os'=>res=bl (step s x).2∧I (step s x).1 os'∧∀ n,¬ F n→os' n=os n
structure Y3 (P:Program) (bdL:Nat) (k:D3) (tm:List (Nat × AV)) (v q:List Nat) (F:Nat→Prop) {σ α:Type} (args:α→List AV) (l:List α) (I:σ→(Nat→Option AO)→Prop) (bst:σ→α→σ × Option Code):Prop where
 ready:k=Agr k none
 lenp:∀ x,(args x).length=k.ps.length
 psn:∀ p ∈ k.ps,p < k.n
 notF:¬ F bdL
 tmF:∀ m,(AO.loop k tm).clean m=false→F m
 stable:∀ s os os',I s os→(∀ n,F n→os' n=os n)→I s os'
 foot:∀ s os n,I s os→F n→∃ o,os n=some o∧∀ m,o.clean m=false→F m
 body:∀ s x os bd,x ∈ l→I s os→os bdL=some (.loop k tm)→(Hp os).closed→(∀ n,bd≤n→os n=none)→bdL < bd →
  ∀ rl,AWP P ⟨⟨some rl,fun _=>False⟩,bd,v,q⟩ k.n k.assign ⟨Pt k.ps (args x) (T tm),os⟩ (H7 (fun s1=>s1.o bdL=some (.loop k tm)∧AWP P ⟨⟨some rl,fun _=>False⟩,bd,v,q⟩ k.n k.body ⟨s1.t,upd s1.o bdL (some (.loop { k with state:=.busy } tm))⟩
   (Rl bdL k tm fun res os'=>res=bl (bst s x).2.isNone∧(I (bst s x).1 os'∧os' bdL=some (.loop (Agr k (bst s x).2) tm))∧∀ n,¬ (F n∨n=bdL)→os' n=os n)) (fun _ _=>False))
theorem Y3.yields {P:Program} {bdL:Nat} {k:D3} {tm:List (Nat × AV)} {v q:List Nat} {F:Nat→Prop} {σ α:Type} {args:α→List AV} {l:List α} {I:σ→(Nat→Option AO)→Prop} {bst:σ→α→σ × Option Code} (h:Y3 P bdL k tm v q F args l I bst) :
  Ad9 P (.yld bdL) (fun n=>F n∨n=bdL) args l (fun (s:σ × Option Code)=>s.2=none) (fun s os=>I s.1 os∧os bdL=some (.loop (Agr k s.2) tm)) (fun s x=>(bst s.1 x,(bst s.1 x).2.isNone)) where
 live s os hI:=by rw [Ll,hI.2]; rfl
 stable s os os' hI he:=⟨h.stable s.1 os os' hI.1 (fun n hn=>he n (.inl hn)),(he bdL (.inr rfl)).trans hI.2⟩
 foot s os n hI hn:=by
  rcases hn with hn | rfl
  ·obtain ⟨o,h1,h2⟩:=h.foot s.1 os n hI.1 hn
   exact ⟨o,h1,fun m hm=>.inl (h2 m hm)⟩
  ·exact ⟨_,hI.2,fun m hm=>.inl (h.tmF m hm)⟩
 next s x hx hg hs:=Option.isNone_iff_eq_none.1 hs
 call s x os bd hx hg hI hcl0:=by
  have hloop:os bdL=some (.loop k tm):=by
   have:=hI.2
   rw [hg,← h.ready] at this
   exact this
  intro hfree
  have hb:=Al hfree hloop
  refine R5 (fun hm=>hm) (k:=k) (tm:=tm) (v:=v) (q:=q) hloop (by rw [h.ready]; rfl) (h.lenp x) h.psn (fun hcl _ rl=>?_) hfree
  exact h.body s.1 x os bd hx hI.1 hloop hcl hfree hb rl
end AM
end
/- The abstract machine, part 50: maps that are read in a region that draws its order. -/
section
namespace AM
open Go
section
variable {P:Program} {r:RB} {N:Nat} {all:List Oper} {nb:Nat}
def lkp:Op→Bool
 | .lookup _ _ _ true=>true
 | _=>false
def LS (P:Program) (s:St) (A B:AV):Op→Prop
 | .lookup t x i true=>LV P t (ev s.t x) (ev s.t i) s.o A B
 | _=>False
theorem As5 {op:Op} (h:lkp op=true):isM op=true:=by
 cases op <;> first | (simp [lkp] at h; done) | skip
 rename_i t x i c
 cases c
 ·simp [lkp] at h
 ·rfl
theorem X3 {o:Oper} {rest:List Oper} {s:St} {K:St→Prop} (hl:lkp o.op=true) (hg:o.guard=none):EL P r N all (o :: rest) s K↔Cm N o.dst=true∧∃ A B,LS P s A B o.op∧EL P r N all rest (s.put o.dst A) K∧EL P r N all rest (s.put o.dst B) K:=by
 obtain ⟨dst,op,ty,pos,after,g⟩:=o
 dsimp only at hl hg
 subst hg
 simp only [EL,EO,As5 hl,if_true]
 cases op <;> first | (simp [lkp] at hl; done) | skip
 rename_i t x i c
 cases c
 ·simp [lkp] at hl
 ·simp only [EM,LS]
theorem Hu {x:AV} {b:Bool} {os:Nat→Option AO} (h:x.lives os):(AV.tup [x,.p (.val (.bool b))]).lives os:=AV.lives_tup.2 fun i y hx=>by
 match i,hx with
 | 0,hx=>cases hx; exact h
 | 1,hx=>cases hx; exact AV.lives_p _ _
theorem Qr {s:St} {A B:AV} {op:Op} {os:Nat→Option AO} (h:LS P s A B op):A.lives os∧B.lives os:=by
 unfold LS at h
 split at h
 ·obtain ⟨k,e,m,n,z,cs,ks,h1,h2,f1,h3,h4,h6,h7,h8,h9,hc⟩:=h
  rcases hc with ⟨g,f2,h5,rfl,rfl⟩ | ⟨kv,h5,rfl,⟨v,c1,c2,rfl⟩ | ⟨c1,rfl⟩⟩
  ·exact ⟨Hu (E0 f2),Hu (E0 f1)⟩
  ·exact ⟨Hu (E0 c2),Hu (E0 c2)⟩
  ·exact ⟨Hu (E0 f1),Hu (E0 f1)⟩
 ·exact h.elim
theorem Ahs {s s':St} {A B:AV} {op:Op} (ht:∀ x ∈ op.operands.toList,ev s'.t x=ev s.t x) (ho:∀ n,(s.o n).isSome=true→s'.o n=s.o n) (h:LS P s A B op):LS P s' A B op:=by
 unfold LS at h ⊢
 split at h
 ·obtain ⟨k,e,m,n,z,cs,ks,h1,h2,f1,h3,h4,h6,h7,h8,h9,hc⟩:=h
  refine ⟨k,e,m,n,z,cs,ks,h1,h2,f1,h3,(ht _ (by simp [Op.operands])).trans h4,(ht _ (by simp [Op.operands])).trans h6,h7,h8,h9,?_⟩
  rcases hc with ⟨g,f2,h5,e1,e2⟩ | ⟨kv,h5,hc⟩
  ·exact .inl ⟨g,f2,(ho m (by rw [h5]; rfl)).trans h5,e1,e2⟩
  ·exact .inr ⟨kv,(ho m (by rw [h5]; rfl)).trans h5,hc⟩
 ·exact h.elim
theorem Abl {o:Oper} (hl:lkp o.op=true) (hg:o.guard=none):Jn P r N all o:=by
 intro l l' s K hc h hE
 rw [X3 hl hg] at hE ⊢
 obtain ⟨h0,A,B,h1,h2,h3⟩:=hE
 exact ⟨h0,A,B,h1,h _ (C6 hc (Qr h1).1) h2,h _ (C6 hc (Qr h1).2) h3⟩
theorem Apk {o:Oper} {s:St} {x x':AV} {ob ob':Option AO} (hc:Ct o.op=false) (h:QS P nb o s x ob) (h':QS P nb o s x' ob'):x=x'∧ob=ob':=by
 unfold QS at h h'
 rw [hc] at h h'
 simp only [Bool.false_eq_true,if_false] at h h'
 rcases h with ⟨e1,rfl⟩ | ⟨a,d,e1,rfl,_,_⟩ <;> rcases h' with ⟨e2,rfl⟩ | ⟨a',d',e2,rfl,_,_⟩ <;> rw [e1] at e2 <;> cases e2 <;> exact ⟨rfl,rfl⟩
theorem Acn {j i:Oper} (hl:lkp j.op=true) (hg:j.guard=none) (hi:qop i.op=true) (hic:Ct i.op=false) (hiv:isV r.v i.op=false) (hig:i.guard=none) (hap:j.apart all.toArray i=true):G5 P r N all j i:=by
 intro l s K hc hE
 rw [X3 hl hg] at hE
 obtain ⟨h0,A,B,hLS,hA,hB⟩:=hE
 rw [E1 hi hiv (C6 hc (Qr hLS).1)] at hA
 rw [E1 hi hiv (C6 hc (Qr hLS).2)] at hB
 obtain ⟨h1,x1,ob1,g1,k1⟩:=hA
 obtain ⟨_,x2,ob2,g2,k2⟩:=hB
 obtain ⟨a1,a2,a3⟩:=Oper.apart_spec hap
 have ho:∀ X,(s.put j.dst X).o=s.o:=fun X=>by cases j.dst <;> rfl
 have htt:∀ X t,t ∈ i.looksAt all.toArray→(s.put j.dst X).t t=s.t t:=fun X t ht=>by
  have:=Hq (nb:=r.b) (dst:=j.dst) (x:=X) (ob:=none) (s:=s) (i:=t) (fun e=>a1 t e ht)
  exact this
 have near:∀ X,Amk r.b all i (s.put j.dst X) s:=fun X=>⟨fun t ht=>(htt X t ht).symm,fun t ht n hn=>by rw [ho],fun d hd h=>by rw [ho] at h; exact h⟩
 have q1:=My hi (near A) g1
 have q2:=My hi (near B) g2
 have hgs:∀ x ob,GS P r.b all i s x ob→QS P r.b i s x ob:=fun x ob h=>by unfold GS at h; rw [hig] at h; exact h
 obtain ⟨e1,e2⟩:=Apk hic (hgs _ _ q1) (hgs _ _ q2)
 subst e1; subst e2
 rw [E1 hi hiv hc]
 refine ⟨h1,x1,ob1,q1,?_⟩
 rw [X3 hl hg]
 have hnew:∀ n,(s.o n).isSome=true→(C3 r.b i.dst x1 ob1 s).o n=s.o n:=fun n hn=>Nr (by
  cases ob1 with
  | none=>exact .inr rfl
  | some a=>
   obtain ⟨d,hd,hnone⟩:=Yo q1
   refine .inl fun e he en=>?_
   rw [hd] at he; cases he; subst en; rw [hnone] at hn; cases hn)
 refine ⟨h0,A,B,Ahs (fun x hx=>?_) hnew hLS,?_,?_⟩
 ·cases x with
  | tmp k=>exact Hq fun e=>a3 k e (Cx hx rfl)
  | _=>rfl
 ·have:=Pp (nb:=r.b) (d1:=i.dst) (d2:=j.dst) (x1:=x1) (x2:=A) (ob1:=ob1) (ob2:=none) (s:=s) (fun d hd e=>a2 d e hd)
  rw [show (C3 r.b i.dst x1 ob1 s).put j.dst A=C3 r.b j.dst A none (C3 r.b i.dst x1 ob1 s) from rfl,← this]
  exact k1
 ·have:=Pp (nb:=r.b) (d1:=i.dst) (d2:=j.dst) (x1:=x1) (x2:=B) (ob1:=ob1) (ob2:=none) (s:=s) (fun d hd e=>a2 d e hd)
  rw [show (C3 r.b i.dst x1 ob1 s).put j.dst B=C3 r.b j.dst B none (C3 r.b i.dst x1 ob1 s) from rfl,← this]
  exact k2
def xtr:Op→Bool
 | .extract ..=>true
 | _=>false
theorem Aj4 {op:Op} (h:xtr op=true):qop op=true∧Ct op=false∧Ds op=false∧isM op=false:=by
 cases op <;> first | (simp [xtr] at h; done) | exact ⟨rfl,rfl,rfl,rfl⟩
theorem Al1 {d d':Nat} {op:Op} {ρ:Operand→AV} {os os':Nat→Option AO} (h:xtr op=true):eff P d op ρ os=eff P d' op ρ os':=by
 cases op <;> first | (simp [xtr] at h; done) | rfl
theorem Alo {d:Nat} {op:Op} {ρ:Operand→AV} {os:Nat→Option AO} (h:xtr op=true) {e:Eff} (he:eff P d op ρ os=some e):∃ y,e=.pure y:=by
 cases op <;> simp only [xtr,Bool.false_eq_true] at h
 simp only [eff] at he
 split at he
 ·obtain ⟨v,_,rfl⟩:=Option.map_eq_some_iff.1 he; exact ⟨_,rfl⟩
 ·cases he
theorem V0 {j i:Oper} (hj:xtr j.op=true) (hjg:j.guard=none) (hi:Mz i.op=true) (hig:i.guard=none) (hid:i.dst=none) (hap:j.apart all.toArray i=true):G5 P r N all j i:=by
 intro l s K hc hE
 obtain ⟨f1,f2,f3⟩:=Hw hi
 obtain ⟨q1,q2,q3,q4⟩:=Aj4 hj
 obtain ⟨a1,a2,a3⟩:=Oper.apart_spec hap
 rw [Bi hjg q2 q3 q4] at hE
 obtain ⟨h1,e,s1,he,hs1,h2⟩:=hE
 obtain ⟨y,rfl⟩:=Alo hj he
 cases hs1
 rw [Bi hig f1 f2 f3] at h2
 obtain ⟨h3,e2,s2,he2,hs2,h4⟩:=h2
 have ho:(s.put j.dst y).o=s.o:=by cases j.dst <;> rfl
 have he2':eff P (r.b+i.dst.getD 0) i.op (ev s.t) s.o=some e2:=by
  rw [← he2,ho]
  exact (Ns hi fun x hx=>Jm (fun d hd hxd=>a1 d hd (Cx hx hxd))).symm
 obtain ⟨n,ob,rfl,h5,_⟩:=G2 hi hc he2'
 rw [Bi hig f1 f2 f3]
 refine ⟨h3,.upd n ob,s.setO n ob,he2',by rw [hid]; rfl,?_⟩
 rw [Bi hjg q2 q3 q4]
 refine ⟨h1,.pure y,(s.setO n ob).put j.dst y,?_,rfl,?_⟩
 ·rw [← he]; exact Al1 hj
 ·rw [hid] at hs2
  have:s2=(s.setO n ob).put j.dst y:=by cases hs2; cases j.dst <;> rfl
  rw [← this]; exact h4
def Yi (v:List Nat) (ops:List Oper) (oj oi:Oper):Bool:=
 Tw v ops oj oi||(xtr oj.op&&(oj.guard.isNone&&(Mz oi.op&&(oi.guard.isNone&&(oi.dst.isNone&&oj.apart ops.toArray oi)))))||(lkp oj.op&&(oj.guard.isNone&&(qop oi.op&&(!Ct oi.op&&(!isV v oi.op&&(oi.guard.isNone&&oj.apart ops.toArray oi))))))
def U5 (v:List Nat) (ops:List Oper) (b:Nat→Nat):Bool:=ops.zipIdx.all fun p=>(ops.take p.2).zipIdx.all fun q=>(b p.2).testBit q.2||Yi v ops q.1 p.1
def Anm (v:List Nat) (ops:List Oper):Bool:=Lm ops [] fun l=>Ru ops (fun i=>l.getD i 0)&&U5 v ops (fun i=>l.getD i 0)
theorem Va {ops:List Oper} {oj oi:Oper} (h:Yi r.v ops oj oi=true):Jn P r N ops oj∧G5 P r N ops oj oi:=by
 simp only [Yi,Bool.or_eq_true] at h
 rcases h with (h | h) | h
 ·exact Ph h
 ·simp only [Bool.and_eq_true,Option.isNone_iff_eq_none] at h
  obtain ⟨h1,h2,h3,h4,h5,h6⟩:=h
  exact ⟨D2 (Aj4 h1).1 (Rh (Aj4 h1).2.1),V0 h1 h2 h3 h4 h5 h6⟩
 ·simp only [Bool.and_eq_true,Option.isNone_iff_eq_none,Bool.not_eq_true'] at h
  obtain ⟨h1,h2,h3,h4,h5,h6,h7⟩:=h
  exact ⟨Abl h1 h2,Acn h1 h2 h3 h4 h5 h6 h7⟩
theorem Vo {ops:List Oper} {b:Nat→Nat} (h:U5 r.v ops b=true):∀ (i j:Nat) (oi oj:Oper),j < i→ops[i]?=some oi→ops[j]?=some oj→(b i).testBit j=false→Jn P r N ops oj∧G5 P r N ops oj oi:=by
 intro i j oi oj hj hi hoj ht
 unfold U5 at h
 rw [List.all_eq_true] at h
 have h1:=h (oi,i) (List.mem_zipIdx_iff_getElem?.2 hi)
 rw [List.all_eq_true] at h1
 have h2:=h1 (oj,j) (List.mem_zipIdx_iff_getElem?.2 (by rw [List.getElem?_take,if_pos hj]; exact hoj))
 simp only [ht,Bool.false_or] at h2
 exact Va h2
theorem Ajj {ops:List Oper} {id:Nat} {st:St} {Q:AEx→St→Prop} (hm:P.follows .mixedOrders=true) (hchk:Anm r.v ops=true) (h:EL P r N ops ops st (Q .normal)):AWP P r N (.region id ops.toArray true) st Q:=by
 obtain ⟨l,hl⟩:=Ki hchk
 rw [Bool.and_eq_true] at hl
 exact U2 hm (Jr hl.1) (Vo hl.2) h
end
section
variable {P:Program} {r:RB} {N:Nat} {all:List Oper} {d:Nat} {op:Op} {ρ ρ':Operand→AV} {os os':Nat→Option AO} {s:St}
def mvo:Op→Bool
 | .move _ | .assign _=>true
 | _=>false
def ptx:Op→Bool
 | .nilCheck _ | .fieldAddr ..=>true
 | _=>false
theorem Ai3 (h:mvo op=true):sil op=true:=by
 cases op <;> first | (simp [mvo] at h; done) | rfl
theorem Atq (h:mvo op=true):∃ x,x ∈ op.operands.toList∧∀ (d:Nat) (ρ:Operand→AV) os,eff P d op ρ os=some (.pure (ρ x)):=by
 cases op <;> simp only [mvo,Bool.false_eq_true] at h
 ·exact ⟨_,by simp [Op.operands],fun _ _ _=>rfl⟩
 ·exact ⟨_,by simp [Op.operands],fun _ _ _=>rfl⟩
theorem Atv (h:ptx op=true):qop op=true∧Ct op=false∧Ds op=false∧isM op=false:=by
 cases op <;> first | (simp [ptx] at h; done) | exact ⟨rfl,rfl,rfl,rfl⟩
theorem Amv {d':Nat} (h:ptx op=true):eff P d op ρ os=eff P d' op ρ os':=by
 cases op <;> first | (simp [ptx] at h; done) | rfl
theorem Aj8 (h:ptx op=true) {e:Eff} (he:eff P d op ρ os=some e):∃ y,e=.pure y:=by
 cases op <;> simp only [ptx,Bool.false_eq_true] at h
 ·simp only [eff] at he
  split at he <;> first | (cases he; done) | (cases he; exact ⟨_,rfl⟩)
 ·simp only [eff] at he
  split at he
  ·split at he
   ·split at he
    ·cases he
    ·split at he <;> first | (cases he; done) | (cases he; exact ⟨_,rfl⟩)
   ·cases he
  ·cases he
theorem V4 {j i:Oper} (hj:Mz j.op=true) (hjg:j.guard=none) (hjd:j.dst=none) (hi:ptx i.op=true) (hig:i.guard=none) (hap:j.apart all.toArray i=true):G5 P r N all j i:=by
 intro l s K hc hE
 obtain ⟨f1,f2,f3⟩:=Hw hj
 obtain ⟨q1,q2,q3,q4⟩:=Atv hi
 obtain ⟨a1,a2,a3⟩:=Oper.apart_spec hap
 rw [Bi hjg f1 f2 f3] at hE
 obtain ⟨h1,e,s1,he,hs1,h2⟩:=hE
 obtain ⟨n,ob,rfl,h5,_⟩:=G2 hj hc he
 rw [hjd] at hs1
 have hs1':s1=s.setO n ob:=by cases hs1; rfl
 subst hs1'
 rw [Bi hig q2 q3 q4] at h2
 obtain ⟨h3,e2,s2,he2,hs2,h4⟩:=h2
 obtain ⟨y,rfl⟩:=Aj8 hi he2
 have hs2':s2=(s.setO n ob).put i.dst y:=by cases hs2; rfl
 subst hs2'
 rw [Bi hig q2 q3 q4]
 refine ⟨h3,.pure y,s.put i.dst y,by rw [← he2]; exact Amv hi,rfl,?_⟩
 rw [Bi hjg f1 f2 f3]
 refine ⟨h1,.upd n ob,(s.put i.dst y).setO n ob,?_,by rw [hjd]; rfl,?_⟩
 ·have ho:(s.put i.dst y).o=s.o:=by cases i.dst <;> rfl
  rw [← he,ho]
  exact Ns hj fun x hx=>Jm (fun d hd hxd=>a3 d hd (Cx hx hxd))
 ·have:(s.put i.dst y).setO n ob=(s.setO n ob).put i.dst y:=by cases i.dst <;> rfl
  rw [this]; exact h4
theorem Vv {j i:Oper} (hj:mvo j.op=true) (hjg:j.guard=none) (hi:Hj i.op=true) (hig:i.guard=none) (hap:j.apart all.toArray i=true):G5 P r N all j i:=by
 intro l s K hc hE
 obtain ⟨f1,f2,f3⟩:=Gh hi
 obtain ⟨q1,q2,q3,q4⟩:=Um (Ai3 hj)
 obtain ⟨a1,a2,a3⟩:=Oper.apart_spec hap
 obtain ⟨x,hx,hm⟩:=Atq (P:=P) hj
 rw [Bi hjg q2 q3 q4] at hE
 obtain ⟨h1,e,s1,he,hs1,h2⟩:=hE
 rw [hm] at he
 cases he
 cases hs1
 rw [Bi hig f1 f2 f3] at h2
 obtain ⟨h3,e2,s2,he2,hs2,h4⟩:=h2
 have ho:(s.put j.dst (ev s.t x)).o=s.o:=by cases j.dst <;> rfl
 have he2':eff P (r.b+i.dst.getD 0) i.op (ev s.t) s.o=some e2:=by
  rw [← he2,ho]
  exact (Fy hi fun x hx=>Jm (fun d hd hxd=>a1 d hd (Cx hx hxd))).symm
 have hxd:∀ d,i.dst=some d→x≠.tmp d:=fun d hd hxd=>a3 d hd (Cx hx hxd)
 have main:∃ s',e2.apply r.b i.dst s=some s'∧s'.put j.dst (ev s'.t x)=s2:=by
  rcases G7 hi he2' with ⟨k,es,len,rfl⟩ | ⟨n,k,es,len,rfl⟩
  ·obtain ⟨d,hd,hn,rfl⟩:=Dh hs2
   rw [ho] at hn
   refine ⟨(s.setO (r.b+d) (.arr k es)).put (some d) (.own (r.b+i.dst.getD 0) len),?_,?_⟩
   ·have:(s.o (r.b+d)).isNone=true:=by rw [hn]; rfl
    rw [hd]
    simp only [Eff.apply,this,if_true]
   ·have hev:ev ((s.setO (r.b+d) (.arr k es)).put (some d) (.own (r.b+i.dst.getD 0) len)).t x=ev s.t x:=L1 (hxd d hd)
    rw [hev]
    cases hjd:j.dst with
    | none=>rfl
    | some d2=>
     have hne:d≠d2:=fun e=>a2 d2 hjd (by rw [hd,e])
     simp only [St.put,St.setO,Cq hne]
  ·obtain ⟨d,hd,hn,rfl⟩:=Ey hs2
   have hp:((s.put j.dst (ev s.t x)).purge n).o=(s.purge n).o:=by cases j.dst <;> rfl
   rw [hp] at hn
   refine ⟨((s.purge n).setO (r.b+d) (.arr k es)).put (some d) (.own (r.b+i.dst.getD 0) len),?_,?_⟩
   ·have:((s.purge n).o (r.b+d)).isNone=true:=by rw [hn]; rfl
    rw [hd]
    simp only [Eff.apply,this,if_true]
   ·have hev:ev (((s.purge n).setO (r.b+d) (.arr k es)).put (some d) (.own (r.b+i.dst.getD 0) len)).t x=(ev s.t x).purge n:=by
     rw [show ev (((s.purge n).setO (r.b+d) (.arr k es)).put (some d) (.own (r.b+i.dst.getD 0) len)).t x=ev (s.purge n).t x from L1 (hxd d hd)]
     exact Ts x
    rw [hev]
    cases hjd:j.dst with
    | none=>rfl
    | some d2=>
     have hne:d≠d2:=fun e=>a2 d2 hjd (by rw [hd,e])
     simp only [St.put,St.setO]
     congr 1
     show upd (upd (fun i=>(s.t i).purge n) d _) d2 ((ev s.t x).purge n)=upd (fun i=>(upd s.t d2 (ev s.t x) i).purge n) d _
     rw [Cq hne]
     congr 1
     funext q
     unfold upd
     by_cases hq:q=d2
     ·subst hq; simp
     ·simp [hq]
 obtain ⟨s',g1,g2⟩:=main
 rw [Bi hig f1 f2 f3]
 refine ⟨h3,e2,s',he2',g1,?_⟩
 rw [Bi hjg q2 q3 q4]
 exact ⟨h1,.pure (ev s'.t x),s2,hm _ _ _,by rw [← g2]; rfl,h4⟩
def Abq (v:List Nat) (ops:List Oper) (oj oi:Oper):Bool:=
 Yi v ops oj oi||(Mz oj.op&&(oj.guard.isNone&&(oj.dst.isNone&&(ptx oi.op&&(oi.guard.isNone&&oj.apart ops.toArray oi)))))||(mvo oj.op&&(oj.guard.isNone&&(Hj oi.op&&(oi.guard.isNone&&oj.apart ops.toArray oi))))
theorem Acl {ops:List Oper} {oj oi:Oper} (h:Abq r.v ops oj oi=true):Jn P r N ops oj∧G5 P r N ops oj oi:=by
 simp only [Abq,Bool.or_eq_true] at h
 rcases h with (h | h) | h
 ·exact Va h
 ·simp only [Bool.and_eq_true,Option.isNone_iff_eq_none] at h
  obtain ⟨h1,h2,h3,h4,h5,h6⟩:=h
  exact ⟨Afr h1 h2,V4 h1 h2 h3 h4 h5 h6⟩
 ·simp only [Bool.and_eq_true,Option.isNone_iff_eq_none] at h
  obtain ⟨h1,h2,h3,h4,h5⟩:=h
  exact ⟨D2 (Um (Ai3 h1)).1 (Rh (Um (Ai3 h1)).2.1),Vv h1 h2 h3 h4 h5⟩
end
section
variable {P:Program} {r:RB} {N:Nat} {ops:List Oper}
def Aix (P:Program) (v q:List Nat) (ops tl:List Oper) (m:Nat) (i j:Nat) (oi oj:Oper):Option (List Cf):=if Abq v ops oj oi=true then some [] else Akz P v q ops tl m i j oi oj
def Ae6 (P:Program) (v q:List Nat) (ops tl:List Oper) (m i:Nat) (oi:Oper):List (Oper × Nat)→Option (List Cf)
 | []=>some []
 | (oj,j) :: r=>if m.testBit j=true then Ae6 P v q ops tl m i oi r else
  match Aix P v q ops tl m i j oi oj,Ae6 P v q ops tl m i oi r with
  | some a,some b=>some (a++b)
  | _,_=>none
def Wu (P:Program) (v q:List Nat) (ops tl:List Oper) (b:Nat→Nat):List (Oper × Nat)→Option (List Cf)
 | []=>some []
 | (oi,i) :: r=>match Ae6 P v q ops tl (b i) i oi (ops.take i).zipIdx,Wu P v q ops tl b r with
  | some a,some c=>some (a++c)
  | _,_=>none
def Ti (P:Program) (v q:List Nat) (ops:List Oper) (cfs:List Cf):Bool:=(ops.all (Ju v))&&(Y1 ops&&Lm ops [] fun l=>Ru ops (fun i=>l.getD i 0)&&match Wu P v q ops ops (fun i=>l.getD i 0) ops.zipIdx with
 | some c=>Aag c cfs
 | none=>false)
theorem R1 {P:Program} {tl:List Oper} {v q:List Nat} {m i:Nat} {oi:Oper}:∀ {l:List (Oper × Nat)} {c:List Cf},Ae6 P v q ops tl m i oi l=some c→∀ p ∈ l,m.testBit p.2=false→∃ c',Aix P v q ops tl m i p.2 oi p.1=some c'∧∀ x ∈ c',x ∈ c
 | [],_,_,p,hp,_=>by cases hp
 | (oj,j) :: l,c,h,p,hp,ht=>by
  simp only [Ae6] at h
  split at h
  ·rename_i hj
   rcases List.mem_cons.1 hp with e | hp
   ·subst e; rw [ht] at hj; cases hj
   ·exact R1 h p hp ht
  ·split at h
   ·rename_i a b h1 h2
    cases h
    rcases List.mem_cons.1 hp with e | hp
    ·subst e; exact ⟨a,h1,fun x hx=>by simp [hx]⟩
    ·obtain ⟨c',g1,g2⟩:=R1 h2 p hp ht
     exact ⟨c',g1,fun x hx=>by simp [g2 x hx]⟩
   ·cases h
theorem U8 {P:Program} {tl:List Oper} {v q:List Nat} {b:Nat→Nat}:∀ {l:List (Oper × Nat)} {c:List Cf},Wu P v q ops tl b l=some c→∀ p ∈ l,∃ c',Ae6 P v q ops tl (b p.2) p.2 p.1 (ops.take p.2).zipIdx=some c'∧∀ x ∈ c',x ∈ c
 | [],_,_,p,hp=>by cases hp
 | (oi,i) :: l,c,h,p,hp=>by
  simp only [Wu] at h
  split at h
  ·rename_i a d h1 h2
   cases h
   rcases List.mem_cons.1 hp with e | hp
   ·subst e; exact ⟨a,h1,fun x hx=>by simp [hx]⟩
   ·obtain ⟨c',g1,g2⟩:=U8 h2 p hp
    exact ⟨c',g1,fun x hx=>by simp [g2 x hx]⟩
  ·cases h
theorem Af0 {id:Nat} {st:St} {Q:AEx→St→Prop} (cfs:List Cf) (hm:P.follows .mixedOrders=true) (hchk:Ti P r.v r.q ops cfs=true) (hfr:∀ d ∈ R4 P ops,st.o (r.b+d)=none) (h:EL P r N ops ops st (fun s=>(cfs.all fun c=>c.ok s.t)=true∧Q .normal s)):AWP P r N (.region id ops.toArray true) st Q:=by
 unfold Ti at hchk
 simp only [Bool.and_eq_true] at hchk
 obtain ⟨hpl,hds,hchk⟩:=hchk
 rw [List.all_eq_true] at hpl
 obtain ⟨l,hl⟩:=Ki hchk
 rw [Bool.and_eq_true] at hl
 obtain ⟨hl1,hl2⟩:=hl
 clear hchk
 have hrows:Wu P r.v r.q ops ops (fun i=>l.getD i 0) ops.zipIdx=some cfs:=by
  revert hl2
  cases Wu P r.v r.q ops ops (fun i=>l.getD i 0) ops.zipIdx with
  | none=>intro h; cases h
  | some c=>intro h; rw [Vi h]
 generalize hbb:(fun i=>l.getD i 0)=bb at *
 clear hl2
 intro B S θ M w a hs
 refine wpIn_region_any hm ?_
 have hrem:Di ops.length (Array.replicate ops.length false)=List.range ops.length:=Pu _
 refine Ahb (D:=fun f=>∀ x ∈ cfs,x.ok f=true) (K:=fun s=>(cfs.all fun c=>c.ok s.t)=true∧Q .normal s) (Jr hl1) (fun i o ho=>hpl o (List.mem_of_getElem? ho)) (Sm hds) (fun i j oi oj rest hji hi hj hbit hrest=>?_) (fun s' hs'=>List.all_eq_true.1 hs'.1) ops.toArray.size (Array.replicate ops.toArray.size false) st B S θ M _ a (hs.drawn _) (by simp) (fun k o hk hL=>?_) (fun i _ o ho=>Xo hfr o (List.mem_of_getElem? ho)) ?_ ?_ (fun s' a' w' hk hF=>⟨.normal,s',rfl,hk.2,?_⟩)
 ·obtain ⟨c1,g1,g2⟩:=U8 hrows (oi,i) (List.mem_zipIdx_iff_getElem?.2 hi)
  obtain ⟨c2,g3,g4⟩:=R1 g1 (oj,j) (List.mem_zipIdx_iff_getElem?.2 (by rw [List.getElem?_take,if_pos hji]; exact hj)) hbit
  unfold Aix at g3
  split at g3
  ·rename_i h7
   exact .inl (Rk (Acl (P:=P) (r:=r) (N:=N) h7).2)
  unfold Akz at g3
  split at g3
  ·rename_i c3 hc3
   cases g3
   exact .inl (Uu (b:=bb) hc3 (fun x hx=>g2 x (g4 x hx)) hji hi hj hbit hrest (fun k _ o ho=>List.mem_of_getElem? ho)).2
  ·split at g3
   ·rename_i hx; exact .inr hx
   ·cases g3
 ·simp only [Array.getD_eq_getD_getElem?,Array.getElem?_replicate] at hL
  split at hL <;> simp at hL
 ·simp only [List.size_toArray]; rw [hrem]; simp
 ·simp only [List.size_toArray]; rw [hrem,Fq]; exact h
 ·obtain ⟨⟨θ',M',h1,h2,h3,h4⟩,h5⟩:=hF
  exact ⟨⟨θ',M',h1,⟨h2.size,h2.same,h2.os,h2.tape,h2.output⟩,h3,h4⟩,h5⟩
theorem Xk {id:Nat} {st:St} {Q:AEx→St→Prop} (cfs:List Cf) (dx:List Nat) (hm:P.follows .mixedOrders=true) (hchk:Ti P r.v r.q ops cfs=true) (hdx:R4 P ops=dx) (hfr:Ah5 st.o r.b dx) (h:EL P r N ops ops st (fun s=>(cfs.all fun c=>c.ok s.t)=true∧Q .normal s)):AWP P r N (.region id ops.toArray true) st Q:=
 Af0 cfs hm hchk (fun d hd=>Xe hfr d (by rw [← hdx]; exact hd)) h
end
end AM
end
/- How vessels lie in cells. -/
section
namespace AM.Wort
open Go AM
theorem L3:∀ (l:List Int),Ck (l.map i64)=some l
 | []=>rfl
 | x :: l=>by show (Ck (l.map i64)).map (x :: ·)=_; rw [L3 l]; rfl
abbrev F8 (v:List Liq) (k:Nat):Liq:=v.getD k default
def Ajs (v:List Liq) (f:Nat) (n:Int):Int:=n * (F8 v f).e / (F8 v f).g
def Acd (v:List Liq) (f:Nat) (n:Int):List Liq:=v.set f ⟨(F8 v f).g - n,(F8 v f).e - Ajs v f n⟩
def Aoq (v:List Liq) (f t:Nat) (n:Int):List Liq:=(Acd v f n).set t ⟨(F8 (Acd v f n) t).g+n,(F8 (Acd v f n) t).e+Ajs v f n⟩
def Ar4 (v:List Liq) (f t:Nat) (n:Int):List Liq × Bool:=
 if (F8 v f).g < n then (v,false) else if 0 < n then (Aoq v f t n,true) else (v,true)
def Apn (v:List Liq) (t:Nat) (n:Int):List Liq × Bool:=(v.set t ⟨(F8 v t).g+n,(F8 v t).e⟩,true)
def Aq8 (v:List Liq) (f:Nat) (n:Int):List Liq × Bool:=
 (v.set f ⟨(F8 v f).g - n,(F8 v f).e⟩,decide (0 < (F8 v f).g - n)||(decide ((F8 v f).g - n=0)&&decide ((F8 v f).e=0)))
def Aqh (v:List Liq) (s:Stp) (n:Int):List Liq × Bool:=
 if s.kind=0 then Ar4 v s.frm.toNat s.to.toNat n else if s.kind=1 then Apn v s.to.toNat n else Aq8 v s.frm.toNat n
theorem Ah3 {v:List Liq} {k j:Nat} {a:Liq}:F8 (v.set k a) j=if j=k∧k < v.length then a else F8 v j:=by
 unfold F8
 rw [List.getD_eq_getElem?_getD,List.getD_eq_getElem?_getD,List.getElem?_set]
 by_cases h:k=j
 ·subst h
  by_cases h2:k < v.length
  ·simp [h2]
  ·simp [h2]
 ·rw [if_neg h,if_neg (fun e=>h e.1.symm)]
def doS (vs:List Ves) (v:List Liq) (s:Stp) (n:Int):List Liq × Bool:=
 ((Aqh v s n).1,(Aqh v s n).2&&decide ((F8 (Aqh v s n).1 s.to.toNat).g≤(vs.getD s.to.toNat default).room))
theorem Xa {α:Type} {l:List α} {k:Nat} (d:α) (h:k < l.length):l.getD k d ∈ l:=by
 rw [← List.getElem_eq_getD (h:=h)]; exact List.getElem_mem _
def tot:List Liq→Int
 | []=>0
 | l :: v=>l.e+tot v
theorem Adq:∀ {v:List Liq} {k:Nat} {a:Liq},k < v.length→tot (v.set k a)=tot v - (F8 v k).e+a.e
 | l :: v,0,a,_=>by simp [tot]; omega
 | l :: v,k+1,a,h=>by
  have:=Adq (v:=v) (k:=k) (a:=a) (by simpa using h)
  simp [tot] at this ⊢
  omega
structure OkV (v:List Liq):Prop where
 len:v.length=4
 g:∀ k,0≤(v.getD k default).g∧(v.getD k default).g≤60
 e:∀ k,0≤(v.getD k default).e
 t:tot v≤28800
theorem Tv:∀ {v:List Liq},(∀ k,0≤(v.getD k default).e)→0≤tot v
 | [],_=>by simp [tot]
 | l :: v,h=>by
  have h0:=h 0
  have:=Tv (v:=v) fun k=>by simpa using h (k+1)
  simp [tot] at *; omega
theorem Aj7:∀ {v:List Liq},(∀ k,0≤(v.getD k default).e)→∀ k,(v.getD k default).e≤tot v
 | [],_,k=>by
  show (default:Liq).e≤0
  exact Int.le_refl _
 | l :: v,h,0=>by
  have:=Tv (v:=v) fun k=>by simpa using h (k+1)
  simp [tot]; omega
 | l :: v,h,k+1=>by
  have h0:=h 0
  have:=Aj7 (v:=v) (fun k=>by simpa using h (k+1)) k
  simp [tot] at *; omega
theorem Si {v:List Liq} {k j:Nat} {a:Liq}:(v.set k a).getD j default=if j=k∧k < v.length then a else v.getD j default:=Ah3
theorem OkV.set {v:List Liq} (h:OkV v) {k:Nat} (hk:k < 4) {a:Liq} (hg:0≤a.g∧a.g≤60) (he:0≤a.e) (ht:tot v - (v.getD k default).e+a.e≤28800):OkV (v.set k a):=by
 have hl:=h.len
 refine ⟨by rw [List.length_set]; exact hl,fun j=>?_,fun j=>?_,?_⟩
 ·rw [Si]; split
  ·exact hg
  ·exact h.g j
 ·rw [Si]; split
  ·exact he
  ·exact h.e j
 ·rw [Adq (by omega)]; exact ht
def Alg:List Ves→List Int→List Int→Nat→List Liq→List Liq × Bool
 | [],_,_,_,v=>(v,true)
 | x :: vs,gs,ds,i,v=>if x.room < gs.getD i 0 then (v,false) else Alg vs gs ds (i+1) (v.set i ⟨gs.getD i 0,gs.getD i 0 * ds.getD i 0⟩)
def Aqi (vs:List Ves) (gs ds:List Int):List Liq × Bool:=Alg vs gs ds 0 v0
def D4 (vs:List Ves) (m:List Int):List Stp→Nat→List Liq × Bool→List Liq × Bool
 | [],_,r=>r
 | s :: ss,i,r=>if r.2=false then (r.1,false) else D4 vs m ss (i+1) (doS vs r.1 s (m.getD i 0))
def Bq (b:Aj5) (t:Tru):List Liq × Bool:=D4 b.vs t.m b.ss 0 (Aqi b.vs t.g t.d)
def S7 (b:Aj5) (t:Tru):Bool:=
  decide (t.g.length=b.vs.length)&&(decide (t.d.length=b.vs.length)&&(decide (t.m.length=b.ss.length) &&
    ((List.range b.vs.length).all (fun k=>Vk (b.vs.getD k default).g (t.g.getD k 0)&&Vk (b.vs.getD k default).d (t.d.getD k 0)) &&
     (List.range b.ss.length).all fun k=>Vk (b.ss.getD k default).g (t.m.getD k 0))))
theorem X6 {b:Aj5} {t:Tru} (h:S7 b t=true):t.g.length=b.vs.length∧t.d.length=b.vs.length∧t.m.length=b.ss.length ∧
    (∀ k,k < b.vs.length→((b.vs.getD k default).g.lo≤t.g.getD k 0∧t.g.getD k 0≤(b.vs.getD k default).g.hi)∧(b.vs.getD k default).d.lo≤t.d.getD k 0∧t.d.getD k 0≤(b.vs.getD k default).d.hi) ∧
    ∀ k,k < b.ss.length→(b.ss.getD k default).g.lo≤t.m.getD k 0∧t.m.getD k 0≤(b.ss.getD k default).g.hi:=by
  simp only [S7,Vk,inB,Bool.and_eq_true,decide_eq_true_eq,List.all_eq_true,List.mem_range] at h
  exact h
structure Bb6 (b:Aj5):Prop where
  nv:b.vs.length≤4
  ns:b.ss.length≤6
  v:b.vs.all Ase=true
  s:b.ss.all (Ax7 b.vs.length)=true
def Alc:List Ves→List Int→List Int→Nat→List Liq→List Liq
 | [],_,_,_,v=>v
 | _ :: vs,gs,ds,i,v=>Alc vs gs ds (i+1) (v.set i ⟨gs.getD i 0,gs.getD i 0 * ds.getD i 0⟩)
theorem M5:∀ {vs:List Ves} {gs ds:List Int} {i:Nat} {v:List Liq},(Alc vs gs ds i v).length=v.length
 | [],_,_,_,_=>rfl
 | _ :: vs,gs,ds,i,v=>by unfold Alc; rw [M5,List.length_set]
def OkN (n:Nat) (v:List Liq):Prop:=∃ w,OkV w∧v=w.take n
theorem OkN.len {n:Nat} {v:List Liq} (h:OkN n v) (hn:n≤4):v.length=n:=by
 obtain ⟨w,hw,rfl⟩:=h
 rw [List.length_take,hw.len]; omega
theorem Af1 {w:List Liq} {n k:Nat} (h:k < n):F8 (w.take n) k=F8 w k:=by
 unfold F8
 rw [List.getD_eq_getElem?_getD,List.getD_eq_getElem?_getD,List.getElem?_take,if_pos h]
theorem OkN.at {n:Nat} {v:List Liq} (h:OkN n v) (k:Nat):(0≤(F8 v k).g∧(F8 v k).g≤60)∧0≤(F8 v k).e∧(F8 v k).e≤28800:=by
 obtain ⟨w,hw,rfl⟩:=h
 by_cases hk:k < n
 ·rw [Af1 hk]
  have:=Aj7 hw.e k
  have:=hw.t
  exact ⟨hw.g k,hw.e k,by unfold F8; omega⟩
 ·have:F8 (w.take n) k=⟨0,0⟩:=by
   unfold F8
   rw [List.getD_eq_getElem?_getD,List.getElem?_eq_none (by rw [List.length_take]; omega)]; rfl
  rw [this]; decide
section
variable {α:Type} {p:α→Bool} {l:List α} {k:Nat} {d:α}
theorem Nq (hk:k < l.length) (h:(l.take k).all p=true) (hp:p (l.getD k d)=true):(l.take (k+1)).all p=true:=by
 rw [List.take_add_one,List.all_append,h]
 simp [hk,List.getD] at hp ⊢
 exact hp
theorem B3 (hk:k < l.length) (hp:p (l.getD k d)=false):l.all p=false:=by
 have:l.getD k d ∈ l:=by rw [← List.getElem_eq_getD (h:=hk)]; exact List.getElem_mem _
 cases h:l.all p with
 | false=>rfl
 | true=>rw [List.all_eq_true] at h; rw [h _ this] at hp; cases hp
theorem C7 (hk:l.length≤k) (h:(l.take k).all p=true):l.all p=true:=by rwa [List.take_of_length_le hk] at h
end
theorem H4 {b:Aj5} {t:Tru} (h:t.g.length≠b.vs.length∨t.d.length≠b.vs.length∨t.m.length≠b.ss.length):S7 b t=false:=by
 cases hl:S7 b t with
 | false=>rfl
 | true=>
  obtain ⟨h1,h2,h3,_⟩:=X6 hl
  omega
theorem Abs {α:Type} {l:List α} {n k:Nat} {d:α} (h:k < n):(l.take n).getD k d=l.getD k d:=by
 rw [List.getD_eq_getElem?_getD,List.getD_eq_getElem?_getD,List.getElem?_take,if_pos h]
def Axe:List (Int × Int)→Int
 | []=>0
 | p :: l=>p.1+Axe l
instance instPP:Inhabited (Int × Int):=⟨(0,0)⟩
structure Bb7 (cs:List (Int × Int)) (n:Int):Prop where
 l1:0 < cs.length
 l4:cs.length≤4
 g:∀ p ∈ cs,1≤p.1
 d:∀ p ∈ cs,0≤p.2∧p.2≤120
 n0:0≤n
 all:Axe cs+n≤60
def Azd (c:Csk):Csk:=⟨c.g,⟨c.t.lo,c.t.lo⟩,⟨c.k.lo,c.k.lo⟩⟩
def Zq (t:Tbl) (c:Csk):Int:=atX t c.t.lo c.k.lo
theorem Ann {α:Type} {l:List α} {k:Nat} (d:α) (h:k < l.length):l.take (k+1)=l.take k++[l.getD k d]:=by
 rw [List.take_add_one,List.getElem?_eq_getElem h]
 simp [List.getD,h]
end AM.Wort
end
/- The abstract machine, part 39: aggregates of ints: their equality, and as keys. -/
section
namespace AM
open Go
def T9 (P:Program):Nat→TypeId→Bool
 | 0,_=>false
 | m+1,t=>match P.underlying t with
  | some (.int .i64)=>P.cellsOf t == 1
  | some (.array n e)=>P.cellsOf t == n * P.cellsOf e&&T9 P m e
  | some (.struct fs) => fs.toList.all fun f => f.name != "_" && decide (f.offset + P.cellsOf f.type ≤ P.cellsOf t) && T9 P m f.type
  | _=>false
theorem P4 {α β:Type} {f:α→Option β}:∀ {l:List α},(∀ x ∈ l,∃ y,f x=some y)→∃ ys,l.mapM f=some ys
 | [],_=>⟨[],rfl⟩
 | x :: l,h=>by
  obtain ⟨y,hy⟩:=h x (by simp)
  obtain ⟨ys,hys⟩:=P4 (l:=l) (fun z hz=>h z (by simp [hz]))
  exact ⟨y :: ys,by rw [List.mapM_cons,hy]; simp [hys]⟩
theorem Ap7 {n:Int} (h:inR n=true):(Lit.int .i64 n).wf=true:=by
 simp only [inR,Bool.and_eq_true,decide_eq_true_eq] at h
 simp only [Lit.wf,Bool.and_eq_true,decide_eq_true_eq,IntKind.min,IntKind.max,IntKind.signed,IntKind.bits]
 simp
 omega
theorem Kr {P:Program}:∀ (m:Nat) (t:TypeId),T9 P m t=true→∀ cs:List Value,cs.length=P.cellsOf t→(∀ v ∈ cs,∃ n,v=.int .i64 n∧inR n=true)→∃ l,P.keyLits m t cs=some l
 | 0,_,h,_,_,_=>by simp [T9] at h
 | m+1,t,h,cs,hl,hv=>by
  have sub:∀ off c,off+c≤cs.length→((cs.drop off).take c).length=c∧∀ v ∈ (cs.drop off).take c,∃ n,v=.int .i64 n∧inR n=true:=fun off c hc=>by
   refine ⟨by rw [List.length_take,List.length_drop]; omega,fun v hm=>hv v (List.mem_of_mem_drop (List.mem_of_mem_take hm))⟩
  unfold T9 at h
  unfold Program.keyLits
  cases hu:P.underlying t with
  | none=>simp [hu] at h
  | some kd=>
   cases kd with
   | int k=>
    cases k <;> simp [hu] at h
    rw [h] at hl
    match cs,hl with
    | [v],_=>
     obtain ⟨n,rfl,hn⟩:=hv v (by simp)
     exact ⟨[.int .i64 n],by simp [Ap7 hn]⟩
   | array n e=>
    simp only [hu,Bool.and_eq_true,beq_iff_eq] at h
    obtain ⟨ys,hys⟩:=P4 (l:=List.range n) (f:=fun i=>P.keyLits m e ((cs.drop (i * P.cellsOf e)).take (P.cellsOf e))) (fun i hi=>by
     have hi':i < n:=by simpa using hi
     have:(i+1) * P.cellsOf e≤n * P.cellsOf e:=Nat.mul_le_mul_right _ (by omega)
     rw [Nat.add_mul] at this
     obtain ⟨h1,h2⟩:=sub (i * P.cellsOf e) (P.cellsOf e) (by rw [hl,h.1]; omega)
     exact Kr m e h.2 _ h1 h2)
    simp only [hl,if_true,hys]
    exact ⟨_,rfl⟩
   | struct fs=>
    simp only [hu,List.all_eq_true,Bool.and_eq_true,decide_eq_true_eq] at h
    obtain ⟨ys,hys⟩:=P4 (l:=fs.toList) (f:=fun f=>P.keyLits m f.type ((cs.drop f.offset).take (P.cellsOf f.type))) (fun f hf=>by
     obtain ⟨⟨_,g2⟩,g3⟩:=h f hf
     obtain ⟨h1,h2⟩:=sub f.offset (P.cellsOf f.type) (by rw [hl]; exact g2)
     exact Kr m f.type g3 _ h1 h2)
    have hn : fs.all (·.name != "_") = true := by
     rw [← Array.all_toList,List.all_eq_true]
     exact fun f hf=>(h f hf).1.1
    simp only [hl,hn,and_self,if_true,hys]
    exact ⟨_,rfl⟩
   | _=>simp [hu] at h
theorem Pb {ks:List Int} (hr:ks.all inR=true):∀ v ∈ ks.map (Value.int .i64),∃ n,v=.int .i64 n∧inR n=true:=fun v hv=>by
 obtain ⟨n,hn,rfl⟩:=List.mem_map.1 hv
 exact ⟨n,rfl,List.all_eq_true.1 hr n hn⟩
theorem P5 {P:Program} {t:TypeId} {cs:Array Value} (h:(match P.underlying t with | some (.struct _) | some (.array _ _)=>true | _=>false)=true) (hs:cs.size=P.cellsOf t):(Value.agg cs).formed P t=true:=by
 unfold Value.formed
 split at h
 ·rename_i hu; simp [hu,hs]
 ·rename_i hu; simp [hu,hs]
 ·cases h
def Yw (P:Program) (t:TypeId) (n:Nat):Bool:=T9 P 8 t&&P.keyTypeAt 8 t&&P.tiled 8 t&&P.cellsOf t == n&&!P.eqGuardType P.depth t&&(match P.underlying t with | some (.struct _) | some (.array _ _)=>true | _=>false)
theorem Nn {P:Program} {t:TypeId} {n:Nat} (h:Yw P t n=true):Nf P t n:=by
 simp only [Yw,Bool.and_eq_true,beq_iff_eq,Bool.not_eq_true'] at h
 obtain ⟨⟨⟨⟨⟨h1,h2⟩,h3⟩,h4⟩,h5⟩,h6⟩:=h
 refine ⟨h5,fun a b ha hb hra hrb w=>?_⟩
 obtain ⟨la,hla⟩:=Kr 8 t h1 (a.map (Value.int .i64)) (by simp [ha,h4]) (Pb hra)
 obtain ⟨lb,hlb⟩:=Kr 8 t h1 (b.map (Value.int .i64)) (by simp [hb,h4]) (Pb hrb)
 obtain ⟨r,hr,hiff⟩:=run_equalIn_deep (10000 - 8) 8 t h2 w 8 8 (.agg (a.map (Value.int .i64)).toArray) (.agg (b.map (Value.int .i64)).toArray) la lb (P5 h6 (by simp [ha,h4])) (P5 h6 (by simp [hb,h4])) (by simpa [Value.cells] using hla) (by simpa [Value.cells] using hlb)
 have c1:=cells_of_lits 8 t h3 _ _ _ hla
 have c2:=cells_of_lits 8 t h3 _ _ _ hlb
 have hr:(Op.equal t (.agg (a.map (Value.int .i64)).toArray) (.agg (b.map (Value.int .i64)).toArray)).run P w=.ok r w:=hr
 rw [hr]
 congr 1
 cases r with
 | true=>
  have e:=hiff.1 rfl
  rw [← e,← c1] at c2
  have:a=b:=((List.map_inj_right (fun x y e=>by cases e; rfl)).1 c2).symm
  simp [this]
 | false=>
  have:a≠b:=fun e=>by
   subst e
   rw [hla] at hlb
   cases hlb
   exact absurd (hiff.2 rfl) (by simp)
  simp [this]
def Aoo (P:Program) (k:TypeId) (n:Nat):Bool:=Yw P k n&&P.keyType k&&T9 P (P.types.size+1) k
theorem Ajr {P:Program} {k:TypeId} {n:Nat} (h:Aoo P k n=true):Jy P k n:=by
 simp only [Aoo,Yw,Bool.and_eq_true,beq_iff_eq,Bool.not_eq_true'] at h
 obtain ⟨⟨⟨⟨⟨⟨⟨h1,h2⟩,h3⟩,h4⟩,h5⟩,h6⟩,h7⟩,h8⟩:=h
 have h6':(match P.underlying k with | some (.array _ _) | some (.struct _)=>true | _=>false)=true:=by
  split at h6
  ·rename_i hu; simp [hu]
  ·rename_i hu; simp [hu]
  ·cases h6
 refine ⟨deep_law (m:=8) (by omega) h2 h3 h6',fun ks hl hr=>?_⟩
 obtain ⟨l,hll⟩:=Kr _ k h8 (ks.map (Value.int .i64)) (by simp [hl,h4]) (Pb hr)
 have hf:=P5 (P:=P) (t:=k) (cs:=(ks.map (Value.int .i64)).toArray) h6 (by simp [hl,h4])
 unfold keyOf
 split at h6
 ·rename_i hu
  simp only [h7,hf,Bool.and_self,if_true]
  refine ⟨.string (keyBytes l),?_⟩
  have:(Value.agg (ks.map (Value.int .i64)).toArray).cells.toList=ks.map (Value.int .i64):=by simp [Value.cells]
  rw [this,hll]; simp [hu]
 ·rename_i hu
  simp only [h7,hf,Bool.and_self,if_true]
  refine ⟨.string (keyBytes l),?_⟩
  have:(Value.agg (ks.map (Value.int .i64)).toArray).cells.toList=ks.map (Value.int .i64):=by simp [Value.cells]
  rw [this,hll]; simp [hu]
 ·cases h6
theorem Bf.of_nil {P:Program} {f:FuncId} {args:List AV} {res:AV} (i:Nat) (hi:args[i]?=some (.p (.val (.slice none 0 0)))) (h:Bf P f (args.set i (.p (.sl []))) res):Bf P f args res:=by
 refine ⟨h.1,fun θ M w vs hM hsz hrel=>h.2 θ M w vs hM (by simpa using hsz) fun j x hj=>?_⟩
 rw [List.getElem?_set] at hj
 split at hj
 ·rename_i hij
  split at hj
  ·cases hj
   have:=hrel i _ hi
   rw [Ho this] at this
   rw [← hij]
   have e:=Ho (hrel i _ hi)
   rw [e]
   exact .p _ _ .nil
  ·cases hj
 ·exact hrel j x hj
section
variable {P:Program} {r:RB} {N B:Nat} {S:Nat→Prop} {θ:Nat→Loc} {M:Nat→Prop} {w:World} {st:St} {a:Act} {Q:AEx→St→Prop} {c m:Nat}
structure St.wk (s1 s:St):Prop where
 t:∀ i,s1.t i=.undef∨s1.t i=s.t i
 o:∀ n,s1.o n=none∨s1.o n=s.o n∨∃ cs cs':List AV,s.o n=some (.cells cs)∧s1.o n=some (.cells cs')∧cs'.length=cs.length∧∀ (i:Nat) (x:AV),cs'[i]?=some x→x=.undef∨cs[i]?=some x
 cl:s1.closed
end
end AM
end
/- The ranges of strengths of a valid store. -/
section
namespace AM.Wort
open Go AM
theorem Aay:∀ (l:List (Int × Int)) (r:Rng),(∀ p ∈ l,0≤p.2∧p.2≤2000)→0≤r.lo→0≤r.hi→r.hi≤2000 →
  (0≤(l.foldl (fun r p=>(⟨min r.lo p.2,max r.hi p.2⟩:Rng)) r).lo∧(l.foldl (fun r p=>(⟨min r.lo p.2,max r.hi p.2⟩:Rng)) r).lo≤r.lo∧r.hi≤(l.foldl (fun r p=>(⟨min r.lo p.2,max r.hi p.2⟩:Rng)) r).hi∧(l.foldl (fun r p=>(⟨min r.lo p.2,max r.hi p.2⟩:Rng)) r).hi≤2000) ∧
  ∀ p ∈ l,(l.foldl (fun r p=>(⟨min r.lo p.2,max r.hi p.2⟩:Rng)) r).lo≤p.2∧p.2≤(l.foldl (fun r p=>(⟨min r.lo p.2,max r.hi p.2⟩:Rng)) r).hi
 | [],r,_,h1,h2,h3=>⟨⟨h1,Int.le_refl _,Int.le_refl _,h3⟩,by simp⟩
 | x :: l,r,h,h1,h2,h3=>by
  have hx:=h x (by simp)
  have ih:=Aay l ⟨min r.lo x.2,max r.hi x.2⟩ (fun p hp=>h p (by simp [hp])) (by show 0≤min r.lo x.2; omega) (by show 0≤max r.hi x.2; omega) (by show max r.hi x.2≤2000; omega)
  rw [List.foldl_cons]
  obtain ⟨⟨i1,i2,i3,i4⟩,i5⟩:=ih
  dsimp only at i2 i3
  refine ⟨⟨i1,by omega,by omega,i4⟩,fun p hp=>?_⟩
  rcases List.mem_cons.1 hp with rfl | hp
  ·omega
  ·exact i5 p hp
theorem Zn {r:Rng} {x:Int} (h:x ∈ Qx r):r.lo≤x∧x≤r.hi:=by
 unfold Qx at h
 obtain ⟨j,hj,rfl⟩:=List.mem_map.1 h
 have:=List.mem_range.1 hj
 omega
theorem Adk {r:Rng} (h:r.lo≤r.hi):r.lo ∈ Qx r:=by
 unfold Qx
 exact List.mem_map.2 ⟨0,List.mem_range.2 (by omega),by simp⟩
theorem Al0 {s:Sto} (h:Ku s) {c:Csk} (hc:c ∈ s.c):0≤(D6 s c).lo∧(D6 s c).lo≤(D6 s c).hi∧(D6 s c).hi≤2000:=by
 have ho:=List.all_eq_true.1 h.c c hc
 simp only [okC,En,Bool.and_eq_true,decide_eq_true_eq] at ho
 have hall:∀ p ∈ Kv s.t c.t c.k,0≤p.2∧p.2≤2000:=fun p hp=>by
  unfold Kv at hp
  obtain ⟨y,hy,hp⟩:=List.mem_flatMap.1 hp
  obtain ⟨x,hx,rfl⟩:=List.mem_map.1 hp
  have a:=Zn hy
  have b:=Zn hx
  exact Alm h.t ⟨by omega,by omega⟩
 have hm:(c.k.lo,atX s.t c.t.lo c.k.lo) ∈ Kv s.t c.t c.k:=List.mem_flatMap.2 ⟨_,Adk (by omega),List.mem_map.2 ⟨_,Adk (by omega),rfl⟩⟩
 obtain ⟨⟨i1,_,_,i4⟩,i5⟩:=Aay (Kv s.t c.t c.k) ⟨2000,0⟩ hall (by decide) (by decide) (by decide)
 have:=i5 _ hm
 unfold D6 Aoy
 omega
end AM.Wort
end
/- The abstract machine, part 69: several slice literals of a region are values at once. -/
section
namespace AM
open Go
section
variable {P:Program} {r:RB} {N:Nat} {s:St} {K:St→Prop} {dst:Option Nat} {ty:TypeId} {pos:String} {after:Array Edge} {all rest:List Oper}
def ELm (P:Program) (r:RB) (N:Nat) (all:List Oper):List Bool→List Oper→St→(St→Prop)→Prop
 | [],l,s,K=>EL P r N all l s K
 | true :: fs,o :: rest,s,K=>o.guard=none∧EPb P N o s fun s'=>ELm P r N all fs rest s' K
 | false :: fs,o :: rest,s,K=>o.guard=none∧EO P r N o s fun s'=>ELm P r N all fs rest s' K
 | _ :: _,[],_,_=>False
theorem Rb:∀ {l:List Oper} {fs:List Bool} {s:St} {K:St→Prop},ELm P r N all fs l s K→AL P r N all l s K
 | l,[],s,K,h=>by unfold ELm at h; exact Jh h
 | ⟨dst,op,ty,pos,after,g⟩ :: rest,true :: fs,s,K,h=>by
  obtain ⟨h1,h2⟩:=h
  have h1:g=none:=h1
  subst h1
  exact AL.step ((We h2).mono fun s' h'=>Rb h')
 | ⟨dst,op,ty,pos,after,g⟩ :: rest,false :: fs,s,K,h=>by
  obtain ⟨h1,h2⟩:=h
  have h1:g=none:=h1
  subst h1
  exact AL.step ((Jb h2).mono fun s' h'=>Rb h')
 | [],true :: _,_,_,h=>h.elim
 | [],false :: _,_,_,h=>h.elim
theorem Rg (fs:List Bool) {Q:AEx→St→Prop} {id:Nat} {ops:List Oper} (h:ELm P r N ops fs ops s (Q .normal)):AWP P r N (.region id ops.toArray false) s Q:=Pz (Rb h)
def EKm (P:Program) (r:RB) (N:Nat) (all:List Oper) (fs:List Bool) (rest:List Oper) (K:St→Prop) (s:St):Prop:=ELm P r N all fs rest s K
theorem Un {t:Nat→AV} {o:Nat→Option AO} {fs:List Bool}:EKm P r N all fs rest K ⟨t,o⟩=ELm P r N all fs rest ⟨t,o⟩ K:=rfl
theorem Aav:ELm P r N all [] rest s K=EL P r N all rest s K:=by unfold ELm; rfl
theorem Aae {o:Op} {fs:List Bool}:ELm P r N all (true :: fs) (⟨dst,o,ty,pos,after,none⟩ :: rest) s K=EPb P N ⟨dst,o,ty,pos,after,none⟩ s (EKm P r N all fs rest K):=propext ⟨fun h=>h.2,fun h=>⟨rfl,h⟩⟩
theorem Adu {o:Op} {fs:List Bool}:ELm P r N all (false :: fs) (⟨dst,o,ty,pos,after,none⟩ :: rest) s K=EO P r N ⟨dst,o,ty,pos,after,none⟩ s (EKm P r N all fs rest K):=propext ⟨fun h=>h.2,fun h=>⟨rfl,h⟩⟩
end
end AM
end
/- Rising lists, tables and stores: their errors, step by step. -/
section
namespace AM.Wort
open Go AM
theorem An5 {l:List Int} {most:Int} {k:Nat} (hk:k < l.length) (h:C4 most (-1) (l.take k)=true) (h1:inB (l.getD k 0) 0 most=true) (h2:0 < k→l.getD (k - 1) 0 < l.getD k 0):C4 most (-1) (l.take (k+1))=true:=by
 simp only [inB,Bool.and_eq_true,decide_eq_true_eq] at h1
 rw [Rt l (-1) k hk,h,Bool.true_and,Bool.and_eq_true,decide_eq_true_eq,decide_eq_true_eq]
 refine ⟨?_,h1.2⟩
 split
 ·omega
 ·have:=h2 (by omega); omega
theorem Aem {l:List Int} {most:Int} {k:Nat} (hk:k < l.length) (h:inB (l.getD k 0) 0 most=false∨(0 < k∧l.getD k 0≤l.getD (k - 1) 0)):C4 most (-1) l=false:=by
 refine Agj (k:=k+1) ?_
 rw [Rt l (-1) k hk]
 cases hr:C4 most (-1) (l.take k) with
 | false=>rfl
 | true=>
  rw [Bool.true_and]
  by_cases h0:k=0
  ·subst h0
   rcases h with h | h
   ·rw [if_pos rfl]
    cases hd:decide (-1+1≤l.getD 0 0)&&decide (l.getD 0 0≤most) with
    | false=>rfl
    | true=>
     simp only [Bool.and_eq_true,decide_eq_true_eq] at hd
     simp only [inB,Bool.and_eq_false_iff,decide_eq_false_iff_not] at h
     omega
   ·omega
  ·rw [if_neg h0]
   have hg:=Gq hr (k:=k - 1) (by rw [List.length_take]; omega)
   have e:(l.take k).getD (k - 1) 0=l.getD (k - 1) 0:=Abs (by omega)
   rw [e] at hg
   cases hd:decide (l.getD (k - 1) 0+1≤l.getD k 0)&&decide (l.getD k 0≤most) with
   | false=>rfl
   | true=>
    simp only [Bool.and_eq_true,decide_eq_true_eq] at hd
    simp only [inB,Bool.and_eq_false_iff,decide_eq_false_iff_not] at h
    omega
theorem Mk {t:Tbl} (h:5 < (t.w.length:Int)∨5 < (t.m.length:Int)∨5 < (t.v.length:Int)):Fu t=3:=if_pos h
theorem Bl {t:Tbl} (h:¬ (5 < (t.w.length:Int)∨5 < (t.m.length:Int)∨5 < (t.v.length:Int))) (h2:(t.w.length:Int) < 2∨(t.m.length:Int) < 2∨C4 40 (-1) t.w=false∨C4 60 (-1) t.m=false∨(t.v.length:Int)≠t.w.length∨(t.v.all (N0 t.m.length))=false):Fu t=1:=by
 unfold Fu; rw [if_neg h,if_pos h2]
theorem Mw {t:Tbl} (h:¬ (5 < (t.w.length:Int)∨5 < (t.m.length:Int)∨5 < (t.v.length:Int))) (h2:¬ (t.w.length:Int) < 2) (h3:¬ (t.m.length:Int) < 2) (h4:C4 40 (-1) t.w=true) (h5:C4 60 (-1) t.m=true) (h6:(t.v.length:Int)=t.w.length) (h7:t.v.all (N0 t.m.length)=true):Fu t=0:=by
 unfold Fu; rw [if_neg h,if_neg (by rw [h4,h5,h7]; simp; omega)]
theorem Aow {n:Int} {r:List Int} (h:(r.length:Int)=n) (h2:r.all (fun x=>inB x 0 2000)=true):N0 n r=true:=by
 unfold N0; rw [h2,decide_eq_true h]; rfl
theorem Q4 {n:Int} {r:List Int} (h:(r.length:Int)≠n):N0 n r=false:=by
 unfold N0; rw [decide_eq_false h]; rfl
theorem Tm {n:Int} {r:List Int} (h2:r.all (fun x=>inB x 0 2000)=false):N0 n r=false:=by
 unfold N0; rw [h2,Bool.and_false]
theorem Mv {s:Sto} (h:Fu s.t≠0):J9 s=Fu s.t:=if_pos h
theorem Ng {s:Sto} (h:Fu s.t=0) (h2:6 < (s.c.length:Int)):J9 s=3:=by
 unfold J9; rw [if_neg (by omega),if_pos h2]
theorem Fm {s:Sto} (h:Fu s.t=0) (h2:¬ 6 < (s.c.length:Int)) (h3:inB s.r 0 200=false∨s.c.all (okC s.t)=false):J9 s=1:=by
 unfold J9; rw [if_neg (by omega),if_neg h2,if_pos h3]
theorem Mp {s:Sto} (h:Fu s.t=0) (h2:¬ 6 < (s.c.length:Int)) (h3:inB s.r 0 200=true) (h4:s.c.all (okC s.t)=true):J9 s=0:=by
 unfold J9; rw [if_neg (by omega),if_neg h2,if_neg (by rw [h3,h4]; simp)]
theorem Ad6 {α β:Type} {f:α→β} {l:List α} {k:Nat} (d:α) (h:k < l.length):(l.take (k+1)).map f=(l.take k).map f++[f (l.getD k d)]:=by
 rw [Ann d h,List.map_append]; rfl
def N4 (t:Tbl):Bool:=(decide ((t.w.length:Int)≤8)&&(decide ((t.m.length:Int)≤8)&&decide ((t.v.length:Int)≤8)))&&t.v.all fun r=>decide ((r.length:Int)≤8)
def Aoj (s:Sto):Bool:=N4 s.t&&decide ((s.c.length:Int)≤9)
theorem Q5 {t:Tbl} (h1:(t.w.length:Int)≤8) (h2:(t.m.length:Int)≤8) (h3:(t.v.length:Int)≤8) (h:(t.v.all fun r=>decide ((r.length:Int)≤8))=true):N4 t=true:=by
 unfold N4; rw [h,decide_eq_true h1,decide_eq_true h2,decide_eq_true h3]; rfl
theorem Tn {t:Tbl} (h:¬ ((t.w.length:Int)≤8∧(t.m.length:Int)≤8∧(t.v.length:Int)≤8)):N4 t=false:=by
 cases hh:N4 t with
 | false=>rfl
 | true=>
  simp only [N4,Bool.and_eq_true,decide_eq_true_eq] at hh
  exact absurd hh.1 h
structure Al2 (s x:Sto):Prop where
 ok:Ku x
 l0:0 < x.c.length
 l4:x.c.length≤4
 one:∀ c ∈ x.c,D6 x c=⟨Zq x.t c,Zq x.t c⟩∧0≤Zq x.t c∧Zq x.t c≤2000
 w:x.t.w.length < 1000000
 m:x.t.m.length < 1000000
 v:x.t.v.length < 1000000
 r:∀ r ∈ x.t.v,r.length < 1000000
 len:x.c.length=(s.c.take 4).length
 cs:[isl s.t.w,isl s.t.m,.p (slI s.t.v),i64 s.r,.p (.sl (((s.c.take 4).map Azd).map Zk))]=cO x
theorem Al2.g {s x:Sto} (h:Al2 s x) {k:Nat} (hk:k < x.c.length):1≤(x.c.getD k default).g∧(x.c.getD k default).g≤99:=by
 have hm:x.c.getD k default ∈ x.c:=by rw [← List.getElem_eq_getD (h:=hk)]; exact List.getElem_mem _
 have:=List.all_eq_true.1 h.ok.c _ hm
 simp only [okC,inB,Bool.and_eq_true,decide_eq_true_eq] at this
 exact this.1
theorem Al2.at {s x:Sto} (h:Al2 s x) {k:Nat} (hk:k < x.c.length):D6 x (x.c.getD k default)=⟨Zq x.t (x.c.getD k default),Zq x.t (x.c.getD k default)⟩∧0≤Zq x.t (x.c.getD k default)∧Zq x.t (x.c.getD k default)≤2000:=
 h.one _ (by rw [← List.getElem_eq_getD (h:=hk)]; exact List.getElem_mem _)
end AM.Wort
end
/- The statements: what is read of the arguments is what the walks take; what a pure call leaves is what the statements ask. For any program. -/
section
namespace AM
set_option maxRecDepth 100000
open Go AM Go.ChangeShapes Go.WideShapes Go.ChangeAt Go.RowKit
structure BrP (P:Program):Prop where
 kids:Kids P (· < P.types.size)
 full:∀ t e,t < P.types.size→P.underlying t=some (.slice e)→0 < P.cellsOf e
 bool:P.underlying 4=some .bool
section
variable {P:Program} {H:Type} {enc:TypeId × Value→H} {W W':World}
theorem Ans (hk:Bx (fun b=>W.heap.size≤b) W W') {p:MemPlace} (hp:p.block < W.heap.size):W.sameAt W' p:=by
 have h:=hk.same p.block hp (by omega)
 cases p with
 | cell b off=>simp only [World.sameAt,World.cell?]; rw [show W'.heap[b]?=W.heap[b]? from h]
 | map b=>exact h
theorem R9 (hP:BrP P) (hk:Bx (fun b=>W.heap.size≤b) W W') (sp:Nat→Bool):∀ {ts:List TypeId} {vs:List Value} {ds:List (DataW H)} {p:List MemPlace},
  (∀ t ∈ ts,t < P.types.size)→DataW.TrodAll enc P W 0 (fun _=>true) true ts vs ds p→(∀ x ∈ p,x.block < W.heap.size)→(∀ x ∈ p,sp x.block=true)→DataW.TrodAll enc P W' 0 sp true ts vs ds p
 | [],[],[],_,_,h,_,_=>h
 | _ :: _,_ :: _,_ :: _,_,hT,⟨p,q,⟨n,h1⟩,h2,e⟩,hl,hs=>
  ⟨p,q,⟨n,DataW.trod_stays hP.kids (fun ht hu=>hP.full _ _ ht hu) (fun h=>by cases h) (hT _ (List.mem_cons.2 (Or.inl rfl))) h1 (fun x hx=>Ans hk (hl x (by rw [e]; exact List.mem_append_left _ hx))) (fun x hx=>hs x (by rw [e]; exact List.mem_append_left _ hx))⟩,
   R9 hP hk sp (fun t ht=>hT t (List.mem_cons.2 (Or.inr ht))) h2 (fun x hx=>hl x (by rw [e]; exact List.mem_append_right _ hx)) (fun x hx=>hs x (by rw [e]; exact List.mem_append_right _ hx)),e⟩
theorem Vu (hk:Bx (fun b=>W.heap.size≤b) W W') (may:MemPlace→Prop):W.keptBut W' may:=by
 refine ⟨hk.os,hk.output,fun i hi=>?_⟩
 have h:=hk.same i hi (by omega)
 rw [h]
 cases W.heap[i]? with
 | none=>rfl
 | some o=>cases o <;> first | exact ⟨rfl,rfl,rfl,fun _ _=>rfl⟩ | exact .inr ⟨rfl,rfl⟩ | rfl
theorem Ak9 (hP:BrP P) {fn:Func} {s:ChangeSpec} {args:Array Value} {ds gs:List (DataW H)} {before:List MemPlace} (hr:fn.resultTypes=#[4]) (hp:∀ t ∈ fn.params.toList,t < P.types.size) (hv:s.vars=[])
  (hfn:s.fn H (ds++gs)={ results:=[.lit (.bool true)],args:=ds }) (hW:DataW.Whole enc P fn.params.toList s.vars false W args.toList ds gs before) (hk:Bx (fun b=>W.heap.size≤b) W W') :
  s.post enc P fn false true false false W args (.bool true) W':=by
 have hW0:=hW
 obtain ⟨p,q,hA,hV,rfl,hz,hn⟩:=hW
 rw [hv] at hV
 obtain ⟨rfl,rfl⟩:=trodVars_none hV
 have hlt:∀ x ∈ p,x.block < W.heap.size:=hA.lt
 refine ⟨ds,[],p++[],[],p,[],hW0,?_,?_,?_,World.keptBut_mono (fun x hx=>⟨hx,.inr (.inl (by simpa using hx))⟩) (Vu hk _),fun h=>by cases h⟩
 ·rw [hfn,hr]; exact trodAll_mk1 (shut_bool hP.bool true)
 ·rw [hfn]; exact R9 hP hk _ hp hA hlt (fun x hx=>by simpa using hlt x hx)
 ·rw [hfn,hv]; rfl
theorem law_calls (hP:BrP P) {f:FuncId} {avs:List AV} {fn:Func} {s:ChangeSpec} {args:Array Value} {ds gs:List (DataW H)} {before:List MemPlace} (hc:Bf P f avs (bl true)) (hsz:args.size=avs.length) (hrel:∀ θ (i:Nat) (x:AV),avs[i]?=some x→Ar θ (fun _=>False) W x (args.getD i undef))
  (hr:fn.resultTypes=#[4]) (hp:∀ t ∈ fn.params.toList,t < P.types.size) (hv:s.vars=[]) (hfn:s.fn H (ds++gs)={ results:=[.lit (.bool true)],args:=ds }) (hW:DataW.Whole enc P fn.params.toList s.vars false W args.toList ds gs before) :
  Calls P f args W fun e W'=>∃ v,e=.returned v∧s.post enc P fn false true false false W args v W':=by
 refine (hc.2 (fun _=>⟨0,0,true⟩) (fun _=>False) W args (fun b h=>h.elim) hsz (fun i x hx=>hrel _ i x hx)).mono ?_
 rintro e W' ⟨v,rfl,hv',hk⟩
 cases hv' with
 | p _ _ h=>
  cases h with
  | val _ _=>exact ⟨_,rfl,Ak9 hP hr hp hv hfn hW hk⟩
theorem inR_wfB {m:Int} (h:(Lit.int .i64 m).wf=true):inR m=true:=by
 simp only [Lit.wf,IntKind.min,IntKind.max,IntKind.signed,IntKind.bits,Bool.and_eq_true,decide_eq_true_eq] at h
 simp only [inR,Bool.and_eq_true,decide_eq_true_eq]
 constructor <;> simp_all
theorem Abb {b o i:Nat}:Addr.add ⟨b,o,none⟩ i=⟨b,o+i,none⟩:=by
 unfold Addr.add
 split
 ·rename_i h; simp_all
 ·rfl
def Tx (P:Program) (t:TypeId) (k:Nat):Prop:=∀ {H:Type} {enc:TypeId × Value→H} {W:World} (n:Nat) (cs:List Value) (x:DataW H × List MemPlace),DataW.trod enc P W 0 (fun _=>true) true n t cs=some x→∃ ms:List Int,cs=ms.map (fun m=>Value.int .i64 m)∧ms.length=k∧∀ m ∈ ms,inR m=true
theorem Akx {t:TypeId} (h:P.underlying t=some (.int .i64)):Tx P t 1:=fun n cs x hx=>by
 obtain ⟨m,rfl,_,hw⟩:=DataW.trod_int h hx
 exact ⟨[m],rfl,rfl,fun y hy=>by rw [List.mem_singleton.1 hy]; exact inR_wfB hw⟩
def Az3 (l:List (Nat × Nat)) (K:Nat):Bool:=(List.range K).all fun j=>l.any fun p=>decide (p.1≤j)&&decide (j < p.1+p.2)
theorem Sb {e K:Nat} {fs:Array Field} (he:P.underlying e=some (.struct fs)) (hc:P.cellsOf e=K) (hf:∀ f ∈ fs.toList,∃ k,Tx P f.type k) (hcov:Az3 (fs.toList.map fun f=>(f.offset,P.cellsOf f.type)) K=true):Tx P e K:=fun n cs x hx=>by
 obtain ⟨xs,n',_,_,hl,hxs,hg⟩:=DataW.trod_struct he hx
 rw [hc] at hl
 have key:∀ j,j < K→∃ m,cs[j]?=some (Value.int .i64 m)∧inR m=true:=fun j hj=>by
  have h1:=List.all_eq_true.1 hcov j (List.mem_range.2 hj)
  obtain ⟨p,hp,h2⟩:=List.any_eq_true.1 h1
  obtain ⟨f,hm,rfl⟩:=List.mem_map.1 hp
  simp only [Bool.and_eq_true,decide_eq_true_eq] at h2
  obtain ⟨i,hi⟩:=List.mem_iff_getElem?.1 hm
  obtain ⟨k,hk⟩:=hf f hm
  have hi':fs[i]?=some f:=by simpa using hi
  have h3:=hg i f hi'
  have hix:i < xs.length:=by
   rw [hxs]; exact (Array.getElem?_eq_some_iff.1 hi').1
  rw [List.getElem?_eq_getElem hix] at h3
  obtain ⟨ms,h4,h5,h6⟩:=hk _ _ _ h3
  have h7:((cs.drop f.offset).take (P.cellsOf f.type))[j - f.offset]?=cs[j]?:=by
   rw [List.getElem?_take,if_pos (by omega),List.getElem?_drop]; congr 1; omega
  have hjl:j < cs.length:=by omega
  rw [h4,List.getElem?_map,List.getElem?_eq_getElem hjl] at h7
  cases hq:ms[j - f.offset]? with
  | none=>rw [hq] at h7; cases h7
  | some m=>
   rw [hq] at h7
   refine ⟨m,?_,h6 m (List.mem_of_getElem? hq)⟩
   rw [List.getElem?_eq_getElem hjl]; exact h7.symm
 obtain ⟨F,hF⟩:=Go.Deep.choose_lt (n:=K) (p:=fun j m=>cs[j]?=some (Value.int .i64 m)∧inR m=true) key
 refine ⟨(List.range K).map F,?_,by simp,fun m hm=>?_⟩
 ·refine List.ext_getElem? fun j=>?_
  by_cases hj:j < K
  ·rw [(hF j hj).1]; simp [hj]
  ·rw [List.getElem?_eq_none (by omega),List.getElem?_eq_none (by simp; omega)]
 ·obtain ⟨j,hj,rfl⟩:=List.mem_map.1 hm
  exact (hF j (List.mem_range.1 hj)).2
end
section
variable {P:Program} {H:Type} {enc:TypeId × Value→H} {W:World}
def Adc (P:Program) (t:TypeId) (k:Nat) (X:List PV→Prop):Prop:=∀ {H:Type} {enc:TypeId × Value→H} {W:World} (n:Nat) (cs:List Value) (x:DataW H × List MemPlace),DataW.trod enc P W 0 (fun _=>true) true n t cs=some x →
 cs.length=k∧∃ ps:List PV,ps.length=k∧X ps∧∀ (j:Nat) (p:PV) (v:Value),ps[j]?=some p→cs[j]?=some v→Cp (fun _=>False) W p v
theorem Tl {t:TypeId} {k:Nat} (h:Tx P t k):Adc P t k fun ps=>∃ ms:List Int,ms.length=k∧ps=ms.map iv:=fun n cs x hx=>by
 obtain ⟨ms,rfl,h1,_⟩:=h n cs x hx
 refine ⟨by rw [List.length_map]; exact h1,ms.map iv,by rw [List.length_map]; exact h1,⟨ms,h1,rfl⟩,fun j p v hp hv=>?_⟩
 simp only [List.getElem?_map,Option.map_eq_some_iff] at hp hv
 obtain ⟨m,hm,rfl⟩:=hp
 obtain ⟨m2,hm2,rfl⟩:=hv
 rw [hm] at hm2; cases hm2
 exact .val _ rfl
theorem Abk {t e k:Nat} {X:List PV→Prop} (ht:P.underlying t=some (.slice e)) (hk:P.cellsOf e=k) (h0:0 < k) (hel:Adc P e k X):Adc P t 1 fun ps=>∃ rows:List (List PV),(∀ r ∈ rows,r.length=k∧X r)∧ps=[.sl rows]:=by
 intro H enc W n cs x hx
 have mk:∀ (rows:List (List PV)) (v:Value),cs=[v]→(∀ r ∈ rows,r.length=k∧X r)→Cp (fun _=>False) W (.sl rows) v→cs.length=1∧∃ ps:List PV,ps.length=1∧(∃ rows:List (List PV),(∀ r ∈ rows,r.length=k∧X r)∧ps=[.sl rows])∧∀ (j:Nat) (p:PV) (v:Value),ps[j]?=some p→cs[j]?=some v→Cp (fun _=>False) W p v:=fun rows v hc hr hp=>by
  subst hc
  refine ⟨rfl,[.sl rows],rfl,⟨rows,hr,rfl⟩,fun j p v' hp' hv'=>?_⟩
  match j,hp',hv' with
  | 0,hp',hv'=>cases hp'; cases hv'; exact hp
  | j+1,hp',_=>simp at hp'
 rcases Go.Deep.open_slice ht hx with ⟨rfl,_⟩ | ⟨a,len,cap,m,n',D,Pl,rfl,_,hl,hm,hmm,_,hi⟩
 ·exact mk [] _ rfl (by simp) .nil
 ·simp only [if_true] at hmm
  subst hmm
  by_cases hz:m=0
  ·subst hz
   obtain rfl:len=0:=by omega
   exact mk [] _ rfl (by simp) (.emp a)
  ·obtain ⟨b,o,sp⟩:=a
   have hs:sp=none:=by
    obtain ⟨cs0,h1,_⟩:=hi 0 (by omega)
    obtain ⟨_,h2,h3⟩:=World.cells?_some h1
    have h4:=h3 0 (by rw [hk]; exact h0)
    rw [List.getElem?_eq_getElem (by omega)] at h4
    simpa [Addr.add] using World.cell?_spot h4
   subst hs
   obtain ⟨F,hF⟩:=Go.Deep.choose_lt (α:=List PV) (n:=m) (p:=fun i ps=>ps.length=k∧X ps∧∃ cs',W.cells? 0 (Addr.add ⟨b,o,none⟩ (i * k)) k=some cs'∧∀ (j:Nat) (p:PV) (v:Value),ps[j]?=some p→cs'[j]?=some v→Cp (fun _=>False) W p v) (fun i h1=>by
    obtain ⟨cs',h2,h3⟩:=hi i h1
    rw [hk] at h2
    obtain ⟨_,ps,h5,h6,h7⟩:=hel _ _ _ h3
    exact ⟨ps,h5,h6,cs',h2,h7⟩)
   have hrow:∀ (i:Nat) (r:List PV),((List.range len).map F)[i]?=some r→i < len∧r=F i:=fun i r hr=>by
    simp only [List.getElem?_map,Option.map_eq_some_iff] at hr
    obtain ⟨i',h1,rfl⟩:=hr
    have hlt:i < len:=by
     have:=(List.getElem?_eq_some_iff.1 h1).1; simpa using this
    rw [List.getElem?_range hlt] at h1
    exact ⟨hlt,by rw [Option.some.inj h1]⟩
   have hcell:∀ (i j:Nat) (p:PV),i < m→(F i)[j]?=some p→∃ v,W.cell? ⟨b,o+(i * k+j),none⟩=some v∧Cp (fun _=>False) W p v:=fun i j p him hp=>by
    obtain ⟨h5,_,cs',h6,h7⟩:=hF i him
    obtain ⟨_,h8,h9⟩:=World.cells?_some h6
    have hj:j < k:=by rw [← h5]; exact (List.getElem?_eq_some_iff.1 hp).1
    have h10:=h9 j hj
    rw [List.getElem?_eq_getElem (by omega)] at h10
    rw [Abb,Abb,Nat.add_assoc] at h10
    exact ⟨_,h10,h7 j p _ hp (List.getElem?_eq_getElem (by omega))⟩
   refine mk ((List.range len).map F) _ rfl (fun r hr=>?_) ?_
   ·obtain ⟨i,h1,rfl⟩:=List.mem_map.1 hr
    have:=hF i (by have:=List.mem_range.1 h1; omega)
    exact ⟨this.1,this.2.1⟩
   ·have h:=Cp.sl (M:=fun _=>False) (w:=W) ((List.range len).map F) b o m k (fun i j=>(W.cell? ⟨b,o+(i * k+j),none⟩).getD undef) (fun i e he=>by
     obtain ⟨h1,rfl⟩:=hrow i e he
     exact (hF i (by omega)).1) (by simpa using hl) (fun i e j x he hx=>by
     obtain ⟨h1,rfl⟩:=hrow i e he
     obtain ⟨v,h2,_⟩:=hcell i j x (by omega) hx
     exact ⟨fun h=>h,by rw [h2]; rfl⟩) (fun i e j x he hx=>by
     obtain ⟨h1,rfl⟩:=hrow i e he
     obtain ⟨v,h2,h3⟩:=hcell i j x (by omega) hx
     show Cp _ _ x ((W.cell? _).getD undef)
     rw [h2]; exact h3)
    rw [List.length_map,List.length_range] at h
    exact h
theorem Qg {t:TypeId} {X:List PV→Prop} (h:Adc P t 1 X) {n:Nat} {v:Value} {x:DataW H × List MemPlace} (hx:DataW.trod enc P W 0 (fun _=>true) true n t [v]=some x):∃ p,X [p]∧Cp (fun _=>False) W p v:=by
 obtain ⟨_,ps,h1,h2,h3⟩:=h n _ x hx
 match ps,h1 with
 | [p],_=>exact ⟨p,h2,h3 0 p v rfl rfl⟩
theorem Kc {n:Nat} {t:TypeId} {cs:List Value} {xs:List (DataW H × List MemPlace)} {i:Nat} (h:DataW.trod enc P W 0 (fun _=>true) true n t cs=xs[i]?) (hi:i < xs.length):∃ x,DataW.trod enc P W 0 (fun _=>true) true n t cs=some x:=⟨xs[i],by rw [h,List.getElem?_eq_getElem hi]⟩
end
end AM
end
