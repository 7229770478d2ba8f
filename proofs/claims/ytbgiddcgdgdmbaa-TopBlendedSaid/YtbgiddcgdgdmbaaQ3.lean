/- Lemmas for the proof: an abstract machine over the program's form in Lean, and the program's functions walked on it. -/
import Derived.Test.YtbgiddcgdgdmbaaQ2
import Derived.Laws.Cover3
import Derived.ProofKit
import Derived.Deep.Slices
import Derived.ChangeStays
/- Tables and stores in plain Lean, and how they lie in abstract values. -/
section
namespace AM.Wort
open Go AM
structure Tbl where
 w:List Int
 m:List Int
 v:List (List Int)
structure Csk where
 g:Int
 t:Rng
 k:Rng
structure Sto where
 t:Tbl
 r:Int
 c:List Csk
instance:Inhabited Csk:=⟨⟨0,default,default⟩⟩
abbrev Aeg (l:List Int):List PV:=[.sl (l.map P0)]
abbrev Zf (c:Csk):List PV:=[iv c.g,iv c.t.lo,iv c.t.hi,iv c.k.lo,iv c.k.hi]
abbrev avC (c:Csk):AV:=.agg [i64 c.g,i64 c.t.lo,i64 c.t.hi,i64 c.k.lo,i64 c.k.hi]
abbrev slI (l:List (List Int)):PV:=.sl (l.map Aeg)
abbrev slC (l:List Csk):PV:=.sl (l.map Zf)
abbrev cQ (t:Tbl):List AV:=[isl t.w,isl t.m,.p (slI t.v)]
abbrev avQ (t:Tbl):AV:=.agg (cQ t)
abbrev cO (s:Sto):List AV:=[isl s.t.w,isl s.t.m,.p (slI s.t.v),i64 s.r,.p (slC s.c)]
abbrev avO (s:Sto):AV:=.agg (cO s)
theorem F8 {l:List (List Int)} {k:Nat} (h:k < l.length):(l.map Aeg).getD k []=Aeg (l.getD k []):=C1 _ _ _ h
theorem En {l:List Csk} {k:Nat} (h:k < l.length):(l.map Zf).getD k []=Zf (l.getD k default):=C1 _ _ _ h
def Cz (most:Int):Int→List Int→Bool
 | _,[]=>true
 | last,x :: l=>inB x (last+1) most&&Cz most x l
def Mz (most last n:Int):Int × Bool:=(n,inB n (IntKind.i64.wrap (last+1)) most)
theorem Kx {most:Int} (hm:most≤1000):∀ (l:List Int) (last:Int),-1≤last→last≤most→(Dy (Mz most) last l).2=Cz most last l
 | [],_,_,_=>rfl
 | x :: l,last,h1,h2=>by
  have hw:IntKind.i64.wrap (last+1)=last+1:=Dk (by omega) (by omega)
  simp only [Dy,Cz,Mz,hw]
  cases hx:inB x (last+1) most with
  | false=>simp
  | true=>
   simp only [if_true,Bool.true_and]
   simp only [inB,Bool.and_eq_true,decide_eq_true_eq] at hx
   exact Kx hm l x (by omega) (by omega)
theorem N9 {most:Int}:∀ (l:List Int) (last:Int),Cz most last l=true→(∀ x ∈ l,last < x∧x≤most)∧l.Pairwise (· < ·)
 | [],_,_=>⟨by simp,.nil⟩
 | x :: l,last,h=>by
  simp only [Cz,inB,Bool.and_eq_true,decide_eq_true_eq] at h
  obtain ⟨⟨h1,h2⟩,h3⟩:=h
  obtain ⟨g1,g2⟩:=N9 l x h3
  refine ⟨fun y hy=>?_,List.pairwise_cons.2 ⟨fun y hy=>(g1 y hy).1,g2⟩⟩
  rcases List.mem_cons.1 hy with rfl | hy
  ·omega
  ·have:=g1 y hy; omega
theorem P6 {most:Int}:∀ (l:List Int) (last:Int) (k:Nat),k < l.length→Cz most last (l.take (k+1))=(Cz most last (l.take k)&&(decide ((if k=0 then last else l.getD (k - 1) 0)+1≤l.getD k 0)&&decide (l.getD k 0≤most)))
 | x :: l,last,0,_=>by simp [Cz,inB]
 | x :: l,last,k+1,h=>by
  have h2:k < l.length:=by simpa using h
  rw [List.take_succ_cons,List.take_succ_cons,Cz,Cz,P6 l x k h2,Bool.and_assoc]
  congr 2
  cases k with
  | zero=>simp
  | succ k=>simp
theorem Afw {most:Int} {l:List Int} {last:Int}:∀ {k:Nat},Cz most last (l.take k)=false→Cz most last l=false:=by
 intro k h
 cases hh:Cz most last l with
 | false=>rfl
 | true=>
  exfalso
  revert h
  rw [Bool.eq_false_iff]
  intro hk
  apply hk
  clear hk
  induction l generalizing last k with
  | nil=>simp [Cz]
  | cons x l ih=>
   cases k with
   | zero=>rfl
   | succ k=>
    simp only [Cz,Bool.and_eq_true,List.take_succ_cons] at hh ⊢
    exact ⟨hh.1,ih hh.2⟩
def Na (n:Int) (r:List Int):Bool:=decide ((r.length:Int)=n)&&r.all fun x=>inB x 0 2000
def Fk (t:Tbl):Int:=
 if 5 < (t.w.length:Int)∨5 < (t.m.length:Int)∨5 < (t.v.length:Int) then 3
 else if (t.w.length:Int) < 2∨(t.m.length:Int) < 2∨Cz 40 (-1) t.w=false∨Cz 60 (-1) t.m=false∨(t.v.length:Int)≠t.w.length∨(t.v.all (Na t.m.length))=false then 1 else 0
def G6 (l:List Int):Int:=l.getD (l.length - 1) 0
def Ep (l:List Int) (r:Rng):Bool:=decide (r.lo≤r.hi)&&(decide (l.getD 0 0≤r.lo)&&decide (r.hi≤G6 l))
def okC (t:Tbl) (c:Csk):Bool:=inB c.g 1 99&&(Ep t.w c.t&&Ep t.m c.k)
def Jp (s:Sto):Int:=
 if Fk s.t≠0 then Fk s.t else if 6 < (s.c.length:Int) then 3 else if inB s.r 0 200=false∨s.c.all (okC s.t)=false then 1 else 0
structure G5 (t:Tbl):Prop where
 nw:2≤t.w.length∧t.w.length≤5
 nm:2≤t.m.length∧t.m.length≤5
 nv:t.v.length=t.w.length
 w:Cz 40 (-1) t.w=true
 m:Cz 60 (-1) t.m=true
 v:t.v.all (Na t.m.length)=true
structure Ng (s:Sto):Prop where
 t:G5 s.t
 n:s.c.length≤6
 r:inB s.r 0 200=true
 c:s.c.all (okC s.t)=true
theorem Am2 {t:Tbl} (h:Fk t=0):G5 t:=by
 unfold Fk at h
 split at h
 ·cases h
 ·split at h
  ·cases h
  ·rename_i h1 h2
   simp only [not_or,Bool.not_eq_false] at h1 h2
   obtain ⟨a1,a2,a3⟩:=h1
   obtain ⟨b1,b2,b3,b4,b5,b6⟩:=h2
   exact ⟨by omega,by omega,by omega,b3,b4,b6⟩
theorem Avc {s:Sto} (h:Jp s=0):Ng s:=by
 unfold Jp at h
 split at h
 ·rename_i h1; exact absurd h h1
 ·rename_i h1
  split at h
  ·cases h
  ·split at h
   ·cases h
   ·rename_i h2 h3
    simp only [not_or,Bool.not_eq_false] at h3
    exact ⟨Am2 (by simpa using h1),by omega,h3.1,h3.2⟩
theorem G5.row {t:Tbl} (h:G5 t) {i:Nat} (hi:i < t.w.length):(t.v.getD i []).length=t.m.length∧∀ k,0≤(t.v.getD i []).getD k 0∧(t.v.getD i []).getD k 0≤2000:=by
 have h1:=List.all_eq_true.1 h.v (t.v.getD i []) (by rw [← List.getElem_eq_getD (h:=by rw [h.nv]; exact hi)]; exact List.getElem_mem _)
 simp only [Na,Bool.and_eq_true,decide_eq_true_eq] at h1
 refine ⟨by omega,fun k=>?_⟩
 by_cases hk:k < (t.v.getD i []).length
 ·have h2:=List.all_eq_true.1 h1.2 ((t.v.getD i []).getD k 0) (by rw [← List.getElem_eq_getD (h:=hk)]; exact List.getElem_mem _)
  simpa [inB] using h2
 ·have:(t.v.getD i []).getD k 0=0:=by
   generalize t.v.getD i []=r at hk ⊢
   simp [List.getD,List.getElem?_eq_none (show r.length≤k by omega)]
  omega
theorem Gc {l:List Int} {most last:Int} (h:Cz most last l=true) {k:Nat} (hk:k < l.length):last < l.getD k 0∧l.getD k 0≤most:=
 (N9 l last h).1 _ (by rw [← List.getElem_eq_getD (h:=hk)]; exact List.getElem_mem _)
theorem Acd {l:List Int} {most last:Int} (h:Cz most last l=true) {j k:Nat} (hk:k < l.length) (hjk:j < k):l.getD j 0 < l.getD k 0:=by
 have:=List.pairwise_iff_getElem.1 (N9 l last h).2 j k (by omega) hk hjk
 rwa [List.getElem_eq_getD 0,List.getElem_eq_getD 0] at this
def Hq (l:List Int) (n:Int) (i:Nat):Nat→Nat
 | 0=>i
 | f+1=>if i+2 < l.length∧l.getD (i+1) 0≤n then Hq l n (i+1) f else i
def Bt (l:List Int) (n:Int):Nat:=Hq l n 0 l.length
theorem Yo {l:List Int} {n:Int} (h2:n≤G6 l):∀ (f i:Nat),i+2≤l.length→l.length≤i+f+2→l.getD i 0≤n →
  Hq l n i f+2≤l.length∧l.getD (Hq l n i f) 0≤n∧n≤l.getD (Hq l n i f+1) 0
 | 0,i,h3,h4,h5=>by
  have e:l.length - 1=i+1:=by omega
  unfold G6 at h2
  rw [e] at h2
  exact ⟨by simpa [Hq] using h3,by simpa [Hq] using h5,by simpa [Hq] using h2⟩
 | f+1,i,h3,h4,h5=>by
  unfold Hq
  split
  ·rename_i h
   exact Yo h2 f (i+1) (by omega) (by omega) h.2
  ·rename_i h
   refine ⟨h3,h5,?_⟩
   by_cases h6:i+2 < l.length
   ·have:¬ l.getD (i+1) 0≤n:=fun e=>h ⟨h6,e⟩
    omega
   ·have e:l.length - 1=i+1:=by omega
    unfold G6 at h2
    rw [e] at h2; exact h2
theorem Ab6 {l:List Int} {n:Int} (hl:2≤l.length) (h1:l.getD 0 0≤n) (h2:n≤G6 l):Bt l n+2≤l.length∧l.getD (Bt l n) 0≤n∧n≤l.getD (Bt l n+1) 0:=
 Yo h2 l.length 0 (by omega) (by omega) h1
def H8 (i k:Nat) (wide long w m:Int):List (Int × Int × Int):=[(i,k,(wide - w) * (long - m)),((i:Int)+1,k,w * (long - m)),(i,(k:Int)+1,(wide - w) * m),((i:Int)+1,(k:Int)+1,w * m)]
abbrev Aou (p:Int × Int × Int):List PV:=[iv p.1,iv p.2.1,iv p.2.2]
instance:Inhabited (Int × Int × Int):=⟨(0,0,0)⟩
theorem Af4 {l:List (Int × Int × Int)} {k:Nat} (h:k < l.length):(l.map Aou).getD k []=Aou (l.getD k default):=C1 _ _ _ h
def Pz (t:Tbl) (p:Int × Int × Int):Int:=(t.v.getD p.1.toNat []).getD p.2.1.toNat 0
def Jq (t:Tbl):List (Int × Int × Int)→Int
 | []=>0
 | p :: l=>Pz t p * p.2.2+Jq t l
theorem Qw {t:Tbl}:∀ (a b:List (Int × Int × Int)),Jq t (a++b)=Jq t a+Jq t b
 | [],b=>by simp [Jq]
 | p :: a,b=>by simp only [List.cons_append,Jq,Qw a b]; omega
def atX (t:Tbl) (warmth B4:Int):Int:=
 let i:=Bt t.w warmth
 let k:=Bt t.m B4
 let wide:=t.w.getD (i+1) 0 - t.w.getD i 0
 let long:=t.m.getD (k+1) 0 - t.m.getD k 0
 (2 * Jq t (H8 i k wide long (warmth - t.w.getD i 0) (B4 - t.m.getD k 0))+wide * long) / (2 * wide * long)
def Agn (t:Tbl) (warmth B4:Int):Prop:=(t.w.getD 0 0≤warmth∧warmth≤G6 t.w)∧t.m.getD 0 0≤B4∧B4≤G6 t.m
theorem Eu {a b A B:Int} (h1:0≤a) (h2:a≤A) (h3:0≤b) (h4:b≤B):0≤a * b∧a * b≤A * B:=
 ⟨Int.mul_nonneg h1 h3,Int.mul_le_mul h2 h4 h3 (by omega)⟩
def Sy (t:Tbl) (p:Int × Int × Int):Prop:=(0≤p.1∧p.1 < (t.w.length:Int))∧(0≤p.2.1∧p.2.1 < (t.m.length:Int))∧0≤p.2.2∧p.2.2≤2400
theorem Zz {t:Tbl} (ht:G5 t) {p:Int × Int × Int} (h:Sy t p):0≤Pz t p∧Pz t p≤2000:=(ht.row (i:=p.1.toNat) (by have:=h.1; omega)).2 _
theorem X9 {t:Tbl} (ht:G5 t) {p:Int × Int × Int} (h:Sy t p):0≤Pz t p * p.2.2∧Pz t p * p.2.2≤4800000:=by
 have h1:=Zz ht h
 have:=Eu h1.1 h1.2 h.2.2.1 h.2.2.2
 omega
theorem Tj {t:Tbl} (ht:G5 t):∀ (l:List (Int × Int × Int)),(∀ p ∈ l,Sy t p)→0≤Jq t l∧Jq t l≤4800000 * (l.length:Int)
 | [],_=>by simp [Jq]
 | p :: l,h=>by
  have h1:=X9 ht (h p (by simp))
  have h2:=Tj ht l (fun q hq=>h q (by simp [hq]))
  simp only [Jq,List.length_cons]
  omega
theorem Adb {t:Tbl} {i k:Nat} {wide long w m:Int} (hi:i+2≤t.w.length) (hk:k+2≤t.m.length) (h1:0≤w) (h2:w≤wide) (h3:wide≤40) (h4:0≤m) (h5:m≤long) (h6:long≤60):∀ p ∈ H8 i k wide long w m,Sy t p:=by
 have e1:=Eu (a:=wide - w) (b:=long - m) (A:=40) (B:=60) (by omega) (by omega) (by omega) (by omega)
 have e2:=Eu (a:=w) (b:=long - m) (A:=40) (B:=60) (by omega) (by omega) (by omega) (by omega)
 have e3:=Eu (a:=wide - w) (b:=m) (A:=40) (B:=60) (by omega) (by omega) (by omega) (by omega)
 have e4:=Eu (a:=w) (b:=m) (A:=40) (B:=60) (by omega) (by omega) (by omega) (by omega)
 intro p hp
 simp only [H8,List.mem_cons,List.not_mem_nil,or_false] at hp
 rcases hp with rfl | rfl | rfl | rfl
 ·exact ⟨⟨by show (0:Int)≤(i:Int); omega,by show (i:Int) < _; omega⟩,⟨by show (0:Int)≤(k:Int); omega,by show (k:Int) < _; omega⟩,e1⟩
 ·exact ⟨⟨by show (0:Int)≤(i:Int)+1; omega,by show (i:Int)+1 < _; omega⟩,⟨by show (0:Int)≤(k:Int); omega,by show (k:Int) < _; omega⟩,e2⟩
 ·exact ⟨⟨by show (0:Int)≤(i:Int); omega,by show (i:Int) < _; omega⟩,⟨by show (0:Int)≤(k:Int)+1; omega,by show (k:Int)+1 < _; omega⟩,e3⟩
 ·exact ⟨⟨by show (0:Int)≤(i:Int)+1; omega,by show (i:Int)+1 < _; omega⟩,⟨by show (0:Int)≤(k:Int)+1; omega,by show (k:Int)+1 < _; omega⟩,e4⟩
theorem Zq {t:Tbl} (ht:G5 t) {i k:Nat} {wide long w m:Int} (hi:i+2≤t.w.length) (hk:k+2≤t.m.length) (h1:0≤w) (h2:w≤wide) (h3:wide≤40) (h4:0≤m) (h5:m≤long) (h6:long≤60):0≤Jq t (H8 i k wide long w m)∧Jq t (H8 i k wide long w m)≤2000 * (wide * long):=by
 have hq:=Adb hi hk h1 h2 h3 h4 h5 h6
 refine ⟨(Tj ht _ hq).1,?_⟩
 have le:∀ p ∈ H8 i k wide long w m,Pz t p * p.2.2≤2000 * p.2.2:=fun p hp=>Int.mul_le_mul_of_nonneg_right (Zz ht (hq p hp)).2 (hq p hp).2.2.1
 have f1:=le ((i:Int),(k:Int),(wide - w) * (long - m)) (by simp [H8])
 have f2:=le ((i:Int)+1,(k:Int),w * (long - m)) (by simp [H8])
 have f3:=le ((i:Int),(k:Int)+1,(wide - w) * m) (by simp [H8])
 have f4:=le ((i:Int)+1,(k:Int)+1,w * m) (by simp [H8])
 have e:wide * long=(wide - w) * (long - m)+(w * (long - m)+((wide - w) * m+w * m)):=by
  rw [← Int.add_mul,← Int.add_assoc,← Int.add_mul,Int.sub_add_cancel,← Int.mul_add,Int.sub_add_cancel]
 have g:Jq t (H8 i k wide long w m)=Pz t ((i:Int),(k:Int),(wide - w) * (long - m)) * ((wide - w) * (long - m))+(Pz t ((i:Int)+1,(k:Int),w * (long - m)) * (w * (long - m))+(Pz t ((i:Int),(k:Int)+1,(wide - w) * m) * ((wide - w) * m)+(Pz t ((i:Int)+1,(k:Int)+1,w * m) * (w * m)+0))):=rfl
 rw [g,e]
 dsimp only at f1 f2 f3 f4
 omega
structure Aop (t:Tbl) (warmth B4:Int):Prop where
 i:Bt t.w warmth+2≤t.w.length
 k:Bt t.m B4+2≤t.m.length
 w1:t.w.getD (Bt t.w warmth) 0≤warmth
 w2:warmth≤t.w.getD (Bt t.w warmth+1) 0
 m1:t.m.getD (Bt t.m B4) 0≤B4
 m2:B4≤t.m.getD (Bt t.m B4+1) 0
 w0:0≤t.w.getD (Bt t.w warmth) 0
 w3:t.w.getD (Bt t.w warmth+1) 0≤40
 w4:t.w.getD (Bt t.w warmth) 0 < t.w.getD (Bt t.w warmth+1) 0
 m0:0≤t.m.getD (Bt t.m B4) 0
 m3:t.m.getD (Bt t.m B4+1) 0≤60
 m4:t.m.getD (Bt t.m B4) 0 < t.m.getD (Bt t.m B4+1) 0
theorem Ahf {t:Tbl} (ht:G5 t) {warmth B4:Int} (h:Agn t warmth B4):Aop t warmth B4:=by
 have a:=Ab6 ht.nw.1 h.1.1 h.1.2
 have b:=Ab6 ht.nm.1 h.2.1 h.2.2
 have a1:=Gc ht.w (k:=Bt t.w warmth) (by omega)
 have a2:=Gc ht.w (k:=Bt t.w warmth+1) (by omega)
 have a3:=Acd ht.w (j:=Bt t.w warmth) (k:=Bt t.w warmth+1) (by omega) (by omega)
 have b1:=Gc ht.m (k:=Bt t.m B4) (by omega)
 have b2:=Gc ht.m (k:=Bt t.m B4+1) (by omega)
 have b3:=Acd ht.m (j:=Bt t.m B4) (k:=Bt t.m B4+1) (by omega) (by omega)
 exact ⟨a.1,b.1,a.2.1,a.2.2,b.2.1,b.2.2,by omega,a2.2,a3,by omega,b2.2,b3⟩
theorem Ajk {t:Tbl} (ht:G5 t) {warmth B4:Int} (h:Agn t warmth B4):0≤atX t warmth B4∧atX t warmth B4≤2000:=by
 have c:=Ahf ht h
 obtain ⟨c1,c2,c3,c4,c5,c6,c7,c8,c9,d1,d2,d3⟩:=c
 unfold atX
 dsimp only
 have s:=Zq ht (wide:=t.w.getD (Bt t.w warmth+1) 0 - t.w.getD (Bt t.w warmth) 0) (long:=t.m.getD (Bt t.m B4+1) 0 - t.m.getD (Bt t.m B4) 0) (w:=warmth - t.w.getD (Bt t.w warmth) 0) (m:=B4 - t.m.getD (Bt t.m B4) 0) c1 c2 (by omega) (by omega) (by omega) (by omega) (by omega) (by omega)
 revert s
 generalize Jq t _=n
 intro s
 have hp:0 < (t.w.getD (Bt t.w warmth+1) 0 - t.w.getD (Bt t.w warmth) 0) * (t.m.getD (Bt t.m B4+1) 0 - t.m.getD (Bt t.m B4) 0):=Int.mul_pos (by omega) (by omega)
 rw [Int.mul_assoc 2]
 revert s hp
 generalize (t.w.getD (Bt t.w warmth+1) 0 - t.w.getD (Bt t.w warmth) 0) * (t.m.getD (Bt t.m B4+1) 0 - t.m.getD (Bt t.m B4) 0)=A
 intro s hp
 refine ⟨Int.ediv_nonneg (by omega) (by omega),?_⟩
 have:(2 * n+A) / (2 * A) < 2001:=Int.ediv_lt_of_lt_mul (by omega) (by omega)
 omega
def Rk (r:Rng):List Int:=(List.range (r.hi+1 - r.lo).toNat).map fun (j:Nat)=>r.lo+(j:Int)
def L3 (t:Tbl) (w m:Rng):List (Int × Int):=(Rk m).flatMap fun y=>(Rk w).map fun x=>(y,atX t x y)
def Aoj (l:List (Int × Int)):Rng:=l.foldl (fun r p=>⟨min r.lo p.2,max r.hi p.2⟩) ⟨2000,0⟩
def E8 (s:Sto) (c:Csk):Rng:=Aoj (L3 s.t c.t c.k)
end AM.Wort
end
/- The abstract machine, part 36: a slice literal that is never written again. -/
section
namespace AM
open Go
section
variable {P:Program} {nb N B:Nat} {S:Nat→Prop} {θ:Nat→Loc} {M:Nat→Prop} {w:World} {st st':St} {a:Act} {o:Oper} {d:Nat} {e:Eff}
theorem Xy (h:Aq N B S θ M w st a) {dk:Nat} (hdst:o.dst=some dk) (hdN:dk < N) {k:Nat} {es:List (List PV)} {vs:List Value} {t:TypeId} {cap:Nat}
  (hk:∀ (i:Nat) (e:List PV),es[i]?=some e→e.length=k) (hc:es.length≤cap) (_:vs.length=cap * k) (_:∀ (i:Nat) (v:Value),vs[i]?=some v→v.oneCell'=true) (hfl:FL M w k es vs) :
  Adv nb N B S θ M w (st.put o.dst (.p (.sl es))) (a.put o.dst (.slice (some ⟨w.heap.size,0,none⟩) es.length cap)) (w.alloc (.cells vs.toArray t)):=by
 have hS:=h.ext (Bq.alloc (fun b=>w.heap.size≤b) w (.cells vs.toArray t))
 have hk':∀ b,b < w.heap.size→(w.alloc (.cells vs.toArray t)).heap[b]?=w.heap[b]?:=fun b hb=>Ka w _ hb
 refine ⟨θ,M,hS.put (d:=o.dst) (fun k e=>by rw [hdst] at e; cases e; exact hdN) (x:=.p (.sl es)) (v:=.slice (some ⟨w.heap.size,0,none⟩) es.length cap) (.p _ _ ?_) (AV.lives_p _ _),Bq.alloc _ _ _,fun _ _=>rfl,fun _ _ h=>h⟩
 refine Ci.sl es w.heap.size 0 cap k (fun i j=>vs.getD (i * k+j) undef) hk hc (fun i e j x hi hj=>?_) (fun i e j x hi hj=>?_)
 ·obtain ⟨v,h2,_⟩:=hfl i e j x hi hj
  refine ⟨fun hm=>Nat.lt_irrefl _ (h.mlt _ hm),?_⟩
  refine C8 (J8 w _) ?_
  rw [Nat.zero_add,List.getElem?_toArray,h2,List.getD_eq_getElem?_getD,h2]; rfl
 ·obtain ⟨v,h2,h3⟩:=hfl i e j x hi hj
  rw [List.getD_eq_getElem?_getD,h2]
  exact h3.mono (fun b hb _=>hk' b hb) (fun _ _ hm=>hm)
theorem W2 (h:Aq N B S θ M w st a) {t e:TypeId} {len:Nat} {parts:Array (Nat × Operand)} (ho:o.op=.buildSlice t len parts) {dk:Nat} (hdst:o.dst=some dk) (hdN:dk < N)
  (hk:(Aa P t).k=.sl e) (hg:∀ k,(Aa P e).k=k→k≠.bad) {es:List (List PV)} (hp:Br (Aa P e).sz 0 (parts.toList.map fun p=>(p.1,ev st.t p.2))=some es) (hlen:es.length=len)
  (h24:len * (Aa P e).sz≤16777216) (hz:len=0∨((Aa P e).sz=(Aa P e).zero.length∧0 < (Aa P e).sz)) :
  Dv P nb N B S θ M w (st.put o.dst (.p (.sl es))) o a:=by
 subst hlen
 have hu:=E5 hk
 have hzero:∃ z:Array Value,(es.length * (Aa P e).sz=0→z=#[])∧(es.length * (Aa P e).sz≠0→∃ z',(zeroValue e).run P w=.ok z' w∧z=z'.cells):=by
  by_cases h0:es.length * (Aa P e).sz=0
  ·exact ⟨#[],fun _=>rfl,fun h=>absurd h0 h⟩
  ·rcases hz with h1 | ⟨h1,h2⟩
   ·exact absurd (by rw [h1]; simp) h0
   ·obtain ⟨z,hz1,_⟩:=Fg (P:=P) (w:=w) hg h1 h2
    exact ⟨z.cells,fun h=>absurd h h0,fun _=>⟨z,hz1,rfl⟩⟩
 obtain ⟨z,hza,hzb⟩:=hzero
 have hpl:(parts.toList.map fun p=>(p.1,ev st.t p.2)).length=es.length:=by
  have:∀ (k i:Nat) (l:List (Nat × AV)) (es:List (List PV)),Br k i l=some es→l.length=es.length:=by
   intro k i l
   induction l generalizing i with
   | nil=>intro es h; simp only [Br,Option.some.injEq] at h; subst h; rfl
   | cons x r ih=>
    intro es h
    obtain ⟨j,x⟩:=x
    simp only [Br] at h
    cases hb:x.cs?.bind Ko with
    | none=>simp [hb] at h
    | some c=>
     cases hq:Br k (i+1) r with
     | none=>simp [hb,hq] at h
     | some es'=>
      simp only [hb,hq] at h
      split at h
      ·have h:=Option.some.inj h; subst h; simp [ih _ _ hq]
      ·cases h
  exact this _ _ _ _ hp
 obtain ⟨out,vs,h1,h2,h3,h4,h5,h6,h7,h8⟩:=Qq (θ:=θ) (M:=M) (w:=w) (Aa P e).sz (parts.toList.map fun p=>(p.1,ev st.t p.2)) (parts.toList.map fun p=>(p.1,a.eval p.2)) 0 es
  ((Array.range (es.length * (Aa P e).sz)).map (z[· % z.size]!)) [] (by simp [List.map_map,Function.comp_def]) (fun i p q hi hq=>by
   simp only [List.getElem?_map,Option.map_eq_some_iff] at hi hq
   obtain ⟨y,hy,rfl⟩:=hi
   obtain ⟨y',hy',rfl⟩:=hq
   rw [hy] at hy'; cases hy'
   exact Ar h y.2) hp (by simp) (by simp) (by rw [hpl]; simp)
 have hov:out.toList=vs:=by
  rw [Nat.zero_add,List.nil_append,hpl] at h3
  rw [← h3,List.take_of_length_le]
  simp [h2]
 have hrun:(Instr.buildSlice t es.length (parts.map fun (i,x)=>(i,a.eval x))).run P w=.ok (.slice (some ⟨w.heap.size,0,none⟩) es.length es.length) (w.alloc (.cells out e)):=by
  have h24':¬ (16777216 < es.length * (Aa P e).sz):=by omega
  have h1':Instr.fill (fun i=>some (i * (Aa P e).sz,(Aa P e).sz)) ((Array.range (es.length * (Aa P e).sz)).map (z[· % z.size]!)) (parts.map fun (i,x)=>(i,a.eval x)).toList=some out:=by
   rw [Array.toList_map]; exact h1
  by_cases h0:es.length * (Aa P e).sz=0
  ·have hz0:=hza h0
   subst hz0
   simp only [Instr.buildSlice,Sem.run_bind,Bi hu,Result.andThen_ok,B5 (w:=w) hg]
   rw [if_neg h24',if_pos h0]
   simp only [Sem.run_bind,Sem.run_pure,Result.andThen_ok,h1',newRow,run_newObj]
   rfl
  ·obtain ⟨z',hz1,rfl⟩:=hzb h0
   simp only [Instr.buildSlice,Sem.run_bind,Bi hu,Result.andThen_ok,B5 (w:=w) hg]
   rw [if_neg h24',if_neg h0]
   simp only [Sem.run_bind,hz1,Sem.run_pure,Result.andThen_ok,h1',newRow,run_newObj]
   rfl
 have hadv:=Xy (nb:=nb) (t:=e) (vs:=out.toList) h hdst hdN h6 (Nat.le_refl _) (by rw [hov]; exact h5) (by rw [hov]; exact h7) (by rw [hov]; exact h8)
 refine ⟨.slice (some ⟨w.heap.size,0,none⟩) es.length es.length,w.alloc (.cells out e),.inl ?_,by simpa using hadv⟩
 simp only [execOp,ho]
 exact Uc hrun
end
section
variable {P:Program} {r:RB} {N:Nat} {s:St} {K:St→Prop} {dst:Option Nat} {ty:TypeId} {pos:String} {after:Array Edge} {g:Option (Nat × Bool)} {all rest:List Oper}
def EPp (N:Nat) (dst:Option Nat) (s:St) (K:St→Prop):Option Eff→Prop
 | some (.new (.arr _ es) _)=>dst.isSome=true∧Cu N dst=true∧K (s.put dst (.p (.sl es)))
 | _=>False
theorem Jl {k:Nat} {es:List (List PV)} {x:AV}:EPp N dst s K (some (.new (.arr k es) x))=(dst.isSome=true∧Cu N dst=true∧K (s.put dst (.p (.sl es)))):=rfl
def EPb (P:Program) (N:Nat) (o:Oper) (s:St) (K:St→Prop):Prop:=match o.op with
 | .buildSlice t n parts=>EPp N o.dst s K (fBS P 0 n (parts.toList.map fun p=>(p.1,ev s.t p.2)) (Aa P t).k)
 | _=>False
theorem Nz {t:TypeId} {n:Nat} {parts:Array (Nat × Operand)}:EPb P N ⟨dst,.buildSlice t n parts,ty,pos,after,g⟩ s K=EPp N dst s K (fBS P 0 n (parts.toList.map fun p=>(p.1,ev s.t p.2)) (Aa P t).k):=rfl
theorem V2 {o:Oper} (h:EPb P N o s K):C6 P r N o s K:=by
 unfold EPb at h
 split at h
 ·rename_i t n parts ho
  intro B S θ M w a Q hs
  cases hk:(Aa P t).k with
  | sl e=>
   rw [hk,Ah8] at h
   cases hp:Br (Aa P e).sz 0 (parts.toList.map fun p=>(p.1,ev s.t p.2)) with
   | none=>rw [hp] at h; exact h.elim
   | some es=>
    rw [hp,Zs] at h
    split at h
    ·rename_i hc
     rw [Jl] at h
     obtain ⟨h1,h2,h3⟩:=h
     obtain ⟨dk,hd⟩:=Option.isSome_iff_exists.1 h1
     obtain ⟨v,w',hr,hadv⟩:=W2 (nb:=r.b) hs ho hd (C5 h2 dk hd) hk (Cw hc.2.1) hp hc.1 hc.2.2.1 hc.2.2.2
     refine ⟨fun _ _=>trivial,?_⟩
     rw [Oper.semAt_eq _ _ _ (by rw [ho]; intro c h; cases h)]
     rcases hr with hr | ⟨hr,rfl⟩
     ·rw [hr]; exact ⟨_,h3,hadv.toM,by cases o.dst <;> rfl⟩
     ·rw [hr]; exact ⟨_,h3,hadv.toM,by cases o.dst <;> rfl⟩
    ·exact h.elim
  | _=>rw [hk] at h; exact h.elim
 ·exact h.elim
def ELp (P:Program) (r:RB) (N:Nat) (all:List Oper):Nat→List Oper→St→(St→Prop)→Prop
 | 0,o :: rest,s,K=>o.guard=none∧EPb P N o s fun s'=>EL P r N all rest s' K
 | k+1,o :: rest,s,K=>o.guard=none∧EO P r N o s fun s'=>ELp P r N all k rest s' K
 | _,[],_,_=>False
theorem Vx:∀ {l:List Oper} {k:Nat} {s:St} {K:St→Prop},ELp P r N all k l s K→AL P r N all l s K
 | ⟨dst,op,ty,pos,after,g⟩ :: rest,0,s,K,h=>by
  obtain ⟨h1,h2⟩:=h
  have h1:g=none:=h1
  subst h1
  exact AL.step ((V2 h2).mono fun s' h'=>F3 h')
 | ⟨dst,op,ty,pos,after,g⟩ :: rest,k+1,s,K,h=>by
  obtain ⟨h1,h2⟩:=h
  have h1:g=none:=h1
  subst h1
  exact AL.step ((Gw h2).mono fun s' h'=>Vx h')
 | [],0,_,_,h=>h.elim
 | [],_+1,_,_,h=>h.elim
theorem Aje (k:Nat) {Q:AEx→St→Prop} {id:Nat} {ops:List Oper} (h:ELp P r N ops k ops s (Q .normal)):AWP P r N (.region id ops.toArray false) s Q:=H5 (Vx h)
def EKp (P:Program) (r:RB) (N:Nat) (all:List Oper) (k:Nat) (rest:List Oper) (K:St→Prop) (s:St):Prop:=ELp P r N all k rest s K
theorem Xt {t:Nat→AV} {o:Nat→Option AO} {k:Nat}:EKp P r N all k rest K ⟨t,o⟩=ELp P r N all k rest ⟨t,o⟩ K:=rfl
theorem Ac8 {o:Op}:ELp P r N all 0 (⟨dst,o,ty,pos,after,none⟩ :: rest) s K=EPb P N ⟨dst,o,ty,pos,after,none⟩ s (EK P r N all rest K):=propext ⟨fun h=>h.2,fun h=>⟨rfl,h⟩⟩
theorem Ac7 {o:Op} {k:Nat}:ELp P r N all (k+1) (⟨dst,o,ty,pos,after,none⟩ :: rest) s K=EO P r N ⟨dst,o,ty,pos,after,none⟩ s (EKp P r N all k rest K):=propext ⟨fun h=>h.2,fun h=>⟨rfl,h⟩⟩
end
end AM
end
/- A program's 'all' at any place of its text (srch: that of wort). -/
section
namespace AM
open Go AM AM.Duty
open Nat renaming reduceLT→sA,reduceAdd→sB,reduceMul→sC,reduceSub→sD,reduceLeDiff→sE,reduceEqDiff→sF,reduceBEq→sG
open Int renaming reduceAdd→sH,reduceSub→sI,reduceMul→sJ,reduceLT→sK,reduceLE→sL,reduceNeg→sM,reduceToNat→sN,reduceEq→sO
set_option maxHeartbeats 4000000
def Anl (p2:String) (tE tF tB:Nat):Code:=
  (.seq (.region 0 #[⟨some 3,.assign (.const (.bool false)),tB,p2,#[],none⟩] false) (.seq (.region 1 #[⟨some 4,.load tF (.tmp 1),tF,p2,#[],none⟩,⟨some 5,.move (.tmp 0),tE,p2,#[],none⟩,⟨some 6,.call ⟨(.value (.tmp 4)),#[(.tmp 5)],#[tE]⟩,tB,p2,#[⟨0,.data⟩,⟨1,.data⟩],none⟩,⟨some 7,.unOp .not tB (.tmp 6),tB,p2,#[⟨2,.data⟩],none⟩,⟨some 3,.assign (.tmp 7),tB,p2,#[⟨3,.data⟩,⟨2,.chain⟩,⟨0,.phase⟩,⟨1,.phase⟩,⟨2,.phase⟩,⟨3,.phase⟩],none⟩] false) .ret))
def An7 (p2:String) (tE tF tB:Nat):Code:=
  (.seq (.region 0 #[⟨some 2,.box tE (.tmp 0),0,p2,#[],none⟩,⟨some 3,.assign (.const (.bool false)),tB,p2,#[],none⟩] false) (.seq (.region 1 #[⟨some 4,.load tF (.tmp 1),tF,p2,#[],none⟩,⟨some 5,.load tE (.tmp 2),tE,p2,#[],none⟩,⟨some 6,.call ⟨(.value (.tmp 4)),#[(.tmp 5)],#[tE]⟩,tB,p2,#[⟨0,.data⟩,⟨1,.data⟩],none⟩,⟨some 7,.unOp .not tB (.tmp 6),tB,p2,#[⟨2,.data⟩],none⟩,⟨some 3,.assign (.tmp 7),tB,p2,#[⟨3,.data⟩,⟨2,.chain⟩,⟨0,.phase⟩,⟨1,.phase⟩,⟨2,.phase⟩,⟨3,.phase⟩],none⟩] false) .ret))
def Aam (ps p2:String) (tS tF tB fC f1:Nat):Code:=
  (.seq (.region 0 #[⟨some 3,.box tF (.tmp 1),0,ps,#[],none⟩,⟨some 4,.assign (.const (.bool false)),tB,ps,#[],none⟩] false) (.seq (.region 1 #[⟨some 5,.move (.tmp 0),tS,p2,#[],none⟩,⟨some 6,.makeFunc (.func f1) #[] #[(.tmp 3)],tF,p2,#[],none⟩,⟨some 7,.call ⟨(.value (.func fC)),#[(.tmp 5),(.tmp 6)],#[tS,tF]⟩,tB,p2,#[⟨0,.data⟩,⟨1,.data⟩],none⟩,⟨some 8,.unOp .not tB (.tmp 7),tB,p2,#[⟨2,.data⟩],none⟩,⟨some 4,.assign (.tmp 8),tB,p2,#[⟨3,.data⟩,⟨2,.chain⟩,⟨0,.phase⟩,⟨1,.phase⟩,⟨2,.phase⟩,⟨3,.phase⟩],none⟩] false) .ret))
def Qv (P:Program) (ps p2:String) (tS tE tF tB fC f1 fA:Nat):Prop:=(∃ fn,P.funcs[f1]?=some fn∧fn.body=some (Anl p2 tE tF tB)∧fn.ntmps=8∧fn.results.toList=[.tmp 3]∧Be P f1=true) ∧
  ∃ fn,P.funcs[fA]?=some fn∧fn.body=some (Aam ps p2 tS tF tB fC f1)∧fn.ntmps=9∧fn.results.toList=[.tmp 4]∧Be P fA=true
def W7 (P:Program) (ps p2:String) (tS tE tF tB fC f1 fA:Nat):Prop:=(∃ fn,P.funcs[f1]?=some fn∧fn.body=some (An7 p2 tE tF tB)∧fn.ntmps=8∧fn.results.toList=[.tmp 3]∧Be P f1=true) ∧
  ∃ fn,P.funcs[fA]?=some fn∧fn.body=some (Aam ps p2 tS tF tB fC f1)∧fn.ntmps=9∧fn.results.toList=[.tmp 4]∧Be P fA=true
theorem Akj {P:Program} {ps p2:String} {σ α:Type} {tS tE tF tB:Nat} {arg:α→AV} {enc:α→List PV} [Inhabited α] (hE:ElT P tS tE arg enc) {fC f1 fA:Nat} (hA:W7 P ps p2 tS tE tF tB fC f1 fA) {fv:AV} {F:Nat→Prop} {l:List α} {I:σ→(Nat→Option AO)→Prop} {step:σ→α→σ × Bool} (hfvT:(Aa P tF).agg=some false) (hT:Gq P fv F arg l I step) {nb:Nat} (hnb:¬ F nb) {s:σ} {x:α} {os:Nat→Option AO} {bd:Nat} (hx:x ∈ l) (hI:I s os) (hnb1:os nb=some (.cells [fv])) :
    Bs P bd (.fn (.func f1) [] [.ptr nb 0]) [arg x] os fun res os'=>res=bl (!(step s x).2)∧(I (step s x).1 os'∧os' nb=some (.cells [fv]))∧∀ n,¬ (F n∨n=nb)→os' n=os n:=by
  obtain ⟨fn,hf,hb,hN,hrs,hcal⟩:=hA.1
  refine B9 (v:=[]) (q:=[]) (N:=8) (rs:=[.tmp 3]) hf hb hcal hN hrs (fun hcl hfree=>?_)
  have hlt:=Bb hfree hnb1
  have hfr0:∀ k,os (bd+k)=none:=fun k=>hfree _ (by omega)
  have hlv:=hT.live _ _ hI
  have hF:∀ n,F n→n < bd:=fun n hn=>by obtain ⟨o,h,_⟩:=hT.foot s os n hI hn; exact Bb hfree h
  have hbx:=hE.bx
  have hl2:=hE.ld2 (upd os (bd+2) (some (.cells ((enc x).map .p)))) (bd+2) x Ay
  have hcl0:(Hp (upd os (bd+2) (some (.cells ((enc x).map .p))))).closed:=Ce hcl (AO.lives_cells.2 fun i y hy=>by
    rw [List.getElem?_map,Option.map_eq_some_iff] at hy
    obtain ⟨z,_,rfl⟩:=hy
    exact AV.lives_p _ _)
  have hI0:I s (upd os (bd+2) (some (.cells ((enc x).map .p)))):=hT.stable s os _ hI (fun n hn=>Ac (by have:=hF n hn; omega))
  have hfr8:∀ n,bd+8≤n→upd os (bd+2) (some (.cells ((enc x).map .p))) n=none:=fun n hn=>by rw [Ac (by omega)]; exact hfree n (by omega)
  refine Ab fun K1 hK1=>?_
  refine Ak ?_
  simp (disch:=omega) only [hbx,hfr0,amL,sA,sB,↓reduceIte]
  refine hK1 _ ?_
  refine Ab fun K2 hK2=>?_
  refine Ak ?_
  simp (disch:=omega) only [hl2,hnb1,hfvT,Ac,amL,sA,sF,↓reduceIte,reduceCtorEq]
  have hvc:=hT.call s x _ (bd+8) hx hI0 hcl0
  refine A9 [] (by decide) hvc hfr8 (Nat.le_add_right bd 8) (fun res os2 hR hcl2 hlv2=>?_)
  obtain ⟨rfl,hI2,hfr2⟩:=hR
  simp (disch:=omega) only [amL,sA,↓reduceIte]
  refine hK2 _ ?_
  refine Af ?_
  try simp (disch:=omega) only [amL]
  obtain ⟨g1,g2,g3⟩:=hT.drop hcl hfree hI hI2 (fun n hn hF=>by first | exact hfr2 n hF | (rw [hfr2 n hF,Ac (by omega)]))
  refine Bj (res:=bl _) (Dg bd os2) (by simp (disch:=omega) only [amL,↓reduceIte]; try rfl) (F1 _ _) g1 (AV.lives_p _ _) ⟨rfl,⟨g2,?_⟩,fun n hn=>g3 n (fun h=>hn (.inl h))⟩
  rw [g3 nb hnb]; exact hnb1
theorem Agl {P:Program} {ps p2:String} {σ α:Type} {tE tF tB:Nat} {arg:α→AV} [Inhabited α] {fC f1 fA tS:Nat} (hA:Qv P ps p2 tS tE tF tB fC f1 fA) (hlva:∀ x os,(arg x).lives os) {fv:AV} {F:Nat→Prop} {l:List α} {I:σ→(Nat→Option AO)→Prop} {step:σ→α→σ × Bool} (hfvT:(Aa P tF).agg=some false) (hT:Gq P fv F arg l I step):Al5 P f1 fv F arg l I step:=by
  intro nb hnb s x os bd hx hI hnb1
  obtain ⟨fn,hf,hb,hN,hrs,hcal⟩:=hA.1
  refine B9 (v:=[]) (q:=[]) (N:=8) (rs:=[.tmp 3]) hf hb hcal hN hrs (fun hcl hfree=>?_)
  have hlt:=Bb hfree hnb1
  have hfr0:∀ k,os (bd+k)=none:=fun k=>hfree _ (by omega)
  have hlv:=hT.live _ _ hI
  have hlx:=hlva x os
  refine Ab fun K1 hK1=>?_
  refine Ak ?_
  simp (disch:=omega) only [amL,sA,sB]
  refine hK1 _ ?_
  refine Ab fun K2 hK2=>?_
  refine Ak ?_
  simp (disch:=omega) only [hnb1,hfvT,amL,sA,sF,↓reduceIte,reduceCtorEq]
  have hvc:=hT.call s x os (bd+8) hx hI hcl
  refine A9 [] (by decide) hvc (fun n hn=>hfree n (by omega)) (Nat.le_add_right bd 8) (fun res os2 hR hcl2 hlv2=>?_)
  obtain ⟨rfl,hI2,hfr2⟩:=hR
  simp (disch:=omega) only [amL,sA,↓reduceIte]
  refine hK2 _ ?_
  refine Af ?_
  try simp (disch:=omega) only [amL]
  obtain ⟨g1,g2,g3⟩:=hT.drop hcl hfree hI hI2 (fun n hn hF=>hfr2 n hF)
  refine Bj (res:=bl _) (Dg bd os2) (by simp (disch:=omega) only [amL,↓reduceIte]; try rfl) (F1 _ _) g1 (AV.lives_p _ _) ⟨rfl,⟨g2,?_⟩,fun n hn=>g3 n (fun h=>hn (.inl h))⟩
  rw [g3 nb hnb]; exact hnb1
theorem Ze {P:Program} {ps p2:String} {σ α:Type} {tS tE tF tI tB:Nat} {arg:α→AV} {enc:α→List PV} [Inhabited α] (hE:ElT P tS tE arg enc) {fI fC f1 fA:Nat} (hF:Jn P tS tE tF tI tB fI fC) (hA:∃ fn,P.funcs[fA]?=some fn∧fn.body=some (Aam ps p2 tS tF tB fC f1)∧fn.ntmps=9∧fn.results.toList=[.tmp 4]∧Be P fA=true) {ff:Fn} {fs cs:List AV} {F:Nat→Prop} {l:List α} {I:σ→(Nat→Option AO)→Prop} {step:σ→α→σ × Bool} (hl:l.length < 1000000) (hT:Gq P (.fn ff fs cs) F arg l I step) (hU:Al5 P f1 (.fn ff fs cs) F arg l I step) (hfv:∀ m,(AV.fn ff fs cs).clean m=false→F m) {s:σ} {os:Nat→Option AO} {bd:Nat} (hI:I s os) :
    Bs P bd (.fn (.func fA) [] []) [.p (.sl (l.map enc)),.fn ff fs cs] os fun res os'=>res=bl ((Dy step s l).2)∧I ((Dy step s l).1) os'∧∀ n,¬ F n→os' n=os n:=by
  obtain ⟨fn,hf,hb,hN,hrs,hcal⟩:=hA
  refine B9 (v:=[fC]) (q:=[]) (N:=9) (rs:=[.tmp 4]) hf hb hcal hN hrs (fun hcl hfree=>?_)
  have hfr0:∀ k,os (bd+k)=none:=fun k=>hfree _ (by omega)
  have hFb:∀ n,F n→n < bd:=fun n hn=>by obtain ⟨o,h,_⟩:=hT.foot s os n hI hn; exact Bb hfree h
  have hlv:=hT.live _ _ hI
  have hcl0:(Hp (upd os (bd+3) (some (.cells [.fn ff fs cs])))).closed:=Ce hcl (by
    rw [Dh,Bv,Cc]
    exact ⟨AV.lives_mono (fun n hn=>by
                                         by_cases e:n=bd+3; · subst e; rw [Ay]; rfl
                                         · rw [Ac e]; exact hn) hlv,trivial⟩)
  have hI0:I s (upd os (bd+3) (some (.cells [.fn ff fs cs]))):=hT.stable s os _ hI (fun n hn=>Ac (by have:=hFb n hn; omega))
  have ht:=Anf hU hT (nb:=bd+3) (fun h=>by have:=hFb _ h; omega) hfv
  obtain ⟨sa1,sa2⟩:=Sp (step:=step) l s 0
  have cC:=Am0 hE hF (bd:=bd+9) hl ht (s:=s) (os:=upd os (bd+3) (some (.cells [.fn ff fs cs]))) ⟨hI0,Ay⟩
  refine Ab fun K1 hK1=>?_
  refine Ak ?_
  simp (disch:=omega) only [hfr0,amL,sA,sB,↓reduceIte,reduceCtorEq]
  refine hK1 _ ?_
  refine Ab fun K2 hK2=>?_
  refine Ak ?_
  simp (disch:=omega) only [amL,sA,sF,↓reduceIte,reduceCtorEq]
  refine A9 [] (by decide) cC (fun n hn=>by first | exact hfree n (by omega) | (rw [Ac (by omega)]; exact hfree n (by omega))) (Nat.le_add_right bd 9) (fun res os2 hR hcl2 hlv2=>?_)
  obtain ⟨rfl,⟨hI2,_⟩,hfr2⟩:=hR
  simp (disch:=omega) only [amL,sA,↓reduceIte]
  refine hK2 _ ?_
  refine Af ?_
  try simp (disch:=omega) only [amL]
  rw [sa1] at hI2
  obtain ⟨g1,g2,g3⟩:=hT.drop hcl hfree hI hI2 (fun n hn hF=>by rw [hfr2 n (fun h=>h.elim hF (fun e=>by omega)),Ac (by omega)])
  refine Bj (res:=bl _) (Dg bd os2) (by simp (disch:=omega) only [amL,↓reduceIte]; try rfl) (F1 _ _) g1 (AV.lives_p _ _) ⟨by rw [sa2],g2,g3⟩
theorem Aku {P:Program} {ps p2:String} {σ α:Type} {tS tE tF tI tB:Nat} {arg:α→AV} {enc:α→List PV} [Inhabited α] (hE:ElT P tS tE arg enc) {fI fC f1 fA:Nat} (hF:Jn P tS tE tF tI tB fI fC) (hA:W7 P ps p2 tS tE tF tB fC f1 fA) (hfvT:(Aa P tF).agg=some false) {ff:Fn} {fs cs:List AV} {F:Nat→Prop} {l:List α} {I:σ→(Nat→Option AO)→Prop} {step:σ→α→σ × Bool} (hl:l.length < 1000000) (hT:Gq P (.fn ff fs cs) F arg l I step) (hfv:∀ m,(AV.fn ff fs cs).clean m=false→F m) {s:σ} {os:Nat→Option AO} {bd:Nat} (hI:I s os) :
    Bs P bd (.fn (.func fA) [] []) [.p (.sl (l.map enc)),.fn ff fs cs] os fun res os'=>res=bl ((Dy step s l).2)∧I ((Dy step s l).1) os'∧∀ n,¬ F n→os' n=os n:=
  Ze hE hF hA.2 hl hT (fun _ hnb _ _ _ _ hx hI h=>Akj hE hA hfvT hT hnb hx hI h) hfv hI
theorem Tb {P:Program} {ps p2:String} {σ α:Type} {tS tE tF tI tB:Nat} {arg:α→AV} {enc:α→List PV} [Inhabited α] (hE:ElT P tS tE arg enc) {fI fC f1 fA:Nat} (hF:Jn P tS tE tF tI tB fI fC) (hA:Qv P ps p2 tS tE tF tB fC f1 fA) (hfvT:(Aa P tF).agg=some false) {ff:Fn} {fs cs:List AV} {F:Nat→Prop} {l:List α} {I:σ→(Nat→Option AO)→Prop} {step:σ→α→σ × Bool} (hl:l.length < 1000000) (hT:Gq P (.fn ff fs cs) F arg l I step) (hfv:∀ m,(AV.fn ff fs cs).clean m=false→F m) {s:σ} {os:Nat→Option AO} {bd:Nat} (hI:I s os) :
    Bs P bd (.fn (.func fA) [] []) [.p (.sl (l.map enc)),.fn ff fs cs] os fun res os'=>res=bl ((Dy step s l).2)∧I ((Dy step s l).1) os'∧∀ n,¬ F n→os' n=os n:=
  Ze hE hF hA.2 hl hT (Agl hA (fun x os=>hE.lv os x) hfvT hT) hfv hI
theorem Aht {P:Program} {ps p2:String} {α:Type} {tS tE tF tI tB:Nat} {arg:α→AV} {enc:α→List PV} [Inhabited α] (hE:ElT P tS tE arg enc) {fI fC f1 fA:Nat} (hF:Jn P tS tE tF tI tB fI fC) (hA:W7 P ps p2 tS tE tF tB fC f1 fA) (hfvT:(Aa P tF).agg=some false) {f:Nat} {fs:List AV} {l:List α} {g:α→Bool} (hcal:Be P f=true) (hfs:fs.all AV.isP=true) (h:∀ x ∈ l,Bo P f (fs++[arg x]) (bl (g x))) (hl:l.length < 1000000) {os:Nat→Option AO} {bd:Nat} :
    Bs P bd (.fn (.func fA) [] []) [.p (.sl (l.map enc)),.fn (.func f) fs []] os fun res os'=>res=bl (l.all g)∧os'=os:=by
  have hc:∀ m,(AV.fn (.func f) fs []).clean m=false→False:=fun m hm=>by
    have h1:AV.clean.cleanL m fs=true:=(Bl m fs).2 fun i x hx=>Mo (List.all_eq_true.1 hfs x (List.mem_of_getElem? hx)) m
    rw [AV.clean,h1] at hm; cases hm
  refine Bs.mono (Aku hE hF hA hfvT hl (Abj hcal hfs h) (fun m hm=>hc m hm) (s:=()) (bd:=bd) trivial) ?_
  rintro r os' ⟨rfl,_,hfr⟩
  exact ⟨by rw [M7],funext fun n=>hfr n id⟩
theorem Ait {P:Program} {ps p2:String} {α:Type} {tS tE tF tI tB:Nat} {arg:α→AV} {enc:α→List PV} [Inhabited α] (hE:ElT P tS tE arg enc) {fI fC f1 fA:Nat} (hF:Jn P tS tE tF tI tB fI fC) (hA:Qv P ps p2 tS tE tF tB fC f1 fA) (hfvT:(Aa P tF).agg=some false) {f:Nat} {fs:List AV} {l:List α} {g:α→Bool} (hcal:Be P f=true) (hfs:fs.all AV.isP=true) (h:∀ x ∈ l,Bo P f (fs++[arg x]) (bl (g x))) (hl:l.length < 1000000) {os:Nat→Option AO} {bd:Nat} :
    Bs P bd (.fn (.func fA) [] []) [.p (.sl (l.map enc)),.fn (.func f) fs []] os fun res os'=>res=bl (l.all g)∧os'=os:=by
  have hc:∀ m,(AV.fn (.func f) fs []).clean m=false→False:=fun m hm=>by
    have h1:AV.clean.cleanL m fs=true:=(Bl m fs).2 fun i x hx=>Mo (List.all_eq_true.1 hfs x (List.mem_of_getElem? hx)) m
    rw [AV.clean,h1] at hm; cases hm
  refine Bs.mono (Tb hE hF hA hfvT hl (Abj hcal hfs h) (fun m hm=>hc m hm) (s:=()) (bd:=bd) trivial) ?_
  rintro r os' ⟨rfl,_,hfr⟩
  exact ⟨by rw [M7],funext fun n=>hfr n id⟩
end AM
end
/- The abstract machine, part 44: regions that draw their order, where the last operation comes last in each (a call that shares objects, say). -/
section
namespace AM
open Go
section
variable {P:Program} {r:RB} {N:Nat} {ops:List Oper}
theorem M4 {all:List Oper} {K:St→Prop}:∀ {l1 l2:List Oper} {s:St},EL P r N all (l1++l2) s K=EL P r N all l1 s (fun s'=>EL P r N all l2 s' K)
 | [],_,_=>rfl
 | o :: l1,l2,s=>by
  simp only [List.cons_append,EL]
  have e:(fun s'=>EL P r N all (l1++l2) s' K)=fun s'=>EL P r N all l1 s' (fun s'=>EL P r N all l2 s' K):=funext fun s'=>M4
  rw [e]
  split
  ·rfl
  ·split
   ·rfl
   ·split
    ·rw [M4]
    ·rw [M4]
    ·rfl
end
def xop (P:Program):Op→Bool
 | .fieldAddr ..=>true
 | .indexAddr ..=>true
 | .build ..=>true
 | .buildSlice ..=>true
 | .load t _=>(Aa P t).agg == some false
 | _=>false
section
variable {P:Program} {r:RB} {N:Nat} {all:List Oper} {d:Nat} {op:Op} {ρ ρ':Operand→AV} {os os':Nat→Option AO} {s:St}
theorem Aq0 (h:xop P op=true):qop op=true∧Cx op=false∧Du op=false∧isM op=false:=by
 cases op <;> first | (simp [xop] at h; done) | exact ⟨rfl,rfl,rfl,rfl⟩
theorem Tk {n:Nat} {x:AV} (h:x.purge n=x) (hu:x≠.undef):x.clean n=true:=by
 unfold AV.purge at h
 split at h
 ·assumption
 ·exact absurd h.symm hu
theorem Kn {zero:List AV} {place:Nat→Option (Nat × Nat)}:∀ {l:List (Nat × AV)} {cs:List AV},B3 zero place l=some cs→∀ p ∈ l,p.2≠.undef
 | [],_,_,p,hp=>by cases hp
 | (i,x) :: l,cs,h,p,hp=>by
  simp only [B3] at h
  split at h
  ·rename_i off sz cs' g1 g2
   split at h
   ·rcases List.mem_cons.1 hp with rfl | hp
    ·intro e
     dsimp only at e; subst e; simp [AV.cs?] at g2
    ·exact Kn h p hp
   ·cases h
  ·cases h
theorem Pn {k:Nat}:∀ {l:List (Nat × AV)} {i:Nat} {es:List (List PV)},Br k i l=some es→∀ p ∈ l,p.2≠.undef
 | [],_,_,_,p,hp=>by cases hp
 | (j,x) :: l,i,es,h,p,hp=>by
  simp only [Br] at h
  split at h
  ·rename_i c es' g1 g2
   split at h
   ·rcases List.mem_cons.1 hp with rfl | hp
    ·intro e
     dsimp only at e; subst e; simp [AV.cs?] at g1
    ·exact Pn g2 p hp
   ·cases h
  ·cases h
theorem N4 {n:Nat} {l:List (Nat × Operand)} (hρ:∀ p ∈ l,ρ' p.2=(ρ p.2).purge n) (h:∀ p ∈ l.map fun p=>(p.1,ρ' p.2),p.2≠.undef):(l.map fun p=>(p.1,ρ' p.2))=l.map fun p=>(p.1,ρ p.2):=by
 refine List.map_congr_left fun p hp=>?_
 have h1:=h (p.1,ρ' p.2) (List.mem_map.2 ⟨p,hp,rfl⟩)
 have h2:=hρ p hp
 rcases Cq n (ρ p.2) with e | e
 ·rw [h2,e]
 ·exact absurd (h2.trans e) h1
theorem Aez (h:xop P op=true) {n:Nat} (hρ:∀ x ∈ op.operands.toList,ρ' x=(ρ x).purge n) (ho:∀ m,m≠n→os' m=(os m).map (AO.purge n)) {e:Eff} (he:eff P d op ρ' os'=some e) (hgood:∀ y,e=.pure y→y.clean n=true) :
  (∃ y y',e=.pure y∧y=y'.purge n∧eff P d op ρ os=some (.pure y'))∨(∃ k es len,e=.new (.arr k es) (.own d len)∧eff P d op ρ os=some e):=by
 cases op with
 | load t x=>
  have hld:∀ ρ os,eff P d (.load t x) ρ os=Ec (Aa P t).agg (Aa P t).sz os (ρ x):=fun _ _=>rfl
  rw [hld] at he ⊢
  have hx:=hρ x (by simp [Op.operands])
  have hag:(Aa P t).agg=some false:=by simpa [xop] using h
  rw [hag] at he ⊢
  rcases Cq n (ρ x) with e1 | e1
  ·have hxx:ρ' x=ρ x:=hx.trans e1
   rw [hxx] at he
   left
   cases hv:ρ x with
   | ptr m off=>
    have hmn:m≠n:=fun em=>by
     have hcl:=Tk e1 (by rw [hv]; intro h; cases h)
     rw [hv] at hcl; simp [AV.clean,em] at hcl
    rw [hv,Ej,ho m hmn] at he
    rw [Ej]
    cases hm:os m with
    | none=>rw [hm] at he; cases he
    | some o=>
     rw [hm,Option.map_some] at he
     cases o with
     | cells cs=>
      simp only [AO.purge,Hc,Al,Bool.false_eq_true,if_false,← List.map_drop,List.head?_map] at he ⊢
      cases hc:(cs.drop off).head? with
      | none=>rw [hc] at he; cases he
      | some z=>
       rw [hc] at he
       cases he
       exact ⟨_,z,rfl,rfl,rfl⟩
     | arr k es=>cases he
     | obj X=>cases he
     | it k X=>(simp only [AO.purge] at he; split at he <;> cases he)
     | loop k tm=>cases he
   | eptr m k i off=>
    have hmn:m≠n:=fun em=>by
     have hcl:=Tk e1 (by rw [hv]; intro h; cases h)
     rw [hv] at hcl; simp [AV.clean,em] at hcl
    rw [hv,Ew,ho m hmn] at he
    rw [Ew]
    cases hm:os m with
    | none=>rw [hm] at he; cases he
    | some o=>
     rw [hm,Option.map_some] at he
     cases o with
     | cells cs=>cases he
     | arr k es=>
      simp only [AO.purge] at he
      simp only [Ta] at he ⊢
      split at he
      ·rename_i hcnd
       rw [if_pos hcnd]
       simp only [Al,Bool.false_eq_true,if_false] at he ⊢
       rw [List.head?_map] at he ⊢
       cases hc:((es.getD i []).drop off).head? with
       | none=>rw [hc] at he; cases he
       | some z=>rw [hc] at he; cases he; exact ⟨_,.p z,rfl,rfl,rfl⟩
      ·cases he
     | obj X=>cases he
     | it k X=>(simp only [AO.purge] at he; split at he <;> cases he)
     | loop k tm=>cases he
   | p z=>
    cases z with
    | ro cs=>
     rw [hv,Hs] at he
     rw [Hs]
     simp only [Al,Bool.false_eq_true,if_false,List.head?_map] at he ⊢
     cases hc:cs.head? with
     | none=>rw [hc] at he; cases he
     | some z=>rw [hc] at he; cases he; exact ⟨_,.p z,rfl,rfl,rfl⟩
    | val v=>rw [hv] at he; cases he
    | sl es=>rw [hv] at he; cases he
   | _=>rw [hv] at he; cases he
  ·rw [hx,e1] at he; cases he
 | fieldAddr t x f=>
  have hx:=hρ x (by simp [Op.operands])
  left
  rcases Cq n (ρ x) with e1 | e1
  ·have hxx:ρ' x=ρ x:=hx.trans e1
   simp only [eff,hxx] at he ⊢
   split at he
   ·split at he
    ·split at he
     ·cases he
     ·rename_i hz
      rw [if_neg hz]
      split at he
      ·rename_i m off hv
       cases he
       exact ⟨_,_,rfl,(if_pos (hgood _ rfl)).symm,rfl⟩
      ·rename_i m k i off hv
       cases he
       exact ⟨_,_,rfl,(if_pos (hgood _ rfl)).symm,rfl⟩
      ·cases he
       exact ⟨_,_,rfl,rfl,rfl⟩
      ·cases he
    ·cases he
   ·cases he
  ·simp only [eff,hx,e1] at he
   split at he
   ·split at he
    ·split at he <;> cases he
    ·cases he
   ·cases he
 | build t parts=>
  left
  have key:∀ p ∈ parts.toList,ρ' p.2=(ρ p.2).purge n:=fun p hp=>hρ p.2 (by simp only [Op.operands]; exact List.mem_map.2 ⟨p,hp,rfl⟩)
  simp only [eff] at he ⊢
  split at he
  ·rename_i hz
   rw [if_pos hz]
   split at he
   ·split at he
    ·cases he
    ·rename_i hb
     rw [if_neg hb]
     obtain ⟨cs,h1,rfl⟩:=Option.map_eq_some_iff.1 he
     have hs:=N4 key (Kn h1)
     rw [hs] at h1
     exact ⟨_,.agg cs,rfl,(if_pos (hgood _ rfl)).symm,by rw [h1]; rfl⟩
   ·split at he
    ·cases he
    ·rename_i hb
     rw [if_neg hb]
     obtain ⟨cs,h1,rfl⟩:=Option.map_eq_some_iff.1 he
     have hs:=N4 key (Kn h1)
     rw [hs] at h1
     exact ⟨_,.agg cs,rfl,(if_pos (hgood _ rfl)).symm,by rw [h1]; rfl⟩
   ·cases he
  ·cases he
 | buildSlice t len parts=>
  right
  have key:∀ p ∈ parts.toList,ρ' p.2=(ρ p.2).purge n:=fun p hp=>hρ p.2 (by simp only [Op.operands]; exact List.mem_map.2 ⟨p,hp,rfl⟩)
  simp only [eff] at he ⊢
  split at he
  ·split at he
   ·rename_i es h1
    have hs:=N4 key (Pn h1)
    rw [hs] at h1
    rw [h1]
    dsimp only
    split at he
    ·rename_i hc
     rw [if_pos hc]
     cases he
     exact ⟨_,_,_,rfl,rfl⟩
    ·cases he
   ·cases he
  ·cases he
 | indexAddr t x i=>
  left
  have hx:=hρ x (by simp [Op.operands])
  have hi:=hρ i (by simp [Op.operands])
  have hii:ρ' i=ρ i∨ρ' i=.undef:=by
   rcases Cq n (ρ i) with e1 | e1
   ·exact .inl (hi.trans e1)
   ·exact .inr (hi.trans e1)
  have hxx:ρ' x=ρ x∨ρ' x=.undef:=by
   rcases Cq n (ρ x) with e1 | e1
   ·exact .inl (hx.trans e1)
   ·exact .inr (hx.trans e1)
  rcases hii with hii | hii
  ·rcases hxx with hxx | hxx
   ·have hcl:ρ x≠.undef→(ρ x).clean n=true:=fun hu=>Tk (hx.symm.trans hxx) hu
    simp only [eff,hii,hxx] at he ⊢
    split at he
    ·split at he
     ·split at he
      ·rename_i hc
       rw [if_pos hc]; cases he
       exact ⟨_,_,rfl,rfl,rfl⟩
      ·cases he
     ·rename_i m len hv
      have hcl:=hcl (by rw [hv]; intro h; cases h)
      rw [hv] at hcl
      have hmn:m≠n:=fun em=>by simp [AV.clean,em] at hcl
      rw [ho m hmn] at he
      cases hm:os m with
      | none=>rw [hm] at he; cases he
      | some o=>
       rw [hm] at he
       cases o with
       | arr k es=>
        simp only [Option.map_some,AO.purge] at he ⊢
        split at he
        ·rename_i hc
         rw [if_pos hc]; cases he
         exact ⟨_,_,rfl,(if_pos (hgood _ rfl)).symm,rfl⟩
        ·cases he
       | cells cs=>cases he
       | obj X=>cases he
       | it k X=>(by_cases hkn:k=n <;> simp [AO.purge,hkn] at he)
       | loop k tm=>cases he
     ·rename_i m off k len hv
      split at he
      ·rename_i hc
       rw [if_pos hc]; cases he
       exact ⟨_,_,rfl,(if_pos (hgood _ rfl)).symm,rfl⟩
      ·cases he
     ·cases he
    ·split at he
     ·rename_i m off hv
      split at he
      ·rename_i hc
       rw [if_pos hc]; cases he
       exact ⟨_,_,rfl,(if_pos (hgood _ rfl)).symm,rfl⟩
      ·cases he
     ·split at he
      ·rename_i hc
       rw [if_pos hc]; cases he
       exact ⟨_,_,rfl,rfl,rfl⟩
      ·cases he
     ·cases he
    ·cases he
   ·simp only [eff,hxx] at he
    split at he <;> first | cases he | (split at he <;> cases he)
  ·simp only [eff,hii] at he
   split at he <;> first | contradiction | (cases he; done)
 | _=>simp [xop] at h
theorem Aia {x:AV} (h:∀ m,x.clean m=false→os' m=os m):Dd os' x=Dd os x:=by
 cases x with
 | own m len=>simp only [Dd]; rw [h m (by simp [AV.clean])]
 | csl m off k len=>simp only [Dd]; rw [h m (by simp [AV.clean])]
 | _=>rfl
theorem Aiu (h:G7 op=true) (ho:∀ x ∈ op.operands.toList,∀ m,(ρ x).clean m=false→os' m=os m):eff P d op ρ os'=eff P d op ρ os:=by
 unfold G7 at h
 split at h
 ·rename_i az ts
  have hm:∀ x ∈ az.toList,∀ m,(ρ x).clean m=false→os' m=os m:=fun x hx=>ho x (by simp [Op.operands,Call.operands]; simpa using hx)
  simp only [eff]
  cases hts:ts.toList with
  | nil=>rfl
  | cons t r=>cases r with
   | nil=>rfl
   | cons t' r=>cases r with
    | cons _ _=>rfl
    | nil=>cases hargs:az.toList with
     | nil=>rfl
     | cons x l=>cases l with
      | nil=>rfl
      | cons y l=>cases l with
       | cons _ _=>rfl
       | nil=>
        rw [hargs] at hm
        have h1:=hm x (by simp)
        have h2:=Aia (hm y (by simp))
        simp only [h2]
        by_cases hz:∃ n len,ρ x=.own n len
        ·obtain ⟨n,len,e⟩:=hz
         rw [e] at h1 ⊢
         have h3:=h1 n (by simp [AV.clean])
         simp only [h3]
        ·split
         ·split
          ·split
           ·split
            ·rename_i e; simp only []
            ·rename_i n len e; exact absurd ⟨n,len,e⟩ hz
            ·rfl
           ·rfl
          ·rfl
         ·rfl
 ·cases h
def Ac0 (r:RB) (s:St) (i:Oper):Prop:=∀ d,i.dst=some d→s.o (r.b+d)=none
def Rx (r:RB) (o:Oper) (s s1:St):Prop:=∀ m,s.o m=none→(∀ d,o.dst=some d→m≠r.b+d)→s1.o m=none
def Jk (v:List Nat) (o:Oper):Bool:=o.guard.isNone&&!isM o.op&&!isV v o.op&&!Cx o.op&&!Du o.op&&(qop o.op||G7 o.op||Ml o.op)
theorem Nl {v:List Nat} {o:Oper} (h:Jk v o=true):o.guard=none∧isM o.op=false∧isV v o.op=false∧Cx o.op=false∧Du o.op=false∧(qop o.op=true∨G7 o.op=true∨Ml o.op=true):=by
 simp only [Jk,Bool.and_eq_true,Bool.or_eq_true,Bool.not_eq_true',Option.isNone_iff_eq_none] at h
 obtain ⟨⟨⟨⟨⟨h1,h2⟩,h3⟩,h4⟩,h5⟩,h6⟩:=h
 exact ⟨h1,h2,h3,h4,h5,h6.elim (fun h=>h.elim .inl fun h=>.inr (.inl h)) fun h=>.inr (.inr h)⟩
theorem S4 {o:Oper} (h:Jk r.v o=true) (hc:s.closed) {e:Eff} {s1:St} (he:eff P (r.b+o.dst.getD 0) o.op (ev s.t) s.o=some e) (hs:e.apply r.b o.dst s=some s1):s1.closed∧Rx r o s s1:=by
 obtain ⟨h1,h2,h3,h4,h5,h6⟩:=Nl h
 rcases h6 with h6 | h6 | h6
 ·have hg:=L9 (P:=P) (d:=r.b+o.dst.getD 0) h6 h4 hc e he
  cases e with
  | pure x=>
   cases hs
   exact ⟨C3 hc hg,fun m hm _=>by cases o.dst <;> exact hm⟩
  | new a x=>
   obtain ⟨d,hd,hn,rfl⟩:=Di hs
   refine ⟨D3 hc hg.1 (fun m hm=>by have:=hg.2 m hm; rw [hd] at this; exact this),fun m hm hne=>?_⟩
   show upd s.o (r.b+d) _ m=none
   rw [Ap (hne d hd)]; exact hm
  | upd n a=>exact hg.elim
  | app n a x=>exact hg.elim
 ·rcases Gy h6 he with ⟨k,es,len,rfl⟩ | ⟨n,k,es,len,rfl⟩
  ·obtain ⟨d,hd,_,rfl⟩:=Di hs
   refine ⟨D3 hc (AO.lives_arr _ _ _) (fun m hm=>by rw [hd] at hm; exact Em m hm),fun m hm hne=>?_⟩
   show upd s.o (r.b+d) _ m=none
   rw [Ap (hne d hd)]; exact hm
  ·obtain ⟨d,hd,_,rfl⟩:=E3 hs
   refine ⟨D3 (E4 hc n) (AO.lives_arr _ _ _) (fun m hm=>by rw [hd] at hm; exact Em m hm),fun m hm hne=>?_⟩
   show upd (s.purge n).o (r.b+d) _ m=none
   rw [Ap (hne d hd)]
   by_cases e:m=n
   ·subst e; exact St.purge_o_same ..
   ·rw [St.purge_o_other s e,hm]; rfl
 ·obtain ⟨n,ob,rfl,h5,h7⟩:=Gx h6 hc he
  cases hs
  refine ⟨C3 (G0 hc h5) (AV.lives_undef _),fun m hm _=>?_⟩
  have:((s.setO n ob).put o.dst .undef).o m=upd s.o n (some ob) m:=by cases o.dst <;> rfl
  rw [this,Ap (fun e=>by subst e; rw [hm] at h7; cases h7)]
  exact hm
def Aah:Op→Bool
 | .load ..=>true
 | _=>false
theorem Wf {d:Nat} {op:Op} {ρ:Operand→AV} {os:Nat→Option AO} {e:Eff} (h:Aah op=true) (he:eff P d op ρ os=some e):∃ y,e=.pure y:=by
 cases op <;> first | (simp [Aah] at h; done) | skip
 rename_i t x
 have he:Ec (Aa P t).agg (Aa P t).sz os (ρ x)=some e:=he
 unfold Ec at he
 split at he
 ·cases he
 ·split at he
  ·split at he
   ·obtain ⟨y,_,rfl⟩:=Option.map_eq_some_iff.1 he; exact ⟨y,rfl⟩
   ·cases he
  ·split at he
   ·split at he
    ·obtain ⟨y,_,rfl⟩:=Option.map_eq_some_iff.1 he; exact ⟨y,rfl⟩
    ·cases he
   ·cases he
  ·obtain ⟨y,_,rfl⟩:=Option.map_eq_some_iff.1 he; exact ⟨y,rfl⟩
  ·cases he
theorem Ab0 {j i:Oper} {l:List Oper} {K:St→Prop} (hj:G7 j.op=true) (hjg:j.guard=none) (hi:xop P i.op=true) (hig:i.guard=none) (hap:j.apart all.toArray i=true) (hc:s.closed) (hfr:Aah i.op=false→Ac0 r s i) (hE:EL P r N all (j :: i :: l) s K):EL P r N all (i :: j :: l) s K:=by
 obtain ⟨f1,f2,f3⟩:=F7 hj
 obtain ⟨q1,q2,q3,q4⟩:=Aq0 hi
 obtain ⟨a1,a2,a3⟩:=Oper.apart_spec hap
 rw [Bd hjg f1 f2 f3] at hE
 obtain ⟨h1,e,s1,he,hs1,h2⟩:=hE
 rw [Bd hig q2 q3 q4] at h2
 obtain ⟨h3,e2,s2,he2,hs2,h4⟩:=h2
 have hlook:∀ x ∈ i.op.operands.toList,∀ d,j.dst=some d→x≠.tmp d:=fun x hx d hd hxd=>a1 d hd (Cs hx hxd)
 have hlook2:∀ x ∈ j.op.operands.toList,∀ d,i.dst=some d→x≠.tmp d:=fun x hx d hd hxd=>a3 d hd (Cs hx hxd)
 have done:∀ s' e2',eff P (r.b+i.dst.getD 0) i.op (ev s.t) s.o=some e2'→e2'.apply r.b i.dst s=some s'→eff P (r.b+j.dst.getD 0) j.op (ev s'.t) s'.o=some e→e.apply r.b j.dst s'=some s2→EL P r N all (i :: j :: l) s K:=fun s' e2' g1 g2 g3 g4=>by
  rw [Bd hig q2 q3 q4]
  refine ⟨h3,e2',s',g1,g2,?_⟩
  rw [Bd hjg f1 f2 f3]
  exact ⟨h1,e,s2,g3,g4,h4⟩
 have live:∀ x:Operand,∀ m,(ev s.t x).clean m=false→(s.o m).isSome=true:=fun x m hm=>J6 hc x m hm
 rcases Gy hj he with ⟨k,es,len,rfl⟩ | ⟨n,k,es,len,rfl⟩
 ·obtain ⟨d,hd,hn,rfl⟩:=Di hs1
  have he0:eff P (r.b+i.dst.getD 0) i.op (ev s.t) s.o=some e2:=by
   rw [← he2]
   refine (Hi q1 q2 ⟨fun x hx=>Lh (hlook x hx d hd),fun x hx m hm=>?_⟩).symm
   show upd s.o (r.b+d) _ m=s.o m
   refine Ap fun em=>?_
   have:=live x m hm
   rw [em,hn] at this; cases this
  have hg:=L9 (P:=P) (d:=r.b+i.dst.getD 0) q1 q2 hc e2 he0
  cases e2 with
  | pure y=>
   have hs2:s2=((s.setO (r.b+d) (.arr k es)).put (some d) (.own (r.b+j.dst.getD 0) len)).put i.dst y:=by cases hs2; rfl
   have ho:(s.put i.dst y).o=s.o:=by cases i.dst <;> rfl
   refine done (s.put i.dst y) (.pure y) he0 rfl ?_ ?_
   ·rw [ho,← he]; exact Fv hj fun x hx=>Gi (hlook2 x hx)
   ·rw [hs2,hd]
    have:((s.put i.dst y).o (r.b+d)).isNone=true:=by rw [ho,hn]; rfl
    simp only [Eff.apply,this,if_true,Option.some.injEq]
    cases hid:i.dst with
    | none=>rfl
    | some d2=>
     have hne:d2≠d:=fun e=>a2 d hd (by rw [hid,e])
     simp only [St.put,St.setO,Cp hne]
  | new a x=>
   obtain ⟨d2,hd2,hn2,rfl⟩:=Di hs2
   have hne:d2≠d:=fun e=>a2 d hd (by rw [hd2,e])
   have hldf:Aah i.op=false:=by
    cases hl:Aah i.op with
    | false=>rfl
    | true=>obtain ⟨y,hy⟩:=Wf hl he0; cases hy
   have hfree:=hfr hldf d2 hd2
   refine done ((s.setO (r.b+d2) a).put (some d2) x) (.new a x) he0 (by rw [hd2]; simp [Eff.apply,hfree]) ?_ ?_
   ·rw [← he]
    have e1:eff P (r.b+j.dst.getD 0) j.op (ev ((s.setO (r.b+d2) a).put (some d2) x).t) ((s.setO (r.b+d2) a).put (some d2) x).o=eff P (r.b+j.dst.getD 0) j.op (ev s.t) ((s.setO (r.b+d2) a).put (some d2) x).o:=Fv hj fun x hx=>Lh (hlook2 x hx d2 hd2)
    rw [e1]
    refine Aiu hj fun x hx m hm=>?_
    show upd s.o (r.b+d2) _ m=s.o m
    refine Ap fun em=>?_
    have:=live x m hm
    rw [em,hfree] at this; cases this
   ·rw [hd]
    have:(((s.setO (r.b+d2) a).put (some d2) x).o (r.b+d)).isNone=true:=by
     show (upd s.o (r.b+d2) _ (r.b+d)).isNone=true
     rw [Ap (by omega),hn]; rfl
    simp only [Eff.apply,this,if_true,Option.some.injEq]
    simp only [St.put,St.setO]
    rw [Cp (f:=s.t) hne,Cp (f:=s.o) (show r.b+d2≠r.b+d by omega)]
  | upd n a=>exact hg.elim
  | app n a x=>exact hg.elim
 ·obtain ⟨d,hd,hn,rfl⟩:=E3 hs1
  have hcp:=E4 hc n
  have he0:eff P (r.b+i.dst.getD 0) i.op (ev (s.purge n).t) (s.purge n).o=some e2:=by
   rw [← he2]
   refine (Hi q1 q2 ⟨fun x hx=>Lh (hlook x hx d hd),fun x hx m hm=>?_⟩).symm
   show upd (s.purge n).o (r.b+d) _ m=(s.purge n).o m
   refine Ap fun em=>?_
   have:=J6 hcp x m hm
   rw [em,hn] at this; cases this
  have hg:=L9 (P:=P) (d:=r.b+i.dst.getD 0) q1 q2 hcp e2 he0
  have hgood:∀ y,e2=.pure y→y.clean n=true:=fun y hy=>by
   subst hy
   cases hcl:y.clean n with
   | true=>rfl
   | false=>
    have:=hg n hcl
    rw [St.purge_o_same] at this; cases this
  rcases Aez hi (fun x _=>S2 x) (fun m hm=>St.purge_o_other s hm) he0 hgood with ⟨y,y',rfl,hy,he'⟩ | ⟨k2,es2,len2,rfl,he'⟩
  ·have hs2:s2=(((s.purge n).setO (r.b+d) (.arr k es)).put (some d) (.own (r.b+j.dst.getD 0) len)).put i.dst y:=by cases hs2; rfl
   have ho:(s.put i.dst y').o=s.o:=by cases i.dst <;> rfl
   refine done (s.put i.dst y') (.pure y') he' rfl ?_ ?_
   ·rw [ho,← he]; exact Fv hj fun x hx=>Gi (hlook2 x hx)
   ·rw [hs2,hd]
    have hp:((s.put i.dst y').purge n).o=(s.purge n).o:=by cases i.dst <;> rfl
    have:(((s.put i.dst y').purge n).o (r.b+d)).isNone=true:=by rw [hp,hn]; rfl
    simp only [Eff.apply,this,if_true,Option.some.injEq]
    cases hid:i.dst with
    | none=>rfl
    | some d2=>
     have hne:d2≠d:=fun e=>a2 d hd (by rw [hid,e])
     simp only [St.put,St.setO]
     congr 1
     show upd (fun i=>(upd s.t d2 y' i).purge n) d _=upd (upd (fun i=>(s.t i).purge n) d _) d2 y
     rw [Cp (Ne.symm hne)]
     congr 1
     funext q
     unfold upd
     by_cases hq:q=d2
     ·subst hq; simp [hy]
     ·simp [hq]
  ·obtain ⟨d2,hd2,hn2,rfl⟩:=Di hs2
   have hne:d2≠d:=fun e=>a2 d hd (by rw [hd2,e])
   have hldf:Aah i.op=false:=by
    cases hl:Aah i.op with
    | false=>rfl
    | true=>obtain ⟨y,hy⟩:=Wf hl he0; cases hy
   have hfree:=hfr hldf d2 hd2
   have hown:(AV.own (r.b+i.dst.getD 0) len2).purge n=.own (r.b+i.dst.getD 0) len2:=by
    refine if_pos ?_
    obtain ⟨k3,es3,h3⟩:=Acw hj he
    simp only [AV.clean,hd2,Option.getD_some,bne_iff_ne,ne_eq]
    intro em
    rw [← em,hfree] at h3; cases h3
   have hnn:r.b+d2≠n:=fun em=>by
    obtain ⟨k3,es3,h3⟩:=Acw hj he
    rw [← em,hfree] at h3; cases h3
   refine done ((s.setO (r.b+d2) (.arr k2 es2)).put (some d2) (.own (r.b+i.dst.getD 0) len2)) _ he' (by rw [hd2]; simp [Eff.apply,hfree]) ?_ ?_
   ·rw [← he]
    have e1:eff P (r.b+j.dst.getD 0) j.op (ev ((s.setO (r.b+d2) (.arr k2 es2)).put (some d2) (.own (r.b+i.dst.getD 0) len2)).t) ((s.setO (r.b+d2) (.arr k2 es2)).put (some d2) (.own (r.b+i.dst.getD 0) len2)).o=eff P (r.b+j.dst.getD 0) j.op (ev s.t) ((s.setO (r.b+d2) (.arr k2 es2)).put (some d2) (.own (r.b+i.dst.getD 0) len2)).o:=Fv hj fun x hx=>Lh (hlook2 x hx d2 hd2)
    rw [e1]
    refine Aiu hj fun x hx m hm=>?_
    show upd s.o (r.b+d2) _ m=s.o m
    refine Ap fun em=>?_
    have:=live x m hm
    rw [em,hfree] at this; cases this
   ·rw [hd]
    have hpo:(((s.setO (r.b+d2) (.arr k2 es2)).put (some d2) (.own (r.b+i.dst.getD 0) len2)).purge n).o=upd (s.purge n).o (r.b+d2) (some (.arr k2 es2)):=by
     funext m
     show (if m=n then none else (upd s.o (r.b+d2) (some (.arr k2 es2)) m).map (AO.purge n))=_
     by_cases em:m=r.b+d2
     ·subst em
      rw [if_neg hnn]
      unfold upd; simp [AO.purge]
     ·rw [Ap em,Ap em]; rfl
    have hpt:(((s.setO (r.b+d2) (.arr k2 es2)).put (some d2) (.own (r.b+i.dst.getD 0) len2)).purge n).t=upd (s.purge n).t d2 (.own (r.b+i.dst.getD 0) len2):=by
     funext q
     show (upd s.t d2 (.own (r.b+i.dst.getD 0) len2) q).purge n=upd (fun i=>(s.t i).purge n) d2 _ q
     unfold upd
     by_cases hq:q=d2
     ·subst hq; simp [hown]
     ·simp [hq]
    have:((((s.setO (r.b+d2) (.arr k2 es2)).put (some d2) (.own (r.b+i.dst.getD 0) len2)).purge n).o (r.b+d)).isNone=true:=by
     rw [hpo,Ap (by omega),hn]; rfl
    simp only [Eff.apply,this,if_true,Option.some.injEq]
    simp only [St.put,St.setO] at hpo hpt ⊢
    rw [hpo,hpt]
    rw [Cp (f:=(s.purge n).t) hne,Cp (f:=(s.purge n).o) (show r.b+d2≠r.b+d by omega)]
end
section
variable {P:Program} {r:RB} {N:Nat} {all:List Oper} {s:St}
theorem Anu {o:Oper} (h:Jk r.v o=true) {l l':List Oper} {K:St→Prop} (hc:s.closed) (hl:∀ s1:St,s1.closed→Rx r o s s1→EL P r N all l s1 K→EL P r N all l' s1 K) (hE:EL P r N all (o :: l) s K):EL P r N all (o :: l') s K:=by
 obtain ⟨h1,h2,h3,h4,h5,h6⟩:=Nl h
 rw [Bd h1 h4 h5 h2] at hE ⊢
 obtain ⟨g1,e,s1,g2,g3,g4⟩:=hE
 obtain ⟨k1,k2⟩:=S4 h hc g2 g3
 exact ⟨g1,e,s1,g2,g3,hl s1 k1 k2 g4⟩
def Als (P:Program) (ops:List Oper) (oj oi:Oper):Bool:=G7 oj.op&&oj.guard.isNone&&xop P oi.op&&oi.guard.isNone&&oj.apart ops.toArray oi
theorem Acm {D:(Nat→AV)→Prop} {oi:Oper} {post:List Oper} {K:St→Prop} (hK:∀ s':St,K s'→D s'.t):∀ {pre:List Oper} {s:St},s.closed→(xop P oi.op=true→Ac0 r s oi)→(∀ p1 oj p2,pre=p1++oj :: p2→Jk r.v oj=true∧(∀ d,oi.dst=some d→oj.dst≠some d)∧(Kr P r N all D oj oi (p2++post)∨Als P all oj oi=true)) →
  EL P r N all (pre++oi :: post) s K→EL P r N all (oi :: (pre++post)) s K
 | [],_,_,_,_,h=>h
 | oj :: pre,s,hc,hf,hp,h=>by
  obtain ⟨hj1,hj2,hj3⟩:=hp [] oj pre rfl
  have h1:=Anu (l':=oi :: (pre++post)) hj1 hc (fun s1 hc1 hn h1=>Acm hK hc1 (fun hx d hd=>hn _ (hf hx d hd) (fun d2 hd2 e=>by
   have e:d=d2:=Nat.add_left_cancel e
   subst e
   exact hj2 d hd hd2)) (fun p1 o2 p2 e=>hp (oj :: p1) o2 p2 (by rw [e]; rfl)) h1) h
  rcases hj3 with hj3 | hj3
  ·exact hj3 s K hc hK h1
  ·simp only [Als,Bool.and_eq_true,Option.isNone_iff_eq_none] at hj3
   obtain ⟨⟨⟨⟨k1,k2⟩,k3⟩,k4⟩,k5⟩:=hj3
   exact Ab0 k1 k2 k3 k4 k5 hc (fun _=>hf k3) h1
end
section
variable {P:Program} {r:RB} {N:Nat} {ops:List Oper}
theorem Ai3 {o:Oper} {l:List Oper} {s:St} {K:St→Prop} {i:Nat} {B:Nat} {S:Nat→Prop} {θ:Nat→Loc} {M:Nat→Prop} {w:World} {a:Act} {Q:Exit→Act→World→Prop}
  (hp:Jk r.v o=true) (hi:ops[i]?=some o) (hs:Aq N B S θ M w s a) (h:EL P r N ops (o :: l) s K) :
  wpOpIn (Wd r.rd) 0 P ops.toArray Q i (fun a' w'=>∃ s1,(EL P r N ops l s1 K∧Rx r o s s1)∧Fin r N B S θ M w a s1 a' w') a w:=by
 obtain ⟨h1,h2,h3,h4,h5,h6⟩:=Nl hp
 rw [Bd h1 h4 h5 h2] at h
 obtain ⟨g1,e,s1,g2,g3,g4⟩:=h
 obtain ⟨_,k2⟩:=S4 hp hs.cl g2 g3
 have hi':ops.toArray[i]?=some o:=by simpa using hi
 unfold wpOpIn
 simp only [hi']
 have hw:Region.wanted o (yielded ops.toArray a.tmps)=true:=by unfold Region.wanted; rw [h1]
 rw [if_pos hw]
 have hEO:EO P r N o s (fun s'=>EL P r N ops l s' K∧Rx r o s s'):=by
  unfold EO
  rw [h2,h3,h4,h5]
  simp only [Bool.false_eq_true,if_false,true_and]
  refine ⟨g1,?_⟩
  unfold EA
  simp only [g2,g3]
  exact ⟨g4,k2⟩
 exact Gw hEO B S θ M w a Q hs
theorem Afk {D:(Nat→AV)→Prop} {b:Nat→Nat} (hb:Q1 ops b) (hpl:∀ (i:Nat) (o:Oper),ops[i]?=some o→Jk r.v o=true)
  (hdist:∀ (i j:Nat) (oi oj:Oper),i≠j→ops[i]?=some oi→ops[j]?=some oj→∀ d,oi.dst=some d→oj.dst≠some d)
  (hsw:∀ (i j:Nat) (oi oj:Oper) (rest:List Nat),j < i→ops[i]?=some oi→ops[j]?=some oj→(b i).testBit j=false→(∀ k ∈ rest,j < k∧k≠i∧(k < i→(b i).testBit k=false))→Kr P r N ops D oj oi (rest.filterMap (ops[·]?))∨Als P ops oj oi=true)
  {K:St→Prop} (hK:∀ s':St,K s'→D s'.t) {Q:Exit→Act→World→Prop} :
  ∀ (fuel:Nat) (listed:Array Bool) (s:St) (B:Nat) (S:Nat→Prop) (θ:Nat→Loc) (M:Nat→Prop) (w:World) (a:Act),Aq N B S θ M w s a→listed.size=ops.length→Mr ops listed→(∀ i ∈ B7 ops.length listed,∀ o,ops[i]?=some o→xop P o.op=true→Ac0 r s o)→(B7 ops.length listed).length≤fuel →
   EL P r N ops ((B7 ops.length listed).filterMap (ops[·]?)) s K→(∀ s' a' w',K s'→Fin r N B S θ M w a s' a' w'→Q .normal a' w')→wpAnyIn (Wd r.rd) 0 P .any ops.toArray Q fuel listed a w:=by
 intro fuel
 have hready:∀ {listed:Array Bool} {x:Nat},x ∈ Region.ready .any ops.toArray listed→x ∈ B7 ops.length listed:=fun h=>((C4 rfl).1 h).1
 induction fuel with
 | zero=>
  intro listed s B S θ M w a hs hsz hcl hfr hf hE hQ
  have hnil:B7 ops.length listed=[]:=List.length_eq_zero_iff.1 (by omega)
  refine ⟨List.eq_nil_iff_forall_not_mem.2 fun x hx=>?_,?_⟩
  ·have:=hready hx
   rw [hnil] at this; cases this
  ·rw [hnil] at hE
   exact hQ s a w hE ⟨H3.refl hs,rfl⟩
 | succ fuel ih=>
  intro listed s B S θ M w a hs hsz hcl hfr hf hE hQ
  refine ⟨fun hr=>?_,fun i hi=>?_⟩
  ·have hnil:B7 ops.length listed=[]:=by
    cases hrem:B7 ops.length listed with
    | nil=>rfl
    | cons x l=>
     exfalso
     have hx:x ∈ B7 ops.length listed:=by rw [hrem]; simp
     have hsort:(B7 ops.length listed).Pairwise (· < ·):=(List.pairwise_lt_range).filter _
     rw [hrem,List.pairwise_cons] at hsort
     obtain ⟨hxn,hxl⟩:=Db.1 hx
     have:x ∈ Region.ready .any ops.toArray listed:=(C4 rfl).2 ⟨hx,ops[x],by simp [hxn],fun e he hbe=>by
      have hlt:=hb.lt x ops[x] (by simp [hxn]) e he hbe
      cases hl:listed.getD e.on false with
      | true=>rfl
      | false=>
       exfalso
       have hen:e.on < ops.length:=Nat.lt_trans hlt hxn
       have:e.on ∈ B7 ops.length listed:=Db.2 ⟨hen,by
        rw [Array.getD_eq_getD_getElem?] at hl ⊢
        have hsz':e.on < listed.size:=by omega
        simp only [Array.getElem?_eq_getElem hsz',Option.getD_some] at hl ⊢
        exact hl⟩
       rw [hrem] at this
       rcases List.mem_cons.1 this with h | h
       ·omega
       ·have:=hsort.1 _ h; omega⟩
     rw [hr] at this; cases this
   rw [hnil] at hE
   exact hQ s a w hE ⟨H3.refl hs,rfl⟩
  ·obtain ⟨hrem,o,ho,hafter⟩:=(C4 rfl).1 hi
   obtain ⟨pre,post,he,hpre,hset⟩:=Hm hsz hrem
   have hsort:(pre++i :: post).Pairwise (· < ·):=by rw [← he]; exact (List.pairwise_lt_range).filter _
   have hnl:∀ k ∈ pre++i :: post,listed.getD k true=false:=fun k hk=>(Db.1 (show k ∈ B7 ops.length listed by rw [he]; exact hk)).2
   have hne:∀ k ∈ pre++post,k≠i:=fun k hk e=>by
    subst e
    have h4:=List.pairwise_append.1 hsort
    rcases List.mem_append.1 hk with h | h
    ·have:=h4.2.2 k h k (by simp); omega
    ·have:=(List.pairwise_cons.1 h4.2.1).1 k h; omega
   have hfree:∀ k ∈ pre++post,k < i→(b i).testBit k=false:=fun k hk hki=>by
    cases ht:(b i).testBit k with
    | false=>rfl
    | true=>
     have h1:=F2 hb hcl i o ho hafter hki ht
     have h2:=hnl k (by
      rcases List.mem_append.1 hk with h | h
      ·simp [h]
      ·simp [h])
     rw [Px h2] at h1; cases h1
   rw [he,List.filterMap_append,List.filterMap_cons] at hE
   simp only [ho] at hE
   have hE':=Acm hK hs.cl (fun hx=>hfr i hrem o ho hx) (fun p1 oj p2 hp=>by
    obtain ⟨l1,j,l2,e1,e2,e3⟩:=Fh hp
    have hjp:j ∈ pre:=by rw [e1]; simp
    refine ⟨hpl j oj e2,hdist i j o oj (by have:=hpre j hjp; omega) ho e2,?_⟩
    have:=hsw i j o oj (l2++post) (hpre j hjp) ho e2 (hfree j (by simp [hjp]) (hpre j hjp)) (fun k hk=>by
     rw [e1,List.append_assoc,List.pairwise_append] at hsort
     have h3:=(List.pairwise_cons.1 hsort.2.1).1
     have hk':k ∈ l2++i :: post:=by
      rcases List.mem_append.1 hk with h | h
      ·simp [h]
      ·simp [h]
     refine ⟨h3 k hk',hne k (by
      rcases List.mem_append.1 hk with h | h
      ·rw [e1]; simp [h]
      ·simp [h]),hfree k (by
      rcases List.mem_append.1 hk with h | h
      ·rw [e1]; simp [h]
      ·simp [h])⟩)
    rw [List.filterMap_append,e3] at this
    exact this) hE
   refine wpOpIn_mono ?_ (Ai3 (hpl i o ho) ho hs hE')
   rintro a' w' ⟨s1,⟨hE1,hN1⟩,hF⟩
   obtain ⟨θ',M',hs',hcomp⟩:=hF.comp
   refine ih _ s1 B S θ' M' w' a' hs' (by simpa using hsz) ?_ ?_ ?_ ?_ (fun s' a'' w'' hK hF'=>hQ s' a'' w'' hK (hcomp _ _ _ hF'))
   ·intro k ok hk hl e hek hbe
    have hmono:∀ m,listed.getD m false=true→(listed.setIfInBounds i true).getD m false=true:=fun m hm=>by
     rw [Array.getD_eq_getD_getElem?] at hm ⊢
     rw [Array.getElem?_setIfInBounds]
     split
     ·split <;> simp_all
     ·exact hm
    by_cases hki:k=i
    ·subst hki
     rw [ho] at hk; cases hk
     exact hmono _ (hafter e hek hbe)
    ·have:listed.getD k false=true:=by
      rw [Array.getD_eq_getD_getElem?] at hl ⊢
      rw [Array.getElem?_setIfInBounds,if_neg (Ne.symm hki)] at hl
      exact hl
     exact hmono _ (hcl k ok hk this e hek hbe)
   ·intro k hk ok hok hx d hd
    rw [hset] at hk
    have hki:=hne k hk
    refine hN1 _ (hfr k (by rw [he]; rcases List.mem_append.1 hk with h | h <;> simp [h]) ok hok hx d hd) fun d2 hd2 e=>?_
    have e:d=d2:=Nat.add_left_cancel e
    subst e
    exact hdist k i ok o hki hok ho d hd hd2
   ·rw [hset]
    rw [he] at hf
    simp only [List.length_append,List.length_cons] at hf ⊢
    omega
   ·rw [hset,List.filterMap_append]
    exact hE1
def Ai6 (P:Program) (v q:List Nat) (ops tl:List Oper) (m:Nat) (i j:Nat) (oi oj:Oper):Option (List Cf):=match Zr P v q ops tl m i j oi oj with
 | some c=>some c
 | none=>if Als P ops oj oi=true then some [] else none
def Awb (P:Program) (v q:List Nat) (ops tl:List Oper) (m i:Nat) (oi:Oper):List (Oper × Nat)→Option (List Cf)
 | []=>some []
 | (oj,j) :: r=>if m.testBit j=true then Awb P v q ops tl m i oi r else
  match Ai6 P v q ops tl m i j oi oj,Awb P v q ops tl m i oi r with
  | some a,some b=>some (a++b)
  | _,_=>none
def W6:List Oper→Bool
 | []=>true
 | o :: l=>(l.all fun p=>match o.dst,p.dst with
  | some a,some b=>a != b
  | _,_=>true)&&W6 l
theorem Rg:∀ {ops:List Oper},W6 ops=true→∀ (i j:Nat) (oi oj:Oper),i≠j→ops[i]?=some oi→ops[j]?=some oj→∀ d,oi.dst=some d→oj.dst≠some d
 | [],_,i,_,_,_,_,hi,_,_,_=>by simp at hi
 | o :: l,h,i,j,oi,oj,hij,hi,hj,d,hd=>by
  simp only [W6,Bool.and_eq_true] at h
  obtain ⟨h1,h2⟩:=h
  rw [List.all_eq_true] at h1
  have key:∀ p ∈ l,∀ d,o.dst=some d→p.dst≠some d:=fun p hp d hd hp2=>by
   have:=h1 p hp
   rw [hd,hp2] at this
   simp at this
  cases i with
  | zero=>cases j with
   | zero=>exact absurd rfl hij
   | succ j=>
    simp at hi; subst hi
    simp only [List.getElem?_cons_succ] at hj
    exact key oj (List.mem_of_getElem? hj) d hd
  | succ i=>cases j with
   | zero=>
    simp at hj; subst hj
    simp only [List.getElem?_cons_succ] at hi
    exact fun h3=>key oi (List.mem_of_getElem? hi) d h3 hd
   | succ j=>
    simp only [List.getElem?_cons_succ] at hi hj
    exact Rg h2 i j oi oj (by omega) hi hj d hd
def Aor (P:Program) (r:RB) (s:St) (ops:List Oper):Prop:=∀ o ∈ ops,xop P o.op=true→Ac0 r s o
def Rf (P:Program):List Oper→List Nat
 | []=>[]
 | o :: l=>if xop P o.op=true then (match o.dst with | some d=>d :: Rf P l | none=>Rf P l) else Rf P l
theorem Vs {s:St}:∀ {ops:List Oper},(∀ d ∈ Rf P ops,s.o (r.b+d)=none)→Aor P r s ops
 | [],_,o,ho,_,_,_=>by cases ho
 | p :: l,h,o,ho,hx,d,hd=>by
  rcases List.mem_cons.1 ho with rfl | ho
  ·refine h d ?_
   simp only [Rf,hx,if_true,hd]; simp
  ·refine Vs (ops:=l) (fun d hd=>h d ?_) o ho hx d hd
   simp only [Rf]
   split
   ·split
    ·exact List.mem_cons_of_mem _ hd
    ·exact hd
   ·exact hd
def Aii (os:Nat→Option AO) (b:Nat):List Nat→Prop
 | []=>True
 | d :: l=>os (b+d)=none∧Aii os b l
theorem Vn {os:Nat→Option AO} {b:Nat}:∀ {l:List Nat},Aii os b l→∀ d ∈ l,os (b+d)=none
 | [],_,d,hd=>by cases hd
 | x :: l,h,d,hd=>by
  rcases List.mem_cons.1 hd with rfl | hd
  ·exact h.1
  ·exact Vn h.2 d hd
end
end AM
end
/- Ranges over functions that yield values; searches of the beginning of an array. -/
section
namespace AM
open Go AM AM.Duty
open Nat renaming reduceLT→sA,reduceAdd→sB,reduceMul→sC,reduceSub→sD,reduceLeDiff→sE,reduceEqDiff→sF,reduceBEq→sG
open Int renaming reduceAdd→sH,reduceSub→sI,reduceMul→sJ,reduceLT→sK,reduceLE→sL,reduceNeg→sM,reduceToNat→sN,reduceEq→sO
set_option maxHeartbeats 4000000
abbrev Abe (k:Gn) (j:Option Code):Gn:={ k with state:=if j.isNone then .ready else .done,pending:=j }
structure Aya (P:Program) (fv:AV) (F:Nat→Prop) {σ α:Type} (arg:α→AV) (l:List α) (go:σ→Prop) (I:σ→(Nat→Option AO)→Prop) (step:σ→α→σ × Bool):Prop where
 live:∀ s os,I s os→fv.lives os
 stable:∀ s os os',I s os→(∀ n,F n→os' n=os n)→I s os'
 foot:∀ s os n,I s os→F n→∃ o,os n=some o∧∀ m,o.clean m=false→F m
 next:∀ s x,x ∈ l→go s→(step s x).2=true→go (step s x).1
 call:∀ s x os bd,x ∈ l→go s→I s os→(Hp os).closed→Bs P bd fv [arg x] os fun res os'=>res=bl (step s x).2∧I (step s x).1 os'∧∀ n,¬ F n→os' n=os n
structure Ayb (P:Program) (bdL:Nat) (k:Gn) (tm:List (Nat × AV)) (v q:List Nat) (F:Nat→Prop) {σ α:Type} (arg:α→AV) (l:List α) (I:σ→(Nat→Option AO)→Prop) (bst:σ→α→σ × Option Code):Prop where
 ready:k=Abe k none
 lenp:k.ps.length=1
 psn:∀ p ∈ k.ps,p < k.n
 notF:¬ F bdL
 tmF:∀ m,(AO.loop k tm).clean m=false→F m
 stable:∀ s os os',I s os→(∀ n,F n→os' n=os n)→I s os'
 foot:∀ s os n,I s os→F n→∃ o,os n=some o∧∀ m,o.clean m=false→F m
 body:∀ s x os bd,x ∈ l→I s os→os bdL=some (.loop k tm)→(Hp os).closed→(∀ n,bd≤n→os n=none)→bdL < bd →
  ∀ rl,AWP P ⟨⟨some rl,fun _=>False⟩,bd,v,q⟩ k.n k.assign ⟨Qh k.ps [arg x] (T tm),os⟩ (Jd (fun s1=>s1.o bdL=some (.loop k tm)∧AWP P ⟨⟨some rl,fun _=>False⟩,bd,v,q⟩ k.n k.body ⟨s1.t,upd s1.o bdL (some (.loop { k with state:=.busy } tm))⟩
   (T4 bdL k tm fun res os'=>res=bl (bst s x).2.isNone∧(I (bst s x).1 os'∧os' bdL=some (.loop (Abe k (bst s x).2) tm))∧∀ n,¬ (F n∨n=bdL)→os' n=os n)) (fun _ _=>False))
def pgO (n:Nat) (os:Nat→Option AO):Nat→Option AO:=fun m=>if m=n then none else (os m).map (AO.purge n)
theorem Jv {n:Nat} {l:List (Nat × AV)} {os:Nat→Option AO}:St.purge n ⟨T l,os⟩=⟨T (Ter n l),pgO n os⟩:=by
 rw [← Ac4]; rfl
theorem N7 {n m:Nat} {os:Nat→Option AO} {o:AO} (h:m≠n):pgO n (upd os m (some o))=upd (pgO n os) m (some (o.purge n)):=by
 funext k
 by_cases e:k=m
 ·subst e; rw [Ay]; unfold pgO; rw [if_neg h,Ay]; rfl
 ·rw [Ac e]; unfold pgO; rw [Ac e]
theorem L8 {n:Nat} {os:Nat→Option AO} {x:Option AO}:pgO n (upd os n x)=pgO n os:=by
 funext k
 unfold pgO
 by_cases e:k=n
 ·rw [if_pos e,if_pos e]
 ·rw [if_neg e,if_neg e,Ac e]
theorem Ahv {n:Nat} {os:Nat→Option AO} (hcl:(Hp os).closed) (hn:os n=none):pgO n os=os:=by
 funext m
 unfold pgO
 by_cases e:m=n
 ·subst e; rw [if_pos rfl,hn]
 ·rw [if_neg e]
  cases ho:os m with
  | none=>rfl
  | some o=>
   have hc:o.clean n=true:=by
    cases hc:o.clean n with
    | true=>rfl
    | false=>
     have:(os n).isSome=true:=hcl.2 m o ho n hc
     rw [hn] at this; cases this
   cases o with
   | cells cs=>show some (AO.cells (cs.map _))=_; rw [Nq hc]
   | arr k es=>rfl
   | obj X=>rfl
   | it m X=>
    have hmn:m≠n:=by simpa [AO.clean] using hc
    show some (if m=n then _ else _)=_
    rw [if_neg hmn]
   | loop k tm=>
    show some (AO.loop k (tm.map fun p=>(p.1,p.2.purge n)))=_
    congr 2
    have hc:AV.clean.cleanL n (tm.map (·.2))=true:=hc
    clear ho
    induction tm with
    | nil=>rfl
    | cons p tm ih=>
     have h':p.2.clean n=true∧AV.clean.cleanL n (tm.map (·.2))=true:=by simpa [AV.clean.cleanL] using hc
     rw [List.map_cons,ih h'.2 h'.2]
     congr 1
     unfold AV.purge
     rw [if_pos h'.1]
structure Xh (P:Program) (fv:AV) (F:Nat→Prop) {σ α:Type} (args:α→List AV) (l:List α) (go:σ→Prop) (I:σ→(Nat→Option AO)→Prop) (step:σ→α→σ × Bool):Prop where
 live:∀ s os,I s os→fv.lives os
 stable:∀ s os os',I s os→(∀ n,F n→os' n=os n)→I s os'
 foot:∀ s os n,I s os→F n→∃ o,os n=some o∧∀ m,o.clean m=false→F m
 next:∀ s x,x ∈ l→go s→(step s x).2=true→go (step s x).1
 call:∀ s x os bd,x ∈ l→go s→I s os→(Hp os).closed→Bs P bd fv (args x) os fun res os'=>res=bl (step s x).2∧I (step s x).1 os'∧∀ n,¬ F n→os' n=os n
structure R2 (P:Program) (bdL:Nat) (k:Gn) (tm:List (Nat × AV)) (v q:List Nat) (F:Nat→Prop) {σ α:Type} (args:α→List AV) (l:List α) (I:σ→(Nat→Option AO)→Prop) (bst:σ→α→σ × Option Code):Prop where
 ready:k=Abe k none
 lenp:∀ x,(args x).length=k.ps.length
 psn:∀ p ∈ k.ps,p < k.n
 notF:¬ F bdL
 tmF:∀ m,(AO.loop k tm).clean m=false→F m
 stable:∀ s os os',I s os→(∀ n,F n→os' n=os n)→I s os'
 foot:∀ s os n,I s os→F n→∃ o,os n=some o∧∀ m,o.clean m=false→F m
 body:∀ s x os bd,x ∈ l→I s os→os bdL=some (.loop k tm)→(Hp os).closed→(∀ n,bd≤n→os n=none)→bdL < bd →
  ∀ rl,AWP P ⟨⟨some rl,fun _=>False⟩,bd,v,q⟩ k.n k.assign ⟨Qh k.ps (args x) (T tm),os⟩ (Jd (fun s1=>s1.o bdL=some (.loop k tm)∧AWP P ⟨⟨some rl,fun _=>False⟩,bd,v,q⟩ k.n k.body ⟨s1.t,upd s1.o bdL (some (.loop { k with state:=.busy } tm))⟩
   (T4 bdL k tm fun res os'=>res=bl (bst s x).2.isNone∧(I (bst s x).1 os'∧os' bdL=some (.loop (Abe k (bst s x).2) tm))∧∀ n,¬ (F n∨n=bdL)→os' n=os n)) (fun _ _=>False))
theorem R2.yields {P:Program} {bdL:Nat} {k:Gn} {tm:List (Nat × AV)} {v q:List Nat} {F:Nat→Prop} {σ α:Type} {args:α→List AV} {l:List α} {I:σ→(Nat→Option AO)→Prop} {bst:σ→α→σ × Option Code} (h:R2 P bdL k tm v q F args l I bst) :
  Xh P (.yld bdL) (fun n=>F n∨n=bdL) args l (fun (s:σ × Option Code)=>s.2=none) (fun s os=>I s.1 os∧os bdL=some (.loop (Abe k s.2) tm)) (fun s x=>(bst s.1 x,(bst s.1 x).2.isNone)) where
 live s os hI:=by rw [Pw,hI.2]; rfl
 stable s os os' hI he:=⟨h.stable s.1 os os' hI.1 (fun n hn=>he n (.inl hn)),(he bdL (.inr rfl)).trans hI.2⟩
 foot s os n hI hn:=by
  rcases hn with hn | rfl
  ·obtain ⟨o,h1,h2⟩:=h.foot s.1 os n hI.1 hn
   exact ⟨o,h1,fun m hm=>.inl (h2 m hm)⟩
  ·exact ⟨_,hI.2,fun m hm=>.inl (h.tmF m hm)⟩
 next s x hx hg hs:=Option.isNone_iff_eq_none.1 hs
 call s x os bd hx hg hI hcl0:=by
  have hloop:os bdL=some (.loop k tm):=by
   have:=hI.2
   rw [hg,← h.ready] at this
   exact this
  intro hfree
  have hb:=Bb hfree hloop
  refine Xx (fun hm=>hm) (k:=k) (tm:=tm) (v:=v) (q:=q) hloop (by rw [h.ready]; rfl) (h.lenp x) h.psn (fun hcl _ rl=>?_) hfree
  exact h.body s.1 x os bd hx hI.1 hloop hcl hfree hb rl
end AM
end
/- The abstract machine, part 50: maps that are read in a region that draws its order. -/
section
namespace AM
open Go
section
variable {P:Program} {r:RB} {N:Nat} {all:List Oper} {nb:Nat}
def lkp:Op→Bool
 | .lookup _ _ _ true=>true
 | _=>false
def LS (P:Program) (s:St) (A B:AV):Op→Prop
 | .lookup t x i true=>LV P t (ev s.t x) (ev s.t i) s.o A B
 | _=>False
theorem Arb {op:Op} (h:lkp op=true):isM op=true:=by
 cases op <;> first | (simp [lkp] at h; done) | skip
 rename_i t x i c
 cases c
 ·simp [lkp] at h
 ·rfl
theorem Xv {o:Oper} {rest:List Oper} {s:St} {K:St→Prop} (hl:lkp o.op=true) (hg:o.guard=none):EL P r N all (o :: rest) s K↔Cu N o.dst=true∧∃ A B,LS P s A B o.op∧EL P r N all rest (s.put o.dst A) K∧EL P r N all rest (s.put o.dst B) K:=by
 obtain ⟨dst,op,ty,pos,after,g⟩:=o
 dsimp only at hl hg
 subst hg
 simp only [EL,EO,Arb hl,if_true]
 cases op <;> first | (simp [lkp] at hl; done) | skip
 rename_i t x i c
 cases c
 ·simp [lkp] at hl
 ·simp only [EM,LS]
theorem Hh {x:AV} {b:Bool} {os:Nat→Option AO} (h:x.lives os):(AV.tup [x,.p (.val (.bool b))]).lives os:=AV.lives_tup.2 fun i y hx=>by
 match i,hx with
 | 0,hx=>cases hx; exact h
 | 1,hx=>cases hx; exact AV.lives_p _ _
theorem Pg {s:St} {A B:AV} {op:Op} {os:Nat→Option AO} (h:LS P s A B op):A.lives os∧B.lives os:=by
 unfold LS at h
 split at h
 ·obtain ⟨k,e,m,n,z,cs,ks,h1,h2,f1,h3,h4,h6,h7,h8,h9,hc⟩:=h
  rcases hc with ⟨g,f2,h5,rfl,rfl⟩ | ⟨kv,h5,rfl,⟨v,c1,c2,rfl⟩ | ⟨c1,rfl⟩⟩
  ·exact ⟨Hh (Ev f2),Hh (Ev f1)⟩
  ·exact ⟨Hh (Ev c2),Hh (Ev c2)⟩
  ·exact ⟨Hh (Ev f1),Hh (Ev f1)⟩
 ·exact h.elim
theorem Ahx {s s':St} {A B:AV} {op:Op} (ht:∀ x ∈ op.operands.toList,ev s'.t x=ev s.t x) (ho:∀ n,(s.o n).isSome=true→s'.o n=s.o n) (h:LS P s A B op):LS P s' A B op:=by
 unfold LS at h ⊢
 split at h
 ·obtain ⟨k,e,m,n,z,cs,ks,h1,h2,f1,h3,h4,h6,h7,h8,h9,hc⟩:=h
  refine ⟨k,e,m,n,z,cs,ks,h1,h2,f1,h3,(ht _ (by simp [Op.operands])).trans h4,(ht _ (by simp [Op.operands])).trans h6,h7,h8,h9,?_⟩
  rcases hc with ⟨g,f2,h5,e1,e2⟩ | ⟨kv,h5,hc⟩
  ·exact .inl ⟨g,f2,(ho m (by rw [h5]; rfl)).trans h5,e1,e2⟩
  ·exact .inr ⟨kv,(ho m (by rw [h5]; rfl)).trans h5,hc⟩
 ·exact h.elim
theorem Abu {o:Oper} (hl:lkp o.op=true) (hg:o.guard=none):Gv P r N all o:=by
 intro l l' s K hc h hE
 rw [Xv hl hg] at hE ⊢
 obtain ⟨h0,A,B,h1,h2,h3⟩:=hE
 exact ⟨h0,A,B,h1,h _ (C3 hc (Pg h1).1) h2,h _ (C3 hc (Pg h1).2) h3⟩
theorem Anw {o:Oper} {s:St} {x x':AV} {ob ob':Option AO} (hc:Cx o.op=false) (h:QS P nb o s x ob) (h':QS P nb o s x' ob'):x=x'∧ob=ob':=by
 unfold QS at h h'
 rw [hc] at h h'
 simp only [Bool.false_eq_true,if_false] at h h'
 rcases h with ⟨e1,rfl⟩ | ⟨a,d,e1,rfl,_,_⟩ <;> rcases h' with ⟨e2,rfl⟩ | ⟨a',d',e2,rfl,_,_⟩ <;> rw [e1] at e2 <;> cases e2 <;> exact ⟨rfl,rfl⟩
theorem Aay {j i:Oper} (hl:lkp j.op=true) (hg:j.guard=none) (hi:qop i.op=true) (hic:Cx i.op=false) (hiv:isV r.v i.op=false) (hig:i.guard=none) (hap:j.apart all.toArray i=true):Fo P r N all j i:=by
 intro l s K hc hE
 rw [Xv hl hg] at hE
 obtain ⟨h0,A,B,hLS,hA,hB⟩:=hE
 rw [E1 hi hiv (C3 hc (Pg hLS).1)] at hA
 rw [E1 hi hiv (C3 hc (Pg hLS).2)] at hB
 obtain ⟨h1,x1,ob1,g1,k1⟩:=hA
 obtain ⟨_,x2,ob2,g2,k2⟩:=hB
 obtain ⟨a1,a2,a3⟩:=Oper.apart_spec hap
 have ho:∀ X,(s.put j.dst X).o=s.o:=fun X=>by cases j.dst <;> rfl
 have htt:∀ X t,t ∈ i.looksAt all.toArray→(s.put j.dst X).t t=s.t t:=fun X t ht=>by
  have:=Ha (nb:=r.b) (dst:=j.dst) (x:=X) (ob:=none) (s:=s) (i:=t) (fun e=>a1 t e ht)
  exact this
 have near:∀ X,Alb r.b all i (s.put j.dst X) s:=fun X=>⟨fun t ht=>(htt X t ht).symm,fun t ht n hn=>by rw [ho],fun d hd h=>by rw [ho] at h; exact h⟩
 have q1:=L6 hi (near A) g1
 have q2:=L6 hi (near B) g2
 have hgs:∀ x ob,GS P r.b all i s x ob→QS P r.b i s x ob:=fun x ob h=>by unfold GS at h; rw [hig] at h; exact h
 obtain ⟨e1,e2⟩:=Anw hic (hgs _ _ q1) (hgs _ _ q2)
 subst e1; subst e2
 rw [E1 hi hiv hc]
 refine ⟨h1,x1,ob1,q1,?_⟩
 rw [Xv hl hg]
 have hnew:∀ n,(s.o n).isSome=true→(C9 r.b i.dst x1 ob1 s).o n=s.o n:=fun n hn=>Mx (by
  cases ob1 with
  | none=>exact .inr rfl
  | some a=>
   obtain ⟨d,hd,hnone⟩:=W3 q1
   refine .inl fun e he en=>?_
   rw [hd] at he; cases he; subst en; rw [hnone] at hn; cases hn)
 refine ⟨h0,A,B,Ahx (fun x hx=>?_) hnew hLS,?_,?_⟩
 ·cases x with
  | tmp k=>exact Ha fun e=>a3 k e (Cs hx rfl)
  | _=>rfl
 ·have:=Nu (nb:=r.b) (d1:=i.dst) (d2:=j.dst) (x1:=x1) (x2:=A) (ob1:=ob1) (ob2:=none) (s:=s) (fun d hd e=>a2 d e hd)
  rw [show (C9 r.b i.dst x1 ob1 s).put j.dst A=C9 r.b j.dst A none (C9 r.b i.dst x1 ob1 s) from rfl,← this]
  exact k1
 ·have:=Nu (nb:=r.b) (d1:=i.dst) (d2:=j.dst) (x1:=x1) (x2:=B) (ob1:=ob1) (ob2:=none) (s:=s) (fun d hd e=>a2 d e hd)
  rw [show (C9 r.b i.dst x1 ob1 s).put j.dst B=C9 r.b j.dst B none (C9 r.b i.dst x1 ob1 s) from rfl,← this]
  exact k2
def xtr:Op→Bool
 | .extract ..=>true
 | _=>false
theorem Ai2 {op:Op} (h:xtr op=true):qop op=true∧Cx op=false∧Du op=false∧isM op=false:=by
 cases op <;> first | (simp [xtr] at h; done) | exact ⟨rfl,rfl,rfl,rfl⟩
theorem Amu {d d':Nat} {op:Op} {ρ:Operand→AV} {os os':Nat→Option AO} (h:xtr op=true):eff P d op ρ os=eff P d' op ρ os':=by
 cases op <;> first | (simp [xtr] at h; done) | rfl
theorem Ail {d:Nat} {op:Op} {ρ:Operand→AV} {os:Nat→Option AO} (h:xtr op=true) {e:Eff} (he:eff P d op ρ os=some e):∃ y,e=.pure y:=by
 cases op <;> simp only [xtr,Bool.false_eq_true] at h
 simp only [eff] at he
 split at he
 ·obtain ⟨v,_,rfl⟩:=Option.map_eq_some_iff.1 he; exact ⟨_,rfl⟩
 ·cases he
theorem Vb {j i:Oper} (hj:xtr j.op=true) (hjg:j.guard=none) (hi:Ml i.op=true) (hig:i.guard=none) (hid:i.dst=none) (hap:j.apart all.toArray i=true):Fo P r N all j i:=by
 intro l s K hc hE
 obtain ⟨f1,f2,f3⟩:=Hj hi
 obtain ⟨q1,q2,q3,q4⟩:=Ai2 hj
 obtain ⟨a1,a2,a3⟩:=Oper.apart_spec hap
 rw [Bd hjg q2 q3 q4] at hE
 obtain ⟨h1,e,s1,he,hs1,h2⟩:=hE
 obtain ⟨y,rfl⟩:=Ail hj he
 cases hs1
 rw [Bd hig f1 f2 f3] at h2
 obtain ⟨h3,e2,s2,he2,hs2,h4⟩:=h2
 have ho:(s.put j.dst y).o=s.o:=by cases j.dst <;> rfl
 have he2':eff P (r.b+i.dst.getD 0) i.op (ev s.t) s.o=some e2:=by
  rw [← he2,ho]
  exact (M8 hi fun x hx=>Gi (fun d hd hxd=>a1 d hd (Cs hx hxd))).symm
 obtain ⟨n,ob,rfl,h5,_⟩:=Gx hi hc he2'
 rw [Bd hig f1 f2 f3]
 refine ⟨h3,.upd n ob,s.setO n ob,he2',by rw [hid]; rfl,?_⟩
 rw [Bd hjg q2 q3 q4]
 refine ⟨h1,.pure y,(s.setO n ob).put j.dst y,?_,rfl,?_⟩
 ·rw [← he]; exact Amu hj
 ·rw [hid] at hs2
  have:s2=(s.setO n ob).put j.dst y:=by cases hs2; cases j.dst <;> rfl
  rw [← this]; exact h4
def Qi (v:List Nat) (ops:List Oper) (oj oi:Oper):Bool:=
 Qm v ops oj oi||(xtr oj.op&&(oj.guard.isNone&&(Ml oi.op&&(oi.guard.isNone&&(oi.dst.isNone&&oj.apart ops.toArray oi)))))||(lkp oj.op&&(oj.guard.isNone&&(qop oi.op&&(!Cx oi.op&&(!isV v oi.op&&(oi.guard.isNone&&oj.apart ops.toArray oi))))))
def Ug (v:List Nat) (ops:List Oper) (b:Nat→Nat):Bool:=ops.zipIdx.all fun p=>(ops.take p.2).zipIdx.all fun q=>(b p.2).testBit q.2||Qi v ops q.1 p.1
def Alw (v:List Nat) (ops:List Oper):Bool:=Jm ops [] fun l=>L7 ops (fun i=>l.getD i 0)&&Ug v ops (fun i=>l.getD i 0)
theorem N0 {ops:List Oper} {oj oi:Oper} (h:Qi r.v ops oj oi=true):Gv P r N ops oj∧Fo P r N ops oj oi:=by
 simp only [Qi,Bool.or_eq_true] at h
 rcases h with (h | h) | h
 ·exact Kl h
 ·simp only [Bool.and_eq_true,Option.isNone_iff_eq_none] at h
  obtain ⟨h1,h2,h3,h4,h5,h6⟩:=h
  exact ⟨Dq (Ai2 h1).1 (Nk (Ai2 h1).2.1),Vb h1 h2 h3 h4 h5 h6⟩
 ·simp only [Bool.and_eq_true,Option.isNone_iff_eq_none,Bool.not_eq_true'] at h
  obtain ⟨h1,h2,h3,h4,h5,h6,h7⟩:=h
  exact ⟨Abu h1 h2,Aay h1 h2 h3 h4 h5 h6 h7⟩
theorem U0 {ops:List Oper} {b:Nat→Nat} (h:Ug r.v ops b=true):∀ (i j:Nat) (oi oj:Oper),j < i→ops[i]?=some oi→ops[j]?=some oj→(b i).testBit j=false→Gv P r N ops oj∧Fo P r N ops oj oi:=by
 intro i j oi oj hj hi hoj ht
 unfold Ug at h
 rw [List.all_eq_true] at h
 have h1:=h (oi,i) (List.mem_zipIdx_iff_getElem?.2 hi)
 rw [List.all_eq_true] at h1
 have h2:=h1 (oj,j) (List.mem_zipIdx_iff_getElem?.2 (by rw [List.getElem?_take,if_pos hj]; exact hoj))
 simp only [ht,Bool.false_or] at h2
 exact N0 h2
theorem X1 {ops:List Oper} {id:Nat} {st:St} {Q:AEx→St→Prop} (hm:P.follows .mixedOrders=true) (hchk:Alw r.v ops=true) (h:EL P r N ops ops st (Q .normal)):AWP P r N (.region id ops.toArray true) st Q:=by
 obtain ⟨l,hl⟩:=Hg hchk
 rw [Bool.and_eq_true] at hl
 exact Tf hm (Fp hl.1) (U0 hl.2) h
end
section
variable {P:Program} {r:RB} {N:Nat} {all:List Oper} {d:Nat} {op:Op} {ρ ρ':Operand→AV} {os os':Nat→Option AO} {s:St}
def mvo:Op→Bool
 | .move _ | .assign _=>true
 | _=>false
def ptx:Op→Bool
 | .nilCheck _ | .fieldAddr ..=>true
 | _=>false
theorem Ajp (h:mvo op=true):sil op=true:=by
 cases op <;> first | (simp [mvo] at h; done) | rfl
theorem As8 (h:mvo op=true):∃ x,x ∈ op.operands.toList∧∀ (d:Nat) (ρ:Operand→AV) os,eff P d op ρ os=some (.pure (ρ x)):=by
 cases op <;> simp only [mvo,Bool.false_eq_true] at h
 ·exact ⟨_,by simp [Op.operands],fun _ _ _=>rfl⟩
 ·exact ⟨_,by simp [Op.operands],fun _ _ _=>rfl⟩
theorem Aq2 (h:ptx op=true):qop op=true∧Cx op=false∧Du op=false∧isM op=false:=by
 cases op <;> first | (simp [ptx] at h; done) | exact ⟨rfl,rfl,rfl,rfl⟩
theorem Alu {d':Nat} (h:ptx op=true):eff P d op ρ os=eff P d' op ρ os':=by
 cases op <;> first | (simp [ptx] at h; done) | rfl
theorem Ag9 (h:ptx op=true) {e:Eff} (he:eff P d op ρ os=some e):∃ y,e=.pure y:=by
 cases op <;> simp only [ptx,Bool.false_eq_true] at h
 ·simp only [eff] at he
  split at he <;> first | (cases he; done) | (cases he; exact ⟨_,rfl⟩)
 ·simp only [eff] at he
  split at he
  ·split at he
   ·split at he
    ·cases he
    ·split at he <;> first | (cases he; done) | (cases he; exact ⟨_,rfl⟩)
   ·cases he
  ·cases he
theorem Uu {j i:Oper} (hj:Ml j.op=true) (hjg:j.guard=none) (hjd:j.dst=none) (hi:ptx i.op=true) (hig:i.guard=none) (hap:j.apart all.toArray i=true):Fo P r N all j i:=by
 intro l s K hc hE
 obtain ⟨f1,f2,f3⟩:=Hj hj
 obtain ⟨q1,q2,q3,q4⟩:=Aq2 hi
 obtain ⟨a1,a2,a3⟩:=Oper.apart_spec hap
 rw [Bd hjg f1 f2 f3] at hE
 obtain ⟨h1,e,s1,he,hs1,h2⟩:=hE
 obtain ⟨n,ob,rfl,h5,_⟩:=Gx hj hc he
 rw [hjd] at hs1
 have hs1':s1=s.setO n ob:=by cases hs1; rfl
 subst hs1'
 rw [Bd hig q2 q3 q4] at h2
 obtain ⟨h3,e2,s2,he2,hs2,h4⟩:=h2
 obtain ⟨y,rfl⟩:=Ag9 hi he2
 have hs2':s2=(s.setO n ob).put i.dst y:=by cases hs2; rfl
 subst hs2'
 rw [Bd hig q2 q3 q4]
 refine ⟨h3,.pure y,s.put i.dst y,by rw [← he2]; exact Alu hi,rfl,?_⟩
 rw [Bd hjg f1 f2 f3]
 refine ⟨h1,.upd n ob,(s.put i.dst y).setO n ob,?_,by rw [hjd]; rfl,?_⟩
 ·have ho:(s.put i.dst y).o=s.o:=by cases i.dst <;> rfl
  rw [← he,ho]
  exact M8 hj fun x hx=>Gi (fun d hd hxd=>a3 d hd (Cs hx hxd))
 ·have:(s.put i.dst y).setO n ob=(s.setO n ob).put i.dst y:=by cases i.dst <;> rfl
  rw [this]; exact h4
theorem Va {j i:Oper} (hj:mvo j.op=true) (hjg:j.guard=none) (hi:G7 i.op=true) (hig:i.guard=none) (hap:j.apart all.toArray i=true):Fo P r N all j i:=by
 intro l s K hc hE
 obtain ⟨f1,f2,f3⟩:=F7 hi
 obtain ⟨q1,q2,q3,q4⟩:=Ty (Ajp hj)
 obtain ⟨a1,a2,a3⟩:=Oper.apart_spec hap
 obtain ⟨x,hx,hm⟩:=As8 (P:=P) hj
 rw [Bd hjg q2 q3 q4] at hE
 obtain ⟨h1,e,s1,he,hs1,h2⟩:=hE
 rw [hm] at he
 cases he
 cases hs1
 rw [Bd hig f1 f2 f3] at h2
 obtain ⟨h3,e2,s2,he2,hs2,h4⟩:=h2
 have ho:(s.put j.dst (ev s.t x)).o=s.o:=by cases j.dst <;> rfl
 have he2':eff P (r.b+i.dst.getD 0) i.op (ev s.t) s.o=some e2:=by
  rw [← he2,ho]
  exact (Fv hi fun x hx=>Gi (fun d hd hxd=>a1 d hd (Cs hx hxd))).symm
 have hxd:∀ d,i.dst=some d→x≠.tmp d:=fun d hd hxd=>a3 d hd (Cs hx hxd)
 have main:∃ s',e2.apply r.b i.dst s=some s'∧s'.put j.dst (ev s'.t x)=s2:=by
  rcases Gy hi he2' with ⟨k,es,len,rfl⟩ | ⟨n,k,es,len,rfl⟩
  ·obtain ⟨d,hd,hn,rfl⟩:=Di hs2
   rw [ho] at hn
   refine ⟨(s.setO (r.b+d) (.arr k es)).put (some d) (.own (r.b+i.dst.getD 0) len),?_,?_⟩
   ·have:(s.o (r.b+d)).isNone=true:=by rw [hn]; rfl
    rw [hd]
    simp only [Eff.apply,this,if_true]
   ·have hev:ev ((s.setO (r.b+d) (.arr k es)).put (some d) (.own (r.b+i.dst.getD 0) len)).t x=ev s.t x:=Lh (hxd d hd)
    rw [hev]
    cases hjd:j.dst with
    | none=>rfl
    | some d2=>
     have hne:d≠d2:=fun e=>a2 d2 hjd (by rw [hd,e])
     simp only [St.put,St.setO,Cp hne]
  ·obtain ⟨d,hd,hn,rfl⟩:=E3 hs2
   have hp:((s.put j.dst (ev s.t x)).purge n).o=(s.purge n).o:=by cases j.dst <;> rfl
   rw [hp] at hn
   refine ⟨((s.purge n).setO (r.b+d) (.arr k es)).put (some d) (.own (r.b+i.dst.getD 0) len),?_,?_⟩
   ·have:((s.purge n).o (r.b+d)).isNone=true:=by rw [hn]; rfl
    rw [hd]
    simp only [Eff.apply,this,if_true]
   ·have hev:ev (((s.purge n).setO (r.b+d) (.arr k es)).put (some d) (.own (r.b+i.dst.getD 0) len)).t x=(ev s.t x).purge n:=by
     rw [show ev (((s.purge n).setO (r.b+d) (.arr k es)).put (some d) (.own (r.b+i.dst.getD 0) len)).t x=ev (s.purge n).t x from Lh (hxd d hd)]
     exact S2 x
    rw [hev]
    cases hjd:j.dst with
    | none=>rfl
    | some d2=>
     have hne:d≠d2:=fun e=>a2 d2 hjd (by rw [hd,e])
     simp only [St.put,St.setO]
     congr 1
     show upd (upd (fun i=>(s.t i).purge n) d _) d2 ((ev s.t x).purge n)=upd (fun i=>(upd s.t d2 (ev s.t x) i).purge n) d _
     rw [Cp hne]
     congr 1
     funext q
     unfold upd
     by_cases hq:q=d2
     ·subst hq; simp
     ·simp [hq]
 obtain ⟨s',g1,g2⟩:=main
 rw [Bd hig f1 f2 f3]
 refine ⟨h3,e2,s',he2',g1,?_⟩
 rw [Bd hjg q2 q3 q4]
 exact ⟨h1,.pure (ev s'.t x),s2,hm _ _ _,by rw [← g2]; rfl,h4⟩
def Abh (v:List Nat) (ops:List Oper) (oj oi:Oper):Bool:=
 Qi v ops oj oi||(Ml oj.op&&(oj.guard.isNone&&(oj.dst.isNone&&(ptx oi.op&&(oi.guard.isNone&&oj.apart ops.toArray oi)))))||(mvo oj.op&&(oj.guard.isNone&&(G7 oi.op&&(oi.guard.isNone&&oj.apart ops.toArray oi))))
theorem Aa3 {ops:List Oper} {oj oi:Oper} (h:Abh r.v ops oj oi=true):Gv P r N ops oj∧Fo P r N ops oj oi:=by
 simp only [Abh,Bool.or_eq_true] at h
 rcases h with (h | h) | h
 ·exact N0 h
 ·simp only [Bool.and_eq_true,Option.isNone_iff_eq_none] at h
  obtain ⟨h1,h2,h3,h4,h5,h6⟩:=h
  exact ⟨Ad0 h1 h2,Uu h1 h2 h3 h4 h5 h6⟩
 ·simp only [Bool.and_eq_true,Option.isNone_iff_eq_none] at h
  obtain ⟨h1,h2,h3,h4,h5⟩:=h
  exact ⟨Dq (Ty (Ajp h1)).1 (Nk (Ty (Ajp h1)).2.1),Va h1 h2 h3 h4 h5⟩
end
section
variable {P:Program} {r:RB} {N:Nat} {ops:List Oper}
def Age (v:List Nat) (ops:List Oper) (i j:Nat):Bool:=match ops[i]?,ops[j]? with
 | some oi,some oj=>Qi v ops oj oi
 | _,_=>false
def Q5 (v:List Nat) (ops:List Oper) (b:Nat→Nat) (rem:List Nat):Bool:=rem.all fun i=>rem.all fun j=>decide (i≤j)||((b i).testBit j||Age v ops i j)
def Ajl (b:Nat→Nat) (rem:List Nat) (i:Nat):Bool:=rem.all fun j=>decide (i≤j)||!(b i).testBit j
def AT (P:Program) (r:RB) (N:Nat) (ops:List Oper) (b:Nat→Nat) (K:St→Prop):Nat→List Nat→St→Prop
 | 0,rem,s=>Q5 r.v ops b rem=true∧EL P r N ops (rem.filterMap (ops[·]?)) s K
 | n+1,rem,s=>(Q5 r.v ops b rem=true∧EL P r N ops (rem.filterMap (ops[·]?)) s K)∨∀ i ∈ rem,Ajl b rem i=true→∃ o,ops[i]?=some o∧EL P r N ops [o] s fun s'=>AT P r N ops b K n (rem.erase i) s'
theorem Adw {v:List Nat} {b:Nat→Nat} {rem:List Nat} (h:Q5 v ops b rem=true) {i j:Nat} {oi oj:Oper} (hi:i ∈ rem) (hj:j ∈ rem) (hij:j < i) (hoi:ops[i]?=some oi) (hoj:ops[j]?=some oj) (ht:(b i).testBit j=false):Qi v ops oj oi=true:=by
 have h1:=List.all_eq_true.1 (List.all_eq_true.1 h i hi) j hj
 simp only [ht,Bool.false_or,Bool.or_eq_true,decide_eq_true_eq,Age,hoi,hoj] at h1
 rcases h1 with h1 | h1
 ·omega
 ·exact h1
theorem Ad9 {v:List Nat} {b:Nat→Nat} {rem rem':List Nat} (h:Q5 v ops b rem=true) (hs:∀ x ∈ rem',x ∈ rem):Q5 v ops b rem'=true:=
 List.all_eq_true.2 fun i hi=>List.all_eq_true.2 fun j hj=>List.all_eq_true.1 (List.all_eq_true.1 h i (hs i hi)) j (hs j hj)
theorem D9 {b:Nat→Nat} {K:St→Prop} {n:Nat} {rem:List Nat} {s:St} (h1:Q5 r.v ops b rem=true) (h2:EL P r N ops (rem.filterMap (ops[·]?)) s K):AT P r N ops b K n rem s:=by
 cases n with
 | zero=>exact ⟨h1,h2⟩
 | succ n=>exact .inl ⟨h1,h2⟩
theorem Ag3 {b:Nat→Nat} (hb:Q1 ops b) {K:St→Prop} {Q:Exit→Act→World→Prop} :
  ∀ (fuel n:Nat) (listed:Array Bool) (s:St) (B:Nat) (S:Nat→Prop) (θ:Nat→Loc) (M:Nat→Prop) (w:World) (a:Act),Aq N B S θ M w s a→listed.size=ops.length→Mr ops listed→(B7 ops.length listed).length≤fuel→n < (B7 ops.length listed).length+1 →
   AT P r N ops b K n (B7 ops.length listed) s→(∀ s' a' w',K s'→Fin r N B S θ M w a s' a' w'→Q .normal a' w')→wpAnyIn (Wd r.rd) 0 P .any ops.toArray Q fuel listed a w:=by
 intro fuel
 have hready:∀ {listed:Array Bool} {x:Nat},x ∈ Region.ready .any ops.toArray listed→x ∈ B7 ops.length listed:=fun h=>((C4 rfl).1 h).1
 induction fuel with
 | zero=>
  intro n listed s B S θ M w a hs hsz hcl hf hn hE hQ
  have hnil:B7 ops.length listed=[]:=List.length_eq_zero_iff.1 (by omega)
  refine ⟨List.eq_nil_iff_forall_not_mem.2 fun x hx=>?_,?_⟩
  ·have:=hready hx
   rw [hnil] at this; cases this
  ·rw [hnil] at hE hn
   obtain rfl:n=0:=by simpa using hn
   exact hQ s a w hE.2 ⟨H3.refl hs,rfl⟩
 | succ fuel ih=>
  intro n listed s B S θ M w a hs hsz hcl hf hn hE hQ
  refine ⟨fun hr=>?_,fun i hi=>?_⟩
  ·
   have hnil:B7 ops.length listed=[]:=by
    cases hrem:B7 ops.length listed with
    | nil=>rfl
    | cons x l=>
     exfalso
     have hx:x ∈ B7 ops.length listed:=by rw [hrem]; simp
     have hsort:(B7 ops.length listed).Pairwise (· < ·):=(List.pairwise_lt_range).filter _
     rw [hrem,List.pairwise_cons] at hsort
     obtain ⟨hxn,hxl⟩:=Db.1 hx
     have:x ∈ Region.ready .any ops.toArray listed:=(C4 rfl).2 ⟨hx,ops[x],by simp [hxn],fun e he hbe=>by
      have hlt:=hb.lt x ops[x] (by simp [hxn]) e he hbe
      cases hl:listed.getD e.on false with
      | true=>rfl
      | false=>
       exfalso
       have hen:e.on < ops.length:=Nat.lt_trans hlt hxn
       have:e.on ∈ B7 ops.length listed:=Db.2 ⟨hen,by
        rw [Array.getD_eq_getD_getElem?] at hl ⊢
        have hsz':e.on < listed.size:=by omega
        simp only [Array.getElem?_eq_getElem hsz',Option.getD_some] at hl ⊢
        exact hl⟩
       rw [hrem] at this
       rcases List.mem_cons.1 this with h | h
       ·omega
       ·have:=hsort.1 _ h; omega⟩
     rw [hr] at this; cases this
   rw [hnil] at hE hn
   obtain rfl:n=0:=by simpa using hn
   exact hQ s a w hE.2 ⟨H3.refl hs,rfl⟩
  ·obtain ⟨hrem,o,ho,hafter⟩:=(C4 rfl).1 hi
   obtain ⟨pre,post,he,hpre,hset⟩:=Hm hsz hrem
   have hpl:∀ j ∈ pre,listed.getD j true=false:=fun j hj=>(Db.1 (show j ∈ B7 ops.length listed by rw [he]; simp [hj])).2
   have hml:∀ j ∈ pre,(b i).testBit j=false:=fun j hj=>by
    cases ht:(b i).testBit j with
    | false=>rfl
    | true=>
     have:=F2 hb hcl i o ho hafter (hpre j hj) ht
     rw [Px (hpl j hj)] at this; cases this
   have hall:(Q5 r.v ops b (B7 ops.length listed)=true∧EL P r N ops ((B7 ops.length listed).filterMap (ops[·]?)) s K)→EL P r N ops [o] s fun s'=>AT P r N ops b K 0 (pre++post) s':=fun ⟨h1,h2⟩=>by
    rw [he,List.filterMap_append,List.filterMap_cons] at h2
    simp only [ho] at h2
    have h3:=Xq hs.cl (fun oj hoj=>by
     obtain ⟨j,hj,hoj⟩:=List.mem_filterMap.1 hoj
     exact N0 (Adw h1 (by rw [he]; simp) (by rw [he]; simp [hj]) (hpre j hj) ho hoj (hml j hj))) h2
    rw [show o :: (pre.filterMap (ops[·]?)++post.filterMap (ops[·]?))=[o]++(pre++post).filterMap (ops[·]?) by simp,M4] at h3
    have hok:Q5 r.v ops b (pre++post)=true:=Ad9 h1 fun x hx=>by rw [he]; simp only [List.mem_append,List.mem_cons] at hx ⊢; rcases hx with h | h <;> simp [h]
    rw [show (fun s'=>AT P r N ops b K 0 (pre++post) s')=fun s'=>EL P r N ops ((pre++post).filterMap (ops[·]?)) s' K from funext fun s'=>propext ⟨fun h=>h.2,fun h=>⟨hok,h⟩⟩]
    exact h3
   have hE':∃ m,m < (pre++post).length+1∧EL P r N ops [o] s fun s'=>AT P r N ops b K m (pre++post) s':=by
    cases n with
    | zero=>exact ⟨0,by omega,hall hE⟩
    | succ n=>
     have hle:(B7 ops.length listed).length=(pre++post).length+1:=by rw [he]; simp; omega
     rcases hE with hE | hE
     ·exact ⟨0,by omega,hall hE⟩
     ·obtain ⟨o',ho',h⟩:=hE i (by rw [he]; simp) (List.all_eq_true.2 fun j hj=>by
       by_cases hij:i≤j
       ·simp [hij]
       ·rw [he] at hj
        rcases List.mem_append.1 hj with h | h
        ·simp [hml j h]
        ·rcases List.mem_cons.1 h with h | h
         ·omega
         ·exfalso
          have hsort:(B7 ops.length listed).Pairwise (· < ·):=(List.pairwise_lt_range).filter _
          rw [he,List.pairwise_append] at hsort
          have:=(List.pairwise_cons.1 hsort.2.1).1 j h
          omega)
      rw [ho] at ho'; cases ho'
      refine ⟨n,by omega,?_⟩
      rw [he,List.erase_append_right _ (fun h=>by have:=hpre i h; omega),List.erase_cons_head] at h
      exact h
   obtain ⟨m,hm,hE'⟩:=hE'
   refine wpOpIn_mono ?_ (Rz ho hs hE')
   rintro a' w' ⟨s1,hE1,hF⟩
   obtain ⟨θ',M',hs',hcomp⟩:=hF.comp
   refine ih m _ s1 B S θ' M' w' a' hs' (by simpa using hsz) ?_ ?_ ?_ ?_ (fun s' a'' w'' hK hF'=>hQ s' a'' w'' hK (hcomp _ _ _ hF'))
   ·intro k ok hk hl e hek hbe
    have hmono:∀ m,listed.getD m false=true→(listed.setIfInBounds i true).getD m false=true:=fun m hm=>by
     rw [Array.getD_eq_getD_getElem?] at hm ⊢
     rw [Array.getElem?_setIfInBounds]
     split
     ·split <;> simp_all
     ·exact hm
    by_cases hki:k=i
    ·subst hki
     rw [ho] at hk; cases hk
     exact hmono _ (hafter e hek hbe)
    ·have:listed.getD k false=true:=by
      rw [Array.getD_eq_getD_getElem?] at hl ⊢
      rw [Array.getElem?_setIfInBounds,if_neg (Ne.symm hki)] at hl
      exact hl
     exact hmono _ (hcl k ok hk this e hek hbe)
   ·rw [hset]
    rw [he] at hf
    simp only [List.length_append,List.length_cons] at hf ⊢
    omega
   ·rw [hset]; exact hm
   ·rw [hset]; exact hE1
theorem Ahm {ops:List Oper} {id n:Nat} {l:List Nat} {st:St} {Q:AEx→St→Prop} (hm:P.follows .mixedOrders=true) (hb:L7 ops (fun i=>l.getD i 0)=true) (hn:decide (n≤ops.length)=true) (h:AT P r N ops (fun i=>l.getD i 0) (Q .normal) n (List.range ops.length) st):AWP P r N (.region id ops.toArray true) st Q:=by
 intro B S θ M w a hs
 refine wpIn_region_any hm ?_
 have hn:=of_decide_eq_true hn
 have hrem:B7 ops.length (Array.replicate ops.length false)=List.range ops.length:=H4 _
 refine Ag3 (Fp hb) ops.toArray.size n (Array.replicate ops.toArray.size false) st B S θ M _ a (hs.drawn _) (by simp) (fun k o hk hL=>?_) ?_ ?_ ?_ (fun s' a' w' hk hF=>⟨.normal,s',rfl,hk,?_⟩)
 ·simp only [Array.getD_eq_getD_getElem?,Array.getElem?_replicate] at hL
  split at hL <;> simp at hL
 ·simp only [List.size_toArray]; rw [hrem]; simp
 ·simp only [List.size_toArray]; rw [hrem]; simp; omega
 ·simp only [List.size_toArray]; rw [hrem]; exact h
 ·obtain ⟨⟨θ',M',h1,h2,h3,h4⟩,h5⟩:=hF
  exact ⟨⟨θ',M',h1,⟨h2.size,h2.same,h2.os,h2.tape,h2.output⟩,h3,h4⟩,h5⟩
def ATs (P:Program) (r:RB) (N:Nat) (ops:List Oper) (b:Nat→Nat) (K:St→Prop) (n:Nat) (rem:List Nat) (s:St):List Nat→Prop
 | []=>True
 | i :: l=>(∃ o,ops[i]?=some o∧EL P r N ops [o] s fun s'=>AT P r N ops b K n (rem.erase i) s')∧ATs P r N ops b K n rem s l
theorem Acq {b:Nat→Nat} {K:St→Prop} {n:Nat} {rem:List Nat} {s:St}:∀ {l:List Nat},ATs P r N ops b K n rem s l→∀ i ∈ l,∃ o,ops[i]?=some o∧EL P r N ops [o] s fun s'=>AT P r N ops b K n (rem.erase i) s'
 | i :: l,h,k,hk=>by
  rcases List.mem_cons.1 hk with rfl | hk
  ·exact h.1
  ·exact Acq h.2 k hk
theorem Fi {l:List Nat} {K:St→Prop} {n:Nat} {rem ls:List Nat} {s:St} (h:rem.filter (Ajl (fun i=>l.getD i 0) rem)=ls) (hs:ATs P r N ops (fun i=>l.getD i 0) K n rem s ls):AT P r N ops (fun i=>l.getD i 0) K (n+1) rem s:=
 .inr fun i hi hr=>Acq hs i (by rw [← h]; exact List.mem_filter.2 ⟨hi,hr⟩)
theorem D5 {b:Nat→Nat} {K:St→Prop} {n i:Nat} {rem rem':List Nat} {s:St} {o:Oper} (he:rem.erase i=rem') (ho:ops[i]?=some o) (h:EL P r N ops [o] s fun s'=>AT P r N ops b K n rem' s'):∃ o,ops[i]?=some o∧EL P r N ops [o] s fun s'=>AT P r N ops b K n (rem.erase i) s':=by
 subst he; exact ⟨o,ho,h⟩
def Aoe (l1:List (Nat × AV)) (m1:List (Nat × AO)) (e:AEx) (s':St):Prop:=e=.normal∧leT s'.t l1∧leO s'.o m1
theorem Aea (l1:List (Nat × AV)) (m1:List (Nat × AO)) {cd rest:Code} {K:St→Prop} {Q2 Q3:AEx→St→Prop} {s:St} (hK:∀ s',AWP P r N rest s' Q2→K s') (h3:nmT (Lp m1) l1=true) (h4:U5 (Lp m1) m1=true) (h1:AWP P r N cd s (Aoe l1 m1)) (h2:∀ K':St→Prop,(∀ s',AWP P r N rest s' Q2→K' s')→K' ⟨T l1,O m1⟩):AWP P r N cd s (Jd K Q3):=
 h1.mono fun e s' ⟨he,hl,ho⟩=>by subst he; exact hK s' (Ahs l1 m1 hl ho h3 h4 (h2 (fun s=>AWP P r N rest s Q2) fun _ h=>h))
end
section
variable {P:Program} {r:RB} {N:Nat} {ops:List Oper}
def Ahp (P:Program) (v q:List Nat) (ops tl:List Oper) (m:Nat) (i j:Nat) (oi oj:Oper):Option (List Cf):=if Abh v ops oj oi=true then some [] else Ai6 P v q ops tl m i j oi oj
def Adi (P:Program) (v q:List Nat) (ops tl:List Oper) (m i:Nat) (oi:Oper):List (Oper × Nat)→Option (List Cf)
 | []=>some []
 | (oj,j) :: r=>if m.testBit j=true then Adi P v q ops tl m i oi r else
  match Ahp P v q ops tl m i j oi oj,Adi P v q ops tl m i oi r with
  | some a,some b=>some (a++b)
  | _,_=>none
def Vh (P:Program) (v q:List Nat) (ops tl:List Oper) (b:Nat→Nat):List (Oper × Nat)→Option (List Cf)
 | []=>some []
 | (oi,i) :: r=>match Adi P v q ops tl (b i) i oi (ops.take i).zipIdx,Vh P v q ops tl b r with
  | some a,some c=>some (a++c)
  | _,_=>none
def Tm (P:Program) (v q:List Nat) (ops:List Oper) (cfs:List Cf):Bool:=(ops.all (Jk v))&&(W6 ops&&Jm ops [] fun l=>L7 ops (fun i=>l.getD i 0)&&match Vh P v q ops ops (fun i=>l.getD i 0) ops.zipIdx with
 | some c=>Zp c cfs
 | none=>false)
theorem Ql {P:Program} {tl:List Oper} {v q:List Nat} {m i:Nat} {oi:Oper}:∀ {l:List (Oper × Nat)} {c:List Cf},Adi P v q ops tl m i oi l=some c→∀ p ∈ l,m.testBit p.2=false→∃ c',Ahp P v q ops tl m i p.2 oi p.1=some c'∧∀ x ∈ c',x ∈ c
 | [],_,_,p,hp,_=>by cases hp
 | (oj,j) :: l,c,h,p,hp,ht=>by
  simp only [Adi] at h
  split at h
  ·rename_i hj
   rcases List.mem_cons.1 hp with e | hp
   ·subst e; rw [ht] at hj; cases hj
   ·exact Ql h p hp ht
  ·split at h
   ·rename_i a b h1 h2
    cases h
    rcases List.mem_cons.1 hp with e | hp
    ·subst e; exact ⟨a,h1,fun x hx=>by simp [hx]⟩
    ·obtain ⟨c',g1,g2⟩:=Ql h2 p hp ht
     exact ⟨c',g1,fun x hx=>by simp [g2 x hx]⟩
   ·cases h
theorem Ud {P:Program} {tl:List Oper} {v q:List Nat} {b:Nat→Nat}:∀ {l:List (Oper × Nat)} {c:List Cf},Vh P v q ops tl b l=some c→∀ p ∈ l,∃ c',Adi P v q ops tl (b p.2) p.2 p.1 (ops.take p.2).zipIdx=some c'∧∀ x ∈ c',x ∈ c
 | [],_,_,p,hp=>by cases hp
 | (oi,i) :: l,c,h,p,hp=>by
  simp only [Vh] at h
  split at h
  ·rename_i a d h1 h2
   cases h
   rcases List.mem_cons.1 hp with e | hp
   ·subst e; exact ⟨a,h1,fun x hx=>by simp [hx]⟩
   ·obtain ⟨c',g1,g2⟩:=Ud h2 p hp
    exact ⟨c',g1,fun x hx=>by simp [g2 x hx]⟩
  ·cases h
theorem Aee {id:Nat} {st:St} {Q:AEx→St→Prop} (cfs:List Cf) (hm:P.follows .mixedOrders=true) (hchk:Tm P r.v r.q ops cfs=true) (hfr:∀ d ∈ Rf P ops,st.o (r.b+d)=none) (h:EL P r N ops ops st (fun s=>(cfs.all fun c=>c.ok s.t)=true∧Q .normal s)):AWP P r N (.region id ops.toArray true) st Q:=by
 unfold Tm at hchk
 simp only [Bool.and_eq_true] at hchk
 obtain ⟨hpl,hds,hchk⟩:=hchk
 rw [List.all_eq_true] at hpl
 obtain ⟨l,hl⟩:=Hg hchk
 rw [Bool.and_eq_true] at hl
 obtain ⟨hl1,hl2⟩:=hl
 clear hchk
 have hrows:Vh P r.v r.q ops ops (fun i=>l.getD i 0) ops.zipIdx=some cfs:=by
  revert hl2
  cases Vh P r.v r.q ops ops (fun i=>l.getD i 0) ops.zipIdx with
  | none=>intro h; cases h
  | some c=>intro h; rw [T5 h]
 generalize hbb:(fun i=>l.getD i 0)=bb at *
 clear hl2
 intro B S θ M w a hs
 refine wpIn_region_any hm ?_
 have hrem:B7 ops.length (Array.replicate ops.length false)=List.range ops.length:=H4 _
 refine Afk (D:=fun f=>∀ x ∈ cfs,x.ok f=true) (K:=fun s=>(cfs.all fun c=>c.ok s.t)=true∧Q .normal s) (Fp hl1) (fun i o ho=>hpl o (List.mem_of_getElem? ho)) (Rg hds) (fun i j oi oj rest hji hi hj hbit hrest=>?_) (fun s' hs'=>List.all_eq_true.1 hs'.1) ops.toArray.size (Array.replicate ops.toArray.size false) st B S θ M _ a (hs.drawn _) (by simp) (fun k o hk hL=>?_) (fun i _ o ho=>Vs hfr o (List.mem_of_getElem? ho)) ?_ ?_ (fun s' a' w' hk hF=>⟨.normal,s',rfl,hk.2,?_⟩)
 ·obtain ⟨c1,g1,g2⟩:=Ud hrows (oi,i) (List.mem_zipIdx_iff_getElem?.2 hi)
  obtain ⟨c2,g3,g4⟩:=Ql g1 (oj,j) (List.mem_zipIdx_iff_getElem?.2 (by rw [List.getElem?_take,if_pos hji]; exact hj)) hbit
  unfold Ahp at g3
  split at g3
  ·rename_i h7
   exact .inl (Qp (Aa3 (P:=P) (r:=r) (N:=N) h7).2)
  unfold Ai6 at g3
  split at g3
  ·rename_i c3 hc3
   cases g3
   exact .inl (S5 (b:=bb) hc3 (fun x hx=>g2 x (g4 x hx)) hji hi hj hbit hrest (fun k _ o ho=>List.mem_of_getElem? ho)).2
  ·split at g3
   ·rename_i hx; exact .inr hx
   ·cases g3
 ·simp only [Array.getD_eq_getD_getElem?,Array.getElem?_replicate] at hL
  split at hL <;> simp at hL
 ·simp only [List.size_toArray]; rw [hrem]; simp
 ·simp only [List.size_toArray]; rw [hrem,Eb]; exact h
 ·obtain ⟨⟨θ',M',h1,h2,h3,h4⟩,h5⟩:=hF
  exact ⟨⟨θ',M',h1,⟨h2.size,h2.same,h2.os,h2.tape,h2.output⟩,h3,h4⟩,h5⟩
theorem Mp {id:Nat} {st:St} {Q:AEx→St→Prop} (cfs:List Cf) (dx:List Nat) (hm:P.follows .mixedOrders=true) (hchk:Tm P r.v r.q ops cfs=true) (hdx:Rf P ops=dx) (hfr:Aii st.o r.b dx) (h:EL P r N ops ops st (fun s=>(cfs.all fun c=>c.ok s.t)=true∧Q .normal s)):AWP P r N (.region id ops.toArray true) st Q:=
 Aee cfs hm hchk (fun d hd=>Vn hfr d (by rw [← hdx]; exact hd)) h
end
end AM
end
/- How vessels lie in cells. -/
section
namespace AM.Wort
open Go AM
theorem R5 {l:Liq} {v:List Liq}:cW (l :: v)=i64 l.g :: i64 l.e :: cW v:=rfl
theorem Bg {v:List Liq}:(cW v).length=2 * v.length:=by
 induction v with
 | nil=>rfl
 | cons l v ih=>rw [R5,List.length_cons,List.length_cons,List.length_cons,ih]; omega
theorem G9 {v:List Liq} {tl:List AV}:(cW v++tl).length=2 * v.length+tl.length:=by rw [List.length_append,Bg]
theorem D0:∀ {v:List Liq} {k:Nat} {tl:List AV},k < v.length→(cW v++tl).drop (k * 2)=i64 (v.getD k default).g :: i64 (v.getD k default).e :: (cW (v.drop (k+1))++tl)
 | l :: v,0,tl,_=>rfl
 | l :: v,k+1,tl,h=>by
  rw [R5,show (k+1) * 2=k * 2+2 by omega]
  show (cW v++tl).drop (k * 2)=_
  rw [D0 (by simpa using h)]; rfl
theorem Js {v:List Liq} {k:Nat} {tl:List AV} (h:k < v.length):(cW v++tl).drop (k * 2+1)=i64 (v.getD k default).e :: (cW (v.drop (k+1))++tl):=by rw [← List.drop_drop,D0 h]; rfl
theorem Co {v:List Liq} {k:Nat} (h:k < v.length):(cW v).drop (k * 2)=i64 (v.getD k default).g :: i64 (v.getD k default).e :: cW (v.drop (k+1)):=by have:=D0 (tl:=[]) h; rwa [List.append_nil,List.append_nil] at this
theorem Acu {v:List Liq} {tl:List AV} (h:v.length=4):(cW v++tl).take 8=cW v:=by
 rw [List.take_append_of_le_length (by rw [Bg]; omega),List.take_of_length_le (by rw [Bg]; omega)]
theorem Fb {v:List Liq} (h:v.length=4):(cW v).take 8=cW v:=List.take_of_length_le (by rw [Bg]; omega)
theorem tkL {v:List Liq} {k:Nat} {tl:List AV} (h:k < v.length):Al true 2 ((cW v++tl).drop (k * 2))=some (avL (v.getD k default)):=by
 rw [D0 h,T8,if_pos (by simp)]; rfl
theorem tkG {v:List Liq} {k n:Nat} {tl:List AV} (h:k < v.length):Al false n ((cW v++tl).drop (k * 2))=some (i64 (v.getD k default).g):=by
 rw [D0 h]; rfl
theorem tkE {v:List Liq} {k n:Nat} {tl:List AV} (h:k < v.length):Al false n ((cW v++tl).drop (k * 2+1))=some (i64 (v.getD k default).e):=by
 rw [← List.drop_drop,D0 h]; rfl
theorem Y3:∀ {v:List Liq} {k:Nat} {tl:List AV} {a:Int},k < v.length→(cW v++tl).set (k * 2) (i64 a)=cW (v.set k ⟨a,(v.getD k default).e⟩)++tl
 | l :: v,0,tl,a,_=>rfl
 | l :: v,k+1,tl,a,h=>by
  rw [R5,show (k+1) * 2=k * 2+2 by omega]
  show i64 l.g :: i64 l.e :: (cW v++tl).set (k * 2) (i64 a)=_
  rw [Y3 (by simpa using h)]; rfl
theorem Air:∀ {v:List Liq} {k:Nat} {tl:List AV} {a:Int},k < v.length→(cW v++tl).set (k * 2+1) (i64 a)=cW (v.set k ⟨(v.getD k default).g,a⟩)++tl
 | l :: v,0,tl,a,_=>rfl
 | l :: v,k+1,tl,a,h=>by
  rw [R5,show (k+1) * 2+1=k * 2+1+2 by omega]
  show i64 l.g :: i64 l.e :: (cW v++tl).set (k * 2+1) (i64 a)=_
  rw [Air (by simpa using h)]; rfl
theorem Ky {v:List Liq} {k:Nat} (h:k < v.length):Al true 2 ((cW v).drop (k * 2))=some (avL (v.getD k default)):=by have:=tkL (tl:=[]) h; rwa [List.append_nil] at this
theorem Lk {v:List Liq} {k n:Nat} (h:k < v.length):Al false n ((cW v).drop (k * 2))=some (i64 (v.getD k default).g):=by have:=tkG (n:=n) (tl:=[]) h; rwa [List.append_nil] at this
theorem Kk {v:List Liq} {k n:Nat} (h:k < v.length):Al false n ((cW v).drop (k * 2+1))=some (i64 (v.getD k default).e):=by have:=tkE (n:=n) (tl:=[]) h; rwa [List.append_nil] at this
theorem Aqd {v:List Liq} {k:Nat} {a:Int} (h:k < v.length):(cW v).set (k * 2) (i64 a)=cW (v.set k ⟨a,(v.getD k default).e⟩):=by have:=Y3 (tl:=[]) (a:=a) h; rwa [List.append_nil,List.append_nil] at this
theorem Asm {v:List Liq} {k:Nat} {a:Int} (h:k < v.length):(cW v).set (k * 2+1) (i64 a)=cW (v.set k ⟨(v.getD k default).g,a⟩):=by have:=Air (tl:=[]) (a:=a) h; rwa [List.append_nil,List.append_nil] at this
theorem tkW {v:List Liq} {tl:List AV} (h:v.length=4):Al true 8 (cW v++tl)=some (avW v):=by
 rw [T8,G9,if_pos (by omega),List.take_append_of_le_length (by rw [Bg]; omega),List.take_of_length_le (by rw [Bg]; omega)]
theorem Ahb {v:List Liq} (h:v.length=4):Al true 8 (cW v)=some (avW v):=by have:=tkW (tl:=[]) h; rwa [List.append_nil] at this
theorem Ju {v:List Liq} {k:Nat} {a d:Liq} (h:k < v.length):(v.set k a).getD k d=a:=by
 rw [List.getD_eq_getElem?_getD,List.getElem?_set_self h]; rfl
theorem Aad:∀ {v w:List Liq} {tl:List AV},w.length=v.length→A7 (cW v++tl) 0 (cW w)=cW w++tl:=by
 have gen:∀ (x y:List AV) (p tl:List AV),x.length=y.length→A7 (p++(x++tl)) p.length y=p++(y++tl):=by
  intro x
  induction x with
  | nil=>intro y p tl h; cases y with
   | nil=>rfl
   | cons b y=>cases h
  | cons a x ih=>intro y p tl h; cases y with
   | nil=>cases h
   | cons b y=>
    simp only [A7]
    have:=ih y (p++[b]) tl (by simpa using h)
    rw [List.length_append,List.length_singleton] at this
    rw [show (p++(a :: x++tl)).set p.length b=p++[b]++(x++tl) by simp]
    rw [this]; simp
 intro v w tl h
 have:=gen (cW v) (cW w) [] tl (by rw [Bg,Bg,h])
 simpa using this
theorem Fs {v w:List Liq} (h:w.length=v.length):A7 (cW v) 0 (cW w)=cW w:=by have:=Aad (tl:=[]) h; rwa [List.append_nil,List.append_nil] at this
theorem S9:∀ (l:List Int),Df (l.map i64)=some l
 | []=>rfl
 | x :: l=>by show (Df (l.map i64)).map (x :: ·)=_; rw [S9 l]; rfl
abbrev Ct (v:List Liq) (k:Nat):Liq:=v.getD k default
def G2 (v:List Liq) (f:Nat) (n:Int):Int:=n * (Ct v f).e / (Ct v f).g
def Li (v:List Liq) (f:Nat) (n:Int):List Liq:=v.set f ⟨(Ct v f).g - n,(Ct v f).e - G2 v f n⟩
def N1 (v:List Liq) (f t:Nat) (n:Int):List Liq:=(Li v f n).set t ⟨(Ct (Li v f n) t).g+n,(Ct (Li v f n) t).e+G2 v f n⟩
def Hn (v:List Liq) (f t:Nat) (n:Int):List Liq × Bool:=
 if (Ct v f).g < n then (v,false) else if 0 < n then (N1 v f t n,true) else (v,true)
def Qd (v:List Liq) (t:Nat) (n:Int):List Liq × Bool:=(v.set t ⟨(Ct v t).g+n,(Ct v t).e⟩,true)
def V6 (v:List Liq) (f:Nat) (n:Int):List Liq × Bool:=
 (v.set f ⟨(Ct v f).g - n,(Ct v f).e⟩,decide (0 < (Ct v f).g - n)||(decide ((Ct v f).g - n=0)&&decide ((Ct v f).e=0)))
def Sk (v:List Liq) (s:Stp) (n:Int):List Liq × Bool:=
 if s.kind=0 then Hn v s.frm.toNat s.to.toNat n else if s.kind=1 then Qd v s.to.toNat n else V6 v s.frm.toNat n
def Xw (l:Liq):Prop:=(0≤l.g∧l.g≤1000000)∧0≤l.e∧l.e≤1000000000
def Lf (v:List Liq):Prop:=∀ k,Xw (v.getD k default)
theorem X6 {v:List Liq} {k j:Nat} {a:Liq}:Ct (v.set k a) j=if j=k∧k < v.length then a else Ct v j:=by
 unfold Ct
 rw [List.getD_eq_getElem?_getD,List.getD_eq_getElem?_getD,List.getElem?_set]
 by_cases h:k=j
 ·subst h
  by_cases h2:k < v.length
  ·simp [h2]
  ·simp [h2]
 ·rw [if_neg h,if_neg (fun e=>h e.1.symm)]
theorem Aeu {v:List Liq} {k:Nat} {a:Liq} (hw:Lf v) (ha:Xw a):Lf (v.set k a):=fun j=>by
 have:=X6 (v:=v) (k:=k) (j:=j) (a:=a)
 unfold Ct at this
 rw [this]
 split
 ·exact ha
 ·exact hw j
theorem Ui {n e g:Int} (h0:0≤n) (h1:n≤g) (h2:0≤e) (hg:0 < g):0≤n * e / g∧n * e / g≤e:=by
 refine ⟨Int.ediv_nonneg (Int.mul_nonneg h0 h2) (by omega),?_⟩
 have h3:n * e≤g * e:=Int.mul_le_mul_of_nonneg_right h1 h2
 have h4:n * e / g≤g * e / g:=Int.ediv_le_ediv hg h3
 rwa [Int.mul_ediv_cancel_left _ (by omega)] at h4
def doS (vs:List Ves) (v:List Liq) (s:Stp) (n:Int):List Liq × Bool:=
 ((Sk v s n).1,(Sk v s n).2&&decide ((Ct (Sk v s n).1 s.to.toNat).g≤(vs.getD s.to.toNat default).room))
def unI:List Int→List Liq
 | a :: b :: r=>⟨a,b⟩ :: unI r
 | _=>[]
theorem Ajt:∀ v:List Liq,unI (wI v)=v
 | []=>rfl
 | l :: v=>by
  show (⟨l.g,l.e⟩:Liq) :: unI (wI v)=_
  rw [Ajt v]
def kD (s:Stp) (n:Int) (v:List Liq):List Int:=s.kind :: s.frm :: s.to :: s.g.lo :: s.g.hi :: n :: wI v
def doK (vs:List Ves) (ks:List Int):List Liq × Bool:=doS vs (unI (ks.drop 6)) ⟨ks.getD 0 0,ks.getD 1 0,ks.getD 2 0,⟨ks.getD 3 0,ks.getD 4 0⟩⟩ (ks.getD 5 0)
theorem Api {vs:List Ves} {s:Stp} {n:Int} {v:List Liq}:doK vs (kD s n v)=doS vs v s n:=by
 show doS vs (unI (wI v)) _ _=_
 rw [Ajt]; rfl
def Ahd (r:List Liq × Bool):Value:=.agg (((wI r.1).map (Value.int .i64))++[Value.bool r.2]).toArray
def Vf (vs:List Ves) (ks:List Int):Value:=Ahd (doK vs ks)
theorem Se {r:List Liq × Bool}:E6 (Ahd r)=true:=by
 unfold Ahd E6
 simp only [List.all_append,Bool.and_eq_true,List.all_eq_true]
 exact ⟨fun x hx=>by obtain ⟨n,_,rfl⟩:=List.mem_map.1 hx; rfl,by simp [Value.oneCell']⟩
theorem Adp {r:List Liq × Bool}:Bu (Ahd r)=.agg (cW r.1++[bl r.2]):=by
 have:=Se (r:=r)
 unfold Ahd at this ⊢
 rw [Ja this]
 simp only [List.map_append,List.map_map]
 rfl
theorem Acb {v:List Liq} {s:Stp} {n:Int}:(Sk v s n).1.length=v.length:=by
 unfold Sk
 split
 ·unfold Hn; split
  ·rfl
  ·split
   ·simp [N1,Li]
   ·rfl
 ·split <;> simp [Qd,V6]
theorem Wx {vs:List Ves} {v:List Liq} {s:Stp} {n:Int}:(doS vs v s n).1.length=v.length:=Acb
theorem Ao9 {v:List Liq}:(wI v).length=2 * v.length:=by
 have:=Bg (v:=v); unfold cW at this; rwa [List.length_map] at this
theorem Ai1 {s:Stp} {n:Int} {v:List Liq} (h:v.length=4):(kD s n v).length=14:=by simp [kD,Ao9,h]
theorem Acn {s:Stp} {n:Int} {v:List Liq}:Df (i64 s.kind :: i64 s.frm :: i64 s.to :: i64 s.g.lo :: i64 s.g.hi :: i64 n :: cW v)=some (kD s n v):=S9 (kD s n v)
theorem W4 {v:List Liq} (h:v.length=4):∃ a b c d,v=[a,b,c,d]:=by
 match v,h with
 | [a,b,c,d],_=>exact ⟨a,b,c,d,rfl⟩
theorem Ane {v:List Liq} {a1 a2 a3 a4 a5 a6 x1 x2 x3 x4 x5 x6 x7 x8:AV} (h:v.length=4):A7 [a1,a2,a3,a4,a5,a6,x1,x2,x3,x4,x5,x6,x7,x8] 6 (cW v)=a1 :: a2 :: a3 :: a4 :: a5 :: a6 :: cW v:=by
 obtain ⟨a,b,c,d,rfl⟩:=W4 h; rfl
theorem Arw {v:List Liq} {y x1 x2 x3 x4 x5 x6 x7 x8:AV} (h:v.length=4):A7 [x1,x2,x3,x4,x5,x6,x7,x8,y] 0 (cW v)=cW v++[y]:=by
 obtain ⟨a,b,c,d,rfl⟩:=W4 h; rfl
theorem Apc {v:List Liq} {x1 x2 x3 x4 x5 x6 x7 x8:AV} (h:v.length=4):A7 [x1,x2,x3,x4,x5,x6,x7,x8] 0 (cW v)=cW v:=by
 obtain ⟨a,b,c,d,rfl⟩:=W4 h; rfl
theorem Am5 {v:List Liq} {y z x1 x2 x3 x4 x5 x6 x7 x8:AV} (h:v.length=4):A7 [x1,x2,x3,x4,x5,x6,x7,x8,z] 0 (cW v++[y])=cW v++[y]:=by
 obtain ⟨a,b,c,d,rfl⟩:=W4 h; rfl
theorem Aex {v:List Liq} (h:v.length=4):(cW v).length=8:=by rw [Bg,h]
theorem Aio {v:List Liq} {y:AV} (h:v.length=4):(cW v++[y]).length=9:=by rw [G9,h]; rfl
theorem Aue {v:List Liq} {x y:AV} (h:v.length=4):(cW v++[x]).set 8 y=cW v++[y]:=by
 obtain ⟨a,b,c,d,rfl⟩:=W4 h; rfl
theorem Anb {v:List Liq} {x:AV} (h:v.length=4):(cW v++[x]).drop 8=[x]:=by
 obtain ⟨a,b,c,d,rfl⟩:=W4 h; rfl
theorem Anc {v:List Liq} {x:AV} (h:v.length=4):(cW v++[x]).take 9=cW v++[x]:=by
 obtain ⟨a,b,c,d,rfl⟩:=W4 h; rfl
theorem Aod {v:List Liq} {a1 a2 a3 a4 a5 a6:AV} (h:v.length=4):(a1 :: a2 :: a3 :: a4 :: a5 :: a6 :: cW v).take 14=a1 :: a2 :: a3 :: a4 :: a5 :: a6 :: cW v:=by
 obtain ⟨a,b,c,d,rfl⟩:=W4 h; rfl
theorem Aom {v:List Liq} {a1 a2 a3 a4 a5 a6 b1 b2 b3 b4 b5 b6 x1 x2 x3 x4 x5 x6 x7 x8:AV} (h:v.length=4):A7 [b1,b2,b3,b4,b5,b6,x1,x2,x3,x4,x5,x6,x7,x8] 0 (a1 :: a2 :: a3 :: a4 :: a5 :: a6 :: cW v)=a1 :: a2 :: a3 :: a4 :: a5 :: a6 :: cW v:=by
 obtain ⟨a,b,c,d,rfl⟩:=W4 h; rfl
theorem Apz {s:Stp} {n:Int} {v:List Liq} (hs:inR s.kind=true∧inR s.frm=true∧inR s.to=true∧inR s.g.lo=true∧inR s.g.hi=true) (hn:inR n=true) (hw:Lf v):(kD s n v).all inR=true:=by
 have h:∀ v:List Liq,(∀ l ∈ v,Xw l)→(wI v).all inR=true:=by
  intro v
  induction v with
  | nil=>intro _; rfl
  | cons l v ih=>
   intro h
   show (l.g :: l.e :: wI v).all inR=true
   have:=h l (by simp)
   obtain ⟨⟨h1,h2⟩,h3,h4⟩:=this
   simp only [List.all_cons,Bool.and_eq_true,ih (fun x hx=>h x (by simp [hx])),inR,decide_eq_true_eq,and_true]
   omega
 unfold kD
 simp only [List.all_cons,Bool.and_eq_true]
 refine ⟨hs.1,hs.2.1,hs.2.2.1,hs.2.2.2.1,hs.2.2.2.2,hn,h v fun l hl=>?_⟩
 obtain ⟨k,hk⟩:=List.mem_iff_getElem?.1 hl
 have:=hw k
 rwa [List.getD_eq_getElem?_getD,hk] at this
theorem Adt (l:List Rng) (r:Rng) (n:Int):Ll (l++[r]) n=Ll l n * Ji r:=by
 induction l generalizing n with
 | nil=>rfl
 | cons x l ih=>exact ih _
theorem Tr {l:List Rng} {k:Nat} (h:k < l.length):Ll (l.take (k+1)) 1=Ll (l.take k) 1 * Ji (l.getD k default):=by
 rw [List.take_add_one,List.getElem?_eq_getElem h]
 simp only [Option.toList_some]
 rw [Adt]; simp [List.getD,h]
theorem Gh {α:Type} {l:List α} {k:Nat} (d:α) (h:k < l.length):l.getD k d ∈ l:=by
 rw [← List.getElem_eq_getD (h:=h)]; exact List.getElem_mem _
theorem T7 {l:List Rng} (hl:∀ r ∈ l,1≤Ji r∧Ji r≤3):∀ k,k≤l.length→1≤Ll (l.take k) 1∧Ll (l.take k) 1≤3 ^ k
 | 0,_=>by simp [Ll]
 | k+1,h=>by
  have ih:=T7 hl k (by omega)
  have hs:=hl _ (Gh default (show k < l.length by omega))
  rw [Tr (by omega)]
  generalize Ll (l.take k) 1=p at ih
  generalize Ji (l.getD k default)=s at hs
  rw [Int.pow_succ]
  constructor
  ·have:=Int.mul_le_mul ih.1 hs.1 (by omega) (by omega); omega
  ·exact Int.mul_le_mul ih.2 hs.2 (by omega) (by have:=ih.1; omega)
theorem Alx {k:Nat} (h:k≤14):(3:Int) ^ k≤4782969:=by
 have:=Nat.pow_le_pow_right (show 0 < 3 by omega) h
 have e:((3 ^ k:Nat):Int)=(3:Int) ^ k:=by simp
 rw [← e]; omega
theorem Ns {r:Rng} {m:Int} (h:J9 r m=true):1≤Ji r∧Ji r≤3:=by
 simp only [J9,Bool.and_eq_true,decide_eq_true_eq] at h; unfold Ji; omega
theorem Jj {r:Rng} {m:Int} (h:J9 r m=true):0≤r.lo∧r.lo≤r.hi∧r.hi≤m∧r.hi - r.lo≤2:=by
 simpa only [J9,Bool.and_eq_true,decide_eq_true_eq] using h
theorem Gr {v:Ves} (h:Kd v=true):J9 v.g 60=true∧J9 v.d 120=true∧0≤v.room∧v.room≤60:=by
 simpa only [Kd,inB,Bool.and_eq_true,decide_eq_true_eq] using h
theorem Gs {n:Int} {s:Stp} (h:H7 n s=true):(0≤s.kind∧s.kind≤2)∧(0≤s.frm∧s.frm≤n - 1)∧(0≤s.to∧s.to≤n - 1)∧(s.frm=s.to↔s.kind≠0)∧J9 s.g 60=true:=by
 simp only [H7,inB,Bool.and_eq_true,decide_eq_true_eq,beq_iff_eq] at h
 obtain ⟨h1,h2,h3,h4,h5⟩:=h
 refine ⟨h1,h2,h3,?_,h5⟩
 by_cases e:s.frm=s.to <;> by_cases e2:s.kind=0 <;> simp_all
theorem Vu {b:E9} (h1:b.vs.all Kd=true) (h2:b.ss.all (H7 b.vs.length)=true):∀ r ∈ Fw b,1≤Ji r∧Ji r≤3:=by
 intro r hr
 simp only [Fw,List.mem_append,List.mem_map] at hr
 rcases hr with (⟨v,hv,rfl⟩ | ⟨v,hv,rfl⟩) | ⟨s,hs,rfl⟩
 ·exact Ns (Gr (List.all_eq_true.1 h1 v hv)).1
 ·exact Ns (Gr (List.all_eq_true.1 h1 v hv)).2.1
 ·exact Ns (Gs (List.all_eq_true.1 h2 s hs)).2.2.2.2
theorem Pd {b:E9}:(Fw b).length=b.vs.length+b.vs.length+b.ss.length:=by simp [Fw]; omega
theorem Aa8 {b:E9} (h:C0 b=0):b.vs.length≤4∧b.ss.length≤6∧0 < b.vs.length∧b.vs.all Kd=true∧b.ss.all (H7 b.vs.length)=true∧Ni b≤2000:=by
 unfold C0 at h
 split at h
 ·omega
 ·split at h
  ·omega
  ·split at h
   ·omega
   ·split at h
    ·omega
    ·split at h
     ·omega
     ·rename_i h1 h2 h3 h4 h5
      refine ⟨by omega,by omega,by omega,?_,?_,by omega⟩
      ·cases hb:b.vs.all Kd <;> simp_all
      ·cases hb:b.ss.all (H7 b.vs.length) <;> simp_all
def tot:List Liq→Int
 | []=>0
 | l :: v=>l.e+tot v
theorem R6:∀ {v:List Liq} {k:Nat} {a:Liq},k < v.length→tot (v.set k a)=tot v - (Ct v k).e+a.e
 | l :: v,0,a,_=>by simp [tot]; omega
 | l :: v,k+1,a,h=>by
  have:=R6 (v:=v) (k:=k) (a:=a) (by simpa using h)
  simp [tot] at this ⊢
  omega
structure OkV (v:List Liq):Prop where
 len:v.length=4
 g:∀ k,0≤(v.getD k default).g∧(v.getD k default).g≤60
 e:∀ k,0≤(v.getD k default).e
 t:tot v≤28800
theorem Tq:∀ {v:List Liq},(∀ k,0≤(v.getD k default).e)→0≤tot v
 | [],_=>by simp [tot]
 | l :: v,h=>by
  have h0:=h 0
  have:=Tq (v:=v) fun k=>by simpa using h (k+1)
  simp [tot] at *; omega
theorem Aat:∀ {v:List Liq},(∀ k,0≤(v.getD k default).e)→∀ k,(v.getD k default).e≤tot v
 | [],_,k=>by
  show (default:Liq).e≤0
  exact Int.le_refl _
 | l :: v,h,0=>by
  have:=Tq (v:=v) fun k=>by simpa using h (k+1)
  simp [tot]; omega
 | l :: v,h,k+1=>by
  have h0:=h 0
  have:=Aat (v:=v) (fun k=>by simpa using h (k+1)) k
  simp [tot] at *; omega
theorem OkV.small {v:List Liq} (h:OkV v):Lf v:=fun k=>by
 have h1:=h.g k
 have h2:=h.e k
 have h3:=Aat h.e k
 have h4:=h.t
 exact ⟨⟨h1.1,by omega⟩,h2,by omega⟩
theorem Fm {v:List Liq} {k j:Nat} {a:Liq}:(v.set k a).getD j default=if j=k∧k < v.length then a else v.getD j default:=X6
theorem OkV.set {v:List Liq} (h:OkV v) {k:Nat} (hk:k < 4) {a:Liq} (hg:0≤a.g∧a.g≤60) (he:0≤a.e) (ht:tot v - (v.getD k default).e+a.e≤28800):OkV (v.set k a):=by
 have hl:=h.len
 refine ⟨by rw [List.length_set]; exact hl,fun j=>?_,fun j=>?_,?_⟩
 ·rw [Fm]; split
  ·exact hg
  ·exact h.g j
 ·rw [Fm]; split
  ·exact he
  ·exact h.e j
 ·rw [R6 (by omega)]; exact ht
theorem Am1 {vs:List Ves} {v:List Liq} {s:Stp} {n:Int} (h:OkV v) (hvs:vs.length≤4) (hv:vs.all Kd=true) (hs:H7 vs.length s=true) (hn:0≤n) (hd:(doS vs v s n).2=true):OkV (doS vs v s n).1:=by
 obtain ⟨hk,hf,ht,hft,_⟩:=Gs hs
 have hroom:∀ k,k < vs.length→(vs.getD k default).room≤60:=fun k hk=>(Gr (List.all_eq_true.1 hv _ (Gh default hk))).2.2.2
 have hr:=hroom s.to.toNat (by omega)
 simp only [doS,Bool.and_eq_true,decide_eq_true_eq] at hd ⊢
 obtain ⟨ha,hb⟩:=hd
 have hl:=h.len
 have g1:=h.g s.frm.toNat
 have g2:=h.e s.frm.toNat
 have g3:=h.g s.to.toNat
 have g4:=h.e s.to.toNat
 have htt:=h.t
 by_cases k0:s.kind=0
 ·have hne:s.frm≠s.to:=fun e=>(hft.1 e) k0
  have hne2:s.frm.toNat≠s.to.toNat:=by omega
  simp only [Sk,if_pos k0] at ha hb ⊢
  unfold Hn at ha hb ⊢
  split at ha
  ·cases ha
  ·rename_i h1
   rw [if_neg h1] at hb ⊢
   by_cases hn0:0 < n
   ·rw [if_pos hn0] at hb ⊢
    have hx:=Ui (n:=n) (g:=(Ct v s.frm.toNat).g) hn (by omega) g2 (by omega)
    have hx1:0≤G2 v s.frm.toNat n:=hx.1
    have hx2:G2 v s.frm.toNat n≤(v.getD s.frm.toNat default).e:=hx.2
    have e1:(Li v s.frm.toNat n).getD s.to.toNat default=v.getD s.to.toNat default:=by
     unfold Li; rw [Fm,if_neg (fun e=>hne2 e.1.symm)]
    have o1:OkV (Li v s.frm.toNat n):=h.set (by omega) ⟨by show 0≤_ - n; unfold Ct at h1 ⊢; omega,by show _ - n≤60; unfold Ct; omega⟩ (by show 0≤_ - _; unfold Ct; omega) (by show tot v - _+(_ - _)≤_; unfold Ct; omega)
    have t1:tot (Li v s.frm.toNat n)=tot v - (v.getD s.frm.toNat default).e+((v.getD s.frm.toNat default).e - G2 v s.frm.toNat n):=R6 (by omega)
    have l1:(Li v s.frm.toNat n).length=4:=o1.len
    have e2:(N1 v s.frm.toNat s.to.toNat n).getD s.to.toNat default=⟨(v.getD s.to.toNat default).g+n,(v.getD s.to.toNat default).e+G2 v s.frm.toNat n⟩:=by
     unfold N1; rw [Fm,if_pos ⟨rfl,by omega⟩]; unfold Ct; rw [e1]
    have hb2:(v.getD s.to.toNat default).g+n≤(vs.getD s.to.toNat default).room:=by
     unfold Ct at hb; rw [e2] at hb; exact hb
    unfold N1
    refine o1.set (by omega) ⟨?_,?_⟩ ?_ ?_
    ·show 0≤(Ct _ _).g+n; unfold Ct; rw [e1]; omega
    ·show (Ct _ _).g+n≤60; unfold Ct; rw [e1]; omega
    ·show 0≤(Ct _ _).e+_; unfold Ct; rw [e1]; omega
    ·show _ - _+((Ct _ _).e+_)≤_; unfold Ct; rw [e1,t1]; omega
   ·rw [if_neg hn0]; exact h
 ·simp only [Sk,if_neg k0] at ha hb ⊢
  by_cases k1:s.kind=1
  ·simp only [if_pos k1] at ha hb ⊢
   unfold Qd at hb ⊢
   have hb2:(v.getD s.to.toNat default).g+n≤(vs.getD s.to.toNat default).room:=by
    have:Ct (v.set s.to.toNat ⟨(Ct v s.to.toNat).g+n,(Ct v s.to.toNat).e⟩) s.to.toNat=⟨(Ct v s.to.toNat).g+n,(Ct v s.to.toNat).e⟩:=by
     unfold Ct; rw [Fm,if_pos ⟨rfl,by omega⟩]
    simp only [this] at hb; exact hb
   exact h.set (by omega) ⟨by show 0≤_+n; unfold Ct; omega,by show _+n≤60; unfold Ct; omega⟩ (by show 0≤(Ct _ _).e; exact g4) (by show _ - _+(Ct _ _).e≤_; unfold Ct; omega)
  ·simp only [if_neg k1] at ha hb ⊢
   unfold V6 at ha ⊢
   have hg0:0≤(v.getD s.frm.toNat default).g - n:=by
    unfold Ct at ha
    simp only [Bool.or_eq_true,Bool.and_eq_true,decide_eq_true_eq] at ha
    omega
   exact h.set (by omega) ⟨hg0,by show _ - n≤60; unfold Ct; omega⟩ (by show 0≤(Ct _ _).e; exact g2) (by show _ - _+(Ct _ _).e≤_; unfold Ct; omega)
def Ho:List Ves→List Int→List Int→Nat→List Liq→List Liq × Bool
 | [],_,_,_,v=>(v,true)
 | x :: vs,gs,ds,i,v=>if x.room < gs.getD i 0 then (v,false) else Ho vs gs ds (i+1) (v.set i ⟨gs.getD i 0,gs.getD i 0 * ds.getD i 0⟩)
def P7 (vs:List Ves) (gs ds:List Int):List Liq × Bool:=Ho vs gs ds 0 v0
def J0 (vs:List Ves) (m:List Int):List Stp→Nat→List Liq × Bool→List Liq × Bool
 | [],_,r=>r
 | s :: ss,i,r=>if r.2=false then (r.1,false) else J0 vs m ss (i+1) (doS vs r.1 s (m.getD i 0))
def Ma (b:E9) (t:Tru):List Liq × Bool:=J0 b.vs t.m b.ss 0 (P7 b.vs t.g t.d)
def F0 (b:E9) (t:Tru):Bool:=
  decide (t.g.length=b.vs.length)&&(decide (t.d.length=b.vs.length)&&(decide (t.m.length=b.ss.length) &&
    ((List.range b.vs.length).all (fun k=>Jy (b.vs.getD k default).g (t.g.getD k 0)&&Jy (b.vs.getD k default).d (t.d.getD k 0)) &&
     (List.range b.ss.length).all fun k=>Jy (b.ss.getD k default).g (t.m.getD k 0))))
theorem Dm {b:E9} {t:Tru} (h:F0 b t=true):t.g.length=b.vs.length∧t.d.length=b.vs.length∧t.m.length=b.ss.length ∧
    (∀ k,k < b.vs.length→((b.vs.getD k default).g.lo≤t.g.getD k 0∧t.g.getD k 0≤(b.vs.getD k default).g.hi)∧(b.vs.getD k default).d.lo≤t.d.getD k 0∧t.d.getD k 0≤(b.vs.getD k default).d.hi) ∧
    ∀ k,k < b.ss.length→(b.ss.getD k default).g.lo≤t.m.getD k 0∧t.m.getD k 0≤(b.ss.getD k default).g.hi:=by
  simp only [F0,Jy,inB,Bool.and_eq_true,decide_eq_true_eq,List.all_eq_true,List.mem_range] at h
  exact h
structure Nf (b:E9):Prop where
  nv:b.vs.length≤4
  ns:b.ss.length≤6
  v:b.vs.all Kd=true
  s:b.ss.all (H7 b.vs.length)=true
theorem Ajg {b:E9} (h:C0 b=0):Nf b:=by
  obtain ⟨h1,h2,_,h4,h5,_⟩:=Aa8 h
  exact ⟨h1,h2,h4,h5⟩
theorem Nf.ves {b:E9} (h:Nf b) {k:Nat} (hk:k < b.vs.length):Kd (b.vs.getD k default)=true:=List.all_eq_true.1 h.v _ (Gh default hk)
theorem Nf.stp {b:E9} (h:Nf b) {k:Nat} (hk:k < b.ss.length):H7 b.vs.length (b.ss.getD k default)=true:=List.all_eq_true.1 h.s _ (Gh default hk)
theorem Km {b:E9} {t:Tru} (hv:Nf b) (h:F0 b t=true):(∀ k,0≤t.g.getD k 0∧t.g.getD k 0≤60)∧(∀ k,0≤t.d.getD k 0∧t.d.getD k 0≤120)∧∀ k,0≤t.m.getD k 0∧t.m.getD k 0≤60:=by
  obtain ⟨h1,h2,h3,h4,h5⟩:=Dm h
  have out:∀ (l:List Int) (k:Nat),l.length≤k→l.getD k 0=0:=fun l k hk=>by
    rw [List.getD_eq_getElem?_getD,List.getElem?_eq_none hk]; rfl
  refine ⟨fun k=>?_,fun k=>?_,fun k=>?_⟩
  · by_cases hk:k < b.vs.length
    · obtain ⟨q1,q2,_⟩:=Gr (hv.ves hk)
      have:=Jj q1; have:=(h4 k hk).1; omega
    · rw [out _ _ (by omega)]; omega
  · by_cases hk:k < b.vs.length
    · obtain ⟨q1,q2,_⟩:=Gr (hv.ves hk)
      have:=Jj q2; have:=(h4 k hk).2; omega
    · rw [out _ _ (by omega)]; omega
  · by_cases hk:k < b.ss.length
    · have:=Jj (Gs (hv.stp hk)).2.2.2.2; have:=h5 k hk; omega
    · rw [out _ _ (by omega)]; omega
theorem Yu:∀ {vs:List Ves} {gs ds:List Int} {i:Nat} {v:List Liq},i+vs.length≤4→(∀ k,0≤gs.getD k 0∧gs.getD k 0≤60)→(∀ k,0≤ds.getD k 0∧ds.getD k 0≤120) →
    OkV v→tot v≤7200 * (i:Int)→(∀ k,i≤k→(v.getD k default).e=0)→OkV (Ho vs gs ds i v).1
  | [],_,_,_,_,_,_,_,h,_,_=>h
  | x :: vs,gs,ds,i,v,hi,hg,hd,h,ht,hz=>by
    unfold Ho
    split
    · exact h
    · have g1:=hg i
      have d1:=hd i
      have e1:0≤gs.getD i 0 * ds.getD i 0:=Int.mul_nonneg g1.1 d1.1
      have e2:gs.getD i 0 * ds.getD i 0≤7200:=by
        have:=Int.mul_le_mul g1.2 d1.2 d1.1 (by omega); omega
      have hz0:=hz i (Nat.le_refl _)
      have hl:=h.len
      simp only [List.length_cons] at hi
      have t2:tot (v.set i ⟨gs.getD i 0,gs.getD i 0 * ds.getD i 0⟩)=tot v - (v.getD i default).e+gs.getD i 0 * ds.getD i 0:=R6 (by omega)
      refine Yu (by omega) hg hd (h.set (by omega) g1 e1 (by show _ - _+gs.getD i 0 * ds.getD i 0≤_; rw [hz0]; omega)) (by rw [t2,hz0]; omega) fun k hk=>?_
      rw [Fm,if_neg (by omega)]
      exact hz k (by omega)
theorem Awn:OkV v0:=by
  refine ⟨rfl,fun k=>?_,fun k=>?_,by decide⟩
  · match k with
    | 0=>decide
    | 1=>decide
    | 2=>decide
    | 3=>decide
    | k+4=>exact ⟨Int.le_refl _,by show (0:Int)≤60; omega⟩
  · match k with
    | 0=>decide
    | 1=>decide
    | 2=>decide
    | 3=>decide
    | k+4=>exact Int.le_refl _
theorem Vj {b:E9} {t:Tru} (hv:Nf b) (h:F0 b t=true):OkV (P7 b.vs t.g t.d).1:=by
  obtain ⟨h1,h2,_⟩:=Km hv h
  refine Yu (by have:=hv.nv; omega) h1 h2 Awn (by decide) fun k _=>?_
  match k with
  | 0=>rfl
  | 1=>rfl
  | 2=>rfl
  | 3=>rfl
  | k+4=>rfl
theorem Abd {vs:List Ves} {m:List Int} {ss:List Stp} {k:Nat} {r R:List Liq × Bool} (h:k < ss.length) (hr:r.2=true) (hp:J0 vs m (ss.drop k) k r=R):J0 vs m (ss.drop (k+1)) (k+1) (doS vs r.1 (ss.getD k default) (m.getD k 0))=R:=by
  have:ss.drop k=ss.getD k default :: ss.drop (k+1):=by rw [List.drop_eq_getElem_cons h]; simp [List.getD,h]
  rw [this] at hp; unfold J0 at hp; rw [if_neg (by rw [hr]; decide)] at hp; exact hp
theorem Sa {vs:List Ves} {m:List Int} {ss:List Stp} {k:Nat} {r R:List Liq × Bool} (h:k < ss.length) (hr:r.2=false) (hp:J0 vs m (ss.drop k) k r=R):R=(r.1,false):=by
  have:ss.drop k=ss.getD k default :: ss.drop (k+1):=by rw [List.drop_eq_getElem_cons h]; simp [List.getD,h]
  rw [this] at hp; unfold J0 at hp; rw [if_pos hr] at hp; exact hp.symm
theorem Wa {vs:List Ves} {m:List Int} {ss:List Stp} {k:Nat} {r R:List Liq × Bool} (h:ss.length≤k) (hp:J0 vs m (ss.drop k) k r=R):R=r:=by
  rw [List.drop_of_length_le h] at hp; exact hp.symm
def Au5 (l:Liq):Sta:=⟨l.g,l.e,Vy l⟩
def Jg (t:Tru):List Int:=[t.g,t.d,t.m].flatten
theorem Agw (t:Tru):(Jg t).length=t.g.length+(t.d.length+t.m.length):=by simp [Jg]
theorem Fq {α:Type} {l r:List α} {k:Nat} (d:α) (h:k < l.length):(l++r).getD k d=l.getD k d:=by
 simp [List.getD,List.getElem?_append_left h]
theorem Ek {α:Type} {l r:List α} {k:Nat} (d:α):(l++r).getD (l.length+k) d=r.getD k d:=by
 simp [List.getD,List.getElem?_append_right]
theorem Adh {b:E9} {t:Tru} (h1:t.g.length=b.vs.length) (h2:t.d.length=b.vs.length) (h3:t.m.length=b.ss.length)
  (h:∀ k,k < (Fw b).length→Jy ((Fw b).getD k default) ((Jg t).getD k 0)=true):F0 b t=true:=by
 have hl:=Pd (b:=b)
 have e:Jg t=t.g++(t.d++t.m):=by simp [Jg]
 have e2:Fw b=b.vs.map (·.g)++(b.vs.map (·.d)++b.ss.map (·.g)):=by simp [Fw]
 have a1:∀ k,k < b.vs.length→Jy (b.vs.getD k default).g (t.g.getD k 0)=true:=fun k hk=>by
  have:=h k (by omega)
  rw [e,e2,Fq _ (by simp; omega),Fq _ (by omega),C1 (·.g) default default hk] at this
  exact this
 have a2:∀ k,k < b.vs.length→Jy (b.vs.getD k default).d (t.d.getD k 0)=true:=fun k hk=>by
  have:=h (b.vs.length+k) (by omega)
  rw [e,e2] at this
  have w1:(b.vs.map (·.g)).length=b.vs.length:=List.length_map _
  rw [← w1,Ek,w1,← h1,Ek,Fq _ (by simp; omega),Fq _ (by omega),C1 (·.d) default default hk] at this
  exact this
 have a3:∀ k,k < b.ss.length→Jy (b.ss.getD k default).g (t.m.getD k 0)=true:=fun k hk=>by
  have:=h (b.vs.length+(b.vs.length+k)) (by omega)
  rw [e,e2] at this
  have w1:(b.vs.map (·.g)).length=b.vs.length:=List.length_map _
  have w2:(b.vs.map (·.d)).length=b.vs.length:=List.length_map _
  have q1:(b.vs.map (·.g)++(b.vs.map (·.d)++b.ss.map (·.g))).getD (b.vs.length+(b.vs.length+k)) default=(b.ss.map (·.g)).getD k default:=by
   conv=>lhs; rw [show b.vs.length+(b.vs.length+k)=(b.vs.map (·.g)).length+((b.vs.map (·.d)).length+k) by rw [w1,w2]]
   rw [Ek,Ek]
  have q2:(t.g++(t.d++t.m)).getD (b.vs.length+(b.vs.length+k)) 0=t.m.getD k 0:=by
   conv=>lhs; rw [show b.vs.length+(b.vs.length+k)=t.g.length+(t.d.length+k) by rw [h1,h2]]
   rw [Ek,Ek]
  rw [q1,q2,C1 (·.g) default default hk] at this
  exact this
 simp only [F0,Bool.and_eq_true,decide_eq_true_eq,List.all_eq_true,List.mem_range]
 exact ⟨h1,h2,h3,fun k hk=>⟨a1 k hk,a2 k hk⟩,a3⟩
theorem Ki {b:E9} {t:Tru} (h:F0 b t=true) {k:Nat} (hk:k < (Fw b).length):Jy ((Fw b).getD k default) ((Jg t).getD k 0)=true:=by
 have hl:=Pd (b:=b)
 have e:Jg t=t.g++(t.d++t.m):=by simp [Jg]
 have e2:Fw b=b.vs.map (·.g)++(b.vs.map (·.d)++b.ss.map (·.g)):=by simp [Fw]
 have w1:(b.vs.map (·.g)).length=b.vs.length:=List.length_map _
 have w2:(b.vs.map (·.d)).length=b.vs.length:=List.length_map _
 obtain ⟨h1,h2,h3,h4,h5⟩:=Dm h
 rw [e,e2]
 by_cases c1:k < b.vs.length
 ·rw [Fq _ (by omega),Fq _ (by omega),C1 (·.g) default default c1]
  simp only [Jy,inB,Bool.and_eq_true,decide_eq_true_eq]; exact (h4 k c1).1
 ·obtain ⟨j,rfl⟩:∃ j,k=b.vs.length+j:=⟨k - b.vs.length,by omega⟩
  have q1:(b.vs.map (·.g)++(b.vs.map (·.d)++b.ss.map (·.g))).getD (b.vs.length+j) default=(b.vs.map (·.d)++b.ss.map (·.g)).getD j default:=by
   conv=>lhs; rw [show b.vs.length+j=(b.vs.map (·.g)).length+j by rw [w1]]
   rw [Ek]
  have q2:(t.g++(t.d++t.m)).getD (b.vs.length+j) 0=(t.d++t.m).getD j 0:=by
   conv=>lhs; rw [show b.vs.length+j=t.g.length+j by rw [h1]]
   rw [Ek]
  rw [q1,q2]
  by_cases c2:j < b.vs.length
  ·rw [Fq _ (by omega),Fq _ (by omega),C1 (·.d) default default c2]
   simp only [Jy,inB,Bool.and_eq_true,decide_eq_true_eq]; exact (h4 j c2).2
  ·obtain ⟨i,rfl⟩:∃ i,j=b.vs.length+i:=⟨j - b.vs.length,by omega⟩
   have q1:(b.vs.map (·.d)++b.ss.map (·.g)).getD (b.vs.length+i) default=(b.ss.map (·.g)).getD i default:=by
    conv=>lhs; rw [show b.vs.length+i=(b.vs.map (·.d)).length+i by rw [w2]]
    rw [Ek]
   have q2:(t.d++t.m).getD (b.vs.length+i) 0=t.m.getD i 0:=by
    conv=>lhs; rw [show b.vs.length+i=t.d.length+i by rw [h2]]
    rw [Ek]
   rw [q1,q2,C1 (fun s:Stp=>s.g) default default (by omega)]
   simp only [Jy,inB,Bool.and_eq_true,decide_eq_true_eq]; exact h5 i (by omega)
theorem X0 {b:E9} (hv:Nf b) {m:List Int} (hm:∀ k,0≤m.getD k 0):∀ (ss:List Stp) (k:Nat) (r:List Liq × Bool),ss.all (H7 b.vs.length)=true→r.1.length=4→(r.2=true→OkV r.1)→(J0 b.vs m ss k r).1.length=4∧((J0 b.vs m ss k r).2=true→OkV (J0 b.vs m ss k r).1)
 | [],_,_,_,h1,h2=>⟨h1,h2⟩
 | s :: ss,k,r,hs,h1,h2=>by
  unfold J0
  split
  ·exact ⟨h1,fun h=>by cases h⟩
  ·rename_i hr
   have hr:r.2=true:=by simpa using hr
   rw [List.all_cons,Bool.and_eq_true] at hs
   exact X0 hv hm ss (k+1) _ hs.2 (by rw [Wx]; exact h1) fun hd=>Am1 (h2 hr) hv.nv hv.v hs.1 (hm k) hd
theorem Aj2 {b:E9} {t:Tru} (hv:Nf b) (h:F0 b t=true):(Ma b t).1.length=4∧((Ma b t).2=true→OkV (Ma b t).1):=by
 have h0:=Vj hv h
 obtain ⟨_,_,h3⟩:=Km hv h
 exact X0 hv (fun k=>(h3 k).1) b.ss 0 _ hv.s h0.len fun _=>h0
def OkN (n:Nat) (v:List Liq):Prop:=∃ w,OkV w∧v=w.take n
theorem OkN.len {n:Nat} {v:List Liq} (h:OkN n v) (hn:n≤4):v.length=n:=by
 obtain ⟨w,hw,rfl⟩:=h
 rw [List.length_take,hw.len]; omega
theorem Aem {w:List Liq} {n k:Nat} (h:k < n):Ct (w.take n) k=Ct w k:=by
 unfold Ct
 rw [List.getD_eq_getElem?_getD,List.getD_eq_getElem?_getD,List.getElem?_take,if_pos h]
theorem OkN.at {n:Nat} {v:List Liq} (h:OkN n v) (k:Nat):(0≤(Ct v k).g∧(Ct v k).g≤60)∧0≤(Ct v k).e∧(Ct v k).e≤28800:=by
 obtain ⟨w,hw,rfl⟩:=h
 by_cases hk:k < n
 ·rw [Aem hk]
  have:=Aat hw.e k
  have:=hw.t
  exact ⟨hw.g k,hw.e k,by unfold Ct; omega⟩
 ·have:Ct (w.take n) k=⟨0,0⟩:=by
   unfold Ct
   rw [List.getD_eq_getElem?_getD,List.getElem?_eq_none (by rw [List.length_take]; omega)]; rfl
  rw [this]; decide
section
variable {α:Type} {p:α→Bool} {l:List α} {k:Nat} {d:α}
theorem Mv (hk:k < l.length) (h:(l.take k).all p=true) (hp:p (l.getD k d)=true):(l.take (k+1)).all p=true:=by
 rw [List.take_add_one,List.all_append,h]
 simp [hk,List.getD] at hp ⊢
 exact hp
theorem Bz (hk:k < l.length) (hp:p (l.getD k d)=false):l.all p=false:=by
 have:l.getD k d ∈ l:=by rw [← List.getElem_eq_getD (h:=hk)]; exact List.getElem_mem _
 cases h:l.all p with
 | false=>rfl
 | true=>rw [List.all_eq_true] at h; rw [h _ this] at hp; cases hp
theorem Da (hk:l.length≤k) (h:(l.take k).all p=true):l.all p=true:=by rwa [List.take_of_length_le hk] at h
end
theorem Ajh {m s:Int} (h0:0≤m) (h1:1≤s):0≤m / s∧m / s≤m:=⟨Int.ediv_nonneg h0 (by omega),Int.ediv_le_self _ h0⟩
theorem Abw {α:Type} {l:List α} {n k:Nat} {d:α} (h:k < n):(l.take n).getD k d=l.getD k d:=by
 rw [List.getD_eq_getElem?_getD,List.getD_eq_getElem?_getD,List.getElem?_take,if_pos h]
def Aqz:List (Int × Int)→Int
 | []=>0
 | p :: l=>p.1+Aqz l
instance instPP:Inhabited (Int × Int):=⟨(0,0)⟩
structure Ba2 (cs:List (Int × Int)) (n:Int):Prop where
 l1:0 < cs.length
 l4:cs.length≤4
 g:∀ p ∈ cs,1≤p.1
 d:∀ p ∈ cs,0≤p.2∧p.2≤120
 n0:0≤n
 all:Aqz cs+n≤60
def Ayu (c:Csk):Csk:=⟨c.g,⟨c.t.lo,c.t.lo⟩,⟨c.k.lo,c.k.lo⟩⟩
theorem Zn {r:Rng} (h:r.lo=r.hi):Rk r=[r.lo]:=by
 unfold Rk
 rw [show (r.hi+1 - r.lo).toNat=1 by omega]
 simp [List.range_succ]
def P9 (t:Tbl) (c:Csk):Int:=atX t c.t.lo c.k.lo
theorem Al3 {s:Sto} (h:Ng s) {c:Csk} (hc:c ∈ s.c) (h1:c.t.lo=c.t.hi) (h2:c.k.lo=c.k.hi):E8 s c=⟨P9 s.t c,P9 s.t c⟩∧0≤P9 s.t c∧P9 s.t c≤2000:=by
 have ho:=List.all_eq_true.1 h.c c hc
 simp only [okC,Ep,Bool.and_eq_true,decide_eq_true_eq] at ho
 have hb:=Ajk h.t (warmth:=c.t.lo) (B4:=c.k.lo) ⟨by omega,by omega⟩
 refine ⟨?_,hb⟩
 unfold E8 L3
 rw [Zn h1,Zn h2]
 simp only [List.flatMap_cons,List.flatMap_nil,List.map_cons,List.map_nil,List.append_nil,Aoj,List.foldl_cons,List.foldl_nil]
 unfold P9
 rw [Int.min_eq_right hb.2,Int.max_eq_right hb.1]
abbrev Af8 (a b:Int):Int:=IntKind.i64.wrap (a * b)
abbrev Aco (a b:Int):Int:=IntKind.i64.wrap (a+b)
def Dt (s:Sto) (z:Int × Int × Int) (i:Int):(Int × Int × Int) × Bool:=
 let c:=s.c.getD i.toNat default
 ((Aco z.1 c.g,Aco z.2.1 (Af8 c.g (E8 s c).lo),Aco z.2.2 (Af8 c.g (E8 s c).hi)),true)
def smG (s:Sto):List Int→Int
 | []=>0
 | i :: l=>(s.c.getD i.toNat default).g+smG s l
def smS (s:Sto) (f:Rng→Int):List Int→Int
 | []=>0
 | i :: l=>(s.c.getD i.toNat default).g * f (E8 s (s.c.getD i.toNat default))+smS s f l
def SmS (s:Sto) (i:Int):Prop:=(0≤(s.c.getD i.toNat default).g∧(s.c.getD i.toNat default).g≤99)∧(0≤(E8 s (s.c.getD i.toNat default)).lo∧(E8 s (s.c.getD i.toNat default)).lo≤2000)∧0≤(E8 s (s.c.getD i.toNat default)).hi∧(E8 s (s.c.getD i.toNat default)).hi≤2000
theorem Zl {s:Sto}:∀ (l:List Int) (g a b:Int),(∀ i ∈ l,SmS s i)→0≤g→g+99 * (l.length:Int)≤1000000→0≤a→a+198000 * (l.length:Int)≤1000000000→0≤b→b+198000 * (l.length:Int)≤1000000000 →
  Dy (Dt s) (g,a,b) l=((g+smG s l,a+smS s (·.lo) l,b+smS s (·.hi) l),true)
 | [],g,a,b,_,_,_,_,_,_,_=>by simp [Dy,smG,smS]
 | i :: l,g,a,b,h,h1,h2,h3,h4,h5,h6=>by
  obtain ⟨⟨q1,q2⟩,⟨q3,q4⟩,q5,q6⟩:=h i (by simp)
  have m1:=Eu q1 q2 q3 q4
  have m2:=Eu q1 q2 q5 q6
  simp only [List.length_cons] at h2 h4 h6
  have e:Dt s (g,a,b) i=((g+(s.c.getD i.toNat default).g,a+(s.c.getD i.toNat default).g * (E8 s (s.c.getD i.toNat default)).lo,b+(s.c.getD i.toNat default).g * (E8 s (s.c.getD i.toNat default)).hi),true):=by
   unfold Dt Aco Af8
   dsimp only
   rw [Dk (n:=(s.c.getD i.toNat default).g * (E8 s (s.c.getD i.toNat default)).lo) (by omega) (by omega),Dk (n:=(s.c.getD i.toNat default).g * (E8 s (s.c.getD i.toNat default)).hi) (by omega) (by omega),Dk (by omega) (by omega),Dk (by omega) (by omega),Dk (by omega) (by omega)]
  simp only [Dy,e,if_true]
  rw [Zl l _ _ _ (fun j hj=>h j (by simp [hj])) (by omega) (by omega) (by omega) (by omega) (by omega) (by omega)]
  simp only [smG,smS,Int.add_assoc]
theorem Ahr {s:Sto}:∀ (l:List Int),(∀ i ∈ l,SmS s i)→(0≤smG s l∧smG s l≤99 * (l.length:Int))∧(0≤smS s (·.lo) l∧smS s (·.lo) l≤198000 * (l.length:Int))∧0≤smS s (·.hi) l∧smS s (·.hi) l≤198000 * (l.length:Int)
 | [],_=>by simp [smG,smS]
 | i :: l,h=>by
  obtain ⟨⟨q1,q2⟩,⟨q3,q4⟩,q5,q6⟩:=h i (by simp)
  have m1:=Eu q1 q2 q3 q4
  have m2:=Eu q1 q2 q5 q6
  have ih:=Ahr l (fun j hj=>h j (by simp [hj]))
  simp only [smG,smS,List.length_cons]
  omega
theorem Ak0 {α:Type} {l:List α} {k:Nat} (d:α) (h:k < l.length):l.take (k+1)=l.take k++[l.getD k d]:=by
 rw [List.take_add_one,List.getElem?_eq_getElem h]
 simp [List.getD,h]
end AM.Wort
end
/- The abstract machine, part 80: regions that draw their order: a call of a function value that changes nothing. -/
section
namespace AM
open Go
section
variable {P:Program} {r:RB} {N:Nat} {ops opt all:List Oper}
def Ak6:Op→Bool
 | .indexAddr ..=>true
 | op=>rop op
theorem Aai {op:Op} (h:Ak6 op=true):qop op=true∧Cx op=false∧Du op=false∧isM op=false:=by
 cases op <;> first | exact ⟨rfl,rfl,rfl,rfl⟩ | (refine Aci ?_; exact h)
theorem Ag4 {esz:Nat→Nat} {ea:Nat→Bool} {os:Nat→Option AO} {x y:AV} {k:TK} {e:Eff} (h:fIA esz ea os x k y=some e):∃ z,e=.pure z:=by
 unfold fIA at h
 split at h
 ·split at h
  ·split at h
   ·cases h; exact ⟨_,rfl⟩
   ·cases h
  ·split at h
   ·split at h
    ·cases h; exact ⟨_,rfl⟩
    ·cases h
   ·cases h
  ·split at h
   ·cases h; exact ⟨_,rfl⟩
   ·cases h
  ·cases h
 ·split at h
  ·split at h
   ·cases h; exact ⟨_,rfl⟩
   ·cases h
  ·split at h
   ·cases h; exact ⟨_,rfl⟩
   ·cases h
  ·cases h
 ·cases h
theorem Adj {op:Op} {d:Nat} {ρ:Operand→AV} {os:Nat→Option AO} {e:Eff} (h:Ak6 op=true) (he:eff P d op ρ os=some e):∃ y,e=.pure y:=by
 have g:∀ t x i,eff P d (.indexAddr t x i) ρ os=fIA (fun e=>(Aa P e).sz) (fun e=>(Aa P e).agg.isSome) os (ρ x) (Aa P t).k (ρ i):=fun _ _ _=>rfl
 cases op <;> first | (rw [g] at he; exact Ag4 he) | (refine Za ?_ he; exact h)
theorem Abn {j i:Oper} {f:FuncId} {as:Array Operand} {ts:Array TypeId} (hj:Ak6 j.op=true) (hjg:j.guard=none) (hig:i.guard=none) (hop:i.op=.call ⟨.value (.func f),as,ts⟩) (hv:r.v.contains f=true) (hq:r.q.contains f=true) (hap:j.apart all.toArray i=true):Fo P r N all j i:=by
 intro l s K hc hE
 obtain ⟨q0,q1,q2,q3⟩:=Aai hj
 obtain ⟨a1,a2,a3⟩:=Oper.apart_spec hap
 rw [Bd hjg q1 q2 q3] at hE
 obtain ⟨h1,e,s1,he,hs1,h2⟩:=hE
 obtain ⟨y,rfl⟩:=Adj hj he
 have hs1':s1=s.put j.dst y:=by cases hs1; rfl
 subst hs1'
 rw [Ahj hig hop hv hq] at h2 ⊢
 obtain ⟨h3,bd,res,h4,h5,h6,h7,h8⟩:=h2
 have ho:(s.put j.dst y).o=s.o:=by cases j.dst <;> rfl
 have hargs:as.toList.map (ev (s.put j.dst y).t)=as.toList.map (ev s.t):=List.map_congr_left fun x hx=>Gi (fun d hd hxd=>a1 d hd (Cs (o:=i) (by rw [hop]; simp [Op.operands,Call.operands]; right; simpa using hx) hxd))
 rw [ho,hargs] at h4
 rw [ho] at h5
 refine ⟨h3,bd,res,h4,h5,h6,h7,?_⟩
 show EL P r N all (j :: l) (s.put i.dst res) K
 rw [Bd hjg q1 q2 q3]
 refine ⟨h1,.pure y,_,?_,rfl,?_⟩
 ·rw [← he]
  have ho2:(s.put i.dst res).o=s.o:=by cases i.dst <;> rfl
  rw [ho2]
  exact Hi q0 q1 ⟨fun x hx=>Gi (fun d hd hxd=>a3 d hd (Cs hx hxd)),fun _ _ _ _=>rfl⟩
 ·have e9:(s.put i.dst res).put j.dst y=(s.put j.dst y).put i.dst res:=by
   cases hjd:j.dst with
   | none=>rfl
   | some dj=>cases hid:i.dst with
    | none=>rfl
    | some di=>
     have hne:dj≠di:=fun e=>a2 dj hjd (by rw [hid,e])
     simp only [St.put]
     congr 1
     exact Cp (Ne.symm hne)
  rw [e9]; exact h8
theorem Adq {b:Nat→Nat} (hb:Q1 ops b) {m x:Nat} {f:FuncId} {as:Array Operand} {ts:Array TypeId} {dst:Option Nat} {ty:TypeId} {pos:String} {after:Array Edge}
  (hsame:∀ i,i≠m→opt[i]?=ops[i]?) (hm1:ops[m]?=some ⟨dst,.call ⟨.value (.tmp x),as,ts⟩,ty,pos,after,none⟩) (hm2:opt[m]?=some ⟨dst,.call ⟨.value (.func f),as,ts⟩,ty,pos,after,none⟩)
  (hv:r.v.contains f=true) (hq:r.q.contains f=true) (hng:∀ (i:Nat) (o:Oper),ops[i]?=some o→o.guard=none) (htm:∀ (i:Nat) (o:Oper),i≠m→ops[i]?=some o→Ro r.v o=true)
  (hx:∀ (i:Nat) (o:Oper),ops[i]?=some o→o.dst=some x→i < m∧(b m).testBit i=true)
  (hsw:∀ (i j:Nat) (oi oj:Oper),j < i→opt[i]?=some oi→opt[j]?=some oj→(b i).testBit j=false→Gv P r N opt oj∧Fo P r N opt oj oi)
  {K:St→Prop} (hK:∀ s':St,K s'→s'.t x=.fn (.func f) [] []) {Q:Exit→Act→World→Prop} :
  ∀ (fuel:Nat) (listed:Array Bool) (s:St) (B:Nat) (S:Nat→Prop) (θ:Nat→Loc) (M:Nat→Prop) (w:World) (a:Act),Aq N B S θ M w s a→listed.size=ops.length→Mr ops listed→(B7 ops.length listed).length≤fuel →
   EL P r N opt ((B7 ops.length listed).filterMap (opt[·]?)) s K→(∀ s' a' w',K s'→Fin r N B S θ M w a s' a' w'→Q .normal a' w')→wpAnyIn (Wd r.rd) 0 P .any ops.toArray Q fuel listed a w:=by
 intro fuel
 have hready:∀ {listed:Array Bool} {x:Nat},x ∈ Region.ready .any ops.toArray listed→x ∈ B7 ops.length listed:=fun h=>((C4 rfl).1 h).1
 induction fuel with
 | zero=>
  intro listed s B S θ M w a hs hsz hcl hf hE hQ
  have hnil:B7 ops.length listed=[]:=List.length_eq_zero_iff.1 (by omega)
  refine ⟨List.eq_nil_iff_forall_not_mem.2 fun x hx=>?_,?_⟩
  ·have:=hready hx
   rw [hnil] at this; cases this
  ·rw [hnil] at hE
   exact hQ s a w hE ⟨H3.refl hs,rfl⟩
 | succ fuel ih=>
  intro listed s B S θ M w a hs hsz hcl hf hE hQ
  refine ⟨fun hr=>?_,fun i hi=>?_⟩
  ·have hnil:B7 ops.length listed=[]:=by
    cases hrem:B7 ops.length listed with
    | nil=>rfl
    | cons x l=>
     exfalso
     have hx:x ∈ B7 ops.length listed:=by rw [hrem]; simp
     have hsort:(B7 ops.length listed).Pairwise (· < ·):=(List.pairwise_lt_range).filter _
     rw [hrem,List.pairwise_cons] at hsort
     obtain ⟨hxn,hxl⟩:=Db.1 hx
     have:x ∈ Region.ready .any ops.toArray listed:=(C4 rfl).2 ⟨hx,ops[x],by simp [hxn],fun e he hbe=>by
      have hlt:=hb.lt x ops[x] (by simp [hxn]) e he hbe
      cases hl:listed.getD e.on false with
      | true=>rfl
      | false=>
       exfalso
       have hen:e.on < ops.length:=Nat.lt_trans hlt hxn
       have:e.on ∈ B7 ops.length listed:=Db.2 ⟨hen,by
        rw [Array.getD_eq_getD_getElem?] at hl ⊢
        have hsz':e.on < listed.size:=by omega
        simp only [Array.getElem?_eq_getElem hsz',Option.getD_some] at hl ⊢
        exact hl⟩
       rw [hrem] at this
       rcases List.mem_cons.1 this with h | h
       ·omega
       ·have:=hsort.1 _ h; omega⟩
     rw [hr] at this; cases this
   rw [hnil] at hE
   exact hQ s a w hE ⟨H3.refl hs,rfl⟩
  ·obtain ⟨hrem,o,ho,hafter⟩:=(C4 rfl).1 hi
   obtain ⟨pre,post,he,hpre,hset⟩:=Hm hsz hrem
   have hsort:(pre++i :: post).Pairwise (· < ·):=by rw [← he]; exact (List.pairwise_lt_range).filter _
   have hpl:∀ j ∈ pre++i :: post,listed.getD j true=false:=fun j hj=>(Db.1 (show j ∈ B7 ops.length listed by rw [he]; exact hj)).2
   have hne:∀ k ∈ pre++post,k≠i:=fun k hk e=>by
    subst e
    have h4:=List.pairwise_append.1 hsort
    rcases List.mem_append.1 hk with h | h
    ·have:=h4.2.2 k h k (by simp); omega
    ·have:=(List.pairwise_cons.1 h4.2.1).1 k h; omega
   have hmk:∀ k ∈ pre++post,k < i→(b i).testBit k=false:=fun k hk hki=>by
    cases ht:(b i).testBit k with
    | false=>rfl
    | true=>
     have h1:=F2 hb hcl i o ho hafter hki ht
     have h2:=hpl k (by
      rcases List.mem_append.1 hk with h | h
      ·simp [h]
      ·simp [h])
     rw [Px h2] at h1; cases h1
   obtain ⟨o',ho',hgo⟩:∃ o',opt[i]?=some o'∧EL P r N opt (o' :: (pre.filterMap (opt[·]?)++post.filterMap (opt[·]?))) s K:=by
    have hoi:∃ o',opt[i]?=some o':=by
     by_cases him:i=m
     ·exact ⟨_,by rw [him]; exact hm2⟩
     ·exact ⟨o,by rw [hsame i him]; exact ho⟩
    obtain ⟨o',ho'⟩:=hoi
    refine ⟨o',ho',?_⟩
    rw [he,List.filterMap_append,List.filterMap_cons] at hE
    simp only [ho'] at hE
    exact Xq hs.cl (fun oj hoj=>by
     obtain ⟨j,hj,hoj⟩:=List.mem_filterMap.1 hoj
     exact hsw i j o' oj (hpre j hj) ho' hoj (hmk j (by simp [hj]) (hpre j hj))) hE
   have hE':EL P r N ops [o] s (fun s1=>EL P r N opt ((pre++post).filterMap (opt[·]?)) s1 K):=by
    rw [← List.filterMap_append] at hgo
    by_cases him:i=m
    ·subst him
     rw [hm1] at ho; cases ho
     rw [hm2] at ho'; cases ho'
     rw [Ahj rfl rfl hv hq] at hgo
     obtain ⟨h1,bd,res,h2,h3,h4,h5,h6⟩:=hgo
     have hdx:dst≠some x:=fun e=>by have:=(hx i _ hm1 e).1; omega
     obtain ⟨s',hKs,hfin⟩:=Mf (C3 hs.cl (Bk _ h5)) (fun oj hoj=>by
      obtain ⟨j,hj,hoj⟩:=List.mem_filterMap.1 hoj
      have hji:=hne j hj
      have hoj':opt[j]?=some oj:=hoj
      rw [hsame j hji] at hoj'
      exact htm j oj hji hoj') h6
     have h7:=hK s' hKs
     have h8:s.t x=.fn (.func f) [] []:=by
      rcases hfin x (fun oj hoj hd=>by
       obtain ⟨j,hj,hoj⟩:=List.mem_filterMap.1 hoj
       have hji:=hne j hj
       have hoj':opt[j]?=some oj:=hoj
       rw [hsame j hji] at hoj'
       obtain ⟨g1,g2⟩:=hx j oj hoj' hd
       rw [hmk j hj g1] at g2; cases g2) with h9 | h9
      ·rw [h7,J3 hdx] at h9; exact h9.symm
      ·rw [h7] at h9; cases h9
     rw [Aib,Z6,h8]
     exact .inr (.inr ⟨h1,bd,res,h2,h3,h4,h5,h6⟩)
    ·rw [hsame i him,ho] at ho'; cases ho'
     obtain ⟨d0,op0,ty0,pos0,af0,g0⟩:=o
     have:=hng i _ ho
     dsimp only at this
     subst this
     rw [Aib] at hgo ⊢
     exact hgo
   refine wpOpIn_mono ?_ (Rz ho hs hE')
   rintro a' w' ⟨s1,hE1,hF⟩
   obtain ⟨θ',M',hs',hcomp⟩:=hF.comp
   refine ih _ s1 B S θ' M' w' a' hs' (by simpa using hsz) ?_ ?_ ?_ (fun s' a'' w'' hK hF'=>hQ s' a'' w'' hK (hcomp _ _ _ hF'))
   ·intro k ok hk hl e hek hbe
    have hmono:∀ m,listed.getD m false=true→(listed.setIfInBounds i true).getD m false=true:=fun m hm=>by
     rw [Array.getD_eq_getD_getElem?] at hm ⊢
     rw [Array.getElem?_setIfInBounds]
     split
     ·split <;> simp_all
     ·exact hm
    by_cases hki:k=i
    ·subst hki
     rw [ho] at hk; cases hk
     exact hmono _ (hafter e hek hbe)
    ·have:listed.getD k false=true:=by
      rw [Array.getD_eq_getD_getElem?] at hl ⊢
      rw [Array.getElem?_setIfInBounds,if_neg (Ne.symm hki)] at hl
      exact hl
     exact hmono _ (hcl k ok hk this e hek hbe)
   ·rw [hset]
    rw [he] at hf
    simp only [List.length_append,List.length_cons] at hf ⊢
    omega
   ·rw [hset]; exact hE1
def Acs (f:FuncId) (o:Oper):Oper:=⟨o.dst,match o.op with | .call c=>.call ⟨.value (.func f),c.args,c.argTypes⟩ | op=>op,o.type,o.pos,o.after,o.guard⟩
def H1 (f:FuncId):Nat→List Oper→List Oper
 | _,[]=>[]
 | 0,o :: l=>Acs f o :: l
 | m+1,o :: l=>o :: H1 f m l
theorem Sx {f:FuncId}:∀ {m:Nat} {l:List Oper} (i:Nat),(H1 f m l)[i]?=if i=m then (l[i]?).map (Acs f) else l[i]?
 | _,[],i=>by simp [H1]
 | 0,o :: l,0=>by simp [H1]
 | 0,o :: l,i+1=>by simp [H1]
 | m+1,o :: l,0=>by simp [H1]
 | m+1,o :: l,i+1=>by
  simp only [H1,List.getElem?_cons_succ,Sx i,Nat.add_right_cancel_iff]
def Ac3:Op→Option Nat
 | .call ⟨.value (.tmp x),_,_⟩=>some x
 | _=>none
def Abs (v q:List Nat) (all:List Oper) (oj oi:Oper):Bool:=Qm v all oj oi||(Ak6 oj.op&&(oj.guard.isNone&&(oi.guard.isNone&&(Alk v q oi.op&&oj.apart all.toArray oi))))
theorem Abf {oj oi:Oper} (h:Abs r.v r.q all oj oi=true):Gv P r N all oj∧Fo P r N all oj oi:=by
 unfold Abs at h
 rw [Bool.or_eq_true] at h
 rcases h with h | h
 ·exact Kl h
 ·simp only [Bool.and_eq_true,Option.isNone_iff_eq_none] at h
  obtain ⟨h1,h2,h3,h4,h5⟩:=h
  refine ⟨Dq (Aai h1).1 (Nk (Aai h1).2.1),?_⟩
  unfold Alk at h4
  split at h4
  ·rename_i f as ts hop
   rw [Bool.and_eq_true] at h4
   exact Abn h1 h2 h3 hop h4.1 h4.2 h5
  ·cases h4
def Arp (v q:List Nat) (ops:List Oper) (m:Nat) (f:FuncId) (l:List Nat):Bool:=
 L7 ops (fun i=>l.getD i 0)&&(v.contains f&&(q.contains f&&match ops[m]? with
  | some o=>o.guard.isNone&&match Ac3 o.op with
   | some x=>ops.zipIdx.all fun p=>p.1.guard.isNone&&((p.2 == m||Ro v p.1)&&(p.1.dst != some x||(decide (p.2 < m)&&(l.getD m 0).testBit p.2)))
   | none=>false
  | none=>false))&&(H1 f m ops).zipIdx.all fun p=>((H1 f m ops).take p.2).zipIdx.all fun w=>(l.getD p.2 0).testBit w.2||Abs v q (H1 f m ops) w.1 p.1
theorem X7 {id:Nat} {st:St} {Q:AEx→St→Prop} (m:Nat) (f:FuncId) (x:Nat) (hm:P.follows .mixedOrders=true) (hcx:(ops[m]?).bind (fun o=>Ac3 o.op)=some x) (hchk:Jm ops [] (Arp r.v r.q ops m f)=true)
  (h:EL P r N (H1 f m ops) (H1 f m ops) st (fun s=>s.t x=.fn (.func f) [] []∧Q .normal s)):AWP P r N (.region id ops.toArray true) st Q:=by
 obtain ⟨l,hl⟩:=Hg hchk
 unfold Arp at hl
 simp only [Bool.and_eq_true] at hl
 obtain ⟨⟨h1,h2,h3,h4⟩,h5⟩:=hl
 cases hom:ops[m]? with
 | none=>rw [hom] at hcx; cases hcx
 | some o=>
  rw [hom] at hcx
  simp only [hom,Bool.and_eq_true,Option.isNone_iff_eq_none] at h4
  have hcx':Ac3 o.op=some x:=hcx
  rw [hcx'] at h4
  obtain ⟨h4,h6⟩:=h4
  rw [List.all_eq_true] at h6
  obtain ⟨d0,op0,ty0,pos0,af0,g0⟩:=o
  dsimp only at h4 hcx'
  subst h4
  unfold Ac3 at hcx'
  split at hcx'
  ·rename_i y as ts
   cases hcx'
   intro B S θ M w a hs
   refine wpIn_region_any hm ?_
   have hrem:B7 ops.length (Array.replicate ops.length false)=List.range ops.length:=H4 _
   have hlen:(H1 f m ops).length=ops.length:=by
    clear h h1 h2 h3 h5 h6 hcx hchk hom hs hrem
    induction ops generalizing m with
    | nil=>cases m <;> rfl
    | cons o l ih=>cases m with
     | zero=>rfl
     | succ m=>simp only [H1,List.length_cons,ih]
   have hat:∀ (i:Nat) (o:Oper),ops[i]?=some o→o.guard=none∧(i=m∨Ro r.v o=true)∧(o.dst=some x→i < m∧(l.getD m 0).testBit i=true):=fun i o ho=>by
    have:=h6 (o,i) (List.mem_zipIdx_iff_getElem?.2 ho)
    simp only [Bool.and_eq_true,Bool.or_eq_true,Option.isNone_iff_eq_none,beq_iff_eq,bne_iff_ne,ne_eq,decide_eq_true_eq] at this
    refine ⟨this.1,this.2.1,fun e=>?_⟩
    rcases this.2.2 with h | h
    ·exact absurd e h
    ·exact h
   refine Adq (opt:=H1 f m ops) (Fp h1) (m:=m) (x:=x) (f:=f) (fun i hi=>by rw [Sx,if_neg hi]) hom (by rw [Sx,if_pos rfl,hom]; rfl) h2 h3 (fun i o ho=>(hat i o ho).1) (fun i o hi ho=>(hat i o ho).2.1.resolve_left hi) (fun i o ho e=>(hat i o ho).2.2 e)
    (fun i j oi oj hji hi hj hbit=>?_) (K:=fun s=>s.t x=.fn (.func f) [] []∧Q .normal s) (fun s' h=>h.1) ops.toArray.size (Array.replicate ops.toArray.size false) st B S θ M _ a (hs.drawn _) (by simp) (fun k o hk hL=>?_) ?_ ?_ (fun s' a' w' hk hF=>⟨.normal,s',rfl,hk.2,?_⟩)
   ·rw [List.all_eq_true] at h5
    have g1:=h5 (oi,i) (List.mem_zipIdx_iff_getElem?.2 hi)
    rw [List.all_eq_true] at g1
    have g2:=g1 (oj,j) (List.mem_zipIdx_iff_getElem?.2 (by rw [List.getElem?_take,if_pos hji]; exact hj))
    simp only [hbit,Bool.false_or] at g2
    exact Abf g2
   ·simp only [Array.getD_eq_getD_getElem?,Array.getElem?_replicate] at hL
    split at hL <;> simp at hL
   ·simp only [List.size_toArray]; rw [hrem]; simp
   ·simp only [List.size_toArray]; rw [hrem,← hlen,Eb]; exact h
   ·obtain ⟨⟨θ',M',h1,h2,h3,h4⟩,h5⟩:=hF
    exact ⟨⟨θ',M',h1,⟨h2.size,h2.same,h2.os,h2.tape,h2.output⟩,h3,h4⟩,h5⟩
  ·cases hcx'
end
end AM
end
/- Rising lists, tables and stores: their errors, step by step. -/
section
namespace AM.Wort
open Go AM
theorem Aky {l:List Int} {most:Int} {k:Nat} (hk:k < l.length) (h:Cz most (-1) (l.take k)=true) (h1:inB (l.getD k 0) 0 most=true) (h2:0 < k→l.getD (k - 1) 0 < l.getD k 0):Cz most (-1) (l.take (k+1))=true:=by
 simp only [inB,Bool.and_eq_true,decide_eq_true_eq] at h1
 rw [P6 l (-1) k hk,h,Bool.true_and,Bool.and_eq_true,decide_eq_true_eq,decide_eq_true_eq]
 refine ⟨?_,h1.2⟩
 split
 ·omega
 ·have:=h2 (by omega); omega
theorem Ab7 {l:List Int} {most:Int} {k:Nat} (hk:k < l.length) (h:inB (l.getD k 0) 0 most=false∨(0 < k∧l.getD k 0≤l.getD (k - 1) 0)):Cz most (-1) l=false:=by
 refine Afw (k:=k+1) ?_
 rw [P6 l (-1) k hk]
 cases hr:Cz most (-1) (l.take k) with
 | false=>rfl
 | true=>
  rw [Bool.true_and]
  by_cases h0:k=0
  ·subst h0
   rcases h with h | h
   ·rw [if_pos rfl]
    cases hd:decide (-1+1≤l.getD 0 0)&&decide (l.getD 0 0≤most) with
    | false=>rfl
    | true=>
     simp only [Bool.and_eq_true,decide_eq_true_eq] at hd
     simp only [inB,Bool.and_eq_false_iff,decide_eq_false_iff_not] at h
     omega
   ·omega
  ·rw [if_neg h0]
   have hg:=Gc hr (k:=k - 1) (by rw [List.length_take]; omega)
   have e:(l.take k).getD (k - 1) 0=l.getD (k - 1) 0:=Abw (by omega)
   rw [e] at hg
   cases hd:decide (l.getD (k - 1) 0+1≤l.getD k 0)&&decide (l.getD k 0≤most) with
   | false=>rfl
   | true=>
    simp only [Bool.and_eq_true,decide_eq_true_eq] at hd
    simp only [inB,Bool.and_eq_false_iff,decide_eq_false_iff_not] at h
    omega
theorem Lx {t:Tbl} (h:5 < (t.w.length:Int)∨5 < (t.m.length:Int)∨5 < (t.v.length:Int)):Fk t=3:=if_pos h
theorem Bf {t:Tbl} (h:¬ (5 < (t.w.length:Int)∨5 < (t.m.length:Int)∨5 < (t.v.length:Int))) (h2:(t.w.length:Int) < 2∨(t.m.length:Int) < 2∨Cz 40 (-1) t.w=false∨Cz 60 (-1) t.m=false∨(t.v.length:Int)≠t.w.length∨(t.v.all (Na t.m.length))=false):Fk t=1:=by
 unfold Fk; rw [if_neg h,if_pos h2]
theorem Lz {t:Tbl} (h:¬ (5 < (t.w.length:Int)∨5 < (t.m.length:Int)∨5 < (t.v.length:Int))) (h2:¬ (t.w.length:Int) < 2) (h3:¬ (t.m.length:Int) < 2) (h4:Cz 40 (-1) t.w=true) (h5:Cz 60 (-1) t.m=true) (h6:(t.v.length:Int)=t.w.length) (h7:t.v.all (Na t.m.length)=true):Fk t=0:=by
 unfold Fk; rw [if_neg h,if_neg (by rw [h4,h5,h7]; simp; omega)]
theorem Ao7 {n:Int} {r:List Int} (h:(r.length:Int)=n) (h2:r.all (fun x=>inB x 0 2000)=true):Na n r=true:=by
 unfold Na; rw [h2,decide_eq_true h]; rfl
theorem Pp {n:Int} {r:List Int} (h:(r.length:Int)≠n):Na n r=false:=by
 unfold Na; rw [decide_eq_false h]; rfl
theorem Ue {n:Int} {r:List Int} (h2:r.all (fun x=>inB x 0 2000)=false):Na n r=false:=by
 unfold Na; rw [h2,Bool.and_false]
theorem L1 {s:Sto} (h:Fk s.t≠0):Jp s=Fk s.t:=if_pos h
theorem Mg {s:Sto} (h:Fk s.t=0) (h2:6 < (s.c.length:Int)):Jp s=3:=by
 unfold Jp; rw [if_neg (by omega),if_pos h2]
theorem Fc {s:Sto} (h:Fk s.t=0) (h2:¬ 6 < (s.c.length:Int)) (h3:inB s.r 0 200=false∨s.c.all (okC s.t)=false):Jp s=1:=by
 unfold Jp; rw [if_neg (by omega),if_neg h2,if_pos h3]
theorem Mi {s:Sto} (h:Fk s.t=0) (h2:¬ 6 < (s.c.length:Int)) (h3:inB s.r 0 200=true) (h4:s.c.all (okC s.t)=true):Jp s=0:=by
 unfold Jp; rw [if_neg (by omega),if_neg h2,if_neg (by rw [h3,h4]; simp)]
theorem Ab9 {α β:Type} {f:α→β} {l:List α} {k:Nat} (d:α) (h:k < l.length):(l.take (k+1)).map f=(l.take k).map f++[f (l.getD k d)]:=by
 rw [Ak0 d h,List.map_append]; rfl
def Nc (t:Tbl):Bool:=(decide ((t.w.length:Int)≤8)&&(decide ((t.m.length:Int)≤8)&&decide ((t.v.length:Int)≤8)))&&t.v.all fun r=>decide ((r.length:Int)≤8)
def Am6 (s:Sto):Bool:=Nc s.t&&decide ((s.c.length:Int)≤9)
theorem P3 {t:Tbl} (h1:(t.w.length:Int)≤8) (h2:(t.m.length:Int)≤8) (h3:(t.v.length:Int)≤8) (h:(t.v.all fun r=>decide ((r.length:Int)≤8))=true):Nc t=true:=by
 unfold Nc; rw [h,decide_eq_true h1,decide_eq_true h2,decide_eq_true h3]; rfl
theorem Tx {t:Tbl} (h:¬ ((t.w.length:Int)≤8∧(t.m.length:Int)≤8∧(t.v.length:Int)≤8)):Nc t=false:=by
 cases hh:Nc t with
 | false=>rfl
 | true=>
  simp only [Nc,Bool.and_eq_true,decide_eq_true_eq] at hh
  exact absurd hh.1 h
structure Ame (s x:Sto):Prop where
 ok:Ng x
 l0:0 < x.c.length
 l4:x.c.length≤4
 one:∀ c ∈ x.c,E8 x c=⟨P9 x.t c,P9 x.t c⟩∧0≤P9 x.t c∧P9 x.t c≤2000
 w:x.t.w.length < 1000000
 m:x.t.m.length < 1000000
 v:x.t.v.length < 1000000
 r:∀ r ∈ x.t.v,r.length < 1000000
 len:x.c.length=(s.c.take 4).length
 cs:[isl s.t.w,isl s.t.m,.p (slI s.t.v),i64 s.r,.p (.sl (((s.c.take 4).map Ayu).map Zf))]=cO x
theorem Ame.g {s x:Sto} (h:Ame s x) {k:Nat} (hk:k < x.c.length):1≤(x.c.getD k default).g∧(x.c.getD k default).g≤99:=by
 have hm:x.c.getD k default ∈ x.c:=by rw [← List.getElem_eq_getD (h:=hk)]; exact List.getElem_mem _
 have:=List.all_eq_true.1 h.ok.c _ hm
 simp only [okC,inB,Bool.and_eq_true,decide_eq_true_eq] at this
 exact this.1
theorem Ame.at {s x:Sto} (h:Ame s x) {k:Nat} (hk:k < x.c.length):E8 x (x.c.getD k default)=⟨P9 x.t (x.c.getD k default),P9 x.t (x.c.getD k default)⟩∧0≤P9 x.t (x.c.getD k default)∧P9 x.t (x.c.getD k default)≤2000:=
 h.one _ (by rw [← List.getElem_eq_getD (h:=hk)]; exact List.getElem_mem _)
end AM.Wort
end
/- The abstract machine, part 39: aggregates of ints: their equality, and as keys. -/
section
namespace AM
open Go
def Ua (P:Program):Nat→TypeId→Bool
 | 0,_=>false
 | m+1,t=>match P.underlying t with
  | some (.int .i64)=>P.cellsOf t == 1
  | some (.array n e)=>P.cellsOf t == n * P.cellsOf e&&Ua P m e
  | some (.struct fs) => fs.toList.all fun f => f.name != "_" && decide (f.offset + P.cellsOf f.type ≤ P.cellsOf t) && Ua P m f.type
  | _=>false
theorem Np {α β:Type} {f:α→Option β}:∀ {l:List α},(∀ x ∈ l,∃ y,f x=some y)→∃ ys,l.mapM f=some ys
 | [],_=>⟨[],rfl⟩
 | x :: l,h=>by
  obtain ⟨y,hy⟩:=h x (by simp)
  obtain ⟨ys,hys⟩:=Np (l:=l) (fun z hz=>h z (by simp [hz]))
  exact ⟨y :: ys,by rw [List.mapM_cons,hy]; simp [hys]⟩
theorem Aoi {n:Int} (h:inR n=true):(Lit.int .i64 n).wf=true:=by
 simp only [inR,Bool.and_eq_true,decide_eq_true_eq] at h
 simp only [Lit.wf,Bool.and_eq_true,decide_eq_true_eq,IntKind.min,IntKind.max,IntKind.signed,IntKind.bits]
 simp
 omega
theorem J7 {P:Program}:∀ (m:Nat) (t:TypeId),Ua P m t=true→∀ cs:List Value,cs.length=P.cellsOf t→(∀ v ∈ cs,∃ n,v=.int .i64 n∧inR n=true)→∃ l,P.keyLits m t cs=some l
 | 0,_,h,_,_,_=>by simp [Ua] at h
 | m+1,t,h,cs,hl,hv=>by
  have sub:∀ off c,off+c≤cs.length→((cs.drop off).take c).length=c∧∀ v ∈ (cs.drop off).take c,∃ n,v=.int .i64 n∧inR n=true:=fun off c hc=>by
   refine ⟨by rw [List.length_take,List.length_drop]; omega,fun v hm=>hv v (List.mem_of_mem_drop (List.mem_of_mem_take hm))⟩
  unfold Ua at h
  unfold Program.keyLits
  cases hu:P.underlying t with
  | none=>simp [hu] at h
  | some kd=>
   cases kd with
   | int k=>
    cases k <;> simp [hu] at h
    rw [h] at hl
    match cs,hl with
    | [v],_=>
     obtain ⟨n,rfl,hn⟩:=hv v (by simp)
     exact ⟨[.int .i64 n],by simp [Aoi hn]⟩
   | array n e=>
    simp only [hu,Bool.and_eq_true,beq_iff_eq] at h
    obtain ⟨ys,hys⟩:=Np (l:=List.range n) (f:=fun i=>P.keyLits m e ((cs.drop (i * P.cellsOf e)).take (P.cellsOf e))) (fun i hi=>by
     have hi':i < n:=by simpa using hi
     have:(i+1) * P.cellsOf e≤n * P.cellsOf e:=Nat.mul_le_mul_right _ (by omega)
     rw [Nat.add_mul] at this
     obtain ⟨h1,h2⟩:=sub (i * P.cellsOf e) (P.cellsOf e) (by rw [hl,h.1]; omega)
     exact J7 m e h.2 _ h1 h2)
    simp only [hl,if_true,hys]
    exact ⟨_,rfl⟩
   | struct fs=>
    simp only [hu,List.all_eq_true,Bool.and_eq_true,decide_eq_true_eq] at h
    obtain ⟨ys,hys⟩:=Np (l:=fs.toList) (f:=fun f=>P.keyLits m f.type ((cs.drop f.offset).take (P.cellsOf f.type))) (fun f hf=>by
     obtain ⟨⟨_,g2⟩,g3⟩:=h f hf
     obtain ⟨h1,h2⟩:=sub f.offset (P.cellsOf f.type) (by rw [hl]; exact g2)
     exact J7 m f.type g3 _ h1 h2)
    have hn : fs.all (·.name != "_") = true := by
     rw [← Array.all_toList,List.all_eq_true]
     exact fun f hf=>(h f hf).1.1
    simp only [hl,hn,and_self,if_true,hys]
    exact ⟨_,rfl⟩
   | _=>simp [hu] at h
theorem Nm {ks:List Int} (hr:ks.all inR=true):∀ v ∈ ks.map (Value.int .i64),∃ n,v=.int .i64 n∧inR n=true:=fun v hv=>by
 obtain ⟨n,hn,rfl⟩:=List.mem_map.1 hv
 exact ⟨n,rfl,List.all_eq_true.1 hr n hn⟩
theorem Nn {P:Program} {t:TypeId} {cs:Array Value} (h:(match P.underlying t with | some (.struct _) | some (.array _ _)=>true | _=>false)=true) (hs:cs.size=P.cellsOf t):(Value.agg cs).formed P t=true:=by
 unfold Value.formed
 split at h
 ·rename_i hu; simp [hu,hs]
 ·rename_i hu; simp [hu,hs]
 ·cases h
def Wu (P:Program) (t:TypeId) (n:Nat):Bool:=Ua P 8 t&&P.keyTypeAt 8 t&&P.tiled 8 t&&P.cellsOf t == n&&!P.eqGuardType P.depth t&&(match P.underlying t with | some (.struct _) | some (.array _ _)=>true | _=>false)
theorem V4 {P:Program} {t:TypeId} {n:Nat} (h:Wu P t n=true):P8 P t n:=by
 simp only [Wu,Bool.and_eq_true,beq_iff_eq,Bool.not_eq_true'] at h
 obtain ⟨⟨⟨⟨⟨h1,h2⟩,h3⟩,h4⟩,h5⟩,h6⟩:=h
 refine ⟨h5,fun a b ha hb hra hrb w=>?_⟩
 obtain ⟨la,hla⟩:=J7 8 t h1 (a.map (Value.int .i64)) (by simp [ha,h4]) (Nm hra)
 obtain ⟨lb,hlb⟩:=J7 8 t h1 (b.map (Value.int .i64)) (by simp [hb,h4]) (Nm hrb)
 obtain ⟨r,hr,hiff⟩:=run_equalIn_deep (10000 - 8) 8 t h2 w 8 8 (.agg (a.map (Value.int .i64)).toArray) (.agg (b.map (Value.int .i64)).toArray) la lb (Nn h6 (by simp [ha,h4])) (Nn h6 (by simp [hb,h4])) (by simpa [Value.cells] using hla) (by simpa [Value.cells] using hlb)
 have c1:=cells_of_lits 8 t h3 _ _ _ hla
 have c2:=cells_of_lits 8 t h3 _ _ _ hlb
 have hr:(Op.equal t (.agg (a.map (Value.int .i64)).toArray) (.agg (b.map (Value.int .i64)).toArray)).run P w=.ok r w:=hr
 rw [hr]
 congr 1
 cases r with
 | true=>
  have e:=hiff.1 rfl
  rw [← e,← c1] at c2
  have:a=b:=((List.map_inj_right (fun x y e=>by cases e; rfl)).1 c2).symm
  simp [this]
 | false=>
  have:a≠b:=fun e=>by
   subst e
   rw [hla] at hlb
   cases hlb
   exact absurd (hiff.2 rfl) (by simp)
  simp [this]
def Ank (P:Program) (k:TypeId) (n:Nat):Bool:=Wu P k n&&P.keyType k&&Ua P (P.types.size+1) k
theorem Akc {P:Program} {k:TypeId} {n:Nat} (h:Ank P k n=true):Lo P k n:=by
 simp only [Ank,Wu,Bool.and_eq_true,beq_iff_eq,Bool.not_eq_true'] at h
 obtain ⟨⟨⟨⟨⟨⟨⟨h1,h2⟩,h3⟩,h4⟩,h5⟩,h6⟩,h7⟩,h8⟩:=h
 have h6':(match P.underlying k with | some (.array _ _) | some (.struct _)=>true | _=>false)=true:=by
  split at h6
  ·rename_i hu; simp [hu]
  ·rename_i hu; simp [hu]
  ·cases h6
 refine ⟨deep_law (m:=8) (by omega) h2 h3 h6',fun ks hl hr=>?_⟩
 obtain ⟨l,hll⟩:=J7 _ k h8 (ks.map (Value.int .i64)) (by simp [hl,h4]) (Nm hr)
 have hf:=Nn (P:=P) (t:=k) (cs:=(ks.map (Value.int .i64)).toArray) h6 (by simp [hl,h4])
 unfold keyOf
 split at h6
 ·rename_i hu
  simp only [h7,hf,Bool.and_self,if_true]
  refine ⟨.string (keyBytes l),?_⟩
  have:(Value.agg (ks.map (Value.int .i64)).toArray).cells.toList=ks.map (Value.int .i64):=by simp [Value.cells]
  rw [this,hll]; simp [hu]
 ·rename_i hu
  simp only [h7,hf,Bool.and_self,if_true]
  refine ⟨.string (keyBytes l),?_⟩
  have:(Value.agg (ks.map (Value.int .i64)).toArray).cells.toList=ks.map (Value.int .i64):=by simp [Value.cells]
  rw [this,hll]; simp [hu]
 ·cases h6
section
variable {P:Program} {r:RB} {nb N B:Nat} {S:Nat→Prop} {θ:Nat→Loc} {M:Nat→Prop} {w:World} {st:St} {a:Act} {o:Oper} {K:St→Prop}
theorem C6.ofOk {dd:Nat} (hnd:∀ c,o.op≠.defer c) {st':St} (h:K st') (hok:∀ B S θ M w a,Aq N B S θ M w st a→Dv P r.b N B S θ M w st' o a):C6 P r N o st K:=by
 intro B S θ M w a Q hs
 obtain ⟨v,w',hr,hadv⟩:=hok B S θ M w a hs
 refine ⟨fun _ _=>trivial,?_⟩
 rw [Oper.semAt_eq _ _ _ hnd]
 rcases hr with hr | ⟨hr,rfl⟩
 ·rw [hr]; exact ⟨st',h,hadv.toM,by cases o.dst <;> rfl⟩
 ·rw [hr]; exact ⟨st',h,hadv.toM,by cases o.dst <;> rfl⟩
theorem Ps {t e:TypeId} {x:Operand} (ho:o.op=.call ⟨.builtin .cap,#[x],#[t]⟩) (hd:∀ k,o.dst=some k→k < N) (ht:(Aa P t).k=.sl e) (hx:ev st.t x=.p (.val (.slice none 0 0))) (h:K (st.put o.dst (.p (.val (.int .i64 0))))):C6 P r N o st K:=
 C6.ofOk (dd:=0) (by rw [ho]; intro c h; cases h) h fun B S θ M w a hs=>by
  have hv:=D7 (Ar hs x) hx
  exact B8 hs hd (v:=.int .i64 0) (by simp [execOp,ho,resolve,invoke,builtin,Builtin.cap_,Bi (E5 ht),hv,goInt]) (.p _ _ (.val _ rfl)) (AV.lives_p _ _)
theorem R9 {t e:TypeId} {x y:Operand} (ho:o.op=.slice t x none (some y) none) (hd:∀ k,o.dst=some k→k < N) (ht:(Aa P t).k=.sl e) (hg:(Aa P e).agg.isSome=true) (hx:ev st.t x=.p (.val (.slice none 0 0))) (hy:ev st.t y=.p (.val (.int .i64 0))) (h:K (st.put o.dst (.p (.val (.slice none 0 0))))):C6 P r N o st K:=
 C6.ofOk (dd:=0) (by rw [ho]; intro c h; cases h) h fun B S θ M w a hs=>by
  have hv:=D7 (Ar hs x) hx
  have hu:=E5 ht
  have hS:=B5 (P:=P) (w:=w) (Cw hg)
  have hb:=Hr (P:=P) (w:=w) hs (isS:=true) (len:=0) (cap:=0) (Nat.le_refl _) (lo:=none) (hi:=some y) (l:=0) (hh:=0) rfl (by simp only [Bn,hy]) (by omega) (by omega) (by omega)
  refine B8 hs hd (v:=.slice none 0 0) ?_ (.p _ _ (.val _ rfl)) (AV.lives_p _ _)
  simp only [Option.map_none,Option.map_some] at hb
  simp [execOp,ho,hv,Instr.sliceAt,Bi hu,Instr.slice,hb,hS]
theorem Akr {z:Array Value} {zs:List Value} (hz:z.toList=zs) (h:zs.all Value.oneCell'=true) (n c:Nat):FL M w zs.length (List.replicate n (zs.map .val)) ((Builtin.zeroCells z n).toList++(Builtin.zeroCells z c).toList):=by
 intro i e j x hi hj
 rw [List.getElem?_replicate] at hi
 split at hi
 ·rename_i hlt
  cases hi
  rw [List.getElem?_map,Option.map_eq_some_iff] at hj
  obtain ⟨u,hu,rfl⟩:=hj
  have hjl:j < zs.length:=(List.getElem?_eq_some_iff.1 hu).1
  have hs:z.size=zs.length:=by rw [← hz]; simp
  have hlt2:i * zs.length+j < n * zs.length:=by
   have:(i+1) * zs.length≤n * zs.length:=Nat.mul_le_mul_right _ (by omega)
   rw [Nat.add_mul] at this; omega
  refine ⟨u,?_,.val u (List.all_eq_true.1 h u (List.mem_of_getElem? hu))⟩
  rw [List.getElem?_append,if_pos (by rw [Aij,hs]; exact hlt2)]
  have hm:(i * zs.length+j) % z.size=j:=by rw [hs,Nat.mul_comm,Nat.mul_add_mod]; exact Nat.mod_eq_of_lt hjl
  simp only [Builtin.zeroCells,Array.toList_map,List.getElem?_map,Array.toList_range,hs,List.getElem?_range hlt2,Option.map_some]
  rw [hs] at hm
  rw [hm]
  have hz2:z[j]?=some u:=by rw [← hz] at hu; simpa using hu
  congr 1
  rw [getElem!_pos z j (by rw [hs]; exact hjl)]
  exact (Array.getElem?_eq_some_iff.1 hz2).2
 ·cases hi
theorem Us {t t' e:TypeId} {k:IntKind} {s x:Operand} {n:Nat} (ho:o.op=.call ⟨.builtin .append,#[s,x],#[t,t']⟩) {dk:Nat} (hdst:o.dst=some dk) (hdN:dk < N) (hfree:st.o (r.b+dk)=none)
  (ht:(Aa P t).k=.sl e) (ht':(Aa P t').k=.int k) (hg:(Aa P e).agg.isSome=true) (hsz:(Aa P e).sz=(Aa P e).zero.length) (hpos:0 < (Aa P e).sz) (hz:(Aa P e).zero.all Value.oneCell'=true)
  (hs:ev st.t s=.p (.val (.slice none 0 0))) (hx:ev st.t x=.p (.val (.int .i64 n))) (hn:0 < n) (h6:n≤1000000) (hby:n * (Aa P e).bytes≤140737488355328)
  (h:K ((st.setO (r.b+dk) (.arr (Aa P e).sz (List.replicate n ((Aa P e).zero.map .val)))).put o.dst (.own (r.b+dk) n))):C6 P r N o st K:=
 C6.ofOk (dd:=0) (by rw [ho]; intro c h; cases h) h fun B S θ M w a hsr=>by
  have hv:=D7 (Ar hsr s) hs
  have hxv:=D7 (Ar hsr x) hx
  obtain ⟨i,z,T,hbb⟩:=Agi (t':=t) ht ht (Cw hg) hsz hpos hz
  have hwr:IntKind.i64.wrap (n:Int)=n:=Dk (by omega) (by omega)
  have hk:=T.hk
  have hb48:¬ (281474976710656 < (n:Int) * (i.bytes:Int)):=by rw [hbb]; omega
  have hfit:=growslice_fits (need:=n) (old:=0) (bytes:=i.bytes) hn (by rw [hbb]; exact hby)
  have hfit':¬ (281474976710656 < Builtin.nextslicecap n 0 * i.bytes):=by omega
  have hne:¬ n * i.size=0:=by
   rw [hk]; intro h; rcases Nat.mul_eq_zero.1 h with h | h <;> omega
  have h63:¬ (9223372036854775807 < (n:Int)):=by omega
  have hn0:¬ n=0:=by omega
  have hlt0:¬ ((n:Int) < 0):=by omega
  have hrun:(execOp a.eval o).run P w=.ok (.value (.slice (some ⟨w.heap.size,0,none⟩) n (grownCap w n 0 e))) (w.drew.alloc (.cells (#[]++Builtin.zeroCells z.cells n++Builtin.zeroCells z.cells (grownCap w n 0 e - n)) e)):=by
   simp [execOp,ho,resolve,invoke,builtin,Builtin.append_,Bi (E5 ht),Bi (Zc ht'),hv,hxv,asInt,asIntOf,hwr,hlt0,Go.sizeOf,typeInfo,T.hi,hb48,Builtin.lenOf,hn0,h63,hfit',Question.forced,Builtin.firstCells,zeroValue,T.hz,hne,newRow,grownCap]
  have hge:=grownCap_ge w n 0 e
  have hadv:=Hl (o:=o) (t:=e) (w1:=w.drew) (es:=List.replicate n ((Aa P e).zero.map .val)) (k:=(Aa P e).sz) (cap:=grownCap w n 0 e) (vs:=(Builtin.zeroCells z.cells n).toList++(Builtin.zeroCells z.cells (grownCap w n 0 e - n)).toList) hsr hdst hdN (Nat.le_add_right r.b dk) hfree (.inr rfl)
   (fun i e' hi=>by rw [List.getElem?_replicate] at hi; split at hi <;> cases hi; rw [List.length_map,hsz])
   (by rw [List.length_replicate]; exact hge)
   (by rw [List.length_append,Aij,Aij,T.hzs,← Nat.add_mul]; congr 1; omega)
   (fun i u hu=>by
    rw [List.getElem?_append] at hu
    split at hu
    ·exact Gm T.hzl T.hone _ _ u hu
    ·exact Gm T.hzl T.hone _ _ u hu)
   (by rw [hsz]; exact Akr T.hzl hz n _)
  rw [List.length_replicate] at hadv
  refine ⟨_,_,.inl hrun,?_⟩
  have he:(#[]++Builtin.zeroCells z.cells n++Builtin.zeroCells z.cells (grownCap w n 0 e - n))=((Builtin.zeroCells z.cells n).toList++(Builtin.zeroCells z.cells (grownCap w n 0 e - n)).toList).toArray:=by
   apply Array.ext'; simp
  rw [he]
  exact hadv
theorem Rq {t e:TypeId} {x y:Operand} {n len k:Nat} {es:List (List PV)} (ho:o.op=.slice t x none (some y) none) {dk:Nat} (hdst:o.dst=some dk) (hdN:dk < N) (ht:(Aa P t).k=.sl e) (hg:(Aa P e).agg.isSome=true)
  (hx:ev st.t x=.own n len) (hlen:0 < len) (hn:st.o n=some (.arr k es)) (hfree:(st.purge n).o (r.b+dk)=none) (hy:ev st.t y=.p (.val (.int .i64 0)))
  (h:K (((st.purge n).setO (r.b+dk) (.arr k [])).put o.dst (.own (r.b+dk) 0))):C6 P r N o st K:=
 C6.ofOk (dd:=0) (by rw [ho]; intro c h; cases h) h fun B S θ M w a hs=>by
  have hu:=E5 ht
  have hS:=B5 (P:=P) (w:=w) (Cw hg)
  have hrel:=Ar hs x
  rw [hx] at hrel
  obtain ⟨hk0,hob⟩:=hs.ob n _ hn
  rcases Mu hrel with ⟨_,h0,_⟩ | ⟨hnil,hcap,hsv⟩
  ·omega
  rcases hob with ⟨h0,_⟩ | ⟨_,hc1,cur,te,hb,hs1,ho1,hx1⟩
  ·rw [h0] at hnil; cases hnil
  have hb2:=Hr (P:=P) (w:=w) hs (isS:=true) (len:=len) (cap:=(θ n).cap) hcap (lo:=none) (hi:=some y) (l:=0) (hh:=0) rfl (by simp only [Bn,hy]) (by omega) (by omega) (by omega)
  simp only [Option.map_none,Option.map_some] at hb2
  have hrun:(execOp a.eval o).run P w=.ok (.value (.slice (some ⟨(θ n).blk,0,none⟩) 0 (θ n).cap)) w:=by
   have e1:(if (θ n).cap=0 then some (⟨(θ n).blk,0,none⟩:Addr) else some ((⟨(θ n).blk,0,none⟩:Addr).add 0))=some ⟨(θ n).blk,0,none⟩:=by rw [Ee]; simp
   simp [execOp,ho,hsv,Instr.sliceAt,Bi hu,Instr.slice,hb2,hS,Ee]
  have hP:=hs.purge n
  have hpl:=hP.place (d:=r.b+dk) hfree (w':=w) (l:=θ n) (o:=.arr k []) rfl (fun _ _=>rfl) (hs.lv n _ hn hnil).1 (hs.lv n _ hn hnil).2 (fun m o hm hmn eb=>by
    by_cases em:m=n
    ·subst em; rw [St.purge_o_same] at hm; cases hm
    ·rw [St.purge_o_other st em,Option.map_eq_some_iff] at hm
     obtain ⟨o',ho',_⟩:=hm
     exact em (hs.inj m n (by simp [ho']) (by simp [hn]) hmn hnil eb))
   ⟨by simp,.inr ⟨hnil,Nat.zero_le _,cur,te,hb,hs1,ho1,by simp⟩⟩ (AO.lives_arr _ _ _)
  refine ⟨_,w,.inl hrun,_,_,hpl.put (d:=o.dst) (fun k e=>by rw [hdst] at e; cases e; exact hdN) (x:=.own (r.b+dk) 0) ?_ ?_,Bq.refl _ _,fun n hn=>Az (by omega),fun _ _ h=>h⟩
  ·have:=Ao.own (θ:=Dj θ (r.b+dk) (θ n)) (M:=M) (w:=w) (r.b+dk) 0 (by simpa using hnil) (Nat.zero_le _)
   simpa using this
  ·intro m hm
   simp only [AV.clean,bne_eq_false_iff_eq] at hm
   subst hm
   simp [St.setO]
end
section
variable {P:Program} {r:RB} {N B:Nat} {S:Nat→Prop} {θ:Nat→Loc} {M M2:Nat→Prop} {w:World} {st:St} {a:Act} {Q:AEx→St→Prop}
theorem Sr {all rest:List Oper} {K:St→Prop} {dst:Option Nat} {op:Op} {ty:TypeId} {pos:String} {after:Array Edge} (h:EO P r N ⟨dst,op,ty,pos,after,none⟩ st (fun s'=>AL P r N all rest s' K)):AL P r N all (⟨dst,op,ty,pos,after,none⟩ :: rest) st K:=AL.step (Gw h)
end
end AM
end
/- The abstract machine, part 42: an object gets another name. -/
section
namespace AM
open Go
def rn (c m n:Nat):Nat:=if n=c then m else n
def AV.ren (c m:Nat):AV→AV
  | .p x=>.p x
  | .ptr n off=>.ptr (rn c m n) off
  | .eptr n k i off=>.eptr (rn c m n) k i off
  | .own n len=>.own (rn c m n) len
  | .csl n off k len=>.csl (rn c m n) off k len
  | .fn f fs cs=>.fn f (renL c m fs) (renL c m cs)
  | .yld n=>.yld (rn c m n)
  | .mp n=>.mp (rn c m n)
  | .agg cs=>.agg (renL c m cs)
  | .tup cs=>.tup (renL c m cs)
  | .undef=>.undef
  where renL (c m:Nat):List AV→List AV
  | []=>[]
  | x :: r=>x.ren c m :: renL c m r
theorem Kh (c m:Nat) (l:List AV):AV.ren.renL c m l=l.map (AV.ren c m):=by
  induction l with
  | nil=>rfl
  | cons x l ih=>simp only [AV.ren.renL,List.map_cons,ih]
def AO.ren (c m:Nat):AO→AO
  | .cells cs=>.cells (cs.map (AV.ren c m))
  | .arr k es=>.arr k es
  | .obj X=>.obj X
  | .it n X=>.it (rn c m n) X
  | .loop k tm=>.loop k (tm.map fun p=>(p.1,p.2.ren c m))
def St.ren (c m:Nat) (s:St):St:=⟨fun i=>(s.t i).ren c m,fun n=>if n=m then (s.o c).map (AO.ren c m) else if n=c then none else (s.o n).map (AO.ren c m)⟩
section
variable {θ:Nat→Loc} {M:Nat→Prop} {w:World} {c m:Nat}
theorem Mk {n:Nat} (h:n≠m):Dj θ m (θ c) (rn c m n)=θ n:=by
  unfold rn
  split
  · rename_i e; subst e; simp
  · exact Az h
theorem Ao.ren {x:AV} {v:Value} (h:Ao θ M w x v):x.clean m=true→Ao (Dj θ m (θ c)) M w (x.ren c m) v:=by
  have hl:∀ {l:List AV} {i:Nat} {y:AV},(AV.ren.renL c m l)[i]?=some y→∃ z,l[i]?=some z∧y=z.ren c m:=fun h=>by
    rw [Kh,List.getElem?_map,Option.map_eq_some_iff] at h
    obtain ⟨z,h1,h2⟩:=h
    exact ⟨z,h1,h2.symm⟩
  induction h with
  | p x v h=>exact fun _=>.p x v h
  | ptr n off=>intro hc; have:=Ao.ptr (θ:=Dj θ m (θ c)) (M:=M) (w:=w) (rn c m n) off; rwa [Mk (by simpa [AV.clean] using hc)] at this
  | eptr n k i off=>intro hc; have:=Ao.eptr (θ:=Dj θ m (θ c)) (M:=M) (w:=w) (rn c m n) k i off; rwa [Mk (by simpa [AV.clean] using hc)] at this
  | own n len h0 h=>
    intro hc
    have e:Dj θ m (θ c) (rn c m n)=θ n:=Mk (by simpa [AV.clean] using hc)
    have:=Ao.own (θ:=Dj θ m (θ c)) (M:=M) (w:=w) (rn c m n) len (by rw [e]; exact h0) (by rw [e]; exact h)
    rwa [e] at this
  | ownNil n h0=>
    intro hc
    have e:Dj θ m (θ c) (rn c m n)=θ n:=Mk (by simpa [AV.clean] using hc)
    exact .ownNil _ (by rw [e]; exact h0)
  | csl n off k len cap h=>intro hc; have:=Ao.csl (θ:=Dj θ m (θ c)) (M:=M) (w:=w) (rn c m n) off k len cap h; rwa [Mk (by simpa [AV.clean] using hc)] at this
  | fn f fs cs vf vc hf hcs _ _ ih1 ih2=>
    intro h
    simp only [AV.clean,Bool.and_eq_true,Bl] at h
    refine .fn f _ _ vf vc (by rw [Kh,List.length_map]; exact hf) (by rw [Kh,List.length_map]; exact hcs) (fun i x hx=>?_) (fun i x hx=>?_)
    · obtain ⟨z,h1,rfl⟩:=hl hx
      exact ih1 i z h1 (h.1 i z h1)
    · obtain ⟨z,h1,rfl⟩:=hl hx
      exact ih2 i z h1 (h.2 i z h1)
  | yld n=>intro hc; have:=Ao.yld (θ:=Dj θ m (θ c)) (M:=M) (w:=w) (rn c m n); rwa [Mk (by simpa [AV.clean] using hc)] at this
  | mp n=>intro hc; have:=Ao.mp (θ:=Dj θ m (θ c)) (M:=M) (w:=w) (rn c m n); rwa [Mk (by simpa [AV.clean] using hc)] at this
  | agg cs vs hs ho _ ih=>
    intro h
    simp only [AV.clean,Bl] at h
    refine .agg _ vs (by rw [Kh,List.length_map]; exact hs) (fun i hi=>ho i (by rwa [Kh,List.length_map] at hi)) (fun i x hx=>?_)
    obtain ⟨z,h1,rfl⟩:=hl hx
    exact ih i z h1 (h i z h1)
  | tup cs vs hs _ ih=>
    intro h
    simp only [AV.clean,Bl] at h
    refine .tup _ vs (by rw [Kh,List.length_map]; exact hs) (fun i x hx=>?_)
    obtain ⟨z,h1,rfl⟩:=hl hx
    exact ih i z h1 (h i z h1)
  | undef v=>exact fun _=>.undef v
theorem Kc {x:AV} (n:Nat) (hx:x.clean m=true):(x.ren c m).clean n=false→(n=m∧x.clean c=false)∨(n≠c∧x.clean n=false):=by
  have key:∀ k,k≠m→(rn c m k != n)=false→(n=m∧(k != c)=false)∨(n≠c∧(k != n)=false):=fun k hk h=>by
    simp only [bne_eq_false_iff_eq] at h ⊢
    unfold rn at h
    split at h
    · rename_i e; exact .inl ⟨h.symm,e⟩
    · rename_i e; subst h; exact .inr ⟨e,rfl⟩
  have hll:∀ (l:List AV),(∀ x ∈ l,x.clean m=true→(x.ren c m).clean n=false→(n=m∧x.clean c=false)∨(n≠c∧x.clean n=false))→AV.clean.cleanL m l=true→AV.clean.cleanL n (AV.ren.renL c m l)=false→(n=m∧AV.clean.cleanL c l=false)∨(n≠c∧AV.clean.cleanL n l=false):=by
    intro l
    induction l with
    | nil=>intro _ _ h; simp [AV.ren.renL,AV.clean.cleanL] at h
    | cons y l ih=>
      intro h1 h2 h3
      simp only [AV.clean.cleanL,Bool.and_eq_true] at h2
      simp only [AV.ren.renL,AV.clean.cleanL,Bool.and_eq_false_iff] at h3 ⊢
      rcases h3 with h3 | h3
      · rcases h1 y (by simp) h2.1 h3 with h | h
        · exact .inl ⟨h.1,.inl h.2⟩
        · exact .inr ⟨h.1,.inl h.2⟩
      · rcases ih (fun x hx=>h1 x (by simp [hx])) h2.2 h3 with h | h
        · exact .inl ⟨h.1,.inr h.2⟩
        · exact .inr ⟨h.1,.inr h.2⟩
  match x,hx with
  | .p _,_=>intro h; simp [AV.ren,AV.clean] at h
  | .ptr k _,hx=>intro h; simp only [AV.ren,AV.clean] at *; exact key k (by simpa using hx) h
  | .eptr k _ _ _,hx=>intro h; simp only [AV.ren,AV.clean] at *; exact key k (by simpa using hx) h
  | .own k _,hx=>intro h; simp only [AV.ren,AV.clean] at *; exact key k (by simpa using hx) h
  | .csl k _ _ _,hx=>intro h; simp only [AV.ren,AV.clean] at *; exact key k (by simpa using hx) h
  | .yld k,hx=>intro h; simp only [AV.ren,AV.clean] at *; exact key k (by simpa using hx) h
  | .mp k,hx=>intro h; simp only [AV.ren,AV.clean] at *; exact key k (by simpa using hx) h
  | .fn f fs cs,hx=>
    intro h
    simp only [AV.ren,AV.clean,Bool.and_eq_true,Bool.and_eq_false_iff] at *
    rcases h with h | h
    · rcases hll fs (fun x _ hx=>Kc n hx) hx.1 h with h | h
      · exact .inl ⟨h.1,.inl h.2⟩
      · exact .inr ⟨h.1,.inl h.2⟩
    · rcases hll cs (fun x _ hx=>Kc n hx) hx.2 h with h | h
      · exact .inl ⟨h.1,.inr h.2⟩
      · exact .inr ⟨h.1,.inr h.2⟩
  | .agg cs,hx=>intro h; simp only [AV.ren,AV.clean] at *; exact hll cs (fun x _ hx=>Kc n hx) hx h
  | .tup cs,hx=>intro h; simp only [AV.ren,AV.clean] at *; exact hll cs (fun x _ hx=>Kc n hx) hx h
  | .undef,_=>intro h; simp [AV.ren,AV.clean] at h
  termination_by sizeOf x
  decreasing_by all_goals (simp_wf; first | (have:=List.sizeOf_lt_of_mem ‹_›; omega) | omega)
end
section
variable {P:Program} {r:RB} {N B:Nat} {S:Nat→Prop} {θ:Nat→Loc} {M:Nat→Prop} {w:World} {st:St} {a:Act} {Q:AEx→St→Prop} {c m:Nat}
theorem Nh {x:AV} {os:Nat→Option AO} (hx:x.lives os) (hm:os m=none):x.clean m=true:=by
  cases h:x.clean m with
  | true=>rfl
  | false=>have:=hx m h; rw [hm] at this; cases this
theorem Tl {x:AO} {os:Nat→Option AO} (hx:x.lives os) (hm:os m=none):x.clean m=true:=by
  cases h:x.clean m with
  | true=>rfl
  | false=>have:=hx m h; rw [hm] at this; cases this
theorem Mt {x:AV} (hx:x.lives st.o) (hm:st.o m=none) (_:c≠m):(x.ren c m).lives (st.ren c m).o:=by
  intro n hn
  simp only [St.ren]
  rcases Kc n (Nh hx hm) hn with ⟨e,h⟩ | ⟨e,h⟩
  · rw [if_pos e,Option.isSome_map]; exact hx c h
  · have h1:=hx n h
    have h2:n≠m:=fun e=>by rw [e,hm] at h1; cases h1
    rw [if_neg h2,if_neg e,Option.isSome_map]; exact h1
theorem Kj.ren {l:Loc} {o:AO} (h:Kj θ M w l o) (hc:o.clean m=true):Kj (Dj θ m (θ c)) M w l (o.ren c m):=by
  cases o with
  | arr k es=>exact h
  | obj X=>exact h
  | it n X=>
    obtain ⟨h0,ob,h1,h2⟩:=h
    have hn:n≠m:=by simpa [AO.clean] using hc
    exact ⟨h0,ob,h1,by rw [Mk hn]; exact h2⟩
  | cells cs=>
    obtain ⟨h0,cur,e,hb,hs,ho,hx⟩:=h
    refine ⟨h0,cur,e,hb,by simpa using hs,fun i hi=>ho i (by simpa using hi),fun i x hi=>?_⟩
    rw [List.getElem?_map,Option.map_eq_some_iff] at hi
    obtain ⟨y,hy,rfl⟩:=hi
    exact (hx i y hy).ren ((Bl m _).1 hc i y hy)
  | loop k tm=>
    obtain ⟨h0,fn,tmps,D,hb,hn,hx⟩:=h
    refine ⟨h0,fn,tmps,D,hb,hn,fun i p hi=>?_⟩
    rw [List.getElem?_map,Option.map_eq_some_iff] at hi
    obtain ⟨q,hq,rfl⟩:=hi
    exact (hx i q hq).ren ((Bl m _).1 hc i q.2 (by simp [hq]))
theorem Aag {x:AO} (hx:x.lives st.o) (hm:st.o m=none) (hcm:c≠m):(x.ren c m).lives (st.ren c m).o:=by
  cases x with
  | arr k es=>exact AO.lives_arr _ _ _
  | obj X=>exact AO.lives_obj _ _
  | it n X=>exact Mt (x:=.ptr n 0) (fun q hq=>hx q hq) hm hcm
  | cells cs=>
    rw [AO.lives_cells] at hx
    rw [AO.ren,AO.lives_cells]
    intro i y hi
    rw [List.getElem?_map,Option.map_eq_some_iff] at hi
    obtain ⟨z,hz,rfl⟩:=hi
    exact Mt (hx i z hz) hm hcm
  | loop k tm=>
    rw [AO.lives_loop] at hx
    rw [AO.ren,AO.lives_loop]
    intro i p hi
    rw [List.getElem?_map,Option.map_eq_some_iff] at hi
    obtain ⟨q,hq,rfl⟩:=hi
    exact Mt (hx i q hq) hm hcm
theorem Aq.ren (h:Aq N B S θ M w st a) (hm:st.o m=none) (hcm:c≠m):Aq N B S (Dj θ m (θ c)) M w (st.ren c m) a:=by
  have hcase:∀ n o,(st.ren c m).o n=some o→∃ n' o',st.o n'=some o'∧o=o'.ren c m∧Dj θ m (θ c) n=θ n'∧n=rn c m n'∧n'≠m:=by
    intro n o hn
    simp only [St.ren] at hn
    split at hn
    · rename_i e
      rw [Option.map_eq_some_iff] at hn
      obtain ⟨o',h1,h2⟩:=hn
      exact ⟨c,o',h1,h2.symm,by rw [e]; simp,by rw [e]; simp [rn],hcm⟩
    · rename_i e
      split at hn
      · cases hn
      · rename_i e2
        rw [Option.map_eq_some_iff] at hn
        obtain ⟨o',h1,h2⟩:=hn
        exact ⟨n,o',h1,h2.symm,Az e,by simp [rn,e2],e⟩
  refine ⟨h.size,fun i=>(h.tm i).ren (Nh (h.cl.1 i) hm),fun n o hn=>?_,fun n o hn hnil=>?_,fun n k hn hk h1 h2 hb=>?_,h.base,h.mlt,fun i=>Mt (h.cl.1 i) hm hcm,fun n o hn=>?_⟩
  · obtain ⟨n',o',h1,rfl,e,_,_⟩:=hcase n o hn
    rw [e]
    exact (h.ob n' o' h1).ren (Tl (h.cl.2 n' o' h1) hm)
  · obtain ⟨n',o',h1,rfl,e,_,_⟩:=hcase n o hn
    rw [e] at hnil ⊢
    exact h.lv n' o' h1 hnil
  · obtain ⟨o1,ho1⟩:=Option.isSome_iff_exists.1 hn
    obtain ⟨o2,ho2⟩:=Option.isSome_iff_exists.1 hk
    obtain ⟨n',o1',g1,_,e1,r1,_⟩:=hcase n o1 ho1
    obtain ⟨k',o2',g2,_,e2,r2,_⟩:=hcase k o2 ho2
    rw [e1] at h1 hb
    rw [e2] at h2 hb
    have:=h.inj n' k' (by rw [g1]; rfl) (by rw [g2]; rfl) h1 h2 hb
    rw [r1,r2,this]
  · obtain ⟨n',o',h1,rfl,_,_,_⟩:=hcase n o hn
    exact Aag (h.cl.2 n' o' h1) hm hcm
theorem AWP.ren {cd:Code} (h:AWP P r N cd st (fun e s=>Q e s∨∃ c m,s.o m=none∧c≠m∧(r.mv m∨r.b≤m)∧Q e (s.ren c m))):AWP P r N cd st Q:=by
  intro B S θ M w a hs
  refine wpIn_mono (h B S θ M w a hs) ?_
  rintro e a' w' ⟨ae,st',rfl,hq,⟨θ',M',hs',hk,ht,hm⟩,hd⟩
  rcases hq with hq | ⟨c,m,h1,h2,h3,hq⟩
  · exact ⟨ae,st',rfl,hq,⟨θ',M',hs',hk,ht,hm⟩,hd⟩
  · refine ⟨ae,_,rfl,hq,⟨_,M',hs'.ren h1 h2,hk,fun n hn hv=>?_,hm⟩,hd⟩
    rw [Az (fun e=>by
                                subst e; rcases h3 with h3 | h3
                                · exact hv h3
                                · omega)]
    exact ht n hn hv
structure St.wk (s1 s:St):Prop where
  t:∀ i,s1.t i=.undef∨s1.t i=s.t i
  o:∀ n,s1.o n=none∨s1.o n=s.o n∨∃ cs cs':List AV,s.o n=some (.cells cs)∧s1.o n=some (.cells cs')∧cs'.length=cs.length∧∀ (i:Nat) (x:AV),cs'[i]?=some x→x=.undef∨cs[i]?=some x
  cl:s1.closed
end
section
variable {P:Program} {r:RB} {N:Nat} {st:St} {Q:AEx→St→Prop} {c m:Nat}
theorem Akp {cd:Code} (c m:Nat) (h1:st.o m=none) (h2:c≠m) (h3:r.mv m∨r.b≤m) (h:AWP P r N cd (st.ren c m) Q):AWP P r N cd st Q:=by
  intro B S θ M w a hs
  refine wpIn_mono (h B S _ M w a (hs.ren h1 h2)) ?_
  rintro e a' w' ⟨ae,st',rfl,hq,⟨θ',M',hs',hk,ht,hm⟩,hd⟩
  refine ⟨ae,st',rfl,hq,⟨θ',M',hs',hk,fun n hn hv=>?_,hm⟩,hd⟩
  rw [ht n hn hv,Az (fun e=>by
                                          subst e; rcases h3 with h3 | h3
                                          · exact hv h3
                                          · omega)]
def Yz (c m:Nat):List (Nat × AV)→List (Nat × AV)
  | []=>[]
  | (j,x) :: l=>(j,x.ren c m) :: Yz c m l
def Xb (c m:Nat):List (Nat × AO)→List (Nat × AO)
  | []=>[]
  | (j,x) :: l=>(rn c m j,x.ren c m) :: Xb c m l
theorem Axm {l:List (Nat × AV)}:(fun i=>(T l i).ren c m)=T (Yz c m l):=by
  funext i
  induction l with
  | nil=>rfl
  | cons p l ih=>
    obtain ⟨j,x⟩:=p
    simp only [T,Yz]
    split
    · rfl
    · exact ih
theorem Am3:∀ {l:List (Nat × AO)},(l.all fun p=>p.1 != m)=true→c≠m→(fun n=>if n=m then (O l c).map (AO.ren c m) else if n=c then none else (O l n).map (AO.ren c m))=O (Xb c m l)
  | [],_,_=>by funext n; simp [O,Xb]
  | (j,x) :: l,h,hne=>by
    simp only [List.all_cons,Bool.and_eq_true,bne_iff_ne] at h
    have ih:=Am3 h.2 hne
    funext n
    have ih:=congrFun ih n
    simp only [O,Xb]
    rw [← ih]
    by_cases e1:n=m
    · subst e1
      rw [if_pos rfl,if_pos rfl]
      by_cases e2:c=j
      · subst e2; simp [rn]
      · rw [if_neg e2,if_neg (by unfold rn; split <;> omega)]
    · rw [if_neg e1,if_neg e1]
      by_cases e2:n=c
      · subst e2
        rw [if_pos rfl,if_pos rfl,if_neg (by unfold rn; split <;> omega)]
      · rw [if_neg e2,if_neg e2]
        by_cases e3:n=j
        · subst e3; rw [if_pos rfl,if_pos (by unfold rn; rw [if_neg e2])]; rfl
        · rw [if_neg e3,if_neg (by unfold rn; split <;> omega)]
theorem Apm {l:List (Nat × AV)} {o:List (Nat × AO)} (h:(o.all fun p=>p.1 != m)=true) (hne:c≠m):St.ren c m ⟨T l,O o⟩=⟨T (Yz c m l),O (Xb c m o)⟩:=by
  unfold St.ren; rw [Axm,Am3 h hne]
theorem S3 {cd:Code} {l:List (Nat × AV)} {o:List (Nat × AO)} (c m:Nat) (h1:(o.all fun p=>p.1 != m)=true) (h2:c≠m) (h3:r.b≤m) (h:AWP P r N cd ⟨T (Yz c m l),O (Xb c m o)⟩ Q):AWP P r N cd ⟨T l,O o⟩ Q:=by
  refine Akp c m ?_ h2 (.inr h3) (by rw [Apm h1 h2]; exact h)
  show O o m=none
  induction o with
  | nil=>rfl
  | cons p o ih=>
    obtain ⟨j,x⟩:=p
    simp only [List.all_cons,Bool.and_eq_true,bne_iff_ne] at h1
    simp only [O]; rw [if_neg (fun e=>h1.1 e.symm)]
    clear h
    exact (by
      have:=h1.2
      clear ih
      induction o with
      | nil=>rfl
      | cons q o ih=>
        obtain ⟨k,y⟩:=q
        simp only [List.all_cons,Bool.and_eq_true,bne_iff_ne] at this
        simp only [O]; rw [if_neg (fun e=>this.1 e.symm)]
        exact ih ⟨h1.1,this.2⟩ this.2)
end
section
variable {P:Program} {r:RB} {N:Nat} {s:St} {K:St→Prop} {dst:Option Nat} {ty:TypeId} {pos:String} {after:Array Edge} {all rest:List Oper}
def ELm (P:Program) (r:RB) (N:Nat) (all:List Oper):List Bool→List Oper→St→(St→Prop)→Prop
 | [],l,s,K=>EL P r N all l s K
 | true :: fs,o :: rest,s,K=>o.guard=none∧EPb P N o s fun s'=>ELm P r N all fs rest s' K
 | false :: fs,o :: rest,s,K=>o.guard=none∧EO P r N o s fun s'=>ELm P r N all fs rest s' K
 | _ :: _,[],_,_=>False
theorem Qt:∀ {l:List Oper} {fs:List Bool} {s:St} {K:St→Prop},ELm P r N all fs l s K→AL P r N all l s K
 | l,[],s,K,h=>by unfold ELm at h; exact F3 h
 | ⟨dst,op,ty,pos,after,g⟩ :: rest,true :: fs,s,K,h=>by
  obtain ⟨h1,h2⟩:=h
  have h1:g=none:=h1
  subst h1
  exact AL.step ((V2 h2).mono fun s' h'=>Qt h')
 | ⟨dst,op,ty,pos,after,g⟩ :: rest,false :: fs,s,K,h=>by
  obtain ⟨h1,h2⟩:=h
  have h1:g=none:=h1
  subst h1
  exact AL.step ((Gw h2).mono fun s' h'=>Qt h')
 | [],true :: _,_,_,h=>h.elim
 | [],false :: _,_,_,h=>h.elim
theorem P4 (fs:List Bool) {Q:AEx→St→Prop} {id:Nat} {ops:List Oper} (h:ELm P r N ops fs ops s (Q .normal)):AWP P r N (.region id ops.toArray false) s Q:=H5 (Qt h)
def EKm (P:Program) (r:RB) (N:Nat) (all:List Oper) (fs:List Bool) (rest:List Oper) (K:St→Prop) (s:St):Prop:=ELm P r N all fs rest s K
theorem Ts {t:Nat→AV} {o:Nat→Option AO} {fs:List Bool}:EKm P r N all fs rest K ⟨t,o⟩=ELm P r N all fs rest ⟨t,o⟩ K:=rfl
theorem Y2:ELm P r N all [] rest s K=EL P r N all rest s K:=by unfold ELm; rfl
theorem Ym {o:Op} {fs:List Bool}:ELm P r N all (true :: fs) (⟨dst,o,ty,pos,after,none⟩ :: rest) s K=EPb P N ⟨dst,o,ty,pos,after,none⟩ s (EKm P r N all fs rest K):=propext ⟨fun h=>h.2,fun h=>⟨rfl,h⟩⟩
theorem Adc {o:Op} {fs:List Bool}:ELm P r N all (false :: fs) (⟨dst,o,ty,pos,after,none⟩ :: rest) s K=EO P r N ⟨dst,o,ty,pos,after,none⟩ s (EKm P r N all fs rest K):=propext ⟨fun h=>h.2,fun h=>⟨rfl,h⟩⟩
end
end AM
end
/- The statements: what is read of the arguments is what the walks take; what a pure call leaves is what the statements ask. For any program. -/
section
namespace AM
set_option maxRecDepth 100000
open Go AM Go.ChangeShapes Go.WideShapes Go.ChangeAt Go.RowKit
structure BrP (P:Program):Prop where
 kids:Kids P (· < P.types.size)
 full:∀ t e,t < P.types.size→P.underlying t=some (.slice e)→0 < P.cellsOf e
 bool:P.underlying 4=some .bool
section
variable {P:Program} {H:Type} {enc:TypeId × Value→H} {W W':World}
theorem Ak5 (hk:Bq (fun b=>W.heap.size≤b) W W') {p:MemPlace} (hp:p.block < W.heap.size):W.sameAt W' p:=by
 have h:=hk.same p.block hp (by omega)
 cases p with
 | cell b off=>simp only [World.sameAt,World.cell?]; rw [show W'.heap[b]?=W.heap[b]? from h]
 | map b=>exact h
theorem Q8 (hP:BrP P) (hk:Bq (fun b=>W.heap.size≤b) W W') (sp:Nat→Bool):∀ {ts:List TypeId} {vs:List Value} {ds:List (DataW H)} {p:List MemPlace},
  (∀ t ∈ ts,t < P.types.size)→DataW.TrodAll enc P W 0 (fun _=>true) true ts vs ds p→(∀ x ∈ p,x.block < W.heap.size)→(∀ x ∈ p,sp x.block=true)→DataW.TrodAll enc P W' 0 sp true ts vs ds p
 | [],[],[],_,_,h,_,_=>h
 | _ :: _,_ :: _,_ :: _,_,hT,⟨p,q,⟨n,h1⟩,h2,e⟩,hl,hs=>
  ⟨p,q,⟨n,DataW.trod_stays hP.kids (fun ht hu=>hP.full _ _ ht hu) (fun h=>by cases h) (hT _ (List.mem_cons.2 (Or.inl rfl))) h1 (fun x hx=>Ak5 hk (hl x (by rw [e]; exact List.mem_append_left _ hx))) (fun x hx=>hs x (by rw [e]; exact List.mem_append_left _ hx))⟩,
   Q8 hP hk sp (fun t ht=>hT t (List.mem_cons.2 (Or.inr ht))) h2 (fun x hx=>hl x (by rw [e]; exact List.mem_append_right _ hx)) (fun x hx=>hs x (by rw [e]; exact List.mem_append_right _ hx)),e⟩
theorem U6 (hk:Bq (fun b=>W.heap.size≤b) W W') (may:MemPlace→Prop):W.keptBut W' may:=by
 refine ⟨hk.os,hk.output,fun i hi=>?_⟩
 have h:=hk.same i hi (by omega)
 rw [h]
 cases W.heap[i]? with
 | none=>rfl
 | some o=>cases o <;> first | exact ⟨rfl,rfl,rfl,fun _ _=>rfl⟩ | exact .inr ⟨rfl,rfl⟩ | rfl
theorem Agj (hP:BrP P) {fn:Func} {s:ChangeSpec} {args:Array Value} {ds gs:List (DataW H)} {before:List MemPlace} (hr:fn.resultTypes=#[4]) (hp:∀ t ∈ fn.params.toList,t < P.types.size) (hv:s.vars=[])
  (hfn:s.fn H (ds++gs)={ results:=[.lit (.bool true)],args:=ds }) (hW:DataW.Whole enc P fn.params.toList s.vars false W args.toList ds gs before) (hk:Bq (fun b=>W.heap.size≤b) W W') :
  s.post enc P fn false true false false W args (.bool true) W':=by
 have hW0:=hW
 obtain ⟨p,q,hA,hV,rfl,hz,hn⟩:=hW
 rw [hv] at hV
 obtain ⟨rfl,rfl⟩:=trodVars_none hV
 have hlt:∀ x ∈ p,x.block < W.heap.size:=hA.lt
 refine ⟨ds,[],p++[],[],p,[],hW0,?_,?_,?_,World.keptBut_mono (fun x hx=>⟨hx,.inr (.inl (by simpa using hx))⟩) (U6 hk _),fun h=>by cases h⟩
 ·rw [hfn,hr]; exact trodAll_mk1 (shut_bool hP.bool true)
 ·rw [hfn]; exact Q8 hP hk _ hp hA hlt (fun x hx=>by simpa using hlt x hx)
 ·rw [hfn,hv]; rfl
theorem law_calls (hP:BrP P) {f:FuncId} {avs:List AV} {fn:Func} {s:ChangeSpec} {args:Array Value} {ds gs:List (DataW H)} {before:List MemPlace} (hc:Bo P f avs (bl true)) (hsz:args.size=avs.length) (hrel:∀ θ (i:Nat) (x:AV),avs[i]?=some x→Ao θ (fun _=>False) W x (args.getD i undef))
  (hr:fn.resultTypes=#[4]) (hp:∀ t ∈ fn.params.toList,t < P.types.size) (hv:s.vars=[]) (hfn:s.fn H (ds++gs)={ results:=[.lit (.bool true)],args:=ds }) (hW:DataW.Whole enc P fn.params.toList s.vars false W args.toList ds gs before) :
  Calls P f args W fun e W'=>∃ v,e=.returned v∧s.post enc P fn false true false false W args v W':=by
 refine (hc.2 (fun _=>⟨0,0,true⟩) (fun _=>False) W args (fun b h=>h.elim) hsz (fun i x hx=>hrel _ i x hx)).mono ?_
 rintro e W' ⟨v,rfl,hv',hk⟩
 cases hv' with
 | p _ _ h=>
  cases h with
  | val _ _=>exact ⟨_,rfl,Agj hP hr hp hv hfn hW hk⟩
theorem inR_wfB {m:Int} (h:(Lit.int .i64 m).wf=true):inR m=true:=by
 simp only [Lit.wf,IntKind.min,IntKind.max,IntKind.signed,IntKind.bits,Bool.and_eq_true,decide_eq_true_eq] at h
 simp only [inR,Bool.and_eq_true,decide_eq_true_eq]
 constructor <;> simp_all
theorem Z1 {b o i:Nat}:Addr.add ⟨b,o,none⟩ i=⟨b,o+i,none⟩:=by
 unfold Addr.add
 split
 ·rename_i h; simp_all
 ·rfl
def T9 (P:Program) (t:TypeId) (k:Nat):Prop:=∀ {H:Type} {enc:TypeId × Value→H} {W:World} (n:Nat) (cs:List Value) (x:DataW H × List MemPlace),DataW.trod enc P W 0 (fun _=>true) true n t cs=some x→∃ ms:List Int,cs=ms.map (fun m=>Value.int .i64 m)∧ms.length=k∧∀ m ∈ ms,inR m=true
theorem Aih {t:TypeId} (h:P.underlying t=some (.int .i64)):T9 P t 1:=fun n cs x hx=>by
 obtain ⟨m,rfl,_,hw⟩:=DataW.trod_int h hx
 exact ⟨[m],rfl,rfl,fun y hy=>by rw [List.mem_singleton.1 hy]; exact inR_wfB hw⟩
def Bav (l:List (Nat × Nat)) (K:Nat):Bool:=(List.range K).all fun j=>l.any fun p=>decide (p.1≤j)&&decide (j < p.1+p.2)
theorem Ri {e K:Nat} {fs:Array Field} (he:P.underlying e=some (.struct fs)) (hc:P.cellsOf e=K) (hf:∀ f ∈ fs.toList,∃ k,T9 P f.type k) (hcov:Bav (fs.toList.map fun f=>(f.offset,P.cellsOf f.type)) K=true):T9 P e K:=fun n cs x hx=>by
 obtain ⟨xs,n',_,_,hl,hxs,hg⟩:=DataW.trod_struct he hx
 rw [hc] at hl
 have key:∀ j,j < K→∃ m,cs[j]?=some (Value.int .i64 m)∧inR m=true:=fun j hj=>by
  have h1:=List.all_eq_true.1 hcov j (List.mem_range.2 hj)
  obtain ⟨p,hp,h2⟩:=List.any_eq_true.1 h1
  obtain ⟨f,hm,rfl⟩:=List.mem_map.1 hp
  simp only [Bool.and_eq_true,decide_eq_true_eq] at h2
  obtain ⟨i,hi⟩:=List.mem_iff_getElem?.1 hm
  obtain ⟨k,hk⟩:=hf f hm
  have hi':fs[i]?=some f:=by simpa using hi
  have h3:=hg i f hi'
  have hix:i < xs.length:=by
   rw [hxs]; exact (Array.getElem?_eq_some_iff.1 hi').1
  rw [List.getElem?_eq_getElem hix] at h3
  obtain ⟨ms,h4,h5,h6⟩:=hk _ _ _ h3
  have h7:((cs.drop f.offset).take (P.cellsOf f.type))[j - f.offset]?=cs[j]?:=by
   rw [List.getElem?_take,if_pos (by omega),List.getElem?_drop]; congr 1; omega
  have hjl:j < cs.length:=by omega
  rw [h4,List.getElem?_map,List.getElem?_eq_getElem hjl] at h7
  cases hq:ms[j - f.offset]? with
  | none=>rw [hq] at h7; cases h7
  | some m=>
   rw [hq] at h7
   refine ⟨m,?_,h6 m (List.mem_of_getElem? hq)⟩
   rw [List.getElem?_eq_getElem hjl]; exact h7.symm
 obtain ⟨F,hF⟩:=Go.Deep.choose_lt (n:=K) (p:=fun j m=>cs[j]?=some (Value.int .i64 m)∧inR m=true) key
 refine ⟨(List.range K).map F,?_,by simp,fun m hm=>?_⟩
 ·refine List.ext_getElem? fun j=>?_
  by_cases hj:j < K
  ·rw [(hF j hj).1]; simp [hj]
  ·rw [List.getElem?_eq_none (by omega),List.getElem?_eq_none (by simp; omega)]
 ·obtain ⟨j,hj,rfl⟩:=List.mem_map.1 hm
  exact (hF j (List.mem_range.1 hj)).2
end
section
variable {P:Program} {H:Type} {enc:TypeId × Value→H} {W:World}
def Abr (P:Program) (t:TypeId) (k:Nat) (X:List PV→Prop):Prop:=∀ {H:Type} {enc:TypeId × Value→H} {W:World} (n:Nat) (cs:List Value) (x:DataW H × List MemPlace),DataW.trod enc P W 0 (fun _=>true) true n t cs=some x →
 cs.length=k∧∃ ps:List PV,ps.length=k∧X ps∧∀ (j:Nat) (p:PV) (v:Value),ps[j]?=some p→cs[j]?=some v→Ci (fun _=>False) W p v
theorem Un {t:TypeId} {k:Nat} (h:T9 P t k):Abr P t k fun ps=>∃ ms:List Int,ms.length=k∧ps=ms.map iv:=fun n cs x hx=>by
 obtain ⟨ms,rfl,h1,_⟩:=h n cs x hx
 refine ⟨by rw [List.length_map]; exact h1,ms.map iv,by rw [List.length_map]; exact h1,⟨ms,h1,rfl⟩,fun j p v hp hv=>?_⟩
 simp only [List.getElem?_map,Option.map_eq_some_iff] at hp hv
 obtain ⟨m,hm,rfl⟩:=hp
 obtain ⟨m2,hm2,rfl⟩:=hv
 rw [hm] at hm2; cases hm2
 exact .val _ rfl
theorem Aby {t e k:Nat} {X:List PV→Prop} (ht:P.underlying t=some (.slice e)) (hk:P.cellsOf e=k) (h0:0 < k) (hel:Abr P e k X):Abr P t 1 fun ps=>∃ rows:List (List PV),(∀ r ∈ rows,r.length=k∧X r)∧ps=[.sl rows]:=by
 intro H enc W n cs x hx
 have mk:∀ (rows:List (List PV)) (v:Value),cs=[v]→(∀ r ∈ rows,r.length=k∧X r)→Ci (fun _=>False) W (.sl rows) v→cs.length=1∧∃ ps:List PV,ps.length=1∧(∃ rows:List (List PV),(∀ r ∈ rows,r.length=k∧X r)∧ps=[.sl rows])∧∀ (j:Nat) (p:PV) (v:Value),ps[j]?=some p→cs[j]?=some v→Ci (fun _=>False) W p v:=fun rows v hc hr hp=>by
  subst hc
  refine ⟨rfl,[.sl rows],rfl,⟨rows,hr,rfl⟩,fun j p v' hp' hv'=>?_⟩
  match j,hp',hv' with
  | 0,hp',hv'=>cases hp'; cases hv'; exact hp
  | j+1,hp',_=>simp at hp'
 rcases Go.Deep.open_slice ht hx with ⟨rfl,_⟩ | ⟨a,len,cap,m,n',D,Pl,rfl,_,hl,hm,hmm,_,hi⟩
 ·exact mk [] _ rfl (by simp) .nil
 ·simp only [if_true] at hmm
  subst hmm
  by_cases hz:m=0
  ·subst hz
   obtain rfl:len=0:=by omega
   exact mk [] _ rfl (by simp) (.emp a)
  ·obtain ⟨b,o,sp⟩:=a
   have hs:sp=none:=by
    obtain ⟨cs0,h1,_⟩:=hi 0 (by omega)
    obtain ⟨_,h2,h3⟩:=World.cells?_some h1
    have h4:=h3 0 (by rw [hk]; exact h0)
    rw [List.getElem?_eq_getElem (by omega)] at h4
    simpa [Addr.add] using World.cell?_spot h4
   subst hs
   obtain ⟨F,hF⟩:=Go.Deep.choose_lt (α:=List PV) (n:=m) (p:=fun i ps=>ps.length=k∧X ps∧∃ cs',W.cells? 0 (Addr.add ⟨b,o,none⟩ (i * k)) k=some cs'∧∀ (j:Nat) (p:PV) (v:Value),ps[j]?=some p→cs'[j]?=some v→Ci (fun _=>False) W p v) (fun i h1=>by
    obtain ⟨cs',h2,h3⟩:=hi i h1
    rw [hk] at h2
    obtain ⟨_,ps,h5,h6,h7⟩:=hel _ _ _ h3
    exact ⟨ps,h5,h6,cs',h2,h7⟩)
   have hrow:∀ (i:Nat) (r:List PV),((List.range len).map F)[i]?=some r→i < len∧r=F i:=fun i r hr=>by
    simp only [List.getElem?_map,Option.map_eq_some_iff] at hr
    obtain ⟨i',h1,rfl⟩:=hr
    have hlt:i < len:=by
     have:=(List.getElem?_eq_some_iff.1 h1).1; simpa using this
    rw [List.getElem?_range hlt] at h1
    exact ⟨hlt,by rw [Option.some.inj h1]⟩
   have hcell:∀ (i j:Nat) (p:PV),i < m→(F i)[j]?=some p→∃ v,W.cell? ⟨b,o+(i * k+j),none⟩=some v∧Ci (fun _=>False) W p v:=fun i j p him hp=>by
    obtain ⟨h5,_,cs',h6,h7⟩:=hF i him
    obtain ⟨_,h8,h9⟩:=World.cells?_some h6
    have hj:j < k:=by rw [← h5]; exact (List.getElem?_eq_some_iff.1 hp).1
    have h10:=h9 j hj
    rw [List.getElem?_eq_getElem (by omega)] at h10
    rw [Z1,Z1,Nat.add_assoc] at h10
    exact ⟨_,h10,h7 j p _ hp (List.getElem?_eq_getElem (by omega))⟩
   refine mk ((List.range len).map F) _ rfl (fun r hr=>?_) ?_
   ·obtain ⟨i,h1,rfl⟩:=List.mem_map.1 hr
    have:=hF i (by have:=List.mem_range.1 h1; omega)
    exact ⟨this.1,this.2.1⟩
   ·have h:=Ci.sl (M:=fun _=>False) (w:=W) ((List.range len).map F) b o m k (fun i j=>(W.cell? ⟨b,o+(i * k+j),none⟩).getD undef) (fun i e he=>by
     obtain ⟨h1,rfl⟩:=hrow i e he
     exact (hF i (by omega)).1) (by simpa using hl) (fun i e j x he hx=>by
     obtain ⟨h1,rfl⟩:=hrow i e he
     obtain ⟨v,h2,_⟩:=hcell i j x (by omega) hx
     exact ⟨fun h=>h,by rw [h2]; rfl⟩) (fun i e j x he hx=>by
     obtain ⟨h1,rfl⟩:=hrow i e he
     obtain ⟨v,h2,h3⟩:=hcell i j x (by omega) hx
     show Ci _ _ x ((W.cell? _).getD undef)
     rw [h2]; exact h3)
    rw [List.length_map,List.length_range] at h
    exact h
theorem Pt {t:TypeId} {X:List PV→Prop} (h:Abr P t 1 X) {n:Nat} {v:Value} {x:DataW H × List MemPlace} (hx:DataW.trod enc P W 0 (fun _=>true) true n t [v]=some x):∃ p,X [p]∧Ci (fun _=>False) W p v:=by
 obtain ⟨_,ps,h1,h2,h3⟩:=h n _ x hx
 match ps,h1 with
 | [p],_=>exact ⟨p,h2,h3 0 p v rfl rfl⟩
theorem J5 {n:Nat} {t:TypeId} {cs:List Value} {xs:List (DataW H × List MemPlace)} {i:Nat} (h:DataW.trod enc P W 0 (fun _=>true) true n t cs=xs[i]?) (hi:i < xs.length):∃ x,DataW.trod enc P W 0 (fun _=>true) true n t cs=some x:=⟨xs[i],by rw [h,List.getElem?_eq_getElem hi]⟩
end
end AM
end
