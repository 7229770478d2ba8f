/- Lemmas for the proof: more of the program's functions, walked on the abstract machine. -/
import Derived.Test.YtbgiddcgdgdmbaaGreatQ6
/- What the reference says of vessels, in plain Lean; that it is what the program says. -/
section
namespace AM.Wort
open Go AM Go.Proofs
theorem begin_room:∀ {vs:List Ves} {gs ds:List Int} {i:Nat} {v:List Liq},(Hf vs gs ds i v).2=Qj vs gs i∧(Qj vs gs i=true→(Hf vs gs ds i v).1=Xr vs gs ds i v)
 | [],_,_,_,_=>⟨rfl,fun _=>rfl⟩
 | x :: vs,gs,ds,i,v=>by
  unfold Hf Qj Xr
  split
  ·rename_i h
   rw [decide_eq_false (by omega)]
   exact ⟨rfl,fun h=>by cases h⟩
  ·rename_i h
   rw [decide_eq_true (by omega),Bool.true_and]
   exact begin_room
theorem playXF_false {vs:List Ves} {m:List Int}:∀ {ss:List Stp} {i:Nat} {v:List Liq},(Mq vs m ss i (v,false)).2=false
 | [],_,_=>rfl
 | _ :: _,_,_=>by unfold Mq; rw [if_pos rfl]
theorem playF_false {vs:List Ves} {m:List Int}:∀ {ss:List Stp} {i:Nat} {v:List Liq},(Lw vs m ss i (v,false)).2=false
 | [],_,_=>rfl
 | _ :: _,_,_=>by unfold Lw; rw [if_pos rfl]
theorem play_take {vs:List Ves} {m:List Int}:∀ {ss:List Stp} {i:Nat} {w:List Liq},ss.all (Dm vs.length)=true →
  (Lw vs m ss i (w,true)).2=(Mq vs m ss i (w.take vs.length,true)).2∧((Lw vs m ss i (w,true)).2=true→(Lw vs m ss i (w,true)).1.take vs.length=(Mq vs m ss i (w.take vs.length,true)).1)
 | [],_,_,_=>⟨rfl,fun _=>rfl⟩
 | s :: ss,i,w,hs=>by
  rw [List.all_cons,Bool.and_eq_true] at hs
  unfold Lw Mq
  rw [if_neg (fun h=>by cases h),if_neg (fun h=>by cases h)]
  dsimp only
  have e:=Atc (w:=w) (m:=m.getD i 0) hs.1
  cases hd:(doS vs w s (m.getD i 0)).2 with
  | true=>
   have e2:doX vs (w.take vs.length) s (m.getD i 0)=((doS vs w s (m.getD i 0)).1.take vs.length,true):=by
    unfold doX; rw [e,hd]; rfl
   have e3:doS vs w s (m.getD i 0)=((doS vs w s (m.getD i 0)).1,true):=by rw [← hd]
   rw [e2,e3]
   exact play_take hs.2
  | false=>
   have e2:doX vs (w.take vs.length) s (m.getD i 0)=(w.take vs.length,false):=by
    unfold doX; rw [e,hd]; rfl
   have e3:doS vs w s (m.getD i 0)=((doS vs w s (m.getD i 0)).1,false):=by rw [← hd]
   rw [e2,e3,playF_false,playXF_false]
   exact ⟨rfl,fun h=>by cases h⟩
theorem play_eq {b:Cx} (t:Tru) (hv:Ja b):(Ns b t).2=(An3 b t).2∧((Ns b t).2=true→(Ns b t).1.take b.vs.length=(An3 b t).1):=by
 unfold Ns An3 Pa Zg
 obtain ⟨h1,h2⟩:=begin_room (vs:=b.vs) (gs:=t.g) (ds:=t.d) (i:=0) (v:=v0)
 have h3:=Zj (vs:=b.vs) (gs:=t.g) (ds:=t.d) (i:=0) (v:=v0) (by have:=hv.nv; simp; omega)
 rw [Nat.zero_add] at h3
 cases hr:Qj b.vs t.g 0 with
 | true=>
  have e:Hf b.vs t.g t.d 0 v0=(Xr b.vs t.g t.d 0 v0,true):=by rw [← h2 hr,← hr,← h1]
  rw [e]
  have e2:Nq b.vs t.g t.d=(Xr b.vs t.g t.d 0 v0).take b.vs.length:=h3.symm
  rw [e2]
  exact play_take hv.s
 | false=>
  have e:Hf b.vs t.g t.d 0 v0=((Hf b.vs t.g t.d 0 v0).1,false):=by rw [← hr,← h1]
  rw [e,playF_false,playXF_false]
  exact ⟨rfl,fun h=>by cases h⟩
end AM.Wort
end
/- The law of plays. -/
section
namespace AM.Try
open Go AM AM.Wort Go.Proofs
open Nat renaming reduceLT→sA,reduceAdd→sB,reduceMul→sC,reduceSub→sD,reduceLeDiff→sE,reduceEqDiff→sF,reduceBEq→sG
open Int renaming reduceAdd→sH,reduceSub→sI,reduceMul→sJ,reduceLT→sK,reduceLE→sL,reduceNeg→sM,reduceToNat→sN,reduceEq→sO
set_option maxRecDepth 100000
set_option maxHeartbeats 16000000
theorem playA_eq (b:Cx) (t:Tru):D9 b t=if B5 b=0 then if C1 b t=true then if (Ns b t).2=true then .tup [.p (.sl (((Ns b t).1.take b.vs.length).map fun l=>H5 (L1 l))),i64 0] else .tup [Dk,i64 11] else .tup [Dk,i64 2] else .tup [Dk,i64 (B5 b)]:=by
  unfold D9; rfl
theorem thin_parts {b:Cx} {t:Tru} (h:Ai5 b t=true):b.vs.length≤7∧b.ss.length≤9∧t.g.length≤9∧t.d.length≤9∧t.m.length≤9:=by
  simp only [Ai5,Bool.and_eq_true,decide_eq_true_eq] at h
  omega
theorem c_lst (b:Cx) (t:Tru) (hf:B5 b=0) (hl:C1 b t=true) (hd:(Ns b t).2=true):Bj Tryz.prog 22 [.p (.sl (((Ns b t).1.take b.vs.length).map fun l=>H5 (L1 l))),.p (.sl (stL (An3 b t).1))] (bl true):=by
  have hv:=Acu hf
  rw [(play_eq t hv).2 hd]
  have e:=Aa4 (An3 b t).1
  have hw:=(Arw hv hl).1
  have h2:((An3 b t).1.map L1).length < 1000000:=by
    rw [List.length_map,← (play_eq t hv).2 hd,List.length_take]; omega
  have:=Bcd ((An3 b t).1.map L1) h2
  rw [← e] at this
  exact this
theorem c_wortPlays (b:Cx) (t:Tru) (_:Arq b) (_:Awq t):Bj Tryz.prog 3 [avB b,avT t] (bl true):=by
  refine A7 (v:=[]) (q:=[]) (N:=67) (rs:=[.tmp 4]) Tryz.func3 rfl rfl rfl rfl rfl ?_
  have pA:=playA_eq b t
  have hX:B5 b=0→(An3 b t).2=(Ns b t).2:=fun hf=>(play_eq t (Acu hf)).1.symm
  by_cases hf:B5 b=0 <;> cases hl:C1 b t <;> cases hd:(Ns b t).2
  all_goals
    try (have hX2:=(hX hf).trans hd)
    refine Aa fun K1 hK1=>?_
    refine Ab ?_
    simp (disch:=omega) only [amL,sA,sB,sF,↓reduceIte,reduceCtorEq]
    refine hK1 _ ?_
    refine Aa fun K2 hK2=>?_
    refine Aa fun K3 hK3=>?_
    refine Ab ?_
    simp (disch:=omega) only [amL,amT,sA,sB,sF,↓reduceIte]
    repeat' first | (refine Al (by kernel_rfl) rfl (Bgt b t) (by first | exact .inl rfl | exact .inr (.inl rfl)) ?_ ; simp (disch:=omega) only [amL,sA,↓reduceIte])
    refine hK3 _ ?_
    refine Ag rfl (fun h=>?_) (fun h=>?_)
    ·first
     | exact Bool.noConfusion h
     |skip
      try simp only [Bool.not_eq_true'] at h
      refine Aa fun K4 hK4=>?_
      refine Ab ?_
      simp (disch:=omega) only [amL]
      repeat' first | (refine Al (by kernel_rfl) rfl (Bgu) (by first | exact .inl rfl | exact .inr (.inl rfl)) ?_ ; simp (disch:=omega) only [amL,sA,↓reduceIte])
      refine hK4 _ ?_
      refine Ae ?_
      try simp (disch:=omega) only [amL,↓reduceIte]
      all_goals first | rfl | (have e1:(An3 b t).2=true:=(by assumption) ; have e2:(An3 b t).2=false:=(by assumption) ; rw [e1] at e2 ; cases e2)
    ·first
     | exact Bool.noConfusion h
     |skip
      try simp only [Bool.not_eq_false'] at h
      refine Ah ?_
      refine hK2 _ ?_
      refine Aa fun K5 hK5=>?_
      refine Bg (by kernel_rfl) (by kernel_rfl) ?_
      obtain ⟨z1,z2,z3,z4,z5⟩:=thin_parts (b:=b) (t:=t) (by first | assumption | simp_all)
      simp (disch:=omega) only [amL,amT,sA,sB,sF,↓reduceIte]
      repeat' first | (refine Al (by kernel_rfl) rfl (Bgs b (by omega) (by omega)) (by first | exact .inl rfl | exact .inr (.inl rfl)) ?_ ; simp (disch:=omega) only [amL,amT,sA,sB,sF,↓reduceIte]) | (refine Al (by kernel_rfl) rfl (Bgo t (by omega) (by omega) (by omega)) (by first | exact .inl rfl | exact .inr (.inl rfl)) ?_ ; simp (disch:=omega) only [amL,sF,↓reduceIte]) | (refine Al (by kernel_rfl) rfl (Au1 b t (by omega) (by omega) (by rw [Asi]; omega)) (by first | exact .inl rfl | exact .inr (.inl rfl)) ?_ ; simp (disch:=omega) only [pA,hf,hl,hd,amL,sA,sF,↓reduceIte])
      refine hK5 _ ?_
      refine Aa fun K6 hK6=>?_
      refine Ab ?_
      simp (disch:=omega) only [amL,amT,sA,sB,sF,↓reduceIte]
      repeat' first | (refine Al (by kernel_rfl) rfl (Bf5 b (by omega) (by omega)) (by first | exact .inl rfl | exact .inr (.inl rfl)) ?_ ; simp (disch:=omega) only [hf,amL,sA,↓reduceIte])
      refine hK6 _ ?_
      refine Aa fun K7 hK7=>?_
      refine Aa fun K8 hK8=>?_
      refine Ab ?_
      simp (disch:=omega) only [amL,amT,sA,sB,sF,↓reduceIte]
      repeat' first | (refine Al (by kernel_rfl) rfl (Bgs b (by omega) (by omega)) (by first | exact .inl rfl | exact .inr (.inl rfl)) ?_ ; simp (disch:=omega) only [amL,↓reduceIte]) | (refine Al (by kernel_rfl) rfl (Aja b (by omega) (by omega)) (by first | exact .inl rfl | exact .inr (.inl rfl)) ?_ ; simp (disch:=omega) only [hf,ne_eq,amL,amT,sA,sF,↓reduceIte])
      refine hK8 _ ?_
      refine Ag rfl (fun h=>?_) (fun h=>?_)
      ·first
       | exact Bool.noConfusion h
       |skip
        try simp only [Bool.not_eq_true',decide_eq_true_eq,decide_eq_false_iff_not,Bool.and_eq_true,Bool.not_eq_false',Bool.not_not,decide_not,Bool.not_true,Bool.not_false] at h
        refine Aa fun K9 hK9=>?_
        refine Ab ?_
        simp (disch:=omega) only [pA,hf,hl,hd,ne_eq,amL,amT,sA,sB,sC,sD,sE,sF,sG,sH,sI,sJ,sK,sL,sM,sN,sO,↓reduceIte,reduceCtorEq]
        refine hK9 _ ?_
        refine Ae ?_
        try simp (disch:=omega) only [pA,hf,hl,hd,ne_eq,amL,amT,sA,sB,sC,sD,sE,sF,sG,sH,sI,sJ,sK,sL,sM,sN,sO,↓reduceIte,reduceCtorEq]
        all_goals first | rfl | (have e1:(An3 b t).2=true:=(by assumption) ; have e2:(An3 b t).2=false:=(by assumption) ; rw [e1] at e2 ; cases e2)
      ·first
       | exact Bool.noConfusion h
       |skip
        try simp only [] at h
        refine Ah ?_
        refine hK7 _ ?_
        refine Aa fun K10 hK10=>?_
        refine Ab ?_
        simp (disch:=omega) only [amL,sA]
        refine hK10 _ ?_
        refine Aa fun K11 hK11=>?_
        refine Aa fun K12 hK12=>?_
        refine Ab ?_
        simp (disch:=omega) only [hf,amL,amT,sA,sF,↓reduceIte]
        refine hK12 _ ?_
        refine Ag rfl (fun h=>?_) (fun h=>?_)
        ·first
         | exact Bool.noConfusion h
         |skip
          try simp only [] at h
          refine Aa fun K13 hK13=>?_
          refine Ab ?_
          simp (disch:=omega) only [amL,sA]
          refine hK13 _ ?_
          refine Aa fun K14 hK14=>?_
          refine Ab ?_
          simp (disch:=omega) only [amL,amT,sA,sB,sF,↓reduceIte]
          repeat' first | (refine Al (by kernel_rfl) rfl (Bcc b t (by omega) (by omega)) (by first | exact .inl rfl | exact .inr (.inl rfl)) ?_ ; simp (disch:=omega) only [hl,amL,sA,↓reduceIte])
          refine hK14 _ ?_
          refine Ag rfl (fun h=>?_) (fun h=>?_)
          ·first
           | exact Bool.noConfusion h
           |skip
            try simp only [] at h
            refine Ab ?_
            simp (disch:=omega) only [amL,sA]
            refine hK11 _ ?_
            refine Aa fun K15 hK15=>?_
            refine Aa fun K16 hK16=>?_
            refine Ab ?_
            simp (disch:=omega) only [ne_eq,amL,amT,sA,sO,↓reduceIte]
            refine hK16 _ ?_
            refine Ag rfl (fun h=>?_) (fun h=>?_)
            ·first
             | exact Bool.noConfusion h
             |skip
              try simp only [] at h
              refine Aa fun K17 hK17=>?_
              refine Ab ?_
              simp (disch:=omega) only [amL,amT,sA,sF,↓reduceIte]
              repeat' first | (refine Cn (fun h=>?_) (fun h=>?_) <;> simp (disch:=omega) only [h,pA,hf,hl,hd,ne_eq,amL,amT,sA,sB,sC,sD,sE,sF,sG,sH,sI,sJ,sK,sL,sM,sN,sO,↓reduceIte,reduceCtorEq]) | (refine Bo (fun h=>?_) (fun h=>?_) <;> simp (disch:=omega) only [h,pA,hf,hl,hd,ne_eq,amL,amT,sA,sB,sC,sD,sE,sF,sG,sH,sI,sJ,sK,sL,sM,sN,sO,↓reduceIte,reduceCtorEq]) | (refine Al (by kernel_rfl) rfl (Bgu) (by first | exact .inl rfl | exact .inr (.inl rfl)) ?_ ; simp (disch:=omega) only [amL,sA,sF,↓reduceIte])
              all_goals
               skip
               refine hK17 _ ?_
               refine Ae ?_
               try simp (disch:=omega) only [amL,↓reduceIte]
               all_goals first | rfl | (have e1:(An3 b t).2=true:=(by assumption) ; have e2:(An3 b t).2=false:=(by assumption) ; rw [e1] at e2 ; cases e2)
            ·first
             | exact Bool.noConfusion h
             |skip
              try simp only [Bool.not_eq_true',decide_eq_true_eq,decide_eq_false_iff_not,Bool.and_eq_true,Bool.not_eq_false',Bool.not_not,decide_not,Bool.not_true,Bool.not_false] at h
              refine Ah ?_
              refine hK15 _ ?_
              refine Aa fun K18 hK18=>?_
              refine Ab ?_
              simp (disch:=omega) only [pA,hf,hl,hd,ne_eq,amL,amT,sA,sB,sC,sD,sE,sF,sG,sH,sI,sJ,sK,sL,sM,sN,sO,↓reduceIte,reduceCtorEq]
              repeat' first | (refine Cn (fun h=>?_) (fun h=>?_) <;> simp (disch:=omega) only [h,pA,hf,hl,hd,ne_eq,amL,amT,sA,sB,sC,sD,sE,sF,sG,sH,sI,sJ,sK,sL,sM,sN,sO,↓reduceIte,reduceCtorEq]) | (refine Bo (fun h=>?_) (fun h=>?_) <;> simp (disch:=omega) only [h,pA,hf,hl,hd,ne_eq,amL,amT,sA,sB,sC,sD,sE,sF,sG,sH,sI,sJ,sK,sL,sM,sN,sO,↓reduceIte,reduceCtorEq]) | (refine Al (by kernel_rfl) rfl (c_lst b t hf hl hd) (by first | exact .inl rfl | exact .inr (.inl rfl)) ?_ ; simp (disch:=omega) only [pA,hf,hl,hd,ne_eq,amL,amT,sA,sB,sC,sD,sE,sF,sG,sH,sI,sJ,sK,sL,sM,sN,sO,↓reduceIte,reduceCtorEq]) | (refine Al (by kernel_rfl) rfl (Bgu) (by first | exact .inl rfl | exact .inr (.inl rfl)) ?_ ; simp (disch:=omega) only [pA,hf,hl,hd,ne_eq,amL,amT,sA,sB,sC,sD,sE,sF,sG,sH,sI,sJ,sK,sL,sM,sN,sO,↓reduceIte,reduceCtorEq])
              all_goals
               skip
               refine hK18 _ ?_
               refine Ae ?_
               try simp (disch:=omega) only [pA,hf,hl,hd,ne_eq,amL,amT,sA,sB,sC,sD,sE,sF,sG,sH,sI,sJ,sK,sL,sM,sN,sO,↓reduceIte,reduceCtorEq]
               all_goals first | rfl | (have e1:(An3 b t).2=true:=(by assumption) ; have e2:(An3 b t).2=false:=(by assumption) ; rw [e1] at e2 ; cases e2)
          ·first
           | exact Bool.noConfusion h
           |skip
            try simp only [] at h
            refine Aa fun K19 hK19=>?_
            refine Ab ?_
            simp (disch:=omega) only [amL,amT,sA,sB,sF,↓reduceIte]
            repeat' first | (refine Al (by kernel_rfl) rfl (Bgv b t (Acu hf) hl) (by first | exact .inl rfl | exact .inr (.inl rfl)) ?_ ; simp (disch:=omega) only [amL,sA,sF,↓reduceIte])
            refine hK19 _ ?_
            refine Aa fun K20 hK20=>?_
            refine Ab ?_
            simp (disch:=omega) only [amL,sA,↓reduceIte]
            refine hK20 _ ?_
            refine Ag rfl (fun h=>?_) (fun h=>?_)
            ·first
             | exact Bool.noConfusion h
             |skip
              try simp only [Bool.not_eq_true'] at h
              refine Ab ?_
              simp (disch:=omega) only [amL,sA]
              refine hK11 _ ?_
              refine Aa fun K21 hK21=>?_
              refine Aa fun K22 hK22=>?_
              refine Ab ?_
              simp (disch:=omega) only [ne_eq,amL,amT,sA,sO,↓reduceIte]
              refine hK22 _ ?_
              refine Ag rfl (fun h=>?_) (fun h=>?_)
              ·first
               | exact Bool.noConfusion h
               |skip
                try simp only [] at h
                refine Aa fun K23 hK23=>?_
                refine Ab ?_
                simp (disch:=omega) only [amL,amT,sA,sF,sO,↓reduceIte]
                repeat' first | (refine Cn (fun h=>?_) (fun h=>?_) <;> simp (disch:=omega) only [h,pA,hf,hl,hd,ne_eq,amL,amT,sA,sB,sC,sD,sE,sF,sG,sH,sI,sJ,sK,sL,sM,sN,sO,↓reduceIte,reduceCtorEq]) | (refine Bo (fun h=>?_) (fun h=>?_) <;> simp (disch:=omega) only [h,pA,hf,hl,hd,ne_eq,amL,amT,sA,sB,sC,sD,sE,sF,sG,sH,sI,sJ,sK,sL,sM,sN,sO,↓reduceIte,reduceCtorEq]) | (refine Al (by kernel_rfl) rfl (Bgu) (by first | exact .inl rfl | exact .inr (.inl rfl)) ?_ ; simp (disch:=omega) only [amL,sA,sF,↓reduceIte])
                all_goals
                 skip
                 refine hK23 _ ?_
                 refine Ae ?_
                 try simp (disch:=omega) only [amL,↓reduceIte]
                 all_goals first | rfl | (have e1:(An3 b t).2=true:=(by assumption) ; have e2:(An3 b t).2=false:=(by assumption) ; rw [e1] at e2 ; cases e2)
              ·first
               | exact Bool.noConfusion h
               |skip
                try simp only [Bool.not_eq_true',decide_eq_true_eq,decide_eq_false_iff_not,Bool.and_eq_true,Bool.not_eq_false',Bool.not_not,decide_not,Bool.not_true,Bool.not_false] at h
                refine Ah ?_
                refine hK21 _ ?_
                refine Aa fun K24 hK24=>?_
                refine Ab ?_
                simp (disch:=omega) only [pA,hf,hl,hd,ne_eq,amL,amT,sA,sB,sC,sD,sE,sF,sG,sH,sI,sJ,sK,sL,sM,sN,sO,↓reduceIte,reduceCtorEq]
                repeat' first | (refine Cn (fun h=>?_) (fun h=>?_) <;> simp (disch:=omega) only [h,pA,hf,hl,hd,ne_eq,amL,amT,sA,sB,sC,sD,sE,sF,sG,sH,sI,sJ,sK,sL,sM,sN,sO,↓reduceIte,reduceCtorEq]) | (refine Bo (fun h=>?_) (fun h=>?_) <;> simp (disch:=omega) only [h,pA,hf,hl,hd,ne_eq,amL,amT,sA,sB,sC,sD,sE,sF,sG,sH,sI,sJ,sK,sL,sM,sN,sO,↓reduceIte,reduceCtorEq]) | (refine Al (by kernel_rfl) rfl (c_lst b t hf hl hd) (by first | exact .inl rfl | exact .inr (.inl rfl)) ?_ ; simp (disch:=omega) only [pA,hf,hl,hd,ne_eq,amL,amT,sA,sB,sC,sD,sE,sF,sG,sH,sI,sJ,sK,sL,sM,sN,sO,↓reduceIte,reduceCtorEq]) | (refine Al (by kernel_rfl) rfl (Bgu) (by first | exact .inl rfl | exact .inr (.inl rfl)) ?_ ; simp (disch:=omega) only [pA,hf,hl,hd,ne_eq,amL,amT,sA,sB,sC,sD,sE,sF,sG,sH,sI,sJ,sK,sL,sM,sN,sO,↓reduceIte,reduceCtorEq])
                all_goals
                 skip
                 refine hK24 _ ?_
                 refine Ae ?_
                 try simp (disch:=omega) only [pA,hf,hl,hd,ne_eq,amL,amT,sA,sB,sC,sD,sE,sF,sG,sH,sI,sJ,sK,sL,sM,sN,sO,↓reduceIte,reduceCtorEq]
                 all_goals first | rfl | (have e1:(An3 b t).2=true:=(by assumption) ; have e2:(An3 b t).2=false:=(by assumption) ; rw [e1] at e2 ; cases e2)
            ·first
             | exact Bool.noConfusion h
             |skip
              try simp only [Bool.not_eq_false'] at h
              refine Ah ?_
              refine hK11 _ ?_
              refine Aa fun K25 hK25=>?_
              refine Aa fun K26 hK26=>?_
              refine Ab ?_
              simp (disch:=omega) only [ne_eq,amL,amT,sA,sF,↓reduceIte]
              refine hK26 _ ?_
              refine Ag rfl (fun h=>?_) (fun h=>?_)
              ·first
               | exact Bool.noConfusion h
               |skip
                try simp only [Bool.not_eq_true',decide_eq_true_eq,decide_eq_false_iff_not,Bool.and_eq_true,Bool.not_eq_false',Bool.not_not,decide_not,Bool.not_true,Bool.not_false] at h
                refine Aa fun K27 hK27=>?_
                refine Ab ?_
                simp (disch:=omega) only [pA,hf,hl,hd,ne_eq,amL,amT,sA,sB,sC,sD,sE,sF,sG,sH,sI,sJ,sK,sL,sM,sN,sO,↓reduceIte,reduceCtorEq]
                repeat' first | (refine Cn (fun h=>?_) (fun h=>?_) <;> simp (disch:=omega) only [h,pA,hf,hl,hd,ne_eq,amL,amT,sA,sB,sC,sD,sE,sF,sG,sH,sI,sJ,sK,sL,sM,sN,sO,↓reduceIte,reduceCtorEq]) | (refine Bo (fun h=>?_) (fun h=>?_) <;> simp (disch:=omega) only [h,pA,hf,hl,hd,ne_eq,amL,amT,sA,sB,sC,sD,sE,sF,sG,sH,sI,sJ,sK,sL,sM,sN,sO,↓reduceIte,reduceCtorEq]) | (refine Al (by kernel_rfl) rfl (Bgu) (by first | exact .inl rfl | exact .inr (.inl rfl)) ?_ ; simp (disch:=omega) only [pA,hf,hl,hd,ne_eq,amL,amT,sA,sB,sC,sD,sE,sF,sG,sH,sI,sJ,sK,sL,sM,sN,sO,↓reduceIte,reduceCtorEq])
                all_goals
                 skip
                 refine hK27 _ ?_
                 refine Ae ?_
                 try simp (disch:=omega) only [pA,hf,hl,hd,ne_eq,amL,amT,sA,sB,sC,sD,sE,sF,sG,sH,sI,sJ,sK,sL,sM,sN,sO,↓reduceIte,reduceCtorEq]
                 all_goals first | rfl | (have e1:(An3 b t).2=true:=(by assumption) ; have e2:(An3 b t).2=false:=(by assumption) ; rw [e1] at e2 ; cases e2)
              ·first
               | exact Bool.noConfusion h
               |skip
                try simp only [] at h
                refine Ah ?_
                refine hK25 _ ?_
                refine Aa fun K28 hK28=>?_
                refine Ab ?_
                simp (disch:=omega) only [amL,amT,sA,sF,sO,↓reduceIte]
                repeat' first | (refine Cn (fun h=>?_) (fun h=>?_) <;> simp (disch:=omega) only [h,pA,hf,hl,hd,ne_eq,amL,amT,sA,sB,sC,sD,sE,sF,sG,sH,sI,sJ,sK,sL,sM,sN,sO,↓reduceIte,reduceCtorEq]) | (refine Bo (fun h=>?_) (fun h=>?_) <;> simp (disch:=omega) only [h,pA,hf,hl,hd,ne_eq,amL,amT,sA,sB,sC,sD,sE,sF,sG,sH,sI,sJ,sK,sL,sM,sN,sO,↓reduceIte,reduceCtorEq]) | (refine Al (by kernel_rfl) rfl (c_lst b t hf hl hd) (by first | exact .inl rfl | exact .inr (.inl rfl)) ?_ ; simp (disch:=omega) only [amL,sA,sF,↓reduceIte]) | (refine Al (by kernel_rfl) rfl (Bgu) (by first | exact .inl rfl | exact .inr (.inl rfl)) ?_ ; simp (disch:=omega) only [amL,sA,sF,↓reduceIte])
                all_goals
                 skip
                 refine hK28 _ ?_
                 refine Ae ?_
                 try simp (disch:=omega) only [amL,↓reduceIte]
                 all_goals first | rfl | (have e1:(An3 b t).2=true:=(by assumption) ; have e2:(An3 b t).2=false:=(by assumption) ; rw [e1] at e2 ; cases e2)
        ·first
         | exact Bool.noConfusion h
         |skip
          try simp only [] at h
          refine Ah ?_
          refine hK11 _ ?_
          refine Aa fun K29 hK29=>?_
          refine Aa fun K30 hK30=>?_
          refine Ab ?_
          simp (disch:=omega) only [hf,ne_eq,amL,amT,sA,sF,↓reduceIte]
          refine hK30 _ ?_
          refine Ag rfl (fun h=>?_) (fun h=>?_)
          ·first
           | exact Bool.noConfusion h
           |skip
            try simp only [] at h
            refine Aa fun K31 hK31=>?_
            refine Ab ?_
            simp (disch:=omega) only [amL,amT,sA,sF,↓reduceIte]
            repeat' first | (refine Cn (fun h=>?_) (fun h=>?_) <;> simp (disch:=omega) only [h,pA,hf,hl,hd,ne_eq,amL,amT,sA,sB,sC,sD,sE,sF,sG,sH,sI,sJ,sK,sL,sM,sN,sO,↓reduceIte,reduceCtorEq]) | (refine Bo (fun h=>?_) (fun h=>?_) <;> simp (disch:=omega) only [h,pA,hf,hl,hd,ne_eq,amL,amT,sA,sB,sC,sD,sE,sF,sG,sH,sI,sJ,sK,sL,sM,sN,sO,↓reduceIte,reduceCtorEq]) | (refine Al (by kernel_rfl) rfl (Bgu) (by first | exact .inl rfl | exact .inr (.inl rfl)) ?_ ; simp (disch:=omega) only [amL,sA,sF,↓reduceIte])
            all_goals
             skip
             refine hK31 _ ?_
             refine Ae ?_
             try simp (disch:=omega) only [amL,↓reduceIte]
             all_goals first | rfl | (have e1:(An3 b t).2=true:=(by assumption) ; have e2:(An3 b t).2=false:=(by assumption) ; rw [e1] at e2 ; cases e2)
          ·first
           | exact Bool.noConfusion h
           |skip
            try simp only [Bool.not_eq_true',decide_eq_true_eq,decide_eq_false_iff_not,Bool.and_eq_true,Bool.not_eq_false',Bool.not_not,decide_not,Bool.not_true,Bool.not_false] at h
            refine Ah ?_
            refine hK29 _ ?_
            refine Aa fun K32 hK32=>?_
            refine Ab ?_
            simp (disch:=omega) only [pA,hf,hl,hd,ne_eq,amL,amT,sA,sB,sC,sD,sE,sF,sG,sH,sI,sJ,sK,sL,sM,sN,sO,↓reduceIte,reduceCtorEq]
            repeat' first | (refine Cn (fun h=>?_) (fun h=>?_) <;> simp (disch:=omega) only [h,pA,hf,hl,hd,ne_eq,amL,amT,sA,sB,sC,sD,sE,sF,sG,sH,sI,sJ,sK,sL,sM,sN,sO,↓reduceIte,reduceCtorEq]) | (refine Bo (fun h=>?_) (fun h=>?_) <;> simp (disch:=omega) only [h,pA,hf,hl,hd,ne_eq,amL,amT,sA,sB,sC,sD,sE,sF,sG,sH,sI,sJ,sK,sL,sM,sN,sO,↓reduceIte,reduceCtorEq]) | (refine Al (by kernel_rfl) rfl (c_lst b t hf hl hd) (by first | exact .inl rfl | exact .inr (.inl rfl)) ?_ ; simp (disch:=omega) only [pA,hf,hl,hd,ne_eq,amL,amT,sA,sB,sC,sD,sE,sF,sG,sH,sI,sJ,sK,sL,sM,sN,sO,↓reduceIte,reduceCtorEq]) | (refine Al (by kernel_rfl) rfl (Bgu) (by first | exact .inl rfl | exact .inr (.inl rfl)) ?_ ; simp (disch:=omega) only [pA,hf,hl,hd,ne_eq,amL,amT,sA,sB,sC,sD,sE,sF,sG,sH,sI,sJ,sK,sL,sM,sN,sO,↓reduceIte,reduceCtorEq])
            all_goals
             skip
             refine hK32 _ ?_
             refine Ae ?_
             try simp (disch:=omega) only [pA,hf,hl,hd,ne_eq,amL,amT,sA,sB,sC,sD,sE,sF,sG,sH,sI,sJ,sK,sL,sM,sN,sO,↓reduceIte,reduceCtorEq]
             all_goals first | rfl | (have e1:(An3 b t).2=true:=(by assumption) ; have e2:(An3 b t).2=false:=(by assumption) ; rw [e1] at e2 ; cases e2)
end AM.Try
end
