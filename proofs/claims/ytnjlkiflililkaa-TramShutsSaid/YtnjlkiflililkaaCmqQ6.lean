/- A part of the proofs: an abstract machine, or what functions come to on it. -/
import Derived.Test.YtnjlkiflililkaaCmqQ5
set_option linter.unusedVariables false
set_option linter.unusedSimpArgs false
set_option linter.defProp false
set_option maxRecDepth 8000
namespace Go.Am.Room
def cE:=And.intro @bK (And.intro @aK (And.intro @aZ (And.intro @aX (And.intro @aY (And.intro @aT (And.intro @bI (And.intro @bF (And.intro @bE (And.intro @List.length_append.{0} (And.intro @Nat.mul_one (And.intro @Int.toNat_natCast (And.intro @dP (And.intro @dA (@kG))))))))))))))
def B9 (σ:St) (v:Net) (b:Nat) (A:List K5):St:=σ++[.cells (aB v),.map (tEs v A),.cells (db v b (σ.length+1))]
theorem VH (σ:St) (v:Net) (b:Nat):MemAt (B9 σ v b) (db v b (σ.length+1)) (tEs v) (σ.length+2) (σ.length+1) (σ.length+3) :=
 ⟨fun M=>by simp [B9],fun M=>by simp [B9,tB,sJ,SU],fun M=>by rw [B9,sS];rfl,fun M M'=>by rw [B9,B9,pW];rfl,fun A k=>tM v A k,by omega,by omega⟩
theorem uO (v:Net) (hf:Fits v):dL T 36 [bM v] (u7 (jW v)):=by
 refine aU (af:=a36) rfl (by simp [a36]) dd ?_
 (repeat (first|simp only [↓QA,QB,Nat.reduceLT,reduceIte,Nat.reduceEqDiff,Nat.reduceAdd,Nat.reduceLeDiff,Nat.reduceMul,Nat.reduceBEq,cE,a36]|refine rd0 rfl ?_))
 ((first|refine aD (kL v hf) rfl dd ?_|refine aE (kL v hf) rfl dd ?_);(repeat (first|simp only [↓QA,QB,Nat.reduceLT,reduceIte,Nat.reduceEqDiff,Nat.reduceAdd,Nat.reduceLeDiff,Nat.reduceMul,Nat.reduceBEq,cE,mE]|refine rd0 rfl ?_)))
 cases h0:((bY v).2.2==0)
 ·have h0':(bY v).2.2≠0:=by simpa using h0
  have hwo:jW v=([],(bY v).2.2):=if_neg h0'
  rw [hwo]
  (repeat (first|simp only [↓QA,QB,Nat.reduceLT,reduceIte,Nat.reduceEqDiff,Nat.reduceAdd,Nat.reduceLeDiff,Nat.reduceMul,Nat.reduceBEq,cE,h0,u7]|refine rd0 rfl ?_))
  try rfl
 ·have h0':(bY v).2.2=0:=by simpa using h0
  have hwo:jW v=(nF v,0):=if_pos h0'
  have hv:=dI h0'
  have hnl:=hv.nse
  have hwf:=zQ hv
  rw [←aC4 _ _ (by omega)] at hwf
  rw [hwo]
  obtain ⟨W,hW⟩:∃ W,nF v=W:=⟨_,rfl⟩
  rw [hW] at hwf ⊢
  obtain ⟨n,hn⟩:∃ n,v.seen.length=n:=⟨_,rfl⟩
  rw [hn] at hwf hnl
  have hp:2^n≤2^3:=Nat.pow_le_pow_right (by omega) hnl
  have hshl:=vU n (by omega)
  obtain ⟨P,hP⟩:∃ P,2^n=P:=⟨_,rfl⟩
  have hbl:∀ s,s<P→ButIs s (lst n s):=fun s hs=>V8 (by omega) (by omega)
  rw [hP] at hp hshl hwf
  obtain ⟨q,hq⟩:∃ q,mG v=q:=⟨_,rfl⟩
  have hqd:∀ l,(!(bH v l).isEmpty)=q l:=fun l=>by rw [←hq];rfl
  rw [hq] at hwf
  (repeat (first|simp only [↓QA,QB,Nat.reduceLT,reduceIte,Nat.reduceEqDiff,Nat.reduceAdd,Nat.reduceLeDiff,Nat.reduceMul,Nat.reduceBEq,cE,h0,hn,hshl]|refine rd0 rfl ?_))
  refine bT (S:=Nat×Option (List Int)) (0,none) (fun x=>x.1≤P∧n6 q n (P-x.1) x.1 x.2=some W∧(x.2.getD []).length≤n) (fun x=>P-x.1)
   (fun x=>[(1,.ptr 0 0),(2,ints (x.2.getD [])),(4,.bool x.2.isSome),(19,.int .i64 P),(20,.int .i64 x.1)])
   (fun x=>[.cells (aB v)]) ⟨by simp,by simpa using hwf,by simp⟩ (by simp [aB,ints]) ?_ fun x hx=>?_
  ·try simp only [aC,QE,Nat.reduceLT,reduceIte,Nat.reduceEqDiff,Nat.reduceAdd,Nat.reduceLeDiff,Nat.reduceMul,Nat.reduceBEq,cE,ints,Option.getD_none,Option.isSome_none]
   try simp [clr,clrs]
  ·obtain ⟨s,o⟩:=x
   obtain ⟨hs,hfo,hol⟩:=hx
   simp only at hs hfo hol
   (repeat (first|simp only [↓QA,QB,Nat.reduceLT,reduceIte,Nat.reduceEqDiff,Nat.reduceAdd,Nat.reduceLeDiff,Nat.reduceMul,Nat.reduceBEq,cE,ZE]|refine rd0 rfl ?_))
   refine aG (fun h=>?_) fun h=>?_
   ·have hs1:s<P:=by simpa using h
    have hw:=bP hs1 (by omega)
    have hll:=K0 n s
    have hlk:=GF [.cells (aB v)] v s
    have hso:=DK (VH [.cells (aB v)] v s) hv (hbl s hs1) []
    have e0:tEs v []=[]:=rfl
    rw [hqd] at hso
    have hlo:=uH s n (by omega) (by omega)
    rw [show P-s=(P-(s+1))+1 by omega] at hfo
    simp only [n6] at hfo
    obtain ⟨L,hL⟩:∃ L,lst n s=L:=⟨_,rfl⟩
    rw [hL] at hfo hll hlo hso
    obtain ⟨qL,hqL⟩:∃ x,q L=x:=⟨_,rfl⟩
    rw [hqL] at hso
    simp only [B9,B6,e0] at hso hlk
    try simp only [↓QA,QB,Nat.reduceLT,reduceIte,Nat.reduceEqDiff,Nat.reduceAdd,Nat.reduceLeDiff,Nat.reduceMul,Nat.reduceBEq,cE,List.cons_append,List.nil_append,List.length_cons,List.length_nil] at hso hlk
    (repeat (first|simp only [↓QA,QB,Nat.reduceLT,reduceIte,Nat.reduceEqDiff,Nat.reduceAdd,Nat.reduceLeDiff,Nat.reduceMul,Nat.reduceBEq,cE,hn,Option.getD_some]|refine rd0 rfl ?_))
    ((first|refine aD (hlo) rfl dd ?_|refine aE (hlo) rfl dd ?_);(repeat (first|simp only [↓QA,QB,Nat.reduceLT,reduceIte,Nat.reduceEqDiff,Nat.reduceAdd,Nat.reduceLeDiff,Nat.reduceMul,Nat.reduceBEq,cE]|refine rd0 rfl ?_)))
    cases o with
    |none =>
     have hst:j7 q none L=if q L=true then some L else none:=rfl
     (repeat (first|simp only [↓QA,QB,Nat.reduceLT,reduceIte,Nat.reduceEqDiff,Nat.reduceAdd,Nat.reduceLeDiff,Nat.reduceMul,Nat.reduceBEq,cE,Option.isSome_none,Option.getD_none]|refine rd0 rfl ?_))
     refine dY hlk ?_
     (repeat (first|simp only [↓QA,QB,Nat.reduceLT,reduceIte,Nat.reduceEqDiff,Nat.reduceAdd,Nat.reduceLeDiff,Nat.reduceMul,Nat.reduceBEq,cE]|refine rd0 rfl ?_))
     refine dY hso ?_
     (repeat (first|simp only [↓QA,QB,Nat.reduceLT,reduceIte,Nat.reduceEqDiff,Nat.reduceAdd,Nat.reduceLeDiff,Nat.reduceMul,Nat.reduceBEq,cE]|refine rd0 rfl ?_))
     cases qL
     ·rw [hqL] at hst
      simp only [Bool.false_eq_true,if_false] at hst
      rw [hst] at hfo
      (repeat (first|simp only [↓QA,QB,Nat.reduceLT,reduceIte,Nat.reduceEqDiff,Nat.reduceAdd,Nat.reduceLeDiff,Nat.reduceMul,Nat.reduceBEq,cE,hw]|refine rd0 rfl ?_))
      refine ⟨(s+1,none),⟨by simp only;omega,hfo,by simp⟩,by simp only;omega,?_⟩
      try simp only [aC,QE,Nat.reduceLT,reduceIte,Nat.reduceEqDiff,Nat.reduceAdd,Nat.reduceLeDiff,Nat.reduceMul,Nat.reduceBEq,cE,hw,Option.isSome_none,Option.getD_none]
      try simp [ints,aH]
     ·rw [hqL] at hst
      simp only [if_true] at hst
      rw [hst] at hfo
      (repeat (first|simp only [↓QA,QB,Nat.reduceLT,reduceIte,Nat.reduceEqDiff,Nat.reduceAdd,Nat.reduceLeDiff,Nat.reduceMul,Nat.reduceBEq,cE,hw]|refine rd0 rfl ?_))
      refine ⟨(s+1,some L),⟨by simp only;omega,hfo,by simpa using hll⟩,by simp only;omega,?_⟩
      try simp only [aC,QE,Nat.reduceLT,reduceIte,Nat.reduceEqDiff,Nat.reduceAdd,Nat.reduceLeDiff,Nat.reduceMul,Nat.reduceBEq,cE,hw,Option.isSome_some,Option.getD_some]
      try simp [ints,aH]
    |some b =>
     simp only [Option.getD_some] at hol
     simp only [Option.isSome_some,j5]
     (repeat (first|simp only [↓QA,QB,Nat.reduceLT,reduceIte,Nat.reduceEqDiff,Nat.reduceAdd,Nat.reduceLeDiff,Nat.reduceMul,Nat.reduceBEq,cE,Option.isSome_some,Option.getD_some]|refine rd0 rfl ?_))
     have fin:∀ (hfw:gV b L=false),j7 q (some b) L=if q L=true then some L else some b:=fun hfw=>by simp only [j7,hfw];rfl
     cases h1:decide ((b.length:Int)<(L.length:Int))
     ·have h1':¬b.length<L.length:=by simpa using h1
      (repeat (first|simp only [↓QA,QB,Nat.reduceLT,reduceIte,Nat.reduceEqDiff,Nat.reduceAdd,Nat.reduceLeDiff,Nat.reduceMul,Nat.reduceBEq,cE,Option.getD_some,h1]|refine rd0 rfl ?_))
      cases h2:((L.length:Int)==(b.length:Int))
      ·have h2':¬b.length=L.length:=by intro h;rw [h] at h2;simp at h2
       have hst:=fin (by simp [gV,h1',h2'])
       (repeat (first|simp only [↓QA,QB,Nat.reduceLT,reduceIte,Nat.reduceEqDiff,Nat.reduceAdd,Nat.reduceLeDiff,Nat.reduceMul,Nat.reduceBEq,cE,h2]|refine rd0 rfl ?_))
       refine dY hlk ?_
       (repeat (first|simp only [↓QA,QB,Nat.reduceLT,reduceIte,Nat.reduceEqDiff,Nat.reduceAdd,Nat.reduceLeDiff,Nat.reduceMul,Nat.reduceBEq,cE]|refine rd0 rfl ?_))
       refine dY hso ?_
       (repeat (first|simp only [↓QA,QB,Nat.reduceLT,reduceIte,Nat.reduceEqDiff,Nat.reduceAdd,Nat.reduceLeDiff,Nat.reduceMul,Nat.reduceBEq,cE]|refine rd0 rfl ?_))
       cases qL
       ·rw [hqL] at hst
        simp only [Bool.false_eq_true,if_false] at hst
        rw [hst] at hfo
        (repeat (first|simp only [↓QA,QB,Nat.reduceLT,reduceIte,Nat.reduceEqDiff,Nat.reduceAdd,Nat.reduceLeDiff,Nat.reduceMul,Nat.reduceBEq,cE,hw]|refine rd0 rfl ?_))
        refine ⟨(s+1,some b),⟨by simp only;omega,hfo,by simpa using hol⟩,by simp only;omega,?_⟩
        try simp only [aC,QE,Nat.reduceLT,reduceIte,Nat.reduceEqDiff,Nat.reduceAdd,Nat.reduceLeDiff,Nat.reduceMul,Nat.reduceBEq,cE,hw,Option.isSome_some,Option.getD_some]
        try simp [ints,aH]
       ·rw [hqL] at hst
        simp only [if_true] at hst
        rw [hst] at hfo
        (repeat (first|simp only [↓QA,QB,Nat.reduceLT,reduceIte,Nat.reduceEqDiff,Nat.reduceAdd,Nat.reduceLeDiff,Nat.reduceMul,Nat.reduceBEq,cE,hw]|refine rd0 rfl ?_))
        refine ⟨(s+1,some L),⟨by simp only;omega,hfo,by simpa using hll⟩,by simp only;omega,?_⟩
        try simp only [aC,QE,Nat.reduceLT,reduceIte,Nat.reduceEqDiff,Nat.reduceAdd,Nat.reduceLeDiff,Nat.reduceMul,Nat.reduceBEq,cE,hw,Option.isSome_some,Option.getD_some]
        try simp [ints,aH]
      ·have h2':b.length=L.length:=by simp at h2;omega
       (repeat (first|simp only [↓QA,QB,Nat.reduceLT,reduceIte,Nat.reduceEqDiff,Nat.reduceAdd,Nat.reduceLeDiff,Nat.reduceMul,Nat.reduceBEq,cE,Option.getD_some,h2]|refine rd0 rfl ?_))
       ((first|refine aD (LP L b (by omega) (by omega)) rfl dd ?_|refine aE (LP L b (by omega) (by omega)) rfl dd ?_);(repeat (first|simp only [↓QA,QB,Nat.reduceLT,reduceIte,Nat.reduceEqDiff,Nat.reduceAdd,Nat.reduceLeDiff,Nat.reduceMul,Nat.reduceBEq,cE,DJ,Option.getD_some]|refine rd0 rfl ?_)))
       cases h3:less b L
       ·have hst:=fin (by simp [gV,h2',h3])
        (repeat (first|simp only [↓QA,QB,Nat.reduceLT,reduceIte,Nat.reduceEqDiff,Nat.reduceAdd,Nat.reduceLeDiff,Nat.reduceMul,Nat.reduceBEq,cE,h3]|refine rd0 rfl ?_))
        refine dY hlk ?_
        (repeat (first|simp only [↓QA,QB,Nat.reduceLT,reduceIte,Nat.reduceEqDiff,Nat.reduceAdd,Nat.reduceLeDiff,Nat.reduceMul,Nat.reduceBEq,cE]|refine rd0 rfl ?_))
        refine dY hso ?_
        (repeat (first|simp only [↓QA,QB,Nat.reduceLT,reduceIte,Nat.reduceEqDiff,Nat.reduceAdd,Nat.reduceLeDiff,Nat.reduceMul,Nat.reduceBEq,cE]|refine rd0 rfl ?_))
        cases qL
        ·rw [hqL] at hst
         simp only [Bool.false_eq_true,if_false] at hst
         rw [hst] at hfo
         (repeat (first|simp only [↓QA,QB,Nat.reduceLT,reduceIte,Nat.reduceEqDiff,Nat.reduceAdd,Nat.reduceLeDiff,Nat.reduceMul,Nat.reduceBEq,cE,hw]|refine rd0 rfl ?_))
         refine ⟨(s+1,some b),⟨by simp only;omega,hfo,by simpa using hol⟩,by simp only;omega,?_⟩
         try simp only [aC,QE,Nat.reduceLT,reduceIte,Nat.reduceEqDiff,Nat.reduceAdd,Nat.reduceLeDiff,Nat.reduceMul,Nat.reduceBEq,cE,hw,Option.isSome_some,Option.getD_some]
         try simp [ints,aH]
        ·rw [hqL] at hst
         simp only [if_true] at hst
         rw [hst] at hfo
         (repeat (first|simp only [↓QA,QB,Nat.reduceLT,reduceIte,Nat.reduceEqDiff,Nat.reduceAdd,Nat.reduceLeDiff,Nat.reduceMul,Nat.reduceBEq,cE,hw]|refine rd0 rfl ?_))
         refine ⟨(s+1,some L),⟨by simp only;omega,hfo,by simpa using hll⟩,by simp only;omega,?_⟩
         try simp only [aC,QE,Nat.reduceLT,reduceIte,Nat.reduceEqDiff,Nat.reduceAdd,Nat.reduceLeDiff,Nat.reduceMul,Nat.reduceBEq,cE,hw,Option.isSome_some,Option.getD_some]
         try simp [ints,aH]
       ·have hfw:gV b L=true:=by simp [gV,h2',h3]
        have hst:j7 q (some b) L=some b:=by simp only [j7,hfw,if_true]
        rw [hst] at hfo
        (repeat (first|simp only [↓QA,QB,Nat.reduceLT,reduceIte,Nat.reduceEqDiff,Nat.reduceAdd,Nat.reduceLeDiff,Nat.reduceMul,Nat.reduceBEq,cE,h3,hw]|refine rd0 rfl ?_))
        refine ⟨(s+1,some b),⟨by simp only;omega,hfo,by simpa using hol⟩,by simp only;omega,?_⟩
        try simp only [aC,QE,Nat.reduceLT,reduceIte,Nat.reduceEqDiff,Nat.reduceAdd,Nat.reduceLeDiff,Nat.reduceMul,Nat.reduceBEq,cE,hw,Option.isSome_some,Option.getD_some]
        try simp [ints,aH]
     ·have h1':b.length<L.length:=by simpa using h1
      have h2':¬b.length=L.length:=by omega
      have hfw:gV b L=true:=by simp [gV,h1',h2']
      have hst:j7 q (some b) L=some b:=by simp only [j7,hfw,if_true]
      rw [hst] at hfo
      (repeat (first|simp only [↓QA,QB,Nat.reduceLT,reduceIte,Nat.reduceEqDiff,Nat.reduceAdd,Nat.reduceLeDiff,Nat.reduceMul,Nat.reduceBEq,cE,h1,hw]|refine rd0 rfl ?_))
      refine ⟨(s+1,some b),⟨by simp only;omega,hfo,by simpa using hol⟩,by simp only;omega,?_⟩
      try simp only [aC,QE,Nat.reduceLT,reduceIte,Nat.reduceEqDiff,Nat.reduceAdd,Nat.reduceLeDiff,Nat.reduceMul,Nat.reduceBEq,cE,hw,Option.isSome_some,Option.getD_some]
      try simp [ints,aH]
   ·have hs1:s=P:=by simp at h;omega
    rw [hs1,Nat.sub_self] at hfo
    simp only [n6] at hfo
    subst hfo
    (repeat (first|simp only [↓QA,QB,Nat.reduceLT,reduceIte,Nat.reduceEqDiff,Nat.reduceAdd,Nat.reduceLeDiff,Nat.reduceMul,Nat.reduceBEq,cE,u7,Option.getD_some]|refine rd0 rfl ?_))
    try try simp only [QS,QC,Nat.reduceLT,reduceIte,Nat.reduceEqDiff,Nat.reduceAdd,Nat.reduceLeDiff,Nat.reduceMul,Nat.reduceBEq,cE]
end Go.Am.Room
set_option maxRecDepth 8000
namespace Go.Am.Room
def V2:=And.intro @aT (@List.length_append.{0})
theorem mT (a b:Int):dL T 40 [.int .i64 a,.int .i64 b] (nX ⟨a,b⟩):=by
 refine aU (af:=a40) rfl (by simp [a40]) dd ?_
 (repeat (first|simp only [↓QA,QB,Nat.reduceLT,reduceIte,Nat.reduceEqDiff,Nat.reduceAdd,Nat.reduceLeDiff,Nat.reduceMul,Nat.reduceBEq,V2,a40]|refine rd0 rfl ?_))
def u8s (l:List Int):AV:=.lit (l.map (.int .u8)) false none
theorem R8 (l:List Int):lX (u8s l):=jE (dJ .u8) l
instance (l:List Int):Dat (u8s l):=⟨R8 l⟩
end Go.Am.Room
set_option maxRecDepth 8000
namespace Go.Am.Room
def g7:=And.intro @bK (And.intro @aK (And.intro @aZ (And.intro @aX (And.intro @aY (And.intro @aT (And.intro @bI (And.intro @bF (And.intro @bE (And.intro @dP (@List.length_append.{0}))))))))))
theorem DX (p n:Int):dL T 39 [.int .i64 p,.int .i64 n] (eU ⟨p,n⟩):=by
 refine aU (af:=a39) rfl (by simp [a39]) dd ?_
 (repeat (first|simp only [↓QA,QB,Nat.reduceLT,reduceIte,Nat.reduceEqDiff,Nat.reduceAdd,Nat.reduceLeDiff,Nat.reduceMul,Nat.reduceBEq,g7,a39]|refine rd0 rfl ?_))
theorem v6 (o:Bool) (l:List Seen):dL T 38 [.bool o,.lit (l.map eU) false none] (bM (exN o l)):=by
 refine aU (af:=a38) rfl (by simp [a38]) dd ?_
 (repeat (first|simp only [↓QA,QB,Nat.reduceLT,reduceIte,Nat.reduceEqDiff,Nat.reduceAdd,Nat.reduceLeDiff,Nat.reduceMul,Nat.reduceBEq,g7,a38]|refine rd0 rfl ?_))
 ((first|refine aD (mT 5 6) rfl dd ?_|refine aE (mT 5 6) rfl dd ?_);(repeat (first|simp only [↓QA,QB,Nat.reduceLT,reduceIte,Nat.reduceEqDiff,Nat.reduceAdd,Nat.reduceLeDiff,Nat.reduceMul,Nat.reduceBEq,g7]|refine rd0 rfl ?_)))
 ((first|refine aD (mT 4 4) rfl dd ?_|refine aE (mT 4 4) rfl dd ?_);(repeat (first|simp only [↓QA,QB,Nat.reduceLT,reduceIte,Nat.reduceEqDiff,Nat.reduceAdd,Nat.reduceLeDiff,Nat.reduceMul,Nat.reduceBEq,g7]|refine rd0 rfl ?_)))
 ((first|refine aD (mT 12 12) rfl dd ?_|refine aE (mT 12 12) rfl dd ?_);(repeat (first|simp only [↓QA,QB,Nat.reduceLT,reduceIte,Nat.reduceEqDiff,Nat.reduceAdd,Nat.reduceLeDiff,Nat.reduceMul,Nat.reduceBEq,g7]|refine rd0 rfl ?_)))
 ((first|refine aD (mT 3 3) rfl dd ?_|refine aE (mT 3 3) rfl dd ?_);(repeat (first|simp only [↓QA,QB,Nat.reduceLT,reduceIte,Nat.reduceEqDiff,Nat.reduceAdd,Nat.reduceLeDiff,Nat.reduceMul,Nat.reduceBEq,g7]|refine rd0 rfl ?_)))
 cases o
 ·(repeat (first|simp only [↓QA,QB,Nat.reduceLT,reduceIte,Nat.reduceEqDiff,Nat.reduceAdd,Nat.reduceLeDiff,Nat.reduceMul,Nat.reduceBEq,g7,exN,PE,J0,List.map_cons,List.map_nil]|refine rd0 rfl ?_))
  simp [MC,lO,aM,vY,aL,AV.cells,AV.cell,BH,ME,OT,R2,OW,KF,bE,ints]
 ·have i0:(0:Int)≤0∧(0:Int)<((4:Nat):Int):=by decide
  have i2:(0:Int)≤2∧(2:Int)<((4:Nat):Int):=by decide
  (repeat (first|simp only [↓QA,QB,Nat.reduceLT,reduceIte,Nat.reduceEqDiff,Nat.reduceAdd,Nat.reduceLeDiff,Nat.reduceMul,Nat.reduceBEq,g7,exN,PE,J0,List.map_cons,List.map_nil,i0,i2,List.flatMap_cons,List.flatMap_nil,AV.cells,Int.toNat_zero,show (2:Int).toNat=2 from rfl]|refine rd0 rfl ?_))
  simp [MC,lO,aM,vY,aL,AV.cells,AV.cell,BH,ME,OT,R2,OW,KF,bE,ints]
theorem eV (o:Bool) (l:List Seen) (h:l.length≤100:=by decide):Fits (exN o l):=⟨by simp [exN],by simp [exN],by simp [exN];omega,fun k hk=>by
 simp only [exN,List.mem_cons,List.not_mem_nil,or_false] at hk
 rcases hk with rfl|rfl<;>decide,fun k hk=>by
 simp only [exN,List.mem_cons,List.not_mem_nil,or_false] at hk
 rcases hk with rfl|rfl<;>decide⟩
theorem XF (a b:List (List Int)) (ha:a.length<9223372036854775808) (hb:b.length<9223372036854775808) (hl:∀ r∈a,r.length<9223372036854775808) (hm:∀ r∈b,r.length<9223372036854775808):dL T 21 [aJ a,aJ b] (.bool (decide (a=b))):=by
 refine aU (af:=a21) rfl (by simp [a21]) dd ?_
 have hlb:=LK a.length b.length
 (repeat (first|simp only [↓QA,QB,Nat.reduceLT,reduceIte,Nat.reduceEqDiff,Nat.reduceAdd,Nat.reduceLeDiff,Nat.reduceMul,Nat.reduceBEq,g7,a21,bJ]|refine rd0 rfl ?_))
 refine bT (S:=Nat×Bool) (0,decide (a.length=b.length)) (fun x=>x.1≤a.length∧(x.2=true→a.length=b.length∧a.take x.1=b.take x.1)∧(x.2=false→a≠b)) (fun x=>a.length+1-x.1-(if x.2=true then 0 else 1))
  (fun x=>[(0,aJ a),(1,aJ b),(5,.bool x.2),(6,.int .i64 x.1)]) (fun _=>[]) ⟨by simp,by simp,fun h e=>by rw [e] at h;simp at h⟩ rfl ?_ fun x hx=>?_
 ·try simp only [aC,QE,Nat.reduceLT,reduceIte,Nat.reduceEqDiff,Nat.reduceAdd,Nat.reduceLeDiff,Nat.reduceMul,Nat.reduceBEq,g7,bJ,hlb]
  try simp
 ·obtain ⟨k,o⟩:=x
  obtain ⟨hk,h1,h2⟩:=hx
  simp only at hk h1 h2
  (repeat (first|simp only [↓QA,QB,Nat.reduceLT,reduceIte,Nat.reduceEqDiff,Nat.reduceAdd,Nat.reduceLeDiff,Nat.reduceMul,Nat.reduceBEq,g7,ZP,bJ]|refine rd0 rfl ?_))
  cases o
  ·have hne:=h2 rfl
   have:decide (a=b)=false:=by simpa using hne
   rw [this]
   (repeat (first|simp only [↓QA,QB,Nat.reduceLT,reduceIte,Nat.reduceEqDiff,Nat.reduceAdd,Nat.reduceLeDiff,Nat.reduceMul,Nat.reduceBEq,g7]|refine rd0 rfl ?_))
  ·obtain ⟨hle,htk⟩:=h1 rfl
   (repeat (first|simp only [↓QA,QB,Nat.reduceLT,reduceIte,Nat.reduceEqDiff,Nat.reduceAdd,Nat.reduceLeDiff,Nat.reduceMul,Nat.reduceBEq,g7,bJ]|refine rd0 rfl ?_))
   refine aG (fun h=>?_) fun h=>?_
   ·have hk1:k<a.length:=by simpa using h
    have hk2:k<b.length:=by omega
    have hw:=bP hk1 ha
    have hio:=eZ a[k] b[k] (hl _ (List.getElem_mem hk1)) (hm _ (List.getElem_mem hk2))
    (repeat (first|simp only [↓QA,QB,Nat.reduceLT,reduceIte,Nat.reduceEqDiff,Nat.reduceAdd,Nat.reduceLeDiff,Nat.reduceMul,Nat.reduceBEq,g7,hk1,hk2,bJ]|refine rd0 rfl ?_))
    ((first|refine aD (hio) rfl dd ?_|refine aE (hio) rfl dd ?_);(repeat (first|simp only [↓QA,QB,Nat.reduceLT,reduceIte,Nat.reduceEqDiff,Nat.reduceAdd,Nat.reduceLeDiff,Nat.reduceMul,Nat.reduceBEq,g7,hk1,hk2]|refine rd0 rfl ?_)))
    refine ⟨(k+1,decide (a[k]=b[k])),⟨by simp only;omega,fun q=>⟨hle,?_⟩,fun q e=>?_⟩,?_,?_⟩
    ·rw [List.take_succ_eq_append_getElem hk1,List.take_succ_eq_append_getElem hk2,htk]
     simp only [decide_eq_true_eq] at q
     rw [q]
    ·subst e
     simp at q
    ·simp only;split<;>omega
    ·try simp only [aC,QE,Nat.reduceLT,reduceIte,Nat.reduceEqDiff,Nat.reduceAdd,Nat.reduceLeDiff,Nat.reduceMul,Nat.reduceBEq,g7,hw,bJ]
   ·have hk1:k=a.length:=by simp at h;omega
    have:a=b:=by
     rw [hk1,List.take_length] at htk
     rw [htk,hle,List.take_length]
    rw [decide_eq_true this]
    (repeat (first|simp only [↓QA,QB,Nat.reduceLT,reduceIte,Nat.reduceEqDiff,Nat.reduceAdd,Nat.reduceLeDiff,Nat.reduceMul,Nat.reduceBEq,g7]|refine rd0 rfl ?_))
end Go.Am.Room
set_option maxRecDepth 8000
namespace Go.Am.Room
def bC:=And.intro @bK (And.intro @aK (And.intro @aZ (And.intro @aX (And.intro @aY (And.intro @aT (And.intro @bI (And.intro @bF (And.intro @bE (And.intro @dP (And.intro @List.length_append.{0} (@bJ)))))))))))
theorem n8 (a:List (List Int)) (h:a.length≤1000∧∀ r∈a,r.length≤4):dL T 21 [aJ a,aJ a] (.bool true):=by
 have:=XF a a (by omega) (by omega) (fun r hr=>by have:=h.2 r hr;omega) (fun r hr=>by have:=h.2 r hr;omega)
 simpa using this
set_option maxHeartbeats 1000000 in
theorem xE:dL T 22 [] (.bool true):=by
 refine aU (af:=a22) rfl (by simp [a22]) fC ?_
 (repeat (first|simp only [↓QA,QB,Nat.reduceLT,reduceIte,Nat.reduceEqDiff,Nat.reduceAdd,Nat.reduceLeDiff,Nat.reduceMul,Nat.reduceBEq,bC,a22]|refine rd0 rfl ?_))
 refine eT (v6 false []) (by simp [clr,clrs]) (by simp [okV,okVs]) ?_
 (repeat (first|simp only [↓QA,QB,Nat.reduceLT,reduceIte,Nat.reduceEqDiff,Nat.reduceAdd,Nat.reduceLeDiff,Nat.reduceMul,Nat.reduceBEq,bC]|refine rd0 rfl ?_))
 refine eT (v6 true []) (by simp [clr,clrs]) (by simp [okV,okVs]) ?_
 (repeat (first|simp only [↓QA,QB,Nat.reduceLT,reduceIte,Nat.reduceEqDiff,Nat.reduceAdd,Nat.reduceLeDiff,Nat.reduceMul,Nat.reduceBEq,bC]|refine rd0 rfl ?_))
 ((first|refine aD (DX 0 (-1)) rfl dd ?_|refine aE (DX 0 (-1)) rfl dd ?_);(repeat (first|simp only [↓QA,QB,Nat.reduceLT,reduceIte,Nat.reduceEqDiff,Nat.reduceAdd,Nat.reduceLeDiff,Nat.reduceMul,Nat.reduceBEq,bC]|refine rd0 rfl ?_)))
 ((first|refine aD (DX 1 15) rfl dd ?_|refine aE (DX 1 15) rfl dd ?_);(repeat (first|simp only [↓QA,QB,Nat.reduceLT,reduceIte,Nat.reduceEqDiff,Nat.reduceAdd,Nat.reduceLeDiff,Nat.reduceMul,Nat.reduceBEq,bC]|refine rd0 rfl ?_)))
 refine eT (v6 true [⟨0,-1⟩,⟨1,15⟩]) (by simp [clr,clrs,eU]) (by simp [okV,okVs]) ?_
 (repeat (first|simp only [↓QA,QB,Nat.reduceLT,reduceIte,Nat.reduceEqDiff,Nat.reduceAdd,Nat.reduceLeDiff,Nat.reduceMul,Nat.reduceBEq,bC]|refine rd0 rfl ?_))
 ((first|refine aD (DX 0 (-1)) rfl dd ?_|refine aE (DX 0 (-1)) rfl dd ?_);(repeat (first|simp only [↓QA,QB,Nat.reduceLT,reduceIte,Nat.reduceEqDiff,Nat.reduceAdd,Nat.reduceLeDiff,Nat.reduceMul,Nat.reduceBEq,bC]|refine rd0 rfl ?_)))
 refine eT (v6 true [⟨0,-1⟩]) (by simp [clr,clrs,eU]) (by simp [okV,okVs]) ?_
 (repeat (first|simp only [↓QA,QB,Nat.reduceLT,reduceIte,Nat.reduceEqDiff,Nat.reduceAdd,Nat.reduceLeDiff,Nat.reduceMul,Nat.reduceBEq,bC]|refine rd0 rfl ?_))
 ((first|refine aD (uM exH (eV _ _) 3) rfl dd ?_|refine aE (uM exH (eV _ _) 3) rfl dd ?_);(repeat (first|simp only [↓QA,QB,Nat.reduceLT,reduceIte,Nat.reduceEqDiff,Nat.reduceAdd,Nat.reduceLeDiff,Nat.reduceMul,Nat.reduceBEq,bC,x1,oO]|refine rd0 rfl ?_)))
 ((first|refine aD (lF exH (eV _ _) 1) rfl dd ?_|refine aE (lF exH (eV _ _) 1) rfl dd ?_);(repeat (first|simp only [↓QA,QB,Nat.reduceLT,reduceIte,Nat.reduceEqDiff,Nat.reduceAdd,Nat.reduceLeDiff,Nat.reduceMul,Nat.reduceBEq,bC,x2,kS]|refine rd0 rfl ?_)))
 ((first|refine aD (lF exK (eV _ _) 1) rfl dd ?_|refine aE (lF exK (eV _ _) 1) rfl dd ?_);(repeat (first|simp only [↓QA,QB,Nat.reduceLT,reduceIte,Nat.reduceEqDiff,Nat.reduceAdd,Nat.reduceLeDiff,Nat.reduceMul,Nat.reduceBEq,bC,x3,kS]|refine rd0 rfl ?_)))
 ((first|refine aD (lF exT (eV _ _) 0) rfl dd ?_|refine aE (lF exT (eV _ _) 0) rfl dd ?_);(repeat (first|simp only [↓QA,QB,Nat.reduceLT,reduceIte,Nat.reduceEqDiff,Nat.reduceAdd,Nat.reduceLeDiff,Nat.reduceMul,Nat.reduceBEq,bC,x4,kS]|refine rd0 rfl ?_)))
 ((first|refine aD (wI exK (eV _ _)) rfl dd ?_|refine aE (wI exK (eV _ _)) rfl dd ?_);(repeat (first|simp only [↓QA,QB,Nat.reduceLT,reduceIte,Nat.reduceEqDiff,Nat.reduceAdd,Nat.reduceLeDiff,Nat.reduceMul,Nat.reduceBEq,bC,x5,jH]|refine rd0 rfl ?_)))
 ((first|refine aD (kV exK (eV _ _)) rfl dd ?_|refine aE (kV exK (eV _ _)) rfl dd ?_);(repeat (first|simp only [↓QA,QB,Nat.reduceLT,reduceIte,Nat.reduceEqDiff,Nat.reduceAdd,Nat.reduceLeDiff,Nat.reduceMul,Nat.reduceBEq,bC,x6,qD]|refine rd0 rfl ?_)))
 ((first|refine aD (kV exH (eV _ _)) rfl dd ?_|refine aE (kV exH (eV _ _)) rfl dd ?_);(repeat (first|simp only [↓QA,QB,Nat.reduceLT,reduceIte,Nat.reduceEqDiff,Nat.reduceAdd,Nat.reduceLeDiff,Nat.reduceMul,Nat.reduceBEq,bC,x7,qD]|refine rd0 rfl ?_)))
 ((first|refine aD (xH exK (eV _ _)) rfl dd ?_|refine aE (xH exK (eV _ _)) rfl dd ?_);(repeat (first|simp only [↓QA,QB,Nat.reduceLT,reduceIte,Nat.reduceEqDiff,Nat.reduceAdd,Nat.reduceLeDiff,Nat.reduceMul,Nat.reduceBEq,bC,x8,mZ]|refine rd0 rfl ?_)))
 ((first|refine aD (v7 exH (eV _ _)) rfl dd ?_|refine aE (v7 exH (eV _ _)) rfl dd ?_);(repeat (first|simp only [↓QA,QB,Nat.reduceLT,reduceIte,Nat.reduceEqDiff,Nat.reduceAdd,Nat.reduceLeDiff,Nat.reduceMul,Nat.reduceBEq,bC,x9,jH]|refine rd0 rfl ?_)))
 ((first|refine aD (tX exH (eV _ _)) rfl dd ?_|refine aE (tX exH (eV _ _)) rfl dd ?_);(repeat (first|simp only [↓QA,QB,Nat.reduceLT,reduceIte,Nat.reduceEqDiff,Nat.reduceAdd,Nat.reduceLeDiff,Nat.reduceMul,Nat.reduceBEq,bC,x10,oN]|refine rd0 rfl ?_)))
 ((first|refine aD (uO exS (eV _ _)) rfl dd ?_|refine aE (uO exS (eV _ _)) rfl dd ?_);(repeat (first|simp only [↓QA,QB,Nat.reduceLT,reduceIte,Nat.reduceEqDiff,Nat.reduceAdd,Nat.reduceLeDiff,Nat.reduceMul,Nat.reduceBEq,bC,x11,u7]|refine rd0 rfl ?_)))
 ((first|refine aD (kV exS (eV _ _)) rfl dd ?_|refine aE (kV exS (eV _ _)) rfl dd ?_);(repeat (first|simp only [↓QA,QB,Nat.reduceLT,reduceIte,Nat.reduceEqDiff,Nat.reduceAdd,Nat.reduceLeDiff,Nat.reduceMul,Nat.reduceBEq,bC,x12,qD]|refine rd0 rfl ?_)))
 refine fH (n8 [[3,2],[3,1,0]] (by simp)) (by simp [clr,clrs,ints,aJ]) (by simp [okV,okVs,ints,aJ]) ?_
 (repeat (first|simp only [↓QA,QB,Nat.reduceLT,reduceIte,Nat.reduceEqDiff,Nat.reduceAdd,Nat.reduceLeDiff,Nat.reduceMul,Nat.reduceBEq,bC]|refine rd0 rfl ?_))
 ((first|refine aD (mT 14 16) rfl dd ?_|refine aE (mT 14 16) rfl dd ?_);(repeat (first|simp only [↓QA,QB,Nat.reduceLT,reduceIte,Nat.reduceEqDiff,Nat.reduceAdd,Nat.reduceLeDiff,Nat.reduceMul,Nat.reduceBEq,bC,List.map_nil,List.length_nil,show (((0:Nat):Int)==0)=true from rfl]|refine rd0 rfl ?_)))
 ((first|refine eT (eZ [0,1] [0,1] (by simp) (by simp)) (by simp [clr,clrs,ints]) (by simp [okV,okVs]) ?_|refine fH (eZ [0,1] [0,1] (by simp) (by simp)) (by simp [clr,clrs,ints]) (by simp [okV,okVs]) ?_);(repeat (first|simp only [↓QA,QB,Nat.reduceLT,reduceIte,Nat.reduceEqDiff,Nat.reduceAdd,Nat.reduceLeDiff,Nat.reduceMul,Nat.reduceBEq,bC,eq_self,List.map_nil,List.length_nil,show (((0:Nat):Int)==0)=true from rfl]|refine rd0 rfl ?_)))
 refine fH (n8 [[2],[3,2]] (by simp)) (by simp [clr,clrs,ints,aJ]) (by simp [okV,okVs,ints,aJ]) ?_
 (repeat (first|simp only [↓QA,QB,Nat.reduceLT,reduceIte,Nat.reduceEqDiff,Nat.reduceAdd,Nat.reduceLeDiff,Nat.reduceMul,Nat.reduceBEq,bC]|refine rd0 rfl ?_))
 ((first|refine eT (eZ [0,1] [0,1] (by simp) (by simp)) (by simp [clr,clrs,ints]) (by simp [okV,okVs]) ?_|refine fH (eZ [0,1] [0,1] (by simp) (by simp)) (by simp [clr,clrs,ints]) (by simp [okV,okVs]) ?_);(repeat (first|simp only [↓QA,QB,Nat.reduceLT,reduceIte,Nat.reduceEqDiff,Nat.reduceAdd,Nat.reduceLeDiff,Nat.reduceMul,Nat.reduceBEq,bC,eq_self,List.map_nil,List.length_nil,show (((0:Nat):Int)==0)=true from rfl]|refine rd0 rfl ?_)))
 ((first|refine eT (eZ [2] [2] (by simp) (by simp)) (by simp [clr,clrs,ints]) (by simp [okV,okVs]) ?_|refine fH (eZ [2] [2] (by simp) (by simp)) (by simp [clr,clrs,ints]) (by simp [okV,okVs]) ?_);(repeat (first|simp only [↓QA,QB,Nat.reduceLT,reduceIte,Nat.reduceEqDiff,Nat.reduceAdd,Nat.reduceLeDiff,Nat.reduceMul,Nat.reduceBEq,bC,eq_self]|refine rd0 rfl ?_)))
 ((first|refine eT (eZ [1] [1] (by simp) (by simp)) (by simp [clr,clrs,ints]) (by simp [okV,okVs]) ?_|refine fH (eZ [1] [1] (by simp) (by simp)) (by simp [clr,clrs,ints]) (by simp [okV,okVs]) ?_);(repeat (first|simp only [↓QA,QB,Nat.reduceLT,reduceIte,Nat.reduceEqDiff,Nat.reduceAdd,Nat.reduceLeDiff,Nat.reduceMul,Nat.reduceBEq,bC,eq_self]|refine rd0 rfl ?_)))
end Go.Am.Room
