/- A part of the proof of TramMoves: an abstract machine, or what functions come to on it. -/
import Derived.Test.YtnjlkiflililkaaCmqQ7
set_option linter.unusedVariables false
set_option linter.unusedSimpArgs false
set_option linter.defProp false
set_option maxRecDepth 4000
namespace Go.Am.Room
def bW:=And.intro @bK (And.intro @aK (And.intro @aZ (And.intro @aX (And.intro @aY (And.intro @aT (And.intro @bI (And.intro @bF (And.intro @bE (And.intro @dP (And.intro @dA (@Nat.not_lt_zero)))))))))))
def zV (v:Net) (but l:List Int) (k:Int):List (List Int):=((aR k ((v.rails.length:Int)-k).toNat).filter (sR v but l)).map fun r=>l++[r]
theorem aAM (v:Net) (but l:List Int):zV v but l 0=sK v but l:=by simp [zV,sK]
theorem MY {v:Net} {k:Nat} (h:k<v.rails.length) (but l:List Int):zV v but l k=(if sR v but l (k:Int)=true then [l++[(k:Int)]] else [])++zV v but l ((k+1:Nat):Int):=by
 have:=lN (a:=(k:Int)) (below:=v.rails.length) (by omega)
 rw [zV,this,List.filter_cons,show (k:Int)+1=((k+1:Nat):Int) by omega]
 split<;>rfl
theorem PZ (v:Net) (but l:List Int):zV v but l (v.rails.length:Int)=[]:=by
 rw [zV,jY (by omega)];rfl
theorem CT (v:Net) (hv:Vd v) (s:Int) (but:List Int) (hbu:but.length<9223372036854775808):dL T 51 [bM v,.int .i64 s,ints but] (aJ (dQ v s but)):=by
 refine aU (af:=a51) rfl (by simp [a51]) dd ?_
 have hnr:=hv.nra
 obtain ⟨Z,hZ⟩:∃ Z,dQ v s but=Z:=⟨_,rfl⟩
 have hZ':fD v s but 4=Z:=hZ
 rw [hZ]
 (repeat (first|simp only [↓QA,QB,Nat.reduceLT,reduceIte,Nat.reduceEqDiff,Nat.reduceAdd,Nat.reduceLeDiff,Nat.reduceMul,Nat.reduceBEq,bW,a51]|refine rd0 rfl ?_))
 refine hH 7 1 [] rfl ?_
 refine bT (S:=Nat×Bool) (0,false) (fun a=>a.1≤4) (fun a=>4-a.1)
  (fun a=>[(1,.int .i64 s),(2,ints but),(3,.ptr 0 0),(7,.lit ((fD v s but a.1).map ints) false (some 1)),(8,aJ (gD v but a.1)),(9,.int .i64 ((a.1+1:Nat):Int))])
  (fun a=>[.cells (aB v),.tok 1 (fD v s but a.1).length a.2]) (Nat.zero_le _) (by simp [aB,ints,fD]) ?_ fun a hk=>?_
 ·try simp only [aC,QE,Nat.reduceLT,reduceIte,Nat.reduceEqDiff,Nat.reduceAdd,Nat.reduceLeDiff,Nat.reduceMul,Nat.reduceBEq,bW]
  simp [aJ,ints,gD,fD,clr,clrs]
 ·obtain ⟨k,ex⟩:=a
  simp only at hk
  (repeat (first|simp only [↓QA,QB,Nat.reduceLT,reduceIte,Nat.reduceEqDiff,Nat.reduceAdd,Nat.reduceLeDiff,Nat.reduceMul,Nat.reduceBEq,bW,ZW,aJ]|refine rd0 rfl ?_))
  refine aG (fun h=>?_) fun h=>?_
  ·have hk1:k<4:=by
    have h0:((k+1:Nat):Int)≤4:=by simpa using h
    omega
   have hwn:IntKind.i64.wrap (((k+1:Nat):Int)+1)=((k+1+1:Nat):Int):=bP (show k+1<6 by omega) (by omega)
   have c1:=vQ (v:=v) (by omega) s but (show k≤4 by omega)
   have c2:=vQ (v:=v) (by omega) s but (show k+1≤4 by omega)
   have c3:=k7 v but (by omega) (k+1)
   have c6:=k7 v but (by omega) k
   have p6:5^k≤5^4:=Nat.pow_le_pow_right (by omega) (by omega)
   have c4:=uU v but k
   have c5:=xG v but k
   have p5:5^(k+1)≤5^4:=Nat.pow_le_pow_right (by omega) (by omega)
   have p5':(5:Nat)^4=625:=rfl
   obtain ⟨W,hW⟩:∃ W,gD v but k=W:=⟨_,rfl⟩
   obtain ⟨X,hX⟩:∃ X,gD v but (k+1)=X:=⟨_,rfl⟩
   obtain ⟨O,hO⟩:∃ O,fD v s but k=O:=⟨_,rfl⟩
   obtain ⟨Y,hY⟩:∃ Y,fD v s but (k+1)=Y:=⟨_,rfl⟩
   rw [hO] at c1
   rw [hY] at c2
   rw [hX] at c3
   rw [hW] at c4 c5 c6
   have hX':W.flatMap (sK v but)=X:=by rw [←hX,←hW];rfl
   have hY':O++(W.flatMap (sK v but)).filter (fP v s)=Y:=by rw [←hY,←hO,hX',←hX];rfl
   rw [hW,hO]
   (repeat (first|simp only [↓QA,QB,Nat.reduceLT,reduceIte,Nat.reduceEqDiff,Nat.reduceAdd,Nat.reduceLeDiff,Nat.reduceMul,Nat.reduceBEq,bW]|refine rd0 rfl ?_))
   refine hH 10 1 [] rfl ?_
   refine bT (S:=Nat×List (List Int)×List (List Int)×Bool×Bool) (0,O,[],ex,false) (fun a=>a.1≤W.length∧a.2.2.1++(W.drop a.1).flatMap (sK v but)=X∧a.2.1++((W.drop a.1).flatMap (sK v but)).filter (fP v s)=Y) (fun a=>W.length-a.1)
    (fun a=>[(1,.int .i64 s),(2,ints but),(3,.ptr 0 0),(7,.lit (a.2.1.map ints) false (some 1)),(8,aJ W),(9,.int .i64 ((k+1:Nat):Int)),(10,.lit (a.2.2.1.map ints) false (some 2)),(11,.int .i64 a.1)])
    (fun a=>[.cells (aB v),.tok 1 a.2.1.length a.2.2.2.1,.tok 1 a.2.2.1.length a.2.2.2.2]) ⟨Nat.zero_le _,by simpa using hX',by simpa using hY'⟩ (by simp [aB,ints]) ?_ fun a ha=>?_
   ·try simp only [aC,QE,Nat.reduceLT,reduceIte,Nat.reduceEqDiff,Nat.reduceAdd,Nat.reduceLeDiff,Nat.reduceMul,Nat.reduceBEq,bW,aJ,ints]
    try simp
   ·obtain ⟨i,O,A,ex,ex2⟩:=a
    obtain ⟨hi,hA,hB⟩:=ha
    simp only at hi hA hB
    (repeat (first|simp only [↓QA,QB,Nat.reduceLT,reduceIte,Nat.reduceEqDiff,Nat.reduceAdd,Nat.reduceLeDiff,Nat.reduceMul,Nat.reduceBEq,bW,XH,aJ]|refine rd0 rfl ?_))
    refine aG (fun h2=>?_) fun h2=>?_
    ·have hi1:i<W.length:=by simpa using h2
     have hwi:=bP hi1 (by omega)
     obtain ⟨l,hl⟩:∃ l,W[i]=l:=⟨_,rfl⟩
     have hll:=c4 _ (List.getElem_mem hi1)
     have hlr:=c5 _ (List.getElem_mem hi1)
     rw [hl] at hll hlr
     rw [List.drop_eq_getElem_cons hi1,hl,List.flatMap_cons,←aAM] at hA hB
     rw [List.filter_append] at hB
     obtain ⟨F,hF⟩:∃ F,(W.drop (i+1)).flatMap (sK v but)=F:=⟨_,rfl⟩
     rw [hF] at hA hB
     (repeat (first|simp only [↓QA,QB,Nat.reduceLT,reduceIte,Nat.reduceEqDiff,Nat.reduceAdd,Nat.reduceLeDiff,Nat.reduceMul,Nat.reduceBEq,bW]|refine rd0 rfl ?_))
     refine bT (S:=Nat×List (List Int)×List (List Int)×Bool×Bool×St) (0,O,A,ex,ex2,[]) (fun a=>a.1≤v.rails.length∧a.2.2.1++(zV v but l a.1++F)=X∧a.2.1++((zV v but l a.1).filter (fP v s)++F.filter (fP v s))=Y) (fun a=>v.rails.length-a.1)
      (fun a=>[(1,.int .i64 s),(2,ints but),(3,.ptr 0 0),(7,.lit (a.2.1.map ints) false (some 1)),(8,aJ W),(9,.int .i64 ((k+1:Nat):Int)),(10,.lit (a.2.2.1.map ints) false (some 2)),(11,.int .i64 i),(12,.int .i64 a.1)])
      (fun a=>.cells (aB v)::.tok 1 a.2.1.length a.2.2.2.1::.tok 1 a.2.2.1.length a.2.2.2.2.1::a.2.2.2.2.2) ⟨Nat.zero_le _,hA,hB⟩ (by simp [aB]) ?_ fun a ha=>?_
     ·try simp only [aC,QE,Nat.reduceLT,reduceIte,Nat.reduceEqDiff,Nat.reduceAdd,Nat.reduceLeDiff,Nat.reduceMul,Nat.reduceBEq,bW,aJ,ints]
      try simp
     ·obtain ⟨r,O,A,ex,ex2,τ⟩:=a
      obtain ⟨hr,hA,hB⟩:=ha
      simp only at hr hA hB
      (repeat (first|simp only [↓QA,QB,Nat.reduceLT,reduceIte,Nat.reduceEqDiff,Nat.reduceAdd,Nat.reduceLeDiff,Nat.reduceMul,Nat.reduceBEq,bW,ZY,aJ]|refine rd0 rfl ?_))
      refine aG (fun h3=>?_) fun h3=>?_
      ·have hr1:r<v.rails.length:=by simpa using h3
       have hwr:=bP hr1 (by omega)
       rw [MY hr1] at hA hB
       have hrk:sR v but l (r:Int)=(!decide (v.rails[r].shut=1)&&!but.contains (r:Int)&&!l.contains (r:Int)):=by rw [sR,wL hr1]
       obtain ⟨z,hz⟩:∃ z,v.rails[r]=z:=⟨_,rfl⟩
       rw [hz] at hrk
       obtain ⟨G,hG⟩:∃ G,zV v but l ((r+1:Nat):Int)=G:=⟨_,rfl⟩
       have no:sR v but l (r:Int)=false→A++(zV v but l ((r+1:Nat):Int)++F)=X∧O++((zV v but l ((r+1:Nat):Int)).filter (fP v s)++F.filter (fP v s))=Y:=fun q=>by
        rw [q] at hA hB
        exact ⟨by simpa using hA,by simpa using hB⟩
       have hzs:(z.shut==1)=decide (z.shut=1):=by rw [Bool.eq_iff_iff];simp
       rw [←hzs] at hrk
       (repeat (first|simp only [↓QA,QB,Nat.reduceLT,reduceIte,Nat.reduceEqDiff,Nat.reduceAdd,Nat.reduceLeDiff,Nat.reduceMul,Nat.reduceBEq,bW,hr1,hz]|refine rd0 rfl ?_))
       cases q0:(z.shut==1)
       ·(repeat (first|simp only [↓QA,QB,Nat.reduceLT,reduceIte,Nat.reduceEqDiff,Nat.reduceAdd,Nat.reduceLeDiff,Nat.reduceMul,Nat.reduceBEq,bW,q0]|refine rd0 rfl ?_))
        ((first|refine aD (sO but (r:Int) hbu) rfl dd ?_|refine aE (sO but (r:Int) hbu) rfl dd ?_);(repeat (first|simp only [↓QA,QB,Nat.reduceLT,reduceIte,Nat.reduceEqDiff,Nat.reduceAdd,Nat.reduceLeDiff,Nat.reduceMul,Nat.reduceBEq,bW,hi1,hl,aJ]|refine rd0 rfl ?_)))
        cases q1:but.contains (r:Int)
        ·(repeat (first|simp only [↓QA,QB,Nat.reduceLT,reduceIte,Nat.reduceEqDiff,Nat.reduceAdd,Nat.reduceLeDiff,Nat.reduceMul,Nat.reduceBEq,bW,hi1,hl,aJ]|refine rd0 rfl ?_))
         ((first|refine aD (sO l (r:Int) (by omega)) rfl dd ?_|refine aE (sO l (r:Int) (by omega)) rfl dd ?_);(repeat (first|simp only [↓QA,QB,Nat.reduceLT,reduceIte,Nat.reduceEqDiff,Nat.reduceAdd,Nat.reduceLeDiff,Nat.reduceMul,Nat.reduceBEq,bW,hi1,hl,aJ]|refine rd0 rfl ?_)))
         cases q2:l.contains (r:Int)
         ·rw [q0,q1,q2] at hrk
          rw [hrk] at hA hB
          simp only [Bool.not_false,Bool.and_self,if_true,List.singleton_append,List.cons_append,List.filter_cons] at hA hB
          have hal:A.length≤700:=by
           have:=congrArg List.length hA
           simp only [List.length_append] at this
           omega
          have hol:O.length≤1000:=by
           have:=congrArg List.length hB
           simp only [List.length_append] at this
           omega
          have a0:∀ (σ:St),cO 1 8 σ (.lit [] true none) (.lit (l.map (.int .i64)) false none)=some ((n5 1 σ (l.map (.int .i64))).1,(n5 1 σ (l.map (.int .i64))).2):=fun σ=>zZ ⟨rfl,gK l,by simp [room];omega,by simp [room];omega⟩
          have a1:∀ (σ:St),cO 1 8 (n5 1 σ (l.map (.int .i64))).2 (n5 1 σ (l.map (.int .i64))).1 (.lit [.int .i64 r] true none)=some (.lit (l.map (.int .i64)++[.int .i64 r]) false (some σ.length),σ++[.tok 1 (l.length+1) true]):=fun σ=>by
           rw [uS ⟨gK l,by simp [aL,AV.cells,AV.cell],by simp [room];omega,by simp [room];omega⟩ (by simp)]
           simp
          have a2:=fun (b0 b1:ABlk) (τ:St) (t:Nat)=>iJ (σ:=b0::b1::.tok 1 A.length ex2::τ) (t:=2) (ex:=ex2) (sz:=1) (b:=24) (xs:=A.map ints) (ys:=[.lit (l.map (.int .i64)++[.int .i64 r]) false (some t)]) (f:=true) (tk:=none) ⟨fR A,by simp [aL,AV.cells,AV.cell],by simp [room];omega,by simp [room];omega⟩ (by simp) A.length (by simp) rfl
          have a3:=fun (b0:ABlk) (τ:St) (t:Nat)=>iJ (σ:=b0::.tok 1 O.length ex::τ) (t:=1) (ex:=ex) (sz:=1) (b:=24) (xs:=O.map ints) (ys:=[.lit (l.map (.int .i64)++[.int .i64 r]) false (some t)]) (f:=true) (tk:=none) ⟨fR O,by simp [aL,AV.cells,AV.cell],by simp [room];omega,by simp [room];omega⟩ (by simp) O.length (by simp) rfl
          have hld:=xT v s (l++[(r:Int)]) (fun x hx=>by
           rcases List.mem_append.1 hx with hx|hx
           ·exact hlr x hx
           ·simp only [List.mem_singleton] at hx;subst hx;omega) (by simp;omega)
          have hml:(l++[(r:Int)]).map (AV.int .i64)=l.map (.int .i64)++[.int .i64 r]:=by simp
          simp only [ints,hml] at hld
          (repeat (first|simp only [↓QA,QB,Nat.reduceLT,reduceIte,Nat.reduceEqDiff,Nat.reduceAdd,Nat.reduceLeDiff,Nat.reduceMul,Nat.reduceBEq,bW,hi1,hl,ints,a0,a1,a2]|refine rd0 rfl ?_))
          ((first|refine uI (hld) (by try simp only [QS,QC,Nat.reduceLT,reduceIte,Nat.reduceEqDiff,Nat.reduceAdd,Nat.reduceLeDiff,Nat.reduceMul,Nat.reduceBEq,bW]) trivial ?_|refine wU (hld) (by try simp only [QS,QC,Nat.reduceLT,reduceIte,Nat.reduceEqDiff,Nat.reduceAdd,Nat.reduceLeDiff,Nat.reduceMul,Nat.reduceBEq,bW]) trivial ?_);(repeat (first|simp only [↓QA,QB,Nat.reduceLT,reduceIte,Nat.reduceEqDiff,Nat.reduceAdd,Nat.reduceLeDiff,Nat.reduceMul,Nat.reduceBEq,bW,a3]|refine rd0 rfl ?_)))
          cases q3:fP v s (l++[(r:Int)])
          ·rw [q3] at hB
           (repeat (first|simp only [↓QA,QB,Nat.reduceLT,reduceIte,Nat.reduceEqDiff,Nat.reduceAdd,Nat.reduceLeDiff,Nat.reduceMul,Nat.reduceBEq,bW,hwr]|refine rd0 rfl ?_))
           refine ⟨(r+1,O,A++[l++[(r:Int)]],ex,true,τ),⟨by simp only;omega,by rw [←hA];simp,by simpa using hB⟩,by simp only;omega,?_⟩
           try simp only [aC,QE,Nat.reduceLT,reduceIte,Nat.reduceEqDiff,Nat.reduceAdd,Nat.reduceLeDiff,Nat.reduceMul,Nat.reduceBEq,bW,hwr,aJ,ints,List.map_append,List.map_cons,List.map_nil]
           try simp [aH]
          ·rw [q3] at hB
           (repeat (first|simp only [↓QA,QB,Nat.reduceLT,reduceIte,Nat.reduceEqDiff,Nat.reduceAdd,Nat.reduceLeDiff,Nat.reduceMul,Nat.reduceBEq,bW,hwr,a3]|refine rd0 rfl ?_))
           refine ⟨(r+1,O++[l++[(r:Int)]],A++[l++[(r:Int)]],true,true,τ),⟨by simp only;omega,by rw [←hA];simp,by rw [←hB];simp⟩,by simp only;omega,?_⟩
           try simp only [aC,QE,Nat.reduceLT,reduceIte,Nat.reduceEqDiff,Nat.reduceAdd,Nat.reduceLeDiff,Nat.reduceMul,Nat.reduceBEq,bW,hwr,aJ,ints,List.map_append,List.map_cons,List.map_nil]
           try simp [aH]
         ·have nn:=no (by rw [hrk,q2];simp)
          (repeat (first|simp only [↓QA,QB,Nat.reduceLT,reduceIte,Nat.reduceEqDiff,Nat.reduceAdd,Nat.reduceLeDiff,Nat.reduceMul,Nat.reduceBEq,bW,hwr]|refine rd0 rfl ?_))
          refine ⟨(r+1,O,A,ex,ex2,τ),⟨by simp only;omega,nn⟩,by simp only;omega,?_⟩
          try simp only [aC,QE,Nat.reduceLT,reduceIte,Nat.reduceEqDiff,Nat.reduceAdd,Nat.reduceLeDiff,Nat.reduceMul,Nat.reduceBEq,bW,hwr,aJ,ints]
          try simp [aH]
        ·have nn:=no (by rw [hrk,q1];simp)
         (repeat (first|simp only [↓QA,QB,Nat.reduceLT,reduceIte,Nat.reduceEqDiff,Nat.reduceAdd,Nat.reduceLeDiff,Nat.reduceMul,Nat.reduceBEq,bW,hwr]|refine rd0 rfl ?_))
         refine ⟨(r+1,O,A,ex,ex2,τ),⟨by simp only;omega,nn⟩,by simp only;omega,?_⟩
         try simp only [aC,QE,Nat.reduceLT,reduceIte,Nat.reduceEqDiff,Nat.reduceAdd,Nat.reduceLeDiff,Nat.reduceMul,Nat.reduceBEq,bW,hwr,aJ,ints]
         try simp [aH]
       ·have nn:=no (by rw [hrk,q0];simp)
        (repeat (first|simp only [↓QA,QB,Nat.reduceLT,reduceIte,Nat.reduceEqDiff,Nat.reduceAdd,Nat.reduceLeDiff,Nat.reduceMul,Nat.reduceBEq,bW,q0,hwr]|refine rd0 rfl ?_))
        refine ⟨(r+1,O,A,ex,ex2,τ),⟨by simp only;omega,nn⟩,by simp only;omega,?_⟩
        try simp only [aC,QE,Nat.reduceLT,reduceIte,Nat.reduceEqDiff,Nat.reduceAdd,Nat.reduceLeDiff,Nat.reduceMul,Nat.reduceBEq,bW,hwr,aJ,ints]
        try simp [aH]
      ·have hr1:r=v.rails.length:=by simp at h3;omega
       rw [hr1,PZ] at hA hB
       simp only [List.nil_append,List.filter_nil] at hA hB
       (repeat (first|simp only [↓QA,QB,Nat.reduceLT,reduceIte,Nat.reduceEqDiff,Nat.reduceAdd,Nat.reduceLeDiff,Nat.reduceMul,Nat.reduceBEq,bW,hwi]|refine rd0 rfl ?_))
       refine ⟨(i+1,O,A,ex,ex2),⟨by simp only;omega,by rw [hF];exact hA,by rw [hF];exact hB⟩,by simp only;omega,?_⟩
       try simp only [aC,QE,Nat.reduceLT,reduceIte,Nat.reduceEqDiff,Nat.reduceAdd,Nat.reduceLeDiff,Nat.reduceMul,Nat.reduceBEq,bW,hwi,aJ,ints]
       try simp [aH]
    ·have hi1:i=W.length:=by simp at h2;omega
     rw [hi1,List.drop_length] at hA hB
     simp only [List.flatMap_nil,List.append_nil,List.filter_nil] at hA hB
     subst hA hB
     (repeat (first|simp only [↓QA,QB,Nat.reduceLT,reduceIte,Nat.reduceEqDiff,Nat.reduceAdd,Nat.reduceLeDiff,Nat.reduceMul,Nat.reduceBEq,bW,hwn]|refine rd0 rfl ?_))
     refine ⟨(k+1,ex),by simp only;omega,by simp only;omega,?_⟩
     try simp only [aC,QE,Nat.reduceLT,reduceIte,Nat.reduceEqDiff,Nat.reduceAdd,Nat.reduceLeDiff,Nat.reduceMul,Nat.reduceBEq,bW,hwn,hX,hY,aJ,ints]
     try simp [aH]
  ·have hk1:k=4:=by
    have h0:¬((k+1:Nat):Int)≤4:=by simpa using h
    omega
   subst hk1
   rw [hZ']
   (repeat (first|simp only [↓QA,QB,Nat.reduceLT,reduceIte,Nat.reduceEqDiff,Nat.reduceAdd,Nat.reduceLeDiff,Nat.reduceMul,Nat.reduceBEq,bW,aJ]|refine rd0 rfl ?_))
   try try simp only [QS,QC,Nat.reduceLT,reduceIte,Nat.reduceEqDiff,Nat.reduceAdd,Nat.reduceLeDiff,Nat.reduceMul,Nat.reduceBEq,bW]
theorem K8 (v:Net) (s:Int):clrs [bM v,.int .i64 s,.lit [] true none]=[bM v,.int .i64 s,ints []]:=by simp [clrs,(o4 v).2,clr,ints]
theorem CH (v:Net) (s:Int):okVs 0 [bM v,.int .i64 s,.lit [] true none]:=⟨(o4 v).1,by simp [okV,okVs],by simp [okV,okVs],trivial⟩
end Go.Am.Room
set_option maxRecDepth 4000
namespace Go.Am.Room
def dN:=And.intro @bK (And.intro @aK (And.intro @aZ (And.intro @aX (And.intro @aY (And.intro @aT (And.intro @bI (And.intro @bF (And.intro @bE (And.intro @dP (And.intro @dA (@Nat.not_lt_zero)))))))))))
def eD (s:State):AV:=.agg [.lit (s.closed.map .bool) false none,ints s.mins]
theorem aN (s:State):eD s = .agg [.lit (s.closed.map .bool) false none,ints s.mins]:=by simp only [eD]
theorem rA (s:State):lX (eD s):=jQ (bQ (jE uG s.closed) (bQ (j8 _) fC))
instance (s:State):Dat (eD s):=⟨rA s⟩
instance (l:List State):Dats (l.map eD):=⟨cV rA l⟩
theorem bA (σ:St) (m d:Nat) (l:List State):dG σ m d (l.map eD)=some (l.map eD):=jX (cV rA l) σ m d
def dZ (l:List State):AV:=.lit (l.map eD) false none
theorem cA (l:List State):dZ l = .lit (l.map eD) false none:=by simp only [dZ]
theorem rQ (σ:St) (m d:Nat) (l:List Bool):dG σ m d (l.map .bool)=some (l.map .bool):=jX (cV uG l) σ m d
theorem uX (l:List Bool):aL 1 (l.map .bool)=true:=rJ 1 _ l fun x=>SN _
theorem sA (l:List State):aL 2 (l.map eD)=true:=rJ 2 eD l fun x=>by simp [cR,eD,AV.cells,AV.cell,ints]
def QF (r:Rail) (s:State) (m:Int):List State:=([false,true].filter (uW r.shut)).map fun c=>⟨s.closed++[c],s.mins++[m]⟩
theorem L4 (r:Rail) (s:State):zW r s=(aR r.mins.lo (r.mins.hi+1-r.mins.lo).toNat).flatMap (QF r s):=rfl
def RB:Nat→List Bool
 |0=>[false,true]
 |1=>[true]
 |_=>[]
def KP (r:Rail) (s:State) (m:Int) (c:Nat):List State:=((RB c).filter (uW r.shut)).map fun c=>⟨s.closed++[c],s.mins++[m]⟩
theorem JH {c:Nat} (h:c<2) {b:Bool} (hb:((c:Int)==1)=b):RB c=b::RB (c+1):=by
 have:c=0∨c=1:=by omega
 rcases this with rfl|rfl
 ·have:b=false:=by rw [←hb];rfl
  subst this;rfl
 ·have:b=true:=by rw [←hb];rfl
  subst this;rfl
theorem xU {rs:List Rail} {k:Nat} (h:k<rs.length):nW rs (k+1)=(nW rs k).flatMap (zW rs[k]):=by
 simp only [nW,List.getElem?_eq_getElem h]
theorem CW {rs:List Rail} (hr:∀ r∈rs,r.mins.hi≤r.mins.lo+1):∀ k,(nW rs k).length≤4^k
 |0=>by simp [nW]
 |k+1=>by
  have ih:=CW hr k
  by_cases h:k<rs.length
  ·rw [xU h,Nat.pow_succ]
   refine Nat.le_trans (uL (zW rs[k]) 4 _ fun s _=>?_) (Nat.mul_le_mul_right 4 ih)
   rw [L4]
   have hm:=hr _ (List.getElem_mem h)
   refine Nat.le_trans (uL (QF rs[k] s) 2 _ fun m _=>?_) ?_
   ·have:=List.length_filter_le (uW rs[k].shut) [false,true]
    simpa [QF] using this
   ·rw [iV]
    omega
  ·simp only [nW,List.getElem?_eq_none (Nat.le_of_not_lt h)]
   exact Nat.le_trans ih (Nat.pow_le_pow_right (by omega) (by omega))
theorem KM (v:Net) (hv:Vd v):dL T 95 [bM v] (dZ (kK v)):=by
 refine aU (af:=a95) rfl (by simp [a95]) dd ?_
 have hnr:=hv.nra
 rw [show kK v=nW v.rails v.rails.length from rfl]
 (repeat (first|simp only [↓QA,QB,Nat.reduceLT,reduceIte,Nat.reduceEqDiff,Nat.reduceAdd,Nat.reduceLeDiff,Nat.reduceMul,Nat.reduceBEq,dN,aN,bA,a95]|refine rd0 rfl ?_))
 refine bT (S:=Nat) 0 (fun n=>n≤v.rails.length) (fun n=>v.rails.length-n) (fun n=>[(1,.ptr 0 0),(3,dZ (nW v.rails n)),(4,.int .i64 n)]) (fun _=>[.cells (aB v)]) (Nat.zero_le _) (by simp [aB,ints]) ?_ fun n hn=>?_
 ·try simp only [aC,QE,Nat.reduceLT,reduceIte,Nat.reduceEqDiff,Nat.reduceAdd,Nat.reduceLeDiff,Nat.reduceMul,Nat.reduceBEq,dN,aN,bA,cA]
  simp [nW,eD,ints,clr,clrs]
 ·(repeat (first|simp only [↓QA,QB,Nat.reduceLT,reduceIte,Nat.reduceEqDiff,Nat.reduceAdd,Nat.reduceLeDiff,Nat.reduceMul,Nat.reduceBEq,dN,aN,bA,XY,cA]|refine rd0 rfl ?_))
  refine aG (fun h=>?_) fun h=>?_
  ·have hn1:n<v.rails.length:=by simpa using h
   have hwn:IntKind.i64.wrap ((n:Int)+1)=((n+1:Nat):Int):=bP hn1 (by omega)
   have hwl:∀ j,j≤5→(nW v.rails j).length≤1024:=fun j hj=>Nat.le_trans (CW (fun r hr=>(hv.ra r hr).mins.2.2.2) j) (Nat.le_trans (Nat.pow_le_pow_right (by omega) hj) (by decide))
   have hsl:=hwl n (by omega)
   have hsl2:=hwl (n+1) (by omega)
   have hin:=vS (rs:=v.rails) n hn
   have hsu:=xU hn1
   have hra:=hv.ra _ (List.getElem_mem hn1)
   obtain ⟨r,hr⟩:∃ r,v.rails[n]=r:=⟨_,rfl⟩
   rw [hr] at hsu hra
   have hmi:=hra.mins
   rw [hsu] at hsl2
   obtain ⟨W,hW⟩:∃ W,nW v.rails n=W:=⟨_,rfl⟩
   rw [hW] at hsl hsl2 hsu hin
   rw [hW]
   obtain ⟨X,hX⟩:∃ X,W.flatMap (zW r)=X:=⟨_,rfl⟩
   rw [hX] at hsl2 hsu
   (repeat (first|simp only [↓QA,QB,Nat.reduceLT,reduceIte,Nat.reduceEqDiff,Nat.reduceAdd,Nat.reduceLeDiff,Nat.reduceMul,Nat.reduceBEq,dN,aN,bA,hn1,hr]|refine rd0 rfl ?_))
   refine hH 6 2 [] rfl ?_
   refine bT (S:=Nat×List State×Bool) (0,[],false) (fun a=>a.1≤W.length∧a.2.1++(W.drop a.1).flatMap (zW r)=X) (fun a=>W.length-a.1)
    (fun a=>[(1,.ptr 0 0),(3,dZ W),(4,.int .i64 n),(5,.ptr 1 0),(6,.lit (a.2.1.map eD) false (some 2)),(7,.int .i64 a.1)])
    (fun a=>[.cells (aB v),.cells [.int .i64 r.a,.int .i64 r.b,.int .i64 r.mins.lo,.int .i64 r.mins.hi,.int .i64 r.shut],.tok 2 a.2.1.length a.2.2]) ⟨Nat.zero_le _,by simpa using hX⟩ (by simp [aB,ints]) ?_ fun a ha=>?_
   ·try simp only [aC,QE,Nat.reduceLT,reduceIte,Nat.reduceEqDiff,Nat.reduceAdd,Nat.reduceLeDiff,Nat.reduceMul,Nat.reduceBEq,dN,aN,bA,cA]
    try simp
   ·obtain ⟨k,acc,ex⟩:=a
    obtain ⟨hk,hacc⟩:=ha
    simp only at hk hacc
    (repeat (first|simp only [↓QA,QB,Nat.reduceLT,reduceIte,Nat.reduceEqDiff,Nat.reduceAdd,Nat.reduceLeDiff,Nat.reduceMul,Nat.reduceBEq,dN,aN,bA,ZS,cA]|refine rd0 rfl ?_))
    refine aG (fun h2=>?_) fun h2=>?_
    ·have hk1:k<W.length:=by simpa using h2
     have hwk:=bP hk1 (by omega)
     obtain ⟨s,hs⟩:∃ s,W[k]=s:=⟨_,rfl⟩
     have hcl:=hin _ (List.getElem_mem hk1)
     rw [hs] at hcl
     obtain ⟨hl1,hl2,_⟩:=hcl
     rw [List.drop_eq_getElem_cons hk1,hs,List.flatMap_cons,L4] at hacc
     obtain ⟨F,hF⟩:∃ F,(W.drop (k+1)).flatMap (zW r)=F:=⟨_,rfl⟩
     rw [hF] at hacc
     (repeat (first|simp only [↓QA,QB,Nat.reduceLT,reduceIte,Nat.reduceEqDiff,Nat.reduceAdd,Nat.reduceLeDiff,Nat.reduceMul,Nat.reduceBEq,dN,aN,bA]|refine rd0 rfl ?_))
     refine bT (S:=Int×List State×Bool×St) (r.mins.lo,acc,ex,[]) (fun a=>r.mins.lo≤a.1∧a.1≤r.mins.hi+1∧a.2.1++((aR a.1 (r.mins.hi+1-a.1).toNat).flatMap (QF r s)++F)=X) (fun a=>(r.mins.hi+1-a.1).toNat)
      (fun a=>[(1,.ptr 0 0),(3,dZ W),(4,.int .i64 n),(5,.ptr 1 0),(6,.lit (a.2.1.map eD) false (some 2)),(7,.int .i64 k),(8,.int .i64 a.1)])
      (fun a=>.cells (aB v)::.cells [.int .i64 r.a,.int .i64 r.b,.int .i64 r.mins.lo,.int .i64 r.mins.hi,.int .i64 r.shut]::.tok 2 a.2.1.length a.2.2.1::a.2.2.2) ⟨Int.le_refl _,by simp only;omega,hacc⟩ (by simp [aB]) ?_ fun a ha=>?_
     ·try simp only [aC,QE,Nat.reduceLT,reduceIte,Nat.reduceEqDiff,Nat.reduceAdd,Nat.reduceLeDiff,Nat.reduceMul,Nat.reduceBEq,dN,aN,bA,cA]
      try simp
     ·obtain ⟨m,acc,ex,τ⟩:=a
      obtain ⟨hm0,hm1,hacc⟩:=ha
      simp only at hm0 hm1 hacc
      (repeat (first|simp only [↓QA,QB,Nat.reduceLT,reduceIte,Nat.reduceEqDiff,Nat.reduceAdd,Nat.reduceLeDiff,Nat.reduceMul,Nat.reduceBEq,dN,aN,bA,X5,cA]|refine rd0 rfl ?_))
      refine aG (fun h3=>?_) fun h3=>?_
      ·have hm2:m≤r.mins.hi:=by simpa using h3
       have hwm:IntKind.i64.wrap (m+1)=m+1:=eA ⟨by omega,by omega⟩
       rw [DC hm2,List.flatMap_cons,List.append_assoc] at hacc
       obtain ⟨G,hG⟩:∃ G,(aR (m+1) (r.mins.hi+1-(m+1)).toNat).flatMap (QF r s)++F=G:=⟨_,rfl⟩
       rw [hG] at hacc
       (repeat (first|simp only [↓QA,QB,Nat.reduceLT,reduceIte,Nat.reduceEqDiff,Nat.reduceAdd,Nat.reduceLeDiff,Nat.reduceMul,Nat.reduceBEq,dN,aN,bA]|refine rd0 rfl ?_))
       refine bT (S:=Nat×List State×Bool) (0,acc,ex) (fun a=>a.1≤2∧a.2.1++(KP r s m a.1++G)=X) (fun a=>2-a.1)
        (fun a=>[(1,.ptr 0 0),(3,dZ W),(4,.int .i64 n),(5,.ptr 1 0),(6,.lit (a.2.1.map eD) false (some 2)),(7,.int .i64 k),(8,.int .i64 m),(9,.int .i64 a.1)])
        (fun a=>.cells (aB v)::.cells [.int .i64 r.a,.int .i64 r.b,.int .i64 r.mins.lo,.int .i64 r.mins.hi,.int .i64 r.shut]::.tok 2 a.2.1.length a.2.2::τ) ⟨by simp,hacc⟩ (by simp [aB]) ?_ fun a ha=>?_
       ·try simp only [aC,QE,Nat.reduceLT,reduceIte,Nat.reduceEqDiff,Nat.reduceAdd,Nat.reduceLeDiff,Nat.reduceMul,Nat.reduceBEq,dN,aN,bA,cA]
        try simp
       ·obtain ⟨c,acc,ex⟩:=a
        obtain ⟨hc0,hacc⟩:=ha
        simp only at hc0 hacc
        (repeat (first|simp only [↓QA,QB,Nat.reduceLT,reduceIte,Nat.reduceEqDiff,Nat.reduceAdd,Nat.reduceLeDiff,Nat.reduceMul,Nat.reduceBEq,dN,aN,bA,X4,cA]|refine rd0 rfl ?_))
        refine aG (fun h4=>?_) fun h4=>?_
        ·have hc2:c<2:=by
          have h0:(c:Int)<2:=by simpa using h4
          omega
         have hwc:=bP hc2 (by omega)
         obtain ⟨b,hb⟩:∃ b,((c:Int)==1)=b:=⟨_,rfl⟩
         rw [KP,JH hc2 hb,List.filter_cons] at hacc
         have hcan:uW r.shut b = !(b&&(r.shut==0)||!b&&(r.shut==1)):=by
          have e0:(r.shut==0)=decide (r.shut=0):=by rw [Bool.eq_iff_iff];simp
          have e1:(r.shut==1)=decide (r.shut=1):=by rw [Bool.eq_iff_iff];simp
          rw [uW,e0,e1]
         have hal:acc.length≤1024:=by
          have:=congrArg List.length hacc
          simp only [List.length_append] at this
          omega
         have b0:∀ (σ:St),cO 1 1 σ (.lit [] true none) (.lit (s.closed.map .bool) false none)=some ((n5 1 σ (s.closed.map .bool)).1,(n5 1 σ (s.closed.map .bool)).2):=fun σ=>zZ ⟨rfl,uX _,by simp [room];omega,by simp [room];omega⟩
         have b1:∀ (σ:St),cO 1 1 (n5 1 σ (s.closed.map .bool)).2 (n5 1 σ (s.closed.map .bool)).1 (.lit [.bool b] true none)=some (.lit (s.closed.map .bool++[.bool b]) false (some σ.length),σ++[.tok 1 (s.closed.length+1) true]):=fun σ=>by
          rw [uS ⟨uX _,by simp [aL,AV.cells,AV.cell],by simp [room];omega,by simp [room];omega⟩ (by simp)]
          simp
         have a0:∀ (σ:St),cO 1 8 σ (.lit [] true none) (.lit (s.mins.map (.int .i64)) false none)=some ((n5 1 σ (s.mins.map (.int .i64))).1,(n5 1 σ (s.mins.map (.int .i64))).2):=fun σ=>zZ ⟨rfl,gK _,by simp [room];omega,by simp [room];omega⟩
         have a1:∀ (σ:St),cO 1 8 (n5 1 σ (s.mins.map (.int .i64))).2 (n5 1 σ (s.mins.map (.int .i64))).1 (.lit [.int .i64 m] true none)=some (.lit (s.mins.map (.int .i64)++[.int .i64 m]) false (some σ.length),σ++[.tok 1 (s.mins.length+1) true]):=fun σ=>by
          rw [uS ⟨gK _,by simp [aL,AV.cells,AV.cell],by simp [room];omega,by simp [room];omega⟩ (by simp)]
          simp
         have a2:=fun (b0 b1:ABlk) (τ:St) (t u:Nat)=>iJ (σ:=b0::b1::.tok 2 acc.length ex::τ) (t:=2) (ex:=ex) (sz:=2) (b:=48) (xs:=acc.map eD) (ys:=[.agg [.lit (s.closed.map .bool++[.bool b]) false (some t),.lit (s.mins.map (.int .i64)++[.int .i64 m]) false (some u)]]) (f:=true) (tk:=none) ⟨sA acc,by simp [aL,cR,AV.cells,AV.cell],by simp [room];omega,by simp [room];omega⟩ (by simp) acc.length (by simp) rfl
         have yes:uW r.shut b=true→(acc++[(⟨s.closed++[b],s.mins++[m]⟩:State)])++(KP r s m (c+1)++G)=X:=fun q=>by
          rw [q] at hacc
          rw [←hacc];simp [KP]
         have no:uW r.shut b=false→acc++(KP r s m (c+1)++G)=X:=fun q=>by
          rw [q] at hacc
          rw [←hacc];simp [KP]
         (repeat (first|simp only [↓QA,QB,Nat.reduceLT,reduceIte,Nat.reduceEqDiff,Nat.reduceAdd,Nat.reduceLeDiff,Nat.reduceMul,Nat.reduceBEq,dN,aN,bA,hb]|refine rd0 rfl ?_))
         cases b
         ·cases q1:(r.shut==1)
          ·have hy:=yes (by rw [hcan,q1];simp)
           (repeat (first|simp only [↓QA,QB,Nat.reduceLT,reduceIte,Nat.reduceEqDiff,Nat.reduceAdd,Nat.reduceLeDiff,Nat.reduceMul,Nat.reduceBEq,dN,aN,bA,q1]|refine rd0 rfl ?_))
           refine qB [.cells [.lit [] true none,.lit [] true none]] rfl ?_
           (repeat (first|simp only [↓QA,QB,Nat.reduceLT,reduceIte,Nat.reduceEqDiff,Nat.reduceAdd,Nat.reduceLeDiff,Nat.reduceMul,Nat.reduceBEq,dN,aN,bA,hk1,hs,ints,b0,b1,a0,a1,a2]|refine rd0 rfl ?_))
           refine ⟨(c+1,acc++[⟨s.closed++[false],s.mins++[m]⟩],true),⟨by simp only;omega,hy⟩,by simp only;omega,?_⟩
           try simp only [aC,QE,Nat.reduceLT,reduceIte,Nat.reduceEqDiff,Nat.reduceAdd,Nat.reduceLeDiff,Nat.reduceMul,Nat.reduceBEq,dN,aN,bA,hwc,cA,ints,rQ,List.map_append,List.map_cons,List.map_nil]
           try simp [aH]
          ·have hy:=no (by rw [hcan,q1];simp)
           (repeat (first|simp only [↓QA,QB,Nat.reduceLT,reduceIte,Nat.reduceEqDiff,Nat.reduceAdd,Nat.reduceLeDiff,Nat.reduceMul,Nat.reduceBEq,dN,aN,bA,q1]|refine rd0 rfl ?_))
           refine ⟨(c+1,acc,ex),⟨by simp only;omega,hy⟩,by simp only;omega,?_⟩
           try simp only [aC,QE,Nat.reduceLT,reduceIte,Nat.reduceEqDiff,Nat.reduceAdd,Nat.reduceLeDiff,Nat.reduceMul,Nat.reduceBEq,dN,aN,bA,hwc,cA,ints]
           try simp [aH]
         ·cases q1:(r.shut==0)
          ·have hy:=yes (by rw [hcan,q1];simp)
           (repeat (first|simp only [↓QA,QB,Nat.reduceLT,reduceIte,Nat.reduceEqDiff,Nat.reduceAdd,Nat.reduceLeDiff,Nat.reduceMul,Nat.reduceBEq,dN,aN,bA,q1]|refine rd0 rfl ?_))
           refine qB [.cells [.lit [] true none,.lit [] true none]] rfl ?_
           (repeat (first|simp only [↓QA,QB,Nat.reduceLT,reduceIte,Nat.reduceEqDiff,Nat.reduceAdd,Nat.reduceLeDiff,Nat.reduceMul,Nat.reduceBEq,dN,aN,bA,hk1,hs,ints,b0,b1,a0,a1,a2]|refine rd0 rfl ?_))
           refine ⟨(c+1,acc++[⟨s.closed++[true],s.mins++[m]⟩],true),⟨by simp only;omega,hy⟩,by simp only;omega,?_⟩
           try simp only [aC,QE,Nat.reduceLT,reduceIte,Nat.reduceEqDiff,Nat.reduceAdd,Nat.reduceLeDiff,Nat.reduceMul,Nat.reduceBEq,dN,aN,bA,hwc,cA,ints,rQ,List.map_append,List.map_cons,List.map_nil]
           try simp [aH]
          ·have hy:=no (by rw [hcan,q1];simp)
           (repeat (first|simp only [↓QA,QB,Nat.reduceLT,reduceIte,Nat.reduceEqDiff,Nat.reduceAdd,Nat.reduceLeDiff,Nat.reduceMul,Nat.reduceBEq,dN,aN,bA,q1]|refine rd0 rfl ?_))
           refine ⟨(c+1,acc,ex),⟨by simp only;omega,hy⟩,by simp only;omega,?_⟩
           try simp only [aC,QE,Nat.reduceLT,reduceIte,Nat.reduceEqDiff,Nat.reduceAdd,Nat.reduceLeDiff,Nat.reduceMul,Nat.reduceBEq,dN,aN,bA,hwc,cA,ints]
           try simp [aH]
        ·have hc2:c=2:=by
          have h0:¬(c:Int)<2:=by simpa using h4
          omega
         subst hc2
         have he:KP r s m 2=[]:=rfl
         rw [he,List.nil_append,←hG] at hacc
         (repeat (first|simp only [↓QA,QB,Nat.reduceLT,reduceIte,Nat.reduceEqDiff,Nat.reduceAdd,Nat.reduceLeDiff,Nat.reduceMul,Nat.reduceBEq,dN,aN,bA,hwm]|refine rd0 rfl ?_))
         refine ⟨(m+1,acc,ex,τ),⟨by simp only;omega,by simp only;omega,hacc⟩,by simp only;omega,?_⟩
         try simp only [aC,QE,Nat.reduceLT,reduceIte,Nat.reduceEqDiff,Nat.reduceAdd,Nat.reduceLeDiff,Nat.reduceMul,Nat.reduceBEq,dN,aN,bA,hwm,cA,ints]
         try simp [aH]
      ·have hm2:¬m≤r.mins.hi:=by simpa using h3
       rw [HD hm2] at hacc
       simp only [List.flatMap_nil,List.nil_append] at hacc
       (repeat (first|simp only [↓QA,QB,Nat.reduceLT,reduceIte,Nat.reduceEqDiff,Nat.reduceAdd,Nat.reduceLeDiff,Nat.reduceMul,Nat.reduceBEq,dN,aN,bA,hwk]|refine rd0 rfl ?_))
       refine ⟨(k+1,acc,ex),⟨by simp only;omega,by rw [hF];exact hacc⟩,by simp only;omega,?_⟩
       try simp only [aC,QE,Nat.reduceLT,reduceIte,Nat.reduceEqDiff,Nat.reduceAdd,Nat.reduceLeDiff,Nat.reduceMul,Nat.reduceBEq,dN,aN,bA,hwk,cA,ints]
       try simp [aH]
    ·have hk1:k=W.length:=by simp at h2;omega
     rw [hk1,List.drop_length] at hacc
     simp only [List.flatMap_nil,List.append_nil] at hacc
     subst hacc
     (repeat (first|simp only [↓QA,QB,Nat.reduceLT,reduceIte,Nat.reduceEqDiff,Nat.reduceAdd,Nat.reduceLeDiff,Nat.reduceMul,Nat.reduceBEq,dN,aN,bA,hwn]|refine rd0 rfl ?_))
     refine ⟨n+1,by omega,by omega,?_⟩
     try simp only [aC,QE,Nat.reduceLT,reduceIte,Nat.reduceEqDiff,Nat.reduceAdd,Nat.reduceLeDiff,Nat.reduceMul,Nat.reduceBEq,dN,aN,bA,hwn,hsu,cA,ints]
     try simp [aH]
  ·have hn1:n=v.rails.length:=by simp at h;omega
   subst hn1
   (repeat (first|simp only [↓QA,QB,Nat.reduceLT,reduceIte,Nat.reduceEqDiff,Nat.reduceAdd,Nat.reduceLeDiff,Nat.reduceMul,Nat.reduceBEq,dN,aN,bA,cA]|refine rd0 rfl ?_))
   try try simp only [QS,QC,Nat.reduceLT,reduceIte,Nat.reduceEqDiff,Nat.reduceAdd,Nat.reduceLeDiff,Nat.reduceMul,Nat.reduceBEq,dN,aN,bA]
end Go.Am.Room
set_option maxRecDepth 4000
namespace Go.Am.Room
def eR:=And.intro @bK (And.intro @aK (And.intro @aZ (And.intro @aX (And.intro @aY (And.intro @aT (And.intro @bI (And.intro @bF (And.intro @bE (And.intro @dP (And.intro @dA (And.intro @Nat.not_lt_zero (And.intro @aN (And.intro @bA (@rQ))))))))))))))
def fJ (x:Stay):AV:=.agg [.int .i64 x.tram,.int .i64 x.rail,.int .i64 x.frm,.int .i64 x.til]
theorem bR (x:Stay):fJ x = .agg [.int .i64 x.tram,.int .i64 x.rail,.int .i64 x.frm,.int .i64 x.til]:=by simp only [fJ]
theorem uN (x:Stay):lX (fJ x):=jQ (bQ (dJ _ _) (bQ (dJ _ _) (bQ (dJ _ _) (bQ (dJ _ _) fC))))
instance (x:Stay):Dat (fJ x):=⟨uN x⟩
instance (l:List Stay):Dats (l.map fJ):=⟨cV uN l⟩
theorem bZ (σ:St) (m d:Nat) (l:List Stay):dG σ m d (l.map fJ)=some (l.map fJ):=jX (cV uN l) σ m d
def FY (l:List Stay):AV:=.lit (l.map fJ) false none
theorem CI (l:List Stay):FY l = .lit (l.map fJ) false none:=by simp only [FY]
theorem AU (l:List Stay):aL 4 (l.map fJ)=true:=rJ 4 fJ l fun x=>by simp [cR,fJ,AV.cells,AV.cell]
theorem Q1 (ss:List Stay) (rail ready m B:Int) (hl:ss.length<9223372036854775808) (hB:∀ x∈ss,x.til≤B) (h0:0≤ready) (hr:ready≤B) (hB2:B≤1000) (hm:0≤m∧m≤20) :
  dL T 96 [.lit (ss.map fJ) false none,.int .i64 rail,.int .i64 ready,.int .i64 m] (.int .i64 (kH ss rail ready m)):=by
 refine aU (af:=a96) rfl (by simp [a96]) dd ?_
 have hfi:=yB (rail:=rail) (m:=m) hB (show B≤ready+1000 by omega)
 obtain ⟨Z,hZ⟩:∃ Z,kH ss rail ready m=Z:=⟨_,rfl⟩
 rw [hZ] at hfi ⊢
 (repeat (first|simp only [↓QA,QB,Nat.reduceLT,reduceIte,Nat.reduceEqDiff,Nat.reduceAdd,Nat.reduceLeDiff,Nat.reduceMul,Nat.reduceBEq,eR,bR,bZ,a96]|refine rd0 rfl ?_))
 refine bT (S:=Int) ready (fun r=>qY ss rail m ready r) (fun r=>(B-r).toNat)
  (fun r=>[(0,.lit (ss.map fJ) false none),(1,.int .i64 rail),(2,.int .i64 r),(3,.int .i64 m)]) (fun _=>[]) (DB _ _ _ _) rfl ?_ fun r hb=>?_
 ·try simp only [aC,QE,Nat.reduceLT,reduceIte,Nat.reduceEqDiff,Nat.reduceAdd,Nat.reduceLeDiff,Nat.reduceMul,Nat.reduceBEq,eR,bR,bZ]
  try simp
 ·have hrB:=zY hB hb hr
  have hr0:=hb.1
  have hwm:IntKind.i64.wrap (r+m)=r+m:=eA ⟨by omega,by omega⟩
  (repeat (first|simp only [↓QA,QB,Nat.reduceLT,reduceIte,Nat.reduceEqDiff,Nat.reduceAdd,Nat.reduceLeDiff,Nat.reduceMul,Nat.reduceBEq,eR,bR,bZ,YI]|refine rd0 rfl ?_))
  refine bT (S:=Nat×Int) (0,r) (fun a=>a.1≤ss.length∧OP ss rail m ready r a.1 a.2) (fun a=>ss.length-a.1)
   (fun a=>[(0,.lit (ss.map fJ) false none),(1,.int .i64 rail),(2,.int .i64 r),(3,.int .i64 m),(9,.int .i64 a.2),(10,.int .i64 a.1)]) (fun _=>[]) ⟨by simp,.inl ⟨rfl,by simp⟩⟩ rfl ?_ fun a ha=>?_
  ·try simp only [aC,QE,Nat.reduceLT,reduceIte,Nat.reduceEqDiff,Nat.reduceAdd,Nat.reduceLeDiff,Nat.reduceMul,Nat.reduceBEq,eR,bR,bZ]
   try simp
  ·obtain ⟨k,n⟩:=a
   obtain ⟨hk,hlk⟩:=ha
   simp only at hk hlk
   (repeat (first|simp only [↓QA,QB,Nat.reduceLT,reduceIte,Nat.reduceEqDiff,Nat.reduceAdd,Nat.reduceLeDiff,Nat.reduceMul,Nat.reduceBEq,eR,bR,bZ,X7]|refine rd0 rfl ?_))
   refine aG (fun h=>?_) fun h=>?_
   ·have hk1:k<ss.length:=by simpa using h
    have hw:=bP hk1 hl
    obtain ⟨x,hx⟩:∃ x,ss[k]=x:=⟨_,rfl⟩
    have hxm:x∈ss:=by rw [←hx];exact List.getElem_mem hk1
    have hat:=BX (p:=iW rail r m) hk1
    rw [hx] at hat
    have no:iW rail r m x=false→OP ss rail m ready r (k+1) n:=fun q=>by
     rcases hlk with ⟨e,a⟩|e
     ·exact .inl ⟨e,by rw [hat,a,q];rfl⟩
     ·exact .inr e
    have yes:iW rail r m x=true→OP ss rail m ready r (k+1) (max n x.til):=fun q=>by
     have q1:=wQ q
     have q2:=D5 hb hxm (Int.le_refl r) q (fun y h1 h2=>by omega)
     right
     refine ⟨by omega,?_⟩
     rcases hlk with ⟨e,_⟩|⟨e1,e2⟩
     ·rw [Int.max_eq_right (by omega)];exact q2
     ·by_cases hc:n≤x.til
      ·rw [Int.max_eq_right hc];exact q2
      ·rw [Int.max_eq_left (by omega)];exact e2
    have hcl:iW rail r m x=((x.rail==rail)&&decide (x.frm<r+m)&&decide (r<x.til)):=by
     have:decide (x.rail=rail)=(x.rail==rail):=by rw [Bool.eq_iff_iff];simp
     rw [iW,this]
    (repeat (first|simp only [↓QA,QB,Nat.reduceLT,reduceIte,Nat.reduceEqDiff,Nat.reduceAdd,Nat.reduceLeDiff,Nat.reduceMul,Nat.reduceBEq,eR,bR,bZ,hk1,hx]|refine rd0 rfl ?_))
    cases q1:(x.rail==rail)
    ·have nn:=no (by rw [hcl,q1];simp)
     (repeat (first|simp only [↓QA,QB,Nat.reduceLT,reduceIte,Nat.reduceEqDiff,Nat.reduceAdd,Nat.reduceLeDiff,Nat.reduceMul,Nat.reduceBEq,eR,bR,bZ,q1,hw]|refine rd0 rfl ?_))
     refine ⟨(k+1,n),⟨by simp only;omega,nn⟩,by simp only;omega,?_⟩
     try simp only [aC,QE,Nat.reduceLT,reduceIte,Nat.reduceEqDiff,Nat.reduceAdd,Nat.reduceLeDiff,Nat.reduceMul,Nat.reduceBEq,eR,bR,bZ,hw]
     try simp [aH]
    ·cases q2:decide (x.frm<r+m)
     ·have nn:=no (by rw [hcl,q1,q2];simp)
      (repeat (first|simp only [↓QA,QB,Nat.reduceLT,reduceIte,Nat.reduceEqDiff,Nat.reduceAdd,Nat.reduceLeDiff,Nat.reduceMul,Nat.reduceBEq,eR,bR,bZ,q1,hw,hwm,q2]|refine rd0 rfl ?_))
      refine ⟨(k+1,n),⟨by simp only;omega,nn⟩,by simp only;omega,?_⟩
      try simp only [aC,QE,Nat.reduceLT,reduceIte,Nat.reduceEqDiff,Nat.reduceAdd,Nat.reduceLeDiff,Nat.reduceMul,Nat.reduceBEq,eR,bR,bZ,hw]
      try simp [aH]
     ·cases q3:decide (r<x.til)
      ·have nn:=no (by rw [hcl,q1,q2,q3];simp)
       (repeat (first|simp only [↓QA,QB,Nat.reduceLT,reduceIte,Nat.reduceEqDiff,Nat.reduceAdd,Nat.reduceLeDiff,Nat.reduceMul,Nat.reduceBEq,eR,bR,bZ,q1,hw,hwm,q2,q3]|refine rd0 rfl ?_))
       refine ⟨(k+1,n),⟨by simp only;omega,nn⟩,by simp only;omega,?_⟩
       try simp only [aC,QE,Nat.reduceLT,reduceIte,Nat.reduceEqDiff,Nat.reduceAdd,Nat.reduceLeDiff,Nat.reduceMul,Nat.reduceBEq,eR,bR,bZ,hw]
       try simp [aH]
      ·have nn:=yes (by rw [hcl,q1,q2,q3];simp)
       (repeat (first|simp only [↓QA,QB,Nat.reduceLT,reduceIte,Nat.reduceEqDiff,Nat.reduceAdd,Nat.reduceLeDiff,Nat.reduceMul,Nat.reduceBEq,eR,bR,bZ,q1,hw,hwm,q2,q3]|refine rd0 rfl ?_))
       refine ⟨(k+1,max n x.til),⟨by simp only;omega,nn⟩,by simp only;omega,?_⟩
       try simp only [aC,QE,Nat.reduceLT,reduceIte,Nat.reduceEqDiff,Nat.reduceAdd,Nat.reduceLeDiff,Nat.reduceMul,Nat.reduceBEq,eR,bR,bZ,hw]
       try simp [aH]
   ·have hk1:k=ss.length:=by simp at h;omega
    rw [hk1] at hlk
    rcases hlk with ⟨e,a⟩|⟨e1,e2⟩
    ·rw [List.take_length] at a
     have hz:=EZ hfi (EA hb a)
     subst e
     have g:(n==n)=true:=by simp
     (repeat (first|simp only [↓QA,QB,Nat.reduceLT,reduceIte,Nat.reduceEqDiff,Nat.reduceAdd,Nat.reduceLeDiff,Nat.reduceMul,Nat.reduceBEq,eR,bR,bZ,g,hz]|refine rd0 rfl ?_))
    ·have g:(n==r)=false:=by simp;omega
     have hnB:=zY hB e2 hr
     (repeat (first|simp only [↓QA,QB,Nat.reduceLT,reduceIte,Nat.reduceEqDiff,Nat.reduceAdd,Nat.reduceLeDiff,Nat.reduceMul,Nat.reduceBEq,eR,bR,bZ,g]|refine rd0 rfl ?_))
     refine ⟨n,e2,by omega,?_⟩
     try simp only [aC,QE,Nat.reduceLT,reduceIte,Nat.reduceEqDiff,Nat.reduceAdd,Nat.reduceLeDiff,Nat.reduceMul,Nat.reduceBEq,eR,bR,bZ]
     try simp [aH]
theorem FZ (v:Net) (hv:Vd v):dL T 50 [bM v] (aJ (jM v)):=by
 refine aU (af:=a50) rfl (by simp [a50]) dd ?_
 have hnt:=hv.ntr
 (repeat (first|simp only [↓QA,QB,Nat.reduceLT,reduceIte,Nat.reduceEqDiff,Nat.reduceAdd,Nat.reduceLeDiff,Nat.reduceMul,Nat.reduceBEq,eR,bR,bZ,a50]|refine rd0 rfl ?_))
 refine hH 3 1 [] rfl ?_
 refine bT (S:=Nat×Bool) (0,false) (fun a=>a.1≤v.trams.length) (fun a=>v.trams.length-a.1)
  (fun a=>[(1,.ptr 0 0),(3,.lit (((v.trams.take a.1).map Tram.path).map ints) false (some 1)),(4,.int .i64 a.1)]) (fun a=>[.cells (aB v),.tok 1 a.1 a.2]) (Nat.zero_le _) (by simp [aB,ints]) ?_ fun a ha=>?_
 ·try simp only [aC,QE,Nat.reduceLT,reduceIte,Nat.reduceEqDiff,Nat.reduceAdd,Nat.reduceLeDiff,Nat.reduceMul,Nat.reduceBEq,eR,bR,bZ]
  try simp
 ·obtain ⟨k,ex⟩:=a
  simp only at ha
  (repeat (first|simp only [↓QA,QB,Nat.reduceLT,reduceIte,Nat.reduceEqDiff,Nat.reduceAdd,Nat.reduceLeDiff,Nat.reduceMul,Nat.reduceBEq,eR,bR,bZ,XS]|refine rd0 rfl ?_))
  refine aG (fun h=>?_) fun h=>?_
  ·have hk1:k<v.trams.length:=by simpa using h
   have hw:=bP hk1 (by omega)
   have htk:(v.trams.take (k+1)).map Tram.path=(v.trams.take k).map Tram.path++[v.trams[k].path]:=by
    rw [List.take_succ_eq_append_getElem hk1,List.map_append];rfl
   have hlen:((v.trams.take k).map Tram.path).length=k:=by simp;omega
   obtain ⟨t,ht⟩:∃ t,v.trams[k]=t:=⟨_,rfl⟩
   rw [ht] at htk
   obtain ⟨P,hP⟩:∃ P,(v.trams.take k).map Tram.path=P:=⟨_,rfl⟩
   rw [hP] at htk hlen
   have a2:=fun (b0:ABlk) (τ:St)=>iJ (σ:=b0::.tok 1 k ex::τ) (t:=1) (ex:=ex) (sz:=1) (b:=24) (xs:=P.map ints) (ys:=[.lit (t.path.map (.int .i64)) false none]) (f:=true) (tk:=none) ⟨fR P,by simp [aL,AV.cells,AV.cell],by simp [room];omega,by simp [room];omega⟩ (by simp) k (by simp [hlen]) rfl
   rw [hP]
   (repeat (first|simp only [↓QA,QB,Nat.reduceLT,reduceIte,Nat.reduceEqDiff,Nat.reduceAdd,Nat.reduceLeDiff,Nat.reduceMul,Nat.reduceBEq,eR,bR,bZ,hk1,ht,ints,a2]|refine rd0 rfl ?_))
   refine ⟨(k+1,true),by simp only;omega,by simp only;omega,?_⟩
   try simp only [aC,QE,Nat.reduceLT,reduceIte,Nat.reduceEqDiff,Nat.reduceAdd,Nat.reduceLeDiff,Nat.reduceMul,Nat.reduceBEq,eR,bR,bZ,hw,htk,aJ,ints,List.map_append,List.map_cons,List.map_nil]
   try simp [aH]
  ·have hk1:k=v.trams.length:=by simp at h;omega
   rw [hk1,List.take_length]
   (repeat (first|simp only [↓QA,QB,Nat.reduceLT,reduceIte,Nat.reduceEqDiff,Nat.reduceAdd,Nat.reduceLeDiff,Nat.reduceMul,Nat.reduceBEq,eR,bR,bZ,aJ,jM]|refine rd0 rfl ?_))
   try try simp only [QS,QC,Nat.reduceLT,reduceIte,Nat.reduceEqDiff,Nat.reduceAdd,Nat.reduceLeDiff,Nat.reduceMul,Nat.reduceBEq,eR,bR,bZ]
end Go.Am.Room
set_option maxRecDepth 4000
namespace Go.Am.Room
def dV:=And.intro @bK (And.intro @aK (And.intro @aZ (And.intro @aX (And.intro @aY (And.intro @aT (And.intro @bI (And.intro @bF (And.intro @bE (And.intro @dP (And.intro @dA (And.intro @Nat.not_lt_zero (And.intro @aN (And.intro @bA (And.intro @bR (And.intro @bZ (@rQ))))))))))))))))
structure StOk (v:Net) (s:State):Prop where
 cl:s.closed.length=v.rails.length
 mi:s.mins.length=v.rails.length
 bd:∀ i (h:i<s.mins.length),1≤s.mins[i]∧s.mins[i]≤20
theorem SE {v:Net} {s:State} (hs:StOk v s) {R:Nat} (h1:R<s.closed.length) (h2:R<s.mins.length):eff s (R:Int)=if s.closed[R]=true then 0 else s.mins[R]:=by
 simp [eff,h1,h2]
theorem LC {v:Net} {s:State} (hs:StOk v s):A4 v (eff s):=by
 intro r h0 h1
 obtain ⟨R,rfl⟩:∃ R:Nat,r=R:=⟨r.toNat,by omega⟩
 have c1:=hs.cl
 have c2:=hs.mi
 rw [SE hs (by omega) (by omega)]
 have:=hs.bd R (by omega)
 split<;>omega
def S2 (x:List Stay×List Int):AV:=.tuple [FY x.1,ints x.2]
theorem V9 {p:List Int} {f:Int→Bool} {k:Nat} (h:k=p.length):(p.take k).any f=p.any f:=by rw [h,List.take_length]
theorem K2 (v:Net) (hv:Vd v) (s:State) (hs:StOk v s) (ps:List (List Int)) (hp:RunOk v ps):dL T 49 [bM v,eD s,aJ ps] (S2 (eL v (eff s) ps v.trams.length)):=by
 refine aU (af:=a49) rfl (by simp [a49]) dd ?_
 have hnt:=hv.ntr
 have hpl:=hp.len
 have c1:=hs.cl
 have c2:=hs.mi
 have hbd:=JC hv (LC hs) hp
 obtain ⟨m,hm⟩:∃ m,eff s=m:=⟨_,rfl⟩
 have hmb:=LC hs
 have hea:=fun R h1 h2=>SE hs (R:=R) h1 h2
 rw [hm] at hmb hbd
 simp only [hm] at hea ⊢
 (repeat (first|simp only [↓QA,QB,Nat.reduceLT,reduceIte,Nat.reduceEqDiff,Nat.reduceAdd,Nat.reduceLeDiff,Nat.reduceMul,Nat.reduceBEq,dV,a49,aJ]|refine rd0 rfl ?_))
 refine hH 8 4 [] rfl ?_
 (repeat (first|simp only [↓QA,QB,Nat.reduceLT,reduceIte,Nat.reduceEqDiff,Nat.reduceAdd,Nat.reduceLeDiff,Nat.reduceMul,Nat.reduceBEq,dV]|refine rd0 rfl ?_))
 refine hH 9 1 [] rfl ?_
 refine bT (S:=Nat×Bool×Bool) (0,false,false) (fun a=>a.1≤v.trams.length) (fun a=>v.trams.length-a.1)
  (fun a=>[(2,aJ ps),(3,.ptr 0 0),(4,.ptr 1 0),(8,.lit ((eL v m ps a.1).1.map fJ) false (some 2)),(9,.lit ((eL v m ps a.1).2.map (.int .i64)) false (some 3)),(10,.int .i64 a.1)])
  (fun a=>[.cells (aB v),.cells [.lit (s.closed.map .bool) false none,ints s.mins],.tok 4 (eL v m ps a.1).1.length a.2.1,.tok 1 a.1 a.2.2]) (Nat.zero_le _) (by simp [aB,ints,eL]) ?_ fun a ha=>?_
 ·try simp only [aC,QE,Nat.reduceLT,reduceIte,Nat.reduceEqDiff,Nat.reduceAdd,Nat.reduceLeDiff,Nat.reduceMul,Nat.reduceBEq,dV,aJ,ints]
  try simp [eL]
 ·obtain ⟨i,ex,ex2⟩:=a
  simp only at ha
  (repeat (first|simp only [↓QA,QB,Nat.reduceLT,reduceIte,Nat.reduceEqDiff,Nat.reduceAdd,Nat.reduceLeDiff,Nat.reduceMul,Nat.reduceBEq,dV,YB,aJ]|refine rd0 rfl ?_))
  refine aG (fun h=>?_) fun h=>?_
  ·have hi1:i<v.trams.length:=by simpa using h
   have hwi:=bP hi1 (by omega)
   have hip:i<ps.length:=by omega
   obtain ⟨b1,b2⟩:=hbd i (by omega)
   have hlc:=rS v m ps i
   have hsu:=IH v m ps i
   have hto:=wK hv hi1
   have hpm:=BT hp hi1
   have hp4:=hp.few _ hpm
   have hpr:=hp.rails _ hpm
   have hpe:eO ps i=ps[i]:=by simp [eO,hip]
   rw [xX hi1,hpe] at hsu
   rw [hpe] at hp4 hpr
   obtain ⟨t,ht⟩:∃ t,v.trams[i]=t:=⟨_,rfl⟩
   obtain ⟨p,hpp⟩:∃ p,ps[i]=p:=⟨_,rfl⟩
   rw [ht] at hto hsu
   rw [hpp] at hp4 hpr hsu
   have hlv:=hto.leaves
   obtain ⟨L,hL⟩:∃ L,t.leaves=L:=⟨_,rfl⟩
   rw [hL] at hlv hsu
   obtain ⟨SS,hSS⟩:∃ SS,(eL v m ps i).1=SS:=⟨_,rfl⟩
   obtain ⟨OO,hOO⟩:∃ OO,(eL v m ps i).2=OO:=⟨_,rfl⟩
   rw [hSS] at b1 hsu
   rw [hOO] at b2 hlc hsu
   have hgo:nM m i L p SS=if p.any (fun r=>m r==0)=true then (SS,-1) else nQ m i p L SS:=rfl
   rw [hSS,hOO]
   obtain ⟨R,hR⟩:∃ R,nM m i L p SS=R:=⟨_,rfl⟩
   rw [hR] at hsu hgo
   have hsu1:(eL v m ps (i+1)).1=R.1:=by rw [hsu]
   have hsu2:(eL v m ps (i+1)).2=OO++[R.2]:=by rw [hsu]
   have aO:=fun (b0 b1 b2:ABlk) (τ:St) (ex2:Bool)=>iJ (σ:=b0::b1::b2::.tok 1 i ex2::τ) (t:=3) (ex:=ex2) (sz:=1) (b:=8) (xs:=OO.map (.int .i64)) (ys:=[.int .i64 R.2]) (f:=true) (tk:=none) ⟨gK OO,by simp [aL,AV.cells,AV.cell],by simp [room];omega,by simp [room];omega⟩ (by simp) i (by simp [hlc]) rfl
   (repeat (first|simp only [↓QA,QB,Nat.reduceLT,reduceIte,Nat.reduceEqDiff,Nat.reduceAdd,Nat.reduceLeDiff,Nat.reduceMul,Nat.reduceBEq,dV,hi1,ht,hL,hip,hpp,aJ]|refine rd0 rfl ?_))
   refine bT (S:=Nat) 0 (fun k=>k≤p.length) (fun k=>p.length-k)
    (fun k=>[(2,aJ ps),(3,.ptr 0 0),(4,.ptr 1 0),(8,.lit (SS.map fJ) false (some 2)),(9,.lit (OO.map (.int .i64)) false (some 3)),(10,.int .i64 i),(11,.int .i64 (if (p.take k).any (fun r=>m r==0)=true then -1 else L)),(12,.int .i64 k)])
    (fun k=>[.cells (aB v),.cells [.lit (s.closed.map .bool) false none,ints s.mins],.tok 4 SS.length ex,.tok 1 i ex2]) (Nat.zero_le _) (by simp [aB,ints]) ?_ fun k hk=>?_
   ·try simp only [aC,QE,Nat.reduceLT,reduceIte,Nat.reduceEqDiff,Nat.reduceAdd,Nat.reduceLeDiff,Nat.reduceMul,Nat.reduceBEq,dV,aJ,ints]
    try simp
   ·(repeat (first|simp only [↓QA,QB,Nat.reduceLT,reduceIte,Nat.reduceEqDiff,Nat.reduceAdd,Nat.reduceLeDiff,Nat.reduceMul,Nat.reduceBEq,dV,Y9,aJ,hip,hpp]|refine rd0 rfl ?_))
    refine aG (fun h2=>?_) fun h2=>?_
    ·have hk1:k<p.length:=by simpa using h2
     have hwk:=bP hk1 (by omega)
     have hat:=BX (p:=fun r=>m r==0) hk1
     have hpk:=hpr _ (List.getElem_mem hk1)
     obtain ⟨r,hr⟩:∃ r:Nat,p[k]=(r:Int):=⟨p[k].toNat,by omega⟩
     rw [hr] at hat hpk
     have hr1:r<s.closed.length:=by omega
     have hr2:r<s.mins.length:=by omega
     have hmr:=hea r hr1 hr2
     have hmi:=hs.bd r hr2
     obtain ⟨cb,hcb⟩:∃ cb,s.closed[r]=cb:=⟨_,rfl⟩
     rw [hcb] at hmr
     (repeat (first|simp only [↓QA,QB,Nat.reduceLT,reduceIte,Nat.reduceEqDiff,Nat.reduceAdd,Nat.reduceLeDiff,Nat.reduceMul,Nat.reduceBEq,dV,hk1,hr,hr1,hcb,hip,hpp]|refine rd0 rfl ?_))
     cases cb
     ·have h0:(m (r:Int)==0)=false:=by rw [hmr];simp;omega
      rw [h0,Bool.or_false] at hat
      (repeat (first|simp only [↓QA,QB,Nat.reduceLT,reduceIte,Nat.reduceEqDiff,Nat.reduceAdd,Nat.reduceLeDiff,Nat.reduceMul,Nat.reduceBEq,dV,hwk]|refine rd0 rfl ?_))
      refine ⟨k+1,by omega,by omega,?_⟩
      try simp only [aC,QE,Nat.reduceLT,reduceIte,Nat.reduceEqDiff,Nat.reduceAdd,Nat.reduceLeDiff,Nat.reduceMul,Nat.reduceBEq,dV,hwk,hat,aJ,ints]
      try simp [aH]
     ·have h0:(m (r:Int)==0)=true:=by rw [hmr];simp
      rw [h0,Bool.or_true] at hat
      (repeat (first|simp only [↓QA,QB,Nat.reduceLT,reduceIte,Nat.reduceEqDiff,Nat.reduceAdd,Nat.reduceLeDiff,Nat.reduceMul,Nat.reduceBEq,dV,hwk]|refine rd0 rfl ?_))
      refine ⟨k+1,by omega,by omega,?_⟩
      try simp only [aC,QE,Nat.reduceLT,reduceIte,Nat.reduceEqDiff,Nat.reduceAdd,Nat.reduceLeDiff,Nat.reduceMul,Nat.reduceBEq,dV,hwk,hat,aJ,ints]
      try simp [aH]
    ·have hk1:k=p.length:=by simp at h2;omega
     rw [V9 hk1]
     cases hc:p.any (fun r=>m r==0)
     ·rw [hc] at hgo
      simp only [Bool.false_eq_true,if_false] at hgo ⊢
      (repeat (first|simp only [↓QA,QB,Nat.reduceLT,reduceIte,Nat.reduceEqDiff,Nat.reduceAdd,Nat.reduceLeDiff,Nat.reduceMul,Nat.reduceBEq,dV]|refine rd0 rfl ?_))
      refine bT (S:=Nat×Int×List Stay×Bool) (0,L,SS,ex) (fun a=>a.1≤p.length∧0≤a.2.1∧a.2.1≤60+20*(4*i+a.1:Nat)∧StaysOk a.2.2.1 (4*i+a.1)∧nQ m i (p.drop a.1) a.2.1 a.2.2.1=R) (fun a=>p.length-a.1)
       (fun a=>[(2,aJ ps),(3,.ptr 0 0),(4,.ptr 1 0),(8,.lit (a.2.2.1.map fJ) false (some 2)),(9,.lit (OO.map (.int .i64)) false (some 3)),(10,.int .i64 i),(11,.int .i64 a.2.1),(13,.int .i64 a.1)])
       (fun a=>[.cells (aB v),.cells [.lit (s.closed.map .bool) false none,ints s.mins],.tok 4 a.2.2.1.length a.2.2.2,.tok 1 i ex2]) ⟨by simp,by simp only;omega,by simp only;omega,b1,hgo.symm⟩ (by simp [aB,ints]) ?_ fun a ha=>?_
      ·try simp only [aC,QE,Nat.reduceLT,reduceIte,Nat.reduceEqDiff,Nat.reduceAdd,Nat.reduceLeDiff,Nat.reduceMul,Nat.reduceBEq,dV,aJ,ints]
       try simp
      ·obtain ⟨j,at_,SS,ex⟩:=a
       obtain ⟨hj,ha0,ha1,hso,hgo⟩:=ha
       simp only at hj ha0 ha1 hso hgo
       have hne:(at_==-1)=false:=by simp;omega
       by_cases hj1:j<p.length
       ·have g:decide ((j:Int)<(p.length:Int))=true:=by simp;omega
        have hwj:=bP hj1 (by omega)
        have hpk:=hpr _ (List.getElem_mem hj1)
        rw [List.drop_eq_getElem_cons hj1] at hgo
        obtain ⟨r,hr⟩:∃ r:Nat,p[j]=(r:Int):=⟨p[j].toNat,by omega⟩
        rw [hr] at hpk hgo
        have hr1:r<s.closed.length:=by omega
        have hr2:r<s.mins.length:=by omega
        have hmr:=hea r hr1 hr2
        have hmi:=hs.bd r hr2
        have hopen:s.closed[r]=false:=by
         rw [List.any_eq_false] at hc
         have:=hc _ (List.getElem_mem hj1)
         rw [hr,hmr] at this
         cases hq:s.closed[r]
         ·rfl
         ·rw [hq] at this;simp at this
        rw [hopen] at hmr
        simp only [Bool.false_eq_true,if_false] at hmr
        obtain ⟨M,hM⟩:∃ M,s.mins[r]=M:=⟨_,rfl⟩
        rw [hM] at hmr hmi
        simp only [nQ,hmr] at hgo
        obtain ⟨f1,f2,f3⟩:=F4 (rail:=(r:Int)) (m:=M) hso (by omega) ha0 ha1
        have hsl:=hso.len
        have hfr:=Q1 SS r at_ M (60+20*((4*i+j:Nat):Int)) (by omega) hso.til ha0 ha1 (by omega) (by omega)
        obtain ⟨F,hF⟩:∃ F,kH SS r at_ M=F:=⟨_,rfl⟩
        rw [hF] at hgo f2 f3 hfr
        have hwF:IntKind.i64.wrap (F+M)=F+M:=eA ⟨by omega,by omega⟩
        have a8:=fun (b0 b1:ABlk) (τ:St)=>iJ (σ:=b0::b1::.tok 4 SS.length ex::τ) (t:=2) (ex:=ex) (sz:=4) (b:=32) (xs:=SS.map fJ) (ys:=[.agg [.int .i64 i,.int .i64 r,.int .i64 F,.int .i64 (F+M)]]) (f:=true) (tk:=none) ⟨AU SS,by simp [aL,cR,AV.cells,AV.cell],by simp [room];omega,by simp [room];omega⟩ (by simp) SS.length (by simp) rfl
        (repeat (first|simp only [↓QA,QB,Nat.reduceLT,reduceIte,Nat.reduceEqDiff,Nat.reduceAdd,Nat.reduceLeDiff,Nat.reduceMul,Nat.reduceBEq,dV,K3,aJ,hip,hpp,g,hne,hj1,hr,hr2,hM,ints]|refine rd0 rfl ?_))
        ((first|refine uI (hfr) (by try simp only [QS,QC,Nat.reduceLT,reduceIte,Nat.reduceEqDiff,Nat.reduceAdd,Nat.reduceLeDiff,Nat.reduceMul,Nat.reduceBEq,dV]) trivial ?_|refine wU (hfr) (by try simp only [QS,QC,Nat.reduceLT,reduceIte,Nat.reduceEqDiff,Nat.reduceAdd,Nat.reduceLeDiff,Nat.reduceMul,Nat.reduceBEq,dV]) trivial ?_);(repeat (first|simp only [↓QA,QB,Nat.reduceLT,reduceIte,Nat.reduceEqDiff,Nat.reduceAdd,Nat.reduceLeDiff,Nat.reduceMul,Nat.reduceBEq,dV,hj1,hr,hr2,hM,ints,hwF,a8,hwj]|refine rd0 rfl ?_)))
        refine ⟨(j+1,F+M,SS++[⟨i,r,F,F+M⟩],true),⟨by simp only;omega,by simp only;omega,by simp only;omega,?_,hgo⟩,by simp only;omega,?_⟩
        ·refine ⟨by simp;omega,fun x hx=>?_,fun x hx=>?_⟩
         ·rcases List.mem_append.1 hx with hx|hx
          ·have:=hso.til x hx;simp only;omega
          ·simp only [List.mem_singleton] at hx;subst hx;simp only;omega
         ·rcases List.mem_append.1 hx with hx|hx
          ·exact hso.frm x hx
          ·simp only [List.mem_singleton] at hx;subst hx;simp only;omega
        ·try simp only [aC,QE,Nat.reduceLT,reduceIte,Nat.reduceEqDiff,Nat.reduceAdd,Nat.reduceLeDiff,Nat.reduceMul,Nat.reduceBEq,dV,hwj,aJ,ints,List.map_append,List.map_cons,List.map_nil]
         try simp [aH]
       ·have g:decide ((j:Int)<(p.length:Int))=false:=by simp;omega
        rw [List.drop_eq_nil_of_le (by omega),nQ] at hgo
        subst hgo
        (repeat (first|simp only [↓QA,QB,Nat.reduceLT,reduceIte,Nat.reduceEqDiff,Nat.reduceAdd,Nat.reduceLeDiff,Nat.reduceMul,Nat.reduceBEq,dV,K3,aJ,hip,hpp,g,aO,hwi]|refine rd0 rfl ?_))
        refine ⟨(i+1,ex,true),by simp only;omega,by simp only;omega,?_⟩
        try simp only [aC,QE,Nat.reduceLT,reduceIte,Nat.reduceEqDiff,Nat.reduceAdd,Nat.reduceLeDiff,Nat.reduceMul,Nat.reduceBEq,dV,hwi,hsu1,hsu2,aJ,ints,List.map_append,List.map_cons,List.map_nil]
        try simp [aH]
     ·rw [hc] at hgo
      simp only [if_true] at hgo ⊢
      subst hgo
      have hne:((-1:Int)==-1)=true:=by decide
      (repeat (first|simp only [↓QA,QB,Nat.reduceLT,reduceIte,Nat.reduceEqDiff,Nat.reduceAdd,Nat.reduceLeDiff,Nat.reduceMul,Nat.reduceBEq,dV]|refine rd0 rfl ?_))
      refine bT (S:=Unit) () (fun a=>True) (fun a=>0)
       (fun a=>[(2,aJ ps),(3,.ptr 0 0),(4,.ptr 1 0),(8,.lit (SS.map fJ) false (some 2)),(9,.lit (OO.map (.int .i64)) false (some 3)),(10,.int .i64 i),(11,.int .i64 (-1)),(13,.int .i64 0)])
       (fun a=>[.cells (aB v),.cells [.lit (s.closed.map .bool) false none,ints s.mins],.tok 4 SS.length ex,.tok 1 i ex2]) trivial (by simp [aB,ints]) ?_ fun a ha=>?_
      ·try simp only [aC,QE,Nat.reduceLT,reduceIte,Nat.reduceEqDiff,Nat.reduceAdd,Nat.reduceLeDiff,Nat.reduceMul,Nat.reduceBEq,dV,aJ,ints]
       try simp
      ·(repeat (first|simp only [↓QA,QB,Nat.reduceLT,reduceIte,Nat.reduceEqDiff,Nat.reduceAdd,Nat.reduceLeDiff,Nat.reduceMul,Nat.reduceBEq,dV,K3,aJ,hip,hpp,hne]|refine rd0 rfl ?_))
       cases hg:decide ((0:Int)<(p.length:Int))
       ·(repeat (first|simp only [↓QA,QB,Nat.reduceLT,reduceIte,Nat.reduceEqDiff,Nat.reduceAdd,Nat.reduceLeDiff,Nat.reduceMul,Nat.reduceBEq,dV,hg,hne,aO,hwi]|refine rd0 rfl ?_))
        refine ⟨(i+1,ex,true),by simp only;omega,by simp only;omega,?_⟩
        try simp only [aC,QE,Nat.reduceLT,reduceIte,Nat.reduceEqDiff,Nat.reduceAdd,Nat.reduceLeDiff,Nat.reduceMul,Nat.reduceBEq,dV,hwi,hsu1,hsu2,aJ,ints,List.map_append,List.map_cons,List.map_nil]
        try simp [aH]
       ·(repeat (first|simp only [↓QA,QB,Nat.reduceLT,reduceIte,Nat.reduceEqDiff,Nat.reduceAdd,Nat.reduceLeDiff,Nat.reduceMul,Nat.reduceBEq,dV,hg,hne,aO,hwi]|refine rd0 rfl ?_))
        refine ⟨(i+1,ex,true),by simp only;omega,by simp only;omega,?_⟩
        try simp only [aC,QE,Nat.reduceLT,reduceIte,Nat.reduceEqDiff,Nat.reduceAdd,Nat.reduceLeDiff,Nat.reduceMul,Nat.reduceBEq,dV,hwi,hsu1,hsu2,aJ,ints,List.map_append,List.map_cons,List.map_nil]
        try simp [aH]
  ·have hi1:i=v.trams.length:=by simp at h;omega
   rw [hi1]
   (repeat (first|simp only [↓QA,QB,Nat.reduceLT,reduceIte,Nat.reduceEqDiff,Nat.reduceAdd,Nat.reduceLeDiff,Nat.reduceMul,Nat.reduceBEq,dV,S2,CI]|refine rd0 rfl ?_))
   try try simp only [QS,QC,Nat.reduceLT,reduceIte,Nat.reduceEqDiff,Nat.reduceAdd,Nat.reduceLeDiff,Nat.reduceMul,Nat.reduceBEq,dV]
end Go.Am.Room
set_option maxRecDepth 4000
namespace Go.Am.Room
def d8:=And.intro @bK (And.intro @aK (And.intro @aZ (And.intro @aX (And.intro @aY (And.intro @aT (And.intro @bI (And.intro @bF (And.intro @bE (And.intro @dP (And.intro @dA (And.intro @Nat.not_lt_zero (And.intro @aN (And.intro @bA (And.intro @bR (And.intro @bZ (And.intro @rQ (@cA)))))))))))))))))
theorem ZB {v:Net} (hv:Vd v):∀ k,k≤v.rails.length→∀ s∈nW v.rails k,∀ i (h:i<s.mins.length),1≤s.mins[i]∧s.mins[i]≤20
 |0,_,s,hs,i,h=>by simp [nW] at hs;subst hs;simp at h
 |k+1,hk,s,hs,i,h=>by
  have hk1:k<v.rails.length:=by omega
  rw [xU hk1] at hs
  simp only [List.mem_flatMap,zW,List.mem_map,List.mem_filter] at hs
  obtain ⟨s0,hs0,m,hm,c,_,rfl⟩:=hs
  have hl0:=(vS k (by omega) s0 hs0).2.1
  simp only [List.length_append,List.length_cons,List.length_nil] at h
  by_cases e:i=s0.mins.length
  ·subst e
   have:=(hv.ra _ (List.getElem_mem hk1)).mins
   have:=oY.1 hm
   simp
   omega
  ·have hi:i<s0.mins.length:=by omega
   have:=ZB hv k (by omega) s0 hs0 i hi
   simp only [List.getElem_append_left hi]
   exact this
theorem EJ {v:Net} (hv:Vd v) {s:State} (h:s∈kK v):StOk v s:=by
 have hl:=oQ h
 exact ⟨hl.1,hl.2,ZB hv _ (Nat.le_refl _) s h⟩
theorem CP {v:Net} (hv:Vd v):(kK v).length≤1024 :=
 Nat.le_trans (CW (fun r hr=>(hv.ra r hr).mins.2.2.2) _) (Nat.le_trans (Nat.pow_le_pow_right (by omega) hv.nra) (by decide))
theorem mJ {v:Net} (hv:Vd v) (but:List Int):(bH v but).length≤1024:=Nat.le_trans (List.length_filter_le _ _) (CP hv)
theorem xM {v:Net} (hv:Vd v) {bl:List Int} {s:State} (h:s∈bH v bl):StOk v s:=EJ hv (List.mem_filter.1 h).1
theorem yG (v:Net) (s:State):(jL v s).length=v.trams.length:=rS _ _ _ _
theorem AG {cs:List Int} {t:Nat} (h:t<cs.length):fV cs (t:Int)=cs[t]:=by simp [fV,h]
def wN (v:Net) (s:State):List AV:=(eL v (eff s) (jM v) v.trams.length).1.map fJ
theorem BF (v:Net) (hv:Vd v) (s:State) (hs:StOk v s):dL T 49 [bM v,eD s,aJ (jM v)] (.tuple [.lit (wN v s) false none,ints (jL v s)]):=K2 v hv s hs (jM v) (SR hv)
theorem vR (v:Net) (hv:Vd v) (but:List Int) (hbu:but.length<9223372036854775808):dL T 48 [bM v,ints but] (dZ (bH v but)):=by
 refine aU (af:=a48) rfl (by simp [a48]) dd ?_
 have hse:=hv.nse
 have hwl:=CP hv
 have hwo:=fun s=>EJ hv (s:=s)
 have hst:=KM v hv
 have how:=FZ v hv
 obtain ⟨R,hR⟩:∃ R,bH v but=R:=⟨_,rfl⟩
 have hRl:=mJ hv but
 rw [hR] at hRl ⊢
 have hR':[]++((kK v).drop 0).filter (fun s=>lT v but (jL v s))=R:=hR
 obtain ⟨W,hW⟩:∃ W,kK v=W:=⟨_,rfl⟩
 rw [hW] at hwl hst hR'
 simp only [hW] at hwo
 obtain ⟨PO,hPO⟩:∃ PO,jM v=PO:=⟨_,rfl⟩
 (repeat (first|simp only [↓QA,QB,Nat.reduceLT,reduceIte,Nat.reduceEqDiff,Nat.reduceAdd,Nat.reduceLeDiff,Nat.reduceMul,Nat.reduceBEq,d8,a48]|refine rd0 rfl ?_))
 ((first|refine aD (hst) rfl dd ?_|refine aE (hst) rfl dd ?_);(repeat (first|simp only [↓QA,QB,Nat.reduceLT,reduceIte,Nat.reduceEqDiff,Nat.reduceAdd,Nat.reduceLeDiff,Nat.reduceMul,Nat.reduceBEq,d8]|refine rd0 rfl ?_)))
 refine hH 6 2 [] rfl ?_
 refine bT (S:=Nat×List State×Bool) (0,[],false) (fun a=>a.1≤W.length∧a.2.1++(W.drop a.1).filter (fun s=>lT v but (jL v s))=R) (fun a=>W.length-a.1)
  (fun a=>[(1,ints but),(2,.ptr 0 0),(5,dZ W),(6,.lit (a.2.1.map eD) false (some 1)),(7,.int .i64 a.1)])
  (fun a=>[.cells (aB v),.tok 2 a.2.1.length a.2.2]) ⟨Nat.zero_le _,hR'⟩ (by simp [aB,ints]) ?_ fun a ha=>?_
 ·try simp only [aC,QE,Nat.reduceLT,reduceIte,Nat.reduceEqDiff,Nat.reduceAdd,Nat.reduceLeDiff,Nat.reduceMul,Nat.reduceBEq,d8]
  try simp
 ·obtain ⟨k,acc,ex⟩:=a
  obtain ⟨hk,hacc⟩:=ha
  simp only at hk hacc
  (repeat (first|simp only [↓QA,QB,Nat.reduceLT,reduceIte,Nat.reduceEqDiff,Nat.reduceAdd,Nat.reduceLeDiff,Nat.reduceMul,Nat.reduceBEq,d8,ZL]|refine rd0 rfl ?_))
  refine aG (fun hd=>?_) fun hd=>?_
  ·have hk1:k<W.length:=by simpa using hd
   have hw:=bP hk1 (by omega)
   have hso:=hwo _ (List.getElem_mem hk1)
   obtain ⟨s,hs⟩:∃ s,W[k]=s:=⟨_,rfl⟩
   rw [hs] at hso
   rw [List.drop_eq_getElem_cons hk1,hs,List.filter_cons] at hacc
   have hal:acc.length≤1024:=by
    have:=congrArg List.length hacc
    simp only [List.length_append] at this
    omega
   have hrun:=BF v hv s hso
   have hcl:=yG v s
   obtain ⟨C,hC⟩:∃ C,jL v s=C:=⟨_,rfl⟩
   obtain ⟨SS,hSS⟩:∃ SS,wN v s=SS:=⟨_,rfl⟩
   rw [hPO] at hrun how
   rw [hC] at hrun hcl hacc
   rw [hSS] at hrun
   simp only [aN] at hrun
   have hap:=fun (b0:ABlk) (τ:St)=>iJ (σ:=b0::.tok 2 acc.length ex::τ) (t:=1) (ex:=ex) (sz:=2) (b:=48) (xs:=acc.map eD) (ys:=[.agg [.lit (s.closed.map .bool) false none,.lit (s.mins.map (.int .i64)) false none]]) (f:=true) (tk:=none) ⟨sA acc,by simp [aL,cR,AV.cells,AV.cell],by simp [room];omega,by simp [room];omega⟩ (by simp) acc.length (by simp) rfl
   (repeat (first|simp only [↓QA,QB,Nat.reduceLT,reduceIte,Nat.reduceEqDiff,Nat.reduceAdd,Nat.reduceLeDiff,Nat.reduceMul,Nat.reduceBEq,d8,hk1,hs,ints]|refine rd0 rfl ?_))
   ((first|refine aD (how) rfl dd ?_|refine aE (how) rfl dd ?_);(repeat (first|simp only [↓QA,QB,Nat.reduceLT,reduceIte,Nat.reduceEqDiff,Nat.reduceAdd,Nat.reduceLeDiff,Nat.reduceMul,Nat.reduceBEq,d8,hk1,hs,ints]|refine rd0 rfl ?_)))
   ((first|refine aD (hrun) rfl dd ?_|refine aE (hrun) rfl dd ?_);(repeat (first|simp only [↓QA,QB,Nat.reduceLT,reduceIte,Nat.reduceEqDiff,Nat.reduceAdd,Nat.reduceLeDiff,Nat.reduceMul,Nat.reduceBEq,d8,hk1,hs,ints]|refine rd0 rfl ?_)))
   refine bT (S:=Nat) 0 (fun j=>j≤v.seen.length) (fun j=>v.seen.length-j)
    (fun j=>[(1,ints but),(2,.ptr 0 0),(5,dZ W),(6,.lit (acc.map eD) false (some 1)),(7,.int .i64 k),(9,ints C),(10,.bool (oE v but C j)),(11,.int .i64 j)])
    (fun j=>[.cells (aB v),.tok 2 acc.length ex]) (Nat.zero_le _) (by simp [aB,ints]) ?_ fun j hj=>?_
   ·try simp only [aC,QE,Nat.reduceLT,reduceIte,Nat.reduceEqDiff,Nat.reduceAdd,Nat.reduceLeDiff,Nat.reduceMul,Nat.reduceBEq,d8,ints]
    try simp [oE]
   ·(repeat (first|simp only [↓QA,QB,Nat.reduceLT,reduceIte,Nat.reduceEqDiff,Nat.reduceAdd,Nat.reduceLeDiff,Nat.reduceMul,Nat.reduceBEq,d8,Z4]|refine rd0 rfl ?_))
    refine aG (fun h2=>?_) fun h2=>?_
    ·have hj1:j<v.seen.length:=by simpa using h2
     have hwj:=bP hj1 (by omega)
     have hsu:=y4 hj1 but C
     have hsx:=hv.se _ (List.getElem_mem hj1)
     obtain ⟨x,hx⟩:∃ x,v.seen[j]=x:=⟨_,rfl⟩
     rw [hx] at hsu hsx
     obtain ⟨t,ht⟩:∃ t:Nat,x.tram=t:=⟨x.tram.toNat,by omega⟩
     rw [ht] at hsu hsx
     have htl:t<C.length:=by omega
     rw [AG htl] at hsu
     obtain ⟨q,hq⟩:∃ q,oE v but C j=q:=⟨_,rfl⟩
     rw [hq] at hsu
     rw [hq]
     cases q
     ·rw [Bool.false_and] at hsu
      (repeat (first|simp only [↓QA,QB,Nat.reduceLT,reduceIte,Nat.reduceEqDiff,Nat.reduceAdd,Nat.reduceLeDiff,Nat.reduceMul,Nat.reduceBEq,d8,hwj]|refine rd0 rfl ?_))
      refine ⟨j+1,by omega,by omega,?_⟩
      try simp only [aC,QE,Nat.reduceLT,reduceIte,Nat.reduceEqDiff,Nat.reduceAdd,Nat.reduceLeDiff,Nat.reduceMul,Nat.reduceBEq,d8,hwj,hsu,ints]
      try simp [aH]
     ·rw [Bool.true_and] at hsu
      (repeat (first|simp only [↓QA,QB,Nat.reduceLT,reduceIte,Nat.reduceEqDiff,Nat.reduceAdd,Nat.reduceLeDiff,Nat.reduceMul,Nat.reduceBEq,d8]|refine rd0 rfl ?_))
      ((first|refine aD (sO but (j:Int) hbu) rfl dd ?_|refine aE (sO but (j:Int) hbu) rfl dd ?_);(repeat (first|simp only [↓QA,QB,Nat.reduceLT,reduceIte,Nat.reduceEqDiff,Nat.reduceAdd,Nat.reduceLeDiff,Nat.reduceMul,Nat.reduceBEq,d8]|refine rd0 rfl ?_)))
      cases hb:but.contains (j:Int)
      ·rw [hb,Bool.false_or] at hsu
       (repeat (first|simp only [↓QA,QB,Nat.reduceLT,reduceIte,Nat.reduceEqDiff,Nat.reduceAdd,Nat.reduceLeDiff,Nat.reduceMul,Nat.reduceBEq,d8,hj1,hx,ht,htl,hwj]|refine rd0 rfl ?_))
       refine ⟨j+1,by omega,by omega,?_⟩
       try simp only [aC,QE,Nat.reduceLT,reduceIte,Nat.reduceEqDiff,Nat.reduceAdd,Nat.reduceLeDiff,Nat.reduceMul,Nat.reduceBEq,d8,hwj,hsu,ints]
       try simp [aH]
      ·rw [hb,Bool.true_or] at hsu
       (repeat (first|simp only [↓QA,QB,Nat.reduceLT,reduceIte,Nat.reduceEqDiff,Nat.reduceAdd,Nat.reduceLeDiff,Nat.reduceMul,Nat.reduceBEq,d8,hwj]|refine rd0 rfl ?_))
       refine ⟨j+1,by omega,by omega,?_⟩
       try simp only [aC,QE,Nat.reduceLT,reduceIte,Nat.reduceEqDiff,Nat.reduceAdd,Nat.reduceLeDiff,Nat.reduceMul,Nat.reduceBEq,d8,hwj,hsu,ints]
       try simp [aH]
    ·have hj1:j=v.seen.length:=by simp at h2;omega
     rw [hj1,vM]
     cases hc:lT v but C
     ·rw [hc] at hacc
      simp only [Bool.false_eq_true,if_false] at hacc
      (repeat (first|simp only [↓QA,QB,Nat.reduceLT,reduceIte,Nat.reduceEqDiff,Nat.reduceAdd,Nat.reduceLeDiff,Nat.reduceMul,Nat.reduceBEq,d8,hw]|refine rd0 rfl ?_))
      refine ⟨(k+1,acc,ex),⟨by simp only;omega,hacc⟩,by simp only;omega,?_⟩
      try simp only [aC,QE,Nat.reduceLT,reduceIte,Nat.reduceEqDiff,Nat.reduceAdd,Nat.reduceLeDiff,Nat.reduceMul,Nat.reduceBEq,d8,hw,ints]
      try simp [aH]
     ·rw [hc] at hacc
      simp only [if_true] at hacc
      (repeat (first|simp only [↓QA,QB,Nat.reduceLT,reduceIte,Nat.reduceEqDiff,Nat.reduceAdd,Nat.reduceLeDiff,Nat.reduceMul,Nat.reduceBEq,d8,hk1,hs,ints,hap,hw]|refine rd0 rfl ?_))
      refine ⟨(k+1,acc++[s],true),⟨by simp only;omega,by rw [←hacc];simp⟩,by simp only;omega,?_⟩
      try simp only [aC,QE,Nat.reduceLT,reduceIte,Nat.reduceEqDiff,Nat.reduceAdd,Nat.reduceLeDiff,Nat.reduceMul,Nat.reduceBEq,d8,hw,ints,List.map_append,List.map_cons,List.map_nil]
      try simp [aH]
  ·have hk1:k=W.length:=by simp at hd;omega
   rw [hk1,List.drop_length] at hacc
   simp only [List.filter_nil,List.append_nil] at hacc
   subst hacc
   (repeat (first|simp only [↓QA,QB,Nat.reduceLT,reduceIte,Nat.reduceEqDiff,Nat.reduceAdd,Nat.reduceLeDiff,Nat.reduceMul,Nat.reduceBEq,d8]|refine rd0 rfl ?_))
   try try simp only [QS,QC,Nat.reduceLT,reduceIte,Nat.reduceEqDiff,Nat.reduceAdd,Nat.reduceLeDiff,Nat.reduceMul,Nat.reduceBEq,d8]
def gL (v:Net) (e:Int):List State:=if cC v e=0 then bH v [] else []
def lP (l:List State) (e:Int):AV:=.tuple [dZ l,.int .i64 e]
theorem SW (v:Net):clrs [bM v,.lit [] true none]=[bM v,ints []]:=by simp [clrs,(o4 v).2,clr,ints]
theorem HW (v:Net):okVs 0 [bM v,.lit [] true none]:=⟨(o4 v).1,by simp [okV,okVs],trivial⟩
theorem qU (v:Net) (e:Int) (hv:e=0→Vd v):dL T 81 [bM v,.int .i64 e] (lP (gL v e) (cC v e)):=by
 refine aU (af:=a81) rfl (by simp [a81]) dd ?_
 (repeat (first|simp only [↓QA,QB,Nat.reduceLT,reduceIte,Nat.reduceEqDiff,Nat.reduceAdd,Nat.reduceLeDiff,Nat.reduceMul,Nat.reduceBEq,d8,a81]|refine rd0 rfl ?_))
 cases h0:(e==0)
 ·have h0':e≠0:=by simpa using h0
  have he:cC v e=e:=by simp [cC,h0']
  have hk:gL v e=[]:=by simp [gL,he,h0']
  rw [he,hk]
  (repeat (first|simp only [↓QA,QB,Nat.reduceLT,reduceIte,Nat.reduceEqDiff,Nat.reduceAdd,Nat.reduceLeDiff,Nat.reduceMul,Nat.reduceBEq,d8,h0,lP,List.map_nil]|refine rd0 rfl ?_))
  try rfl
 ·have h0':e=0:=by simpa using h0
  subst h0'
  have hl:=mJ (hv rfl) []
  (repeat (first|simp only [↓QA,QB,Nat.reduceLT,reduceIte,Nat.reduceEqDiff,Nat.reduceAdd,Nat.reduceLeDiff,Nat.reduceMul,Nat.reduceBEq,d8]|refine rd0 rfl ?_))
  refine eT (vR v (hv rfl) [] (by simp)) (SW v) (HW v) ?_
  obtain ⟨l,hle⟩:∃ l,bH v []=l:=⟨_,rfl⟩
  rw [hle] at hl ⊢
  cases hg:((l.length:Int)==0)
  ·have hg':l≠[]:=by rintro rfl;simp at hg
   have he:cC v 0=0:=by simp [cC,hle,hg']
   have hk:gL v 0=l:=by simp [gL,he,hle]
   rw [he,hk]
   (repeat (first|simp only [↓QA,QB,Nat.reduceLT,reduceIte,Nat.reduceEqDiff,Nat.reduceAdd,Nat.reduceLeDiff,Nat.reduceMul,Nat.reduceBEq,d8,lP,hg]|refine rd0 rfl ?_))
   try rfl
  ·have hg':l=[]:=by simp at hg;exact hg
   have he:cC v 0=8:=by simp [cC,hle,hg']
   have hk:gL v 0=[]:=by simp [gL,he]
   rw [he,hk]
   (repeat (first|simp only [↓QA,QB,Nat.reduceLT,reduceIte,Nat.reduceEqDiff,Nat.reduceAdd,Nat.reduceLeDiff,Nat.reduceMul,Nat.reduceBEq,d8,lP,hg,List.map_nil]|refine rd0 rfl ?_))
   try rfl
end Go.Am.Room
set_option maxRecDepth 4000
namespace Go.Am.Room
def cH:=And.intro @bK (And.intro @aK (And.intro @aZ (And.intro @aX (And.intro @aY (And.intro @aT (And.intro @bI (And.intro @bF (And.intro @bE (And.intro @dP (And.intro @dA (And.intro @Nat.not_lt_zero (And.intro @aN (And.intro @bA (And.intro @bR (And.intro @bZ (And.intro @rQ (@cA)))))))))))))))))
theorem rB (z:Tram) (c:Int):dL T 44 [dC z,.int .i64 c] (.bool (!decide (c = -1)&&decide (c≤z.due))):=by
 refine aU (af:=a44) rfl (by simp [a44]) dd ?_
 (repeat (first|simp only [↓QA,QB,Nat.reduceLT,reduceIte,Nat.reduceEqDiff,Nat.reduceAdd,Nat.reduceLeDiff,Nat.reduceMul,Nat.reduceBEq,cH,a44]|refine rd0 rfl ?_))
 have e:decide (c = -1)=(c==-1):=by rw [Bool.eq_iff_iff];simp
 rw [e]
 cases h:(c==-1)
 ·(repeat (first|simp only [↓QA,QB,Nat.reduceLT,reduceIte,Nat.reduceEqDiff,Nat.reduceAdd,Nat.reduceLeDiff,Nat.reduceMul,Nat.reduceBEq,cH,h]|refine rd0 rfl ?_))
 ·(repeat (first|simp only [↓QA,QB,Nat.reduceLT,reduceIte,Nat.reduceEqDiff,Nat.reduceAdd,Nat.reduceLeDiff,Nat.reduceMul,Nat.reduceBEq,cH,h,Bool.false_and]|refine rd0 rfl ?_))
end Go.Am.Room
set_option maxRecDepth 4000
namespace Go.Am.Room
def bV:=And.intro @bK (And.intro @aK (And.intro @aZ (And.intro @aX (And.intro @aY (And.intro @aT (And.intro @bI (And.intro @bF (And.intro @bE (And.intro @dP (And.intro @dA (And.intro @Nat.not_lt_zero (And.intro @aN (And.intro @bA (And.intro @bR (And.intro @bZ (And.intro @rQ (@cA)))))))))))))))))
theorem GK (l:List State):lX (dZ l):=jE rA l
instance (l:List State):Dat (dZ l):=⟨GK l⟩
def mU (l:List (List (List Int))):AV:=.lit (l.map aJ) false none
theorem aS (l:List (List (List Int))):mU l = .lit (l.map aJ) false none:=by simp only [mU]
theorem JP (l:List (List (List Int))):lX (mU l):=jE oS l
instance (l:List (List (List Int))):Dat (mU l):=⟨JP l⟩
theorem aW (σ:St) (m d:Nat) (l:List (List (List Int))):dG σ m d (l.map aJ)=some (l.map aJ):=jX (cV oS l) σ m d
theorem BC (l:List (List (List Int))):aL 1 (l.map aJ)=true:=rJ 1 aJ l fun x=>Q4 _ _ _
theorem NM (v:Net) (ps:List (List Int)) (s:State):A5 v ps s=nH v (iE v ps (eff s)) v.trams.length:=rfl
theorem TD (v:Net) (hv:Vd v) (l:List State) (hl:∀ s∈l,StOk v s) (hll:l.length≤1024) (ps:List (List Int)) (hp:RunOk v ps):dL T 53 [bM v,dZ l,aJ ps] (.bool (zJ v l ps)):=by
 refine aU (af:=a53) rfl (by simp [a53]) dd ?_
 have hnt:=hv.ntr
 obtain ⟨B,hB⟩:∃ B,zJ v l ps=B:=⟨_,rfl⟩
 have hB':(l.drop 0).all (A5 v ps)=B:=hB
 rw [hB]
 (repeat (first|simp only [↓QA,QB,Nat.reduceLT,reduceIte,Nat.reduceEqDiff,Nat.reduceAdd,Nat.reduceLeDiff,Nat.reduceMul,Nat.reduceBEq,bV,aS,aW,a53]|refine rd0 rfl ?_))
 refine bT (S:=Nat) 0 (fun k=>k≤l.length∧(l.drop k).all (A5 v ps)=B) (fun k=>l.length-k)
  (fun k=>[(1,dZ l),(2,aJ ps),(3,.ptr 0 0),(7,.int .i64 k)]) (fun k=>[.cells (aB v)]) ⟨Nat.zero_le _,hB'⟩ (by simp [aB,ints]) ?_ fun k hk=>?_
 ·try simp only [aC,QE,Nat.reduceLT,reduceIte,Nat.reduceEqDiff,Nat.reduceAdd,Nat.reduceLeDiff,Nat.reduceMul,Nat.reduceBEq,bV,aS,aW,aJ,ints]
  try simp
 ·obtain ⟨hk,hq⟩:=hk
  (repeat (first|simp only [↓QA,QB,Nat.reduceLT,reduceIte,Nat.reduceEqDiff,Nat.reduceAdd,Nat.reduceLeDiff,Nat.reduceMul,Nat.reduceBEq,bV,aS,aW,YV]|refine rd0 rfl ?_))
  refine aG (fun h2=>?_) fun h2=>?_
  ·have hk1:k<l.length:=by simpa using h2
   have hw:=bP hk1 (by omega)
   have hso:=hl _ (List.getElem_mem hk1)
   rw [List.drop_eq_getElem_cons hk1,List.all_cons] at hq
   obtain ⟨s,hs⟩:∃ s,l[k]=s:=⟨_,rfl⟩
   rw [hs] at hso hq
   have hrun:=K2 v hv s hso ps hp
   have hcl:(iE v ps (eff s)).length=v.trams.length:=rS _ _ _ _
   rw [NM] at hq
   rw [S2,show (eL v (eff s) ps v.trams.length).2=iE v ps (eff s) from rfl,CI] at hrun
   obtain ⟨C,hC⟩:∃ C,iE v ps (eff s)=C:=⟨_,rfl⟩
   obtain ⟨SS,hSS⟩:∃ SS,(eL v (eff s) ps v.trams.length).1.map fJ=SS:=⟨_,rfl⟩
   have hSd:nS SS:=by rw [←hSS];exact cV uN _
   rw [hC] at hrun hcl hq
   rw [hSS] at hrun
   simp only [aN] at hrun
   (repeat (first|simp only [↓QA,QB,Nat.reduceLT,reduceIte,Nat.reduceEqDiff,Nat.reduceAdd,Nat.reduceLeDiff,Nat.reduceMul,Nat.reduceBEq,bV,aS,aW,hk1,hs,ints]|refine rd0 rfl ?_))
   ((first|refine aD (hrun) rfl dd ?_|refine aE (hrun) rfl dd ?_);(repeat (first|simp only [↓QA,QB,Nat.reduceLT,reduceIte,Nat.reduceEqDiff,Nat.reduceAdd,Nat.reduceLeDiff,Nat.reduceMul,Nat.reduceBEq,bV,aS,aW,hk1,hs,ints]|refine rd0 rfl ?_)))
   refine bT (S:=Nat) 0 (fun t=>t≤v.trams.length∧nH v C t=true) (fun t=>v.trams.length-t)
    (fun t=>[(1,dZ l),(2,aJ ps),(3,.ptr 0 0),(7,.int .i64 k),(9,ints C),(10,.int .i64 t)]) (fun t=>[.cells (aB v)]) ⟨Nat.zero_le _,rfl⟩ (by simp [aB,ints]) ?_ fun t ht=>?_
   ·try simp only [aC,QE,Nat.reduceLT,reduceIte,Nat.reduceEqDiff,Nat.reduceAdd,Nat.reduceLeDiff,Nat.reduceMul,Nat.reduceBEq,bV,aS,aW,aJ,ints]
    try simp
   ·obtain ⟨ht,hf⟩:=ht
    (repeat (first|simp only [↓QA,QB,Nat.reduceLT,reduceIte,Nat.reduceEqDiff,Nat.reduceAdd,Nat.reduceLeDiff,Nat.reduceMul,Nat.reduceBEq,bV,aS,aW,YZ,hcl]|refine rd0 rfl ?_))
    refine aG (fun h3=>?_) fun h3=>?_
    ·have ht1:t<v.trams.length:=by simpa using h3
     have hwt:=bP ht1 (by omega)
     have htc:t<C.length:=by omega
     have hsu:=y0 v C t
     have hit:=yV (v:=v) (t:=t) (z:=v.trams[t]) (by simp [ht1]) (fV C t)
     rw [hf,Bool.true_and,hit,AG htc] at hsu
     obtain ⟨z,hz⟩:∃ z,v.trams[t]=z:=⟨_,rfl⟩
     obtain ⟨c,hc⟩:∃ c,C[t]=c:=⟨_,rfl⟩
     rw [hz,hc] at hsu
     (repeat (first|simp only [↓QA,QB,Nat.reduceLT,reduceIte,Nat.reduceEqDiff,Nat.reduceAdd,Nat.reduceLeDiff,Nat.reduceMul,Nat.reduceBEq,bV,aS,aW,ht1,hz,htc,hc]|refine rd0 rfl ?_))
     ((first|refine aD (rB z c) rfl dd ?_|refine aE (rB z c) rfl dd ?_);(repeat (first|simp only [↓QA,QB,Nat.reduceLT,reduceIte,Nat.reduceEqDiff,Nat.reduceAdd,Nat.reduceLeDiff,Nat.reduceMul,Nat.reduceBEq,bV,aS,aW,ht1,hz,htc,hc]|refine rd0 rfl ?_)))
     cases q:(!decide (c = -1)&&decide (c≤z.due))
     ·rw [q] at hsu
      have:=DV hsu (show t+1≤v.trams.length by omega)
      rw [this,Bool.false_and] at hq
      simp only [Bool.not_false,j5]
      (repeat (first|simp only [↓QA,QB,Nat.reduceLT,reduceIte,Nat.reduceEqDiff,Nat.reduceAdd,Nat.reduceLeDiff,Nat.reduceMul,Nat.reduceBEq,bV,aS,aW,←hq]|refine rd0 rfl ?_))
      try rfl
     ·rw [q] at hsu
      simp only [Bool.not_true,jO]
      (repeat (first|simp only [↓QA,QB,Nat.reduceLT,reduceIte,Nat.reduceEqDiff,Nat.reduceAdd,Nat.reduceLeDiff,Nat.reduceMul,Nat.reduceBEq,bV,aS,aW,hwt]|refine rd0 rfl ?_))
      refine ⟨t+1,⟨by omega,hsu⟩,by omega,?_⟩
      try simp only [aC,QE,Nat.reduceLT,reduceIte,Nat.reduceEqDiff,Nat.reduceAdd,Nat.reduceLeDiff,Nat.reduceMul,Nat.reduceBEq,bV,aS,aW,hwt,aJ,ints]
      try simp [aH]
    ·have ht1:t=v.trams.length:=by
      have:¬t<v.trams.length:=by simpa using h3
      omega
     rw [←ht1,hf,Bool.true_and] at hq
     (repeat (first|simp only [↓QA,QB,Nat.reduceLT,reduceIte,Nat.reduceEqDiff,Nat.reduceAdd,Nat.reduceLeDiff,Nat.reduceMul,Nat.reduceBEq,bV,aS,aW,hw]|refine rd0 rfl ?_))
     refine ⟨k+1,⟨by omega,hq⟩,by omega,?_⟩
     try simp only [aC,QE,Nat.reduceLT,reduceIte,Nat.reduceEqDiff,Nat.reduceAdd,Nat.reduceLeDiff,Nat.reduceMul,Nat.reduceBEq,bV,aS,aW,hw,aJ,ints]
     try simp [aH]
  ·have hk1:k=l.length:=by simp at h2;omega
   rw [hk1,List.drop_length,List.all_nil] at hq
   (repeat (first|simp only [↓QA,QB,Nat.reduceLT,reduceIte,Nat.reduceEqDiff,Nat.reduceAdd,Nat.reduceLeDiff,Nat.reduceMul,Nat.reduceBEq,bV,aS,aW,←hq]|refine rd0 rfl ?_))
   try rfl
theorem DU (v:Net) (ps:List (List Int)):(gT v ps).length≤ps.length:=by
 have:=List.length_filter_le (fun t:Int=>!decide (eO ps t.toNat=eO (jM v) t.toNat)) (aR 0 ps.length)
 rw [iV] at this
 exact this
theorem NB (v:Net) (hv:Vd v) (ps:List (List Int)) (hp:ps.length≤v.trams.length) (hq:∀ p∈ps,p.length<9223372036854775808):dL T 55 [bM v,aJ ps] (ints (gT v ps)):=by
 refine aU (af:=a55) rfl (by simp [a55]) dd ?_
 have hnt:=hv.ntr
 obtain ⟨n,hn⟩:∃ n,ps.length=n:=⟨_,rfl⟩
 obtain ⟨A,hA⟩:∃ A,gT v ps=A:=⟨_,rfl⟩
 have hA':[]++(aR ((0:Nat):Int) ((n:Int)-((0:Nat):Int)).toNat).filter (HK v ps)=A:=by rw [←hA,gT,hn];simp;rfl
 rw [hA]
 (repeat (first|simp only [↓QA,QB,Nat.reduceLT,reduceIte,Nat.reduceEqDiff,Nat.reduceAdd,Nat.reduceLeDiff,Nat.reduceMul,Nat.reduceBEq,bV,aS,aW,a55]|refine rd0 rfl ?_))
 refine hH 5 1 [] rfl ?_
 refine bT (S:=Nat×List Int×Bool) (0,[],false) (fun a=>a.1≤n∧a.2.1++(aR (a.1:Int) ((n:Int)-a.1).toNat).filter (HK v ps)=A∧a.2.1.length≤a.1) (fun a=>n-a.1)
  (fun a=>[(1,aJ ps),(2,.ptr 0 0),(5,.lit (a.2.1.map (.int .i64)) false (some 1)),(6,.int .i64 a.1)]) (fun a=>[.cells (aB v),.tok 1 a.2.1.length a.2.2]) ⟨Nat.zero_le _,hA',by simp⟩ (by simp [aB,ints]) ?_ fun a ha=>?_
 ·try simp only [aC,QE,Nat.reduceLT,reduceIte,Nat.reduceEqDiff,Nat.reduceAdd,Nat.reduceLeDiff,Nat.reduceMul,Nat.reduceBEq,bV,aS,aW,aJ,ints]
  try simp
 ·obtain ⟨t,acc,ex⟩:=a
  obtain ⟨ht,hacc,hal⟩:=ha
  simp only at ht hacc hal
  (repeat (first|simp only [↓QA,QB,Nat.reduceLT,reduceIte,Nat.reduceEqDiff,Nat.reduceAdd,Nat.reduceLeDiff,Nat.reduceMul,Nat.reduceBEq,bV,aS,aW,ZT,aJ,hn]|refine rd0 rfl ?_))
  refine aG (fun h=>?_) fun h=>?_
  ·have ht1:t<n:=by simpa using h
   have hw:=bP ht1 (by omega)
   have htp:t<ps.length:=by omega
   have htt:t<v.trams.length:=by omega
   rw [lE ht1] at hacc
   have hmv:HK v ps (t:Int) = !decide (ps[t]=v.trams[t].path):=by rw [HK,Int.toNat_natCast,FH htp,FX htt]
   have hpl:=hq _ (List.getElem_mem htp)
   have htl:=(wK hv htt).len
   obtain ⟨z,hz⟩:∃ z,v.trams[t]=z:=⟨_,rfl⟩
   obtain ⟨p,hpe⟩:∃ p,ps[t]=p:=⟨_,rfl⟩
   rw [hz,hpe] at hmv
   rw [hz] at htl
   rw [hpe] at hpl
   have hap:=fun (b0:ABlk) (τ:St)=>iU (σ:=b0::.tok 1 acc.length ex::τ) (l:=acc) (a:=(t:Int)) (ex:=ex) (t:=1) (by omega) rfl
   (repeat (first|simp only [↓QA,QB,Nat.reduceLT,reduceIte,Nat.reduceEqDiff,Nat.reduceAdd,Nat.reduceLeDiff,Nat.reduceMul,Nat.reduceBEq,bV,aS,aW,htp,hpe,htt,hz,aJ,ints]|refine rd0 rfl ?_))
   ((first|refine aD (eZ p z.path hpl (by omega)) rfl dd ?_|refine aE (eZ p z.path hpl (by omega)) rfl dd ?_);(repeat (first|simp only [↓QA,QB,Nat.reduceLT,reduceIte,Nat.reduceEqDiff,Nat.reduceAdd,Nat.reduceLeDiff,Nat.reduceMul,Nat.reduceBEq,bV,aS,aW,htp,hpe,htt,hz,aJ,ints]|refine rd0 rfl ?_)))
   cases q:decide (p=z.path)
   ·rw [hmv,q] at hacc
    simp only [Bool.not_false,j5]
    (repeat (first|simp only [↓QA,QB,Nat.reduceLT,reduceIte,Nat.reduceEqDiff,Nat.reduceAdd,Nat.reduceLeDiff,Nat.reduceMul,Nat.reduceBEq,bV,aS,aW,hap,hw]|refine rd0 rfl ?_))
    refine ⟨(t+1,acc++[(t:Int)],true),⟨by simp only;omega,by simpa using hacc,by simp;omega⟩,by simp only;omega,?_⟩
    try simp only [aC,QE,Nat.reduceLT,reduceIte,Nat.reduceEqDiff,Nat.reduceAdd,Nat.reduceLeDiff,Nat.reduceMul,Nat.reduceBEq,bV,aS,aW,hw,kG,aJ,ints,List.map_append,List.map_cons,List.map_nil]
    try simp [aH]
   ·rw [hmv,q] at hacc
    simp only [Bool.not_true,jO]
    (repeat (first|simp only [↓QA,QB,Nat.reduceLT,reduceIte,Nat.reduceEqDiff,Nat.reduceAdd,Nat.reduceLeDiff,Nat.reduceMul,Nat.reduceBEq,bV,aS,aW,hw]|refine rd0 rfl ?_))
    refine ⟨(t+1,acc,ex),⟨by simp only;omega,by simpa using hacc,by simp only;omega⟩,by simp only;omega,?_⟩
    try simp only [aC,QE,Nat.reduceLT,reduceIte,Nat.reduceEqDiff,Nat.reduceAdd,Nat.reduceLeDiff,Nat.reduceMul,Nat.reduceBEq,bV,aS,aW,hw,aJ,ints]
    try simp [aH]
  ·have ht1:t=n:=by
    have:¬t<n:=by simpa using h
    omega
   rw [xB ht1,List.append_nil] at hacc
   subst hacc
   (repeat (first|simp only [↓QA,QB,Nat.reduceLT,reduceIte,Nat.reduceEqDiff,Nat.reduceAdd,Nat.reduceLeDiff,Nat.reduceMul,Nat.reduceBEq,bV,aS,aW,ints]|refine rd0 rfl ?_))
   try try simp only [QS,QC,Nat.reduceLT,reduceIte,Nat.reduceEqDiff,Nat.reduceAdd,Nat.reduceLeDiff,Nat.reduceMul,Nat.reduceBEq,bV,aS,aW]
theorem wR (v:Net) (k:Nat):gR v (k+1)=(gR v k).flatMap fun p=>(dQ v (gO v k) []).map fun w=>p++[w]:=rfl
theorem yW {v:Net} (h5:v.rails.length≤5):∀ k,(gR v k).length≤1000^k
 |0=>by simp [gR]
 |k+1=>by
  rw [wR,Nat.pow_succ]
  refine Nat.le_trans (uL _ 1000 _ fun p _=>?_) (Nat.mul_le_mul_right 1000 (yW h5 k))
  rw [List.length_map]
  exact sU h5 _ _
theorem N4 (v:Net) (hv:Vd v):dL T 89 [bM v] (mU (lU v)):=by
 refine aU (af:=a89) rfl (by simp [a89]) dd ?_
 have hnt:=hv.ntr
 have hnr:=hv.nra
 rw [show lU v=gR v v.trams.length from rfl]
 (repeat (first|simp only [↓QA,QB,Nat.reduceLT,reduceIte,Nat.reduceEqDiff,Nat.reduceAdd,Nat.reduceLeDiff,Nat.reduceMul,Nat.reduceBEq,bV,aS,aW,a89]|refine rd0 rfl ?_))
 refine bT (S:=Nat) 0 (fun n=>n≤v.trams.length) (fun n=>v.trams.length-n) (fun n=>[(1,.ptr 0 0),(3,mU (gR v n)),(4,.int .i64 n)]) (fun _=>[.cells (aB v)]) (Nat.zero_le _) (by simp [aB,ints]) ?_ fun n hn=>?_
 ·try simp only [aC,QE,Nat.reduceLT,reduceIte,Nat.reduceEqDiff,Nat.reduceAdd,Nat.reduceLeDiff,Nat.reduceMul,Nat.reduceBEq,bV,aS,aW]
  simp [gR,aJ,ints,clr,clrs]
 ·(repeat (first|simp only [↓QA,QB,Nat.reduceLT,reduceIte,Nat.reduceEqDiff,Nat.reduceAdd,Nat.reduceLeDiff,Nat.reduceMul,Nat.reduceBEq,bV,aS,aW,XK]|refine rd0 rfl ?_))
  refine aG (fun h=>?_) fun h=>?_
  ·have hn1:n<v.trams.length:=by simpa using h
   have hwn:IntKind.i64.wrap ((n:Int)+1)=((n+1:Nat):Int):=bP hn1 (by omega)
   have hwl:∀ j,j≤3→(gR v j).length≤1000000000:=fun j hj=>Nat.le_trans (yW (by omega) j) (Nat.le_trans (Nat.pow_le_pow_right (by omega) hj) (by decide))
   have hsl:=hwl n (by omega)
   have hsl2:=hwl (n+1) (by omega)
   have hin:=tV v n
   have hsu:=wR v n
   rw [xF hn1] at hsu
   obtain ⟨z,hz⟩:∃ z,v.trams[n]=z:=⟨_,rfl⟩
   rw [hz] at hsu
   have hway:=CT v hv z.frm [] (by simp)
   have hwc:=sU (v:=v) (by omega) z.frm []
   obtain ⟨Y,hY⟩:∃ Y,dQ v z.frm []=Y:=⟨_,rfl⟩
   rw [hY] at hsu hway hwc
   rw [hsu] at hsl2
   obtain ⟨W,hW⟩:∃ W,gR v n=W:=⟨_,rfl⟩
   rw [hW] at hsl hsl2 hsu hin
   rw [hW]
   obtain ⟨X,hX⟩:∃ X,(W.flatMap fun p=>Y.map fun w=>p++[w])=X:=⟨_,rfl⟩
   rw [hX] at hsl2 hsu
   (repeat (first|simp only [↓QA,QB,Nat.reduceLT,reduceIte,Nat.reduceEqDiff,Nat.reduceAdd,Nat.reduceLeDiff,Nat.reduceMul,Nat.reduceBEq,bV,aS,aW,hn1,hz]|refine rd0 rfl ?_))
   refine fH hway (K8 v z.frm) (CH v z.frm) ?_
   (repeat (first|simp only [↓QA,QB,Nat.reduceLT,reduceIte,Nat.reduceEqDiff,Nat.reduceAdd,Nat.reduceLeDiff,Nat.reduceMul,Nat.reduceBEq,bV,aS,aW,hn1,hz]|refine rd0 rfl ?_))
   refine hH 6 1 [] rfl ?_
   refine bT (S:=Nat×List (List (List Int))×Bool) (0,[],false) (fun a=>a.1≤W.length∧a.2.1++((W.drop a.1).flatMap fun p=>Y.map fun w=>p++[w])=X) (fun a=>W.length-a.1)
    (fun a=>[(1,.ptr 0 0),(3,mU W),(4,.int .i64 n),(5,aJ Y),(6,.lit (a.2.1.map aJ) false (some 1)),(7,.int .i64 a.1)])
    (fun a=>[.cells (aB v),.tok 1 a.2.1.length a.2.2]) ⟨Nat.zero_le _,by simpa using hX⟩ (by simp [aB,ints]) ?_ fun a ha=>?_
   ·try simp only [aC,QE,Nat.reduceLT,reduceIte,Nat.reduceEqDiff,Nat.reduceAdd,Nat.reduceLeDiff,Nat.reduceMul,Nat.reduceBEq,bV,aS,aW,aJ]
    try simp
   ·obtain ⟨k,acc,ex⟩:=a
    obtain ⟨hk,hacc⟩:=ha
    simp only at hk hacc
    (repeat (first|simp only [↓QA,QB,Nat.reduceLT,reduceIte,Nat.reduceEqDiff,Nat.reduceAdd,Nat.reduceLeDiff,Nat.reduceMul,Nat.reduceBEq,bV,aS,aW,X9]|refine rd0 rfl ?_))
    refine aG (fun h2=>?_) fun h2=>?_
    ·have hk1:k<W.length:=by simpa using h2
     have hwk:=bP hk1 (by omega)
     obtain ⟨p,hpe⟩:∃ p,W[k]=p:=⟨_,rfl⟩
     have hpl:=hin _ (List.getElem_mem hk1)
     rw [hpe] at hpl
     rw [List.drop_eq_getElem_cons hk1,hpe,List.flatMap_cons] at hacc
     obtain ⟨F,hF⟩:∃ F,((W.drop (k+1)).flatMap fun p=>Y.map fun w=>p++[w])=F:=⟨_,rfl⟩
     rw [hF] at hacc
     (repeat (first|simp only [↓QA,QB,Nat.reduceLT,reduceIte,Nat.reduceEqDiff,Nat.reduceAdd,Nat.reduceLeDiff,Nat.reduceMul,Nat.reduceBEq,bV,aS,aW]|refine rd0 rfl ?_))
     refine bT (S:=Nat×List (List (List Int))×Bool) (0,acc,ex) (fun a=>a.1≤Y.length∧a.2.1++(((Y.drop a.1).map fun w=>p++[w])++F)=X) (fun a=>Y.length-a.1)
      (fun a=>[(1,.ptr 0 0),(3,mU W),(4,.int .i64 n),(5,aJ Y),(6,.lit (a.2.1.map aJ) false (some 1)),(7,.int .i64 k),(8,.int .i64 a.1)])
      (fun a=>[.cells (aB v),.tok 1 a.2.1.length a.2.2]) ⟨Nat.zero_le _,hacc⟩ (by simp [aB]) ?_ fun a ha=>?_
     ·try simp only [aC,QE,Nat.reduceLT,reduceIte,Nat.reduceEqDiff,Nat.reduceAdd,Nat.reduceLeDiff,Nat.reduceMul,Nat.reduceBEq,bV,aS,aW,aJ]
      try simp
     ·obtain ⟨j,acc,ex⟩:=a
      obtain ⟨hj,hacc⟩:=ha
      simp only at hj hacc
      (repeat (first|simp only [↓QA,QB,Nat.reduceLT,reduceIte,Nat.reduceEqDiff,Nat.reduceAdd,Nat.reduceLeDiff,Nat.reduceMul,Nat.reduceBEq,bV,aS,aW,Y5,aJ]|refine rd0 rfl ?_))
      refine aG (fun h3=>?_) fun h3=>?_
      ·have hj1:j<Y.length:=by simpa using h3
       have hwj:=bP hj1 (by omega)
       rw [List.drop_eq_getElem_cons hj1,List.map_cons] at hacc
       obtain ⟨w,hw⟩:∃ w,Y[j]=w:=⟨_,rfl⟩
       rw [hw] at hacc
       have hal:acc.length≤1000000000:=by
        have:=congrArg List.length hacc
        simp only [List.length_append] at this
        omega
       have a0:∀ (σ:St),cO 1 24 σ (.lit [] true none) (.lit (p.map ints) false none)=some ((n5 1 σ (p.map ints)).1,(n5 1 σ (p.map ints)).2):=fun σ=>zZ ⟨rfl,fR p,by simp [room];omega,by simp [room];omega⟩
       have a1:∀ (σ:St),cO 1 24 (n5 1 σ (p.map ints)).2 (n5 1 σ (p.map ints)).1 (.lit [.lit (w.map (.int .i64)) false none] true none)=some (.lit (p.map ints++[.lit (w.map (.int .i64)) false none]) false (some σ.length),σ++[.tok 1 (p.length+1) true]):=fun σ=>by
        rw [uS ⟨fR p,by simp [aL,AV.cells,AV.cell],by simp [room];omega,by simp [room];omega⟩ (by simp)]
        simp
       have a2:=fun (b0:ABlk) (τ:St) (t:Nat)=>iJ (σ:=b0::.tok 1 acc.length ex::τ) (t:=1) (ex:=ex) (sz:=1) (b:=24) (xs:=acc.map aJ) (ys:=[.lit (p.map ints++[.lit (w.map (.int .i64)) false none]) false (some t)]) (f:=true) (tk:=none) ⟨BC acc,by simp [aL,AV.cells,AV.cell],by simp [room];omega,by simp [room];omega⟩ (by simp) acc.length (by simp) rfl
       have hsm:=fun (σ:St) (m d:Nat)=>jX (cV j8 p) σ m d
       (repeat (first|simp only [↓QA,QB,Nat.reduceLT,reduceIte,Nat.reduceEqDiff,Nat.reduceAdd,Nat.reduceLeDiff,Nat.reduceMul,Nat.reduceBEq,bV,aS,aW,hk1,hpe,hj1,hw,bJ,ints,a0,a1,a2]|refine rd0 rfl ?_))
       refine ⟨(j+1,acc++[p++[w]],true),⟨by simp only;omega,by rw [←hacc];simp⟩,by simp only;omega,?_⟩
       try simp only [aC,QE,Nat.reduceLT,reduceIte,Nat.reduceEqDiff,Nat.reduceAdd,Nat.reduceLeDiff,Nat.reduceMul,Nat.reduceBEq,bV,aS,aW,hwj,bJ,ints,hsm,List.map_append,List.map_cons,List.map_nil]
       try simp [aH]
      ·have hj1:j=Y.length:=by simp at h3;omega
       rw [hj1,List.drop_length] at hacc
       simp only [List.map_nil,List.nil_append] at hacc
       (repeat (first|simp only [↓QA,QB,Nat.reduceLT,reduceIte,Nat.reduceEqDiff,Nat.reduceAdd,Nat.reduceLeDiff,Nat.reduceMul,Nat.reduceBEq,bV,aS,aW,hwk]|refine rd0 rfl ?_))
       refine ⟨(k+1,acc,ex),⟨by simp only;omega,by rw [hF];exact hacc⟩,by simp only;omega,?_⟩
       try simp only [aC,QE,Nat.reduceLT,reduceIte,Nat.reduceEqDiff,Nat.reduceAdd,Nat.reduceLeDiff,Nat.reduceMul,Nat.reduceBEq,bV,aS,aW,hwk,aJ]
       try simp [aH]
    ·have hk1:k=W.length:=by simp at h2;omega
     rw [hk1,List.drop_length] at hacc
     simp only [List.flatMap_nil,List.append_nil] at hacc
     subst hacc
     (repeat (first|simp only [↓QA,QB,Nat.reduceLT,reduceIte,Nat.reduceEqDiff,Nat.reduceAdd,Nat.reduceLeDiff,Nat.reduceMul,Nat.reduceBEq,bV,aS,aW,hwn]|refine rd0 rfl ?_))
     refine ⟨n+1,by omega,by omega,?_⟩
     try simp only [aC,QE,Nat.reduceLT,reduceIte,Nat.reduceEqDiff,Nat.reduceAdd,Nat.reduceLeDiff,Nat.reduceMul,Nat.reduceBEq,bV,aS,aW,hwn,hsu]
     try simp [aH]
  ·have hn1:n=v.trams.length:=by simp at h;omega
   subst hn1
   (repeat (first|simp only [↓QA,QB,Nat.reduceLT,reduceIte,Nat.reduceEqDiff,Nat.reduceAdd,Nat.reduceLeDiff,Nat.reduceMul,Nat.reduceBEq,bV,aS,aW]|refine rd0 rfl ?_))
   try try simp only [QS,QC,Nat.reduceLT,reduceIte,Nat.reduceEqDiff,Nat.reduceAdd,Nat.reduceLeDiff,Nat.reduceMul,Nat.reduceBEq,bV,aS,aW]
end Go.Am.Room
set_option maxRecDepth 4000
namespace Go.Am.Room
def bN:=And.intro @bK (And.intro @aK (And.intro @aZ (And.intro @aX (And.intro @aY (And.intro @aT (And.intro @bI (And.intro @bF (And.intro @bE (And.intro @dP (And.intro @dA (And.intro @Nat.not_lt_zero (And.intro @aN (And.intro @bA (And.intro @bR (And.intro @bZ (And.intro @rQ (And.intro @cA (And.intro @aS (@aW)))))))))))))))))))
theorem GQ (v:Net) (h:Fits v):dL T 31 [bM v] (mZ (fO v)):=by
 refine aU (af:=a31) rfl (by simp [a31]) dd ?_
 have hkn:=qU v (bY v).2.2 (fun h0=>dI h0)
 have hta:dB v=cC v (bY v).2.2:=rfl
 (repeat (first|simp only [↓QA,QB,Nat.reduceLT,reduceIte,Nat.reduceEqDiff,Nat.reduceAdd,Nat.reduceLeDiff,Nat.reduceMul,Nat.reduceBEq,bN,a31]|refine rd0 rfl ?_))
 ((first|refine aD (dX v h) rfl dd ?_|refine aE (dX v h) rfl dd ?_);(repeat (first|simp only [↓QA,QB,Nat.reduceLT,reduceIte,Nat.reduceEqDiff,Nat.reduceAdd,Nat.reduceLeDiff,Nat.reduceMul,Nat.reduceBEq,bN,mE]|refine rd0 rfl ?_)))
 cases hek:(dB v==0)
 ·have hek':dB v≠0:=by simpa using hek
  have hr:fO v=([],[],dB v):=by rw [fO,if_neg hek']
  rw [gL,←hta,if_neg hek'] at hkn
  rw [hr]
  ((first|refine aD (hkn) rfl dd ?_|refine aE (hkn) rfl dd ?_);(repeat (first|simp only [↓QA,QB,Nat.reduceLT,reduceIte,Nat.reduceEqDiff,Nat.reduceAdd,Nat.reduceLeDiff,Nat.reduceMul,Nat.reduceBEq,bN,lP,hek]|refine rd0 rfl ?_)))
  try rfl
 ·have hek':dB v=0:=by simpa using hek
  have hv:=(j4 hek').1
  have hnt:=hv.ntr
  have hsome:∀ p,l0 v (bH v [])=some p→fO v=(p,gT v p,0):=fun p hp=>by rw [fO,if_pos hek',hp]
  have hnone:l0 v (bH v [])=none→fO v=([],[],9):=fun hp=>by rw [fO,if_pos hek',hp]
  obtain ⟨MO,hMO⟩:∃ MO,fO v=MO:=⟨_,rfl⟩
  rw [hMO] at hnone
  simp only [hMO] at hsome
  rw [hMO]
  rw [gL,←hta,if_pos hek',hek'] at hkn
  have htc:=mJ hv []
  have hto:=fun s=>xM hv (bl:=[]) (s:=s)
  have hpl:=N4 v hv
  have hpc:(lU v).length≤1000000000:=Nat.le_trans (yW (by have:=hv.nra;omega) _) (Nat.le_trans (Nat.pow_le_pow_right (by omega) hnt) (by decide))
  have hpo:=fun p=>F5q (v:=v) (P:=p)
  obtain ⟨l,hl⟩:∃ l,bH v []=l:=⟨_,rfl⟩
  rw [hl] at htc hkn hnone
  simp only [hl] at hto hsome
  have hb:l0 v l=jB v l (v.trams.length+1) 0:=rfl
  obtain ⟨W,hW⟩:∃ W,l0 v l=W:=⟨_,rfl⟩
  rw [hW] at hb hnone
  simp only [hW] at hsome
  have pf:∀ k m,jB v l (k+1) m=match (lU v).find? (rM v l m) with|some p=>some p|none=>jB v l k (m+1):=fun k m=>rfl
  obtain ⟨L,hL⟩:∃ L,lU v=L:=⟨_,rfl⟩
  rw [hL] at hpl hpc
  simp only [hL] at hpo pf
  ((first|refine aD (hkn) rfl dd ?_|refine aE (hkn) rfl dd ?_);(repeat (first|simp only [↓QA,QB,Nat.reduceLT,reduceIte,Nat.reduceEqDiff,Nat.reduceAdd,Nat.reduceLeDiff,Nat.reduceMul,Nat.reduceBEq,bN,lP,show ((0:Int)==0)=true from rfl]|refine rd0 rfl ?_)))
  ((first|refine aD (hpl) rfl dd ?_|refine aE (hpl) rfl dd ?_);(repeat (first|simp only [↓QA,QB,Nat.reduceLT,reduceIte,Nat.reduceEqDiff,Nat.reduceAdd,Nat.reduceLeDiff,Nat.reduceMul,Nat.reduceBEq,bN]|refine rd0 rfl ?_)))
  refine bT (S:=Nat) 0 (fun m=>m≤v.trams.length+1∧jB v l (v.trams.length+1-m) m=W) (fun m=>v.trams.length+1-m) (fun m=>[(1,.ptr 0 0),(8,dZ l),(9,mU L),(10,.int .i64 m)]) (fun _=>[.cells (aB v)]) ⟨by simp,hb.symm⟩ (by simp [aB,ints]) ?_ fun m hm=>?_
  ·try simp only [aC,QE,Nat.reduceLT,reduceIte,Nat.reduceEqDiff,Nat.reduceAdd,Nat.reduceLeDiff,Nat.reduceMul,Nat.reduceBEq,bN]
   try simp
  ·obtain ⟨hm,hq⟩:=hm
   (repeat (first|simp only [↓QA,QB,Nat.reduceLT,reduceIte,Nat.reduceEqDiff,Nat.reduceAdd,Nat.reduceLeDiff,Nat.reduceMul,Nat.reduceBEq,bN,YD]|refine rd0 rfl ?_))
   refine aG (fun h=>?_) fun h=>?_
   ·have hm1:m<v.trams.length+1:=by
     have h0:(m:Int)≤(v.trams.length:Int):=by simpa using h
     omega
    have hw:=bP hm1 (by omega)
    rw [show v.trams.length+1-m=(v.trams.length+1-(m+1))+1 by omega,pf] at hq
    (repeat (first|simp only [↓QA,QB,Nat.reduceLT,reduceIte,Nat.reduceEqDiff,Nat.reduceAdd,Nat.reduceLeDiff,Nat.reduceMul,Nat.reduceBEq,bN]|refine rd0 rfl ?_))
    refine bT (S:=Nat) 0 (fun j=>j≤L.length∧(L.drop j).find? (rM v l m)=L.find? (rM v l m)) (fun j=>L.length-j) (fun j=>[(1,.ptr 0 0),(8,dZ l),(9,mU L),(10,.int .i64 m),(11,.int .i64 j)]) (fun _=>[.cells (aB v)]) ⟨by simp,by simp⟩ (by simp [aB,ints]) ?_ fun j hj=>?_
    ·try simp only [aC,QE,Nat.reduceLT,reduceIte,Nat.reduceEqDiff,Nat.reduceAdd,Nat.reduceLeDiff,Nat.reduceMul,Nat.reduceBEq,bN]
     try simp
    ·obtain ⟨hj,hfj⟩:=hj
     (repeat (first|simp only [↓QA,QB,Nat.reduceLT,reduceIte,Nat.reduceEqDiff,Nat.reduceAdd,Nat.reduceLeDiff,Nat.reduceMul,Nat.reduceBEq,bN,XZ]|refine rd0 rfl ?_))
     refine aG (fun h2=>?_) fun h2=>?_
     ·have hj1:j<L.length:=by simpa using h2
      have hw2:=bP hj1 (by omega)
      have hro:=hpo _ (List.getElem_mem hj1)
      rw [List.drop_eq_getElem_cons hj1,List.find?_cons] at hfj
      obtain ⟨p,hp⟩:∃ p,L[j]=p:=⟨_,rfl⟩
      rw [hp] at hro hfj
      have hmo:=NB v hv p (by rw [hro.len];exact Nat.le_refl _) (fun q hq=>Nat.lt_of_le_of_lt (hro.few q hq) (by omega))
      have hml:=DU v p
      have hpp:=hro.len
      have hdo:=TD v hv l hto htc p hro
      have hpk:rM v l m p=(((gT v p).length:Int)==(m:Int)&&zJ v l p):=by
       rw [rM,LK]
       congr 1
      obtain ⟨MV,hMV⟩:∃ MV,gT v p=MV:=⟨_,rfl⟩
      rw [hMV] at hmo hml hpk
      rw [hpk] at hfj
      simp only [cA,bJ] at hmo hdo
      (repeat (first|simp only [↓QA,QB,Nat.reduceLT,reduceIte,Nat.reduceEqDiff,Nat.reduceAdd,Nat.reduceLeDiff,Nat.reduceMul,Nat.reduceBEq,bN,hj1,hp,bJ]|refine rd0 rfl ?_))
      ((first|refine aD (hmo) rfl dd ?_|refine aE (hmo) rfl dd ?_);(repeat (first|simp only [↓QA,QB,Nat.reduceLT,reduceIte,Nat.reduceEqDiff,Nat.reduceAdd,Nat.reduceLeDiff,Nat.reduceMul,Nat.reduceBEq,bN,hj1,hp,bJ]|refine rd0 rfl ?_)))
      cases q1:((MV.length:Int)==(m:Int))
      ·rw [q1,Bool.false_and] at hfj
       (repeat (first|simp only [↓QA,QB,Nat.reduceLT,reduceIte,Nat.reduceEqDiff,Nat.reduceAdd,Nat.reduceLeDiff,Nat.reduceMul,Nat.reduceBEq,bN,q1,hw2,hj1,hp,bJ]|refine rd0 rfl ?_))
       refine ⟨j+1,⟨by omega,hfj⟩,by omega,?_⟩
       try simp only [aC,QE,Nat.reduceLT,reduceIte,Nat.reduceEqDiff,Nat.reduceAdd,Nat.reduceLeDiff,Nat.reduceMul,Nat.reduceBEq,bN,hw2]
       try simp [aH]
      ·rw [q1,Bool.true_and] at hfj
       (repeat (first|simp only [↓QA,QB,Nat.reduceLT,reduceIte,Nat.reduceEqDiff,Nat.reduceAdd,Nat.reduceLeDiff,Nat.reduceMul,Nat.reduceBEq,bN,q1,hj1,hp,bJ]|refine rd0 rfl ?_))
       ((first|refine aD (hdo) rfl dd ?_|refine aE (hdo) rfl dd ?_);(repeat (first|simp only [↓QA,QB,Nat.reduceLT,reduceIte,Nat.reduceEqDiff,Nat.reduceAdd,Nat.reduceLeDiff,Nat.reduceMul,Nat.reduceBEq,bN,hj1,hp,bJ]|refine rd0 rfl ?_)))
       cases q2:zJ v l p
       ·rw [q2] at hfj
        (repeat (first|simp only [↓QA,QB,Nat.reduceLT,reduceIte,Nat.reduceEqDiff,Nat.reduceAdd,Nat.reduceLeDiff,Nat.reduceMul,Nat.reduceBEq,bN,hw2,hj1,hp,bJ]|refine rd0 rfl ?_))
        refine ⟨j+1,⟨by omega,hfj⟩,by omega,?_⟩
        try simp only [aC,QE,Nat.reduceLT,reduceIte,Nat.reduceEqDiff,Nat.reduceAdd,Nat.reduceLeDiff,Nat.reduceMul,Nat.reduceBEq,bN,hw2]
        try simp [aH]
       ·rw [q2] at hfj
        rw [←hfj] at hq
        simp only at hq
        have hres:=hsome p hq.symm
        rw [hMV] at hres
        subst hres
        (repeat (first|simp only [↓QA,QB,Nat.reduceLT,reduceIte,Nat.reduceEqDiff,Nat.reduceAdd,Nat.reduceLeDiff,Nat.reduceMul,Nat.reduceBEq,bN,hj1,hp,bJ]|refine rd0 rfl ?_))
        ((first|refine aD (hmo) rfl dd ?_|refine aE (hmo) rfl dd ?_);(repeat (first|simp only [↓QA,QB,Nat.reduceLT,reduceIte,Nat.reduceEqDiff,Nat.reduceAdd,Nat.reduceLeDiff,Nat.reduceMul,Nat.reduceBEq,bN,hj1,hp,bJ,mZ]|refine rd0 rfl ?_)))
        try try simp only [QS,QC,Nat.reduceLT,reduceIte,Nat.reduceEqDiff,Nat.reduceAdd,Nat.reduceLeDiff,Nat.reduceMul,Nat.reduceBEq,bN]
     ·have hj1:j=L.length:=by
       have:¬j<L.length:=by simpa using h2
       omega
      rw [hj1,List.drop_length,List.find?_nil] at hfj
      rw [←hfj] at hq
      simp only at hq
      (repeat (first|simp only [↓QA,QB,Nat.reduceLT,reduceIte,Nat.reduceEqDiff,Nat.reduceAdd,Nat.reduceLeDiff,Nat.reduceMul,Nat.reduceBEq,bN,hw]|refine rd0 rfl ?_))
      refine ⟨m+1,⟨by omega,hq⟩,by omega,?_⟩
      try simp only [aC,QE,Nat.reduceLT,reduceIte,Nat.reduceEqDiff,Nat.reduceAdd,Nat.reduceLeDiff,Nat.reduceMul,Nat.reduceBEq,bN,hw]
      try simp [aH]
   ·have hm1:m=v.trams.length+1:=by
     have h0:¬(m:Int)≤(v.trams.length:Int):=by simpa using h
     omega
    rw [hm1,Nat.sub_self] at hq
    simp only [jB] at hq
    have hres:=hnone hq.symm
    subst hres
    (repeat (first|simp only [↓QA,QB,Nat.reduceLT,reduceIte,Nat.reduceEqDiff,Nat.reduceAdd,Nat.reduceLeDiff,Nat.reduceMul,Nat.reduceBEq,bN,mZ,bJ,List.map_nil]|refine rd0 rfl ?_))
    try rfl
end Go.Am.Room
set_option maxRecDepth 8000
namespace Go.Am.Room
theorem v9 {v:Net} {l:List State}:∀ {k m:Nat} {p:List (List Int)},jB v l k m=some p→p∈lU v∧zJ v l p=true∧m≤(gT v p).length∧(gT v p).length<m+k
 |0,m,p,h=>by simp [jB] at h
 |k+1,m,p,h=>by
  simp only [jB] at h
  split at h
  ·rename_i q hq
   cases h
   have h1:=List.find?_some hq
   rw [rM,Bool.and_eq_true,beq_iff_eq] at h1
   exact ⟨List.mem_of_find?_eq_some hq,h1.2,by omega,by omega⟩
  ·have:=v9 h
   exact ⟨this.1,this.2.1,by omega,by omega⟩
theorem T3 (v:Net):((fO v).1.length≤1000∧∀ r∈(fO v).1,r.length≤4)∧(fO v).2.1.length≤3:=by
 unfold fO
 split
 ·rename_i h0
  have hv:=(j4 h0).1
  have hn:=hv.ntr
  split
  ·rename_i p hp
   have hm:=(v9 hp).1
   have hl:=tV v _ p hm
   have hr:=F5q hm
   have h2:=DU v p
   exact ⟨⟨by simp only;omega,fun r hr2=>hr.few r hr2⟩,by simp only;omega⟩
  ·simp
 ·simp
theorem FQ (v:Net) (hf:Fits v):dL T 5 [bM v] (.bool true):=by
 refine aU (af:=a5) rfl (by simp [a5]) dd ?_
 have h1:=T3 v
 (repeat (first|simp only [↓QA,QB,Nat.reduceLT,reduceIte,Nat.reduceEqDiff,Nat.reduceAdd,Nat.reduceLeDiff,Nat.reduceMul,Nat.reduceBEq,bC,a5]|refine rd0 rfl ?_))
 ((first|refine aD (xH v hf) rfl dd ?_|refine aE (xH v hf) rfl dd ?_);(repeat (first|simp only [↓QA,QB,Nat.reduceLT,reduceIte,Nat.reduceEqDiff,Nat.reduceAdd,Nat.reduceLeDiff,Nat.reduceMul,Nat.reduceBEq,bC,mZ]|refine rd0 rfl ?_)))
 ((first|refine aD (GQ v hf) rfl dd ?_|refine aE (GQ v hf) rfl dd ?_);(repeat (first|simp only [↓QA,QB,Nat.reduceLT,reduceIte,Nat.reduceEqDiff,Nat.reduceAdd,Nat.reduceLeDiff,Nat.reduceMul,Nat.reduceBEq,bC,mZ]|refine rd0 rfl ?_)))
 ((first|refine aD (n8 (fO v).1 h1.1) rfl dd ?_|refine aE (n8 (fO v).1 h1.1) rfl dd ?_);(repeat (first|simp only [↓QA,QB,Nat.reduceLT,reduceIte,Nat.reduceEqDiff,Nat.reduceAdd,Nat.reduceLeDiff,Nat.reduceMul,Nat.reduceBEq,bC,eq_self]|refine rd0 rfl ?_)))
 ((first|refine aD (eZ (fO v).2.1 (fO v).2.1 (by omega) (by omega)) rfl dd ?_|refine aE (eZ (fO v).2.1 (fO v).2.1 (by omega) (by omega)) rfl dd ?_);(repeat (first|simp only [↓QA,QB,Nat.reduceLT,reduceIte,Nat.reduceEqDiff,Nat.reduceAdd,Nat.reduceLeDiff,Nat.reduceMul,Nat.reduceBEq,bC,eq_self]|refine rd0 rfl ?_)))
 refine aD xE rfl fC ?_
 (repeat (first|simp only [↓QA,QB,Nat.reduceLT,reduceIte,Nat.reduceEqDiff,Nat.reduceAdd,Nat.reduceLeDiff,Nat.reduceMul,Nat.reduceBEq,bC]|refine rd0 rfl ?_))
end Go.Am.Room
