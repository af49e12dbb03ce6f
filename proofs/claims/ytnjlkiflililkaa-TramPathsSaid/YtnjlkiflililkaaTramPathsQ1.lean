/- A part of the proof of TramPaths: an abstract machine, or what functions come to on it. -/
import Derived.Test.YtnjlkiflililkaaCmqQ7
set_option linter.unusedVariables false
set_option linter.unusedSimpArgs false
set_option linter.defProp false
namespace Go.Am.Room
open Go
variable {P:Program}
theorem P1 {n:Nat} {cs:List AV} (T:Tys P) (h:Typ P (n+1) 3 cs):∃ x:Int,mkV P 3 cs = .int .i64 x∧True:=TG T.int h
end Go.Am.Room
set_option maxRecDepth 4000
namespace Go.Am.Room
def bW:=And.intro @bK (And.intro @aK (And.intro @aZ (And.intro @aX (And.intro @aY (And.intro @aT (And.intro @bI (And.intro @bF (And.intro @bE (And.intro @dP (And.intro @dA (@Nat.not_lt_zero)))))))))))
def zV (v:Net) (but l:List Int) (k:Int):List (List Int):=((aR k ((v.rails.length:Int)-k).toNat).filter (sR v but l)).map fun r=>l++[r]
theorem aAM (v:Net) (but l:List Int):zV v but l 0=sK v but l:=by simp [zV,sK]
theorem MY {v:Net} {k:Nat} (h:k<v.rails.length) (but l:List Int):zV v but l k=(if sR v but l (k:Int)=true then [l++[(k:Int)]] else [])++zV v but l ((k+1:Nat):Int):=by
 have:=lN (a:=(k:Int)) (below:=v.rails.length) (by omega)
 rw [zV,this,List.filter_cons,show (k:Int)+1=((k+1:Nat):Int) by omega]
 split<;>rfl
theorem PZ (v:Net) (but l:List Int):zV v but l (v.rails.length:Int)=[]:=by
 rw [zV,jY (by omega)];rfl
theorem CT (v:Net) (hv:Vd v) (s:Int) (but:List Int) (hbu:but.length<9223372036854775808):dL T 51 [bM v,.int .i64 s,ints but] (aJ (dQ v s but)):=by
 refine aU (af:=a51) rfl (by simp [a51]) dd ?_
 have hnr:=hv.nra
 obtain ⟨Z,hZ⟩:∃ Z,dQ v s but=Z:=⟨_,rfl⟩
 have hZ':fD v s but 4=Z:=hZ
 rw [hZ]
 (repeat (first|simp only [↓QA,QB,Nat.reduceLT,reduceIte,Nat.reduceEqDiff,Nat.reduceAdd,Nat.reduceLeDiff,Nat.reduceMul,Nat.reduceBEq,bW,a51]|refine rd0 rfl ?_))
 refine hH 7 1 [] rfl ?_
 refine bT (S:=Nat×Bool) (0,false) (fun a=>a.1≤4) (fun a=>4-a.1)
  (fun a=>[(1,.int .i64 s),(2,ints but),(3,.ptr 0 0),(7,.lit ((fD v s but a.1).map ints) false (some 1)),(8,aJ (gD v but a.1)),(9,.int .i64 ((a.1+1:Nat):Int))])
  (fun a=>[.cells (aB v),.tok 1 (fD v s but a.1).length a.2]) (Nat.zero_le _) (by simp [aB,ints,fD]) ?_ fun a hk=>?_
 ·try simp only [aC,QE,Nat.reduceLT,reduceIte,Nat.reduceEqDiff,Nat.reduceAdd,Nat.reduceLeDiff,Nat.reduceMul,Nat.reduceBEq,bW]
  simp [aJ,ints,gD,fD,clr,clrs]
 ·obtain ⟨k,ex⟩:=a
  simp only at hk
  (repeat (first|simp only [↓QA,QB,Nat.reduceLT,reduceIte,Nat.reduceEqDiff,Nat.reduceAdd,Nat.reduceLeDiff,Nat.reduceMul,Nat.reduceBEq,bW,ZW,aJ]|refine rd0 rfl ?_))
  refine aG (fun h=>?_) fun h=>?_
  ·have hk1:k<4:=by
    have h0:((k+1:Nat):Int)≤4:=by simpa using h
    omega
   have hwn:IntKind.i64.wrap (((k+1:Nat):Int)+1)=((k+1+1:Nat):Int):=bP (show k+1<6 by omega) (by omega)
   have c1:=vQ (v:=v) (by omega) s but (show k≤4 by omega)
   have c2:=vQ (v:=v) (by omega) s but (show k+1≤4 by omega)
   have c3:=k7 v but (by omega) (k+1)
   have c6:=k7 v but (by omega) k
   have p6:5^k≤5^4:=Nat.pow_le_pow_right (by omega) (by omega)
   have c4:=uU v but k
   have c5:=xG v but k
   have p5:5^(k+1)≤5^4:=Nat.pow_le_pow_right (by omega) (by omega)
   have p5':(5:Nat)^4=625:=rfl
   obtain ⟨W,hW⟩:∃ W,gD v but k=W:=⟨_,rfl⟩
   obtain ⟨X,hX⟩:∃ X,gD v but (k+1)=X:=⟨_,rfl⟩
   obtain ⟨O,hO⟩:∃ O,fD v s but k=O:=⟨_,rfl⟩
   obtain ⟨Y,hY⟩:∃ Y,fD v s but (k+1)=Y:=⟨_,rfl⟩
   rw [hO] at c1
   rw [hY] at c2
   rw [hX] at c3
   rw [hW] at c4 c5 c6
   have hX':W.flatMap (sK v but)=X:=by rw [←hX,←hW];rfl
   have hY':O++(W.flatMap (sK v but)).filter (fP v s)=Y:=by rw [←hY,←hO,hX',←hX];rfl
   rw [hW,hO]
   (repeat (first|simp only [↓QA,QB,Nat.reduceLT,reduceIte,Nat.reduceEqDiff,Nat.reduceAdd,Nat.reduceLeDiff,Nat.reduceMul,Nat.reduceBEq,bW]|refine rd0 rfl ?_))
   refine hH 10 1 [] rfl ?_
   refine bT (S:=Nat×List (List Int)×List (List Int)×Bool×Bool) (0,O,[],ex,false) (fun a=>a.1≤W.length∧a.2.2.1++(W.drop a.1).flatMap (sK v but)=X∧a.2.1++((W.drop a.1).flatMap (sK v but)).filter (fP v s)=Y) (fun a=>W.length-a.1)
    (fun a=>[(1,.int .i64 s),(2,ints but),(3,.ptr 0 0),(7,.lit (a.2.1.map ints) false (some 1)),(8,aJ W),(9,.int .i64 ((k+1:Nat):Int)),(10,.lit (a.2.2.1.map ints) false (some 2)),(11,.int .i64 a.1)])
    (fun a=>[.cells (aB v),.tok 1 a.2.1.length a.2.2.2.1,.tok 1 a.2.2.1.length a.2.2.2.2]) ⟨Nat.zero_le _,by simpa using hX',by simpa using hY'⟩ (by simp [aB,ints]) ?_ fun a ha=>?_
   ·try simp only [aC,QE,Nat.reduceLT,reduceIte,Nat.reduceEqDiff,Nat.reduceAdd,Nat.reduceLeDiff,Nat.reduceMul,Nat.reduceBEq,bW,aJ,ints]
    try simp
   ·obtain ⟨i,O,A,ex,ex2⟩:=a
    obtain ⟨hi,hA,hB⟩:=ha
    simp only at hi hA hB
    (repeat (first|simp only [↓QA,QB,Nat.reduceLT,reduceIte,Nat.reduceEqDiff,Nat.reduceAdd,Nat.reduceLeDiff,Nat.reduceMul,Nat.reduceBEq,bW,XH,aJ]|refine rd0 rfl ?_))
    refine aG (fun h2=>?_) fun h2=>?_
    ·have hi1:i<W.length:=by simpa using h2
     have hwi:=bP hi1 (by omega)
     obtain ⟨l,hl⟩:∃ l,W[i]=l:=⟨_,rfl⟩
     have hll:=c4 _ (List.getElem_mem hi1)
     have hlr:=c5 _ (List.getElem_mem hi1)
     rw [hl] at hll hlr
     rw [List.drop_eq_getElem_cons hi1,hl,List.flatMap_cons,←aAM] at hA hB
     rw [List.filter_append] at hB
     obtain ⟨F,hF⟩:∃ F,(W.drop (i+1)).flatMap (sK v but)=F:=⟨_,rfl⟩
     rw [hF] at hA hB
     (repeat (first|simp only [↓QA,QB,Nat.reduceLT,reduceIte,Nat.reduceEqDiff,Nat.reduceAdd,Nat.reduceLeDiff,Nat.reduceMul,Nat.reduceBEq,bW]|refine rd0 rfl ?_))
     refine bT (S:=Nat×List (List Int)×List (List Int)×Bool×Bool×St) (0,O,A,ex,ex2,[]) (fun a=>a.1≤v.rails.length∧a.2.2.1++(zV v but l a.1++F)=X∧a.2.1++((zV v but l a.1).filter (fP v s)++F.filter (fP v s))=Y) (fun a=>v.rails.length-a.1)
      (fun a=>[(1,.int .i64 s),(2,ints but),(3,.ptr 0 0),(7,.lit (a.2.1.map ints) false (some 1)),(8,aJ W),(9,.int .i64 ((k+1:Nat):Int)),(10,.lit (a.2.2.1.map ints) false (some 2)),(11,.int .i64 i),(12,.int .i64 a.1)])
      (fun a=>.cells (aB v)::.tok 1 a.2.1.length a.2.2.2.1::.tok 1 a.2.2.1.length a.2.2.2.2.1::a.2.2.2.2.2) ⟨Nat.zero_le _,hA,hB⟩ (by simp [aB]) ?_ fun a ha=>?_
     ·try simp only [aC,QE,Nat.reduceLT,reduceIte,Nat.reduceEqDiff,Nat.reduceAdd,Nat.reduceLeDiff,Nat.reduceMul,Nat.reduceBEq,bW,aJ,ints]
      try simp
     ·obtain ⟨r,O,A,ex,ex2,τ⟩:=a
      obtain ⟨hr,hA,hB⟩:=ha
      simp only at hr hA hB
      (repeat (first|simp only [↓QA,QB,Nat.reduceLT,reduceIte,Nat.reduceEqDiff,Nat.reduceAdd,Nat.reduceLeDiff,Nat.reduceMul,Nat.reduceBEq,bW,ZY,aJ]|refine rd0 rfl ?_))
      refine aG (fun h3=>?_) fun h3=>?_
      ·have hr1:r<v.rails.length:=by simpa using h3
       have hwr:=bP hr1 (by omega)
       rw [MY hr1] at hA hB
       have hrk:sR v but l (r:Int)=(!decide (v.rails[r].shut=1)&&!but.contains (r:Int)&&!l.contains (r:Int)):=by rw [sR,wL hr1]
       obtain ⟨z,hz⟩:∃ z,v.rails[r]=z:=⟨_,rfl⟩
       rw [hz] at hrk
       obtain ⟨G,hG⟩:∃ G,zV v but l ((r+1:Nat):Int)=G:=⟨_,rfl⟩
       have no:sR v but l (r:Int)=false→A++(zV v but l ((r+1:Nat):Int)++F)=X∧O++((zV v but l ((r+1:Nat):Int)).filter (fP v s)++F.filter (fP v s))=Y:=fun q=>by
        rw [q] at hA hB
        exact ⟨by simpa using hA,by simpa using hB⟩
       have hzs:(z.shut==1)=decide (z.shut=1):=by rw [Bool.eq_iff_iff];simp
       rw [←hzs] at hrk
       (repeat (first|simp only [↓QA,QB,Nat.reduceLT,reduceIte,Nat.reduceEqDiff,Nat.reduceAdd,Nat.reduceLeDiff,Nat.reduceMul,Nat.reduceBEq,bW,hr1,hz]|refine rd0 rfl ?_))
       cases q0:(z.shut==1)
       ·(repeat (first|simp only [↓QA,QB,Nat.reduceLT,reduceIte,Nat.reduceEqDiff,Nat.reduceAdd,Nat.reduceLeDiff,Nat.reduceMul,Nat.reduceBEq,bW,q0]|refine rd0 rfl ?_))
        ((first|refine aD (sO but (r:Int) hbu) rfl dd ?_|refine aE (sO but (r:Int) hbu) rfl dd ?_);(repeat (first|simp only [↓QA,QB,Nat.reduceLT,reduceIte,Nat.reduceEqDiff,Nat.reduceAdd,Nat.reduceLeDiff,Nat.reduceMul,Nat.reduceBEq,bW,hi1,hl,aJ]|refine rd0 rfl ?_)))
        cases q1:but.contains (r:Int)
        ·(repeat (first|simp only [↓QA,QB,Nat.reduceLT,reduceIte,Nat.reduceEqDiff,Nat.reduceAdd,Nat.reduceLeDiff,Nat.reduceMul,Nat.reduceBEq,bW,hi1,hl,aJ]|refine rd0 rfl ?_))
         ((first|refine aD (sO l (r:Int) (by omega)) rfl dd ?_|refine aE (sO l (r:Int) (by omega)) rfl dd ?_);(repeat (first|simp only [↓QA,QB,Nat.reduceLT,reduceIte,Nat.reduceEqDiff,Nat.reduceAdd,Nat.reduceLeDiff,Nat.reduceMul,Nat.reduceBEq,bW,hi1,hl,aJ]|refine rd0 rfl ?_)))
         cases q2:l.contains (r:Int)
         ·rw [q0,q1,q2] at hrk
          rw [hrk] at hA hB
          simp only [Bool.not_false,Bool.and_self,if_true,List.singleton_append,List.cons_append,List.filter_cons] at hA hB
          have hal:A.length≤700:=by
           have:=congrArg List.length hA
           simp only [List.length_append] at this
           omega
          have hol:O.length≤1000:=by
           have:=congrArg List.length hB
           simp only [List.length_append] at this
           omega
          have a0:∀ (σ:St),cO 1 8 σ (.lit [] true none) (.lit (l.map (.int .i64)) false none)=some ((n5 1 σ (l.map (.int .i64))).1,(n5 1 σ (l.map (.int .i64))).2):=fun σ=>zZ ⟨rfl,gK l,by simp [room];omega,by simp [room];omega⟩
          have a1:∀ (σ:St),cO 1 8 (n5 1 σ (l.map (.int .i64))).2 (n5 1 σ (l.map (.int .i64))).1 (.lit [.int .i64 r] true none)=some (.lit (l.map (.int .i64)++[.int .i64 r]) false (some σ.length),σ++[.tok 1 (l.length+1) true]):=fun σ=>by
           rw [uS ⟨gK l,by simp [aL,AV.cells,AV.cell],by simp [room];omega,by simp [room];omega⟩ (by simp)]
           simp
          have a2:=fun (b0 b1:ABlk) (τ:St) (t:Nat)=>iJ (σ:=b0::b1::.tok 1 A.length ex2::τ) (t:=2) (ex:=ex2) (sz:=1) (b:=24) (xs:=A.map ints) (ys:=[.lit (l.map (.int .i64)++[.int .i64 r]) false (some t)]) (f:=true) (tk:=none) ⟨fR A,by simp [aL,AV.cells,AV.cell],by simp [room];omega,by simp [room];omega⟩ (by simp) A.length (by simp) rfl
          have a3:=fun (b0:ABlk) (τ:St) (t:Nat)=>iJ (σ:=b0::.tok 1 O.length ex::τ) (t:=1) (ex:=ex) (sz:=1) (b:=24) (xs:=O.map ints) (ys:=[.lit (l.map (.int .i64)++[.int .i64 r]) false (some t)]) (f:=true) (tk:=none) ⟨fR O,by simp [aL,AV.cells,AV.cell],by simp [room];omega,by simp [room];omega⟩ (by simp) O.length (by simp) rfl
          have hld:=xT v s (l++[(r:Int)]) (fun x hx=>by
           rcases List.mem_append.1 hx with hx|hx
           ·exact hlr x hx
           ·simp only [List.mem_singleton] at hx;subst hx;omega) (by simp;omega)
          have hml:(l++[(r:Int)]).map (AV.int .i64)=l.map (.int .i64)++[.int .i64 r]:=by simp
          simp only [ints,hml] at hld
          (repeat (first|simp only [↓QA,QB,Nat.reduceLT,reduceIte,Nat.reduceEqDiff,Nat.reduceAdd,Nat.reduceLeDiff,Nat.reduceMul,Nat.reduceBEq,bW,hi1,hl,ints,a0,a1,a2]|refine rd0 rfl ?_))
          ((first|refine uI (hld) (by try simp only [QS,QC,Nat.reduceLT,reduceIte,Nat.reduceEqDiff,Nat.reduceAdd,Nat.reduceLeDiff,Nat.reduceMul,Nat.reduceBEq,bW]) trivial ?_|refine wU (hld) (by try simp only [QS,QC,Nat.reduceLT,reduceIte,Nat.reduceEqDiff,Nat.reduceAdd,Nat.reduceLeDiff,Nat.reduceMul,Nat.reduceBEq,bW]) trivial ?_);(repeat (first|simp only [↓QA,QB,Nat.reduceLT,reduceIte,Nat.reduceEqDiff,Nat.reduceAdd,Nat.reduceLeDiff,Nat.reduceMul,Nat.reduceBEq,bW,a3]|refine rd0 rfl ?_)))
          cases q3:fP v s (l++[(r:Int)])
          ·rw [q3] at hB
           (repeat (first|simp only [↓QA,QB,Nat.reduceLT,reduceIte,Nat.reduceEqDiff,Nat.reduceAdd,Nat.reduceLeDiff,Nat.reduceMul,Nat.reduceBEq,bW,hwr]|refine rd0 rfl ?_))
           refine ⟨(r+1,O,A++[l++[(r:Int)]],ex,true,τ),⟨by simp only;omega,by rw [←hA];simp,by simpa using hB⟩,by simp only;omega,?_⟩
           try simp only [aC,QE,Nat.reduceLT,reduceIte,Nat.reduceEqDiff,Nat.reduceAdd,Nat.reduceLeDiff,Nat.reduceMul,Nat.reduceBEq,bW,hwr,aJ,ints,List.map_append,List.map_cons,List.map_nil]
           try simp [aH]
          ·rw [q3] at hB
           (repeat (first|simp only [↓QA,QB,Nat.reduceLT,reduceIte,Nat.reduceEqDiff,Nat.reduceAdd,Nat.reduceLeDiff,Nat.reduceMul,Nat.reduceBEq,bW,hwr,a3]|refine rd0 rfl ?_))
           refine ⟨(r+1,O++[l++[(r:Int)]],A++[l++[(r:Int)]],true,true,τ),⟨by simp only;omega,by rw [←hA];simp,by rw [←hB];simp⟩,by simp only;omega,?_⟩
           try simp only [aC,QE,Nat.reduceLT,reduceIte,Nat.reduceEqDiff,Nat.reduceAdd,Nat.reduceLeDiff,Nat.reduceMul,Nat.reduceBEq,bW,hwr,aJ,ints,List.map_append,List.map_cons,List.map_nil]
           try simp [aH]
         ·have nn:=no (by rw [hrk,q2];simp)
          (repeat (first|simp only [↓QA,QB,Nat.reduceLT,reduceIte,Nat.reduceEqDiff,Nat.reduceAdd,Nat.reduceLeDiff,Nat.reduceMul,Nat.reduceBEq,bW,hwr]|refine rd0 rfl ?_))
          refine ⟨(r+1,O,A,ex,ex2,τ),⟨by simp only;omega,nn⟩,by simp only;omega,?_⟩
          try simp only [aC,QE,Nat.reduceLT,reduceIte,Nat.reduceEqDiff,Nat.reduceAdd,Nat.reduceLeDiff,Nat.reduceMul,Nat.reduceBEq,bW,hwr,aJ,ints]
          try simp [aH]
        ·have nn:=no (by rw [hrk,q1];simp)
         (repeat (first|simp only [↓QA,QB,Nat.reduceLT,reduceIte,Nat.reduceEqDiff,Nat.reduceAdd,Nat.reduceLeDiff,Nat.reduceMul,Nat.reduceBEq,bW,hwr]|refine rd0 rfl ?_))
         refine ⟨(r+1,O,A,ex,ex2,τ),⟨by simp only;omega,nn⟩,by simp only;omega,?_⟩
         try simp only [aC,QE,Nat.reduceLT,reduceIte,Nat.reduceEqDiff,Nat.reduceAdd,Nat.reduceLeDiff,Nat.reduceMul,Nat.reduceBEq,bW,hwr,aJ,ints]
         try simp [aH]
       ·have nn:=no (by rw [hrk,q0];simp)
        (repeat (first|simp only [↓QA,QB,Nat.reduceLT,reduceIte,Nat.reduceEqDiff,Nat.reduceAdd,Nat.reduceLeDiff,Nat.reduceMul,Nat.reduceBEq,bW,q0,hwr]|refine rd0 rfl ?_))
        refine ⟨(r+1,O,A,ex,ex2,τ),⟨by simp only;omega,nn⟩,by simp only;omega,?_⟩
        try simp only [aC,QE,Nat.reduceLT,reduceIte,Nat.reduceEqDiff,Nat.reduceAdd,Nat.reduceLeDiff,Nat.reduceMul,Nat.reduceBEq,bW,hwr,aJ,ints]
        try simp [aH]
      ·have hr1:r=v.rails.length:=by simp at h3;omega
       rw [hr1,PZ] at hA hB
       simp only [List.nil_append,List.filter_nil] at hA hB
       (repeat (first|simp only [↓QA,QB,Nat.reduceLT,reduceIte,Nat.reduceEqDiff,Nat.reduceAdd,Nat.reduceLeDiff,Nat.reduceMul,Nat.reduceBEq,bW,hwi]|refine rd0 rfl ?_))
       refine ⟨(i+1,O,A,ex,ex2),⟨by simp only;omega,by rw [hF];exact hA,by rw [hF];exact hB⟩,by simp only;omega,?_⟩
       try simp only [aC,QE,Nat.reduceLT,reduceIte,Nat.reduceEqDiff,Nat.reduceAdd,Nat.reduceLeDiff,Nat.reduceMul,Nat.reduceBEq,bW,hwi,aJ,ints]
       try simp [aH]
    ·have hi1:i=W.length:=by simp at h2;omega
     rw [hi1,List.drop_length] at hA hB
     simp only [List.flatMap_nil,List.append_nil,List.filter_nil] at hA hB
     subst hA hB
     (repeat (first|simp only [↓QA,QB,Nat.reduceLT,reduceIte,Nat.reduceEqDiff,Nat.reduceAdd,Nat.reduceLeDiff,Nat.reduceMul,Nat.reduceBEq,bW,hwn]|refine rd0 rfl ?_))
     refine ⟨(k+1,ex),by simp only;omega,by simp only;omega,?_⟩
     try simp only [aC,QE,Nat.reduceLT,reduceIte,Nat.reduceEqDiff,Nat.reduceAdd,Nat.reduceLeDiff,Nat.reduceMul,Nat.reduceBEq,bW,hwn,hX,hY,aJ,ints]
     try simp [aH]
  ·have hk1:k=4:=by
    have h0:¬((k+1:Nat):Int)≤4:=by simpa using h
    omega
   subst hk1
   rw [hZ']
   (repeat (first|simp only [↓QA,QB,Nat.reduceLT,reduceIte,Nat.reduceEqDiff,Nat.reduceAdd,Nat.reduceLeDiff,Nat.reduceMul,Nat.reduceBEq,bW,aJ]|refine rd0 rfl ?_))
   try try simp only [QS,QC,Nat.reduceLT,reduceIte,Nat.reduceEqDiff,Nat.reduceAdd,Nat.reduceLeDiff,Nat.reduceMul,Nat.reduceBEq,bW]
theorem K8 (v:Net) (s:Int):clrs [bM v,.int .i64 s,.lit [] true none]=[bM v,.int .i64 s,ints []]:=by simp [clrs,(o4 v).2,clr,ints]
theorem CH (v:Net) (s:Int):okVs 0 [bM v,.int .i64 s,.lit [] true none]:=⟨(o4 v).1,by simp [okV,okVs],by simp [okV,okVs],trivial⟩
theorem DH (v:Net) (h:Fits v) (s:Int):dL T 20 [bM v,.int .i64 s] (oO (gI v s)):=by
 refine aU (af:=a20) rfl (by simp [a20]) dd ?_
 (repeat (first|simp only [↓QA,QB,Nat.reduceLT,reduceIte,Nat.reduceEqDiff,Nat.reduceAdd,Nat.reduceLeDiff,Nat.reduceMul,Nat.reduceBEq,bW,a20]|refine rd0 rfl ?_))
 ((first|refine aD (dX v h) rfl dd ?_|refine aE (dX v h) rfl dd ?_);(repeat (first|simp only [↓QA,QB,Nat.reduceLT,reduceIte,Nat.reduceEqDiff,Nat.reduceAdd,Nat.reduceLeDiff,Nat.reduceMul,Nat.reduceBEq,bW,mE]|refine rd0 rfl ?_)))
 cases h0:((bY v).2.2==0)
 ·have h0':(bY v).2.2≠0:=by simpa using h0
  (repeat (first|simp only [↓QA,QB,Nat.reduceLT,reduceIte,Nat.reduceEqDiff,Nat.reduceAdd,Nat.reduceLeDiff,Nat.reduceMul,Nat.reduceBEq,bW,h0]|refine rd0 rfl ?_))
  simp [gI,h0',oO,aJ]
 ·have h0':(bY v).2.2=0:=by simpa using h0
  have hv:=dI h0'
  (repeat (first|simp only [↓QA,QB,Nat.reduceLT,reduceIte,Nat.reduceEqDiff,Nat.reduceAdd,Nat.reduceLeDiff,Nat.reduceMul,Nat.reduceBEq,bW,h0]|refine rd0 rfl ?_))
  ((first|refine aD (iT v s hv.st) rfl dd ?_|refine aE (iT v s hv.st) rfl dd ?_);(repeat (first|simp only [↓QA,QB,Nat.reduceLT,reduceIte,Nat.reduceEqDiff,Nat.reduceAdd,Nat.reduceLeDiff,Nat.reduceMul,Nat.reduceBEq,bW,h0]|refine rd0 rfl ?_)))
  cases h1:nC v s
  ·have hp:gI v s=([],4):=by simp [gI,h0',h1]
   rw [hp]
   simp only [Bool.not_false,j5]
   (repeat (first|simp only [↓QA,QB,Nat.reduceLT,reduceIte,Nat.reduceEqDiff,Nat.reduceAdd,Nat.reduceLeDiff,Nat.reduceMul,Nat.reduceBEq,bW,show ((4:Int)==0)=false from rfl,oO,aJ,List.map_nil]|refine rd0 rfl ?_))
   try try simp only [QS,QC,Nat.reduceLT,reduceIte,Nat.reduceEqDiff,Nat.reduceAdd,Nat.reduceLeDiff,Nat.reduceMul,Nat.reduceBEq,bW]
  ·(repeat (first|simp only [↓QA,QB,Nat.reduceLT,reduceIte,Nat.reduceEqDiff,Nat.reduceAdd,Nat.reduceLeDiff,Nat.reduceMul,Nat.reduceBEq,bW,h0]|refine rd0 rfl ?_))
   refine eT (CT v hv s [] (by simp)) (K8 v s) (CH v s) ?_
   have hp:gI v s=(dQ v s [],0):=by simp [gI,h0',h1]
   rw [hp]
   (repeat (first|simp only [↓QA,QB,Nat.reduceLT,reduceIte,Nat.reduceEqDiff,Nat.reduceAdd,Nat.reduceLeDiff,Nat.reduceMul,Nat.reduceBEq,bW,oO,aJ]|refine rd0 rfl ?_))
   try try simp only [QS,QC,Nat.reduceLT,reduceIte,Nat.reduceEqDiff,Nat.reduceAdd,Nat.reduceLeDiff,Nat.reduceMul,Nat.reduceBEq,bW]
end Go.Am.Room
set_option maxRecDepth 8000
namespace Go.Am.Room
theorem H6 (v:Net) (s:Int):(gI v s).1.length≤1000∧∀ r∈(gI v s).1,r.length≤4:=by
 unfold gI
 split
 ·rename_i h0
  have hv:=dI h0
  split
  ·exact ⟨sU hv.nra _ _,fun r hr=>(AE hr).1⟩
  ·simp
 ·simp
theorem E8 (v:Net) (n:Int) (hf:Fits v):dL T 3 [bM v,.int .i64 n] (.bool true):=by
 refine aU (af:=a3) rfl (by simp [a3]) dd ?_
 (repeat (first|simp only [↓QA,QB,Nat.reduceLT,reduceIte,Nat.reduceEqDiff,Nat.reduceAdd,Nat.reduceLeDiff,Nat.reduceMul,Nat.reduceBEq,bC,a3]|refine rd0 rfl ?_))
 ((first|refine aD (kL v hf) rfl dd ?_|refine aE (kL v hf) rfl dd ?_);(repeat (first|simp only [↓QA,QB,Nat.reduceLT,reduceIte,Nat.reduceEqDiff,Nat.reduceAdd,Nat.reduceLeDiff,Nat.reduceMul,Nat.reduceBEq,bC,mE]|refine rd0 rfl ?_)))
 ((first|refine aD (dX v hf) rfl dd ?_|refine aE (dX v hf) rfl dd ?_);(repeat (first|simp only [↓QA,QB,Nat.reduceLT,reduceIte,Nat.reduceEqDiff,Nat.reduceAdd,Nat.reduceLeDiff,Nat.reduceMul,Nat.reduceBEq,bC,mE]|refine rd0 rfl ?_)))
 ((first|refine aD (uM v hf n) rfl dd ?_|refine aE (uM v hf n) rfl dd ?_);(repeat (first|simp only [↓QA,QB,Nat.reduceLT,reduceIte,Nat.reduceEqDiff,Nat.reduceAdd,Nat.reduceLeDiff,Nat.reduceMul,Nat.reduceBEq,bC,oO]|refine rd0 rfl ?_)))
 ((first|refine aD (DH v hf n) rfl dd ?_|refine aE (DH v hf n) rfl dd ?_);(repeat (first|simp only [↓QA,QB,Nat.reduceLT,reduceIte,Nat.reduceEqDiff,Nat.reduceAdd,Nat.reduceLeDiff,Nat.reduceMul,Nat.reduceBEq,bC,oO]|refine rd0 rfl ?_)))
 ((first|refine aD (n8 (gI v n).1 (H6 v n)) rfl dd ?_|refine aE (n8 (gI v n).1 (H6 v n)) rfl dd ?_);(repeat (first|simp only [↓QA,QB,Nat.reduceLT,reduceIte,Nat.reduceEqDiff,Nat.reduceAdd,Nat.reduceLeDiff,Nat.reduceMul,Nat.reduceBEq,bC,eq_self]|refine rd0 rfl ?_)))
 refine aD xE rfl fC ?_
 (repeat (first|simp only [↓QA,QB,Nat.reduceLT,reduceIte,Nat.reduceEqDiff,Nat.reduceAdd,Nat.reduceLeDiff,Nat.reduceMul,Nat.reduceBEq,bC]|refine rd0 rfl ?_))
end Go.Am.Room
