/- A part of the proof of TramComes: an abstract machine, or what functions come to on it. -/
import Derived.Test.YtnjlkiflililkaaCmqQ7
set_option linter.unusedVariables false
set_option linter.unusedSimpArgs false
set_option linter.defProp false
namespace Go.Am
variable {T:FuncId→Option AFunc}
theorem aEM {α:Type} {sz:Nat} {enc:α→AV} {l:List α} {j:Int} {t:Option Nat} {x:α} (hx:l[j.toNat]? = some x) (h0:0≤j) (hs:(enc x).cells.length=sz):yI sz (l.map enc) j t=some (.lptr (l.map enc) j.toNat 0 t):=by
 simp [yI,List.getElem?_map,hx,h0,hs]
end Go.Am
namespace Go.Am.Room
theorem FN (s:Span) (n:Int):dL T 82 [nX s,.int .i64 n] (nX (kF s n)):=by
 refine aU (af:=a82) rfl (by simp [a82]) dd ?_
 (repeat (first|simp only [↓QA,QB,Nat.reduceLT,reduceIte,Nat.reduceEqDiff,Nat.reduceAdd,Nat.reduceLeDiff,Nat.reduceMul,Nat.reduceBEq,a82,aT,kF]|refine rd0 rfl ?_))
open Go
variable {P:Program}
theorem P1 {n:Nat} {cs:List AV} (T:Tys P) (h:Typ P (n+1) 3 cs):∃ x:Int,mkV P 3 cs = .int .i64 x∧True:=TG T.int h
end Go.Am.Room
set_option maxRecDepth 4000
namespace Go.Am.Room
def dN:=And.intro @bK (And.intro @aK (And.intro @aZ (And.intro @aX (And.intro @aY (And.intro @aT (And.intro @bI (And.intro @bF (And.intro @bE (And.intro @dP (And.intro @dA (@Nat.not_lt_zero)))))))))))
def eD (s:State):AV:=.agg [.lit (s.closed.map .bool) false none,ints s.mins]
theorem aN (s:State):eD s = .agg [.lit (s.closed.map .bool) false none,ints s.mins]:=by simp only [eD]
theorem rA (s:State):lX (eD s):=jQ (bQ (jE uG s.closed) (bQ (j8 _) fC))
instance (s:State):Dat (eD s):=⟨rA s⟩
instance (l:List State):Dats (l.map eD):=⟨cV rA l⟩
theorem bA (σ:St) (m d:Nat) (l:List State):dG σ m d (l.map eD)=some (l.map eD):=jX (cV rA l) σ m d
def dZ (l:List State):AV:=.lit (l.map eD) false none
theorem cA (l:List State):dZ l = .lit (l.map eD) false none:=by simp only [dZ]
theorem rQ (σ:St) (m d:Nat) (l:List Bool):dG σ m d (l.map .bool)=some (l.map .bool):=jX (cV uG l) σ m d
theorem uX (l:List Bool):aL 1 (l.map .bool)=true:=rJ 1 _ l fun x=>SN _
theorem sA (l:List State):aL 2 (l.map eD)=true:=rJ 2 eD l fun x=>by simp [cR,eD,AV.cells,AV.cell,ints]
def QF (r:Rail) (s:State) (m:Int):List State:=([false,true].filter (uW r.shut)).map fun c=>⟨s.closed++[c],s.mins++[m]⟩
theorem L4 (r:Rail) (s:State):zW r s=(aR r.mins.lo (r.mins.hi+1-r.mins.lo).toNat).flatMap (QF r s):=rfl
def RB:Nat→List Bool
 |0=>[false,true]
 |1=>[true]
 |_=>[]
def KP (r:Rail) (s:State) (m:Int) (c:Nat):List State:=((RB c).filter (uW r.shut)).map fun c=>⟨s.closed++[c],s.mins++[m]⟩
theorem JH {c:Nat} (h:c<2) {b:Bool} (hb:((c:Int)==1)=b):RB c=b::RB (c+1):=by
 have:c=0∨c=1:=by omega
 rcases this with rfl|rfl
 ·have:b=false:=by rw [←hb];rfl
  subst this;rfl
 ·have:b=true:=by rw [←hb];rfl
  subst this;rfl
theorem xU {rs:List Rail} {k:Nat} (h:k<rs.length):nW rs (k+1)=(nW rs k).flatMap (zW rs[k]):=by
 simp only [nW,List.getElem?_eq_getElem h]
theorem CW {rs:List Rail} (hr:∀ r∈rs,r.mins.hi≤r.mins.lo+1):∀ k,(nW rs k).length≤4^k
 |0=>by simp [nW]
 |k+1=>by
  have ih:=CW hr k
  by_cases h:k<rs.length
  ·rw [xU h,Nat.pow_succ]
   refine Nat.le_trans (uL (zW rs[k]) 4 _ fun s _=>?_) (Nat.mul_le_mul_right 4 ih)
   rw [L4]
   have hm:=hr _ (List.getElem_mem h)
   refine Nat.le_trans (uL (QF rs[k] s) 2 _ fun m _=>?_) ?_
   ·have:=List.length_filter_le (uW rs[k].shut) [false,true]
    simpa [QF] using this
   ·rw [iV]
    omega
  ·simp only [nW,List.getElem?_eq_none (Nat.le_of_not_lt h)]
   exact Nat.le_trans ih (Nat.pow_le_pow_right (by omega) (by omega))
theorem KM (v:Net) (hv:Vd v):dL T 95 [bM v] (dZ (kK v)):=by
 refine aU (af:=a95) rfl (by simp [a95]) dd ?_
 have hnr:=hv.nra
 rw [show kK v=nW v.rails v.rails.length from rfl]
 (repeat (first|simp only [↓QA,QB,Nat.reduceLT,reduceIte,Nat.reduceEqDiff,Nat.reduceAdd,Nat.reduceLeDiff,Nat.reduceMul,Nat.reduceBEq,dN,aN,bA,a95]|refine rd0 rfl ?_))
 refine bT (S:=Nat) 0 (fun n=>n≤v.rails.length) (fun n=>v.rails.length-n) (fun n=>[(1,.ptr 0 0),(3,dZ (nW v.rails n)),(4,.int .i64 n)]) (fun _=>[.cells (aB v)]) (Nat.zero_le _) (by simp [aB,ints]) ?_ fun n hn=>?_
 ·try simp only [aC,QE,Nat.reduceLT,reduceIte,Nat.reduceEqDiff,Nat.reduceAdd,Nat.reduceLeDiff,Nat.reduceMul,Nat.reduceBEq,dN,aN,bA,cA]
  simp [nW,eD,ints,clr,clrs]
 ·(repeat (first|simp only [↓QA,QB,Nat.reduceLT,reduceIte,Nat.reduceEqDiff,Nat.reduceAdd,Nat.reduceLeDiff,Nat.reduceMul,Nat.reduceBEq,dN,aN,bA,XY,cA]|refine rd0 rfl ?_))
  refine aG (fun h=>?_) fun h=>?_
  ·have hn1:n<v.rails.length:=by simpa using h
   have hwn:IntKind.i64.wrap ((n:Int)+1)=((n+1:Nat):Int):=bP hn1 (by omega)
   have hwl:∀ j,j≤5→(nW v.rails j).length≤1024:=fun j hj=>Nat.le_trans (CW (fun r hr=>(hv.ra r hr).mins.2.2.2) j) (Nat.le_trans (Nat.pow_le_pow_right (by omega) hj) (by decide))
   have hsl:=hwl n (by omega)
   have hsl2:=hwl (n+1) (by omega)
   have hin:=vS (rs:=v.rails) n hn
   have hsu:=xU hn1
   have hra:=hv.ra _ (List.getElem_mem hn1)
   obtain ⟨r,hr⟩:∃ r,v.rails[n]=r:=⟨_,rfl⟩
   rw [hr] at hsu hra
   have hmi:=hra.mins
   rw [hsu] at hsl2
   obtain ⟨W,hW⟩:∃ W,nW v.rails n=W:=⟨_,rfl⟩
   rw [hW] at hsl hsl2 hsu hin
   rw [hW]
   obtain ⟨X,hX⟩:∃ X,W.flatMap (zW r)=X:=⟨_,rfl⟩
   rw [hX] at hsl2 hsu
   (repeat (first|simp only [↓QA,QB,Nat.reduceLT,reduceIte,Nat.reduceEqDiff,Nat.reduceAdd,Nat.reduceLeDiff,Nat.reduceMul,Nat.reduceBEq,dN,aN,bA,hn1,hr]|refine rd0 rfl ?_))
   refine hH 6 2 [] rfl ?_
   refine bT (S:=Nat×List State×Bool) (0,[],false) (fun a=>a.1≤W.length∧a.2.1++(W.drop a.1).flatMap (zW r)=X) (fun a=>W.length-a.1)
    (fun a=>[(1,.ptr 0 0),(3,dZ W),(4,.int .i64 n),(5,.ptr 1 0),(6,.lit (a.2.1.map eD) false (some 2)),(7,.int .i64 a.1)])
    (fun a=>[.cells (aB v),.cells [.int .i64 r.a,.int .i64 r.b,.int .i64 r.mins.lo,.int .i64 r.mins.hi,.int .i64 r.shut],.tok 2 a.2.1.length a.2.2]) ⟨Nat.zero_le _,by simpa using hX⟩ (by simp [aB,ints]) ?_ fun a ha=>?_
   ·try simp only [aC,QE,Nat.reduceLT,reduceIte,Nat.reduceEqDiff,Nat.reduceAdd,Nat.reduceLeDiff,Nat.reduceMul,Nat.reduceBEq,dN,aN,bA,cA]
    try simp
   ·obtain ⟨k,acc,ex⟩:=a
    obtain ⟨hk,hacc⟩:=ha
    simp only at hk hacc
    (repeat (first|simp only [↓QA,QB,Nat.reduceLT,reduceIte,Nat.reduceEqDiff,Nat.reduceAdd,Nat.reduceLeDiff,Nat.reduceMul,Nat.reduceBEq,dN,aN,bA,ZS,cA]|refine rd0 rfl ?_))
    refine aG (fun h2=>?_) fun h2=>?_
    ·have hk1:k<W.length:=by simpa using h2
     have hwk:=bP hk1 (by omega)
     obtain ⟨s,hs⟩:∃ s,W[k]=s:=⟨_,rfl⟩
     have hcl:=hin _ (List.getElem_mem hk1)
     rw [hs] at hcl
     obtain ⟨hl1,hl2,_⟩:=hcl
     rw [List.drop_eq_getElem_cons hk1,hs,List.flatMap_cons,L4] at hacc
     obtain ⟨F,hF⟩:∃ F,(W.drop (k+1)).flatMap (zW r)=F:=⟨_,rfl⟩
     rw [hF] at hacc
     (repeat (first|simp only [↓QA,QB,Nat.reduceLT,reduceIte,Nat.reduceEqDiff,Nat.reduceAdd,Nat.reduceLeDiff,Nat.reduceMul,Nat.reduceBEq,dN,aN,bA]|refine rd0 rfl ?_))
     refine bT (S:=Int×List State×Bool×St) (r.mins.lo,acc,ex,[]) (fun a=>r.mins.lo≤a.1∧a.1≤r.mins.hi+1∧a.2.1++((aR a.1 (r.mins.hi+1-a.1).toNat).flatMap (QF r s)++F)=X) (fun a=>(r.mins.hi+1-a.1).toNat)
      (fun a=>[(1,.ptr 0 0),(3,dZ W),(4,.int .i64 n),(5,.ptr 1 0),(6,.lit (a.2.1.map eD) false (some 2)),(7,.int .i64 k),(8,.int .i64 a.1)])
      (fun a=>.cells (aB v)::.cells [.int .i64 r.a,.int .i64 r.b,.int .i64 r.mins.lo,.int .i64 r.mins.hi,.int .i64 r.shut]::.tok 2 a.2.1.length a.2.2.1::a.2.2.2) ⟨Int.le_refl _,by simp only;omega,hacc⟩ (by simp [aB]) ?_ fun a ha=>?_
     ·try simp only [aC,QE,Nat.reduceLT,reduceIte,Nat.reduceEqDiff,Nat.reduceAdd,Nat.reduceLeDiff,Nat.reduceMul,Nat.reduceBEq,dN,aN,bA,cA]
      try simp
     ·obtain ⟨m,acc,ex,τ⟩:=a
      obtain ⟨hm0,hm1,hacc⟩:=ha
      simp only at hm0 hm1 hacc
      (repeat (first|simp only [↓QA,QB,Nat.reduceLT,reduceIte,Nat.reduceEqDiff,Nat.reduceAdd,Nat.reduceLeDiff,Nat.reduceMul,Nat.reduceBEq,dN,aN,bA,X5,cA]|refine rd0 rfl ?_))
      refine aG (fun h3=>?_) fun h3=>?_
      ·have hm2:m≤r.mins.hi:=by simpa using h3
       have hwm:IntKind.i64.wrap (m+1)=m+1:=eA ⟨by omega,by omega⟩
       rw [DC hm2,List.flatMap_cons,List.append_assoc] at hacc
       obtain ⟨G,hG⟩:∃ G,(aR (m+1) (r.mins.hi+1-(m+1)).toNat).flatMap (QF r s)++F=G:=⟨_,rfl⟩
       rw [hG] at hacc
       (repeat (first|simp only [↓QA,QB,Nat.reduceLT,reduceIte,Nat.reduceEqDiff,Nat.reduceAdd,Nat.reduceLeDiff,Nat.reduceMul,Nat.reduceBEq,dN,aN,bA]|refine rd0 rfl ?_))
       refine bT (S:=Nat×List State×Bool) (0,acc,ex) (fun a=>a.1≤2∧a.2.1++(KP r s m a.1++G)=X) (fun a=>2-a.1)
        (fun a=>[(1,.ptr 0 0),(3,dZ W),(4,.int .i64 n),(5,.ptr 1 0),(6,.lit (a.2.1.map eD) false (some 2)),(7,.int .i64 k),(8,.int .i64 m),(9,.int .i64 a.1)])
        (fun a=>.cells (aB v)::.cells [.int .i64 r.a,.int .i64 r.b,.int .i64 r.mins.lo,.int .i64 r.mins.hi,.int .i64 r.shut]::.tok 2 a.2.1.length a.2.2::τ) ⟨by simp,hacc⟩ (by simp [aB]) ?_ fun a ha=>?_
       ·try simp only [aC,QE,Nat.reduceLT,reduceIte,Nat.reduceEqDiff,Nat.reduceAdd,Nat.reduceLeDiff,Nat.reduceMul,Nat.reduceBEq,dN,aN,bA,cA]
        try simp
       ·obtain ⟨c,acc,ex⟩:=a
        obtain ⟨hc0,hacc⟩:=ha
        simp only at hc0 hacc
        (repeat (first|simp only [↓QA,QB,Nat.reduceLT,reduceIte,Nat.reduceEqDiff,Nat.reduceAdd,Nat.reduceLeDiff,Nat.reduceMul,Nat.reduceBEq,dN,aN,bA,X4,cA]|refine rd0 rfl ?_))
        refine aG (fun h4=>?_) fun h4=>?_
        ·have hc2:c<2:=by
          have h0:(c:Int)<2:=by simpa using h4
          omega
         have hwc:=bP hc2 (by omega)
         obtain ⟨b,hb⟩:∃ b,((c:Int)==1)=b:=⟨_,rfl⟩
         rw [KP,JH hc2 hb,List.filter_cons] at hacc
         have hcan:uW r.shut b = !(b&&(r.shut==0)||!b&&(r.shut==1)):=by
          have e0:(r.shut==0)=decide (r.shut=0):=by rw [Bool.eq_iff_iff];simp
          have e1:(r.shut==1)=decide (r.shut=1):=by rw [Bool.eq_iff_iff];simp
          rw [uW,e0,e1]
         have hal:acc.length≤1024:=by
          have:=congrArg List.length hacc
          simp only [List.length_append] at this
          omega
         have b0:∀ (σ:St),cO 1 1 σ (.lit [] true none) (.lit (s.closed.map .bool) false none)=some ((n5 1 σ (s.closed.map .bool)).1,(n5 1 σ (s.closed.map .bool)).2):=fun σ=>zZ ⟨rfl,uX _,by simp [room];omega,by simp [room];omega⟩
         have b1:∀ (σ:St),cO 1 1 (n5 1 σ (s.closed.map .bool)).2 (n5 1 σ (s.closed.map .bool)).1 (.lit [.bool b] true none)=some (.lit (s.closed.map .bool++[.bool b]) false (some σ.length),σ++[.tok 1 (s.closed.length+1) true]):=fun σ=>by
          rw [uS ⟨uX _,by simp [aL,AV.cells,AV.cell],by simp [room];omega,by simp [room];omega⟩ (by simp)]
          simp
         have a0:∀ (σ:St),cO 1 8 σ (.lit [] true none) (.lit (s.mins.map (.int .i64)) false none)=some ((n5 1 σ (s.mins.map (.int .i64))).1,(n5 1 σ (s.mins.map (.int .i64))).2):=fun σ=>zZ ⟨rfl,gK _,by simp [room];omega,by simp [room];omega⟩
         have a1:∀ (σ:St),cO 1 8 (n5 1 σ (s.mins.map (.int .i64))).2 (n5 1 σ (s.mins.map (.int .i64))).1 (.lit [.int .i64 m] true none)=some (.lit (s.mins.map (.int .i64)++[.int .i64 m]) false (some σ.length),σ++[.tok 1 (s.mins.length+1) true]):=fun σ=>by
          rw [uS ⟨gK _,by simp [aL,AV.cells,AV.cell],by simp [room];omega,by simp [room];omega⟩ (by simp)]
          simp
         have a2:=fun (b0 b1:ABlk) (τ:St) (t u:Nat)=>iJ (σ:=b0::b1::.tok 2 acc.length ex::τ) (t:=2) (ex:=ex) (sz:=2) (b:=48) (xs:=acc.map eD) (ys:=[.agg [.lit (s.closed.map .bool++[.bool b]) false (some t),.lit (s.mins.map (.int .i64)++[.int .i64 m]) false (some u)]]) (f:=true) (tk:=none) ⟨sA acc,by simp [aL,cR,AV.cells,AV.cell],by simp [room];omega,by simp [room];omega⟩ (by simp) acc.length (by simp) rfl
         have yes:uW r.shut b=true→(acc++[(⟨s.closed++[b],s.mins++[m]⟩:State)])++(KP r s m (c+1)++G)=X:=fun q=>by
          rw [q] at hacc
          rw [←hacc];simp [KP]
         have no:uW r.shut b=false→acc++(KP r s m (c+1)++G)=X:=fun q=>by
          rw [q] at hacc
          rw [←hacc];simp [KP]
         (repeat (first|simp only [↓QA,QB,Nat.reduceLT,reduceIte,Nat.reduceEqDiff,Nat.reduceAdd,Nat.reduceLeDiff,Nat.reduceMul,Nat.reduceBEq,dN,aN,bA,hb]|refine rd0 rfl ?_))
         cases b
         ·cases q1:(r.shut==1)
          ·have hy:=yes (by rw [hcan,q1];simp)
           (repeat (first|simp only [↓QA,QB,Nat.reduceLT,reduceIte,Nat.reduceEqDiff,Nat.reduceAdd,Nat.reduceLeDiff,Nat.reduceMul,Nat.reduceBEq,dN,aN,bA,q1]|refine rd0 rfl ?_))
           refine qB [.cells [.lit [] true none,.lit [] true none]] rfl ?_
           (repeat (first|simp only [↓QA,QB,Nat.reduceLT,reduceIte,Nat.reduceEqDiff,Nat.reduceAdd,Nat.reduceLeDiff,Nat.reduceMul,Nat.reduceBEq,dN,aN,bA,hk1,hs,ints,b0,b1,a0,a1,a2]|refine rd0 rfl ?_))
           refine ⟨(c+1,acc++[⟨s.closed++[false],s.mins++[m]⟩],true),⟨by simp only;omega,hy⟩,by simp only;omega,?_⟩
           try simp only [aC,QE,Nat.reduceLT,reduceIte,Nat.reduceEqDiff,Nat.reduceAdd,Nat.reduceLeDiff,Nat.reduceMul,Nat.reduceBEq,dN,aN,bA,hwc,cA,ints,rQ,List.map_append,List.map_cons,List.map_nil]
           try simp [aH]
          ·have hy:=no (by rw [hcan,q1];simp)
           (repeat (first|simp only [↓QA,QB,Nat.reduceLT,reduceIte,Nat.reduceEqDiff,Nat.reduceAdd,Nat.reduceLeDiff,Nat.reduceMul,Nat.reduceBEq,dN,aN,bA,q1]|refine rd0 rfl ?_))
           refine ⟨(c+1,acc,ex),⟨by simp only;omega,hy⟩,by simp only;omega,?_⟩
           try simp only [aC,QE,Nat.reduceLT,reduceIte,Nat.reduceEqDiff,Nat.reduceAdd,Nat.reduceLeDiff,Nat.reduceMul,Nat.reduceBEq,dN,aN,bA,hwc,cA,ints]
           try simp [aH]
         ·cases q1:(r.shut==0)
          ·have hy:=yes (by rw [hcan,q1];simp)
           (repeat (first|simp only [↓QA,QB,Nat.reduceLT,reduceIte,Nat.reduceEqDiff,Nat.reduceAdd,Nat.reduceLeDiff,Nat.reduceMul,Nat.reduceBEq,dN,aN,bA,q1]|refine rd0 rfl ?_))
           refine qB [.cells [.lit [] true none,.lit [] true none]] rfl ?_
           (repeat (first|simp only [↓QA,QB,Nat.reduceLT,reduceIte,Nat.reduceEqDiff,Nat.reduceAdd,Nat.reduceLeDiff,Nat.reduceMul,Nat.reduceBEq,dN,aN,bA,hk1,hs,ints,b0,b1,a0,a1,a2]|refine rd0 rfl ?_))
           refine ⟨(c+1,acc++[⟨s.closed++[true],s.mins++[m]⟩],true),⟨by simp only;omega,hy⟩,by simp only;omega,?_⟩
           try simp only [aC,QE,Nat.reduceLT,reduceIte,Nat.reduceEqDiff,Nat.reduceAdd,Nat.reduceLeDiff,Nat.reduceMul,Nat.reduceBEq,dN,aN,bA,hwc,cA,ints,rQ,List.map_append,List.map_cons,List.map_nil]
           try simp [aH]
          ·have hy:=no (by rw [hcan,q1];simp)
           (repeat (first|simp only [↓QA,QB,Nat.reduceLT,reduceIte,Nat.reduceEqDiff,Nat.reduceAdd,Nat.reduceLeDiff,Nat.reduceMul,Nat.reduceBEq,dN,aN,bA,q1]|refine rd0 rfl ?_))
           refine ⟨(c+1,acc,ex),⟨by simp only;omega,hy⟩,by simp only;omega,?_⟩
           try simp only [aC,QE,Nat.reduceLT,reduceIte,Nat.reduceEqDiff,Nat.reduceAdd,Nat.reduceLeDiff,Nat.reduceMul,Nat.reduceBEq,dN,aN,bA,hwc,cA,ints]
           try simp [aH]
        ·have hc2:c=2:=by
          have h0:¬(c:Int)<2:=by simpa using h4
          omega
         subst hc2
         have he:KP r s m 2=[]:=rfl
         rw [he,List.nil_append,←hG] at hacc
         (repeat (first|simp only [↓QA,QB,Nat.reduceLT,reduceIte,Nat.reduceEqDiff,Nat.reduceAdd,Nat.reduceLeDiff,Nat.reduceMul,Nat.reduceBEq,dN,aN,bA,hwm]|refine rd0 rfl ?_))
         refine ⟨(m+1,acc,ex,τ),⟨by simp only;omega,by simp only;omega,hacc⟩,by simp only;omega,?_⟩
         try simp only [aC,QE,Nat.reduceLT,reduceIte,Nat.reduceEqDiff,Nat.reduceAdd,Nat.reduceLeDiff,Nat.reduceMul,Nat.reduceBEq,dN,aN,bA,hwm,cA,ints]
         try simp [aH]
      ·have hm2:¬m≤r.mins.hi:=by simpa using h3
       rw [HD hm2] at hacc
       simp only [List.flatMap_nil,List.nil_append] at hacc
       (repeat (first|simp only [↓QA,QB,Nat.reduceLT,reduceIte,Nat.reduceEqDiff,Nat.reduceAdd,Nat.reduceLeDiff,Nat.reduceMul,Nat.reduceBEq,dN,aN,bA,hwk]|refine rd0 rfl ?_))
       refine ⟨(k+1,acc,ex),⟨by simp only;omega,by rw [hF];exact hacc⟩,by simp only;omega,?_⟩
       try simp only [aC,QE,Nat.reduceLT,reduceIte,Nat.reduceEqDiff,Nat.reduceAdd,Nat.reduceLeDiff,Nat.reduceMul,Nat.reduceBEq,dN,aN,bA,hwk,cA,ints]
       try simp [aH]
    ·have hk1:k=W.length:=by simp at h2;omega
     rw [hk1,List.drop_length] at hacc
     simp only [List.flatMap_nil,List.append_nil] at hacc
     subst hacc
     (repeat (first|simp only [↓QA,QB,Nat.reduceLT,reduceIte,Nat.reduceEqDiff,Nat.reduceAdd,Nat.reduceLeDiff,Nat.reduceMul,Nat.reduceBEq,dN,aN,bA,hwn]|refine rd0 rfl ?_))
     refine ⟨n+1,by omega,by omega,?_⟩
     try simp only [aC,QE,Nat.reduceLT,reduceIte,Nat.reduceEqDiff,Nat.reduceAdd,Nat.reduceLeDiff,Nat.reduceMul,Nat.reduceBEq,dN,aN,bA,hwn,hsu,cA,ints]
     try simp [aH]
  ·have hn1:n=v.rails.length:=by simp at h;omega
   subst hn1
   (repeat (first|simp only [↓QA,QB,Nat.reduceLT,reduceIte,Nat.reduceEqDiff,Nat.reduceAdd,Nat.reduceLeDiff,Nat.reduceMul,Nat.reduceBEq,dN,aN,bA,cA]|refine rd0 rfl ?_))
   try try simp only [QS,QC,Nat.reduceLT,reduceIte,Nat.reduceEqDiff,Nat.reduceAdd,Nat.reduceLeDiff,Nat.reduceMul,Nat.reduceBEq,dN,aN,bA]
end Go.Am.Room
set_option maxRecDepth 4000
namespace Go.Am.Room
def eR:=And.intro @bK (And.intro @aK (And.intro @aZ (And.intro @aX (And.intro @aY (And.intro @aT (And.intro @bI (And.intro @bF (And.intro @bE (And.intro @dP (And.intro @dA (And.intro @Nat.not_lt_zero (And.intro @aN (And.intro @bA (@rQ))))))))))))))
def fJ (x:Stay):AV:=.agg [.int .i64 x.tram,.int .i64 x.rail,.int .i64 x.frm,.int .i64 x.til]
theorem bR (x:Stay):fJ x = .agg [.int .i64 x.tram,.int .i64 x.rail,.int .i64 x.frm,.int .i64 x.til]:=by simp only [fJ]
theorem uN (x:Stay):lX (fJ x):=jQ (bQ (dJ _ _) (bQ (dJ _ _) (bQ (dJ _ _) (bQ (dJ _ _) fC))))
instance (x:Stay):Dat (fJ x):=⟨uN x⟩
instance (l:List Stay):Dats (l.map fJ):=⟨cV uN l⟩
theorem bZ (σ:St) (m d:Nat) (l:List Stay):dG σ m d (l.map fJ)=some (l.map fJ):=jX (cV uN l) σ m d
def FY (l:List Stay):AV:=.lit (l.map fJ) false none
theorem CI (l:List Stay):FY l = .lit (l.map fJ) false none:=by simp only [FY]
theorem AU (l:List Stay):aL 4 (l.map fJ)=true:=rJ 4 fJ l fun x=>by simp [cR,fJ,AV.cells,AV.cell]
theorem Q1 (ss:List Stay) (rail ready m B:Int) (hl:ss.length<9223372036854775808) (hB:∀ x∈ss,x.til≤B) (h0:0≤ready) (hr:ready≤B) (hB2:B≤1000) (hm:0≤m∧m≤20) :
  dL T 96 [.lit (ss.map fJ) false none,.int .i64 rail,.int .i64 ready,.int .i64 m] (.int .i64 (kH ss rail ready m)):=by
 refine aU (af:=a96) rfl (by simp [a96]) dd ?_
 have hfi:=yB (rail:=rail) (m:=m) hB (show B≤ready+1000 by omega)
 obtain ⟨Z,hZ⟩:∃ Z,kH ss rail ready m=Z:=⟨_,rfl⟩
 rw [hZ] at hfi ⊢
 (repeat (first|simp only [↓QA,QB,Nat.reduceLT,reduceIte,Nat.reduceEqDiff,Nat.reduceAdd,Nat.reduceLeDiff,Nat.reduceMul,Nat.reduceBEq,eR,bR,bZ,a96]|refine rd0 rfl ?_))
 refine bT (S:=Int) ready (fun r=>qY ss rail m ready r) (fun r=>(B-r).toNat)
  (fun r=>[(0,.lit (ss.map fJ) false none),(1,.int .i64 rail),(2,.int .i64 r),(3,.int .i64 m)]) (fun _=>[]) (DB _ _ _ _) rfl ?_ fun r hb=>?_
 ·try simp only [aC,QE,Nat.reduceLT,reduceIte,Nat.reduceEqDiff,Nat.reduceAdd,Nat.reduceLeDiff,Nat.reduceMul,Nat.reduceBEq,eR,bR,bZ]
  try simp
 ·have hrB:=zY hB hb hr
  have hr0:=hb.1
  have hwm:IntKind.i64.wrap (r+m)=r+m:=eA ⟨by omega,by omega⟩
  (repeat (first|simp only [↓QA,QB,Nat.reduceLT,reduceIte,Nat.reduceEqDiff,Nat.reduceAdd,Nat.reduceLeDiff,Nat.reduceMul,Nat.reduceBEq,eR,bR,bZ,YI]|refine rd0 rfl ?_))
  refine bT (S:=Nat×Int) (0,r) (fun a=>a.1≤ss.length∧OP ss rail m ready r a.1 a.2) (fun a=>ss.length-a.1)
   (fun a=>[(0,.lit (ss.map fJ) false none),(1,.int .i64 rail),(2,.int .i64 r),(3,.int .i64 m),(9,.int .i64 a.2),(10,.int .i64 a.1)]) (fun _=>[]) ⟨by simp,.inl ⟨rfl,by simp⟩⟩ rfl ?_ fun a ha=>?_
  ·try simp only [aC,QE,Nat.reduceLT,reduceIte,Nat.reduceEqDiff,Nat.reduceAdd,Nat.reduceLeDiff,Nat.reduceMul,Nat.reduceBEq,eR,bR,bZ]
   try simp
  ·obtain ⟨k,n⟩:=a
   obtain ⟨hk,hlk⟩:=ha
   simp only at hk hlk
   (repeat (first|simp only [↓QA,QB,Nat.reduceLT,reduceIte,Nat.reduceEqDiff,Nat.reduceAdd,Nat.reduceLeDiff,Nat.reduceMul,Nat.reduceBEq,eR,bR,bZ,X7]|refine rd0 rfl ?_))
   refine aG (fun h=>?_) fun h=>?_
   ·have hk1:k<ss.length:=by simpa using h
    have hw:=bP hk1 hl
    obtain ⟨x,hx⟩:∃ x,ss[k]=x:=⟨_,rfl⟩
    have hxm:x∈ss:=by rw [←hx];exact List.getElem_mem hk1
    have hat:=BX (p:=iW rail r m) hk1
    rw [hx] at hat
    have no:iW rail r m x=false→OP ss rail m ready r (k+1) n:=fun q=>by
     rcases hlk with ⟨e,a⟩|e
     ·exact .inl ⟨e,by rw [hat,a,q];rfl⟩
     ·exact .inr e
    have yes:iW rail r m x=true→OP ss rail m ready r (k+1) (max n x.til):=fun q=>by
     have q1:=wQ q
     have q2:=D5 hb hxm (Int.le_refl r) q (fun y h1 h2=>by omega)
     right
     refine ⟨by omega,?_⟩
     rcases hlk with ⟨e,_⟩|⟨e1,e2⟩
     ·rw [Int.max_eq_right (by omega)];exact q2
     ·by_cases hc:n≤x.til
      ·rw [Int.max_eq_right hc];exact q2
      ·rw [Int.max_eq_left (by omega)];exact e2
    have hcl:iW rail r m x=((x.rail==rail)&&decide (x.frm<r+m)&&decide (r<x.til)):=by
     have:decide (x.rail=rail)=(x.rail==rail):=by rw [Bool.eq_iff_iff];simp
     rw [iW,this]
    (repeat (first|simp only [↓QA,QB,Nat.reduceLT,reduceIte,Nat.reduceEqDiff,Nat.reduceAdd,Nat.reduceLeDiff,Nat.reduceMul,Nat.reduceBEq,eR,bR,bZ,hk1,hx]|refine rd0 rfl ?_))
    cases q1:(x.rail==rail)
    ·have nn:=no (by rw [hcl,q1];simp)
     (repeat (first|simp only [↓QA,QB,Nat.reduceLT,reduceIte,Nat.reduceEqDiff,Nat.reduceAdd,Nat.reduceLeDiff,Nat.reduceMul,Nat.reduceBEq,eR,bR,bZ,q1,hw]|refine rd0 rfl ?_))
     refine ⟨(k+1,n),⟨by simp only;omega,nn⟩,by simp only;omega,?_⟩
     try simp only [aC,QE,Nat.reduceLT,reduceIte,Nat.reduceEqDiff,Nat.reduceAdd,Nat.reduceLeDiff,Nat.reduceMul,Nat.reduceBEq,eR,bR,bZ,hw]
     try simp [aH]
    ·cases q2:decide (x.frm<r+m)
     ·have nn:=no (by rw [hcl,q1,q2];simp)
      (repeat (first|simp only [↓QA,QB,Nat.reduceLT,reduceIte,Nat.reduceEqDiff,Nat.reduceAdd,Nat.reduceLeDiff,Nat.reduceMul,Nat.reduceBEq,eR,bR,bZ,q1,hw,hwm,q2]|refine rd0 rfl ?_))
      refine ⟨(k+1,n),⟨by simp only;omega,nn⟩,by simp only;omega,?_⟩
      try simp only [aC,QE,Nat.reduceLT,reduceIte,Nat.reduceEqDiff,Nat.reduceAdd,Nat.reduceLeDiff,Nat.reduceMul,Nat.reduceBEq,eR,bR,bZ,hw]
      try simp [aH]
     ·cases q3:decide (r<x.til)
      ·have nn:=no (by rw [hcl,q1,q2,q3];simp)
       (repeat (first|simp only [↓QA,QB,Nat.reduceLT,reduceIte,Nat.reduceEqDiff,Nat.reduceAdd,Nat.reduceLeDiff,Nat.reduceMul,Nat.reduceBEq,eR,bR,bZ,q1,hw,hwm,q2,q3]|refine rd0 rfl ?_))
       refine ⟨(k+1,n),⟨by simp only;omega,nn⟩,by simp only;omega,?_⟩
       try simp only [aC,QE,Nat.reduceLT,reduceIte,Nat.reduceEqDiff,Nat.reduceAdd,Nat.reduceLeDiff,Nat.reduceMul,Nat.reduceBEq,eR,bR,bZ,hw]
       try simp [aH]
      ·have nn:=yes (by rw [hcl,q1,q2,q3];simp)
       (repeat (first|simp only [↓QA,QB,Nat.reduceLT,reduceIte,Nat.reduceEqDiff,Nat.reduceAdd,Nat.reduceLeDiff,Nat.reduceMul,Nat.reduceBEq,eR,bR,bZ,q1,hw,hwm,q2,q3]|refine rd0 rfl ?_))
       refine ⟨(k+1,max n x.til),⟨by simp only;omega,nn⟩,by simp only;omega,?_⟩
       try simp only [aC,QE,Nat.reduceLT,reduceIte,Nat.reduceEqDiff,Nat.reduceAdd,Nat.reduceLeDiff,Nat.reduceMul,Nat.reduceBEq,eR,bR,bZ,hw]
       try simp [aH]
   ·have hk1:k=ss.length:=by simp at h;omega
    rw [hk1] at hlk
    rcases hlk with ⟨e,a⟩|⟨e1,e2⟩
    ·rw [List.take_length] at a
     have hz:=EZ hfi (EA hb a)
     subst e
     have g:(n==n)=true:=by simp
     (repeat (first|simp only [↓QA,QB,Nat.reduceLT,reduceIte,Nat.reduceEqDiff,Nat.reduceAdd,Nat.reduceLeDiff,Nat.reduceMul,Nat.reduceBEq,eR,bR,bZ,g,hz]|refine rd0 rfl ?_))
    ·have g:(n==r)=false:=by simp;omega
     have hnB:=zY hB e2 hr
     (repeat (first|simp only [↓QA,QB,Nat.reduceLT,reduceIte,Nat.reduceEqDiff,Nat.reduceAdd,Nat.reduceLeDiff,Nat.reduceMul,Nat.reduceBEq,eR,bR,bZ,g]|refine rd0 rfl ?_))
     refine ⟨n,e2,by omega,?_⟩
     try simp only [aC,QE,Nat.reduceLT,reduceIte,Nat.reduceEqDiff,Nat.reduceAdd,Nat.reduceLeDiff,Nat.reduceMul,Nat.reduceBEq,eR,bR,bZ]
     try simp [aH]
theorem FZ (v:Net) (hv:Vd v):dL T 50 [bM v] (aJ (jM v)):=by
 refine aU (af:=a50) rfl (by simp [a50]) dd ?_
 have hnt:=hv.ntr
 (repeat (first|simp only [↓QA,QB,Nat.reduceLT,reduceIte,Nat.reduceEqDiff,Nat.reduceAdd,Nat.reduceLeDiff,Nat.reduceMul,Nat.reduceBEq,eR,bR,bZ,a50]|refine rd0 rfl ?_))
 refine hH 3 1 [] rfl ?_
 refine bT (S:=Nat×Bool) (0,false) (fun a=>a.1≤v.trams.length) (fun a=>v.trams.length-a.1)
  (fun a=>[(1,.ptr 0 0),(3,.lit (((v.trams.take a.1).map Tram.path).map ints) false (some 1)),(4,.int .i64 a.1)]) (fun a=>[.cells (aB v),.tok 1 a.1 a.2]) (Nat.zero_le _) (by simp [aB,ints]) ?_ fun a ha=>?_
 ·try simp only [aC,QE,Nat.reduceLT,reduceIte,Nat.reduceEqDiff,Nat.reduceAdd,Nat.reduceLeDiff,Nat.reduceMul,Nat.reduceBEq,eR,bR,bZ]
  try simp
 ·obtain ⟨k,ex⟩:=a
  simp only at ha
  (repeat (first|simp only [↓QA,QB,Nat.reduceLT,reduceIte,Nat.reduceEqDiff,Nat.reduceAdd,Nat.reduceLeDiff,Nat.reduceMul,Nat.reduceBEq,eR,bR,bZ,XS]|refine rd0 rfl ?_))
  refine aG (fun h=>?_) fun h=>?_
  ·have hk1:k<v.trams.length:=by simpa using h
   have hw:=bP hk1 (by omega)
   have htk:(v.trams.take (k+1)).map Tram.path=(v.trams.take k).map Tram.path++[v.trams[k].path]:=by
    rw [List.take_succ_eq_append_getElem hk1,List.map_append];rfl
   have hlen:((v.trams.take k).map Tram.path).length=k:=by simp;omega
   obtain ⟨t,ht⟩:∃ t,v.trams[k]=t:=⟨_,rfl⟩
   rw [ht] at htk
   obtain ⟨P,hP⟩:∃ P,(v.trams.take k).map Tram.path=P:=⟨_,rfl⟩
   rw [hP] at htk hlen
   have a2:=fun (b0:ABlk) (τ:St)=>iJ (σ:=b0::.tok 1 k ex::τ) (t:=1) (ex:=ex) (sz:=1) (b:=24) (xs:=P.map ints) (ys:=[.lit (t.path.map (.int .i64)) false none]) (f:=true) (tk:=none) ⟨fR P,by simp [aL,AV.cells,AV.cell],by simp [room];omega,by simp [room];omega⟩ (by simp) k (by simp [hlen]) rfl
   rw [hP]
   (repeat (first|simp only [↓QA,QB,Nat.reduceLT,reduceIte,Nat.reduceEqDiff,Nat.reduceAdd,Nat.reduceLeDiff,Nat.reduceMul,Nat.reduceBEq,eR,bR,bZ,hk1,ht,ints,a2]|refine rd0 rfl ?_))
   refine ⟨(k+1,true),by simp only;omega,by simp only;omega,?_⟩
   try simp only [aC,QE,Nat.reduceLT,reduceIte,Nat.reduceEqDiff,Nat.reduceAdd,Nat.reduceLeDiff,Nat.reduceMul,Nat.reduceBEq,eR,bR,bZ,hw,htk,aJ,ints,List.map_append,List.map_cons,List.map_nil]
   try simp [aH]
  ·have hk1:k=v.trams.length:=by simp at h;omega
   rw [hk1,List.take_length]
   (repeat (first|simp only [↓QA,QB,Nat.reduceLT,reduceIte,Nat.reduceEqDiff,Nat.reduceAdd,Nat.reduceLeDiff,Nat.reduceMul,Nat.reduceBEq,eR,bR,bZ,aJ,jM]|refine rd0 rfl ?_))
   try try simp only [QS,QC,Nat.reduceLT,reduceIte,Nat.reduceEqDiff,Nat.reduceAdd,Nat.reduceLeDiff,Nat.reduceMul,Nat.reduceBEq,eR,bR,bZ]
end Go.Am.Room
set_option maxRecDepth 4000
namespace Go.Am.Room
def dV:=And.intro @bK (And.intro @aK (And.intro @aZ (And.intro @aX (And.intro @aY (And.intro @aT (And.intro @bI (And.intro @bF (And.intro @bE (And.intro @dP (And.intro @dA (And.intro @Nat.not_lt_zero (And.intro @aN (And.intro @bA (And.intro @bR (And.intro @bZ (@rQ))))))))))))))))
structure StOk (v:Net) (s:State):Prop where
 cl:s.closed.length=v.rails.length
 mi:s.mins.length=v.rails.length
 bd:∀ i (h:i<s.mins.length),1≤s.mins[i]∧s.mins[i]≤20
theorem SE {v:Net} {s:State} (hs:StOk v s) {R:Nat} (h1:R<s.closed.length) (h2:R<s.mins.length):eff s (R:Int)=if s.closed[R]=true then 0 else s.mins[R]:=by
 simp [eff,h1,h2]
theorem LC {v:Net} {s:State} (hs:StOk v s):A4 v (eff s):=by
 intro r h0 h1
 obtain ⟨R,rfl⟩:∃ R:Nat,r=R:=⟨r.toNat,by omega⟩
 have c1:=hs.cl
 have c2:=hs.mi
 rw [SE hs (by omega) (by omega)]
 have:=hs.bd R (by omega)
 split<;>omega
def S2 (x:List Stay×List Int):AV:=.tuple [FY x.1,ints x.2]
theorem V9 {p:List Int} {f:Int→Bool} {k:Nat} (h:k=p.length):(p.take k).any f=p.any f:=by rw [h,List.take_length]
theorem K2 (v:Net) (hv:Vd v) (s:State) (hs:StOk v s) (ps:List (List Int)) (hp:RunOk v ps):dL T 49 [bM v,eD s,aJ ps] (S2 (eL v (eff s) ps v.trams.length)):=by
 refine aU (af:=a49) rfl (by simp [a49]) dd ?_
 have hnt:=hv.ntr
 have hpl:=hp.len
 have c1:=hs.cl
 have c2:=hs.mi
 have hbd:=JC hv (LC hs) hp
 obtain ⟨m,hm⟩:∃ m,eff s=m:=⟨_,rfl⟩
 have hmb:=LC hs
 have hea:=fun R h1 h2=>SE hs (R:=R) h1 h2
 rw [hm] at hmb hbd
 simp only [hm] at hea ⊢
 (repeat (first|simp only [↓QA,QB,Nat.reduceLT,reduceIte,Nat.reduceEqDiff,Nat.reduceAdd,Nat.reduceLeDiff,Nat.reduceMul,Nat.reduceBEq,dV,a49,aJ]|refine rd0 rfl ?_))
 refine hH 8 4 [] rfl ?_
 (repeat (first|simp only [↓QA,QB,Nat.reduceLT,reduceIte,Nat.reduceEqDiff,Nat.reduceAdd,Nat.reduceLeDiff,Nat.reduceMul,Nat.reduceBEq,dV]|refine rd0 rfl ?_))
 refine hH 9 1 [] rfl ?_
 refine bT (S:=Nat×Bool×Bool) (0,false,false) (fun a=>a.1≤v.trams.length) (fun a=>v.trams.length-a.1)
  (fun a=>[(2,aJ ps),(3,.ptr 0 0),(4,.ptr 1 0),(8,.lit ((eL v m ps a.1).1.map fJ) false (some 2)),(9,.lit ((eL v m ps a.1).2.map (.int .i64)) false (some 3)),(10,.int .i64 a.1)])
  (fun a=>[.cells (aB v),.cells [.lit (s.closed.map .bool) false none,ints s.mins],.tok 4 (eL v m ps a.1).1.length a.2.1,.tok 1 a.1 a.2.2]) (Nat.zero_le _) (by simp [aB,ints,eL]) ?_ fun a ha=>?_
 ·try simp only [aC,QE,Nat.reduceLT,reduceIte,Nat.reduceEqDiff,Nat.reduceAdd,Nat.reduceLeDiff,Nat.reduceMul,Nat.reduceBEq,dV,aJ,ints]
  try simp [eL]
 ·obtain ⟨i,ex,ex2⟩:=a
  simp only at ha
  (repeat (first|simp only [↓QA,QB,Nat.reduceLT,reduceIte,Nat.reduceEqDiff,Nat.reduceAdd,Nat.reduceLeDiff,Nat.reduceMul,Nat.reduceBEq,dV,YB,aJ]|refine rd0 rfl ?_))
  refine aG (fun h=>?_) fun h=>?_
  ·have hi1:i<v.trams.length:=by simpa using h
   have hwi:=bP hi1 (by omega)
   have hip:i<ps.length:=by omega
   obtain ⟨b1,b2⟩:=hbd i (by omega)
   have hlc:=rS v m ps i
   have hsu:=IH v m ps i
   have hto:=wK hv hi1
   have hpm:=BT hp hi1
   have hp4:=hp.few _ hpm
   have hpr:=hp.rails _ hpm
   have hpe:eO ps i=ps[i]:=by simp [eO,hip]
   rw [xX hi1,hpe] at hsu
   rw [hpe] at hp4 hpr
   obtain ⟨t,ht⟩:∃ t,v.trams[i]=t:=⟨_,rfl⟩
   obtain ⟨p,hpp⟩:∃ p,ps[i]=p:=⟨_,rfl⟩
   rw [ht] at hto hsu
   rw [hpp] at hp4 hpr hsu
   have hlv:=hto.leaves
   obtain ⟨L,hL⟩:∃ L,t.leaves=L:=⟨_,rfl⟩
   rw [hL] at hlv hsu
   obtain ⟨SS,hSS⟩:∃ SS,(eL v m ps i).1=SS:=⟨_,rfl⟩
   obtain ⟨OO,hOO⟩:∃ OO,(eL v m ps i).2=OO:=⟨_,rfl⟩
   rw [hSS] at b1 hsu
   rw [hOO] at b2 hlc hsu
   have hgo:nM m i L p SS=if p.any (fun r=>m r==0)=true then (SS,-1) else nQ m i p L SS:=rfl
   rw [hSS,hOO]
   obtain ⟨R,hR⟩:∃ R,nM m i L p SS=R:=⟨_,rfl⟩
   rw [hR] at hsu hgo
   have hsu1:(eL v m ps (i+1)).1=R.1:=by rw [hsu]
   have hsu2:(eL v m ps (i+1)).2=OO++[R.2]:=by rw [hsu]
   have aO:=fun (b0 b1 b2:ABlk) (τ:St) (ex2:Bool)=>iJ (σ:=b0::b1::b2::.tok 1 i ex2::τ) (t:=3) (ex:=ex2) (sz:=1) (b:=8) (xs:=OO.map (.int .i64)) (ys:=[.int .i64 R.2]) (f:=true) (tk:=none) ⟨gK OO,by simp [aL,AV.cells,AV.cell],by simp [room];omega,by simp [room];omega⟩ (by simp) i (by simp [hlc]) rfl
   (repeat (first|simp only [↓QA,QB,Nat.reduceLT,reduceIte,Nat.reduceEqDiff,Nat.reduceAdd,Nat.reduceLeDiff,Nat.reduceMul,Nat.reduceBEq,dV,hi1,ht,hL,hip,hpp,aJ]|refine rd0 rfl ?_))
   refine bT (S:=Nat) 0 (fun k=>k≤p.length) (fun k=>p.length-k)
    (fun k=>[(2,aJ ps),(3,.ptr 0 0),(4,.ptr 1 0),(8,.lit (SS.map fJ) false (some 2)),(9,.lit (OO.map (.int .i64)) false (some 3)),(10,.int .i64 i),(11,.int .i64 (if (p.take k).any (fun r=>m r==0)=true then -1 else L)),(12,.int .i64 k)])
    (fun k=>[.cells (aB v),.cells [.lit (s.closed.map .bool) false none,ints s.mins],.tok 4 SS.length ex,.tok 1 i ex2]) (Nat.zero_le _) (by simp [aB,ints]) ?_ fun k hk=>?_
   ·try simp only [aC,QE,Nat.reduceLT,reduceIte,Nat.reduceEqDiff,Nat.reduceAdd,Nat.reduceLeDiff,Nat.reduceMul,Nat.reduceBEq,dV,aJ,ints]
    try simp
   ·(repeat (first|simp only [↓QA,QB,Nat.reduceLT,reduceIte,Nat.reduceEqDiff,Nat.reduceAdd,Nat.reduceLeDiff,Nat.reduceMul,Nat.reduceBEq,dV,Y9,aJ,hip,hpp]|refine rd0 rfl ?_))
    refine aG (fun h2=>?_) fun h2=>?_
    ·have hk1:k<p.length:=by simpa using h2
     have hwk:=bP hk1 (by omega)
     have hat:=BX (p:=fun r=>m r==0) hk1
     have hpk:=hpr _ (List.getElem_mem hk1)
     obtain ⟨r,hr⟩:∃ r:Nat,p[k]=(r:Int):=⟨p[k].toNat,by omega⟩
     rw [hr] at hat hpk
     have hr1:r<s.closed.length:=by omega
     have hr2:r<s.mins.length:=by omega
     have hmr:=hea r hr1 hr2
     have hmi:=hs.bd r hr2
     obtain ⟨cb,hcb⟩:∃ cb,s.closed[r]=cb:=⟨_,rfl⟩
     rw [hcb] at hmr
     (repeat (first|simp only [↓QA,QB,Nat.reduceLT,reduceIte,Nat.reduceEqDiff,Nat.reduceAdd,Nat.reduceLeDiff,Nat.reduceMul,Nat.reduceBEq,dV,hk1,hr,hr1,hcb,hip,hpp]|refine rd0 rfl ?_))
     cases cb
     ·have h0:(m (r:Int)==0)=false:=by rw [hmr];simp;omega
      rw [h0,Bool.or_false] at hat
      (repeat (first|simp only [↓QA,QB,Nat.reduceLT,reduceIte,Nat.reduceEqDiff,Nat.reduceAdd,Nat.reduceLeDiff,Nat.reduceMul,Nat.reduceBEq,dV,hwk]|refine rd0 rfl ?_))
      refine ⟨k+1,by omega,by omega,?_⟩
      try simp only [aC,QE,Nat.reduceLT,reduceIte,Nat.reduceEqDiff,Nat.reduceAdd,Nat.reduceLeDiff,Nat.reduceMul,Nat.reduceBEq,dV,hwk,hat,aJ,ints]
      try simp [aH]
     ·have h0:(m (r:Int)==0)=true:=by rw [hmr];simp
      rw [h0,Bool.or_true] at hat
      (repeat (first|simp only [↓QA,QB,Nat.reduceLT,reduceIte,Nat.reduceEqDiff,Nat.reduceAdd,Nat.reduceLeDiff,Nat.reduceMul,Nat.reduceBEq,dV,hwk]|refine rd0 rfl ?_))
      refine ⟨k+1,by omega,by omega,?_⟩
      try simp only [aC,QE,Nat.reduceLT,reduceIte,Nat.reduceEqDiff,Nat.reduceAdd,Nat.reduceLeDiff,Nat.reduceMul,Nat.reduceBEq,dV,hwk,hat,aJ,ints]
      try simp [aH]
    ·have hk1:k=p.length:=by simp at h2;omega
     rw [V9 hk1]
     cases hc:p.any (fun r=>m r==0)
     ·rw [hc] at hgo
      simp only [Bool.false_eq_true,if_false] at hgo ⊢
      (repeat (first|simp only [↓QA,QB,Nat.reduceLT,reduceIte,Nat.reduceEqDiff,Nat.reduceAdd,Nat.reduceLeDiff,Nat.reduceMul,Nat.reduceBEq,dV]|refine rd0 rfl ?_))
      refine bT (S:=Nat×Int×List Stay×Bool) (0,L,SS,ex) (fun a=>a.1≤p.length∧0≤a.2.1∧a.2.1≤60+20*(4*i+a.1:Nat)∧StaysOk a.2.2.1 (4*i+a.1)∧nQ m i (p.drop a.1) a.2.1 a.2.2.1=R) (fun a=>p.length-a.1)
       (fun a=>[(2,aJ ps),(3,.ptr 0 0),(4,.ptr 1 0),(8,.lit (a.2.2.1.map fJ) false (some 2)),(9,.lit (OO.map (.int .i64)) false (some 3)),(10,.int .i64 i),(11,.int .i64 a.2.1),(13,.int .i64 a.1)])
       (fun a=>[.cells (aB v),.cells [.lit (s.closed.map .bool) false none,ints s.mins],.tok 4 a.2.2.1.length a.2.2.2,.tok 1 i ex2]) ⟨by simp,by simp only;omega,by simp only;omega,b1,hgo.symm⟩ (by simp [aB,ints]) ?_ fun a ha=>?_
      ·try simp only [aC,QE,Nat.reduceLT,reduceIte,Nat.reduceEqDiff,Nat.reduceAdd,Nat.reduceLeDiff,Nat.reduceMul,Nat.reduceBEq,dV,aJ,ints]
       try simp
      ·obtain ⟨j,at_,SS,ex⟩:=a
       obtain ⟨hj,ha0,ha1,hso,hgo⟩:=ha
       simp only at hj ha0 ha1 hso hgo
       have hne:(at_==-1)=false:=by simp;omega
       by_cases hj1:j<p.length
       ·have g:decide ((j:Int)<(p.length:Int))=true:=by simp;omega
        have hwj:=bP hj1 (by omega)
        have hpk:=hpr _ (List.getElem_mem hj1)
        rw [List.drop_eq_getElem_cons hj1] at hgo
        obtain ⟨r,hr⟩:∃ r:Nat,p[j]=(r:Int):=⟨p[j].toNat,by omega⟩
        rw [hr] at hpk hgo
        have hr1:r<s.closed.length:=by omega
        have hr2:r<s.mins.length:=by omega
        have hmr:=hea r hr1 hr2
        have hmi:=hs.bd r hr2
        have hopen:s.closed[r]=false:=by
         rw [List.any_eq_false] at hc
         have:=hc _ (List.getElem_mem hj1)
         rw [hr,hmr] at this
         cases hq:s.closed[r]
         ·rfl
         ·rw [hq] at this;simp at this
        rw [hopen] at hmr
        simp only [Bool.false_eq_true,if_false] at hmr
        obtain ⟨M,hM⟩:∃ M,s.mins[r]=M:=⟨_,rfl⟩
        rw [hM] at hmr hmi
        simp only [nQ,hmr] at hgo
        obtain ⟨f1,f2,f3⟩:=F4 (rail:=(r:Int)) (m:=M) hso (by omega) ha0 ha1
        have hsl:=hso.len
        have hfr:=Q1 SS r at_ M (60+20*((4*i+j:Nat):Int)) (by omega) hso.til ha0 ha1 (by omega) (by omega)
        obtain ⟨F,hF⟩:∃ F,kH SS r at_ M=F:=⟨_,rfl⟩
        rw [hF] at hgo f2 f3 hfr
        have hwF:IntKind.i64.wrap (F+M)=F+M:=eA ⟨by omega,by omega⟩
        have a8:=fun (b0 b1:ABlk) (τ:St)=>iJ (σ:=b0::b1::.tok 4 SS.length ex::τ) (t:=2) (ex:=ex) (sz:=4) (b:=32) (xs:=SS.map fJ) (ys:=[.agg [.int .i64 i,.int .i64 r,.int .i64 F,.int .i64 (F+M)]]) (f:=true) (tk:=none) ⟨AU SS,by simp [aL,cR,AV.cells,AV.cell],by simp [room];omega,by simp [room];omega⟩ (by simp) SS.length (by simp) rfl
        (repeat (first|simp only [↓QA,QB,Nat.reduceLT,reduceIte,Nat.reduceEqDiff,Nat.reduceAdd,Nat.reduceLeDiff,Nat.reduceMul,Nat.reduceBEq,dV,K3,aJ,hip,hpp,g,hne,hj1,hr,hr2,hM,ints]|refine rd0 rfl ?_))
        ((first|refine uI (hfr) (by try simp only [QS,QC,Nat.reduceLT,reduceIte,Nat.reduceEqDiff,Nat.reduceAdd,Nat.reduceLeDiff,Nat.reduceMul,Nat.reduceBEq,dV]) trivial ?_|refine wU (hfr) (by try simp only [QS,QC,Nat.reduceLT,reduceIte,Nat.reduceEqDiff,Nat.reduceAdd,Nat.reduceLeDiff,Nat.reduceMul,Nat.reduceBEq,dV]) trivial ?_);(repeat (first|simp only [↓QA,QB,Nat.reduceLT,reduceIte,Nat.reduceEqDiff,Nat.reduceAdd,Nat.reduceLeDiff,Nat.reduceMul,Nat.reduceBEq,dV,hj1,hr,hr2,hM,ints,hwF,a8,hwj]|refine rd0 rfl ?_)))
        refine ⟨(j+1,F+M,SS++[⟨i,r,F,F+M⟩],true),⟨by simp only;omega,by simp only;omega,by simp only;omega,?_,hgo⟩,by simp only;omega,?_⟩
        ·refine ⟨by simp;omega,fun x hx=>?_,fun x hx=>?_⟩
         ·rcases List.mem_append.1 hx with hx|hx
          ·have:=hso.til x hx;simp only;omega
          ·simp only [List.mem_singleton] at hx;subst hx;simp only;omega
         ·rcases List.mem_append.1 hx with hx|hx
          ·exact hso.frm x hx
          ·simp only [List.mem_singleton] at hx;subst hx;simp only;omega
        ·try simp only [aC,QE,Nat.reduceLT,reduceIte,Nat.reduceEqDiff,Nat.reduceAdd,Nat.reduceLeDiff,Nat.reduceMul,Nat.reduceBEq,dV,hwj,aJ,ints,List.map_append,List.map_cons,List.map_nil]
         try simp [aH]
       ·have g:decide ((j:Int)<(p.length:Int))=false:=by simp;omega
        rw [List.drop_eq_nil_of_le (by omega),nQ] at hgo
        subst hgo
        (repeat (first|simp only [↓QA,QB,Nat.reduceLT,reduceIte,Nat.reduceEqDiff,Nat.reduceAdd,Nat.reduceLeDiff,Nat.reduceMul,Nat.reduceBEq,dV,K3,aJ,hip,hpp,g,aO,hwi]|refine rd0 rfl ?_))
        refine ⟨(i+1,ex,true),by simp only;omega,by simp only;omega,?_⟩
        try simp only [aC,QE,Nat.reduceLT,reduceIte,Nat.reduceEqDiff,Nat.reduceAdd,Nat.reduceLeDiff,Nat.reduceMul,Nat.reduceBEq,dV,hwi,hsu1,hsu2,aJ,ints,List.map_append,List.map_cons,List.map_nil]
        try simp [aH]
     ·rw [hc] at hgo
      simp only [if_true] at hgo ⊢
      subst hgo
      have hne:((-1:Int)==-1)=true:=by decide
      (repeat (first|simp only [↓QA,QB,Nat.reduceLT,reduceIte,Nat.reduceEqDiff,Nat.reduceAdd,Nat.reduceLeDiff,Nat.reduceMul,Nat.reduceBEq,dV]|refine rd0 rfl ?_))
      refine bT (S:=Unit) () (fun a=>True) (fun a=>0)
       (fun a=>[(2,aJ ps),(3,.ptr 0 0),(4,.ptr 1 0),(8,.lit (SS.map fJ) false (some 2)),(9,.lit (OO.map (.int .i64)) false (some 3)),(10,.int .i64 i),(11,.int .i64 (-1)),(13,.int .i64 0)])
       (fun a=>[.cells (aB v),.cells [.lit (s.closed.map .bool) false none,ints s.mins],.tok 4 SS.length ex,.tok 1 i ex2]) trivial (by simp [aB,ints]) ?_ fun a ha=>?_
      ·try simp only [aC,QE,Nat.reduceLT,reduceIte,Nat.reduceEqDiff,Nat.reduceAdd,Nat.reduceLeDiff,Nat.reduceMul,Nat.reduceBEq,dV,aJ,ints]
       try simp
      ·(repeat (first|simp only [↓QA,QB,Nat.reduceLT,reduceIte,Nat.reduceEqDiff,Nat.reduceAdd,Nat.reduceLeDiff,Nat.reduceMul,Nat.reduceBEq,dV,K3,aJ,hip,hpp,hne]|refine rd0 rfl ?_))
       cases hg:decide ((0:Int)<(p.length:Int))
       ·(repeat (first|simp only [↓QA,QB,Nat.reduceLT,reduceIte,Nat.reduceEqDiff,Nat.reduceAdd,Nat.reduceLeDiff,Nat.reduceMul,Nat.reduceBEq,dV,hg,hne,aO,hwi]|refine rd0 rfl ?_))
        refine ⟨(i+1,ex,true),by simp only;omega,by simp only;omega,?_⟩
        try simp only [aC,QE,Nat.reduceLT,reduceIte,Nat.reduceEqDiff,Nat.reduceAdd,Nat.reduceLeDiff,Nat.reduceMul,Nat.reduceBEq,dV,hwi,hsu1,hsu2,aJ,ints,List.map_append,List.map_cons,List.map_nil]
        try simp [aH]
       ·(repeat (first|simp only [↓QA,QB,Nat.reduceLT,reduceIte,Nat.reduceEqDiff,Nat.reduceAdd,Nat.reduceLeDiff,Nat.reduceMul,Nat.reduceBEq,dV,hg,hne,aO,hwi]|refine rd0 rfl ?_))
        refine ⟨(i+1,ex,true),by simp only;omega,by simp only;omega,?_⟩
        try simp only [aC,QE,Nat.reduceLT,reduceIte,Nat.reduceEqDiff,Nat.reduceAdd,Nat.reduceLeDiff,Nat.reduceMul,Nat.reduceBEq,dV,hwi,hsu1,hsu2,aJ,ints,List.map_append,List.map_cons,List.map_nil]
        try simp [aH]
  ·have hi1:i=v.trams.length:=by simp at h;omega
   rw [hi1]
   (repeat (first|simp only [↓QA,QB,Nat.reduceLT,reduceIte,Nat.reduceEqDiff,Nat.reduceAdd,Nat.reduceLeDiff,Nat.reduceMul,Nat.reduceBEq,dV,S2,CI]|refine rd0 rfl ?_))
   try try simp only [QS,QC,Nat.reduceLT,reduceIte,Nat.reduceEqDiff,Nat.reduceAdd,Nat.reduceLeDiff,Nat.reduceMul,Nat.reduceBEq,dV]
end Go.Am.Room
set_option maxRecDepth 4000
namespace Go.Am.Room
def d8:=And.intro @bK (And.intro @aK (And.intro @aZ (And.intro @aX (And.intro @aY (And.intro @aT (And.intro @bI (And.intro @bF (And.intro @bE (And.intro @dP (And.intro @dA (And.intro @Nat.not_lt_zero (And.intro @aN (And.intro @bA (And.intro @bR (And.intro @bZ (And.intro @rQ (@cA)))))))))))))))))
theorem ZB {v:Net} (hv:Vd v):∀ k,k≤v.rails.length→∀ s∈nW v.rails k,∀ i (h:i<s.mins.length),1≤s.mins[i]∧s.mins[i]≤20
 |0,_,s,hs,i,h=>by simp [nW] at hs;subst hs;simp at h
 |k+1,hk,s,hs,i,h=>by
  have hk1:k<v.rails.length:=by omega
  rw [xU hk1] at hs
  simp only [List.mem_flatMap,zW,List.mem_map,List.mem_filter] at hs
  obtain ⟨s0,hs0,m,hm,c,_,rfl⟩:=hs
  have hl0:=(vS k (by omega) s0 hs0).2.1
  simp only [List.length_append,List.length_cons,List.length_nil] at h
  by_cases e:i=s0.mins.length
  ·subst e
   have:=(hv.ra _ (List.getElem_mem hk1)).mins
   have:=oY.1 hm
   simp
   omega
  ·have hi:i<s0.mins.length:=by omega
   have:=ZB hv k (by omega) s0 hs0 i hi
   simp only [List.getElem_append_left hi]
   exact this
theorem EJ {v:Net} (hv:Vd v) {s:State} (h:s∈kK v):StOk v s:=by
 have hl:=oQ h
 exact ⟨hl.1,hl.2,ZB hv _ (Nat.le_refl _) s h⟩
theorem CP {v:Net} (hv:Vd v):(kK v).length≤1024 :=
 Nat.le_trans (CW (fun r hr=>(hv.ra r hr).mins.2.2.2) _) (Nat.le_trans (Nat.pow_le_pow_right (by omega) hv.nra) (by decide))
theorem mJ {v:Net} (hv:Vd v) (but:List Int):(bH v but).length≤1024:=Nat.le_trans (List.length_filter_le _ _) (CP hv)
theorem xM {v:Net} (hv:Vd v) {bl:List Int} {s:State} (h:s∈bH v bl):StOk v s:=EJ hv (List.mem_filter.1 h).1
theorem yG (v:Net) (s:State):(jL v s).length=v.trams.length:=rS _ _ _ _
theorem AG {cs:List Int} {t:Nat} (h:t<cs.length):fV cs (t:Int)=cs[t]:=by simp [fV,h]
def wN (v:Net) (s:State):List AV:=(eL v (eff s) (jM v) v.trams.length).1.map fJ
theorem BF (v:Net) (hv:Vd v) (s:State) (hs:StOk v s):dL T 49 [bM v,eD s,aJ (jM v)] (.tuple [.lit (wN v s) false none,ints (jL v s)]):=K2 v hv s hs (jM v) (SR hv)
theorem vR (v:Net) (hv:Vd v) (but:List Int) (hbu:but.length<9223372036854775808):dL T 48 [bM v,ints but] (dZ (bH v but)):=by
 refine aU (af:=a48) rfl (by simp [a48]) dd ?_
 have hse:=hv.nse
 have hwl:=CP hv
 have hwo:=fun s=>EJ hv (s:=s)
 have hst:=KM v hv
 have how:=FZ v hv
 obtain ⟨R,hR⟩:∃ R,bH v but=R:=⟨_,rfl⟩
 have hRl:=mJ hv but
 rw [hR] at hRl ⊢
 have hR':[]++((kK v).drop 0).filter (fun s=>lT v but (jL v s))=R:=hR
 obtain ⟨W,hW⟩:∃ W,kK v=W:=⟨_,rfl⟩
 rw [hW] at hwl hst hR'
 simp only [hW] at hwo
 obtain ⟨PO,hPO⟩:∃ PO,jM v=PO:=⟨_,rfl⟩
 (repeat (first|simp only [↓QA,QB,Nat.reduceLT,reduceIte,Nat.reduceEqDiff,Nat.reduceAdd,Nat.reduceLeDiff,Nat.reduceMul,Nat.reduceBEq,d8,a48]|refine rd0 rfl ?_))
 ((first|refine aD (hst) rfl dd ?_|refine aE (hst) rfl dd ?_);(repeat (first|simp only [↓QA,QB,Nat.reduceLT,reduceIte,Nat.reduceEqDiff,Nat.reduceAdd,Nat.reduceLeDiff,Nat.reduceMul,Nat.reduceBEq,d8]|refine rd0 rfl ?_)))
 refine hH 6 2 [] rfl ?_
 refine bT (S:=Nat×List State×Bool) (0,[],false) (fun a=>a.1≤W.length∧a.2.1++(W.drop a.1).filter (fun s=>lT v but (jL v s))=R) (fun a=>W.length-a.1)
  (fun a=>[(1,ints but),(2,.ptr 0 0),(5,dZ W),(6,.lit (a.2.1.map eD) false (some 1)),(7,.int .i64 a.1)])
  (fun a=>[.cells (aB v),.tok 2 a.2.1.length a.2.2]) ⟨Nat.zero_le _,hR'⟩ (by simp [aB,ints]) ?_ fun a ha=>?_
 ·try simp only [aC,QE,Nat.reduceLT,reduceIte,Nat.reduceEqDiff,Nat.reduceAdd,Nat.reduceLeDiff,Nat.reduceMul,Nat.reduceBEq,d8]
  try simp
 ·obtain ⟨k,acc,ex⟩:=a
  obtain ⟨hk,hacc⟩:=ha
  simp only at hk hacc
  (repeat (first|simp only [↓QA,QB,Nat.reduceLT,reduceIte,Nat.reduceEqDiff,Nat.reduceAdd,Nat.reduceLeDiff,Nat.reduceMul,Nat.reduceBEq,d8,ZL]|refine rd0 rfl ?_))
  refine aG (fun hd=>?_) fun hd=>?_
  ·have hk1:k<W.length:=by simpa using hd
   have hw:=bP hk1 (by omega)
   have hso:=hwo _ (List.getElem_mem hk1)
   obtain ⟨s,hs⟩:∃ s,W[k]=s:=⟨_,rfl⟩
   rw [hs] at hso
   rw [List.drop_eq_getElem_cons hk1,hs,List.filter_cons] at hacc
   have hal:acc.length≤1024:=by
    have:=congrArg List.length hacc
    simp only [List.length_append] at this
    omega
   have hrun:=BF v hv s hso
   have hcl:=yG v s
   obtain ⟨C,hC⟩:∃ C,jL v s=C:=⟨_,rfl⟩
   obtain ⟨SS,hSS⟩:∃ SS,wN v s=SS:=⟨_,rfl⟩
   rw [hPO] at hrun how
   rw [hC] at hrun hcl hacc
   rw [hSS] at hrun
   simp only [aN] at hrun
   have hap:=fun (b0:ABlk) (τ:St)=>iJ (σ:=b0::.tok 2 acc.length ex::τ) (t:=1) (ex:=ex) (sz:=2) (b:=48) (xs:=acc.map eD) (ys:=[.agg [.lit (s.closed.map .bool) false none,.lit (s.mins.map (.int .i64)) false none]]) (f:=true) (tk:=none) ⟨sA acc,by simp [aL,cR,AV.cells,AV.cell],by simp [room];omega,by simp [room];omega⟩ (by simp) acc.length (by simp) rfl
   (repeat (first|simp only [↓QA,QB,Nat.reduceLT,reduceIte,Nat.reduceEqDiff,Nat.reduceAdd,Nat.reduceLeDiff,Nat.reduceMul,Nat.reduceBEq,d8,hk1,hs,ints]|refine rd0 rfl ?_))
   ((first|refine aD (how) rfl dd ?_|refine aE (how) rfl dd ?_);(repeat (first|simp only [↓QA,QB,Nat.reduceLT,reduceIte,Nat.reduceEqDiff,Nat.reduceAdd,Nat.reduceLeDiff,Nat.reduceMul,Nat.reduceBEq,d8,hk1,hs,ints]|refine rd0 rfl ?_)))
   ((first|refine aD (hrun) rfl dd ?_|refine aE (hrun) rfl dd ?_);(repeat (first|simp only [↓QA,QB,Nat.reduceLT,reduceIte,Nat.reduceEqDiff,Nat.reduceAdd,Nat.reduceLeDiff,Nat.reduceMul,Nat.reduceBEq,d8,hk1,hs,ints]|refine rd0 rfl ?_)))
   refine bT (S:=Nat) 0 (fun j=>j≤v.seen.length) (fun j=>v.seen.length-j)
    (fun j=>[(1,ints but),(2,.ptr 0 0),(5,dZ W),(6,.lit (acc.map eD) false (some 1)),(7,.int .i64 k),(9,ints C),(10,.bool (oE v but C j)),(11,.int .i64 j)])
    (fun j=>[.cells (aB v),.tok 2 acc.length ex]) (Nat.zero_le _) (by simp [aB,ints]) ?_ fun j hj=>?_
   ·try simp only [aC,QE,Nat.reduceLT,reduceIte,Nat.reduceEqDiff,Nat.reduceAdd,Nat.reduceLeDiff,Nat.reduceMul,Nat.reduceBEq,d8,ints]
    try simp [oE]
   ·(repeat (first|simp only [↓QA,QB,Nat.reduceLT,reduceIte,Nat.reduceEqDiff,Nat.reduceAdd,Nat.reduceLeDiff,Nat.reduceMul,Nat.reduceBEq,d8,Z4]|refine rd0 rfl ?_))
    refine aG (fun h2=>?_) fun h2=>?_
    ·have hj1:j<v.seen.length:=by simpa using h2
     have hwj:=bP hj1 (by omega)
     have hsu:=y4 hj1 but C
     have hsx:=hv.se _ (List.getElem_mem hj1)
     obtain ⟨x,hx⟩:∃ x,v.seen[j]=x:=⟨_,rfl⟩
     rw [hx] at hsu hsx
     obtain ⟨t,ht⟩:∃ t:Nat,x.tram=t:=⟨x.tram.toNat,by omega⟩
     rw [ht] at hsu hsx
     have htl:t<C.length:=by omega
     rw [AG htl] at hsu
     obtain ⟨q,hq⟩:∃ q,oE v but C j=q:=⟨_,rfl⟩
     rw [hq] at hsu
     rw [hq]
     cases q
     ·rw [Bool.false_and] at hsu
      (repeat (first|simp only [↓QA,QB,Nat.reduceLT,reduceIte,Nat.reduceEqDiff,Nat.reduceAdd,Nat.reduceLeDiff,Nat.reduceMul,Nat.reduceBEq,d8,hwj]|refine rd0 rfl ?_))
      refine ⟨j+1,by omega,by omega,?_⟩
      try simp only [aC,QE,Nat.reduceLT,reduceIte,Nat.reduceEqDiff,Nat.reduceAdd,Nat.reduceLeDiff,Nat.reduceMul,Nat.reduceBEq,d8,hwj,hsu,ints]
      try simp [aH]
     ·rw [Bool.true_and] at hsu
      (repeat (first|simp only [↓QA,QB,Nat.reduceLT,reduceIte,Nat.reduceEqDiff,Nat.reduceAdd,Nat.reduceLeDiff,Nat.reduceMul,Nat.reduceBEq,d8]|refine rd0 rfl ?_))
      ((first|refine aD (sO but (j:Int) hbu) rfl dd ?_|refine aE (sO but (j:Int) hbu) rfl dd ?_);(repeat (first|simp only [↓QA,QB,Nat.reduceLT,reduceIte,Nat.reduceEqDiff,Nat.reduceAdd,Nat.reduceLeDiff,Nat.reduceMul,Nat.reduceBEq,d8]|refine rd0 rfl ?_)))
      cases hb:but.contains (j:Int)
      ·rw [hb,Bool.false_or] at hsu
       (repeat (first|simp only [↓QA,QB,Nat.reduceLT,reduceIte,Nat.reduceEqDiff,Nat.reduceAdd,Nat.reduceLeDiff,Nat.reduceMul,Nat.reduceBEq,d8,hj1,hx,ht,htl,hwj]|refine rd0 rfl ?_))
       refine ⟨j+1,by omega,by omega,?_⟩
       try simp only [aC,QE,Nat.reduceLT,reduceIte,Nat.reduceEqDiff,Nat.reduceAdd,Nat.reduceLeDiff,Nat.reduceMul,Nat.reduceBEq,d8,hwj,hsu,ints]
       try simp [aH]
      ·rw [hb,Bool.true_or] at hsu
       (repeat (first|simp only [↓QA,QB,Nat.reduceLT,reduceIte,Nat.reduceEqDiff,Nat.reduceAdd,Nat.reduceLeDiff,Nat.reduceMul,Nat.reduceBEq,d8,hwj]|refine rd0 rfl ?_))
       refine ⟨j+1,by omega,by omega,?_⟩
       try simp only [aC,QE,Nat.reduceLT,reduceIte,Nat.reduceEqDiff,Nat.reduceAdd,Nat.reduceLeDiff,Nat.reduceMul,Nat.reduceBEq,d8,hwj,hsu,ints]
       try simp [aH]
    ·have hj1:j=v.seen.length:=by simp at h2;omega
     rw [hj1,vM]
     cases hc:lT v but C
     ·rw [hc] at hacc
      simp only [Bool.false_eq_true,if_false] at hacc
      (repeat (first|simp only [↓QA,QB,Nat.reduceLT,reduceIte,Nat.reduceEqDiff,Nat.reduceAdd,Nat.reduceLeDiff,Nat.reduceMul,Nat.reduceBEq,d8,hw]|refine rd0 rfl ?_))
      refine ⟨(k+1,acc,ex),⟨by simp only;omega,hacc⟩,by simp only;omega,?_⟩
      try simp only [aC,QE,Nat.reduceLT,reduceIte,Nat.reduceEqDiff,Nat.reduceAdd,Nat.reduceLeDiff,Nat.reduceMul,Nat.reduceBEq,d8,hw,ints]
      try simp [aH]
     ·rw [hc] at hacc
      simp only [if_true] at hacc
      (repeat (first|simp only [↓QA,QB,Nat.reduceLT,reduceIte,Nat.reduceEqDiff,Nat.reduceAdd,Nat.reduceLeDiff,Nat.reduceMul,Nat.reduceBEq,d8,hk1,hs,ints,hap,hw]|refine rd0 rfl ?_))
      refine ⟨(k+1,acc++[s],true),⟨by simp only;omega,by rw [←hacc];simp⟩,by simp only;omega,?_⟩
      try simp only [aC,QE,Nat.reduceLT,reduceIte,Nat.reduceEqDiff,Nat.reduceAdd,Nat.reduceLeDiff,Nat.reduceMul,Nat.reduceBEq,d8,hw,ints,List.map_append,List.map_cons,List.map_nil]
      try simp [aH]
  ·have hk1:k=W.length:=by simp at hd;omega
   rw [hk1,List.drop_length] at hacc
   simp only [List.filter_nil,List.append_nil] at hacc
   subst hacc
   (repeat (first|simp only [↓QA,QB,Nat.reduceLT,reduceIte,Nat.reduceEqDiff,Nat.reduceAdd,Nat.reduceLeDiff,Nat.reduceMul,Nat.reduceBEq,d8]|refine rd0 rfl ?_))
   try try simp only [QS,QC,Nat.reduceLT,reduceIte,Nat.reduceEqDiff,Nat.reduceAdd,Nat.reduceLeDiff,Nat.reduceMul,Nat.reduceBEq,d8]
def gL (v:Net) (e:Int):List State:=if cC v e=0 then bH v [] else []
def lP (l:List State) (e:Int):AV:=.tuple [dZ l,.int .i64 e]
theorem SW (v:Net):clrs [bM v,.lit [] true none]=[bM v,ints []]:=by simp [clrs,(o4 v).2,clr,ints]
theorem HW (v:Net):okVs 0 [bM v,.lit [] true none]:=⟨(o4 v).1,by simp [okV,okVs],trivial⟩
theorem qU (v:Net) (e:Int) (hv:e=0→Vd v):dL T 81 [bM v,.int .i64 e] (lP (gL v e) (cC v e)):=by
 refine aU (af:=a81) rfl (by simp [a81]) dd ?_
 (repeat (first|simp only [↓QA,QB,Nat.reduceLT,reduceIte,Nat.reduceEqDiff,Nat.reduceAdd,Nat.reduceLeDiff,Nat.reduceMul,Nat.reduceBEq,d8,a81]|refine rd0 rfl ?_))
 cases h0:(e==0)
 ·have h0':e≠0:=by simpa using h0
  have he:cC v e=e:=by simp [cC,h0']
  have hk:gL v e=[]:=by simp [gL,he,h0']
  rw [he,hk]
  (repeat (first|simp only [↓QA,QB,Nat.reduceLT,reduceIte,Nat.reduceEqDiff,Nat.reduceAdd,Nat.reduceLeDiff,Nat.reduceMul,Nat.reduceBEq,d8,h0,lP,List.map_nil]|refine rd0 rfl ?_))
  try rfl
 ·have h0':e=0:=by simpa using h0
  subst h0'
  have hl:=mJ (hv rfl) []
  (repeat (first|simp only [↓QA,QB,Nat.reduceLT,reduceIte,Nat.reduceEqDiff,Nat.reduceAdd,Nat.reduceLeDiff,Nat.reduceMul,Nat.reduceBEq,d8]|refine rd0 rfl ?_))
  refine eT (vR v (hv rfl) [] (by simp)) (SW v) (HW v) ?_
  obtain ⟨l,hle⟩:∃ l,bH v []=l:=⟨_,rfl⟩
  rw [hle] at hl ⊢
  cases hg:((l.length:Int)==0)
  ·have hg':l≠[]:=by rintro rfl;simp at hg
   have he:cC v 0=0:=by simp [cC,hle,hg']
   have hk:gL v 0=l:=by simp [gL,he,hle]
   rw [he,hk]
   (repeat (first|simp only [↓QA,QB,Nat.reduceLT,reduceIte,Nat.reduceEqDiff,Nat.reduceAdd,Nat.reduceLeDiff,Nat.reduceMul,Nat.reduceBEq,d8,lP,hg]|refine rd0 rfl ?_))
   try rfl
  ·have hg':l=[]:=by simp at hg;exact hg
   have he:cC v 0=8:=by simp [cC,hle,hg']
   have hk:gL v 0=[]:=by simp [gL,he]
   rw [he,hk]
   (repeat (first|simp only [↓QA,QB,Nat.reduceLT,reduceIte,Nat.reduceEqDiff,Nat.reduceAdd,Nat.reduceLeDiff,Nat.reduceMul,Nat.reduceBEq,d8,lP,hg,List.map_nil]|refine rd0 rfl ?_))
   try rfl
theorem M5 (n:Nat):bX n (fun _=>0)=List.replicate n (.int .i64 0):=by simp [bX,List.map_const']
section
variable {K:Type} [DecidableEq K]
variable {sh:EqTy} {enc val:K→AV}
variable {S:List K→St} {obj:List AV} {p m N:Nat}
end
end Go.Am.Room
set_option maxRecDepth 4000
namespace Go.Am.Room
def cH:=And.intro @bK (And.intro @aK (And.intro @aZ (And.intro @aX (And.intro @aY (And.intro @aT (And.intro @bI (And.intro @bF (And.intro @bE (And.intro @dP (And.intro @dA (And.intro @Nat.not_lt_zero (And.intro @aN (And.intro @bA (And.intro @bR (And.intro @bZ (And.intro @rQ (@cA)))))))))))))))))
def gQ (ats:List Int) (k:Nat):List Int:=dR (ats.take k)
theorem N0 {ats:List Int} {k:Nat} (h:k<ats.length):gQ ats (k+1)=if ats[k] = -1 then gQ ats k else gQ ats k++[ats[k]]:=by
 rw [gQ,List.take_succ_eq_append_getElem h,dR,List.filter_append]
 by_cases e:ats[k] = -1
 ·simp [e,gQ,dR]
 ·simp [e,gQ,dR]
theorem aAG {v:Net} {l:List State} {t k:Nat} (h:k<l.length):(sE v l t)[k]'(by simpa [sE] using h)=fV (jL v l[k]) t:=by simp [sE]
theorem NG (a:Int):kF ⟨a,a⟩ a=⟨a,a⟩:=by simp [kF]
theorem GE (yes all:Nat):dL T 83 [.int .i64 yes,.int .i64 all] (.int .i64 (eC yes all)):=by
 refine aU (af:=a83) rfl (by simp [a83]) dd ?_
 (repeat (first|simp only [↓QA,QB,Nat.reduceLT,reduceIte,Nat.reduceEqDiff,Nat.reduceAdd,Nat.reduceLeDiff,Nat.reduceMul,Nat.reduceBEq,cH,a83]|refine rd0 rfl ?_))
 cases h0:((yes:Int)==(all:Int))
 ·have h0':yes≠all:=by simp at h0;omega
  (repeat (first|simp only [↓QA,QB,Nat.reduceLT,reduceIte,Nat.reduceEqDiff,Nat.reduceAdd,Nat.reduceLeDiff,Nat.reduceMul,Nat.reduceBEq,cH,h0]|refine rd0 rfl ?_))
  cases h1:((yes:Int)==0)
  ·have h1':yes≠0:=by simp at h1;omega
   (repeat (first|simp only [↓QA,QB,Nat.reduceLT,reduceIte,Nat.reduceEqDiff,Nat.reduceAdd,Nat.reduceLeDiff,Nat.reduceMul,Nat.reduceBEq,cH,h1,eC,h0',h1']|refine rd0 rfl ?_))
  ·have h1':yes=0:=by simp at h1;omega
   (repeat (first|simp only [↓QA,QB,Nat.reduceLT,reduceIte,Nat.reduceEqDiff,Nat.reduceAdd,Nat.reduceLeDiff,Nat.reduceMul,Nat.reduceBEq,cH,h1]|refine rd0 rfl ?_))
   have h2:all≠0:=by omega
   simp [eC,h1',Ne.symm h2]
 ·have h0':yes=all:=by simp at h0;omega
  (repeat (first|simp only [↓QA,QB,Nat.reduceLT,reduceIte,Nat.reduceEqDiff,Nat.reduceAdd,Nat.reduceLeDiff,Nat.reduceMul,Nat.reduceBEq,cH,h0,eC,h0']|refine rd0 rfl ?_))
theorem D0 (v:Net) (h:Fits v) (n:Int):dL T 24 [bM v,.int .i64 n] (kS (jP v n)):=by
 refine aU (af:=a24) rfl (by simp [a24]) dd ?_
 have hft:=h.trams
 have hwl:IntKind.i64.wrap ((v.trams.length:Int)-1)=(v.trams.length:Int)-1:=eA ⟨by omega,by omega⟩
 obtain ⟨E,hE⟩:∃ E,(if (bY v).2.2=0 then (if inR n 0 ((v.trams.length:Int)-1)=true then 0 else 4) else (bY v).2.2:Int)=E:=⟨_,rfl⟩
 have hEv:E=0→Vd v:=fun h0=>by
  rw [←hE] at h0
  split at h0
  ·rename_i q;exact dI q
  ·rename_i q;exact absurd h0 q
 have hkn:=qU v E hEv
 have hta:lY v n=cC v E:=by rw [lY,hE]
 (repeat (first|simp only [↓QA,QB,Nat.reduceLT,reduceIte,Nat.reduceEqDiff,Nat.reduceAdd,Nat.reduceLeDiff,Nat.reduceMul,Nat.reduceBEq,cH,a24]|refine rd0 rfl ?_))
 ((first|refine aD (dX v h) rfl dd ?_|refine aE (dX v h) rfl dd ?_);(repeat (first|simp only [↓QA,QB,Nat.reduceLT,reduceIte,Nat.reduceEqDiff,Nat.reduceAdd,Nat.reduceLeDiff,Nat.reduceMul,Nat.reduceBEq,cH,mE]|refine rd0 rfl ?_)))
 cases h0:((bY v).2.2==0)
 case' false =>
  have h0':(bY v).2.2≠0:=by simpa using h0
  rw [if_neg h0'] at hE
  rw [←hE] at hkn hta
  have hek:cC v (bY v).2.2=(bY v).2.2:=by simp [cC,h0']
  have hr:jP v n=(⟨0,0⟩,0,(bY v).2.2):=by rw [jP,hta,hek,if_neg h0']
  rw [hek,gL,hek,if_neg h0'] at hkn
  rw [hr]
  (repeat (first|simp only [↓QA,QB,Nat.reduceLT,reduceIte,Nat.reduceEqDiff,Nat.reduceAdd,Nat.reduceLeDiff,Nat.reduceMul,Nat.reduceBEq,cH,h0]|refine rd0 rfl ?_))
  ((first|refine aD (hkn) rfl dd ?_|refine aE (hkn) rfl dd ?_);(repeat (first|simp only [↓QA,QB,Nat.reduceLT,reduceIte,Nat.reduceEqDiff,Nat.reduceAdd,Nat.reduceLeDiff,Nat.reduceMul,Nat.reduceBEq,cH,h0,lP]|refine rd0 rfl ?_)))
  (repeat (first|simp only [↓QA,QB,Nat.reduceLT,reduceIte,Nat.reduceEqDiff,Nat.reduceAdd,Nat.reduceLeDiff,Nat.reduceMul,Nat.reduceBEq,cH,h0,kS]|refine rd0 rfl ?_))
  try rfl
 have h0':(bY v).2.2=0:=by simpa using h0
 have hv:=dI h0'
 have hnt:=hv.ntr
 rw [if_pos h0'] at hE
 (repeat (first|simp only [↓QA,QB,Nat.reduceLT,reduceIte,Nat.reduceEqDiff,Nat.reduceAdd,Nat.reduceLeDiff,Nat.reduceMul,Nat.reduceBEq,cH,h0,hwl]|refine rd0 rfl ?_))
 ((first|refine aD (gG n 0 ((v.trams.length:Int)-1)) rfl dd ?_|refine aE (gG n 0 ((v.trams.length:Int)-1)) rfl dd ?_);(repeat (first|simp only [↓QA,QB,Nat.reduceLT,reduceIte,Nat.reduceEqDiff,Nat.reduceAdd,Nat.reduceLeDiff,Nat.reduceMul,Nat.reduceBEq,cH,h0,hwl]|refine rd0 rfl ?_)))
 cases h1:inR n 0 ((v.trams.length:Int)-1)
 ·rw [h1] at hE
  simp only [Bool.false_eq_true,if_false] at hE
  rw [←hE] at hkn hta
  have hek:cC v 4=4:=by simp [cC]
  have hr:jP v n=(⟨0,0⟩,0,4):=by rw [jP,hta,hek,if_neg (by decide)]
  rw [hek,gL,hek,if_neg (by decide)] at hkn
  rw [hr]
  simp only [Bool.not_false,j5]
  (repeat (first|simp only [↓QA,QB,Nat.reduceLT,reduceIte,Nat.reduceEqDiff,Nat.reduceAdd,Nat.reduceLeDiff,Nat.reduceMul,Nat.reduceBEq,cH]|refine rd0 rfl ?_))
  ((first|refine aD (hkn) rfl dd ?_|refine aE (hkn) rfl dd ?_);(repeat (first|simp only [↓QA,QB,Nat.reduceLT,reduceIte,Nat.reduceEqDiff,Nat.reduceAdd,Nat.reduceLeDiff,Nat.reduceMul,Nat.reduceBEq,cH,lP,show ((4:Int)==0)=false from rfl]|refine rd0 rfl ?_)))
  (repeat (first|simp only [↓QA,QB,Nat.reduceLT,reduceIte,Nat.reduceEqDiff,Nat.reduceAdd,Nat.reduceLeDiff,Nat.reduceMul,Nat.reduceBEq,cH,kS,show ((4:Int)==0)=false from rfl]|refine rd0 rfl ?_))
  try rfl
 ·rw [h1] at hE
  simp only [if_true] at hE
  rw [←hE] at hta
  have hkn:=qU v (bY v).2.2 (fun _=>hv)
  rw [show cC v (bY v).2.2=cC v 0 by rw [h0'],show gL v (bY v).2.2=gL v 0 by rw [h0']] at hkn
  have hnr:=eS.1 h1
  obtain ⟨N,rfl⟩:∃ N:Nat,n=(N:Int):=⟨n.toNat,by omega⟩
  simp only [Bool.not_true,jO]
  cases hek:(cC v 0==0)
  ·have hek':cC v 0≠0:=by simpa using hek
   have hr:jP v N=(⟨0,0⟩,0,cC v 0):=by rw [jP,hta,if_neg hek']
   rw [gL,if_neg hek'] at hkn
   rw [hr]
   (repeat (first|simp only [↓QA,QB,Nat.reduceLT,reduceIte,Nat.reduceEqDiff,Nat.reduceAdd,Nat.reduceLeDiff,Nat.reduceMul,Nat.reduceBEq,cH,h0]|refine rd0 rfl ?_))
   ((first|refine aD (hkn) rfl dd ?_|refine aE (hkn) rfl dd ?_);(repeat (first|simp only [↓QA,QB,Nat.reduceLT,reduceIte,Nat.reduceEqDiff,Nat.reduceAdd,Nat.reduceLeDiff,Nat.reduceMul,Nat.reduceBEq,cH,h0,lP,hek]|refine rd0 rfl ?_)))
   (repeat (first|simp only [↓QA,QB,Nat.reduceLT,reduceIte,Nat.reduceEqDiff,Nat.reduceAdd,Nat.reduceLeDiff,Nat.reduceMul,Nat.reduceBEq,cH,h0,kS,hek]|refine rd0 rfl ?_))
   try rfl
  ·have hek':cC v 0=0:=by simpa using hek
   rw [gL,if_pos hek',hek'] at hkn
   have hr:jP v N=((mK (sE v (bH v []) N)).1,(mK (sE v (bH v []) N)).2,0):=by rw [jP,hta,if_pos hek',Int.toNat_natCast]
   have htc:=mJ hv []
   have hto:=fun s=>xM hv (bl:=[]) (s:=s)
   have how:=FZ v hv
   obtain ⟨PO,hPO⟩:∃ PO,jM v=PO:=⟨_,rfl⟩
   obtain ⟨l,hl⟩:∃ l,bH v []=l:=⟨_,rfl⟩
   rw [hl] at htc hkn hr
   simp only [hl] at hto
   have hal:(sE v l N).length=l.length:=by simp [sE]
   obtain ⟨A,hA⟩:∃ A,sE v l N=A:=⟨_,rfl⟩
   rw [hr]
   (repeat (first|simp only [↓QA,QB,Nat.reduceLT,reduceIte,Nat.reduceEqDiff,Nat.reduceAdd,Nat.reduceLeDiff,Nat.reduceMul,Nat.reduceBEq,cH,h0]|refine rd0 rfl ?_))
   ((first|refine aD (hkn) rfl dd ?_|refine aE (hkn) rfl dd ?_);(repeat (first|simp only [↓QA,QB,Nat.reduceLT,reduceIte,Nat.reduceEqDiff,Nat.reduceAdd,Nat.reduceLeDiff,Nat.reduceMul,Nat.reduceBEq,cH,h0,lP]|refine rd0 rfl ?_)))
   refine bT (S:=Nat) 0 (fun k=>k≤l.length) (fun k=>l.length-k)
    (fun k=>[(1,.int .i64 (N:Int)),(2,.ptr 0 0),(4,.ptr 1 0),(10,dZ l),(11,.ptr 2 0),(12,.int .i64 (gQ A k).length),(13,.int .i64 k)])
    (fun k=>[.cells (aB v),.cells [.int .i64 0,.int .i64 0],.cells [.int .i64 (eQ (gQ A k)).lo,.int .i64 (eQ (gQ A k)).hi]]) (Nat.zero_le _) (by simp [aB,ints,gQ,dR,eQ]) ?_ fun k hk=>?_
   ·try simp only [aC,QE,Nat.reduceLT,reduceIte,Nat.reduceEqDiff,Nat.reduceAdd,Nat.reduceLeDiff,Nat.reduceMul,Nat.reduceBEq,cH]
    try simp [gQ,dR]
   ·(repeat (first|simp only [↓QA,QB,Nat.reduceLT,reduceIte,Nat.reduceEqDiff,Nat.reduceAdd,Nat.reduceLeDiff,Nat.reduceMul,Nat.reduceBEq,cH,YM]|refine rd0 rfl ?_))
    refine aG (fun h2=>?_) fun h2=>?_
    ·have hk1:k<l.length:=by simpa using h2
     have hw:=bP hk1 (by omega)
     have hso:=hto _ (List.getElem_mem hk1)
     have hst:=N0 (ats:=A) (k:=k) (by rw [←hA,hal];exact hk1)
     have hak:=aAG (v:=v) (t:=N) hk1
     simp only [hA] at hak
     rw [hak] at hst
     obtain ⟨s,hs⟩:∃ s,l[k]=s:=⟨_,rfl⟩
     rw [hs] at hso hst
     have hrun:=BF v hv s hso
     have hcl:=yG v s
     obtain ⟨C,hC⟩:∃ C,jL v s=C:=⟨_,rfl⟩
     obtain ⟨SS,hSS⟩:∃ SS,wN v s=SS:=⟨_,rfl⟩
     rw [hPO] at hrun how
     rw [hC] at hrun hcl hst
     rw [hSS] at hrun
     simp only [aN] at hrun
     have hNl:N<C.length:=by omega
     rw [AG hNl] at hst
     obtain ⟨c,hc⟩:∃ c,C[N]=c:=⟨_,rfl⟩
     rw [hc] at hst
     have hrl:(gQ A k).length≤k:=by
      have:=List.length_filter_le (fun c:Int=>!decide (c = -1)) (A.take k)
      rw [List.length_take] at this
      simp only [gQ,dR];omega
     have hsn:=CJ (gQ A k) c
     obtain ⟨Y,hY⟩:∃ Y,gQ A k=Y:=⟨_,rfl⟩
     rw [hY] at hst hrl hsn
     rw [hY]
     have hwy:=bP (show Y.length<k+1 by omega) (by omega)
     (repeat (first|simp only [↓QA,QB,Nat.reduceLT,reduceIte,Nat.reduceEqDiff,Nat.reduceAdd,Nat.reduceLeDiff,Nat.reduceMul,Nat.reduceBEq,cH,hk1,hs,ints]|refine rd0 rfl ?_))
     ((first|refine aD (how) rfl dd ?_|refine aE (how) rfl dd ?_);(repeat (first|simp only [↓QA,QB,Nat.reduceLT,reduceIte,Nat.reduceEqDiff,Nat.reduceAdd,Nat.reduceLeDiff,Nat.reduceMul,Nat.reduceBEq,cH,hk1,hs,ints]|refine rd0 rfl ?_)))
     ((first|refine aD (hrun) rfl dd ?_|refine aE (hrun) rfl dd ?_);(repeat (first|simp only [↓QA,QB,Nat.reduceLT,reduceIte,Nat.reduceEqDiff,Nat.reduceAdd,Nat.reduceLeDiff,Nat.reduceMul,Nat.reduceBEq,cH,hk1,hs,ints,hNl,hc]|refine rd0 rfl ?_)))
     cases q1:(c==-1)
     ·have q1':c≠-1:=by simpa using q1
      rw [if_neg q1'] at hst
      cases q2:((Y.length:Int)==0)
      ·have q2':Y≠[]:=by rintro rfl;simp at q2
       rw [if_neg q2',←hst] at hsn
       (repeat (first|simp only [↓QA,QB,Nat.reduceLT,reduceIte,Nat.reduceEqDiff,Nat.reduceAdd,Nat.reduceLeDiff,Nat.reduceMul,Nat.reduceBEq,cH,q1,q2]|refine rd0 rfl ?_))
       ((first|refine aD (FN (eQ Y) c) rfl dd ?_|refine aE (FN (eQ Y) c) rfl dd ?_);(repeat (first|simp only [↓QA,QB,Nat.reduceLT,reduceIte,Nat.reduceEqDiff,Nat.reduceAdd,Nat.reduceLeDiff,Nat.reduceMul,Nat.reduceBEq,cH,hwy]|refine rd0 rfl ?_)))
       have e3:(kF (eQ Y) c).lo=(eQ (gQ A (k+1))).lo∧(kF (eQ Y) c).hi=(eQ (gQ A (k+1))).hi:=by rw [hsn];exact ⟨rfl,rfl⟩
       have e4:(gQ A (k+1)).length=Y.length+1:=by rw [hst];simp
       refine ⟨k+1,by omega,by omega,?_⟩
       try simp only [aC,QE,Nat.reduceLT,reduceIte,Nat.reduceEqDiff,Nat.reduceAdd,Nat.reduceLeDiff,Nat.reduceMul,Nat.reduceBEq,cH,hw,e4,ints,hwy,e3.1,e3.2]
       try simp [aH,okVs,okV]
      ·have q2':Y=[]:=by simp at q2;exact q2
       rw [if_pos q2',←hst] at hsn
       subst q2'
       have hjs:=FN ⟨c,c⟩ c
       rw [NG] at hjs
       simp only [aT] at hjs
       have e3:c=(eQ (gQ A (k+1))).lo∧c=(eQ (gQ A (k+1))).hi:=by rw [hsn];exact ⟨rfl,rfl⟩
       have e4:(gQ A (k+1)).length=1:=by rw [hst];simp
       (repeat (first|simp only [↓QA,QB,Nat.reduceLT,reduceIte,Nat.reduceEqDiff,Nat.reduceAdd,Nat.reduceLeDiff,Nat.reduceMul,Nat.reduceBEq,cH,q1,q2,show (((0:Nat):Int)==0)=true from rfl]|refine rd0 rfl ?_))
       ((first|refine aD (hjs) rfl dd ?_|refine aE (hjs) rfl dd ?_);(repeat (first|simp only [↓QA,QB,Nat.reduceLT,reduceIte,Nat.reduceEqDiff,Nat.reduceAdd,Nat.reduceLeDiff,Nat.reduceMul,Nat.reduceBEq,cH,show IntKind.i64.wrap ((0:Int)+1)=1 from rfl]|refine rd0 rfl ?_)))
       refine ⟨k+1,by omega,by omega,?_⟩
       try simp only [aC,QE,Nat.reduceLT,reduceIte,Nat.reduceEqDiff,Nat.reduceAdd,Nat.reduceLeDiff,Nat.reduceMul,Nat.reduceBEq,cH,hw,e4,ints,←e3.1,←e3.2]
       try simp [aH,okVs,okV]
       try rfl
     ·have q1':c = -1:=by simpa using q1
      rw [if_pos q1'] at hst
      (repeat (first|simp only [↓QA,QB,Nat.reduceLT,reduceIte,Nat.reduceEqDiff,Nat.reduceAdd,Nat.reduceLeDiff,Nat.reduceMul,Nat.reduceBEq,cH,q1,hw]|refine rd0 rfl ?_))
      refine ⟨k+1,by omega,by omega,?_⟩
      try simp only [aC,QE,Nat.reduceLT,reduceIte,Nat.reduceEqDiff,Nat.reduceAdd,Nat.reduceLeDiff,Nat.reduceMul,Nat.reduceBEq,cH,hw,ints,hst,hY]
      try simp [aH]
    ·have hk1:k=l.length:=by simp at h2;omega
     have hfin:gQ A k=dR A:=by rw [gQ,hk1,←hal,hA,List.take_length]
     have hcs:mK A=(eQ (dR A),eC (dR A).length l.length):=by rw [mK,←hal,hA]
     have hse:=GE (dR A).length l.length
     rw [hA,hcs,hfin]
     (repeat (first|simp only [↓QA,QB,Nat.reduceLT,reduceIte,Nat.reduceEqDiff,Nat.reduceAdd,Nat.reduceLeDiff,Nat.reduceMul,Nat.reduceBEq,cH]|refine rd0 rfl ?_))
     ((first|refine aD (hse) rfl dd ?_|refine aE (hse) rfl dd ?_);(repeat (first|simp only [↓QA,QB,Nat.reduceLT,reduceIte,Nat.reduceEqDiff,Nat.reduceAdd,Nat.reduceLeDiff,Nat.reduceMul,Nat.reduceBEq,cH,kS]|refine rd0 rfl ?_)))
     try try simp only [QS,QC,Nat.reduceLT,reduceIte,Nat.reduceEqDiff,Nat.reduceAdd,Nat.reduceLeDiff,Nat.reduceMul,Nat.reduceBEq,cH]
theorem rB (z:Tram) (c:Int):dL T 44 [dC z,.int .i64 c] (.bool (!decide (c = -1)&&decide (c≤z.due))):=by
 refine aU (af:=a44) rfl (by simp [a44]) dd ?_
 (repeat (first|simp only [↓QA,QB,Nat.reduceLT,reduceIte,Nat.reduceEqDiff,Nat.reduceAdd,Nat.reduceLeDiff,Nat.reduceMul,Nat.reduceBEq,cH,a44]|refine rd0 rfl ?_))
 have e:decide (c = -1)=(c==-1):=by rw [Bool.eq_iff_iff];simp
 rw [e]
 cases h:(c==-1)
 ·(repeat (first|simp only [↓QA,QB,Nat.reduceLT,reduceIte,Nat.reduceEqDiff,Nat.reduceAdd,Nat.reduceLeDiff,Nat.reduceMul,Nat.reduceBEq,cH,h]|refine rd0 rfl ?_))
 ·(repeat (first|simp only [↓QA,QB,Nat.reduceLT,reduceIte,Nat.reduceEqDiff,Nat.reduceAdd,Nat.reduceLeDiff,Nat.reduceMul,Nat.reduceBEq,cH,h,Bool.false_and]|refine rd0 rfl ?_))
end Go.Am.Room
set_option maxRecDepth 4000
namespace Go.Am.Room
def bS:=And.intro @bK (And.intro @aK (And.intro @aZ (And.intro @aX (And.intro @aY (And.intro @aT (And.intro @bI (And.intro @bF (And.intro @bE (And.intro @dP (And.intro @dA (And.intro @Nat.not_lt_zero (And.intro @aN (And.intro @bA (And.intro @bR (And.intro @bZ (And.intro @rQ (And.intro @cA (And.intro @eM (And.intro @kT (And.intro @fM (And.intro @Nat.mul_one (And.intro @Int.toNat_natCast (@Nat.zero_add)))))))))))))))))))))))
def nT (v:Net) (l:List State) (k:Nat) (t:Nat):Int:=(((l.take k).filter (nK v (t:Int))).length:Int)
theorem QL {v:Net} {l:List State} {k:Nat} (h:k<l.length) (t:Nat):nT v l (k+1) t=nT v l k t+(if nK v (t:Int) l[k]=true then 1 else 0):=by
 rw [nT,List.take_succ_eq_append_getElem h,List.filter_append,List.length_append,nT]
 by_cases e:nK v (t:Int) l[k]=true
 ·simp [e]
 ·simp [e]
def o5 (v:Net) (l:List State) (k n:Nat) (t:Nat):Int:=if t<n then nT v l (k+1) t else nT v l k t
theorem UO (v:Net) (l:List State) (k:Nat):o5 v l k 0=nT v l k:=by funext t;simp [o5]
theorem M4 (v:Net) (l:List State) (k:Nat):bX v.trams.length (o5 v l k v.trams.length)=bX v.trams.length (nT v l (k+1)):=vH fun i hi=>by simp [o5,hi]
theorem R3 (v:Net) (l:List State) (k t:Nat):o5 v l k t t=nT v l k t:=by simp [o5]
theorem MK {v:Net} {l:List State} {k t:Nat} {x:Int} (h:nT v l (k+1) t=x):mS (o5 v l k t) t x=o5 v l k (t+1):=by
 funext i
 simp only [mS,o5]
 by_cases e:i=t
 ·subst e;simp [h]
 ·by_cases e2:i<t
  ·simp [e,e2,show i<t+1 by omega]
  ·simp [e,e2,show ¬i<t+1 by omega]
theorem KB {v:Net} {l:List State} {k t:Nat} (h:nT v l (k+1) t=nT v l k t):o5 v l k (t+1)=o5 v l k t:=by
 funext i
 simp only [o5]
 by_cases e:i=t
 ·subst e;simp [h]
 ·by_cases e2:i<t
  ·simp [e2,show i<t+1 by omega]
  ·simp [e2,show ¬i<t+1 by omega]
theorem aB1 (v:Net) (l:List State) (k t:Nat):0≤nT v l k t∧nT v l k t≤l.length:=by
 have:=List.length_filter_le (nK v (t:Int)) (l.take k)
 rw [List.length_take] at this
 simp only [nT];omega
theorem R7 (v:Net) (l:List State) (t:Nat):(nT v l l.length t==(l.length:Int))=qJ v l (t:Int):=by
 rw [Bool.eq_iff_iff,beq_iff_eq,nT,List.take_length,qJ,List.all_eq_true,Int.ofNat_inj,List.length_filter_eq_length_iff]
theorem VF (v:Net) (l:List State) (t:Nat):decide (0<nT v l l.length t)=rL v l (t:Int):=by
 rw [Bool.eq_iff_iff,decide_eq_true_eq,nT,List.take_length,rL,List.any_eq_true]
 constructor
 ·intro h
  have hp:0<(l.filter (nK v (t:Int))).length:=by omega
  obtain ⟨x,hx⟩:=List.exists_mem_of_length_pos hp
  rw [List.mem_filter] at hx
  exact ⟨x,hx⟩
 ·rintro ⟨x,hx,h⟩
  have:0<(l.filter (nK v (t:Int))).length:=List.length_pos_of_mem (List.mem_filter.2 ⟨hx,h⟩)
  omega
theorem OV {v:Net} {s:State} {t:Nat} {z:Tram} {c:Int} (hz:v.trams[t]? = some z) (hc:fV (jL v s) (t:Int)=c):nK v (t:Int) s = !(!decide (c = -1)&&decide (c≤z.due)):=by
 simp only [nK,Int.toNat_natCast,hc,kU,w7,hz]
theorem BS (v:Net) (h:Fits v):dL T 26 [bM v] (jH (fU v)):=by
 refine aU (af:=a26) rfl (by simp [a26]) dd ?_
 have hkn:=qU v (bY v).2.2 (fun h0=>dI h0)
 have hta:dB v=cC v (bY v).2.2:=rfl
 (repeat (first|simp only [↓QA,QB,Nat.reduceLT,reduceIte,Nat.reduceEqDiff,Nat.reduceAdd,Nat.reduceLeDiff,Nat.reduceMul,Nat.reduceBEq,bS,a26]|refine rd0 rfl ?_))
 ((first|refine aD (dX v h) rfl dd ?_|refine aE (dX v h) rfl dd ?_);(repeat (first|simp only [↓QA,QB,Nat.reduceLT,reduceIte,Nat.reduceEqDiff,Nat.reduceAdd,Nat.reduceLeDiff,Nat.reduceMul,Nat.reduceBEq,bS,mE]|refine rd0 rfl ?_)))
 cases hek:(dB v==0)
 ·have hek':dB v≠0:=by simpa using hek
  have hr:fU v=([],[],dB v):=by rw [fU,if_neg hek']
  rw [gL,←hta,if_neg hek'] at hkn
  rw [hr]
  ((first|refine aD (hkn) rfl dd ?_|refine aE (hkn) rfl dd ?_);(repeat (first|simp only [↓QA,QB,Nat.reduceLT,reduceIte,Nat.reduceEqDiff,Nat.reduceAdd,Nat.reduceLeDiff,Nat.reduceMul,Nat.reduceBEq,bS,lP,hek]|refine rd0 rfl ?_)))
  try rfl
 ·have hek':dB v=0:=by simpa using hek
  have hv:Vd v:=dI (by
   rw [hta,cC] at hek'
   split at hek'
   ·assumption
   ·rename_i q;exact absurd hek' q)
  have hnt:=hv.ntr
  have hr:fU v=(AP v (bH v []),vZ v (bH v []),0):=by rw [fU,if_pos hek']
  rw [gL,←hta,if_pos hek',hek'] at hkn
  have htc:=mJ hv []
  have hto:=fun s=>xM hv (bl:=[]) (s:=s)
  have how:=FZ v hv
  obtain ⟨PO,hPO⟩:∃ PO,jM v=PO:=⟨_,rfl⟩
  obtain ⟨l,hl⟩:∃ l,bH v []=l:=⟨_,rfl⟩
  rw [hl] at htc hkn hr
  simp only [hl] at hto
  rw [hr]
  obtain ⟨n,hn⟩:∃ n,v.trams.length=n:=⟨_,rfl⟩
  have hmk:m7 8 (.int .i64 n) (.int .i64 n)=some n:=by simp [m7,room];omega
  have hz0:List.replicate n (AV.int .i64 0)=bX n (nT v l 0):=by rw [←M5];exact vH fun i _=>by simp [nT]
  ((first|refine aD (hkn) rfl dd ?_|refine aE (hkn) rfl dd ?_);(repeat (first|simp only [↓QA,QB,Nat.reduceLT,reduceIte,Nat.reduceEqDiff,Nat.reduceAdd,Nat.reduceLeDiff,Nat.reduceMul,Nat.reduceBEq,bS,lP,hn,hmk,CE,hz0,show ((0:Int)==0)=true from rfl]|refine rd0 rfl ?_)))
  refine bT (S:=Nat) 0 (fun k=>k≤l.length) (fun k=>l.length-k)
   (fun k=>[(1,.ptr 0 0),(8,dZ l),(9,.ref 1 0 n 1),(10,.int .i64 k)])
   (fun k=>[.cells (aB v),.cells (bX n (nT v l k))]) (Nat.zero_le _) (by simp [aB,ints]) ?_ fun k hk=>?_
  ·try simp only [aC,QE,Nat.reduceLT,reduceIte,Nat.reduceEqDiff,Nat.reduceAdd,Nat.reduceLeDiff,Nat.reduceMul,Nat.reduceBEq,bS,mR (show 1<2 by omega)]
   try simp
  ·(repeat (first|simp only [↓QA,QB,Nat.reduceLT,reduceIte,Nat.reduceEqDiff,Nat.reduceAdd,Nat.reduceLeDiff,Nat.reduceMul,Nat.reduceBEq,bS,Z3]|refine rd0 rfl ?_))
   refine aG (fun h2=>?_) fun h2=>?_
   ·have hk1:k<l.length:=by simpa using h2
    have hw:=bP hk1 (by omega)
    have hso:=hto _ (List.getElem_mem hk1)
    have hcs:=fun t=>QL (v:=v) hk1 t
    obtain ⟨s,hs⟩:∃ s,l[k]=s:=⟨_,rfl⟩
    rw [hs] at hso
    simp only [hs] at hcs
    have hrun:=BF v hv s hso
    have hcl:=yG v s
    have hlb:=fun t z c=>OV (v:=v) (s:=s) (t:=t) (z:=z) (c:=c)
    obtain ⟨C,hC⟩:∃ C,jL v s=C:=⟨_,rfl⟩
    obtain ⟨SS,hSS⟩:∃ SS,wN v s=SS:=⟨_,rfl⟩
    rw [hPO] at hrun how
    rw [hC] at hrun hcl
    simp only [hC] at hlb
    rw [hSS] at hrun
    simp only [aN] at hrun
    (repeat (first|simp only [↓QA,QB,Nat.reduceLT,reduceIte,Nat.reduceEqDiff,Nat.reduceAdd,Nat.reduceLeDiff,Nat.reduceMul,Nat.reduceBEq,bS,hk1,hs,ints]|refine rd0 rfl ?_))
    ((first|refine aD (how) rfl dd ?_|refine aE (how) rfl dd ?_);(repeat (first|simp only [↓QA,QB,Nat.reduceLT,reduceIte,Nat.reduceEqDiff,Nat.reduceAdd,Nat.reduceLeDiff,Nat.reduceMul,Nat.reduceBEq,bS,hk1,hs,ints]|refine rd0 rfl ?_)))
    ((first|refine aD (hrun) rfl dd ?_|refine aE (hrun) rfl dd ?_);(repeat (first|simp only [↓QA,QB,Nat.reduceLT,reduceIte,Nat.reduceEqDiff,Nat.reduceAdd,Nat.reduceLeDiff,Nat.reduceMul,Nat.reduceBEq,bS,hk1,hs,ints]|refine rd0 rfl ?_)))
    refine bT (S:=Nat) 0 (fun t=>t≤n) (fun t=>n-t)
     (fun t=>[(1,.ptr 0 0),(8,dZ l),(9,.ref 1 0 n 1),(10,.int .i64 k),(12,ints C),(13,.int .i64 t)])
     (fun t=>[.cells (aB v),.cells (bX n (o5 v l k t))]) (Nat.zero_le _) (by simp [aB,ints,UO]) ?_ fun t ht=>?_
    ·try simp only [aC,QE,Nat.reduceLT,reduceIte,Nat.reduceEqDiff,Nat.reduceAdd,Nat.reduceLeDiff,Nat.reduceMul,Nat.reduceBEq,bS,ints,mR (show 1<2 by omega)]
     try simp
    ·(repeat (first|simp only [↓QA,QB,Nat.reduceLT,reduceIte,Nat.reduceEqDiff,Nat.reduceAdd,Nat.reduceLeDiff,Nat.reduceMul,Nat.reduceBEq,bS,Z2,hcl,hn]|refine rd0 rfl ?_))
     refine aG (fun h3=>?_) fun h3=>?_
     ·have ht1:t<n:=by simpa using h3
      have hwt:=bP ht1 (by omega)
      have htl:t<v.trams.length:=by omega
      have htc2:t<C.length:=by omega
      have hst:=hcs t
      obtain ⟨z,hz⟩:∃ z,v.trams[t]=z:=⟨_,rfl⟩
      obtain ⟨c,hc⟩:∃ c,C[t]=c:=⟨_,rfl⟩
      have hlt:=hlb t z c (by rw [←hz];simp [htl]) (by rw [AG htc2,hc])
      have hb:=aB1 v l k t
      have hg:=i7 n (o5 v l k t) ht1
      rw [R3] at hg
      have i9:(0:Int)≤(t:Int)∧(t:Int)<(n:Int)∧1=1:=⟨by omega,by omega,rfl⟩
      have c9:t+1≤n:=by omega
      have hse:=fun x=>qA n (o5 v l k t) x ht1
      obtain ⟨X,hX⟩:∃ X,nT v l k t=X:=⟨_,rfl⟩
      rw [hX] at hst hb hg
      have hwX:IntKind.i64.wrap (X+1)=X+1:=eA ⟨by omega,by omega⟩
      (repeat (first|simp only [↓QA,QB,Nat.reduceLT,reduceIte,Nat.reduceEqDiff,Nat.reduceAdd,Nat.reduceLeDiff,Nat.reduceMul,Nat.reduceBEq,bS,htl,hz,htc2,hc]|refine rd0 rfl ?_))
      ((first|refine aD (rB z c) rfl dd ?_|refine aE (rB z c) rfl dd ?_);(repeat (first|simp only [↓QA,QB,Nat.reduceLT,reduceIte,Nat.reduceEqDiff,Nat.reduceAdd,Nat.reduceLeDiff,Nat.reduceMul,Nat.reduceBEq,bS,htl,hz,htc2,hc]|refine rd0 rfl ?_)))
      cases q:(!decide (c = -1)&&decide (c≤z.due))
      ·rw [hlt,q] at hst
       simp only [Bool.not_false,if_true] at hst
       have hu:=MK hst
       simp only [Bool.not_false,j5]
       (repeat (first|simp only [↓QA,QB,Nat.reduceLT,reduceIte,Nat.reduceEqDiff,Nat.reduceAdd,Nat.reduceLeDiff,Nat.reduceMul,Nat.reduceBEq,bS,i9,hg,c9,hwX,hse,hu,hwt]|refine rd0 rfl ?_))
       refine ⟨t+1,by omega,by omega,?_⟩
       try simp only [aC,QE,Nat.reduceLT,reduceIte,Nat.reduceEqDiff,Nat.reduceAdd,Nat.reduceLeDiff,Nat.reduceMul,Nat.reduceBEq,bS,hwt,ints,mR (show 1<2 by omega)]
       try simp [aH,m4]
      ·rw [hlt,q] at hst
       simp only [Bool.not_true,Bool.false_eq_true,if_false,Int.add_zero] at hst
       have hu:=KB (hst.trans hX.symm)
       simp only [Bool.not_true,jO]
       (repeat (first|simp only [↓QA,QB,Nat.reduceLT,reduceIte,Nat.reduceEqDiff,Nat.reduceAdd,Nat.reduceLeDiff,Nat.reduceMul,Nat.reduceBEq,bS,hwt]|refine rd0 rfl ?_))
       refine ⟨t+1,by omega,by omega,?_⟩
       try simp only [aC,QE,Nat.reduceLT,reduceIte,Nat.reduceEqDiff,Nat.reduceAdd,Nat.reduceLeDiff,Nat.reduceMul,Nat.reduceBEq,bS,hwt,ints,hu,mR (show 1<2 by omega)]
       try simp [aH,m4]
     ·have ht1:t=n:=by
       have:¬t<n:=by simpa using h3
       omega
      have hca:=M4 v l k
      rw [hn] at hca
      rw [ht1,hca]
      (repeat (first|simp only [↓QA,QB,Nat.reduceLT,reduceIte,Nat.reduceEqDiff,Nat.reduceAdd,Nat.reduceLeDiff,Nat.reduceMul,Nat.reduceBEq,bS,hw]|refine rd0 rfl ?_))
      refine ⟨k+1,by omega,by omega,?_⟩
      try simp only [aC,QE,Nat.reduceLT,reduceIte,Nat.reduceEqDiff,Nat.reduceAdd,Nat.reduceLeDiff,Nat.reduceMul,Nat.reduceBEq,bS,hw,mR (show 1<2 by omega)]
      try simp [aH,m4]
   ·have hk1:k=l.length:=by simp at h2;omega
    rw [hk1]
    have hsu:=R7 v l
    have hma:=VF v l
    obtain ⟨F,hF⟩:∃ F,nT v l l.length=F:=⟨_,rfl⟩
    simp only [hF] at hsu hma
    rw [hF]
    obtain ⟨A,hA⟩:∃ A,AP v l=A:=⟨_,rfl⟩
    obtain ⟨B,hB⟩:∃ B,vZ v l=B:=⟨_,rfl⟩
    have hA':[]++(aR ((0:Nat):Int) ((n:Int)-((0:Nat):Int)).toNat).filter (qJ v l)=A:=by rw [←hA,AP,hn];simp
    have hB':[]++(aR ((0:Nat):Int) ((n:Int)-((0:Nat):Int)).toNat).filter (rL v l)=B:=by rw [←hB,vZ,hn];simp
    rw [hA,hB]
    (repeat (first|simp only [↓QA,QB,Nat.reduceLT,reduceIte,Nat.reduceEqDiff,Nat.reduceAdd,Nat.reduceLeDiff,Nat.reduceMul,Nat.reduceBEq,bS]|refine rd0 rfl ?_))
    refine hH 14 1 [] rfl ?_
    refine hH 15 1 [] rfl ?_
    refine bT (S:=Nat×List Int×List Int×Bool×Bool) (0,[],[],false,false) (fun a=>a.1≤n∧a.2.1++(aR (a.1:Int) ((n:Int)-a.1).toNat).filter (qJ v l)=A∧a.2.2.1++(aR (a.1:Int) ((n:Int)-a.1).toNat).filter (rL v l)=B∧a.2.1.length≤a.1∧a.2.2.1.length≤a.1) (fun a=>n-a.1)
     (fun a=>[(8,dZ l),(9,.ref 1 0 n 1),(14,.lit (a.2.1.map (.int .i64)) false (some 2)),(15,.lit (a.2.2.1.map (.int .i64)) false (some 3)),(16,.int .i64 a.1)])
     (fun a=>[.cells (aB v),.cells (bX n F),.tok 1 a.2.1.length a.2.2.2.1,.tok 1 a.2.2.1.length a.2.2.2.2]) ⟨Nat.zero_le _,hA',hB',by simp,by simp⟩ (by simp [aB,ints]) ?_ fun a ha=>?_
    ·try simp only [aC,QE,Nat.reduceLT,reduceIte,Nat.reduceEqDiff,Nat.reduceAdd,Nat.reduceLeDiff,Nat.reduceMul,Nat.reduceBEq,bS,ints,mR (show 1<4 by omega)]
     try simp
    ·obtain ⟨t,sa,ma,e1,e2⟩:=a
     obtain ⟨ht,hsa,hma2,hl1,hl2⟩:=ha
     simp only at ht hsa hma2 hl1 hl2
     (repeat (first|simp only [↓QA,QB,Nat.reduceLT,reduceIte,Nat.reduceEqDiff,Nat.reduceAdd,Nat.reduceLeDiff,Nat.reduceMul,Nat.reduceBEq,bS,X2]|refine rd0 rfl ?_))
     refine aG (fun h3=>?_) fun h3=>?_
     ·have ht1:t<n:=by simpa using h3
      have hwt:=bP ht1 (by omega)
      rw [lE ht1,←hsu] at hsa
      rw [lE ht1,←hma] at hma2
      have i9:(0:Int)≤(t:Int)∧(t:Int)<(n:Int)∧1=1:=⟨by omega,by omega,rfl⟩
      have hg:=i7 n F ht1
      obtain ⟨f,hf⟩:∃ f,F t=f:=⟨_,rfl⟩
      rw [hf] at hsa hma2 hg
      have ap1:=fun (b0 b1:ABlk) (τ:St)=>iU (σ:=b0::b1::.tok 1 sa.length e1::τ) (l:=sa) (a:=(t:Int)) (ex:=e1) (t:=2) (by omega) rfl
      have ap2:=fun (b0 b1 b2:ABlk) (τ:St)=>iU (σ:=b0::b1::b2::.tok 1 ma.length e2::τ) (l:=ma) (a:=(t:Int)) (ex:=e2) (t:=3) (by omega) rfl
      (repeat (first|simp only [↓QA,QB,Nat.reduceLT,reduceIte,Nat.reduceEqDiff,Nat.reduceAdd,Nat.reduceLeDiff,Nat.reduceMul,Nat.reduceBEq,bS,i9,hg]|refine rd0 rfl ?_))
      cases q1:(f==(l.length:Int))<;>cases q2:decide (0<f)
      ·rw [q1] at hsa
       rw [q2] at hma2
       (repeat (first|simp only [↓QA,QB,Nat.reduceLT,reduceIte,Nat.reduceEqDiff,Nat.reduceAdd,Nat.reduceLeDiff,Nat.reduceMul,Nat.reduceBEq,bS,q1,q2,i9,hg,hwt]|refine rd0 rfl ?_))
       refine ⟨(t+1,sa,ma,e1,e2),⟨by simp only;omega,by simpa using hsa,by simpa using hma2,by simp only;omega,by simp only;omega⟩,by simp only;omega,?_⟩
       try simp only [aC,QE,Nat.reduceLT,reduceIte,Nat.reduceEqDiff,Nat.reduceAdd,Nat.reduceLeDiff,Nat.reduceMul,Nat.reduceBEq,bS,hwt,ints,mR (show 1<4 by omega)]
       try simp [aH,m4]
      ·rw [q1] at hsa
       rw [q2] at hma2
       (repeat (first|simp only [↓QA,QB,Nat.reduceLT,reduceIte,Nat.reduceEqDiff,Nat.reduceAdd,Nat.reduceLeDiff,Nat.reduceMul,Nat.reduceBEq,bS,q1,q2,i9,hg,ap2,hwt]|refine rd0 rfl ?_))
       refine ⟨(t+1,sa,ma++[(t:Int)],e1,true),⟨by simp only;omega,by simpa using hsa,by simpa using hma2,by simp only;omega,by simp;omega⟩,by simp only;omega,?_⟩
       try simp only [aC,QE,Nat.reduceLT,reduceIte,Nat.reduceEqDiff,Nat.reduceAdd,Nat.reduceLeDiff,Nat.reduceMul,Nat.reduceBEq,bS,hwt,ints,kG,mR (show 1<4 by omega),List.map_append,List.map_cons,List.map_nil]
       try simp [aH,m4]
      ·rw [q1] at hsa
       rw [q2] at hma2
       (repeat (first|simp only [↓QA,QB,Nat.reduceLT,reduceIte,Nat.reduceEqDiff,Nat.reduceAdd,Nat.reduceLeDiff,Nat.reduceMul,Nat.reduceBEq,bS,q1,q2,i9,hg,ap1,hwt]|refine rd0 rfl ?_))
       refine ⟨(t+1,sa++[(t:Int)],ma,true,e2),⟨by simp only;omega,by simpa using hsa,by simpa using hma2,by simp;omega,by simp only;omega⟩,by simp only;omega,?_⟩
       try simp only [aC,QE,Nat.reduceLT,reduceIte,Nat.reduceEqDiff,Nat.reduceAdd,Nat.reduceLeDiff,Nat.reduceMul,Nat.reduceBEq,bS,hwt,ints,kG,mR (show 1<4 by omega),List.map_append,List.map_cons,List.map_nil]
       try simp [aH,m4]
      ·rw [q1] at hsa
       rw [q2] at hma2
       (repeat (first|simp only [↓QA,QB,Nat.reduceLT,reduceIte,Nat.reduceEqDiff,Nat.reduceAdd,Nat.reduceLeDiff,Nat.reduceMul,Nat.reduceBEq,bS,q1,q2,i9,hg,ap1,ap2,hwt]|refine rd0 rfl ?_))
       refine ⟨(t+1,sa++[(t:Int)],ma++[(t:Int)],true,true),⟨by simp only;omega,by simpa using hsa,by simpa using hma2,by simp;omega,by simp;omega⟩,by simp only;omega,?_⟩
       try simp only [aC,QE,Nat.reduceLT,reduceIte,Nat.reduceEqDiff,Nat.reduceAdd,Nat.reduceLeDiff,Nat.reduceMul,Nat.reduceBEq,bS,hwt,ints,kG,mR (show 1<4 by omega),List.map_append,List.map_cons,List.map_nil]
       try simp [aH,m4]
     ·have ht1:t=n:=by
       have:¬t<n:=by simpa using h3
       omega
      rw [xB ht1,List.append_nil] at hsa hma2
      subst hsa hma2
      (repeat (first|simp only [↓QA,QB,Nat.reduceLT,reduceIte,Nat.reduceEqDiff,Nat.reduceAdd,Nat.reduceLeDiff,Nat.reduceMul,Nat.reduceBEq,bS,jH]|refine rd0 rfl ?_))
      try try simp only [QS,QC,Nat.reduceLT,reduceIte,Nat.reduceEqDiff,Nat.reduceAdd,Nat.reduceLeDiff,Nat.reduceMul,Nat.reduceBEq,bS]
theorem DG (v:Net) (h:Fits v):dL T 29 [bM v] (qD (jJ v)):=by
 refine aU (af:=a29) rfl (by simp [a29]) dd ?_
 have hft:=h.trams
 have hla:=BS v h
 (repeat (first|simp only [↓QA,QB,Nat.reduceLT,reduceIte,Nat.reduceEqDiff,Nat.reduceAdd,Nat.reduceLeDiff,Nat.reduceMul,Nat.reduceBEq,bS,a29]|refine rd0 rfl ?_))
 by_cases hek':dB v=0
 ·have hr:fU v=(AP v (bH v []),vZ v (bH v []),0):=by rw [fU,if_pos hek']
  have hfo:jJ v=if vZ v (bH v [])=[] then (0,9) else (iF v (vZ v (bH v [])) (-1),0):=by rw [jJ,if_pos hek']
  have hin:=LF (v:=v) (l:=bH v [])
  have hml:=GY v (bH v [])
  obtain ⟨M,hM⟩:∃ M,vZ v (bH v [])=M:=⟨_,rfl⟩
  rw [hM] at hr hfo hml
  rw [hr] at hla
  simp only [hM] at hin
  rw [hfo]
  ((first|refine aD (hla) rfl dd ?_|refine aE (hla) rfl dd ?_);(repeat (first|simp only [↓QA,QB,Nat.reduceLT,reduceIte,Nat.reduceEqDiff,Nat.reduceAdd,Nat.reduceLeDiff,Nat.reduceMul,Nat.reduceBEq,bS,jH,show ((0:Int)==0)=true from rfl]|refine rd0 rfl ?_)))
  cases hg:((M.length:Int)==0)
  ·have hg':M≠[]:=by rintro rfl;simp at hg
   have hpos:0<M.length:=List.length_pos_iff.2 hg'
   rw [if_neg hg']
   have h0:=hin _ (List.getElem_mem hpos)
   obtain ⟨B,hB⟩:∃ B:Nat,M[0]=(B:Int):=⟨M[0].toNat,by omega⟩
   have hgo:=rF (v:=v) hpos (-1)
   rw [List.drop_zero,if_pos (.inl (by omega)),hB] at hgo
   obtain ⟨Z,hZ⟩:∃ Z,iF v M (-1)=Z:=⟨_,rfl⟩
   rw [hZ] at hgo
   rw [hZ]
   rw [hB] at h0
   have hix:yI 1 (M.map (AV.int .i64)) 0 none=some (.lptr (M.map (AV.int .i64)) 0 0 none):=aEM (sz:=1) (enc:=AV.int .i64) (l:=M) (j:=0) (t:=none) (x:=(B:Int)) (by simp [hpos,hB]) (by omega) rfl
   (repeat (first|simp only [↓QA,QB,Nat.reduceLT,reduceIte,Nat.reduceEqDiff,Nat.reduceAdd,Nat.reduceLeDiff,Nat.reduceMul,Nat.reduceBEq,bS,hg,hix,hpos,hB]|refine rd0 rfl ?_))
   refine bT (S:=Nat×Nat) (1,B) (fun a=>a.1≤M.length∧a.2<v.trams.length∧iF v (M.drop a.1) (a.2:Int)=Z) (fun a=>M.length-a.1)
    (fun a=>[(1,.ptr 0 0),(5,ints M),(7,.int .i64 a.2),(8,.int .i64 a.1)]) (fun a=>[.cells (aB v)]) ⟨hpos,by simp only;omega,hgo.symm⟩ (by simp [aB,ints]) ?_ fun a ha=>?_
   ·try simp only [aC,QE,Nat.reduceLT,reduceIte,Nat.reduceEqDiff,Nat.reduceAdd,Nat.reduceLeDiff,Nat.reduceMul,Nat.reduceBEq,bS,ints]
    try simp
   ·obtain ⟨k,b⟩:=a
    obtain ⟨hk,hb,hgo⟩:=ha
    simp only at hk hb hgo
    (repeat (first|simp only [↓QA,QB,Nat.reduceLT,reduceIte,Nat.reduceEqDiff,Nat.reduceAdd,Nat.reduceLeDiff,Nat.reduceMul,Nat.reduceBEq,bS,X3]|refine rd0 rfl ?_))
    refine aG (fun h2=>?_) fun h2=>?_
    ·have hk1:k<M.length:=by simpa using h2
     have hw:=bP hk1 (by omega)
     have hx:=hin _ (List.getElem_mem hk1)
     rw [rF hk1] at hgo
     obtain ⟨x,hxe⟩:∃ x:Nat,M[k]=(x:Int):=⟨M[k].toNat,by omega⟩
     rw [hxe] at hx hgo
     have hx1:x<v.trams.length:=by omega
     rw [Int.toNat_natCast,Int.toNat_natCast,FR hx1,FR hb] at hgo
     obtain ⟨zx,hzx⟩:∃ z,v.trams[x]=z:=⟨_,rfl⟩
     obtain ⟨zb,hzb⟩:∃ z,v.trams[b]=z:=⟨_,rfl⟩
     rw [hzx,hzb] at hgo
     (repeat (first|simp only [↓QA,QB,Nat.reduceLT,reduceIte,Nat.reduceEqDiff,Nat.reduceAdd,Nat.reduceLeDiff,Nat.reduceMul,Nat.reduceBEq,bS,hk1,hxe,hx1,hb,hzx,hzb]|refine rd0 rfl ?_))
     cases q:decide (zx.due<zb.due)
     ·have q':¬zx.due<zb.due:=by simpa using q
      rw [if_neg (by omega)] at hgo
      (repeat (first|simp only [↓QA,QB,Nat.reduceLT,reduceIte,Nat.reduceEqDiff,Nat.reduceAdd,Nat.reduceLeDiff,Nat.reduceMul,Nat.reduceBEq,bS,hw]|refine rd0 rfl ?_))
      refine ⟨(k+1,b),⟨by simp only;omega,by simp only;omega,hgo⟩,by simp only;omega,?_⟩
      try simp only [aC,QE,Nat.reduceLT,reduceIte,Nat.reduceEqDiff,Nat.reduceAdd,Nat.reduceLeDiff,Nat.reduceMul,Nat.reduceBEq,bS,hw,ints]
      try simp [aH]
     ·have q':zx.due<zb.due:=by simpa using q
      rw [if_pos (.inr q')] at hgo
      (repeat (first|simp only [↓QA,QB,Nat.reduceLT,reduceIte,Nat.reduceEqDiff,Nat.reduceAdd,Nat.reduceLeDiff,Nat.reduceMul,Nat.reduceBEq,bS,hk1,hxe,hw]|refine rd0 rfl ?_))
      refine ⟨(k+1,x),⟨by simp only;omega,by simp only;omega,hgo⟩,by simp only;omega,?_⟩
      try simp only [aC,QE,Nat.reduceLT,reduceIte,Nat.reduceEqDiff,Nat.reduceAdd,Nat.reduceLeDiff,Nat.reduceMul,Nat.reduceBEq,bS,hw,ints]
      try simp [aH]
    ·have hk1:k=M.length:=by simp at h2;omega
     rw [hk1,List.drop_length,iF] at hgo
     subst hgo
     (repeat (first|simp only [↓QA,QB,Nat.reduceLT,reduceIte,Nat.reduceEqDiff,Nat.reduceAdd,Nat.reduceLeDiff,Nat.reduceMul,Nat.reduceBEq,bS,qD]|refine rd0 rfl ?_))
     try try simp only [QS,QC,Nat.reduceLT,reduceIte,Nat.reduceEqDiff,Nat.reduceAdd,Nat.reduceLeDiff,Nat.reduceMul,Nat.reduceBEq,bS]
  ·have hg':M=[]:=by simp at hg;exact hg
   rw [if_pos hg']
   (repeat (first|simp only [↓QA,QB,Nat.reduceLT,reduceIte,Nat.reduceEqDiff,Nat.reduceAdd,Nat.reduceLeDiff,Nat.reduceMul,Nat.reduceBEq,bS,hg,qD]|refine rd0 rfl ?_))
   try rfl
 ·have hr:fU v=([],[],dB v):=by rw [fU,if_neg hek']
  have hfo:jJ v=(0,dB v):=by rw [jJ,if_neg hek']
  have hek:(dB v==0)=false:=by simpa using hek'
  rw [hr] at hla
  rw [hfo]
  ((first|refine aD (hla) rfl dd ?_|refine aE (hla) rfl dd ?_);(repeat (first|simp only [↓QA,QB,Nat.reduceLT,reduceIte,Nat.reduceEqDiff,Nat.reduceAdd,Nat.reduceLeDiff,Nat.reduceMul,Nat.reduceBEq,bS,jH,hek]|refine rd0 rfl ?_)))
  (repeat (first|simp only [↓QA,QB,Nat.reduceLT,reduceIte,Nat.reduceEqDiff,Nat.reduceAdd,Nat.reduceLeDiff,Nat.reduceMul,Nat.reduceBEq,bS,qD]|refine rd0 rfl ?_))
  try rfl
end Go.Am.Room
set_option maxRecDepth 4000
namespace Go.Am.Room
theorem GK (l:List State):lX (dZ l):=jE rA l
instance (l:List State):Dat (dZ l):=⟨GK l⟩
end Go.Am.Room
set_option maxRecDepth 8000
namespace Go.Am.Room
theorem TU {n m:Nat} (h:m≤n) (p:Int→Bool):((aR 0 m).filter p).length≤n:=by
 have:=List.length_filter_le p (aR 0 m)
 rw [iV] at this
 omega
theorem XC (v:Net):(fU v).1.length≤3∧(fU v).2.1.length≤3:=by
 unfold fU
 split
 ·rename_i h0
  have:=(j4 h0).1.ntr
  exact ⟨TU (by omega) _,TU (by omega) _⟩
 ·simp
theorem FO (v:Net) (n:Int) (hf:Fits v):dL T 4 [bM v,.int .i64 n] (.bool true):=by
 refine aU (af:=a4) rfl (by simp [a4]) dd ?_
 have h1:=XC v
 (repeat (first|simp only [↓QA,QB,Nat.reduceLT,reduceIte,Nat.reduceEqDiff,Nat.reduceAdd,Nat.reduceLeDiff,Nat.reduceMul,Nat.reduceBEq,bC,a4]|refine rd0 rfl ?_))
 ((first|refine aD (lF v hf n) rfl dd ?_|refine aE (lF v hf n) rfl dd ?_);(repeat (first|simp only [↓QA,QB,Nat.reduceLT,reduceIte,Nat.reduceEqDiff,Nat.reduceAdd,Nat.reduceLeDiff,Nat.reduceMul,Nat.reduceBEq,bC,kS]|refine rd0 rfl ?_)))
 ((first|refine aD (D0 v hf n) rfl dd ?_|refine aE (D0 v hf n) rfl dd ?_);(repeat (first|simp only [↓QA,QB,Nat.reduceLT,reduceIte,Nat.reduceEqDiff,Nat.reduceAdd,Nat.reduceLeDiff,Nat.reduceMul,Nat.reduceBEq,bC,kS]|refine rd0 rfl ?_)))
 ((first|refine aD (wI v hf) rfl dd ?_|refine aE (wI v hf) rfl dd ?_);(repeat (first|simp only [↓QA,QB,Nat.reduceLT,reduceIte,Nat.reduceEqDiff,Nat.reduceAdd,Nat.reduceLeDiff,Nat.reduceMul,Nat.reduceBEq,bC,jH]|refine rd0 rfl ?_)))
 ((first|refine aD (BS v hf) rfl dd ?_|refine aE (BS v hf) rfl dd ?_);(repeat (first|simp only [↓QA,QB,Nat.reduceLT,reduceIte,Nat.reduceEqDiff,Nat.reduceAdd,Nat.reduceLeDiff,Nat.reduceMul,Nat.reduceBEq,bC,jH]|refine rd0 rfl ?_)))
 ((first|refine aD (eZ (fU v).1 (fU v).1 (by omega) (by omega)) rfl dd ?_|refine aE (eZ (fU v).1 (fU v).1 (by omega) (by omega)) rfl dd ?_);(repeat (first|simp only [↓QA,QB,Nat.reduceLT,reduceIte,Nat.reduceEqDiff,Nat.reduceAdd,Nat.reduceLeDiff,Nat.reduceMul,Nat.reduceBEq,bC,eq_self]|refine rd0 rfl ?_)))
 ((first|refine aD (eZ (fU v).2.1 (fU v).2.1 (by omega) (by omega)) rfl dd ?_|refine aE (eZ (fU v).2.1 (fU v).2.1 (by omega) (by omega)) rfl dd ?_);(repeat (first|simp only [↓QA,QB,Nat.reduceLT,reduceIte,Nat.reduceEqDiff,Nat.reduceAdd,Nat.reduceLeDiff,Nat.reduceMul,Nat.reduceBEq,bC,eq_self]|refine rd0 rfl ?_)))
 ((first|refine aD (kV v hf) rfl dd ?_|refine aE (kV v hf) rfl dd ?_);(repeat (first|simp only [↓QA,QB,Nat.reduceLT,reduceIte,Nat.reduceEqDiff,Nat.reduceAdd,Nat.reduceLeDiff,Nat.reduceMul,Nat.reduceBEq,bC,qD]|refine rd0 rfl ?_)))
 ((first|refine aD (DG v hf) rfl dd ?_|refine aE (DG v hf) rfl dd ?_);(repeat (first|simp only [↓QA,QB,Nat.reduceLT,reduceIte,Nat.reduceEqDiff,Nat.reduceAdd,Nat.reduceLeDiff,Nat.reduceMul,Nat.reduceBEq,bC,qD]|refine rd0 rfl ?_)))
 refine aD xE rfl fC ?_
 (repeat (first|simp only [↓QA,QB,Nat.reduceLT,reduceIte,Nat.reduceEqDiff,Nat.reduceAdd,Nat.reduceLeDiff,Nat.reduceMul,Nat.reduceBEq,bC]|refine rd0 rfl ?_))
end Go.Am.Room
