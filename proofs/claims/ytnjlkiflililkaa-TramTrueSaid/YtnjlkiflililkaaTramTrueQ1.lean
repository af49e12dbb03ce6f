/- A part of the proof of TramTrue: an abstract machine, or what functions come to on it. -/
import Derived.Test.YtnjlkiflililkaaOutQ6
import Derived.Lib.Strings
set_option linter.unusedVariables false
set_option linter.unusedSimpArgs false
set_option linter.defProp false
namespace Go.Am
variable {T:FuncId→Option AFunc}
theorem JD (k:IntKind) (a b:Int) (h:b≠0):gE .rem (.int k a) (.int k b)=some (.int k (a.tmod b)):=by simp [gE,lT,h]
end Go.Am
namespace Go.Am
variable {T:FuncId→Option AFunc}
theorem MR {α:Type} {sz:Nat} {enc:α→AV} {l:List α} {i:Int} {t:Option Nat} (h0:0≤i) (h:i.toNat<l.length) (hs:∀ x,(enc x).cells.length=sz):DE sz (l.map enc) i t=some (.lptr (l.map enc) i.toNat 0 t):=by
 simp [DE,List.getElem?_map,h,hs,h0]
end Go.Am
namespace Go.Am
variable {T:FuncId→Option AFunc}
theorem HN {m:Nat}:∀ {xs ys:List AV},okVs m xs→okVs m ys→okVs m (xs++ys)
 |[],_,_,h=>h
 |x::xs,ys,h,h2=>⟨h.1,HN h.2 h2⟩
end Go.Am
namespace Go.Am.Room
theorem FM (n:Int) (s:Span):dR T 45 [.int .i64 n,n9 s] (.bool (inR n s.lo s.hi)):=by
 refine bE (af:=a45) rfl (by simp [a45]) dd ?_
 (repeat (first|simp only [↓QA,QB,Nat.reduceLT,reduceIte,Nat.reduceEqDiff,Nat.reduceAdd,Nat.reduceLeDiff,Nat.reduceMul,Nat.reduceBEq,a45,aR]|refine rd0 rfl ?_))
 refine aC (gU _ _ _) rfl dd ?_
 (repeat (first|simp only [↓QA,QB,Nat.reduceLT,reduceIte,Nat.reduceEqDiff,Nat.reduceAdd,Nat.reduceLeDiff,Nat.reduceMul,Nat.reduceBEq]|refine rd0 rfl ?_))
theorem s8 {α:Type} {f:Nat→α→Int}:∀ {l:List α} {i:Nat},(∀ x∈l,∀ k,f k x=0)→bK f l i=none
 |[],_,_=>rfl
 |x::xs,i,h=>by
  simp only [bK]
  rw [if_pos (h x (by simp) i)]
  exact s8 fun y hy=>h y (by simp [hy])
theorem wZ {α:Type} {f:Nat→α→Int}:∀ {l:List α} {i:Nat},(∀ k (h:k<l.length),f (i+k) l[k]=0)→bK f l i=none
 |[],_,_=>rfl
 |x::xs,i,h=>by
  simp only [bK]
  rw [if_pos (show f i x=0 from h 0 (by simp))]
  exact wZ fun k hk=>by have:=h (k+1) (by simpa using hk);simpa [Nat.add_assoc,Nat.add_comm 1 k] using this
open Go
variable {P:Program}
theorem aDY {x:Int} (h:(Lit.int .u16 x).wf=true):0≤x∧x<65536:=by
 simp [Lit.wf,IntKind.min,IntKind.max,IntKind.signed,IntKind.bits] at h
 omega
theorem SC {n:Nat} {cs:List AV} (T:Tys P) (h:Typ P (n+1) 56 cs):∃ x:Int,mkV P 56 cs = .int .u16 x∧(0≤x∧x<65536):=by
 obtain ⟨x,rfl,hw⟩:=jV T.u16 h
 exact ⟨x,FY T.u16,aDY hw⟩
theorem GA {n:Nat} {cs:List AV} (T:Tys P) (h:Typ P (n+5) 26 cs):∃ s:Net,mkV P 26 cs=bI s∧Fits s:=by
 obtain ⟨r,h1,h2,_⟩:=F6 T h
 exact ⟨r,h1,h2⟩
end Go.Am.Room
namespace Go.Am.Room
theorem tU {v:Net} (h:Vd v):cA v=(0,0,0):=by
 have h1:=h.st
 have h2:=h.nra
 have h3:=h.ntr
 have h4:=h.nse
 have g2:bK (fun _ r=>dA v r) v.rails 0=none:=s8 fun r hr k=>yS.2 (h.ra r hr)
 have g3:bK (iF v) v.trams 0=none:=wZ fun k hk=>by simpa using h.tr k hk
 have g4:bK (jX v) v.seen 0=none:=s8 fun x hx k=>by
  have:=h.se x hx
  have a:inR x.tram 0 ((v.trams.length:Int)-1)=true:=d5.2 (by omega)
  have b:inR x.minute (-1) 400=true:=d5.2 (by omega)
  simp [jX,a,b]
 have e4:nP v=(0,0,0):=by rw [nP,if_neg (by omega),g4]
 have e3:nY v=(0,0,0):=by rw [nY,if_neg (by omega),g3];exact e4
 have e2:nU v=(0,0,0):=by rw [nU,if_neg (by omega),g2];exact e3
 rw [cA,if_neg (by rw [Bool.not_eq_false];exact d5.2 h1)]
 exact e2
def u5 (sz:Nat) (σ:St) (xs:List AV):AV×St:=if xs.length=0 then (.lit [] true none,σ) else (.lit xs false (some σ.length),σ++[.tok sz xs.length true])
theorem OQ {sz b:Nat} {σ:St} {xs:List AV} {f:Bool} {tk:Option Nat} (h:I0q sz b [] xs):dD sz b σ (.lit [] true none) (.lit xs f tk)=some ((u5 sz σ xs).1,(u5 sz σ xs).2):=by
 by_cases h0:xs.length=0
 ·have:xs=[]:=List.length_eq_zero_iff.1 h0
  subst this
  rw [HE];simp [u5]
 ·rw [rD h h0];simp [u5,h0]
theorem D1 {sz b:Nat} {σ:St} {xs ys:List AV} {f:Bool} {tk:Option Nat} (h:I0q sz b xs ys) (hy:ys.length≠0):dD sz b (u5 sz σ xs).2 (u5 sz σ xs).1 (.lit ys f tk)=some (.lit (xs++ys) false (some σ.length),σ++[.tok sz (xs.length+ys.length) true]):=by
 by_cases h0:xs.length=0
 ·have:xs=[]:=List.length_eq_zero_iff.1 h0
  subst this
  simp only [u5,List.length_nil,if_true]
  rw [rD h hy]
  simp
 ·simp only [u5,h0,if_false]
  rw [uG (ex:=true) h hy (by simp)]
  simp
end Go.Am.Room
set_option maxRecDepth 4000
namespace Go.Am.Room
def dP:=And.intro @bH (And.intro @aI (And.intro @aW (And.intro @aT (And.intro @aS (And.intro @aR (And.intro @bF (And.intro @bC (And.intro @bA (And.intro @dH (And.intro @d6 (@Nat.not_lt_zero)))))))))))
def eC (s:State):AV:=.agg [.lit (s.closed.map .bool) false none,ints s.mins]
theorem aQ (s:State):eC s = .agg [.lit (s.closed.map .bool) false none,ints s.mins]:=by simp only [eC]
theorem rY (s:State):mD (eC s):=j5 (bJ (fJ uV s.closed) (bJ (jP _) bP))
instance (s:State):Dat (eC s):=⟨rY s⟩
instance (l:List State):Dats (l.map eC):=⟨bL rY l⟩
theorem aY (σ:St) (m d:Nat) (l:List State):dN σ m d (l.map eC)=some (l.map eC):=mH (bL rY l) σ m d
def fG (l:List State):AV:=.lit (l.map eC) false none
theorem dE (l:List State):fG l = .lit (l.map eC) false none:=by simp only [fG]
theorem tQ (σ:St) (m d:Nat) (l:List Bool):dN σ m d (l.map .bool)=some (l.map .bool):=mH (bL uV l) σ m d
theorem vD (l:List Bool):aM 1 (l.map .bool)=true:=rR 1 _ l fun x=>SM _
theorem sM (l:List State):aM 2 (l.map eC)=true:=rR 2 eC l fun x=>by simp [cO,eC,AV.cells,AV.cell,ints]
def S8 (r:Rail) (s:State) (m:Int):List State:=([false,true].filter (u4 r.shut)).map fun c=>⟨s.closed++[c],s.mins++[m]⟩
theorem NT (r:Rail) (s:State):zX r s=(aU r.mins.lo (r.mins.hi+1-r.mins.lo).toNat).flatMap (S8 r s):=rfl
def V4:Nat→List Bool
 |0=>[false,true]
 |1=>[true]
 |_=>[]
def MK (r:Rail) (s:State) (m:Int) (c:Nat):List State:=((V4 c).filter (u4 r.shut)).map fun c=>⟨s.closed++[c],s.mins++[m]⟩
theorem M6 {c:Nat} (h:c<2) {b:Bool} (hb:((c:Int)==1)=b):V4 c=b::V4 (c+1):=by
 have:c=0∨c=1:=by omega
 rcases this with rfl|rfl
 ·have:b=false:=by rw [←hb];rfl
  subst this;rfl
 ·have:b=true:=by rw [←hb];rfl
  subst this;rfl
theorem y2 {rs:List Rail} {k:Nat} (h:k<rs.length):oH rs (k+1)=(oH rs k).flatMap (zX rs[k]):=by
 simp only [oH,List.getElem?_eq_getElem h]
theorem A0 {rs:List Rail} (hr:∀ r∈rs,r.mins.hi≤r.mins.lo+1):∀ k,(oH rs k).length≤4^k
 |0=>by simp [oH]
 |k+1=>by
  have ih:=A0 hr k
  by_cases h:k<rs.length
  ·rw [y2 h,Nat.pow_succ]
   refine Nat.le_trans (AG (zX rs[k]) 4 _ fun s _=>?_) (Nat.mul_le_mul_right 4 ih)
   rw [NT]
   have hm:=hr _ (List.getElem_mem h)
   refine Nat.le_trans (AG (S8 rs[k] s) 2 _ fun m _=>?_) ?_
   ·have:=List.length_filter_le (u4 rs[k].shut) [false,true]
    simpa [S8] using this
   ·rw [lB]
    omega
  ·simp only [oH,List.getElem?_eq_none (Nat.le_of_not_lt h)]
   exact Nat.le_trans ih (Nat.pow_le_pow_right (by omega) (by omega))
theorem C7 (v:Net) (hv:Vd v):dR T 95 [bI v] (fG (bD v)):=by
 refine bE (af:=a95) rfl (by simp [a95]) dd ?_
 have hnr:=hv.nra
 rw [show bD v=oH v.rails v.rails.length from rfl]
 (repeat (first|simp only [↓QA,QB,Nat.reduceLT,reduceIte,Nat.reduceEqDiff,Nat.reduceAdd,Nat.reduceLeDiff,Nat.reduceMul,Nat.reduceBEq,dP,aQ,aY,a95]|refine rd0 rfl ?_))
 refine bY (S:=Nat) 0 (fun n=>n≤v.rails.length) (fun n=>v.rails.length-n) (fun n=>[(1,.ptr 0 0),(3,fG (oH v.rails n)),(4,.int .i64 n)]) (fun _=>[.cells (aB v)]) (Nat.zero_le _) (by simp [aB,ints]) ?_ fun n hn=>?_
 ·try simp only [aE,QE,Nat.reduceLT,reduceIte,Nat.reduceEqDiff,Nat.reduceAdd,Nat.reduceLeDiff,Nat.reduceMul,Nat.reduceBEq,dP,aQ,aY,dE]
  simp [oH,eC,ints,clr,clrs]
 ·(repeat (first|simp only [↓QA,QB,Nat.reduceLT,reduceIte,Nat.reduceEqDiff,Nat.reduceAdd,Nat.reduceLeDiff,Nat.reduceMul,Nat.reduceBEq,dP,aQ,aY,aAY,dE]|refine rd0 rfl ?_))
  refine aG (fun h=>?_) fun h=>?_
  ·have hn1:n<v.rails.length:=by simpa using h
   have hwn:IntKind.i64.wrap ((n:Int)+1)=((n+1:Nat):Int):=bX hn1 (by omega)
   have hwl:∀ j,j≤5→(oH v.rails j).length≤1024:=fun j hj=>Nat.le_trans (A0 (fun r hr=>(hv.ra r hr).mins.2.2.2) j) (Nat.le_trans (Nat.pow_le_pow_right (by omega) hj) (by decide))
   have hsl:=hwl n (by omega)
   have hsl2:=hwl (n+1) (by omega)
   have hin:=tT (rs:=v.rails) n hn
   have hsu:=y2 hn1
   have hra:=hv.ra _ (List.getElem_mem hn1)
   obtain ⟨r,hr⟩:∃ r,v.rails[n]=r:=⟨_,rfl⟩
   rw [hr] at hsu hra
   have hmi:=hra.mins
   rw [hsu] at hsl2
   obtain ⟨W,hW⟩:∃ W,oH v.rails n=W:=⟨_,rfl⟩
   rw [hW] at hsl hsl2 hsu hin
   rw [hW]
   obtain ⟨X,hX⟩:∃ X,W.flatMap (zX r)=X:=⟨_,rfl⟩
   rw [hX] at hsl2 hsu
   (repeat (first|simp only [↓QA,QB,Nat.reduceLT,reduceIte,Nat.reduceEqDiff,Nat.reduceAdd,Nat.reduceLeDiff,Nat.reduceMul,Nat.reduceBEq,dP,aQ,aY,hn1,hr]|refine rd0 rfl ?_))
   refine mM 6 2 [] rfl ?_
   refine bY (S:=Nat×List State×Bool) (0,[],false) (fun a=>a.1≤W.length∧a.2.1++(W.drop a.1).flatMap (zX r)=X) (fun a=>W.length-a.1)
    (fun a=>[(1,.ptr 0 0),(3,fG W),(4,.int .i64 n),(5,.ptr 1 0),(6,.lit (a.2.1.map eC) false (some 2)),(7,.int .i64 a.1)])
    (fun a=>[.cells (aB v),.cells [.int .i64 r.a,.int .i64 r.b,.int .i64 r.mins.lo,.int .i64 r.mins.hi,.int .i64 r.shut],.tok 2 a.2.1.length a.2.2]) ⟨Nat.zero_le _,by simpa using hX⟩ (by simp [aB,ints]) ?_ fun a ha=>?_
   ·try simp only [aE,QE,Nat.reduceLT,reduceIte,Nat.reduceEqDiff,Nat.reduceAdd,Nat.reduceLeDiff,Nat.reduceMul,Nat.reduceBEq,dP,aQ,aY,dE]
    try simp
   ·obtain ⟨k,acc,ex⟩:=a
    obtain ⟨hk,hacc⟩:=ha
    simp only at hk hacc
    (repeat (first|simp only [↓QA,QB,Nat.reduceLT,reduceIte,Nat.reduceEqDiff,Nat.reduceAdd,Nat.reduceLeDiff,Nat.reduceMul,Nat.reduceBEq,dP,aQ,aY,aBG,dE]|refine rd0 rfl ?_))
    refine aG (fun h2=>?_) fun h2=>?_
    ·have hk1:k<W.length:=by simpa using h2
     have hwk:=bX hk1 (by omega)
     obtain ⟨s,hs⟩:∃ s,W[k]=s:=⟨_,rfl⟩
     have hcl:=hin _ (List.getElem_mem hk1)
     rw [hs] at hcl
     obtain ⟨hl1,hl2,_⟩:=hcl
     rw [List.drop_eq_getElem_cons hk1,hs,List.flatMap_cons,NT] at hacc
     obtain ⟨F,hF⟩:∃ F,(W.drop (k+1)).flatMap (zX r)=F:=⟨_,rfl⟩
     rw [hF] at hacc
     (repeat (first|simp only [↓QA,QB,Nat.reduceLT,reduceIte,Nat.reduceEqDiff,Nat.reduceAdd,Nat.reduceLeDiff,Nat.reduceMul,Nat.reduceBEq,dP,aQ,aY]|refine rd0 rfl ?_))
     refine bY (S:=Int×List State×Bool×St) (r.mins.lo,acc,ex,[]) (fun a=>r.mins.lo≤a.1∧a.1≤r.mins.hi+1∧a.2.1++((aU a.1 (r.mins.hi+1-a.1).toNat).flatMap (S8 r s)++F)=X) (fun a=>(r.mins.hi+1-a.1).toNat)
      (fun a=>[(1,.ptr 0 0),(3,fG W),(4,.int .i64 n),(5,.ptr 1 0),(6,.lit (a.2.1.map eC) false (some 2)),(7,.int .i64 k),(8,.int .i64 a.1)])
      (fun a=>.cells (aB v)::.cells [.int .i64 r.a,.int .i64 r.b,.int .i64 r.mins.lo,.int .i64 r.mins.hi,.int .i64 r.shut]::.tok 2 a.2.1.length a.2.2.1::a.2.2.2) ⟨Int.le_refl _,by simp only;omega,hacc⟩ (by simp [aB]) ?_ fun a ha=>?_
     ·try simp only [aE,QE,Nat.reduceLT,reduceIte,Nat.reduceEqDiff,Nat.reduceAdd,Nat.reduceLeDiff,Nat.reduceMul,Nat.reduceBEq,dP,aQ,aY,dE]
      try simp
     ·obtain ⟨m,acc,ex,τ⟩:=a
      obtain ⟨hm0,hm1,hacc⟩:=ha
      simp only at hm0 hm1 hacc
      (repeat (first|simp only [↓QA,QB,Nat.reduceLT,reduceIte,Nat.reduceEqDiff,Nat.reduceAdd,Nat.reduceLeDiff,Nat.reduceMul,Nat.reduceBEq,dP,aQ,aY,aBF,dE]|refine rd0 rfl ?_))
      refine aG (fun h3=>?_) fun h3=>?_
      ·have hm2:m≤r.mins.hi:=by simpa using h3
       have hwm:IntKind.i64.wrap (m+1)=m+1:=dU ⟨by omega,by omega⟩
       rw [FG hm2,List.flatMap_cons,List.append_assoc] at hacc
       obtain ⟨G,hG⟩:∃ G,(aU (m+1) (r.mins.hi+1-(m+1)).toNat).flatMap (S8 r s)++F=G:=⟨_,rfl⟩
       rw [hG] at hacc
       (repeat (first|simp only [↓QA,QB,Nat.reduceLT,reduceIte,Nat.reduceEqDiff,Nat.reduceAdd,Nat.reduceLeDiff,Nat.reduceMul,Nat.reduceBEq,dP,aQ,aY]|refine rd0 rfl ?_))
       refine bY (S:=Nat×List State×Bool) (0,acc,ex) (fun a=>a.1≤2∧a.2.1++(MK r s m a.1++G)=X) (fun a=>2-a.1)
        (fun a=>[(1,.ptr 0 0),(3,fG W),(4,.int .i64 n),(5,.ptr 1 0),(6,.lit (a.2.1.map eC) false (some 2)),(7,.int .i64 k),(8,.int .i64 m),(9,.int .i64 a.1)])
        (fun a=>.cells (aB v)::.cells [.int .i64 r.a,.int .i64 r.b,.int .i64 r.mins.lo,.int .i64 r.mins.hi,.int .i64 r.shut]::.tok 2 a.2.1.length a.2.2::τ) ⟨by simp,hacc⟩ (by simp [aB]) ?_ fun a ha=>?_
       ·try simp only [aE,QE,Nat.reduceLT,reduceIte,Nat.reduceEqDiff,Nat.reduceAdd,Nat.reduceLeDiff,Nat.reduceMul,Nat.reduceBEq,dP,aQ,aY,dE]
        try simp
       ·obtain ⟨c,acc,ex⟩:=a
        obtain ⟨hc0,hacc⟩:=ha
        simp only at hc0 hacc
        (repeat (first|simp only [↓QA,QB,Nat.reduceLT,reduceIte,Nat.reduceEqDiff,Nat.reduceAdd,Nat.reduceLeDiff,Nat.reduceMul,Nat.reduceBEq,dP,aQ,aY,aCD,dE]|refine rd0 rfl ?_))
        refine aG (fun h4=>?_) fun h4=>?_
        ·have hc2:c<2:=by
          have h0:(c:Int)<2:=by simpa using h4
          omega
         have hwc:=bX hc2 (by omega)
         obtain ⟨b,hb⟩:∃ b,((c:Int)==1)=b:=⟨_,rfl⟩
         rw [MK,M6 hc2 hb,List.filter_cons] at hacc
         have hcan:u4 r.shut b = !(b&&(r.shut==0)||!b&&(r.shut==1)):=by
          have e0:(r.shut==0)=decide (r.shut=0):=by rw [Bool.eq_iff_iff];simp
          have e1:(r.shut==1)=decide (r.shut=1):=by rw [Bool.eq_iff_iff];simp
          rw [u4,e0,e1]
         have hal:acc.length≤1024:=by
          have:=congrArg List.length hacc
          simp only [List.length_append] at this
          omega
         have b0:∀ (σ:St),dD 1 1 σ (.lit [] true none) (.lit (s.closed.map .bool) false none)=some ((u5 1 σ (s.closed.map .bool)).1,(u5 1 σ (s.closed.map .bool)).2):=fun σ=>OQ ⟨rfl,vD _,by simp [room];omega,by simp [room];omega⟩
         have b1:∀ (σ:St),dD 1 1 (u5 1 σ (s.closed.map .bool)).2 (u5 1 σ (s.closed.map .bool)).1 (.lit [.bool b] true none)=some (.lit (s.closed.map .bool++[.bool b]) false (some σ.length),σ++[.tok 1 (s.closed.length+1) true]):=fun σ=>by
          rw [D1 ⟨vD _,by simp [aM,AV.cells,AV.cell],by simp [room];omega,by simp [room];omega⟩ (by simp)]
          simp
         have a0:∀ (σ:St),dD 1 8 σ (.lit [] true none) (.lit (s.mins.map (.int .i64)) false none)=some ((u5 1 σ (s.mins.map (.int .i64))).1,(u5 1 σ (s.mins.map (.int .i64))).2):=fun σ=>OQ ⟨rfl,lP _,by simp [room];omega,by simp [room];omega⟩
         have a1:∀ (σ:St),dD 1 8 (u5 1 σ (s.mins.map (.int .i64))).2 (u5 1 σ (s.mins.map (.int .i64))).1 (.lit [.int .i64 m] true none)=some (.lit (s.mins.map (.int .i64)++[.int .i64 m]) false (some σ.length),σ++[.tok 1 (s.mins.length+1) true]):=fun σ=>by
          rw [D1 ⟨lP _,by simp [aM,AV.cells,AV.cell],by simp [room];omega,by simp [room];omega⟩ (by simp)]
          simp
         have a2:=fun (b0 b1:ABlk) (τ:St) (t u:Nat)=>lC (σ:=b0::b1::.tok 2 acc.length ex::τ) (t:=2) (ex:=ex) (sz:=2) (b:=48) (xs:=acc.map eC) (ys:=[.agg [.lit (s.closed.map .bool++[.bool b]) false (some t),.lit (s.mins.map (.int .i64)++[.int .i64 m]) false (some u)]]) (f:=true) (tk:=none) ⟨sM acc,by simp [aM,cO,AV.cells,AV.cell],by simp [room];omega,by simp [room];omega⟩ (by simp) acc.length (by simp) rfl
         have yes:u4 r.shut b=true→(acc++[(⟨s.closed++[b],s.mins++[m]⟩:State)])++(MK r s m (c+1)++G)=X:=fun q=>by
          rw [q] at hacc
          rw [←hacc];simp [MK]
         have no:u4 r.shut b=false→acc++(MK r s m (c+1)++G)=X:=fun q=>by
          rw [q] at hacc
          rw [←hacc];simp [MK]
         (repeat (first|simp only [↓QA,QB,Nat.reduceLT,reduceIte,Nat.reduceEqDiff,Nat.reduceAdd,Nat.reduceLeDiff,Nat.reduceMul,Nat.reduceBEq,dP,aQ,aY,hb]|refine rd0 rfl ?_))
         cases b
         ·cases q1:(r.shut==1)
          ·have hy:=yes (by rw [hcan,q1];simp)
           (repeat (first|simp only [↓QA,QB,Nat.reduceLT,reduceIte,Nat.reduceEqDiff,Nat.reduceAdd,Nat.reduceLeDiff,Nat.reduceMul,Nat.reduceBEq,dP,aQ,aY,q1]|refine rd0 rfl ?_))
           refine nL [.cells [.lit [] true none,.lit [] true none]] rfl ?_
           (repeat (first|simp only [↓QA,QB,Nat.reduceLT,reduceIte,Nat.reduceEqDiff,Nat.reduceAdd,Nat.reduceLeDiff,Nat.reduceMul,Nat.reduceBEq,dP,aQ,aY,hk1,hs,ints,b0,b1,a0,a1,a2]|refine rd0 rfl ?_))
           refine ⟨(c+1,acc++[⟨s.closed++[false],s.mins++[m]⟩],true),⟨by simp only;omega,hy⟩,by simp only;omega,?_⟩
           try simp only [aE,QE,Nat.reduceLT,reduceIte,Nat.reduceEqDiff,Nat.reduceAdd,Nat.reduceLeDiff,Nat.reduceMul,Nat.reduceBEq,dP,aQ,aY,hwc,dE,ints,tQ,List.map_append,List.map_cons,List.map_nil]
           try simp [aL]
          ·have hy:=no (by rw [hcan,q1];simp)
           (repeat (first|simp only [↓QA,QB,Nat.reduceLT,reduceIte,Nat.reduceEqDiff,Nat.reduceAdd,Nat.reduceLeDiff,Nat.reduceMul,Nat.reduceBEq,dP,aQ,aY,q1]|refine rd0 rfl ?_))
           refine ⟨(c+1,acc,ex),⟨by simp only;omega,hy⟩,by simp only;omega,?_⟩
           try simp only [aE,QE,Nat.reduceLT,reduceIte,Nat.reduceEqDiff,Nat.reduceAdd,Nat.reduceLeDiff,Nat.reduceMul,Nat.reduceBEq,dP,aQ,aY,hwc,dE,ints]
           try simp [aL]
         ·cases q1:(r.shut==0)
          ·have hy:=yes (by rw [hcan,q1];simp)
           (repeat (first|simp only [↓QA,QB,Nat.reduceLT,reduceIte,Nat.reduceEqDiff,Nat.reduceAdd,Nat.reduceLeDiff,Nat.reduceMul,Nat.reduceBEq,dP,aQ,aY,q1]|refine rd0 rfl ?_))
           refine nL [.cells [.lit [] true none,.lit [] true none]] rfl ?_
           (repeat (first|simp only [↓QA,QB,Nat.reduceLT,reduceIte,Nat.reduceEqDiff,Nat.reduceAdd,Nat.reduceLeDiff,Nat.reduceMul,Nat.reduceBEq,dP,aQ,aY,hk1,hs,ints,b0,b1,a0,a1,a2]|refine rd0 rfl ?_))
           refine ⟨(c+1,acc++[⟨s.closed++[true],s.mins++[m]⟩],true),⟨by simp only;omega,hy⟩,by simp only;omega,?_⟩
           try simp only [aE,QE,Nat.reduceLT,reduceIte,Nat.reduceEqDiff,Nat.reduceAdd,Nat.reduceLeDiff,Nat.reduceMul,Nat.reduceBEq,dP,aQ,aY,hwc,dE,ints,tQ,List.map_append,List.map_cons,List.map_nil]
           try simp [aL]
          ·have hy:=no (by rw [hcan,q1];simp)
           (repeat (first|simp only [↓QA,QB,Nat.reduceLT,reduceIte,Nat.reduceEqDiff,Nat.reduceAdd,Nat.reduceLeDiff,Nat.reduceMul,Nat.reduceBEq,dP,aQ,aY,q1]|refine rd0 rfl ?_))
           refine ⟨(c+1,acc,ex),⟨by simp only;omega,hy⟩,by simp only;omega,?_⟩
           try simp only [aE,QE,Nat.reduceLT,reduceIte,Nat.reduceEqDiff,Nat.reduceAdd,Nat.reduceLeDiff,Nat.reduceMul,Nat.reduceBEq,dP,aQ,aY,hwc,dE,ints]
           try simp [aL]
        ·have hc2:c=2:=by
          have h0:¬(c:Int)<2:=by simpa using h4
          omega
         subst hc2
         have he:MK r s m 2=[]:=rfl
         rw [he,List.nil_append,←hG] at hacc
         (repeat (first|simp only [↓QA,QB,Nat.reduceLT,reduceIte,Nat.reduceEqDiff,Nat.reduceAdd,Nat.reduceLeDiff,Nat.reduceMul,Nat.reduceBEq,dP,aQ,aY,hwm]|refine rd0 rfl ?_))
         refine ⟨(m+1,acc,ex,τ),⟨by simp only;omega,by simp only;omega,hacc⟩,by simp only;omega,?_⟩
         try simp only [aE,QE,Nat.reduceLT,reduceIte,Nat.reduceEqDiff,Nat.reduceAdd,Nat.reduceLeDiff,Nat.reduceMul,Nat.reduceBEq,dP,aQ,aY,hwm,dE,ints]
         try simp [aL]
      ·have hm2:¬m≤r.mins.hi:=by simpa using h3
       rw [HK hm2] at hacc
       simp only [List.flatMap_nil,List.nil_append] at hacc
       (repeat (first|simp only [↓QA,QB,Nat.reduceLT,reduceIte,Nat.reduceEqDiff,Nat.reduceAdd,Nat.reduceLeDiff,Nat.reduceMul,Nat.reduceBEq,dP,aQ,aY,hwk]|refine rd0 rfl ?_))
       refine ⟨(k+1,acc,ex),⟨by simp only;omega,by rw [hF];exact hacc⟩,by simp only;omega,?_⟩
       try simp only [aE,QE,Nat.reduceLT,reduceIte,Nat.reduceEqDiff,Nat.reduceAdd,Nat.reduceLeDiff,Nat.reduceMul,Nat.reduceBEq,dP,aQ,aY,hwk,dE,ints]
       try simp [aL]
    ·have hk1:k=W.length:=by simp at h2;omega
     rw [hk1,List.drop_length] at hacc
     simp only [List.flatMap_nil,List.append_nil] at hacc
     subst hacc
     (repeat (first|simp only [↓QA,QB,Nat.reduceLT,reduceIte,Nat.reduceEqDiff,Nat.reduceAdd,Nat.reduceLeDiff,Nat.reduceMul,Nat.reduceBEq,dP,aQ,aY,hwn]|refine rd0 rfl ?_))
     refine ⟨n+1,by omega,by omega,?_⟩
     try simp only [aE,QE,Nat.reduceLT,reduceIte,Nat.reduceEqDiff,Nat.reduceAdd,Nat.reduceLeDiff,Nat.reduceMul,Nat.reduceBEq,dP,aQ,aY,hwn,hsu,dE,ints]
     try simp [aL]
  ·have hn1:n=v.rails.length:=by simp at h;omega
   subst hn1
   (repeat (first|simp only [↓QA,QB,Nat.reduceLT,reduceIte,Nat.reduceEqDiff,Nat.reduceAdd,Nat.reduceLeDiff,Nat.reduceMul,Nat.reduceBEq,dP,aQ,aY,dE]|refine rd0 rfl ?_))
   try try simp only [QS,QC,Nat.reduceLT,reduceIte,Nat.reduceEqDiff,Nat.reduceAdd,Nat.reduceLeDiff,Nat.reduceMul,Nat.reduceBEq,dP,aQ,aY]
end Go.Am.Room
set_option maxRecDepth 4000
namespace Go.Am.Room
def eX:=And.intro @bH (And.intro @aI (And.intro @aW (And.intro @aT (And.intro @aS (And.intro @aR (And.intro @bF (And.intro @bC (And.intro @bA (And.intro @dH (And.intro @d6 (And.intro @Nat.not_lt_zero (And.intro @aQ (And.intro @aY (@tQ))))))))))))))
def fU (x:Stay):AV:=.agg [.int .i64 x.tram,.int .i64 x.rail,.int .i64 x.frm,.int .i64 x.til]
theorem bQ (x:Stay):fU x = .agg [.int .i64 x.tram,.int .i64 x.rail,.int .i64 x.frm,.int .i64 x.til]:=by simp only [fU]
theorem yV (x:Stay):mD (fU x):=j5 (bJ (dC _ _) (bJ (dC _ _) (bJ (dC _ _) (bJ (dC _ _) bP))))
instance (x:Stay):Dat (fU x):=⟨yV x⟩
instance (l:List Stay):Dats (l.map fU):=⟨bL yV l⟩
theorem cE (σ:St) (m d:Nat) (l:List Stay):dN σ m d (l.map fU)=some (l.map fU):=mH (bL yV l) σ m d
def FX (l:List Stay):AV:=.lit (l.map fU) false none
theorem LE (l:List Stay):FX l = .lit (l.map fU) false none:=by simp only [FX]
theorem A4 (l:List Stay):aM 4 (l.map fU)=true:=rR 4 fU l fun x=>by simp [cO,fU,AV.cells,AV.cell]
theorem R3 (ss:List Stay) (rail ready m B:Int) (hl:ss.length<9223372036854775808) (hB:∀ x∈ss,x.til≤B) (h0:0≤ready) (hr:ready≤B) (hB2:B≤1000) (hm:0≤m∧m≤20) :
  dR T 96 [.lit (ss.map fU) false none,.int .i64 rail,.int .i64 ready,.int .i64 m] (.int .i64 (g7 ss rail ready m)):=by
 refine bE (af:=a96) rfl (by simp [a96]) dd ?_
 have hfi:=yY (rail:=rail) (m:=m) hB (show B≤ready+1000 by omega)
 obtain ⟨Z,hZ⟩:∃ Z,g7 ss rail ready m=Z:=⟨_,rfl⟩
 rw [hZ] at hfi ⊢
 (repeat (first|simp only [↓QA,QB,Nat.reduceLT,reduceIte,Nat.reduceEqDiff,Nat.reduceAdd,Nat.reduceLeDiff,Nat.reduceMul,Nat.reduceBEq,eX,bQ,cE,a96]|refine rd0 rfl ?_))
 refine bY (S:=Int) ready (fun r=>sH ss rail m ready r) (fun r=>(B-r).toNat)
  (fun r=>[(0,.lit (ss.map fU) false none),(1,.int .i64 rail),(2,.int .i64 r),(3,.int .i64 m)]) (fun _=>[]) (DZ _ _ _ _) rfl ?_ fun r hb=>?_
 ·try simp only [aE,QE,Nat.reduceLT,reduceIte,Nat.reduceEqDiff,Nat.reduceAdd,Nat.reduceLeDiff,Nat.reduceMul,Nat.reduceBEq,eX,bQ,cE]
  try simp
 ·have hrB:=AA hB hb hr
  have hr0:=hb.1
  have hwm:IntKind.i64.wrap (r+m)=r+m:=dU ⟨by omega,by omega⟩
  (repeat (first|simp only [↓QA,QB,Nat.reduceLT,reduceIte,Nat.reduceEqDiff,Nat.reduceAdd,Nat.reduceLeDiff,Nat.reduceMul,Nat.reduceBEq,eX,bQ,cE,aB8]|refine rd0 rfl ?_))
  refine bY (S:=Nat×Int) (0,r) (fun a=>a.1≤ss.length∧Q2 ss rail m ready r a.1 a.2) (fun a=>ss.length-a.1)
   (fun a=>[(0,.lit (ss.map fU) false none),(1,.int .i64 rail),(2,.int .i64 r),(3,.int .i64 m),(9,.int .i64 a.2),(10,.int .i64 a.1)]) (fun _=>[]) ⟨by simp,.inl ⟨rfl,by simp⟩⟩ rfl ?_ fun a ha=>?_
  ·try simp only [aE,QE,Nat.reduceLT,reduceIte,Nat.reduceEqDiff,Nat.reduceAdd,Nat.reduceLeDiff,Nat.reduceMul,Nat.reduceBEq,eX,bQ,cE]
   try simp
  ·obtain ⟨k,n⟩:=a
   obtain ⟨hk,hlk⟩:=ha
   simp only at hk hlk
   (repeat (first|simp only [↓QA,QB,Nat.reduceLT,reduceIte,Nat.reduceEqDiff,Nat.reduceAdd,Nat.reduceLeDiff,Nat.reduceMul,Nat.reduceBEq,eX,bQ,cE,aB3]|refine rd0 rfl ?_))
   refine aG (fun h=>?_) fun h=>?_
   ·have hk1:k<ss.length:=by simpa using h
    have hw:=bX hk1 hl
    obtain ⟨x,hx⟩:∃ x,ss[k]=x:=⟨_,rfl⟩
    have hxm:x∈ss:=by rw [←hx];exact List.getElem_mem hk1
    have hat:=C3 (p:=iN rail r m) hk1
    rw [hx] at hat
    have no:iN rail r m x=false→Q2 ss rail m ready r (k+1) n:=fun q=>by
     rcases hlk with ⟨e,a⟩|e
     ·exact .inl ⟨e,by rw [hat,a,q];rfl⟩
     ·exact .inr e
    have yes:iN rail r m x=true→Q2 ss rail m ready r (k+1) (max n x.til):=fun q=>by
     have q1:=wF q
     have q2:=EZ hb hxm (Int.le_refl r) q (fun y h1 h2=>by omega)
     right
     refine ⟨by omega,?_⟩
     rcases hlk with ⟨e,_⟩|⟨e1,e2⟩
     ·rw [Int.max_eq_right (by omega)];exact q2
     ·by_cases hc:n≤x.til
      ·rw [Int.max_eq_right hc];exact q2
      ·rw [Int.max_eq_left (by omega)];exact e2
    have hcl:iN rail r m x=((x.rail==rail)&&decide (x.frm<r+m)&&decide (r<x.til)):=by
     have:decide (x.rail=rail)=(x.rail==rail):=by rw [Bool.eq_iff_iff];simp
     rw [iN,this]
    (repeat (first|simp only [↓QA,QB,Nat.reduceLT,reduceIte,Nat.reduceEqDiff,Nat.reduceAdd,Nat.reduceLeDiff,Nat.reduceMul,Nat.reduceBEq,eX,bQ,cE,hk1,hx]|refine rd0 rfl ?_))
    cases q1:(x.rail==rail)
    ·have nn:=no (by rw [hcl,q1];simp)
     (repeat (first|simp only [↓QA,QB,Nat.reduceLT,reduceIte,Nat.reduceEqDiff,Nat.reduceAdd,Nat.reduceLeDiff,Nat.reduceMul,Nat.reduceBEq,eX,bQ,cE,q1,hw]|refine rd0 rfl ?_))
     refine ⟨(k+1,n),⟨by simp only;omega,nn⟩,by simp only;omega,?_⟩
     try simp only [aE,QE,Nat.reduceLT,reduceIte,Nat.reduceEqDiff,Nat.reduceAdd,Nat.reduceLeDiff,Nat.reduceMul,Nat.reduceBEq,eX,bQ,cE,hw]
     try simp [aL]
    ·cases q2:decide (x.frm<r+m)
     ·have nn:=no (by rw [hcl,q1,q2];simp)
      (repeat (first|simp only [↓QA,QB,Nat.reduceLT,reduceIte,Nat.reduceEqDiff,Nat.reduceAdd,Nat.reduceLeDiff,Nat.reduceMul,Nat.reduceBEq,eX,bQ,cE,q1,hw,hwm,q2]|refine rd0 rfl ?_))
      refine ⟨(k+1,n),⟨by simp only;omega,nn⟩,by simp only;omega,?_⟩
      try simp only [aE,QE,Nat.reduceLT,reduceIte,Nat.reduceEqDiff,Nat.reduceAdd,Nat.reduceLeDiff,Nat.reduceMul,Nat.reduceBEq,eX,bQ,cE,hw]
      try simp [aL]
     ·cases q3:decide (r<x.til)
      ·have nn:=no (by rw [hcl,q1,q2,q3];simp)
       (repeat (first|simp only [↓QA,QB,Nat.reduceLT,reduceIte,Nat.reduceEqDiff,Nat.reduceAdd,Nat.reduceLeDiff,Nat.reduceMul,Nat.reduceBEq,eX,bQ,cE,q1,hw,hwm,q2,q3]|refine rd0 rfl ?_))
       refine ⟨(k+1,n),⟨by simp only;omega,nn⟩,by simp only;omega,?_⟩
       try simp only [aE,QE,Nat.reduceLT,reduceIte,Nat.reduceEqDiff,Nat.reduceAdd,Nat.reduceLeDiff,Nat.reduceMul,Nat.reduceBEq,eX,bQ,cE,hw]
       try simp [aL]
      ·have nn:=yes (by rw [hcl,q1,q2,q3];simp)
       (repeat (first|simp only [↓QA,QB,Nat.reduceLT,reduceIte,Nat.reduceEqDiff,Nat.reduceAdd,Nat.reduceLeDiff,Nat.reduceMul,Nat.reduceBEq,eX,bQ,cE,q1,hw,hwm,q2,q3]|refine rd0 rfl ?_))
       refine ⟨(k+1,max n x.til),⟨by simp only;omega,nn⟩,by simp only;omega,?_⟩
       try simp only [aE,QE,Nat.reduceLT,reduceIte,Nat.reduceEqDiff,Nat.reduceAdd,Nat.reduceLeDiff,Nat.reduceMul,Nat.reduceBEq,eX,bQ,cE,hw]
       try simp [aL]
   ·have hk1:k=ss.length:=by simp at h;omega
    rw [hk1] at hlk
    rcases hlk with ⟨e,a⟩|⟨e1,e2⟩
    ·rw [List.take_length] at a
     have hz:=E3 hfi (DR hb a)
     subst e
     have g:(n==n)=true:=by simp
     (repeat (first|simp only [↓QA,QB,Nat.reduceLT,reduceIte,Nat.reduceEqDiff,Nat.reduceAdd,Nat.reduceLeDiff,Nat.reduceMul,Nat.reduceBEq,eX,bQ,cE,g,hz]|refine rd0 rfl ?_))
    ·have g:(n==r)=false:=by simp;omega
     have hnB:=AA hB e2 hr
     (repeat (first|simp only [↓QA,QB,Nat.reduceLT,reduceIte,Nat.reduceEqDiff,Nat.reduceAdd,Nat.reduceLeDiff,Nat.reduceMul,Nat.reduceBEq,eX,bQ,cE,g]|refine rd0 rfl ?_))
     refine ⟨n,e2,by omega,?_⟩
     try simp only [aE,QE,Nat.reduceLT,reduceIte,Nat.reduceEqDiff,Nat.reduceAdd,Nat.reduceLeDiff,Nat.reduceMul,Nat.reduceBEq,eX,bQ,cE]
     try simp [aL]
theorem wA (v:Net) (hv:Vd v):dR T 50 [bI v] (bU (fY v)):=by
 refine bE (af:=a50) rfl (by simp [a50]) dd ?_
 have hnt:=hv.ntr
 (repeat (first|simp only [↓QA,QB,Nat.reduceLT,reduceIte,Nat.reduceEqDiff,Nat.reduceAdd,Nat.reduceLeDiff,Nat.reduceMul,Nat.reduceBEq,eX,bQ,cE,a50]|refine rd0 rfl ?_))
 refine mM 3 1 [] rfl ?_
 refine bY (S:=Nat×Bool) (0,false) (fun a=>a.1≤v.trams.length) (fun a=>v.trams.length-a.1)
  (fun a=>[(1,.ptr 0 0),(3,.lit (((v.trams.take a.1).map Tram.path).map ints) false (some 1)),(4,.int .i64 a.1)]) (fun a=>[.cells (aB v),.tok 1 a.1 a.2]) (Nat.zero_le _) (by simp [aB,ints]) ?_ fun a ha=>?_
 ·try simp only [aE,QE,Nat.reduceLT,reduceIte,Nat.reduceEqDiff,Nat.reduceAdd,Nat.reduceLeDiff,Nat.reduceMul,Nat.reduceBEq,eX,bQ,cE]
  try simp
 ·obtain ⟨k,ex⟩:=a
  simp only at ha
  (repeat (first|simp only [↓QA,QB,Nat.reduceLT,reduceIte,Nat.reduceEqDiff,Nat.reduceAdd,Nat.reduceLeDiff,Nat.reduceMul,Nat.reduceBEq,eX,bQ,cE,aA2]|refine rd0 rfl ?_))
  refine aG (fun h=>?_) fun h=>?_
  ·have hk1:k<v.trams.length:=by simpa using h
   have hw:=bX hk1 (by omega)
   have htk:(v.trams.take (k+1)).map Tram.path=(v.trams.take k).map Tram.path++[v.trams[k].path]:=by
    rw [List.take_succ_eq_append_getElem hk1,List.map_append];rfl
   have hlen:((v.trams.take k).map Tram.path).length=k:=by simp;omega
   obtain ⟨t,ht⟩:∃ t,v.trams[k]=t:=⟨_,rfl⟩
   rw [ht] at htk
   obtain ⟨P,hP⟩:∃ P,(v.trams.take k).map Tram.path=P:=⟨_,rfl⟩
   rw [hP] at htk hlen
   have a2:=fun (b0:ABlk) (τ:St)=>lC (σ:=b0::.tok 1 k ex::τ) (t:=1) (ex:=ex) (sz:=1) (b:=24) (xs:=P.map ints) (ys:=[.lit (t.path.map (.int .i64)) false none]) (f:=true) (tk:=none) ⟨m7 P,by simp [aM,AV.cells,AV.cell],by simp [room];omega,by simp [room];omega⟩ (by simp) k (by simp [hlen]) rfl
   rw [hP]
   (repeat (first|simp only [↓QA,QB,Nat.reduceLT,reduceIte,Nat.reduceEqDiff,Nat.reduceAdd,Nat.reduceLeDiff,Nat.reduceMul,Nat.reduceBEq,eX,bQ,cE,hk1,ht,ints,a2]|refine rd0 rfl ?_))
   refine ⟨(k+1,true),by simp only;omega,by simp only;omega,?_⟩
   try simp only [aE,QE,Nat.reduceLT,reduceIte,Nat.reduceEqDiff,Nat.reduceAdd,Nat.reduceLeDiff,Nat.reduceMul,Nat.reduceBEq,eX,bQ,cE,hw,htk,bU,ints,List.map_append,List.map_cons,List.map_nil]
   try simp [aL]
  ·have hk1:k=v.trams.length:=by simp at h;omega
   rw [hk1,List.take_length]
   (repeat (first|simp only [↓QA,QB,Nat.reduceLT,reduceIte,Nat.reduceEqDiff,Nat.reduceAdd,Nat.reduceLeDiff,Nat.reduceMul,Nat.reduceBEq,eX,bQ,cE,bU,fY]|refine rd0 rfl ?_))
   try try simp only [QS,QC,Nat.reduceLT,reduceIte,Nat.reduceEqDiff,Nat.reduceAdd,Nat.reduceLeDiff,Nat.reduceMul,Nat.reduceBEq,eX,bQ,cE]
end Go.Am.Room
set_option maxRecDepth 4000
namespace Go.Am.Room
def dW:=And.intro @bH (And.intro @aI (And.intro @aW (And.intro @aT (And.intro @aS (And.intro @aR (And.intro @bF (And.intro @bC (And.intro @bA (And.intro @dH (And.intro @d6 (And.intro @Nat.not_lt_zero (And.intro @aQ (And.intro @aY (And.intro @bQ (And.intro @cE (@tQ))))))))))))))))
structure StOk (v:Net) (s:State):Prop where
 cl:s.closed.length=v.rails.length
 mi:s.mins.length=v.rails.length
 bd:∀ i (h:i<s.mins.length),1≤s.mins[i]∧s.mins[i]≤20
theorem S4 {v:Net} {s:State} (hs:StOk v s) {R:Nat} (h1:R<s.closed.length) (h2:R<s.mins.length):eff s (R:Int)=if s.closed[R]=true then 0 else s.mins[R]:=by
 simp [eff,h1,h2]
theorem GE {v:Net} {s:State} (hs:StOk v s):vQ v (eff s):=by
 intro r h0 h1
 obtain ⟨R,rfl⟩:∃ R:Nat,r=R:=⟨r.toNat,by omega⟩
 have c1:=hs.cl
 have c2:=hs.mi
 rw [S4 hs (by omega) (by omega)]
 have:=hs.bd R (by omega)
 split<;>omega
def aA6 (x:List Stay×List Int):AV:=.tuple [FX x.1,ints x.2]
theorem W0 {p:List Int} {f:Int→Bool} {k:Nat} (h:k=p.length):(p.take k).any f=p.any f:=by rw [h,List.take_length]
theorem Z2 (v:Net) (hv:Vd v) (s:State) (hs:StOk v s) (ps:List (List Int)) (hp:RunOk v ps):dR T 49 [bI v,eC s,bU ps] (aA6 (dB v (eff s) ps v.trams.length)):=by
 refine bE (af:=a49) rfl (by simp [a49]) dd ?_
 have hnt:=hv.ntr
 have hpl:=hp.len
 have c1:=hs.cl
 have c2:=hs.mi
 have hbd:=F7 hv (GE hs) hp
 obtain ⟨m,hm⟩:∃ m,eff s=m:=⟨_,rfl⟩
 have hmb:=GE hs
 have hea:=fun R h1 h2=>S4 hs (R:=R) h1 h2
 rw [hm] at hmb hbd
 simp only [hm] at hea ⊢
 (repeat (first|simp only [↓QA,QB,Nat.reduceLT,reduceIte,Nat.reduceEqDiff,Nat.reduceAdd,Nat.reduceLeDiff,Nat.reduceMul,Nat.reduceBEq,dW,a49,bU]|refine rd0 rfl ?_))
 refine mM 8 4 [] rfl ?_
 (repeat (first|simp only [↓QA,QB,Nat.reduceLT,reduceIte,Nat.reduceEqDiff,Nat.reduceAdd,Nat.reduceLeDiff,Nat.reduceMul,Nat.reduceBEq,dW]|refine rd0 rfl ?_))
 refine mM 9 1 [] rfl ?_
 refine bY (S:=Nat×Bool×Bool) (0,false,false) (fun a=>a.1≤v.trams.length) (fun a=>v.trams.length-a.1)
  (fun a=>[(2,bU ps),(3,.ptr 0 0),(4,.ptr 1 0),(8,.lit ((dB v m ps a.1).1.map fU) false (some 2)),(9,.lit ((dB v m ps a.1).2.map (.int .i64)) false (some 3)),(10,.int .i64 a.1)])
  (fun a=>[.cells (aB v),.cells [.lit (s.closed.map .bool) false none,ints s.mins],.tok 4 (dB v m ps a.1).1.length a.2.1,.tok 1 a.1 a.2.2]) (Nat.zero_le _) (by simp [aB,ints,dB]) ?_ fun a ha=>?_
 ·try simp only [aE,QE,Nat.reduceLT,reduceIte,Nat.reduceEqDiff,Nat.reduceAdd,Nat.reduceLeDiff,Nat.reduceMul,Nat.reduceBEq,dW,bU,ints]
  try simp [dB]
 ·obtain ⟨i,ex,ex2⟩:=a
  simp only at ha
  (repeat (first|simp only [↓QA,QB,Nat.reduceLT,reduceIte,Nat.reduceEqDiff,Nat.reduceAdd,Nat.reduceLeDiff,Nat.reduceMul,Nat.reduceBEq,dW,aAI,bU]|refine rd0 rfl ?_))
  refine aG (fun h=>?_) fun h=>?_
  ·have hi1:i<v.trams.length:=by simpa using h
   have hwi:=bX hi1 (by omega)
   have hip:i<ps.length:=by omega
   obtain ⟨b1,b2⟩:=hbd i (by omega)
   have hlc:=mA v m ps i
   have hsu:=JQ v m ps i
   have hto:=pU hv hi1
   have hpm:=A9 hp hi1
   have hp4:=hp.few _ hpm
   have hpr:=hp.rails _ hpm
   have hpe:eI ps i=ps[i]:=by simp [eI,hip]
   rw [uJ hi1,hpe] at hsu
   rw [hpe] at hp4 hpr
   obtain ⟨t,ht⟩:∃ t,v.trams[i]=t:=⟨_,rfl⟩
   obtain ⟨p,hpp⟩:∃ p,ps[i]=p:=⟨_,rfl⟩
   rw [ht] at hto hsu
   rw [hpp] at hp4 hpr hsu
   have hlv:=hto.leaves
   obtain ⟨L,hL⟩:∃ L,t.leaves=L:=⟨_,rfl⟩
   rw [hL] at hlv hsu
   obtain ⟨SS,hSS⟩:∃ SS,(dB v m ps i).1=SS:=⟨_,rfl⟩
   obtain ⟨OO,hOO⟩:∃ OO,(dB v m ps i).2=OO:=⟨_,rfl⟩
   rw [hSS] at b1 hsu
   rw [hOO] at b2 hlc hsu
   have hgo:j3 m i L p SS=if p.any (fun r=>m r==0)=true then (SS,-1) else kM m i p L SS:=rfl
   rw [hSS,hOO]
   obtain ⟨R,hR⟩:∃ R,j3 m i L p SS=R:=⟨_,rfl⟩
   rw [hR] at hsu hgo
   have hsu1:(dB v m ps (i+1)).1=R.1:=by rw [hsu]
   have hsu2:(dB v m ps (i+1)).2=OO++[R.2]:=by rw [hsu]
   have aO:=fun (b0 b1 b2:ABlk) (τ:St) (ex2:Bool)=>lC (σ:=b0::b1::b2::.tok 1 i ex2::τ) (t:=3) (ex:=ex2) (sz:=1) (b:=8) (xs:=OO.map (.int .i64)) (ys:=[.int .i64 R.2]) (f:=true) (tk:=none) ⟨lP OO,by simp [aM,AV.cells,AV.cell],by simp [room];omega,by simp [room];omega⟩ (by simp) i (by simp [hlc]) rfl
   (repeat (first|simp only [↓QA,QB,Nat.reduceLT,reduceIte,Nat.reduceEqDiff,Nat.reduceAdd,Nat.reduceLeDiff,Nat.reduceMul,Nat.reduceBEq,dW,hi1,ht,hL,hip,hpp,bU]|refine rd0 rfl ?_))
   refine bY (S:=Nat) 0 (fun k=>k≤p.length) (fun k=>p.length-k)
    (fun k=>[(2,bU ps),(3,.ptr 0 0),(4,.ptr 1 0),(8,.lit (SS.map fU) false (some 2)),(9,.lit (OO.map (.int .i64)) false (some 3)),(10,.int .i64 i),(11,.int .i64 (if (p.take k).any (fun r=>m r==0)=true then -1 else L)),(12,.int .i64 k)])
    (fun k=>[.cells (aB v),.cells [.lit (s.closed.map .bool) false none,ints s.mins],.tok 4 SS.length ex,.tok 1 i ex2]) (Nat.zero_le _) (by simp [aB,ints]) ?_ fun k hk=>?_
   ·try simp only [aE,QE,Nat.reduceLT,reduceIte,Nat.reduceEqDiff,Nat.reduceAdd,Nat.reduceLeDiff,Nat.reduceMul,Nat.reduceBEq,dW,bU,ints]
    try simp
   ·(repeat (first|simp only [↓QA,QB,Nat.reduceLT,reduceIte,Nat.reduceEqDiff,Nat.reduceAdd,Nat.reduceLeDiff,Nat.reduceMul,Nat.reduceBEq,dW,aBS,bU,hip,hpp]|refine rd0 rfl ?_))
    refine aG (fun h2=>?_) fun h2=>?_
    ·have hk1:k<p.length:=by simpa using h2
     have hwk:=bX hk1 (by omega)
     have hat:=C3 (p:=fun r=>m r==0) hk1
     have hpk:=hpr _ (List.getElem_mem hk1)
     obtain ⟨r,hr⟩:∃ r:Nat,p[k]=(r:Int):=⟨p[k].toNat,by omega⟩
     rw [hr] at hat hpk
     have hr1:r<s.closed.length:=by omega
     have hr2:r<s.mins.length:=by omega
     have hmr:=hea r hr1 hr2
     have hmi:=hs.bd r hr2
     obtain ⟨cb,hcb⟩:∃ cb,s.closed[r]=cb:=⟨_,rfl⟩
     rw [hcb] at hmr
     (repeat (first|simp only [↓QA,QB,Nat.reduceLT,reduceIte,Nat.reduceEqDiff,Nat.reduceAdd,Nat.reduceLeDiff,Nat.reduceMul,Nat.reduceBEq,dW,hk1,hr,hr1,hcb,hip,hpp]|refine rd0 rfl ?_))
     cases cb
     ·have h0:(m (r:Int)==0)=false:=by rw [hmr];simp;omega
      rw [h0,Bool.or_false] at hat
      (repeat (first|simp only [↓QA,QB,Nat.reduceLT,reduceIte,Nat.reduceEqDiff,Nat.reduceAdd,Nat.reduceLeDiff,Nat.reduceMul,Nat.reduceBEq,dW,hwk]|refine rd0 rfl ?_))
      refine ⟨k+1,by omega,by omega,?_⟩
      try simp only [aE,QE,Nat.reduceLT,reduceIte,Nat.reduceEqDiff,Nat.reduceAdd,Nat.reduceLeDiff,Nat.reduceMul,Nat.reduceBEq,dW,hwk,hat,bU,ints]
      try simp [aL]
     ·have h0:(m (r:Int)==0)=true:=by rw [hmr];simp
      rw [h0,Bool.or_true] at hat
      (repeat (first|simp only [↓QA,QB,Nat.reduceLT,reduceIte,Nat.reduceEqDiff,Nat.reduceAdd,Nat.reduceLeDiff,Nat.reduceMul,Nat.reduceBEq,dW,hwk]|refine rd0 rfl ?_))
      refine ⟨k+1,by omega,by omega,?_⟩
      try simp only [aE,QE,Nat.reduceLT,reduceIte,Nat.reduceEqDiff,Nat.reduceAdd,Nat.reduceLeDiff,Nat.reduceMul,Nat.reduceBEq,dW,hwk,hat,bU,ints]
      try simp [aL]
    ·have hk1:k=p.length:=by simp at h2;omega
     rw [W0 hk1]
     cases hc:p.any (fun r=>m r==0)
     ·rw [hc] at hgo
      simp only [Bool.false_eq_true,if_false] at hgo ⊢
      (repeat (first|simp only [↓QA,QB,Nat.reduceLT,reduceIte,Nat.reduceEqDiff,Nat.reduceAdd,Nat.reduceLeDiff,Nat.reduceMul,Nat.reduceBEq,dW]|refine rd0 rfl ?_))
      refine bY (S:=Nat×Int×List Stay×Bool) (0,L,SS,ex) (fun a=>a.1≤p.length∧0≤a.2.1∧a.2.1≤60+20*(4*i+a.1:Nat)∧StaysOk a.2.2.1 (4*i+a.1)∧kM m i (p.drop a.1) a.2.1 a.2.2.1=R) (fun a=>p.length-a.1)
       (fun a=>[(2,bU ps),(3,.ptr 0 0),(4,.ptr 1 0),(8,.lit (a.2.2.1.map fU) false (some 2)),(9,.lit (OO.map (.int .i64)) false (some 3)),(10,.int .i64 i),(11,.int .i64 a.2.1),(13,.int .i64 a.1)])
       (fun a=>[.cells (aB v),.cells [.lit (s.closed.map .bool) false none,ints s.mins],.tok 4 a.2.2.1.length a.2.2.2,.tok 1 i ex2]) ⟨by simp,by simp only;omega,by simp only;omega,b1,hgo.symm⟩ (by simp [aB,ints]) ?_ fun a ha=>?_
      ·try simp only [aE,QE,Nat.reduceLT,reduceIte,Nat.reduceEqDiff,Nat.reduceAdd,Nat.reduceLeDiff,Nat.reduceMul,Nat.reduceBEq,dW,bU,ints]
       try simp
      ·obtain ⟨j,at_,SS,ex⟩:=a
       obtain ⟨hj,ha0,ha1,hso,hgo⟩:=ha
       simp only at hj ha0 ha1 hso hgo
       have hne:(at_==-1)=false:=by simp;omega
       by_cases hj1:j<p.length
       ·have g:decide ((j:Int)<(p.length:Int))=true:=by simp;omega
        have hwj:=bX hj1 (by omega)
        have hpk:=hpr _ (List.getElem_mem hj1)
        rw [List.drop_eq_getElem_cons hj1] at hgo
        obtain ⟨r,hr⟩:∃ r:Nat,p[j]=(r:Int):=⟨p[j].toNat,by omega⟩
        rw [hr] at hpk hgo
        have hr1:r<s.closed.length:=by omega
        have hr2:r<s.mins.length:=by omega
        have hmr:=hea r hr1 hr2
        have hmi:=hs.bd r hr2
        have hopen:s.closed[r]=false:=by
         rw [List.any_eq_false] at hc
         have:=hc _ (List.getElem_mem hj1)
         rw [hr,hmr] at this
         cases hq:s.closed[r]
         ·rfl
         ·rw [hq] at this;simp at this
        rw [hopen] at hmr
        simp only [Bool.false_eq_true,if_false] at hmr
        obtain ⟨M,hM⟩:∃ M,s.mins[r]=M:=⟨_,rfl⟩
        rw [hM] at hmr hmi
        simp only [kM,hmr] at hgo
        obtain ⟨f1,f2,f3⟩:=GL (rail:=(r:Int)) (m:=M) hso (by omega) ha0 ha1
        have hsl:=hso.len
        have hfr:=R3 SS r at_ M (60+20*((4*i+j:Nat):Int)) (by omega) hso.til ha0 ha1 (by omega) (by omega)
        obtain ⟨F,hF⟩:∃ F,g7 SS r at_ M=F:=⟨_,rfl⟩
        rw [hF] at hgo f2 f3 hfr
        have hwF:IntKind.i64.wrap (F+M)=F+M:=dU ⟨by omega,by omega⟩
        have a8:=fun (b0 b1:ABlk) (τ:St)=>lC (σ:=b0::b1::.tok 4 SS.length ex::τ) (t:=2) (ex:=ex) (sz:=4) (b:=32) (xs:=SS.map fU) (ys:=[.agg [.int .i64 i,.int .i64 r,.int .i64 F,.int .i64 (F+M)]]) (f:=true) (tk:=none) ⟨A4 SS,by simp [aM,cO,AV.cells,AV.cell],by simp [room];omega,by simp [room];omega⟩ (by simp) SS.length (by simp) rfl
        (repeat (first|simp only [↓QA,QB,Nat.reduceLT,reduceIte,Nat.reduceEqDiff,Nat.reduceAdd,Nat.reduceLeDiff,Nat.reduceMul,Nat.reduceBEq,dW,OE,bU,hip,hpp,g,hne,hj1,hr,hr2,hM,ints]|refine rd0 rfl ?_))
        ((first|refine xD (hfr) (by try simp only [QS,QC,Nat.reduceLT,reduceIte,Nat.reduceEqDiff,Nat.reduceAdd,Nat.reduceLeDiff,Nat.reduceMul,Nat.reduceBEq,dW]) trivial ?_|refine AF (hfr) (by try simp only [QS,QC,Nat.reduceLT,reduceIte,Nat.reduceEqDiff,Nat.reduceAdd,Nat.reduceLeDiff,Nat.reduceMul,Nat.reduceBEq,dW]) trivial ?_);(repeat (first|simp only [↓QA,QB,Nat.reduceLT,reduceIte,Nat.reduceEqDiff,Nat.reduceAdd,Nat.reduceLeDiff,Nat.reduceMul,Nat.reduceBEq,dW,hj1,hr,hr2,hM,ints,hwF,a8,hwj]|refine rd0 rfl ?_)))
        refine ⟨(j+1,F+M,SS++[⟨i,r,F,F+M⟩],true),⟨by simp only;omega,by simp only;omega,by simp only;omega,?_,hgo⟩,by simp only;omega,?_⟩
        ·refine ⟨by simp;omega,fun x hx=>?_,fun x hx=>?_⟩
         ·rcases List.mem_append.1 hx with hx|hx
          ·have:=hso.til x hx;simp only;omega
          ·simp only [List.mem_singleton] at hx;subst hx;simp only;omega
         ·rcases List.mem_append.1 hx with hx|hx
          ·exact hso.frm x hx
          ·simp only [List.mem_singleton] at hx;subst hx;simp only;omega
        ·try simp only [aE,QE,Nat.reduceLT,reduceIte,Nat.reduceEqDiff,Nat.reduceAdd,Nat.reduceLeDiff,Nat.reduceMul,Nat.reduceBEq,dW,hwj,bU,ints,List.map_append,List.map_cons,List.map_nil]
         try simp [aL]
       ·have g:decide ((j:Int)<(p.length:Int))=false:=by simp;omega
        rw [List.drop_eq_nil_of_le (by omega),kM] at hgo
        subst hgo
        (repeat (first|simp only [↓QA,QB,Nat.reduceLT,reduceIte,Nat.reduceEqDiff,Nat.reduceAdd,Nat.reduceLeDiff,Nat.reduceMul,Nat.reduceBEq,dW,OE,bU,hip,hpp,g,aO,hwi]|refine rd0 rfl ?_))
        refine ⟨(i+1,ex,true),by simp only;omega,by simp only;omega,?_⟩
        try simp only [aE,QE,Nat.reduceLT,reduceIte,Nat.reduceEqDiff,Nat.reduceAdd,Nat.reduceLeDiff,Nat.reduceMul,Nat.reduceBEq,dW,hwi,hsu1,hsu2,bU,ints,List.map_append,List.map_cons,List.map_nil]
        try simp [aL]
     ·rw [hc] at hgo
      simp only [if_true] at hgo ⊢
      subst hgo
      have hne:((-1:Int)==-1)=true:=by decide
      (repeat (first|simp only [↓QA,QB,Nat.reduceLT,reduceIte,Nat.reduceEqDiff,Nat.reduceAdd,Nat.reduceLeDiff,Nat.reduceMul,Nat.reduceBEq,dW]|refine rd0 rfl ?_))
      refine bY (S:=Unit) () (fun a=>True) (fun a=>0)
       (fun a=>[(2,bU ps),(3,.ptr 0 0),(4,.ptr 1 0),(8,.lit (SS.map fU) false (some 2)),(9,.lit (OO.map (.int .i64)) false (some 3)),(10,.int .i64 i),(11,.int .i64 (-1)),(13,.int .i64 0)])
       (fun a=>[.cells (aB v),.cells [.lit (s.closed.map .bool) false none,ints s.mins],.tok 4 SS.length ex,.tok 1 i ex2]) trivial (by simp [aB,ints]) ?_ fun a ha=>?_
      ·try simp only [aE,QE,Nat.reduceLT,reduceIte,Nat.reduceEqDiff,Nat.reduceAdd,Nat.reduceLeDiff,Nat.reduceMul,Nat.reduceBEq,dW,bU,ints]
       try simp
      ·(repeat (first|simp only [↓QA,QB,Nat.reduceLT,reduceIte,Nat.reduceEqDiff,Nat.reduceAdd,Nat.reduceLeDiff,Nat.reduceMul,Nat.reduceBEq,dW,OE,bU,hip,hpp,hne]|refine rd0 rfl ?_))
       cases hg:decide ((0:Int)<(p.length:Int))
       ·(repeat (first|simp only [↓QA,QB,Nat.reduceLT,reduceIte,Nat.reduceEqDiff,Nat.reduceAdd,Nat.reduceLeDiff,Nat.reduceMul,Nat.reduceBEq,dW,hg,hne,aO,hwi]|refine rd0 rfl ?_))
        refine ⟨(i+1,ex,true),by simp only;omega,by simp only;omega,?_⟩
        try simp only [aE,QE,Nat.reduceLT,reduceIte,Nat.reduceEqDiff,Nat.reduceAdd,Nat.reduceLeDiff,Nat.reduceMul,Nat.reduceBEq,dW,hwi,hsu1,hsu2,bU,ints,List.map_append,List.map_cons,List.map_nil]
        try simp [aL]
       ·(repeat (first|simp only [↓QA,QB,Nat.reduceLT,reduceIte,Nat.reduceEqDiff,Nat.reduceAdd,Nat.reduceLeDiff,Nat.reduceMul,Nat.reduceBEq,dW,hg,hne,aO,hwi]|refine rd0 rfl ?_))
        refine ⟨(i+1,ex,true),by simp only;omega,by simp only;omega,?_⟩
        try simp only [aE,QE,Nat.reduceLT,reduceIte,Nat.reduceEqDiff,Nat.reduceAdd,Nat.reduceLeDiff,Nat.reduceMul,Nat.reduceBEq,dW,hwi,hsu1,hsu2,bU,ints,List.map_append,List.map_cons,List.map_nil]
        try simp [aL]
  ·have hi1:i=v.trams.length:=by simp at h;omega
   rw [hi1]
   (repeat (first|simp only [↓QA,QB,Nat.reduceLT,reduceIte,Nat.reduceEqDiff,Nat.reduceAdd,Nat.reduceLeDiff,Nat.reduceMul,Nat.reduceBEq,dW,aA6,LE]|refine rd0 rfl ?_))
   try try simp only [QS,QC,Nat.reduceLT,reduceIte,Nat.reduceEqDiff,Nat.reduceAdd,Nat.reduceLeDiff,Nat.reduceMul,Nat.reduceBEq,dW]
end Go.Am.Room
set_option maxRecDepth 4000
namespace Go.Am.Room
theorem aA1 {v:Net} (hv:Vd v):∀ k,k≤v.rails.length→∀ s∈oH v.rails k,∀ i (h:i<s.mins.length),1≤s.mins[i]∧s.mins[i]≤20
 |0,_,s,hs,i,h=>by simp [oH] at hs;subst hs;simp at h
 |k+1,hk,s,hs,i,h=>by
  have hk1:k<v.rails.length:=by omega
  rw [y2 hk1] at hs
  simp only [List.mem_flatMap,zX,List.mem_map,List.mem_filter] at hs
  obtain ⟨s0,hs0,m,hm,c,_,rfl⟩:=hs
  have hl0:=(tT k (by omega) s0 hs0).2.1
  simp only [List.length_append,List.length_cons,List.length_nil] at h
  by_cases e:i=s0.mins.length
  ·subst e
   have:=(hv.ra _ (List.getElem_mem hk1)).mins
   have:=kD.1 hm
   simp
   omega
  ·have hi:i<s0.mins.length:=by omega
   have:=aA1 hv k (by omega) s0 hs0 i hi
   simp only [List.getElem_append_left hi]
   exact this
theorem uO {v:Net} (hv:Vd v) {s:State} (h:s∈bD v):StOk v s:=by
 have hl:=gZ h
 exact ⟨hl.1,hl.2,aA1 hv _ (Nat.le_refl _) s h⟩
theorem TX {v:Net} (hv:Vd v) {s:State} (hs:StOk v s):∀ c∈aX v s,-1≤c∧c≤300:=(F7 hv (GE hs) (LD hv) _ (Nat.le_refl _)).2
theorem AR {cs:List Int} {t:Nat} (h:t<cs.length):cT cs (t:Int)=cs[t]:=by simp [cT,h]
def KB (v:Net) (s:State):List AV:=(dB v (eff s) (fY v) v.trams.length).1.map fU
theorem A8 (v:Net) (hv:Vd v) (s:State) (hs:StOk v s):dR T 49 [bI v,eC s,bU (fY v)] (.tuple [.lit (KB v s) false none,ints (aX v s)]):=Z2 v hv s hs (fY v) (LD hv)
end Go.Am.Room
set_option maxRecDepth 4000
namespace Go.Am.Room
def HD:=And.intro @bH (And.intro @aI (And.intro @aW (And.intro @aT (And.intro @aS (And.intro @aR (And.intro @bF (And.intro @bC (And.intro @bA (And.intro @dH (And.intro @d6 (And.intro @Nat.not_lt_zero (And.intro @aQ (And.intro @aY (And.intro @bQ (And.intro @cE (And.intro @tQ (@dE)))))))))))))))))
theorem CW (z:Tram) (c:Int):dR T 44 [aZ z,.int .i64 c] (.bool (!decide (c = -1)&&decide (c≤z.due))):=by
 refine bE (af:=a44) rfl (by simp [a44]) dd ?_
 (repeat (first|simp only [↓QA,QB,Nat.reduceLT,reduceIte,Nat.reduceEqDiff,Nat.reduceAdd,Nat.reduceLeDiff,Nat.reduceMul,Nat.reduceBEq,HD,a44]|refine rd0 rfl ?_))
 have e:decide (c = -1)=(c==-1):=by rw [Bool.eq_iff_iff];simp
 rw [e]
 cases h:(c==-1)
 ·(repeat (first|simp only [↓QA,QB,Nat.reduceLT,reduceIte,Nat.reduceEqDiff,Nat.reduceAdd,Nat.reduceLeDiff,Nat.reduceMul,Nat.reduceBEq,HD,h]|refine rd0 rfl ?_))
 ·(repeat (first|simp only [↓QA,QB,Nat.reduceLT,reduceIte,Nat.reduceEqDiff,Nat.reduceAdd,Nat.reduceLeDiff,Nat.reduceMul,Nat.reduceBEq,HD,h,Bool.false_and]|refine rd0 rfl ?_))
end Go.Am.Room
set_option maxRecDepth 4000
namespace Go.Am.Room
theorem J4 (l:List State):mD (fG l):=fJ rY l
instance (l:List State):Dat (fG l):=⟨J4 l⟩
theorem yW {v:Net} (hv:Vd v):mU v∈dM v.seen.length (mU v).length∧kT v (mU v)=true∧∀ m,∀ c∈dM v.seen.length m,kT v c=true→fW c (mU v)=false:=by
 have hl:=hv.nse
 exact (o7 (kT v) v.seen.length (by omega) _ 0 (fun m' h=>by omega)).1 _ (zQ hv)
theorem KM (n:Nat):[]∈dM n 0:=by simp [dM]
theorem RE {v:Net} (hv:Vd v) (hs:kT v []=true):mU v=[]:=by
 obtain ⟨a,b,c⟩:=yW hv
 have:=c 0 [] (KM _) hs
 cases h:mU v with
 |nil=>rfl
 |cons x l=>rw [h] at this;simp [fW] at this
end Go.Am.Room
set_option maxRecDepth 8000
namespace Go.Am.Room
def jH (v:Net):Bool:=decide ((cA v).2.2=0)&&kT v []
end Go.Am.Room
set_option maxRecDepth 8000
namespace Go.Am.Room
theorem ZL {n m:Nat} (h:m≤n) (p:Int→Bool):((aU 0 m).filter p).length≤n:=by
 have:=List.length_filter_le p (aU 0 m)
 rw [lB] at this
 omega
theorem uH (v:Net):(oW v).1.length≤3∧(oW v).2.1.length≤3:=by
 unfold oW
 split
 ·rename_i h0
  have:=(mV h0).1.ntr
  exact ⟨ZL (by omega) _,ZL (by omega) _⟩
 ·simp
theorem GR (v:Net):(qH v).1.length≤5∧(qH v).2.1.length≤5:=by
 unfold qH
 split
 ·rename_i h0
  have:=(mV h0).1.nra
  exact ⟨ZL (by omega) _,ZL (by omega) _⟩
 ·simp
theorem E7 {v:Net} {but:List Int}:kT v but=true↔aJ v but≠[]:=by
 rw [kT]
 cases aJ v but<;>simp
theorem kS {v:Net}:jH v=true↔(cA v).2.2=0∧aJ v []≠[]:=by
 rw [jH,Bool.and_eq_true,decide_eq_true_eq,E7]
theorem XX {v:Net} (hs:jH v=true):eS v=0:=by
 obtain ⟨hc,hne⟩:=kS.1 hs
 rw [eS,hc]
 simp [fZ,hne]
theorem aKH {v:Net} (hs:jH v=true) {t:Nat} (ht:t<v.trams.length):hJ v (t:Int)=0:=by
 obtain ⟨hc,hne⟩:=kS.1 hs
 have hin:inR (t:Int) 0 ((v.trams.length:Int)-1)=true:=d5.2 (by omega)
 simp [hJ,fZ,hc,hne,hin]
theorem nD {v:Net} (hs:jH v=true) {t:Nat} (ht:t<v.trams.length):kP v (t:Int)=((bR (dY v (aJ v []) t)).1,(bR (dY v (aJ v []) t)).2,0):=by
 rw [kP,if_pos (aKH hs ht),Int.toNat_natCast]
theorem uL {v:Net} (hs:jH v=true):oW v=(j8 v (aJ v []),kQ v (aJ v []),0):=if_pos (XX hs)
theorem GI {v:Net} (hs:jH v=true):qH v=(sQ v (aJ v []),zU v (aJ v []),0):=if_pos (XX hs)
theorem gX {l:List Int} {c:Int}:c∈dF l↔c∈l∧c≠-1:=by
 rw [dF,List.mem_filter];simp
theorem mT {l:List Int} {c:Int} (h:c∈l) (hc:c≠-1):(bR l).1.lo≤c∧c≤(bR l).1.hi:=by
 have hm:=gX.2 ⟨h,hc⟩
 exact (mL (List.ne_nil_of_mem hm)).2.2 _ hm
theorem oR {l:List Int} (h:l≠[]):(bR l).2=2↔dF l=[]:=by
 have hl:l.length≠0:=fun e=>h (List.length_eq_zero_iff.1 e)
 simp only [bR,eP]
 constructor
 ·intro q
  split at q
  ·cases q
  ·split at q
   ·rename_i q2 q3;exact List.length_eq_zero_iff.1 (by simpa using q3)
   ·cases q
 ·intro q
  rw [q]
  simp only [List.length_nil]
  rw [if_neg (by omega)]
  simp
theorem wB {l:List Int} (h:l≠[]):(bR l).2=1↔∀ c∈l,c≠-1:=by
 simp only [bR,eP]
 have hf:(dF l).length=l.length↔∀ c∈l,c≠-1:=by
  rw [dF,List.length_filter_eq_length_iff];simp
 constructor
 ·intro q
  split at q
  ·rename_i q2;exact hf.1 (by simpa using q2)
  ·split at q<;>cases q
 ·intro q
  rw [if_pos (by have:=hf.2 q;simpa using this)]
end Go.Am.Room
set_option maxRecDepth 8000
namespace Go.Am.Room
theorem N4 {a:Int} (ha:0≤a) {n:Nat} (hn:0<n):∃ j:Nat,a.tmod (n:Int)=(j:Int)∧j<n:=by
 obtain ⟨k,rfl⟩:∃ k:Nat,a=k:=⟨a.toNat,by omega⟩
 refine ⟨k%n,?_,Nat.mod_lt _ hn⟩
 rw [Int.tmod_eq_emod_of_nonneg (by omega)]
 norm_cast
theorem AI (p:Int→Bool) {k:Nat} {d:Int} (h:0≤d∧d<k):((aU 0 k).filter p).contains d=p d:=by
 rw [Bool.eq_iff_iff,List.contains_iff_mem,List.mem_filter,cC]
 constructor
 ·exact fun h=>h.2
 ·exact fun h2=>⟨by omega,h2⟩
theorem KH {v:Net} {l:List State} {s:State} (hs:s∈l) {t:Nat} (ht:t<v.trams.length) (h:jE v t (cT (aX v s) t)=false):(kQ v l).contains (t:Int)=true:=by
 rw [kQ,AI _ (by omega),wT,List.any_eq_true]
 exact ⟨s,hs,by rw [mF,Int.toNat_natCast,h];rfl⟩
theorem OT {v:Net} {l:List State} {s:State} (hs:s∈l) {t:Nat} (ht:t<v.trams.length) (h:jE v t (cT (aX v s) t)=true):(j8 v l).contains (t:Int)=false:=by
 rw [j8,AI _ (by omega),wX]
 cases hh:l.all (mF v (t:Int))
 ·rfl
 ·have:=(List.all_eq_true.1 hh) s hs
  rw [mF,Int.toNat_natCast,h] at this
  cases this
variable {α:Type}
def kN (c:α→List AV):List α→List AV
 |[]=>[]
 |y::l=>c y++kN c l
structure Cells (enc:α→AV) (c:α→List AV) (sz:Nat):Prop where
 agg:∀ x,enc x = .agg (c x)
 len:∀ x,(c x).length=sz
 one:sz≠1∧sz≠0
 cell:∀ x,(c x).all (·.cell)=true
 data:∀ x,mD (enc x)
variable {enc:α→AV} {c:α→List AV} {sz:Nat}
theorem yL (h:Cells enc c sz):∀ l,(kN c l).length=l.length*sz
 |[]=>by simp [kN]
 |y::l=>by simp only [kN,List.length_append,h.len,List.length_cons,yL h l,Nat.add_mul];omega
theorem EC (h:Cells enc c sz):∀ l:List α,(l.map enc).flatMap AV.cells=kN c l
 |[]=>rfl
 |y::l=>by rw [List.map_cons,List.flatMap_cons,EC h l,h.agg];rfl
theorem H3 (h:Cells enc c sz):∀ (l:List α) (k:Nat) (hk:k<l.length),((kN c l).drop (k*sz)).take sz=c l[k]
 |[],k,hk=>by simp at hk
 |y::l,0,hk=>by
  simp only [kN,Nat.zero_mul,List.drop_zero,List.getElem_cons_zero]
  rw [←h.len y,List.take_left]
 |y::l,k+1,hk=>by
  have:=H3 h l k (by simpa using hk)
  have e:(k+1)*sz=(c y).length+k*sz:=by rw [h.len,Nat.add_mul];omega
  simp only [kN,e,List.getElem_cons_succ]
  rw [List.drop_append,List.drop_eq_nil_of_le (by omega),List.nil_append,Nat.add_sub_cancel_left]
  exact this
theorem EY (h:Cells enc c sz):∀ (l:List α) (k:Nat) (z:α),k<l.length→(kN c l).take (k*sz)++c z++(kN c l).drop (k*sz+sz)=kN c (l.set k z)
 |[],k,z,hk=>by simp at hk
 |y::l,0,z,hk=>by
  simp only [kN,Nat.zero_mul,List.take_zero,List.nil_append,Nat.zero_add,List.set_cons_zero]
  rw [←h.len y,List.drop_left]
 |y::l,k+1,z,hk=>by
  have:=EY h l k z (by simpa using hk)
  have e:(k+1)*sz=(c y).length+k*sz:=by rw [h.len,Nat.add_mul];omega
  have e2:(k+1)*sz+sz=(c y).length+(k*sz+sz):=by omega
  simp only [kN,List.set_cons_succ]
  rw [e,show (c y).length+k*sz+sz=(c y).length+(k*sz+sz) by omega,List.take_append,List.drop_append,List.drop_eq_nil_of_le (by omega),List.take_of_length_le (by omega),Nat.add_sub_cancel_left,Nat.add_sub_cancel_left,List.nil_append,←this]
  simp only [List.append_assoc]
theorem BC (h:Cells enc c sz):∀ l:List α,sV sz l.length (kN c l)=l.map enc
 |[]=>rfl
 |y::l=>by
  have h1:=h.one.1
  simp only [List.length_cons,sV,kN,List.map_cons,h1,false_and,if_false]
  rw [←h.len y,List.take_left,List.drop_left,h.len y,BC h l,h.agg]
theorem oN (h:Cells enc c sz) (l:List α):aM sz (l.map enc)=true:=rR sz enc l fun y=>by
 rw [h.agg]
 simp only [cO,AV.cells,h.len,beq_self_eq_true,Bool.true_and]
 exact h.cell y
theorem JW (h:Cells enc c sz) {σ:St} {m id d:Nat} {l:List α} (hm:¬id<m) (hl:aK σ id=some (kN c l)):snap σ m (d+1) (.ref id 0 l.length sz)=some (.lit (l.map enc) false none):=by
 have hv:kO σ (.ref id 0 l.length sz)=some (l.map enc):=by
  simp only [kO,hl,yL h,Nat.zero_add,Nat.le_refl,if_true,List.drop_zero,BC h]
 have h0:=h.one.2
 have h1:decide (0<sz)=true:=by simp;omega
 have hs:snaps σ m d (l.map enc)=some (l.map enc):=snaps_ok0 σ m d _ (bL h.data l).1
 simp only [snap,hm,if_false,hv,oN h,h1,Bool.and_self,if_true,hs]
theorem LX (h:Cells enc c sz) {σ:St} {id:Nat} {l:List α} (hl:aK σ id=some (kN c l)):cQ σ 0 20 (.ref id 0 l.length sz)=some (.lit (l.map enc) false none):=by
 rw [cQ,JW h (by omega) hl]
 simp [clr,(bL h.data l).2]
theorem IT (h:Cells enc c sz) {b:Nat} {σ:St} {l:List α} (h0:l≠[]) (hl:l.length*b≤room) (hl2:l.length≤room):m9 sz b σ (.lit [] true none) (.lit (l.map enc) false none)=some (.ref σ.length 0 l.length sz,σ++[.cells (kN c l)]):=by
 have h1:l.length≠0:=fun e=>h0 (List.length_eq_zero_iff.1 e)
 simp only [m9,kO,List.length_map,h1,if_false,List.length_nil,Nat.zero_add,List.nil_append,EC h]
 simp [wJ,oN h,hl,hl2]
theorem A5 (h:Cells enc c sz) (m:Nat) (hc:∀ x,okVs m (c x)):∀ l,okVs m (kN c l)
 |[]=>trivial
 |y::l=>HN (hc y) (A5 h m hc l)
end Go.Am.Room
namespace Go.Am.Room
def dS (v:Net) (l:List Seen):Net:={ v with seen:=l }
theorem IF (v:Net) (l:List Seen) (m:Int→Int) (ps:List (List Int)):∀ k,dB (dS v l) m ps k=dB v m ps k
 |0=>rfl
 |k+1=>by simp only [dB,IF v l m ps k];rfl
theorem pB (v:Net) (l:List Seen) (s:State):aX (dS v l) s=aX v s:=by
 simp only [aX,iO,IF];rfl
def more (v:Net) (x:Seen):Net:=dS v (v.seen++[x])
theorem w5 (v:Net) (q:List Seen):∀ (p:List Int) (s:Int) (met:List Int),jC (dS v q) p s met=jC v p s met
 |[],_,_=>rfl
 |r::l,s,met=>by simp only [jC,w5 v q l];rfl
theorem L4 (v:Net) (q:List Seen) (s:Int) (p:List Int):gY (dS v q) s p=gY v s p:=by
 simp only [gY,w5]
theorem FR (v:Net) (q:List Seen) (i:Nat) (t:Tram):iF (dS v q) i t=iF v i t:=by
 simp only [iF,gO,L4];rfl
theorem JM {v:Net} (hv:Vd v) {q:List Seen} (h1:q.length≤3) (h2:∀ x∈q,(0≤x.tram∧x.tram<v.trams.length)∧-1≤x.minute∧x.minute≤400):Vd (dS v q) :=
 ⟨hv.st,hv.nra,fun r hr=>⟨(hv.ra r hr).a,(hv.ra r hr).b,(hv.ra r hr).ne,(hv.ra r hr).mins,(hv.ra r hr).shut⟩,hv.ntr,fun i h=>by rw [FR];exact hv.tr i h,h1,h2⟩
def lW (C:List Int) (y:Seen):Seen:=⟨y.tram,cT C y.tram⟩
def told (v:Net) (C:List Int):Net:=dS v (v.seen.map (lW C))
theorem OV {C:List Int} (h:∀ c∈C,-1≤c∧c≤300) (t:Int):-1≤cT C t∧cT C t≤300:=by
 rw [cT]
 cases q:C[t.toNat]? with
 |none=>simp
 |some c=>exact h c (List.mem_of_getElem? q)
theorem OC {v:Net} (hv:Vd v) {C:List Int} (h:∀ c∈C,-1≤c∧c≤300):Vd (told v C) :=
 JM hv (by simpa using hv.nse) fun x hx=>by
  obtain ⟨y,hy,rfl⟩:=List.mem_map.1 hx
  have:=OV h y.tram
  exact ⟨(hv.se y hy).1,by simp only [lW];omega⟩
theorem vK {v:Net} {s:State} (h:s∈bD v):s∈aJ (told v (aX v s)) []:=by
 refine List.mem_filter.2 ⟨h,?_⟩
 rw [told,pB,jZ,List.all_eq_true]
 intro k hk
 have hk2:k<v.seen.length:=by simpa [dS] using hk
 have e:(dS v (v.seen.map (lW (aX v s)))).seen[k]? = some (lW (aX v s) v.seen[k]):=by
  simp [dS,hk2]
 rw [e]
 simp only [lW,Bool.or_eq_true,beq_iff_eq]
 exact .inr trivial
theorem P4 {v:Net} (hv:Vd v) {s:State} (h:s∈bD v) (hb:∀ c∈aX v s,-1≤c∧c≤300):jH (told v (aX v s))=true:=by
 refine kS.2 ⟨by rw [tU (OC hv hb)],List.ne_nil_of_mem (vK h)⟩
theorem LW {v:Net} (hv:Vd v) {s:State} (h:s∈bD v) (hb:∀ c∈aX v s,-1≤c∧c≤300):kY (told v (aX v s))=([],0):=by
 have hv2:=OC hv hb
 rw [kY,tU hv2,if_pos rfl,RE hv2 (E7.2 (List.ne_nil_of_mem (vK h)))]
theorem VI {v:Net} {D:Net} {s:State} (hr:D.rails=v.rails) (h:s∈aJ D []) {r:Nat} (h1:r<v.rails.length) (hc:mE (r:Int) s=true):(zU D (aJ D [])).contains (r:Int)=true:=by
 rw [zU,AI _ (by rw [hr];omega)]
 exact List.any_eq_true.2 ⟨s,h,hc⟩
theorem Q4 {v:Net} {D:Net} {s:State} (hr:D.rails=v.rails) (h:s∈aJ D []) {r:Nat} (h1:r<v.rails.length) (hc:mE (r:Int) s=false):(sQ D (aJ D [])).contains (r:Int)=false:=by
 rw [sQ,AI _ (by rw [hr];omega)]
 cases q:(aJ D []).all (mE (r:Int))
 ·rfl
 ·have:=(List.all_eq_true.1 q) s h
  rw [hc] at this;cases this
end Go.Am.Room
set_option maxRecDepth 8000
namespace Go.Am.Room
def nN (x:Seen):List AV:=[.int .i64 x.tram,.int .i64 x.minute]
theorem nH:Cells bN nN 2:=⟨fun x=>by simp only [bN,nN],fun x=>rfl,by decide,fun x=>rfl,oQ⟩
end Go.Am.Room
set_option maxRecDepth 8000
namespace Go.Am.Room
def kI:=And.intro @bH (And.intro @aI (And.intro @aW (And.intro @aT (And.intro @aS (And.intro @aR (And.intro @bF (And.intro @bC (And.intro @bA (And.intro @aY (And.intro @aQ (And.intro @tQ (And.intro @dH (And.intro @List.length_append.{0} (@Int.toNat_natCast))))))))))))))
theorem QX (m:Nat) (x:Seen):okVs m (nN x):=⟨trivial,trivial,trivial⟩
def iR (v:Net) (C:List Int) (k:Nat):List Seen:=(v.seen.map (lW C)).take k++v.seen.drop k
theorem rW (v:Net) (C:List Int) (k:Nat):(iR v C k).length=v.seen.length:=by simp [iR];omega
theorem K2 (v:Net) (C:List Int) {k:Nat} (h:k<v.seen.length):(iR v C k)[k]'(by rw [rW];exact h)=v.seen[k]:=by
 have hl:((v.seen.map (lW C)).take k).length=k:=by simp;omega
 have e:(iR v C k)[k]? = v.seen[k]?:=by
  simp only [iR]
  rw [List.getElem?_append_right (by omega),hl,Nat.sub_self,List.getElem?_drop,Nat.add_zero]
 have hk:k<(iR v C k).length:=by rw [rW];exact h
 rw [List.getElem?_eq_getElem hk,List.getElem?_eq_getElem h] at e
 exact Option.some.inj e
theorem LL (v:Net) (C:List Int) {k:Nat} (h:k<v.seen.length):(iR v C k).set k (lW C v.seen[k])=iR v C (k+1):=by
 have hl:((v.seen.map (lW C)).take k).length=k:=by simp;omega
 have hk:k<(v.seen.map (lW C)).length:=by simpa using h
 simp only [iR]
 rw [List.set_append_right _ _ (by omega),hl,Nat.sub_self,List.drop_eq_getElem_cons h,List.set_cons_zero,List.take_succ_eq_append_getElem hk,List.append_assoc]
 simp
theorem MB (v:Net) (C:List Int):iR v C v.seen.length=(told v C).seen:=by
 simp only [iR,List.drop_length,List.append_nil]
 exact List.take_of_length_le (by simp)
set_option maxHeartbeats 1000000 in
theorem ZC (v:Net) (x j:Nat) (hv:Vd v) (hx:x<65536) (hj:(x:Int).tmod ((bD v).length:Int)=(j:Int)) (hjl:j<(bD v).length) (s:State) (hs:(bD v)[j]=s) :
  dR T 42 [bI v,.int .u16 x] (.tuple [bI (told v (aX v s)),eC s,ints (aX v s)]):=by
 refine bE (af:=a42) rfl (by simp [a42]) dd ?_
 have hsm:s∈bD v:=by rw [←hs];exact List.getElem_mem hjl
 have hso:=uO hv hsm
 have hrun:=A8 v hv s hso
 have hst:=C7 v hv
 have hse:=hv.se
 have hll:=hv.nse
 have hnt:=hv.ntr
 have hcl:(aX v s).length=v.trams.length:=mA _ _ _ _
 have hwx:IntKind.i64.wrap (x:Int)=x:=dU ⟨by omega,by omega⟩
 obtain ⟨C,hC⟩:∃ C,aX v s=C:=⟨_,rfl⟩
 obtain ⟨A,hA⟩:∃ A,bD v=A:=⟨_,rfl⟩
 have hnz:((A.length:Nat):Int)≠0:=by rw [←hA];omega
 rw [hC] at hrun hcl
 simp only [hA] at hj hjl hs hst
 rw [hC]
 obtain ⟨Q,hQ⟩:∃ Q,bI (told v C)=Q:=⟨_,rfl⟩
 rw [hQ]
 (repeat (first|simp only [↓QA,QB,Nat.reduceLT,reduceIte,Nat.reduceEqDiff,Nat.reduceAdd,Nat.reduceLeDiff,Nat.reduceMul,Nat.reduceBEq,kI,a42]|refine rd0 rfl ?_))
 ((first|refine aC (hst) rfl dd ?_|refine aD (hst) rfl dd ?_);(repeat (first|simp only [↓QA,QB,Nat.reduceLT,reduceIte,Nat.reduceEqDiff,Nat.reduceAdd,Nat.reduceLeDiff,Nat.reduceMul,Nat.reduceBEq,kI,fG,hwx,JD _ _ _ hnz,hj,hjl,hs]|refine rd0 rfl ?_)))
 ((first|refine aC (wA v hv) rfl dd ?_|refine aD (wA v hv) rfl dd ?_);(repeat (first|simp only [↓QA,QB,Nat.reduceLT,reduceIte,Nat.reduceEqDiff,Nat.reduceAdd,Nat.reduceLeDiff,Nat.reduceMul,Nat.reduceBEq,kI,fG,hwx,JD _ _ _ hnz,hj,hjl,hs]|refine rd0 rfl ?_)))
 ((first|refine aC (hrun) rfl dd ?_|refine aD (hrun) rfl dd ?_);(repeat (first|simp only [↓QA,QB,Nat.reduceLT,reduceIte,Nat.reduceEqDiff,Nat.reduceAdd,Nat.reduceLeDiff,Nat.reduceMul,Nat.reduceBEq,kI,hjl,hs]|refine rd0 rfl ?_)))
 by_cases hlk:v.seen=[]
 ·have e:told v C=v:=by
   have h1:v.seen.map (lW C)=v.seen:=by rw [hlk];rfl
   show ({ v with seen:=v.seen.map (lW C) }:Net)=v
   rw [h1]
  rw [←hQ,e]
  have hnil:List.map bN v.seen=[]:=by rw [hlk];rfl
  have hap0:∀ σ:St,m9 2 16 σ (.lit [] true none) (.lit [] false none)=some (.lit [] true none,σ):=fun σ=>by simp [m9,kO]
  (repeat (first|simp only [↓QA,QB,Nat.reduceLT,reduceIte,Nat.reduceEqDiff,Nat.reduceAdd,Nat.reduceLeDiff,Nat.reduceMul,Nat.reduceBEq,kI,hnil,hap0,hjl,hs]|refine rd0 rfl ?_))
  refine bY (S:=Unit) () (fun _=>True) (fun _=>0) (fun _=>[(2,.ptr 0 0),(4,.ptr 1 0),(5,.ptr 2 0),(8,.ptr 3 0),(10,ints C),(11,.int .i64 0)])
   (fun _=>[.cells [.int .i64 v.stations,.lit (v.rails.map cF) false none,.lit (v.trams.map aZ) false none,.lit [] true none],.cells [.int .i64 0,.lit [] true none,.lit [] true none,.lit [] true none],.cells [.lit [] true none,.lit [] true none],.cells [.lit (s.closed.map .bool) false none,ints s.mins]]) trivial (by simp [ints]) ?_ fun _ _=>?_
  ·try simp only [aE,QE,Nat.reduceLT,reduceIte,Nat.reduceEqDiff,Nat.reduceAdd,Nat.reduceLeDiff,Nat.reduceMul,Nat.reduceBEq,kI]
   try simp
  ·(repeat (first|simp only [↓QA,QB,Nat.reduceLT,reduceIte,Nat.reduceEqDiff,Nat.reduceAdd,Nat.reduceLeDiff,Nat.reduceMul,Nat.reduceBEq,kI,UR,show decide ((0:Int)<((0:Nat):Int))=false from rfl]|refine rd0 rfl ?_))
   try rw [hnil]
 ·obtain ⟨L,hL⟩:∃ L,v.seen.length=L:=⟨_,rfl⟩
  have hh0:iR v C 0=v.seen:=by simp [iR]
  have hhl:∀ i,(iR v C i).length=L:=fun i=>by rw [rW,hL]
  have hfl:∀ i,(kN nN (iR v C i)).length=L*2:=fun i=>by rw [yL nH,hhl]
  have hap:=fun σ:St=>IT nH (b:=16) (σ:=σ) hlk (by simp [room];omega) (by simp [room];omega)
  rw [hL] at hap
  (repeat (first|simp only [↓QA,QB,Nat.reduceLT,reduceIte,Nat.reduceEqDiff,Nat.reduceAdd,Nat.reduceLeDiff,Nat.reduceMul,Nat.reduceBEq,kI,hap,hL,hjl,hs]|refine rd0 rfl ?_))
  refine bY (S:=Nat) 0 (fun i=>i≤L) (fun i=>L-i) (fun i=>[(2,.ptr 0 0),(4,.ptr 1 0),(5,.ptr 2 0),(8,.ptr 3 0),(10,ints C),(11,.int .i64 i)])
   (fun i=>[.cells [.int .i64 v.stations,.lit (v.rails.map cF) false none,.lit (v.trams.map aZ) false none,.ref 4 0 L 2],.cells [.int .i64 0,.lit [] true none,.lit [] true none,.lit [] true none],.cells [.lit [] true none,.lit [] true none],.cells [.lit (s.closed.map .bool) false none,ints s.mins],.cells (kN nN (iR v C i))]) (by simp) (by rw [hh0];simp [ints]) ?_ fun i hi=>?_
  ·try simp only [aE,QE,Nat.reduceLT,reduceIte,Nat.reduceEqDiff,Nat.reduceAdd,Nat.reduceLeDiff,Nat.reduceMul,Nat.reduceBEq,kI]
   try simp
  ·(repeat (first|simp only [↓QA,QB,Nat.reduceLT,reduceIte,Nat.reduceEqDiff,Nat.reduceAdd,Nat.reduceLeDiff,Nat.reduceMul,Nat.reduceBEq,kI,UR]|refine rd0 rfl ?_))
   refine aG (fun h2=>?_) fun h2=>?_
   ·have hi1:i<v.seen.length:=by rw [hL];simpa using h2
    have hw:=bX hi1 (by omega)
    have i1:(0:Int)≤(i:Int)∧(i:Int)<((L:Nat):Int)∧2=2:=⟨by omega,by omega,rfl⟩
    have c1:i*2+2≤L*2:=by omega
    obtain ⟨y,hy⟩:∃ y,v.seen[i]=y:=⟨_,rfl⟩
    have hly:=hse _ (List.getElem_mem hi1)
    rw [hy] at hly
    have hat:=H3 nH (iR v C i) i (by rw [hhl];omega)
    rw [K2 v C hi1,hy] at hat
    have hset:=EY nH (iR v C i) i (lW C y) (by rw [hhl];omega)
    rw [←hy,LL v C hi1,hy] at hset
    simp only [nN,lW] at hat hset
    have hp0:0≤y.tram:=hly.1.1
    have hpl:y.tram.toNat<C.length:=by omega
    have hce:cT C y.tram=C[y.tram.toNat]:=by simp [cT,hpl]
    rw [hce] at hset
    (repeat (first|simp only [↓QA,QB,Nat.reduceLT,reduceIte,Nat.reduceEqDiff,Nat.reduceAdd,Nat.reduceLeDiff,Nat.reduceMul,Nat.reduceBEq,kI,i1,c1,hfl,hat,MR,hp0,hpl,Nat.zero_add,hset,hw]|refine rd0 rfl ?_))
    refine ⟨i+1,by omega,by omega,?_⟩
    try simp only [aE,QE,Nat.reduceLT,reduceIte,Nat.reduceEqDiff,Nat.reduceAdd,Nat.reduceLeDiff,Nat.reduceMul,Nat.reduceBEq,kI,hw,nR]
    have:=A5 nH 5 (QX 5) (iR v C (i+1))
    try simp [aL,this]
   ·have hi1:i=v.seen.length:=by rw [hL];simp at h2;omega
    subst hi1
    have hend:=MB v C
    have hsl2:=rW v C v.seen.length
    obtain ⟨Y,hY⟩:∃ Y,iR v C v.seen.length=Y:=⟨_,rfl⟩
    rw [hY] at hend hsl2
    have hML:L=Y.length:=by omega
    have hsn:∀ (b0 b1 b2 b3:ABlk) (τ:St),cQ (b0::b1::b2::b3::.cells (kN nN Y)::τ) 0 20 (.ref 4 0 L 2)=some (.lit (Y.map bN) false none):=fun b0 b1 b2 b3 τ=>by
     rw [hML]
     exact LX nH (by simp [aK])
    rw [hY]
    have eT:bI (told v C) = .agg [.int .i64 v.stations,.lit (v.rails.map cF) false none,.lit (v.trams.map aZ) false none,.lit (Y.map bN) false none]:=by
     rw [hend];simp only [bI,aB];rfl
    rw [←hQ,eT]
    (repeat (first|simp only [↓QA,QB,Nat.reduceLT,reduceIte,Nat.reduceEqDiff,Nat.reduceAdd,Nat.reduceLeDiff,Nat.reduceMul,Nat.reduceBEq,kI,hsn]|refine rd0 rfl ?_))
end Go.Am.Room
set_option maxRecDepth 8000
namespace Go.Am.Room
def cG:=And.intro @bH (And.intro @aI (And.intro @aW (And.intro @aT (And.intro @aS (And.intro @aR (And.intro @bF (And.intro @bC (And.intro @bA (And.intro @aY (And.intro @aQ (And.intro @tQ (And.intro @dH (And.intro @List.length_append.{0} (@Int.toNat_natCast))))))))))))))
structure TrueF (v D:Net) (s:State) (C:List Int):Prop where
 fits:Fits D
 trams:D.trams=v.trams
 sm:jH D=true
 wrong:kY D=([],0)
 cl:C.length=v.trams.length
 sl:s.closed.length=v.rails.length
 may:∀ r (h:r<s.closed.length),s.closed[r]=true→(zU D (aJ D [])).contains (r:Int)=true
 sure:∀ r (h:r<s.closed.length),s.closed[r]=false→(sQ D (aJ D [])).contains (r:Int)=false
 late:∀ t (h:t<C.length) z,v.trams[t]? = some z→(!decide (C[t] = -1)&&decide (C[t]≤z.due))=true→(j8 D (aJ D [])).contains (t:Int)=false
 soon:∀ t (h:t<C.length) z,v.trams[t]? = some z→(!decide (C[t] = -1)&&decide (C[t]≤z.due))=false→(kQ D (aJ D [])).contains (t:Int)=true
 runs:∀ t (h:t<C.length),C[t]≠-1→(bR (dY D (aJ D []) t)).2≠2∧inR C[t] (bR (dY D (aJ D []) t)).1.lo (bR (dY D (aJ D []) t)).1.hi=true
 stays:∀ t (h:t<C.length),C[t] = -1→(bR (dY D (aJ D []) t)).2≠1
theorem LY {v:Net} (hf:Fits v) (hv:Vd v) {s:State} (hs:s∈bD v):TrueF v (told v (aX v s)) s (aX v s):=by
 have hb:=TX hv (uO hv hs)
 have ht:=vK hs
 have hcl:(aX v s).length=v.trams.length:=mA _ _ _ _
 have hce:aX (told v (aX v s)) s=aX v s:=pB _ _ _
 have hat:∀ t (h:t<(aX v s).length),(aX v s)[t]∈dY (told v (aX v s)) (aJ (told v (aX v s)) []) t:=fun t h=>by
  refine List.mem_map.2 ⟨s,ht,?_⟩
  rw [hce,AR h]
 have hit:∀ t (h:t<(aX v s).length) z,v.trams[t]? = some z→jE (told v (aX v s)) t (cT (aX (told v (aX v s)) s) t)=(!decide ((aX v s)[t] = -1)&&decide ((aX v s)[t]≤z.due)):=fun t h z hz=>by
  rw [hce,AR h]
  exact rG (v:=told v (aX v s)) hz _
 refine ⟨⟨hf.rails,hf.trams,by simpa [told,dS] using hf.seen,hf.names,hf.paths⟩,rfl,P4 hv hs hb,LW hv hs hb,hcl,(gZ hs).1,fun r h hc=>VI (v:=v) (D:=told v (aX v s)) rfl ht (by rw [←(gZ hs).1];exact h) ?_,fun r h hc=>Q4 (v:=v) (D:=told v (aX v s)) rfl ht (by rw [←(gZ hs).1];exact h) ?_,fun t h z hz hc=>OT ht (t:=t) (by rw [hcl] at h;exact h) ?_,fun t h z hz hc=>KH ht (t:=t) (by rw [hcl] at h;exact h) ?_,fun t h hc=>⟨fun q=>?_,?_⟩,fun t h hc q=>?_⟩
 ·simp [mE,h,hc]
 ·simp [mE,h,hc]
 ·rw [hit t h z hz];exact hc
 ·rw [hit t h z hz];exact hc
 ·have:=(oR (List.ne_nil_of_mem (hat t h))).1 q
  have h2:=gX.2 ⟨hat t h,hc⟩
  rw [this] at h2
  cases h2
 ·exact d5.2 (mT (hat t h) hc)
 ·exact (wB (List.ne_nil_of_mem (hat t h))).1 q _ (hat t h) hc
set_option maxHeartbeats 2000000 in
theorem JX (v:Net) (x:Nat) (hf:Fits v) (hx:x<65536):dR T 8 [bI v,.int .u16 x] (.bool true):=by
 refine bE (af:=a8) rfl (by simp [a8]) dd ?_
 cases hs:decide ((cA v).2.2=0)
 ·have hc:(cA v).2.2≠0:=by simpa using hs
  have e1:kY v=([],(cA v).2.2):=if_neg hc
  have g:((cA v).2.2==0)=false:=by simpa using hc
  (repeat (first|simp only [↓QA,QB,Nat.reduceLT,reduceIte,Nat.reduceEqDiff,Nat.reduceAdd,Nat.reduceLeDiff,Nat.reduceMul,Nat.reduceBEq,cG,a8]|refine rd0 rfl ?_))
  ((first|refine aC (eW v hf) rfl dd ?_|refine aD (eW v hf) rfl dd ?_);(repeat (first|simp only [↓QA,QB,Nat.reduceLT,reduceIte,Nat.reduceEqDiff,Nat.reduceAdd,Nat.reduceLeDiff,Nat.reduceMul,Nat.reduceBEq,cG,hs]|refine rd0 rfl ?_)))
  ((first|refine aC (jJ v hf) rfl dd ?_|refine aD (jJ v hf) rfl dd ?_);(repeat (first|simp only [↓QA,QB,Nat.reduceLT,reduceIte,Nat.reduceEqDiff,Nat.reduceAdd,Nat.reduceLeDiff,Nat.reduceMul,Nat.reduceBEq,cG,zS,e1,g]|refine rd0 rfl ?_)))
  refine aC fH rfl bP ?_
  (repeat (first|simp only [↓QA,QB,Nat.reduceLT,reduceIte,Nat.reduceEqDiff,Nat.reduceAdd,Nat.reduceLeDiff,Nat.reduceMul,Nat.reduceBEq,cG]|refine rd0 rfl ?_))
 ·have hc:(cA v).2.2=0:=by simpa using hs
  have hv:=eB hc
  have hlen:0<(bD v).length:=by
   obtain ⟨c,hc⟩:=List.exists_mem_of_ne_nil _ (GU hv)
   obtain ⟨s,hs,_⟩:=rP hv hc
   exact List.length_pos_of_mem hs
  obtain ⟨j,hj,hjl⟩:=N4 (a:=(x:Int)) (by omega) hlen
  obtain ⟨s,hse⟩:∃ s,(bD v)[j]=s:=⟨_,rfl⟩
  have hsm:s∈bD v:=by rw [←hse];exact List.getElem_mem hjl
  have hto:=ZC v x j hv hx hj hjl s hse
  obtain ⟨f1,f2,f3,f4,f5,f6,f7,f8,f9,f10,f11,f12⟩:=LY hf hv hsm
  have hnr:=hv.nra
  have hnt:=hv.ntr
  obtain ⟨D,hD⟩:∃ D,told v (aX v s)=D:=⟨_,rfl⟩
  obtain ⟨C,hC⟩:∃ C,aX v s=C:=⟨_,rfl⟩
  simp only [hC] at *
  simp only [hD] at *
  have e1:=GI f3
  have e2:=uL f3
  have b1:=GR D
  have b2:=uH D
  have hct:=fun t ht=>nD (v:=D) f3 (t:=t) ht
  rw [e1] at b1
  rw [e2] at b2
  simp only at b1 b2
  obtain ⟨ts,hts⟩:∃ ts,aJ D []=ts:=⟨_,rfl⟩
  simp only [hts] at e1 e2 b1 b2 f7 f8 f9 f10 f11 f12 hct
  obtain ⟨SS,hSS⟩:∃ l,sQ D ts=l:=⟨_,rfl⟩
  obtain ⟨MS,hMS⟩:∃ l,zU D ts=l:=⟨_,rfl⟩
  obtain ⟨SL,hSL⟩:∃ l,j8 D ts=l:=⟨_,rfl⟩
  obtain ⟨ML,hML⟩:∃ l,kQ D ts=l:=⟨_,rfl⟩
  rw [hSS,hMS] at e1 b1
  rw [hSL,hML] at e2 b2
  simp only [hMS] at f7
  simp only [hSS] at f8
  simp only [hSL] at f9
  simp only [hML] at f10
  have okz:((0:Int)==0)=true:=rfl
  have dg:decide ((0:Int)<((0:Nat):Int))=false:=rfl
  (repeat (first|simp only [↓QA,QB,Nat.reduceLT,reduceIte,Nat.reduceEqDiff,Nat.reduceAdd,Nat.reduceLeDiff,Nat.reduceMul,Nat.reduceBEq,cG,a8]|refine rd0 rfl ?_))
  ((first|refine aC (eW v hf) rfl dd ?_|refine aD (eW v hf) rfl dd ?_);(repeat (first|simp only [↓QA,QB,Nat.reduceLT,reduceIte,Nat.reduceEqDiff,Nat.reduceAdd,Nat.reduceLeDiff,Nat.reduceMul,Nat.reduceBEq,cG,hs]|refine rd0 rfl ?_)))
  ((first|refine aC (hto) rfl dd ?_|refine aD (hto) rfl dd ?_);(repeat (first|simp only [↓QA,QB,Nat.reduceLT,reduceIte,Nat.reduceEqDiff,Nat.reduceAdd,Nat.reduceLeDiff,Nat.reduceMul,Nat.reduceBEq,cG]|refine rd0 rfl ?_)))
  ((first|refine aC (jJ D f1) rfl dd ?_|refine aD (jJ D f1) rfl dd ?_);(repeat (first|simp only [↓QA,QB,Nat.reduceLT,reduceIte,Nat.reduceEqDiff,Nat.reduceAdd,Nat.reduceLeDiff,Nat.reduceMul,Nat.reduceBEq,cG,zS,f4]|refine rd0 rfl ?_)))
  ((first|refine aC (nB D f1) rfl dd ?_|refine aD (nB D f1) rfl dd ?_);(repeat (first|simp only [↓QA,QB,Nat.reduceLT,reduceIte,Nat.reduceEqDiff,Nat.reduceAdd,Nat.reduceLeDiff,Nat.reduceMul,Nat.reduceBEq,cG,jT,e1,okz,dg,List.map_nil,List.length_nil]|refine rd0 rfl ?_)))
  refine bY (S:=Nat) 0 (fun k=>k≤s.closed.length) (fun k=>s.closed.length-k)
   (fun k=>[(7,.ptr 1 0),(8,.ptr 2 0),(9,ints C),(12,ints SS),(13,ints MS),(15,.int .i64 k)]) (fun _=>[.cells (aB v),.cells (aB D),.cells [.lit (s.closed.map .bool) false none,ints s.mins]]) (Nat.zero_le _) (by simp [aB,ints]) ?_ fun k hk=>?_
  ·try simp only [aE,QE,Nat.reduceLT,reduceIte,Nat.reduceEqDiff,Nat.reduceAdd,Nat.reduceLeDiff,Nat.reduceMul,Nat.reduceBEq,cG]
   try simp
  ·(repeat (first|simp only [↓QA,QB,Nat.reduceLT,reduceIte,Nat.reduceEqDiff,Nat.reduceAdd,Nat.reduceLeDiff,Nat.reduceMul,Nat.reduceBEq,cG,aH8]|refine rd0 rfl ?_))
   refine aG (fun hd=>?_) fun hd=>?_
   ·have hk1:k<s.closed.length:=by simpa using hd
    have hw:=bX hk1 (by omega)
    have h7:=f7 k hk1
    have h8:=f8 k hk1
    obtain ⟨z,hz⟩:∃ z,s.closed[k]=z:=⟨_,rfl⟩
    rw [hz] at h7 h8
    (repeat (first|simp only [↓QA,QB,Nat.reduceLT,reduceIte,Nat.reduceEqDiff,Nat.reduceAdd,Nat.reduceLeDiff,Nat.reduceMul,Nat.reduceBEq,cG,hk1,hz]|refine rd0 rfl ?_))
    cases z
    ·(repeat (first|simp only [↓QA,QB,Nat.reduceLT,reduceIte,Nat.reduceEqDiff,Nat.reduceAdd,Nat.reduceLeDiff,Nat.reduceMul,Nat.reduceBEq,cG,hk1,hz]|refine rd0 rfl ?_))
     ((first|refine aC (iT SS k (by omega)) rfl dd ?_|refine aD (iT SS k (by omega)) rfl dd ?_);(repeat (first|simp only [↓QA,QB,Nat.reduceLT,reduceIte,Nat.reduceEqDiff,Nat.reduceAdd,Nat.reduceLeDiff,Nat.reduceMul,Nat.reduceBEq,cG,h8 rfl,hk1,hz]|refine rd0 rfl ?_)))
     refine ⟨k+1,by omega,by omega,?_⟩
     try simp only [aE,QE,Nat.reduceLT,reduceIte,Nat.reduceEqDiff,Nat.reduceAdd,Nat.reduceLeDiff,Nat.reduceMul,Nat.reduceBEq,cG,hw]
     try simp [aL]
    ·(repeat (first|simp only [↓QA,QB,Nat.reduceLT,reduceIte,Nat.reduceEqDiff,Nat.reduceAdd,Nat.reduceLeDiff,Nat.reduceMul,Nat.reduceBEq,cG,hk1,hz]|refine rd0 rfl ?_))
     ((first|refine aC (iT MS k (by omega)) rfl dd ?_|refine aD (iT MS k (by omega)) rfl dd ?_);(repeat (first|simp only [↓QA,QB,Nat.reduceLT,reduceIte,Nat.reduceEqDiff,Nat.reduceAdd,Nat.reduceLeDiff,Nat.reduceMul,Nat.reduceBEq,cG,h7 rfl,hk1,hz]|refine rd0 rfl ?_)))
     refine ⟨k+1,by omega,by omega,?_⟩
     try simp only [aE,QE,Nat.reduceLT,reduceIte,Nat.reduceEqDiff,Nat.reduceAdd,Nat.reduceLeDiff,Nat.reduceMul,Nat.reduceBEq,cG,hw]
     try simp [aL]
   ·(repeat (first|simp only [↓QA,QB,Nat.reduceLT,reduceIte,Nat.reduceEqDiff,Nat.reduceAdd,Nat.reduceLeDiff,Nat.reduceMul,Nat.reduceBEq,cG]|refine rd0 rfl ?_))
    ((first|refine aC (gN D f1) rfl dd ?_|refine aD (gN D f1) rfl dd ?_);(repeat (first|simp only [↓QA,QB,Nat.reduceLT,reduceIte,Nat.reduceEqDiff,Nat.reduceAdd,Nat.reduceLeDiff,Nat.reduceMul,Nat.reduceBEq,cG,jT,e2,okz]|refine rd0 rfl ?_)))
    refine bY (S:=Nat) 0 (fun k=>k≤C.length) (fun k=>C.length-k)
     (fun k=>[(7,.ptr 1 0),(9,ints C),(16,ints SL),(17,ints ML),(19,.int .i64 k)]) (fun _=>[.cells (aB v),.cells (aB D),.cells [.lit (s.closed.map .bool) false none,ints s.mins]]) (Nat.zero_le _) (by simp [aB,ints]) ?_ fun t ht=>?_
    ·try simp only [aE,QE,Nat.reduceLT,reduceIte,Nat.reduceEqDiff,Nat.reduceAdd,Nat.reduceLeDiff,Nat.reduceMul,Nat.reduceBEq,cG]
     try simp
    ·(repeat (first|simp only [↓QA,QB,Nat.reduceLT,reduceIte,Nat.reduceEqDiff,Nat.reduceAdd,Nat.reduceLeDiff,Nat.reduceMul,Nat.reduceBEq,cG,aG9]|refine rd0 rfl ?_))
     refine aG (fun hd2=>?_) fun hd2=>?_
     ·have ht1:t<C.length:=by simpa using hd2
      have ht2:t<D.trams.length:=by rw [f2,←f5];exact ht1
      have hw:=bX ht1 (by omega)
      have hz1:v.trams[t]? = some D.trams[t]:=by rw [←f2];exact List.getElem?_eq_getElem ht2
      have h9:=f9 t ht1 _ hz1
      have h10:=f10 t ht1 _ hz1
      have h11:=f11 t ht1
      have h12:=f12 t ht1
      have h1:=hct t ht2
      obtain ⟨z,hz⟩:∃ z,D.trams[t]=z:=⟨_,rfl⟩
      rw [hz] at h9 h10
      obtain ⟨c,hcc⟩:∃ c,C[t]=c:=⟨_,rfl⟩
      rw [hcc] at h9 h10 h11 h12
      obtain ⟨⟨SP,HW⟩,hSH⟩:∃ q,bR (dY D ts t)=q:=⟨_,rfl⟩
      rw [hSH] at h1 h11 h12
      simp only at h1 h11 h12
      have hit:=CW z c
      obtain ⟨q,hq⟩:∃ q,(!decide (c = -1)&&decide (c≤z.due))=q:=⟨_,rfl⟩
      rw [hq] at h9 h10 hit
      have hq2:q=true→c≠-1:=fun e=>by rw [e] at hq;simp at hq;exact hq.1
      (repeat (first|simp only [↓QA,QB,Nat.reduceLT,reduceIte,Nat.reduceEqDiff,Nat.reduceAdd,Nat.reduceLeDiff,Nat.reduceMul,Nat.reduceBEq,cG]|refine rd0 rfl ?_))
      ((first|refine aC (dJ D f1 t) rfl dd ?_|refine aD (dJ D f1 t) rfl dd ?_);(repeat (first|simp only [↓QA,QB,Nat.reduceLT,reduceIte,Nat.reduceEqDiff,Nat.reduceAdd,Nat.reduceLeDiff,Nat.reduceMul,Nat.reduceBEq,cG,h1,kA,ht1,ht2,hz,hcc]|refine rd0 rfl ?_)))
      ((first|refine aC (hit) rfl dd ?_|refine aD (hit) rfl dd ?_);(repeat (first|simp only [↓QA,QB,Nat.reduceLT,reduceIte,Nat.reduceEqDiff,Nat.reduceAdd,Nat.reduceLeDiff,Nat.reduceMul,Nat.reduceBEq,cG,ht1,ht2,hz,hcc,okz]|refine rd0 rfl ?_)))
      cases c1:(c==-1)
      ·have c1':c≠-1:=by simpa using c1
       obtain ⟨g1,g2⟩:=h11 c1'
       have c2:(HW==2)=false:=by simpa using g1
       (repeat (first|simp only [↓QA,QB,Nat.reduceLT,reduceIte,Nat.reduceEqDiff,Nat.reduceAdd,Nat.reduceLeDiff,Nat.reduceMul,Nat.reduceBEq,cG,c1,c2,ht1,ht2,hz,hcc,okz]|refine rd0 rfl ?_))
       ((first|refine aC (FM c SP) rfl dd ?_|refine aD (FM c SP) rfl dd ?_);(repeat (first|simp only [↓QA,QB,Nat.reduceLT,reduceIte,Nat.reduceEqDiff,Nat.reduceAdd,Nat.reduceLeDiff,Nat.reduceMul,Nat.reduceBEq,cG,g2,c1,c2,ht1,ht2,hz,hcc,okz]|refine rd0 rfl ?_)))
       cases q
       ·(repeat (first|simp only [↓QA,QB,Nat.reduceLT,reduceIte,Nat.reduceEqDiff,Nat.reduceAdd,Nat.reduceLeDiff,Nat.reduceMul,Nat.reduceBEq,cG,c1,c2,ht1,ht2,hz,hcc,okz]|refine rd0 rfl ?_))
        ((first|refine aC (iT ML t (by omega)) rfl dd ?_|refine aD (iT ML t (by omega)) rfl dd ?_);(repeat (first|simp only [↓QA,QB,Nat.reduceLT,reduceIte,Nat.reduceEqDiff,Nat.reduceAdd,Nat.reduceLeDiff,Nat.reduceMul,Nat.reduceBEq,cG,h10 rfl,c1,c2,ht1,ht2,hz,hcc,okz]|refine rd0 rfl ?_)))
        refine ⟨t+1,by omega,by omega,?_⟩
        try simp only [aE,QE,Nat.reduceLT,reduceIte,Nat.reduceEqDiff,Nat.reduceAdd,Nat.reduceLeDiff,Nat.reduceMul,Nat.reduceBEq,cG,hw]
        try simp [aL]
       ·(repeat (first|simp only [↓QA,QB,Nat.reduceLT,reduceIte,Nat.reduceEqDiff,Nat.reduceAdd,Nat.reduceLeDiff,Nat.reduceMul,Nat.reduceBEq,cG,c1,c2,ht1,ht2,hz,hcc,okz]|refine rd0 rfl ?_))
        ((first|refine aC (iT SL t (by omega)) rfl dd ?_|refine aD (iT SL t (by omega)) rfl dd ?_);(repeat (first|simp only [↓QA,QB,Nat.reduceLT,reduceIte,Nat.reduceEqDiff,Nat.reduceAdd,Nat.reduceLeDiff,Nat.reduceMul,Nat.reduceBEq,cG,h9 rfl,c1,c2,ht1,ht2,hz,hcc,okz]|refine rd0 rfl ?_)))
        refine ⟨t+1,by omega,by omega,?_⟩
        try simp only [aE,QE,Nat.reduceLT,reduceIte,Nat.reduceEqDiff,Nat.reduceAdd,Nat.reduceLeDiff,Nat.reduceMul,Nat.reduceBEq,cG,hw]
        try simp [aL]
      ·have c1':c = -1:=by simpa using c1
       have hqf:q=false:=by
        cases q
        ·rfl
        ·exact absurd c1' (hq2 rfl)
       subst hqf
       have c3:(HW==1)=false:=by simpa using h12 c1'
       (repeat (first|simp only [↓QA,QB,Nat.reduceLT,reduceIte,Nat.reduceEqDiff,Nat.reduceAdd,Nat.reduceLeDiff,Nat.reduceMul,Nat.reduceBEq,cG,c1,c3,ht1,ht2,hz,hcc,okz]|refine rd0 rfl ?_))
       ((first|refine aC (iT ML t (by omega)) rfl dd ?_|refine aD (iT ML t (by omega)) rfl dd ?_);(repeat (first|simp only [↓QA,QB,Nat.reduceLT,reduceIte,Nat.reduceEqDiff,Nat.reduceAdd,Nat.reduceLeDiff,Nat.reduceMul,Nat.reduceBEq,cG,h10 rfl,c1,c3,ht1,ht2,hz,hcc,okz]|refine rd0 rfl ?_)))
       refine ⟨t+1,by omega,by omega,?_⟩
       try simp only [aE,QE,Nat.reduceLT,reduceIte,Nat.reduceEqDiff,Nat.reduceAdd,Nat.reduceLeDiff,Nat.reduceMul,Nat.reduceBEq,cG,hw]
       try simp [aL]
     ·(repeat (first|simp only [↓QA,QB,Nat.reduceLT,reduceIte,Nat.reduceEqDiff,Nat.reduceAdd,Nat.reduceLeDiff,Nat.reduceMul,Nat.reduceBEq,cG]|refine rd0 rfl ?_))
      refine aC fH rfl bP ?_
      (repeat (first|simp only [↓QA,QB,Nat.reduceLT,reduceIte,Nat.reduceEqDiff,Nat.reduceAdd,Nat.reduceLeDiff,Nat.reduceMul,Nat.reduceBEq,cG]|refine rd0 rfl ?_))
end Go.Am.Room
