/- A part of the proof of TramOrder: an abstract machine, or what functions come to on it. -/
import Derived.Test.YtnjlkiflililkaaOutQ6
import Derived.Lib.Strings
set_option linter.unusedVariables false
set_option linter.unusedSimpArgs false
set_option linter.defProp false
namespace Go.Am
variable {T:FuncId→Option AFunc}
theorem MR {α:Type} {sz:Nat} {enc:α→AV} {l:List α} {i:Int} {t:Option Nat} (h0:0≤i) (h:i.toNat<l.length) (hs:∀ x,(enc x).cells.length=sz):DE sz (l.map enc) i t=some (.lptr (l.map enc) i.toNat 0 t):=by
 simp [DE,List.getElem?_map,h,hs,h0]
end Go.Am
namespace Go.Am.Room
theorem s8 {α:Type} {f:Nat→α→Int}:∀ {l:List α} {i:Nat},(∀ x∈l,∀ k,f k x=0)→bK f l i=none
 |[],_,_=>rfl
 |x::xs,i,h=>by
  simp only [bK]
  rw [if_pos (h x (by simp) i)]
  exact s8 fun y hy=>h y (by simp [hy])
theorem wZ {α:Type} {f:Nat→α→Int}:∀ {l:List α} {i:Nat},(∀ k (h:k<l.length),f (i+k) l[k]=0)→bK f l i=none
 |[],_,_=>rfl
 |x::xs,i,h=>by
  simp only [bK]
  rw [if_pos (show f i x=0 from h 0 (by simp))]
  exact wZ fun k hk=>by have:=h (k+1) (by simpa using hk);simpa [Nat.add_assoc,Nat.add_comm 1 k] using this
open Go
variable {P:Program}
theorem GA {n:Nat} {cs:List AV} (T:Tys P) (h:Typ P (n+5) 26 cs):∃ s:Net,mkV P 26 cs=bI s∧Fits s:=by
 obtain ⟨r,h1,h2,_⟩:=F6 T h
 exact ⟨r,h1,h2⟩
end Go.Am.Room
namespace Go.Am.Room
theorem tU {v:Net} (h:Vd v):cA v=(0,0,0):=by
 have h1:=h.st
 have h2:=h.nra
 have h3:=h.ntr
 have h4:=h.nse
 have g2:bK (fun _ r=>dA v r) v.rails 0=none:=s8 fun r hr k=>yS.2 (h.ra r hr)
 have g3:bK (iF v) v.trams 0=none:=wZ fun k hk=>by simpa using h.tr k hk
 have g4:bK (jX v) v.seen 0=none:=s8 fun x hx k=>by
  have:=h.se x hx
  have a:inR x.tram 0 ((v.trams.length:Int)-1)=true:=d5.2 (by omega)
  have b:inR x.minute (-1) 400=true:=d5.2 (by omega)
  simp [jX,a,b]
 have e4:nP v=(0,0,0):=by rw [nP,if_neg (by omega),g4]
 have e3:nY v=(0,0,0):=by rw [nY,if_neg (by omega),g3];exact e4
 have e2:nU v=(0,0,0):=by rw [nU,if_neg (by omega),g2];exact e3
 rw [cA,if_neg (by rw [Bool.not_eq_false];exact d5.2 h1)]
 exact e2
def u5 (sz:Nat) (σ:St) (xs:List AV):AV×St:=if xs.length=0 then (.lit [] true none,σ) else (.lit xs false (some σ.length),σ++[.tok sz xs.length true])
theorem OQ {sz b:Nat} {σ:St} {xs:List AV} {f:Bool} {tk:Option Nat} (h:I0q sz b [] xs):dD sz b σ (.lit [] true none) (.lit xs f tk)=some ((u5 sz σ xs).1,(u5 sz σ xs).2):=by
 by_cases h0:xs.length=0
 ·have:xs=[]:=List.length_eq_zero_iff.1 h0
  subst this
  rw [HE];simp [u5]
 ·rw [rD h h0];simp [u5,h0]
theorem D1 {sz b:Nat} {σ:St} {xs ys:List AV} {f:Bool} {tk:Option Nat} (h:I0q sz b xs ys) (hy:ys.length≠0):dD sz b (u5 sz σ xs).2 (u5 sz σ xs).1 (.lit ys f tk)=some (.lit (xs++ys) false (some σ.length),σ++[.tok sz (xs.length+ys.length) true]):=by
 by_cases h0:xs.length=0
 ·have:xs=[]:=List.length_eq_zero_iff.1 h0
  subst this
  simp only [u5,List.length_nil,if_true]
  rw [rD h hy]
  simp
 ·simp only [u5,h0,if_false]
  rw [uG (ex:=true) h hy (by simp)]
  simp
theorem O3 {v:Net} (hv:Vd v) {c:List Int} (h:c∈gC v.rails []):vQ v (rlI c):=by
 intro r h0 h1
 obtain ⟨t,e,ht,hx⟩:=(jR _ _ _).1 h
 rw [List.nil_append] at e
 subst e
 have:=hx r.toNat (by omega) (by omega)
 have hm:=(hv.ra _ (List.getElem_mem (show r.toNat<v.rails.length by omega))).mins
 simp only [rlI]
 simp only [chP,List.mem_append] at this
 rcases this with this|this
 ·split at this
  ·cases this
  ·simp only [List.mem_singleton] at this;omega
 ·split at this
  ·cases this
  ·have:=kD.1 this;omega
theorem BL {v:Net} (hv:Vd v) {s:State} (h:s∈bD v):vQ v (eff s):=by
 have hl:=gZ h
 rw [yO (by omega)]
 exact O3 hv (zM h)
end Go.Am.Room
set_option maxRecDepth 4000
namespace Go.Am.Room
def dP:=And.intro @bH (And.intro @aI (And.intro @aW (And.intro @aT (And.intro @aS (And.intro @aR (And.intro @bF (And.intro @bC (And.intro @bA (And.intro @dH (And.intro @d6 (@Nat.not_lt_zero)))))))))))
def eC (s:State):AV:=.agg [.lit (s.closed.map .bool) false none,ints s.mins]
theorem aQ (s:State):eC s = .agg [.lit (s.closed.map .bool) false none,ints s.mins]:=by simp only [eC]
theorem rY (s:State):mD (eC s):=j5 (bJ (fJ uV s.closed) (bJ (jP _) bP))
instance (s:State):Dat (eC s):=⟨rY s⟩
instance (l:List State):Dats (l.map eC):=⟨bL rY l⟩
theorem aY (σ:St) (m d:Nat) (l:List State):dN σ m d (l.map eC)=some (l.map eC):=mH (bL rY l) σ m d
def fG (l:List State):AV:=.lit (l.map eC) false none
theorem dE (l:List State):fG l = .lit (l.map eC) false none:=by simp only [fG]
theorem tQ (σ:St) (m d:Nat) (l:List Bool):dN σ m d (l.map .bool)=some (l.map .bool):=mH (bL uV l) σ m d
theorem vD (l:List Bool):aM 1 (l.map .bool)=true:=rR 1 _ l fun x=>SM _
theorem sM (l:List State):aM 2 (l.map eC)=true:=rR 2 eC l fun x=>by simp [cO,eC,AV.cells,AV.cell,ints]
def S8 (r:Rail) (s:State) (m:Int):List State:=([false,true].filter (u4 r.shut)).map fun c=>⟨s.closed++[c],s.mins++[m]⟩
theorem NT (r:Rail) (s:State):zX r s=(aU r.mins.lo (r.mins.hi+1-r.mins.lo).toNat).flatMap (S8 r s):=rfl
def V4:Nat→List Bool
 |0=>[false,true]
 |1=>[true]
 |_=>[]
def MK (r:Rail) (s:State) (m:Int) (c:Nat):List State:=((V4 c).filter (u4 r.shut)).map fun c=>⟨s.closed++[c],s.mins++[m]⟩
theorem M6 {c:Nat} (h:c<2) {b:Bool} (hb:((c:Int)==1)=b):V4 c=b::V4 (c+1):=by
 have:c=0∨c=1:=by omega
 rcases this with rfl|rfl
 ·have:b=false:=by rw [←hb];rfl
  subst this;rfl
 ·have:b=true:=by rw [←hb];rfl
  subst this;rfl
theorem y2 {rs:List Rail} {k:Nat} (h:k<rs.length):oH rs (k+1)=(oH rs k).flatMap (zX rs[k]):=by
 simp only [oH,List.getElem?_eq_getElem h]
theorem A0 {rs:List Rail} (hr:∀ r∈rs,r.mins.hi≤r.mins.lo+1):∀ k,(oH rs k).length≤4^k
 |0=>by simp [oH]
 |k+1=>by
  have ih:=A0 hr k
  by_cases h:k<rs.length
  ·rw [y2 h,Nat.pow_succ]
   refine Nat.le_trans (AG (zX rs[k]) 4 _ fun s _=>?_) (Nat.mul_le_mul_right 4 ih)
   rw [NT]
   have hm:=hr _ (List.getElem_mem h)
   refine Nat.le_trans (AG (S8 rs[k] s) 2 _ fun m _=>?_) ?_
   ·have:=List.length_filter_le (u4 rs[k].shut) [false,true]
    simpa [S8] using this
   ·rw [lB]
    omega
  ·simp only [oH,List.getElem?_eq_none (Nat.le_of_not_lt h)]
   exact Nat.le_trans ih (Nat.pow_le_pow_right (by omega) (by omega))
theorem C7 (v:Net) (hv:Vd v):dR T 95 [bI v] (fG (bD v)):=by
 refine bE (af:=a95) rfl (by simp [a95]) dd ?_
 have hnr:=hv.nra
 rw [show bD v=oH v.rails v.rails.length from rfl]
 (repeat (first|simp only [↓QA,QB,Nat.reduceLT,reduceIte,Nat.reduceEqDiff,Nat.reduceAdd,Nat.reduceLeDiff,Nat.reduceMul,Nat.reduceBEq,dP,aQ,aY,a95]|refine rd0 rfl ?_))
 refine bY (S:=Nat) 0 (fun n=>n≤v.rails.length) (fun n=>v.rails.length-n) (fun n=>[(1,.ptr 0 0),(3,fG (oH v.rails n)),(4,.int .i64 n)]) (fun _=>[.cells (aB v)]) (Nat.zero_le _) (by simp [aB,ints]) ?_ fun n hn=>?_
 ·try simp only [aE,QE,Nat.reduceLT,reduceIte,Nat.reduceEqDiff,Nat.reduceAdd,Nat.reduceLeDiff,Nat.reduceMul,Nat.reduceBEq,dP,aQ,aY,dE]
  simp [oH,eC,ints,clr,clrs]
 ·(repeat (first|simp only [↓QA,QB,Nat.reduceLT,reduceIte,Nat.reduceEqDiff,Nat.reduceAdd,Nat.reduceLeDiff,Nat.reduceMul,Nat.reduceBEq,dP,aQ,aY,aAY,dE]|refine rd0 rfl ?_))
  refine aG (fun h=>?_) fun h=>?_
  ·have hn1:n<v.rails.length:=by simpa using h
   have hwn:IntKind.i64.wrap ((n:Int)+1)=((n+1:Nat):Int):=bX hn1 (by omega)
   have hwl:∀ j,j≤5→(oH v.rails j).length≤1024:=fun j hj=>Nat.le_trans (A0 (fun r hr=>(hv.ra r hr).mins.2.2.2) j) (Nat.le_trans (Nat.pow_le_pow_right (by omega) hj) (by decide))
   have hsl:=hwl n (by omega)
   have hsl2:=hwl (n+1) (by omega)
   have hin:=tT (rs:=v.rails) n hn
   have hsu:=y2 hn1
   have hra:=hv.ra _ (List.getElem_mem hn1)
   obtain ⟨r,hr⟩:∃ r,v.rails[n]=r:=⟨_,rfl⟩
   rw [hr] at hsu hra
   have hmi:=hra.mins
   rw [hsu] at hsl2
   obtain ⟨W,hW⟩:∃ W,oH v.rails n=W:=⟨_,rfl⟩
   rw [hW] at hsl hsl2 hsu hin
   rw [hW]
   obtain ⟨X,hX⟩:∃ X,W.flatMap (zX r)=X:=⟨_,rfl⟩
   rw [hX] at hsl2 hsu
   (repeat (first|simp only [↓QA,QB,Nat.reduceLT,reduceIte,Nat.reduceEqDiff,Nat.reduceAdd,Nat.reduceLeDiff,Nat.reduceMul,Nat.reduceBEq,dP,aQ,aY,hn1,hr]|refine rd0 rfl ?_))
   refine mM 6 2 [] rfl ?_
   refine bY (S:=Nat×List State×Bool) (0,[],false) (fun a=>a.1≤W.length∧a.2.1++(W.drop a.1).flatMap (zX r)=X) (fun a=>W.length-a.1)
    (fun a=>[(1,.ptr 0 0),(3,fG W),(4,.int .i64 n),(5,.ptr 1 0),(6,.lit (a.2.1.map eC) false (some 2)),(7,.int .i64 a.1)])
    (fun a=>[.cells (aB v),.cells [.int .i64 r.a,.int .i64 r.b,.int .i64 r.mins.lo,.int .i64 r.mins.hi,.int .i64 r.shut],.tok 2 a.2.1.length a.2.2]) ⟨Nat.zero_le _,by simpa using hX⟩ (by simp [aB,ints]) ?_ fun a ha=>?_
   ·try simp only [aE,QE,Nat.reduceLT,reduceIte,Nat.reduceEqDiff,Nat.reduceAdd,Nat.reduceLeDiff,Nat.reduceMul,Nat.reduceBEq,dP,aQ,aY,dE]
    try simp
   ·obtain ⟨k,acc,ex⟩:=a
    obtain ⟨hk,hacc⟩:=ha
    simp only at hk hacc
    (repeat (first|simp only [↓QA,QB,Nat.reduceLT,reduceIte,Nat.reduceEqDiff,Nat.reduceAdd,Nat.reduceLeDiff,Nat.reduceMul,Nat.reduceBEq,dP,aQ,aY,aBG,dE]|refine rd0 rfl ?_))
    refine aG (fun h2=>?_) fun h2=>?_
    ·have hk1:k<W.length:=by simpa using h2
     have hwk:=bX hk1 (by omega)
     obtain ⟨s,hs⟩:∃ s,W[k]=s:=⟨_,rfl⟩
     have hcl:=hin _ (List.getElem_mem hk1)
     rw [hs] at hcl
     obtain ⟨hl1,hl2,_⟩:=hcl
     rw [List.drop_eq_getElem_cons hk1,hs,List.flatMap_cons,NT] at hacc
     obtain ⟨F,hF⟩:∃ F,(W.drop (k+1)).flatMap (zX r)=F:=⟨_,rfl⟩
     rw [hF] at hacc
     (repeat (first|simp only [↓QA,QB,Nat.reduceLT,reduceIte,Nat.reduceEqDiff,Nat.reduceAdd,Nat.reduceLeDiff,Nat.reduceMul,Nat.reduceBEq,dP,aQ,aY]|refine rd0 rfl ?_))
     refine bY (S:=Int×List State×Bool×St) (r.mins.lo,acc,ex,[]) (fun a=>r.mins.lo≤a.1∧a.1≤r.mins.hi+1∧a.2.1++((aU a.1 (r.mins.hi+1-a.1).toNat).flatMap (S8 r s)++F)=X) (fun a=>(r.mins.hi+1-a.1).toNat)
      (fun a=>[(1,.ptr 0 0),(3,fG W),(4,.int .i64 n),(5,.ptr 1 0),(6,.lit (a.2.1.map eC) false (some 2)),(7,.int .i64 k),(8,.int .i64 a.1)])
      (fun a=>.cells (aB v)::.cells [.int .i64 r.a,.int .i64 r.b,.int .i64 r.mins.lo,.int .i64 r.mins.hi,.int .i64 r.shut]::.tok 2 a.2.1.length a.2.2.1::a.2.2.2) ⟨Int.le_refl _,by simp only;omega,hacc⟩ (by simp [aB]) ?_ fun a ha=>?_
     ·try simp only [aE,QE,Nat.reduceLT,reduceIte,Nat.reduceEqDiff,Nat.reduceAdd,Nat.reduceLeDiff,Nat.reduceMul,Nat.reduceBEq,dP,aQ,aY,dE]
      try simp
     ·obtain ⟨m,acc,ex,τ⟩:=a
      obtain ⟨hm0,hm1,hacc⟩:=ha
      simp only at hm0 hm1 hacc
      (repeat (first|simp only [↓QA,QB,Nat.reduceLT,reduceIte,Nat.reduceEqDiff,Nat.reduceAdd,Nat.reduceLeDiff,Nat.reduceMul,Nat.reduceBEq,dP,aQ,aY,aBF,dE]|refine rd0 rfl ?_))
      refine aG (fun h3=>?_) fun h3=>?_
      ·have hm2:m≤r.mins.hi:=by simpa using h3
       have hwm:IntKind.i64.wrap (m+1)=m+1:=dU ⟨by omega,by omega⟩
       rw [FG hm2,List.flatMap_cons,List.append_assoc] at hacc
       obtain ⟨G,hG⟩:∃ G,(aU (m+1) (r.mins.hi+1-(m+1)).toNat).flatMap (S8 r s)++F=G:=⟨_,rfl⟩
       rw [hG] at hacc
       (repeat (first|simp only [↓QA,QB,Nat.reduceLT,reduceIte,Nat.reduceEqDiff,Nat.reduceAdd,Nat.reduceLeDiff,Nat.reduceMul,Nat.reduceBEq,dP,aQ,aY]|refine rd0 rfl ?_))
       refine bY (S:=Nat×List State×Bool) (0,acc,ex) (fun a=>a.1≤2∧a.2.1++(MK r s m a.1++G)=X) (fun a=>2-a.1)
        (fun a=>[(1,.ptr 0 0),(3,fG W),(4,.int .i64 n),(5,.ptr 1 0),(6,.lit (a.2.1.map eC) false (some 2)),(7,.int .i64 k),(8,.int .i64 m),(9,.int .i64 a.1)])
        (fun a=>.cells (aB v)::.cells [.int .i64 r.a,.int .i64 r.b,.int .i64 r.mins.lo,.int .i64 r.mins.hi,.int .i64 r.shut]::.tok 2 a.2.1.length a.2.2::τ) ⟨by simp,hacc⟩ (by simp [aB]) ?_ fun a ha=>?_
       ·try simp only [aE,QE,Nat.reduceLT,reduceIte,Nat.reduceEqDiff,Nat.reduceAdd,Nat.reduceLeDiff,Nat.reduceMul,Nat.reduceBEq,dP,aQ,aY,dE]
        try simp
       ·obtain ⟨c,acc,ex⟩:=a
        obtain ⟨hc0,hacc⟩:=ha
        simp only at hc0 hacc
        (repeat (first|simp only [↓QA,QB,Nat.reduceLT,reduceIte,Nat.reduceEqDiff,Nat.reduceAdd,Nat.reduceLeDiff,Nat.reduceMul,Nat.reduceBEq,dP,aQ,aY,aCD,dE]|refine rd0 rfl ?_))
        refine aG (fun h4=>?_) fun h4=>?_
        ·have hc2:c<2:=by
          have h0:(c:Int)<2:=by simpa using h4
          omega
         have hwc:=bX hc2 (by omega)
         obtain ⟨b,hb⟩:∃ b,((c:Int)==1)=b:=⟨_,rfl⟩
         rw [MK,M6 hc2 hb,List.filter_cons] at hacc
         have hcan:u4 r.shut b = !(b&&(r.shut==0)||!b&&(r.shut==1)):=by
          have e0:(r.shut==0)=decide (r.shut=0):=by rw [Bool.eq_iff_iff];simp
          have e1:(r.shut==1)=decide (r.shut=1):=by rw [Bool.eq_iff_iff];simp
          rw [u4,e0,e1]
         have hal:acc.length≤1024:=by
          have:=congrArg List.length hacc
          simp only [List.length_append] at this
          omega
         have b0:∀ (σ:St),dD 1 1 σ (.lit [] true none) (.lit (s.closed.map .bool) false none)=some ((u5 1 σ (s.closed.map .bool)).1,(u5 1 σ (s.closed.map .bool)).2):=fun σ=>OQ ⟨rfl,vD _,by simp [room];omega,by simp [room];omega⟩
         have b1:∀ (σ:St),dD 1 1 (u5 1 σ (s.closed.map .bool)).2 (u5 1 σ (s.closed.map .bool)).1 (.lit [.bool b] true none)=some (.lit (s.closed.map .bool++[.bool b]) false (some σ.length),σ++[.tok 1 (s.closed.length+1) true]):=fun σ=>by
          rw [D1 ⟨vD _,by simp [aM,AV.cells,AV.cell],by simp [room];omega,by simp [room];omega⟩ (by simp)]
          simp
         have a0:∀ (σ:St),dD 1 8 σ (.lit [] true none) (.lit (s.mins.map (.int .i64)) false none)=some ((u5 1 σ (s.mins.map (.int .i64))).1,(u5 1 σ (s.mins.map (.int .i64))).2):=fun σ=>OQ ⟨rfl,lP _,by simp [room];omega,by simp [room];omega⟩
         have a1:∀ (σ:St),dD 1 8 (u5 1 σ (s.mins.map (.int .i64))).2 (u5 1 σ (s.mins.map (.int .i64))).1 (.lit [.int .i64 m] true none)=some (.lit (s.mins.map (.int .i64)++[.int .i64 m]) false (some σ.length),σ++[.tok 1 (s.mins.length+1) true]):=fun σ=>by
          rw [D1 ⟨lP _,by simp [aM,AV.cells,AV.cell],by simp [room];omega,by simp [room];omega⟩ (by simp)]
          simp
         have a2:=fun (b0 b1:ABlk) (τ:St) (t u:Nat)=>lC (σ:=b0::b1::.tok 2 acc.length ex::τ) (t:=2) (ex:=ex) (sz:=2) (b:=48) (xs:=acc.map eC) (ys:=[.agg [.lit (s.closed.map .bool++[.bool b]) false (some t),.lit (s.mins.map (.int .i64)++[.int .i64 m]) false (some u)]]) (f:=true) (tk:=none) ⟨sM acc,by simp [aM,cO,AV.cells,AV.cell],by simp [room];omega,by simp [room];omega⟩ (by simp) acc.length (by simp) rfl
         have yes:u4 r.shut b=true→(acc++[(⟨s.closed++[b],s.mins++[m]⟩:State)])++(MK r s m (c+1)++G)=X:=fun q=>by
          rw [q] at hacc
          rw [←hacc];simp [MK]
         have no:u4 r.shut b=false→acc++(MK r s m (c+1)++G)=X:=fun q=>by
          rw [q] at hacc
          rw [←hacc];simp [MK]
         (repeat (first|simp only [↓QA,QB,Nat.reduceLT,reduceIte,Nat.reduceEqDiff,Nat.reduceAdd,Nat.reduceLeDiff,Nat.reduceMul,Nat.reduceBEq,dP,aQ,aY,hb]|refine rd0 rfl ?_))
         cases b
         ·cases q1:(r.shut==1)
          ·have hy:=yes (by rw [hcan,q1];simp)
           (repeat (first|simp only [↓QA,QB,Nat.reduceLT,reduceIte,Nat.reduceEqDiff,Nat.reduceAdd,Nat.reduceLeDiff,Nat.reduceMul,Nat.reduceBEq,dP,aQ,aY,q1]|refine rd0 rfl ?_))
           refine nL [.cells [.lit [] true none,.lit [] true none]] rfl ?_
           (repeat (first|simp only [↓QA,QB,Nat.reduceLT,reduceIte,Nat.reduceEqDiff,Nat.reduceAdd,Nat.reduceLeDiff,Nat.reduceMul,Nat.reduceBEq,dP,aQ,aY,hk1,hs,ints,b0,b1,a0,a1,a2]|refine rd0 rfl ?_))
           refine ⟨(c+1,acc++[⟨s.closed++[false],s.mins++[m]⟩],true),⟨by simp only;omega,hy⟩,by simp only;omega,?_⟩
           try simp only [aE,QE,Nat.reduceLT,reduceIte,Nat.reduceEqDiff,Nat.reduceAdd,Nat.reduceLeDiff,Nat.reduceMul,Nat.reduceBEq,dP,aQ,aY,hwc,dE,ints,tQ,List.map_append,List.map_cons,List.map_nil]
           try simp [aL]
          ·have hy:=no (by rw [hcan,q1];simp)
           (repeat (first|simp only [↓QA,QB,Nat.reduceLT,reduceIte,Nat.reduceEqDiff,Nat.reduceAdd,Nat.reduceLeDiff,Nat.reduceMul,Nat.reduceBEq,dP,aQ,aY,q1]|refine rd0 rfl ?_))
           refine ⟨(c+1,acc,ex),⟨by simp only;omega,hy⟩,by simp only;omega,?_⟩
           try simp only [aE,QE,Nat.reduceLT,reduceIte,Nat.reduceEqDiff,Nat.reduceAdd,Nat.reduceLeDiff,Nat.reduceMul,Nat.reduceBEq,dP,aQ,aY,hwc,dE,ints]
           try simp [aL]
         ·cases q1:(r.shut==0)
          ·have hy:=yes (by rw [hcan,q1];simp)
           (repeat (first|simp only [↓QA,QB,Nat.reduceLT,reduceIte,Nat.reduceEqDiff,Nat.reduceAdd,Nat.reduceLeDiff,Nat.reduceMul,Nat.reduceBEq,dP,aQ,aY,q1]|refine rd0 rfl ?_))
           refine nL [.cells [.lit [] true none,.lit [] true none]] rfl ?_
           (repeat (first|simp only [↓QA,QB,Nat.reduceLT,reduceIte,Nat.reduceEqDiff,Nat.reduceAdd,Nat.reduceLeDiff,Nat.reduceMul,Nat.reduceBEq,dP,aQ,aY,hk1,hs,ints,b0,b1,a0,a1,a2]|refine rd0 rfl ?_))
           refine ⟨(c+1,acc++[⟨s.closed++[true],s.mins++[m]⟩],true),⟨by simp only;omega,hy⟩,by simp only;omega,?_⟩
           try simp only [aE,QE,Nat.reduceLT,reduceIte,Nat.reduceEqDiff,Nat.reduceAdd,Nat.reduceLeDiff,Nat.reduceMul,Nat.reduceBEq,dP,aQ,aY,hwc,dE,ints,tQ,List.map_append,List.map_cons,List.map_nil]
           try simp [aL]
          ·have hy:=no (by rw [hcan,q1];simp)
           (repeat (first|simp only [↓QA,QB,Nat.reduceLT,reduceIte,Nat.reduceEqDiff,Nat.reduceAdd,Nat.reduceLeDiff,Nat.reduceMul,Nat.reduceBEq,dP,aQ,aY,q1]|refine rd0 rfl ?_))
           refine ⟨(c+1,acc,ex),⟨by simp only;omega,hy⟩,by simp only;omega,?_⟩
           try simp only [aE,QE,Nat.reduceLT,reduceIte,Nat.reduceEqDiff,Nat.reduceAdd,Nat.reduceLeDiff,Nat.reduceMul,Nat.reduceBEq,dP,aQ,aY,hwc,dE,ints]
           try simp [aL]
        ·have hc2:c=2:=by
          have h0:¬(c:Int)<2:=by simpa using h4
          omega
         subst hc2
         have he:MK r s m 2=[]:=rfl
         rw [he,List.nil_append,←hG] at hacc
         (repeat (first|simp only [↓QA,QB,Nat.reduceLT,reduceIte,Nat.reduceEqDiff,Nat.reduceAdd,Nat.reduceLeDiff,Nat.reduceMul,Nat.reduceBEq,dP,aQ,aY,hwm]|refine rd0 rfl ?_))
         refine ⟨(m+1,acc,ex,τ),⟨by simp only;omega,by simp only;omega,hacc⟩,by simp only;omega,?_⟩
         try simp only [aE,QE,Nat.reduceLT,reduceIte,Nat.reduceEqDiff,Nat.reduceAdd,Nat.reduceLeDiff,Nat.reduceMul,Nat.reduceBEq,dP,aQ,aY,hwm,dE,ints]
         try simp [aL]
      ·have hm2:¬m≤r.mins.hi:=by simpa using h3
       rw [HK hm2] at hacc
       simp only [List.flatMap_nil,List.nil_append] at hacc
       (repeat (first|simp only [↓QA,QB,Nat.reduceLT,reduceIte,Nat.reduceEqDiff,Nat.reduceAdd,Nat.reduceLeDiff,Nat.reduceMul,Nat.reduceBEq,dP,aQ,aY,hwk]|refine rd0 rfl ?_))
       refine ⟨(k+1,acc,ex),⟨by simp only;omega,by rw [hF];exact hacc⟩,by simp only;omega,?_⟩
       try simp only [aE,QE,Nat.reduceLT,reduceIte,Nat.reduceEqDiff,Nat.reduceAdd,Nat.reduceLeDiff,Nat.reduceMul,Nat.reduceBEq,dP,aQ,aY,hwk,dE,ints]
       try simp [aL]
    ·have hk1:k=W.length:=by simp at h2;omega
     rw [hk1,List.drop_length] at hacc
     simp only [List.flatMap_nil,List.append_nil] at hacc
     subst hacc
     (repeat (first|simp only [↓QA,QB,Nat.reduceLT,reduceIte,Nat.reduceEqDiff,Nat.reduceAdd,Nat.reduceLeDiff,Nat.reduceMul,Nat.reduceBEq,dP,aQ,aY,hwn]|refine rd0 rfl ?_))
     refine ⟨n+1,by omega,by omega,?_⟩
     try simp only [aE,QE,Nat.reduceLT,reduceIte,Nat.reduceEqDiff,Nat.reduceAdd,Nat.reduceLeDiff,Nat.reduceMul,Nat.reduceBEq,dP,aQ,aY,hwn,hsu,dE,ints]
     try simp [aL]
  ·have hn1:n=v.rails.length:=by simp at h;omega
   subst hn1
   (repeat (first|simp only [↓QA,QB,Nat.reduceLT,reduceIte,Nat.reduceEqDiff,Nat.reduceAdd,Nat.reduceLeDiff,Nat.reduceMul,Nat.reduceBEq,dP,aQ,aY,dE]|refine rd0 rfl ?_))
   try try simp only [QS,QC,Nat.reduceLT,reduceIte,Nat.reduceEqDiff,Nat.reduceAdd,Nat.reduceLeDiff,Nat.reduceMul,Nat.reduceBEq,dP,aQ,aY]
end Go.Am.Room
set_option maxRecDepth 4000
namespace Go.Am.Room
def eX:=And.intro @bH (And.intro @aI (And.intro @aW (And.intro @aT (And.intro @aS (And.intro @aR (And.intro @bF (And.intro @bC (And.intro @bA (And.intro @dH (And.intro @d6 (And.intro @Nat.not_lt_zero (And.intro @aQ (And.intro @aY (@tQ))))))))))))))
def fU (x:Stay):AV:=.agg [.int .i64 x.tram,.int .i64 x.rail,.int .i64 x.frm,.int .i64 x.til]
theorem bQ (x:Stay):fU x = .agg [.int .i64 x.tram,.int .i64 x.rail,.int .i64 x.frm,.int .i64 x.til]:=by simp only [fU]
theorem yV (x:Stay):mD (fU x):=j5 (bJ (dC _ _) (bJ (dC _ _) (bJ (dC _ _) (bJ (dC _ _) bP))))
instance (x:Stay):Dat (fU x):=⟨yV x⟩
instance (l:List Stay):Dats (l.map fU):=⟨bL yV l⟩
theorem cE (σ:St) (m d:Nat) (l:List Stay):dN σ m d (l.map fU)=some (l.map fU):=mH (bL yV l) σ m d
def FX (l:List Stay):AV:=.lit (l.map fU) false none
theorem LE (l:List Stay):FX l = .lit (l.map fU) false none:=by simp only [FX]
theorem A4 (l:List Stay):aM 4 (l.map fU)=true:=rR 4 fU l fun x=>by simp [cO,fU,AV.cells,AV.cell]
theorem R3 (ss:List Stay) (rail ready m B:Int) (hl:ss.length<9223372036854775808) (hB:∀ x∈ss,x.til≤B) (h0:0≤ready) (hr:ready≤B) (hB2:B≤1000) (hm:0≤m∧m≤20) :
  dR T 96 [.lit (ss.map fU) false none,.int .i64 rail,.int .i64 ready,.int .i64 m] (.int .i64 (g7 ss rail ready m)):=by
 refine bE (af:=a96) rfl (by simp [a96]) dd ?_
 have hfi:=yY (rail:=rail) (m:=m) hB (show B≤ready+1000 by omega)
 obtain ⟨Z,hZ⟩:∃ Z,g7 ss rail ready m=Z:=⟨_,rfl⟩
 rw [hZ] at hfi ⊢
 (repeat (first|simp only [↓QA,QB,Nat.reduceLT,reduceIte,Nat.reduceEqDiff,Nat.reduceAdd,Nat.reduceLeDiff,Nat.reduceMul,Nat.reduceBEq,eX,bQ,cE,a96]|refine rd0 rfl ?_))
 refine bY (S:=Int) ready (fun r=>sH ss rail m ready r) (fun r=>(B-r).toNat)
  (fun r=>[(0,.lit (ss.map fU) false none),(1,.int .i64 rail),(2,.int .i64 r),(3,.int .i64 m)]) (fun _=>[]) (DZ _ _ _ _) rfl ?_ fun r hb=>?_
 ·try simp only [aE,QE,Nat.reduceLT,reduceIte,Nat.reduceEqDiff,Nat.reduceAdd,Nat.reduceLeDiff,Nat.reduceMul,Nat.reduceBEq,eX,bQ,cE]
  try simp
 ·have hrB:=AA hB hb hr
  have hr0:=hb.1
  have hwm:IntKind.i64.wrap (r+m)=r+m:=dU ⟨by omega,by omega⟩
  (repeat (first|simp only [↓QA,QB,Nat.reduceLT,reduceIte,Nat.reduceEqDiff,Nat.reduceAdd,Nat.reduceLeDiff,Nat.reduceMul,Nat.reduceBEq,eX,bQ,cE,aB8]|refine rd0 rfl ?_))
  refine bY (S:=Nat×Int) (0,r) (fun a=>a.1≤ss.length∧Q2 ss rail m ready r a.1 a.2) (fun a=>ss.length-a.1)
   (fun a=>[(0,.lit (ss.map fU) false none),(1,.int .i64 rail),(2,.int .i64 r),(3,.int .i64 m),(9,.int .i64 a.2),(10,.int .i64 a.1)]) (fun _=>[]) ⟨by simp,.inl ⟨rfl,by simp⟩⟩ rfl ?_ fun a ha=>?_
  ·try simp only [aE,QE,Nat.reduceLT,reduceIte,Nat.reduceEqDiff,Nat.reduceAdd,Nat.reduceLeDiff,Nat.reduceMul,Nat.reduceBEq,eX,bQ,cE]
   try simp
  ·obtain ⟨k,n⟩:=a
   obtain ⟨hk,hlk⟩:=ha
   simp only at hk hlk
   (repeat (first|simp only [↓QA,QB,Nat.reduceLT,reduceIte,Nat.reduceEqDiff,Nat.reduceAdd,Nat.reduceLeDiff,Nat.reduceMul,Nat.reduceBEq,eX,bQ,cE,aB3]|refine rd0 rfl ?_))
   refine aG (fun h=>?_) fun h=>?_
   ·have hk1:k<ss.length:=by simpa using h
    have hw:=bX hk1 hl
    obtain ⟨x,hx⟩:∃ x,ss[k]=x:=⟨_,rfl⟩
    have hxm:x∈ss:=by rw [←hx];exact List.getElem_mem hk1
    have hat:=C3 (p:=iN rail r m) hk1
    rw [hx] at hat
    have no:iN rail r m x=false→Q2 ss rail m ready r (k+1) n:=fun q=>by
     rcases hlk with ⟨e,a⟩|e
     ·exact .inl ⟨e,by rw [hat,a,q];rfl⟩
     ·exact .inr e
    have yes:iN rail r m x=true→Q2 ss rail m ready r (k+1) (max n x.til):=fun q=>by
     have q1:=wF q
     have q2:=EZ hb hxm (Int.le_refl r) q (fun y h1 h2=>by omega)
     right
     refine ⟨by omega,?_⟩
     rcases hlk with ⟨e,_⟩|⟨e1,e2⟩
     ·rw [Int.max_eq_right (by omega)];exact q2
     ·by_cases hc:n≤x.til
      ·rw [Int.max_eq_right hc];exact q2
      ·rw [Int.max_eq_left (by omega)];exact e2
    have hcl:iN rail r m x=((x.rail==rail)&&decide (x.frm<r+m)&&decide (r<x.til)):=by
     have:decide (x.rail=rail)=(x.rail==rail):=by rw [Bool.eq_iff_iff];simp
     rw [iN,this]
    (repeat (first|simp only [↓QA,QB,Nat.reduceLT,reduceIte,Nat.reduceEqDiff,Nat.reduceAdd,Nat.reduceLeDiff,Nat.reduceMul,Nat.reduceBEq,eX,bQ,cE,hk1,hx]|refine rd0 rfl ?_))
    cases q1:(x.rail==rail)
    ·have nn:=no (by rw [hcl,q1];simp)
     (repeat (first|simp only [↓QA,QB,Nat.reduceLT,reduceIte,Nat.reduceEqDiff,Nat.reduceAdd,Nat.reduceLeDiff,Nat.reduceMul,Nat.reduceBEq,eX,bQ,cE,q1,hw]|refine rd0 rfl ?_))
     refine ⟨(k+1,n),⟨by simp only;omega,nn⟩,by simp only;omega,?_⟩
     try simp only [aE,QE,Nat.reduceLT,reduceIte,Nat.reduceEqDiff,Nat.reduceAdd,Nat.reduceLeDiff,Nat.reduceMul,Nat.reduceBEq,eX,bQ,cE,hw]
     try simp [aL]
    ·cases q2:decide (x.frm<r+m)
     ·have nn:=no (by rw [hcl,q1,q2];simp)
      (repeat (first|simp only [↓QA,QB,Nat.reduceLT,reduceIte,Nat.reduceEqDiff,Nat.reduceAdd,Nat.reduceLeDiff,Nat.reduceMul,Nat.reduceBEq,eX,bQ,cE,q1,hw,hwm,q2]|refine rd0 rfl ?_))
      refine ⟨(k+1,n),⟨by simp only;omega,nn⟩,by simp only;omega,?_⟩
      try simp only [aE,QE,Nat.reduceLT,reduceIte,Nat.reduceEqDiff,Nat.reduceAdd,Nat.reduceLeDiff,Nat.reduceMul,Nat.reduceBEq,eX,bQ,cE,hw]
      try simp [aL]
     ·cases q3:decide (r<x.til)
      ·have nn:=no (by rw [hcl,q1,q2,q3];simp)
       (repeat (first|simp only [↓QA,QB,Nat.reduceLT,reduceIte,Nat.reduceEqDiff,Nat.reduceAdd,Nat.reduceLeDiff,Nat.reduceMul,Nat.reduceBEq,eX,bQ,cE,q1,hw,hwm,q2,q3]|refine rd0 rfl ?_))
       refine ⟨(k+1,n),⟨by simp only;omega,nn⟩,by simp only;omega,?_⟩
       try simp only [aE,QE,Nat.reduceLT,reduceIte,Nat.reduceEqDiff,Nat.reduceAdd,Nat.reduceLeDiff,Nat.reduceMul,Nat.reduceBEq,eX,bQ,cE,hw]
       try simp [aL]
      ·have nn:=yes (by rw [hcl,q1,q2,q3];simp)
       (repeat (first|simp only [↓QA,QB,Nat.reduceLT,reduceIte,Nat.reduceEqDiff,Nat.reduceAdd,Nat.reduceLeDiff,Nat.reduceMul,Nat.reduceBEq,eX,bQ,cE,q1,hw,hwm,q2,q3]|refine rd0 rfl ?_))
       refine ⟨(k+1,max n x.til),⟨by simp only;omega,nn⟩,by simp only;omega,?_⟩
       try simp only [aE,QE,Nat.reduceLT,reduceIte,Nat.reduceEqDiff,Nat.reduceAdd,Nat.reduceLeDiff,Nat.reduceMul,Nat.reduceBEq,eX,bQ,cE,hw]
       try simp [aL]
   ·have hk1:k=ss.length:=by simp at h;omega
    rw [hk1] at hlk
    rcases hlk with ⟨e,a⟩|⟨e1,e2⟩
    ·rw [List.take_length] at a
     have hz:=E3 hfi (DR hb a)
     subst e
     have g:(n==n)=true:=by simp
     (repeat (first|simp only [↓QA,QB,Nat.reduceLT,reduceIte,Nat.reduceEqDiff,Nat.reduceAdd,Nat.reduceLeDiff,Nat.reduceMul,Nat.reduceBEq,eX,bQ,cE,g,hz]|refine rd0 rfl ?_))
    ·have g:(n==r)=false:=by simp;omega
     have hnB:=AA hB e2 hr
     (repeat (first|simp only [↓QA,QB,Nat.reduceLT,reduceIte,Nat.reduceEqDiff,Nat.reduceAdd,Nat.reduceLeDiff,Nat.reduceMul,Nat.reduceBEq,eX,bQ,cE,g]|refine rd0 rfl ?_))
     refine ⟨n,e2,by omega,?_⟩
     try simp only [aE,QE,Nat.reduceLT,reduceIte,Nat.reduceEqDiff,Nat.reduceAdd,Nat.reduceLeDiff,Nat.reduceMul,Nat.reduceBEq,eX,bQ,cE]
     try simp [aL]
theorem wA (v:Net) (hv:Vd v):dR T 50 [bI v] (bU (fY v)):=by
 refine bE (af:=a50) rfl (by simp [a50]) dd ?_
 have hnt:=hv.ntr
 (repeat (first|simp only [↓QA,QB,Nat.reduceLT,reduceIte,Nat.reduceEqDiff,Nat.reduceAdd,Nat.reduceLeDiff,Nat.reduceMul,Nat.reduceBEq,eX,bQ,cE,a50]|refine rd0 rfl ?_))
 refine mM 3 1 [] rfl ?_
 refine bY (S:=Nat×Bool) (0,false) (fun a=>a.1≤v.trams.length) (fun a=>v.trams.length-a.1)
  (fun a=>[(1,.ptr 0 0),(3,.lit (((v.trams.take a.1).map Tram.path).map ints) false (some 1)),(4,.int .i64 a.1)]) (fun a=>[.cells (aB v),.tok 1 a.1 a.2]) (Nat.zero_le _) (by simp [aB,ints]) ?_ fun a ha=>?_
 ·try simp only [aE,QE,Nat.reduceLT,reduceIte,Nat.reduceEqDiff,Nat.reduceAdd,Nat.reduceLeDiff,Nat.reduceMul,Nat.reduceBEq,eX,bQ,cE]
  try simp
 ·obtain ⟨k,ex⟩:=a
  simp only at ha
  (repeat (first|simp only [↓QA,QB,Nat.reduceLT,reduceIte,Nat.reduceEqDiff,Nat.reduceAdd,Nat.reduceLeDiff,Nat.reduceMul,Nat.reduceBEq,eX,bQ,cE,aA2]|refine rd0 rfl ?_))
  refine aG (fun h=>?_) fun h=>?_
  ·have hk1:k<v.trams.length:=by simpa using h
   have hw:=bX hk1 (by omega)
   have htk:(v.trams.take (k+1)).map Tram.path=(v.trams.take k).map Tram.path++[v.trams[k].path]:=by
    rw [List.take_succ_eq_append_getElem hk1,List.map_append];rfl
   have hlen:((v.trams.take k).map Tram.path).length=k:=by simp;omega
   obtain ⟨t,ht⟩:∃ t,v.trams[k]=t:=⟨_,rfl⟩
   rw [ht] at htk
   obtain ⟨P,hP⟩:∃ P,(v.trams.take k).map Tram.path=P:=⟨_,rfl⟩
   rw [hP] at htk hlen
   have a2:=fun (b0:ABlk) (τ:St)=>lC (σ:=b0::.tok 1 k ex::τ) (t:=1) (ex:=ex) (sz:=1) (b:=24) (xs:=P.map ints) (ys:=[.lit (t.path.map (.int .i64)) false none]) (f:=true) (tk:=none) ⟨m7 P,by simp [aM,AV.cells,AV.cell],by simp [room];omega,by simp [room];omega⟩ (by simp) k (by simp [hlen]) rfl
   rw [hP]
   (repeat (first|simp only [↓QA,QB,Nat.reduceLT,reduceIte,Nat.reduceEqDiff,Nat.reduceAdd,Nat.reduceLeDiff,Nat.reduceMul,Nat.reduceBEq,eX,bQ,cE,hk1,ht,ints,a2]|refine rd0 rfl ?_))
   refine ⟨(k+1,true),by simp only;omega,by simp only;omega,?_⟩
   try simp only [aE,QE,Nat.reduceLT,reduceIte,Nat.reduceEqDiff,Nat.reduceAdd,Nat.reduceLeDiff,Nat.reduceMul,Nat.reduceBEq,eX,bQ,cE,hw,htk,bU,ints,List.map_append,List.map_cons,List.map_nil]
   try simp [aL]
  ·have hk1:k=v.trams.length:=by simp at h;omega
   rw [hk1,List.take_length]
   (repeat (first|simp only [↓QA,QB,Nat.reduceLT,reduceIte,Nat.reduceEqDiff,Nat.reduceAdd,Nat.reduceLeDiff,Nat.reduceMul,Nat.reduceBEq,eX,bQ,cE,bU,fY]|refine rd0 rfl ?_))
   try try simp only [QS,QC,Nat.reduceLT,reduceIte,Nat.reduceEqDiff,Nat.reduceAdd,Nat.reduceLeDiff,Nat.reduceMul,Nat.reduceBEq,eX,bQ,cE]
end Go.Am.Room
set_option maxRecDepth 4000
namespace Go.Am.Room
def dW:=And.intro @bH (And.intro @aI (And.intro @aW (And.intro @aT (And.intro @aS (And.intro @aR (And.intro @bF (And.intro @bC (And.intro @bA (And.intro @dH (And.intro @d6 (And.intro @Nat.not_lt_zero (And.intro @aQ (And.intro @aY (And.intro @bQ (And.intro @cE (@tQ))))))))))))))))
structure StOk (v:Net) (s:State):Prop where
 cl:s.closed.length=v.rails.length
 mi:s.mins.length=v.rails.length
 bd:∀ i (h:i<s.mins.length),1≤s.mins[i]∧s.mins[i]≤20
theorem S4 {v:Net} {s:State} (hs:StOk v s) {R:Nat} (h1:R<s.closed.length) (h2:R<s.mins.length):eff s (R:Int)=if s.closed[R]=true then 0 else s.mins[R]:=by
 simp [eff,h1,h2]
theorem GE {v:Net} {s:State} (hs:StOk v s):vQ v (eff s):=by
 intro r h0 h1
 obtain ⟨R,rfl⟩:∃ R:Nat,r=R:=⟨r.toNat,by omega⟩
 have c1:=hs.cl
 have c2:=hs.mi
 rw [S4 hs (by omega) (by omega)]
 have:=hs.bd R (by omega)
 split<;>omega
def aA6 (x:List Stay×List Int):AV:=.tuple [FX x.1,ints x.2]
theorem W0 {p:List Int} {f:Int→Bool} {k:Nat} (h:k=p.length):(p.take k).any f=p.any f:=by rw [h,List.take_length]
theorem Z2 (v:Net) (hv:Vd v) (s:State) (hs:StOk v s) (ps:List (List Int)) (hp:RunOk v ps):dR T 49 [bI v,eC s,bU ps] (aA6 (dB v (eff s) ps v.trams.length)):=by
 refine bE (af:=a49) rfl (by simp [a49]) dd ?_
 have hnt:=hv.ntr
 have hpl:=hp.len
 have c1:=hs.cl
 have c2:=hs.mi
 have hbd:=F7 hv (GE hs) hp
 obtain ⟨m,hm⟩:∃ m,eff s=m:=⟨_,rfl⟩
 have hmb:=GE hs
 have hea:=fun R h1 h2=>S4 hs (R:=R) h1 h2
 rw [hm] at hmb hbd
 simp only [hm] at hea ⊢
 (repeat (first|simp only [↓QA,QB,Nat.reduceLT,reduceIte,Nat.reduceEqDiff,Nat.reduceAdd,Nat.reduceLeDiff,Nat.reduceMul,Nat.reduceBEq,dW,a49,bU]|refine rd0 rfl ?_))
 refine mM 8 4 [] rfl ?_
 (repeat (first|simp only [↓QA,QB,Nat.reduceLT,reduceIte,Nat.reduceEqDiff,Nat.reduceAdd,Nat.reduceLeDiff,Nat.reduceMul,Nat.reduceBEq,dW]|refine rd0 rfl ?_))
 refine mM 9 1 [] rfl ?_
 refine bY (S:=Nat×Bool×Bool) (0,false,false) (fun a=>a.1≤v.trams.length) (fun a=>v.trams.length-a.1)
  (fun a=>[(2,bU ps),(3,.ptr 0 0),(4,.ptr 1 0),(8,.lit ((dB v m ps a.1).1.map fU) false (some 2)),(9,.lit ((dB v m ps a.1).2.map (.int .i64)) false (some 3)),(10,.int .i64 a.1)])
  (fun a=>[.cells (aB v),.cells [.lit (s.closed.map .bool) false none,ints s.mins],.tok 4 (dB v m ps a.1).1.length a.2.1,.tok 1 a.1 a.2.2]) (Nat.zero_le _) (by simp [aB,ints,dB]) ?_ fun a ha=>?_
 ·try simp only [aE,QE,Nat.reduceLT,reduceIte,Nat.reduceEqDiff,Nat.reduceAdd,Nat.reduceLeDiff,Nat.reduceMul,Nat.reduceBEq,dW,bU,ints]
  try simp [dB]
 ·obtain ⟨i,ex,ex2⟩:=a
  simp only at ha
  (repeat (first|simp only [↓QA,QB,Nat.reduceLT,reduceIte,Nat.reduceEqDiff,Nat.reduceAdd,Nat.reduceLeDiff,Nat.reduceMul,Nat.reduceBEq,dW,aAI,bU]|refine rd0 rfl ?_))
  refine aG (fun h=>?_) fun h=>?_
  ·have hi1:i<v.trams.length:=by simpa using h
   have hwi:=bX hi1 (by omega)
   have hip:i<ps.length:=by omega
   obtain ⟨b1,b2⟩:=hbd i (by omega)
   have hlc:=mA v m ps i
   have hsu:=JQ v m ps i
   have hto:=pU hv hi1
   have hpm:=A9 hp hi1
   have hp4:=hp.few _ hpm
   have hpr:=hp.rails _ hpm
   have hpe:eI ps i=ps[i]:=by simp [eI,hip]
   rw [uJ hi1,hpe] at hsu
   rw [hpe] at hp4 hpr
   obtain ⟨t,ht⟩:∃ t,v.trams[i]=t:=⟨_,rfl⟩
   obtain ⟨p,hpp⟩:∃ p,ps[i]=p:=⟨_,rfl⟩
   rw [ht] at hto hsu
   rw [hpp] at hp4 hpr hsu
   have hlv:=hto.leaves
   obtain ⟨L,hL⟩:∃ L,t.leaves=L:=⟨_,rfl⟩
   rw [hL] at hlv hsu
   obtain ⟨SS,hSS⟩:∃ SS,(dB v m ps i).1=SS:=⟨_,rfl⟩
   obtain ⟨OO,hOO⟩:∃ OO,(dB v m ps i).2=OO:=⟨_,rfl⟩
   rw [hSS] at b1 hsu
   rw [hOO] at b2 hlc hsu
   have hgo:j3 m i L p SS=if p.any (fun r=>m r==0)=true then (SS,-1) else kM m i p L SS:=rfl
   rw [hSS,hOO]
   obtain ⟨R,hR⟩:∃ R,j3 m i L p SS=R:=⟨_,rfl⟩
   rw [hR] at hsu hgo
   have hsu1:(dB v m ps (i+1)).1=R.1:=by rw [hsu]
   have hsu2:(dB v m ps (i+1)).2=OO++[R.2]:=by rw [hsu]
   have aO:=fun (b0 b1 b2:ABlk) (τ:St) (ex2:Bool)=>lC (σ:=b0::b1::b2::.tok 1 i ex2::τ) (t:=3) (ex:=ex2) (sz:=1) (b:=8) (xs:=OO.map (.int .i64)) (ys:=[.int .i64 R.2]) (f:=true) (tk:=none) ⟨lP OO,by simp [aM,AV.cells,AV.cell],by simp [room];omega,by simp [room];omega⟩ (by simp) i (by simp [hlc]) rfl
   (repeat (first|simp only [↓QA,QB,Nat.reduceLT,reduceIte,Nat.reduceEqDiff,Nat.reduceAdd,Nat.reduceLeDiff,Nat.reduceMul,Nat.reduceBEq,dW,hi1,ht,hL,hip,hpp,bU]|refine rd0 rfl ?_))
   refine bY (S:=Nat) 0 (fun k=>k≤p.length) (fun k=>p.length-k)
    (fun k=>[(2,bU ps),(3,.ptr 0 0),(4,.ptr 1 0),(8,.lit (SS.map fU) false (some 2)),(9,.lit (OO.map (.int .i64)) false (some 3)),(10,.int .i64 i),(11,.int .i64 (if (p.take k).any (fun r=>m r==0)=true then -1 else L)),(12,.int .i64 k)])
    (fun k=>[.cells (aB v),.cells [.lit (s.closed.map .bool) false none,ints s.mins],.tok 4 SS.length ex,.tok 1 i ex2]) (Nat.zero_le _) (by simp [aB,ints]) ?_ fun k hk=>?_
   ·try simp only [aE,QE,Nat.reduceLT,reduceIte,Nat.reduceEqDiff,Nat.reduceAdd,Nat.reduceLeDiff,Nat.reduceMul,Nat.reduceBEq,dW,bU,ints]
    try simp
   ·(repeat (first|simp only [↓QA,QB,Nat.reduceLT,reduceIte,Nat.reduceEqDiff,Nat.reduceAdd,Nat.reduceLeDiff,Nat.reduceMul,Nat.reduceBEq,dW,aBS,bU,hip,hpp]|refine rd0 rfl ?_))
    refine aG (fun h2=>?_) fun h2=>?_
    ·have hk1:k<p.length:=by simpa using h2
     have hwk:=bX hk1 (by omega)
     have hat:=C3 (p:=fun r=>m r==0) hk1
     have hpk:=hpr _ (List.getElem_mem hk1)
     obtain ⟨r,hr⟩:∃ r:Nat,p[k]=(r:Int):=⟨p[k].toNat,by omega⟩
     rw [hr] at hat hpk
     have hr1:r<s.closed.length:=by omega
     have hr2:r<s.mins.length:=by omega
     have hmr:=hea r hr1 hr2
     have hmi:=hs.bd r hr2
     obtain ⟨cb,hcb⟩:∃ cb,s.closed[r]=cb:=⟨_,rfl⟩
     rw [hcb] at hmr
     (repeat (first|simp only [↓QA,QB,Nat.reduceLT,reduceIte,Nat.reduceEqDiff,Nat.reduceAdd,Nat.reduceLeDiff,Nat.reduceMul,Nat.reduceBEq,dW,hk1,hr,hr1,hcb,hip,hpp]|refine rd0 rfl ?_))
     cases cb
     ·have h0:(m (r:Int)==0)=false:=by rw [hmr];simp;omega
      rw [h0,Bool.or_false] at hat
      (repeat (first|simp only [↓QA,QB,Nat.reduceLT,reduceIte,Nat.reduceEqDiff,Nat.reduceAdd,Nat.reduceLeDiff,Nat.reduceMul,Nat.reduceBEq,dW,hwk]|refine rd0 rfl ?_))
      refine ⟨k+1,by omega,by omega,?_⟩
      try simp only [aE,QE,Nat.reduceLT,reduceIte,Nat.reduceEqDiff,Nat.reduceAdd,Nat.reduceLeDiff,Nat.reduceMul,Nat.reduceBEq,dW,hwk,hat,bU,ints]
      try simp [aL]
     ·have h0:(m (r:Int)==0)=true:=by rw [hmr];simp
      rw [h0,Bool.or_true] at hat
      (repeat (first|simp only [↓QA,QB,Nat.reduceLT,reduceIte,Nat.reduceEqDiff,Nat.reduceAdd,Nat.reduceLeDiff,Nat.reduceMul,Nat.reduceBEq,dW,hwk]|refine rd0 rfl ?_))
      refine ⟨k+1,by omega,by omega,?_⟩
      try simp only [aE,QE,Nat.reduceLT,reduceIte,Nat.reduceEqDiff,Nat.reduceAdd,Nat.reduceLeDiff,Nat.reduceMul,Nat.reduceBEq,dW,hwk,hat,bU,ints]
      try simp [aL]
    ·have hk1:k=p.length:=by simp at h2;omega
     rw [W0 hk1]
     cases hc:p.any (fun r=>m r==0)
     ·rw [hc] at hgo
      simp only [Bool.false_eq_true,if_false] at hgo ⊢
      (repeat (first|simp only [↓QA,QB,Nat.reduceLT,reduceIte,Nat.reduceEqDiff,Nat.reduceAdd,Nat.reduceLeDiff,Nat.reduceMul,Nat.reduceBEq,dW]|refine rd0 rfl ?_))
      refine bY (S:=Nat×Int×List Stay×Bool) (0,L,SS,ex) (fun a=>a.1≤p.length∧0≤a.2.1∧a.2.1≤60+20*(4*i+a.1:Nat)∧StaysOk a.2.2.1 (4*i+a.1)∧kM m i (p.drop a.1) a.2.1 a.2.2.1=R) (fun a=>p.length-a.1)
       (fun a=>[(2,bU ps),(3,.ptr 0 0),(4,.ptr 1 0),(8,.lit (a.2.2.1.map fU) false (some 2)),(9,.lit (OO.map (.int .i64)) false (some 3)),(10,.int .i64 i),(11,.int .i64 a.2.1),(13,.int .i64 a.1)])
       (fun a=>[.cells (aB v),.cells [.lit (s.closed.map .bool) false none,ints s.mins],.tok 4 a.2.2.1.length a.2.2.2,.tok 1 i ex2]) ⟨by simp,by simp only;omega,by simp only;omega,b1,hgo.symm⟩ (by simp [aB,ints]) ?_ fun a ha=>?_
      ·try simp only [aE,QE,Nat.reduceLT,reduceIte,Nat.reduceEqDiff,Nat.reduceAdd,Nat.reduceLeDiff,Nat.reduceMul,Nat.reduceBEq,dW,bU,ints]
       try simp
      ·obtain ⟨j,at_,SS,ex⟩:=a
       obtain ⟨hj,ha0,ha1,hso,hgo⟩:=ha
       simp only at hj ha0 ha1 hso hgo
       have hne:(at_==-1)=false:=by simp;omega
       by_cases hj1:j<p.length
       ·have g:decide ((j:Int)<(p.length:Int))=true:=by simp;omega
        have hwj:=bX hj1 (by omega)
        have hpk:=hpr _ (List.getElem_mem hj1)
        rw [List.drop_eq_getElem_cons hj1] at hgo
        obtain ⟨r,hr⟩:∃ r:Nat,p[j]=(r:Int):=⟨p[j].toNat,by omega⟩
        rw [hr] at hpk hgo
        have hr1:r<s.closed.length:=by omega
        have hr2:r<s.mins.length:=by omega
        have hmr:=hea r hr1 hr2
        have hmi:=hs.bd r hr2
        have hopen:s.closed[r]=false:=by
         rw [List.any_eq_false] at hc
         have:=hc _ (List.getElem_mem hj1)
         rw [hr,hmr] at this
         cases hq:s.closed[r]
         ·rfl
         ·rw [hq] at this;simp at this
        rw [hopen] at hmr
        simp only [Bool.false_eq_true,if_false] at hmr
        obtain ⟨M,hM⟩:∃ M,s.mins[r]=M:=⟨_,rfl⟩
        rw [hM] at hmr hmi
        simp only [kM,hmr] at hgo
        obtain ⟨f1,f2,f3⟩:=GL (rail:=(r:Int)) (m:=M) hso (by omega) ha0 ha1
        have hsl:=hso.len
        have hfr:=R3 SS r at_ M (60+20*((4*i+j:Nat):Int)) (by omega) hso.til ha0 ha1 (by omega) (by omega)
        obtain ⟨F,hF⟩:∃ F,g7 SS r at_ M=F:=⟨_,rfl⟩
        rw [hF] at hgo f2 f3 hfr
        have hwF:IntKind.i64.wrap (F+M)=F+M:=dU ⟨by omega,by omega⟩
        have a8:=fun (b0 b1:ABlk) (τ:St)=>lC (σ:=b0::b1::.tok 4 SS.length ex::τ) (t:=2) (ex:=ex) (sz:=4) (b:=32) (xs:=SS.map fU) (ys:=[.agg [.int .i64 i,.int .i64 r,.int .i64 F,.int .i64 (F+M)]]) (f:=true) (tk:=none) ⟨A4 SS,by simp [aM,cO,AV.cells,AV.cell],by simp [room];omega,by simp [room];omega⟩ (by simp) SS.length (by simp) rfl
        (repeat (first|simp only [↓QA,QB,Nat.reduceLT,reduceIte,Nat.reduceEqDiff,Nat.reduceAdd,Nat.reduceLeDiff,Nat.reduceMul,Nat.reduceBEq,dW,OE,bU,hip,hpp,g,hne,hj1,hr,hr2,hM,ints]|refine rd0 rfl ?_))
        ((first|refine xD (hfr) (by try simp only [QS,QC,Nat.reduceLT,reduceIte,Nat.reduceEqDiff,Nat.reduceAdd,Nat.reduceLeDiff,Nat.reduceMul,Nat.reduceBEq,dW]) trivial ?_|refine AF (hfr) (by try simp only [QS,QC,Nat.reduceLT,reduceIte,Nat.reduceEqDiff,Nat.reduceAdd,Nat.reduceLeDiff,Nat.reduceMul,Nat.reduceBEq,dW]) trivial ?_);(repeat (first|simp only [↓QA,QB,Nat.reduceLT,reduceIte,Nat.reduceEqDiff,Nat.reduceAdd,Nat.reduceLeDiff,Nat.reduceMul,Nat.reduceBEq,dW,hj1,hr,hr2,hM,ints,hwF,a8,hwj]|refine rd0 rfl ?_)))
        refine ⟨(j+1,F+M,SS++[⟨i,r,F,F+M⟩],true),⟨by simp only;omega,by simp only;omega,by simp only;omega,?_,hgo⟩,by simp only;omega,?_⟩
        ·refine ⟨by simp;omega,fun x hx=>?_,fun x hx=>?_⟩
         ·rcases List.mem_append.1 hx with hx|hx
          ·have:=hso.til x hx;simp only;omega
          ·simp only [List.mem_singleton] at hx;subst hx;simp only;omega
         ·rcases List.mem_append.1 hx with hx|hx
          ·exact hso.frm x hx
          ·simp only [List.mem_singleton] at hx;subst hx;simp only;omega
        ·try simp only [aE,QE,Nat.reduceLT,reduceIte,Nat.reduceEqDiff,Nat.reduceAdd,Nat.reduceLeDiff,Nat.reduceMul,Nat.reduceBEq,dW,hwj,bU,ints,List.map_append,List.map_cons,List.map_nil]
         try simp [aL]
       ·have g:decide ((j:Int)<(p.length:Int))=false:=by simp;omega
        rw [List.drop_eq_nil_of_le (by omega),kM] at hgo
        subst hgo
        (repeat (first|simp only [↓QA,QB,Nat.reduceLT,reduceIte,Nat.reduceEqDiff,Nat.reduceAdd,Nat.reduceLeDiff,Nat.reduceMul,Nat.reduceBEq,dW,OE,bU,hip,hpp,g,aO,hwi]|refine rd0 rfl ?_))
        refine ⟨(i+1,ex,true),by simp only;omega,by simp only;omega,?_⟩
        try simp only [aE,QE,Nat.reduceLT,reduceIte,Nat.reduceEqDiff,Nat.reduceAdd,Nat.reduceLeDiff,Nat.reduceMul,Nat.reduceBEq,dW,hwi,hsu1,hsu2,bU,ints,List.map_append,List.map_cons,List.map_nil]
        try simp [aL]
     ·rw [hc] at hgo
      simp only [if_true] at hgo ⊢
      subst hgo
      have hne:((-1:Int)==-1)=true:=by decide
      (repeat (first|simp only [↓QA,QB,Nat.reduceLT,reduceIte,Nat.reduceEqDiff,Nat.reduceAdd,Nat.reduceLeDiff,Nat.reduceMul,Nat.reduceBEq,dW]|refine rd0 rfl ?_))
      refine bY (S:=Unit) () (fun a=>True) (fun a=>0)
       (fun a=>[(2,bU ps),(3,.ptr 0 0),(4,.ptr 1 0),(8,.lit (SS.map fU) false (some 2)),(9,.lit (OO.map (.int .i64)) false (some 3)),(10,.int .i64 i),(11,.int .i64 (-1)),(13,.int .i64 0)])
       (fun a=>[.cells (aB v),.cells [.lit (s.closed.map .bool) false none,ints s.mins],.tok 4 SS.length ex,.tok 1 i ex2]) trivial (by simp [aB,ints]) ?_ fun a ha=>?_
      ·try simp only [aE,QE,Nat.reduceLT,reduceIte,Nat.reduceEqDiff,Nat.reduceAdd,Nat.reduceLeDiff,Nat.reduceMul,Nat.reduceBEq,dW,bU,ints]
       try simp
      ·(repeat (first|simp only [↓QA,QB,Nat.reduceLT,reduceIte,Nat.reduceEqDiff,Nat.reduceAdd,Nat.reduceLeDiff,Nat.reduceMul,Nat.reduceBEq,dW,OE,bU,hip,hpp,hne]|refine rd0 rfl ?_))
       cases hg:decide ((0:Int)<(p.length:Int))
       ·(repeat (first|simp only [↓QA,QB,Nat.reduceLT,reduceIte,Nat.reduceEqDiff,Nat.reduceAdd,Nat.reduceLeDiff,Nat.reduceMul,Nat.reduceBEq,dW,hg,hne,aO,hwi]|refine rd0 rfl ?_))
        refine ⟨(i+1,ex,true),by simp only;omega,by simp only;omega,?_⟩
        try simp only [aE,QE,Nat.reduceLT,reduceIte,Nat.reduceEqDiff,Nat.reduceAdd,Nat.reduceLeDiff,Nat.reduceMul,Nat.reduceBEq,dW,hwi,hsu1,hsu2,bU,ints,List.map_append,List.map_cons,List.map_nil]
        try simp [aL]
       ·(repeat (first|simp only [↓QA,QB,Nat.reduceLT,reduceIte,Nat.reduceEqDiff,Nat.reduceAdd,Nat.reduceLeDiff,Nat.reduceMul,Nat.reduceBEq,dW,hg,hne,aO,hwi]|refine rd0 rfl ?_))
        refine ⟨(i+1,ex,true),by simp only;omega,by simp only;omega,?_⟩
        try simp only [aE,QE,Nat.reduceLT,reduceIte,Nat.reduceEqDiff,Nat.reduceAdd,Nat.reduceLeDiff,Nat.reduceMul,Nat.reduceBEq,dW,hwi,hsu1,hsu2,bU,ints,List.map_append,List.map_cons,List.map_nil]
        try simp [aL]
  ·have hi1:i=v.trams.length:=by simp at h;omega
   rw [hi1]
   (repeat (first|simp only [↓QA,QB,Nat.reduceLT,reduceIte,Nat.reduceEqDiff,Nat.reduceAdd,Nat.reduceLeDiff,Nat.reduceMul,Nat.reduceBEq,dW,aA6,LE]|refine rd0 rfl ?_))
   try try simp only [QS,QC,Nat.reduceLT,reduceIte,Nat.reduceEqDiff,Nat.reduceAdd,Nat.reduceLeDiff,Nat.reduceMul,Nat.reduceBEq,dW]
end Go.Am.Room
set_option maxRecDepth 4000
namespace Go.Am.Room
def fB:=And.intro @bH (And.intro @aI (And.intro @aW (And.intro @aT (And.intro @aS (And.intro @aR (And.intro @bF (And.intro @bC (And.intro @bA (And.intro @dH (And.intro @d6 (And.intro @Nat.not_lt_zero (And.intro @aQ (And.intro @aY (And.intro @bQ (And.intro @cE (And.intro @tQ (@dE)))))))))))))))))
theorem aA1 {v:Net} (hv:Vd v):∀ k,k≤v.rails.length→∀ s∈oH v.rails k,∀ i (h:i<s.mins.length),1≤s.mins[i]∧s.mins[i]≤20
 |0,_,s,hs,i,h=>by simp [oH] at hs;subst hs;simp at h
 |k+1,hk,s,hs,i,h=>by
  have hk1:k<v.rails.length:=by omega
  rw [y2 hk1] at hs
  simp only [List.mem_flatMap,zX,List.mem_map,List.mem_filter] at hs
  obtain ⟨s0,hs0,m,hm,c,_,rfl⟩:=hs
  have hl0:=(tT k (by omega) s0 hs0).2.1
  simp only [List.length_append,List.length_cons,List.length_nil] at h
  by_cases e:i=s0.mins.length
  ·subst e
   have:=(hv.ra _ (List.getElem_mem hk1)).mins
   have:=kD.1 hm
   simp
   omega
  ·have hi:i<s0.mins.length:=by omega
   have:=aA1 hv k (by omega) s0 hs0 i hi
   simp only [List.getElem_append_left hi]
   exact this
theorem uO {v:Net} (hv:Vd v) {s:State} (h:s∈bD v):StOk v s:=by
 have hl:=gZ h
 exact ⟨hl.1,hl.2,aA1 hv _ (Nat.le_refl _) s h⟩
theorem BJ {v:Net} (hv:Vd v):(bD v).length≤1024 :=
 Nat.le_trans (A0 (fun r hr=>(hv.ra r hr).mins.2.2.2) _) (Nat.le_trans (Nat.pow_le_pow_right (by omega) hv.nra) (by decide))
theorem LM {v:Net} (hv:Vd v) (but:List Int):(aJ v but).length≤1024:=Nat.le_trans (List.length_filter_le _ _) (BJ hv)
theorem P8 (v:Net) (s:State):(aX v s).length=v.trams.length:=mA _ _ _ _
theorem AR {cs:List Int} {t:Nat} (h:t<cs.length):cT cs (t:Int)=cs[t]:=by simp [cT,h]
def KB (v:Net) (s:State):List AV:=(dB v (eff s) (fY v) v.trams.length).1.map fU
theorem A8 (v:Net) (hv:Vd v) (s:State) (hs:StOk v s):dR T 49 [bI v,eC s,bU (fY v)] (.tuple [.lit (KB v s) false none,ints (aX v s)]):=Z2 v hv s hs (fY v) (LD hv)
theorem mX (v:Net) (hv:Vd v) (but:List Int) (hbu:but.length<9223372036854775808):dR T 48 [bI v,ints but] (fG (aJ v but)):=by
 refine bE (af:=a48) rfl (by simp [a48]) dd ?_
 have hse:=hv.nse
 have hwl:=BJ hv
 have hwo:=fun s=>uO hv (s:=s)
 have hst:=C7 v hv
 have how:=wA v hv
 obtain ⟨R,hR⟩:∃ R,aJ v but=R:=⟨_,rfl⟩
 have hRl:=LM hv but
 rw [hR] at hRl ⊢
 have hR':[]++((bD v).drop 0).filter (fun s=>jZ v but (aX v s))=R:=hR
 obtain ⟨W,hW⟩:∃ W,bD v=W:=⟨_,rfl⟩
 rw [hW] at hwl hst hR'
 simp only [hW] at hwo
 obtain ⟨PO,hPO⟩:∃ PO,fY v=PO:=⟨_,rfl⟩
 (repeat (first|simp only [↓QA,QB,Nat.reduceLT,reduceIte,Nat.reduceEqDiff,Nat.reduceAdd,Nat.reduceLeDiff,Nat.reduceMul,Nat.reduceBEq,fB,a48]|refine rd0 rfl ?_))
 ((first|refine aC (hst) rfl dd ?_|refine aD (hst) rfl dd ?_);(repeat (first|simp only [↓QA,QB,Nat.reduceLT,reduceIte,Nat.reduceEqDiff,Nat.reduceAdd,Nat.reduceLeDiff,Nat.reduceMul,Nat.reduceBEq,fB]|refine rd0 rfl ?_)))
 refine mM 6 2 [] rfl ?_
 refine bY (S:=Nat×List State×Bool) (0,[],false) (fun a=>a.1≤W.length∧a.2.1++(W.drop a.1).filter (fun s=>jZ v but (aX v s))=R) (fun a=>W.length-a.1)
  (fun a=>[(1,ints but),(2,.ptr 0 0),(5,fG W),(6,.lit (a.2.1.map eC) false (some 1)),(7,.int .i64 a.1)])
  (fun a=>[.cells (aB v),.tok 2 a.2.1.length a.2.2]) ⟨Nat.zero_le _,hR'⟩ (by simp [aB,ints]) ?_ fun a ha=>?_
 ·try simp only [aE,QE,Nat.reduceLT,reduceIte,Nat.reduceEqDiff,Nat.reduceAdd,Nat.reduceLeDiff,Nat.reduceMul,Nat.reduceBEq,fB]
  try simp
 ·obtain ⟨k,acc,ex⟩:=a
  obtain ⟨hk,hacc⟩:=ha
  simp only at hk hacc
  (repeat (first|simp only [↓QA,QB,Nat.reduceLT,reduceIte,Nat.reduceEqDiff,Nat.reduceAdd,Nat.reduceLeDiff,Nat.reduceMul,Nat.reduceBEq,fB,aAL]|refine rd0 rfl ?_))
  refine aG (fun hd=>?_) fun hd=>?_
  ·have hk1:k<W.length:=by simpa using hd
   have hw:=bX hk1 (by omega)
   have hso:=hwo _ (List.getElem_mem hk1)
   obtain ⟨s,hs⟩:∃ s,W[k]=s:=⟨_,rfl⟩
   rw [hs] at hso
   rw [List.drop_eq_getElem_cons hk1,hs,List.filter_cons] at hacc
   have hal:acc.length≤1024:=by
    have:=congrArg List.length hacc
    simp only [List.length_append] at this
    omega
   have hrun:=A8 v hv s hso
   have hcl:=P8 v s
   obtain ⟨C,hC⟩:∃ C,aX v s=C:=⟨_,rfl⟩
   obtain ⟨SS,hSS⟩:∃ SS,KB v s=SS:=⟨_,rfl⟩
   rw [hPO] at hrun how
   rw [hC] at hrun hcl hacc
   rw [hSS] at hrun
   simp only [aQ] at hrun
   have hap:=fun (b0:ABlk) (τ:St)=>lC (σ:=b0::.tok 2 acc.length ex::τ) (t:=1) (ex:=ex) (sz:=2) (b:=48) (xs:=acc.map eC) (ys:=[.agg [.lit (s.closed.map .bool) false none,.lit (s.mins.map (.int .i64)) false none]]) (f:=true) (tk:=none) ⟨sM acc,by simp [aM,cO,AV.cells,AV.cell],by simp [room];omega,by simp [room];omega⟩ (by simp) acc.length (by simp) rfl
   (repeat (first|simp only [↓QA,QB,Nat.reduceLT,reduceIte,Nat.reduceEqDiff,Nat.reduceAdd,Nat.reduceLeDiff,Nat.reduceMul,Nat.reduceBEq,fB,hk1,hs,ints]|refine rd0 rfl ?_))
   ((first|refine aC (how) rfl dd ?_|refine aD (how) rfl dd ?_);(repeat (first|simp only [↓QA,QB,Nat.reduceLT,reduceIte,Nat.reduceEqDiff,Nat.reduceAdd,Nat.reduceLeDiff,Nat.reduceMul,Nat.reduceBEq,fB,hk1,hs,ints]|refine rd0 rfl ?_)))
   ((first|refine aC (hrun) rfl dd ?_|refine aD (hrun) rfl dd ?_);(repeat (first|simp only [↓QA,QB,Nat.reduceLT,reduceIte,Nat.reduceEqDiff,Nat.reduceAdd,Nat.reduceLeDiff,Nat.reduceMul,Nat.reduceBEq,fB,hk1,hs,ints]|refine rd0 rfl ?_)))
   refine bY (S:=Nat) 0 (fun j=>j≤v.seen.length) (fun j=>v.seen.length-j)
    (fun j=>[(1,ints but),(2,.ptr 0 0),(5,fG W),(6,.lit (acc.map eC) false (some 1)),(7,.int .i64 k),(9,ints C),(10,.bool (pE v but C j)),(11,.int .i64 j)])
    (fun j=>[.cells (aB v),.tok 2 acc.length ex]) (Nat.zero_le _) (by simp [aB,ints]) ?_ fun j hj=>?_
   ·try simp only [aE,QE,Nat.reduceLT,reduceIte,Nat.reduceEqDiff,Nat.reduceAdd,Nat.reduceLeDiff,Nat.reduceMul,Nat.reduceBEq,fB,ints]
    try simp [pE]
   ·(repeat (first|simp only [↓QA,QB,Nat.reduceLT,reduceIte,Nat.reduceEqDiff,Nat.reduceAdd,Nat.reduceLeDiff,Nat.reduceMul,Nat.reduceBEq,fB,aBQ]|refine rd0 rfl ?_))
    refine aG (fun h2=>?_) fun h2=>?_
    ·have hj1:j<v.seen.length:=by simpa using h2
     have hwj:=bX hj1 (by omega)
     have hsu:=zB hj1 but C
     have hsx:=hv.se _ (List.getElem_mem hj1)
     obtain ⟨x,hx⟩:∃ x,v.seen[j]=x:=⟨_,rfl⟩
     rw [hx] at hsu hsx
     obtain ⟨t,ht⟩:∃ t:Nat,x.tram=t:=⟨x.tram.toNat,by omega⟩
     rw [ht] at hsu hsx
     have htl:t<C.length:=by omega
     rw [AR htl] at hsu
     obtain ⟨q,hq⟩:∃ q,pE v but C j=q:=⟨_,rfl⟩
     rw [hq] at hsu
     rw [hq]
     cases q
     ·rw [Bool.false_and] at hsu
      (repeat (first|simp only [↓QA,QB,Nat.reduceLT,reduceIte,Nat.reduceEqDiff,Nat.reduceAdd,Nat.reduceLeDiff,Nat.reduceMul,Nat.reduceBEq,fB,hwj]|refine rd0 rfl ?_))
      refine ⟨j+1,by omega,by omega,?_⟩
      try simp only [aE,QE,Nat.reduceLT,reduceIte,Nat.reduceEqDiff,Nat.reduceAdd,Nat.reduceLeDiff,Nat.reduceMul,Nat.reduceBEq,fB,hwj,hsu,ints]
      try simp [aL]
     ·rw [Bool.true_and] at hsu
      (repeat (first|simp only [↓QA,QB,Nat.reduceLT,reduceIte,Nat.reduceEqDiff,Nat.reduceAdd,Nat.reduceLeDiff,Nat.reduceMul,Nat.reduceBEq,fB]|refine rd0 rfl ?_))
      ((first|refine aC (iT but (j:Int) hbu) rfl dd ?_|refine aD (iT but (j:Int) hbu) rfl dd ?_);(repeat (first|simp only [↓QA,QB,Nat.reduceLT,reduceIte,Nat.reduceEqDiff,Nat.reduceAdd,Nat.reduceLeDiff,Nat.reduceMul,Nat.reduceBEq,fB]|refine rd0 rfl ?_)))
      cases hb:but.contains (j:Int)
      ·rw [hb,Bool.false_or] at hsu
       (repeat (first|simp only [↓QA,QB,Nat.reduceLT,reduceIte,Nat.reduceEqDiff,Nat.reduceAdd,Nat.reduceLeDiff,Nat.reduceMul,Nat.reduceBEq,fB,hj1,hx,ht,htl,hwj]|refine rd0 rfl ?_))
       refine ⟨j+1,by omega,by omega,?_⟩
       try simp only [aE,QE,Nat.reduceLT,reduceIte,Nat.reduceEqDiff,Nat.reduceAdd,Nat.reduceLeDiff,Nat.reduceMul,Nat.reduceBEq,fB,hwj,hsu,ints]
       try simp [aL]
      ·rw [hb,Bool.true_or] at hsu
       (repeat (first|simp only [↓QA,QB,Nat.reduceLT,reduceIte,Nat.reduceEqDiff,Nat.reduceAdd,Nat.reduceLeDiff,Nat.reduceMul,Nat.reduceBEq,fB,hwj]|refine rd0 rfl ?_))
       refine ⟨j+1,by omega,by omega,?_⟩
       try simp only [aE,QE,Nat.reduceLT,reduceIte,Nat.reduceEqDiff,Nat.reduceAdd,Nat.reduceLeDiff,Nat.reduceMul,Nat.reduceBEq,fB,hwj,hsu,ints]
       try simp [aL]
    ·have hj1:j=v.seen.length:=by simp at h2;omega
     rw [hj1,vI]
     cases hc:jZ v but C
     ·rw [hc] at hacc
      simp only [Bool.false_eq_true,if_false] at hacc
      (repeat (first|simp only [↓QA,QB,Nat.reduceLT,reduceIte,Nat.reduceEqDiff,Nat.reduceAdd,Nat.reduceLeDiff,Nat.reduceMul,Nat.reduceBEq,fB,hw]|refine rd0 rfl ?_))
      refine ⟨(k+1,acc,ex),⟨by simp only;omega,hacc⟩,by simp only;omega,?_⟩
      try simp only [aE,QE,Nat.reduceLT,reduceIte,Nat.reduceEqDiff,Nat.reduceAdd,Nat.reduceLeDiff,Nat.reduceMul,Nat.reduceBEq,fB,hw,ints]
      try simp [aL]
     ·rw [hc] at hacc
      simp only [if_true] at hacc
      (repeat (first|simp only [↓QA,QB,Nat.reduceLT,reduceIte,Nat.reduceEqDiff,Nat.reduceAdd,Nat.reduceLeDiff,Nat.reduceMul,Nat.reduceBEq,fB,hk1,hs,ints,hap,hw]|refine rd0 rfl ?_))
      refine ⟨(k+1,acc++[s],true),⟨by simp only;omega,by rw [←hacc];simp⟩,by simp only;omega,?_⟩
      try simp only [aE,QE,Nat.reduceLT,reduceIte,Nat.reduceEqDiff,Nat.reduceAdd,Nat.reduceLeDiff,Nat.reduceMul,Nat.reduceBEq,fB,hw,ints,List.map_append,List.map_cons,List.map_nil]
      try simp [aL]
  ·have hk1:k=W.length:=by simp at hd;omega
   rw [hk1,List.drop_length] at hacc
   simp only [List.filter_nil,List.append_nil] at hacc
   subst hacc
   (repeat (first|simp only [↓QA,QB,Nat.reduceLT,reduceIte,Nat.reduceEqDiff,Nat.reduceAdd,Nat.reduceLeDiff,Nat.reduceMul,Nat.reduceBEq,fB]|refine rd0 rfl ?_))
   try try simp only [QS,QC,Nat.reduceLT,reduceIte,Nat.reduceEqDiff,Nat.reduceAdd,Nat.reduceLeDiff,Nat.reduceMul,Nat.reduceBEq,fB]
theorem J7 (v:Net):clrs [bI v,.lit [] true none]=[bI v,ints []]:=by simp [clrs,(B1 v).2,clr,ints]
theorem y4 (v:Net):okVs 0 [bI v,.lit [] true none]:=⟨(B1 v).1,by simp [okV,okVs],trivial⟩
end Go.Am.Room
set_option maxRecDepth 4000
namespace Go.Am.Room
theorem J4 (l:List State):mD (fG l):=fJ rY l
instance (l:List State):Dat (fG l):=⟨J4 l⟩
end Go.Am.Room
set_option maxRecDepth 8000
namespace Go.Am.Room
def jH (v:Net):Bool:=decide ((cA v).2.2=0)&&kT v []
theorem fP (v:Net) (hf:Fits v):dR T 46 [bI v] (.bool (jH v)):=by
 refine bE (af:=a46) rfl (by simp [a46]) dd ?_
 (repeat (first|simp only [↓QA,QB,Nat.reduceLT,reduceIte,Nat.reduceEqDiff,Nat.reduceAdd,Nat.reduceLeDiff,Nat.reduceMul,Nat.reduceBEq,eZ,a46]|refine rd0 rfl ?_))
 ((first|refine aC (eW v hf) rfl dd ?_|refine aD (eW v hf) rfl dd ?_);(repeat (first|simp only [↓QA,QB,Nat.reduceLT,reduceIte,Nat.reduceEqDiff,Nat.reduceAdd,Nat.reduceLeDiff,Nat.reduceMul,Nat.reduceBEq,eZ]|refine rd0 rfl ?_)))
 cases h0:decide ((cA v).2.2=0)
 ·(repeat (first|simp only [↓QA,QB,Nat.reduceLT,reduceIte,Nat.reduceEqDiff,Nat.reduceAdd,Nat.reduceLeDiff,Nat.reduceMul,Nat.reduceBEq,eZ,jH,h0,Bool.false_and]|refine rd0 rfl ?_))
 ·have hv:=eB (by simpa using h0)
  have hs:=mX v hv [] (by simp)
  (repeat (first|simp only [↓QA,QB,Nat.reduceLT,reduceIte,Nat.reduceEqDiff,Nat.reduceAdd,Nat.reduceLeDiff,Nat.reduceMul,Nat.reduceBEq,eZ]|refine rd0 rfl ?_))
  refine eO hs (J7 v) (y4 v) ?_
  (repeat (first|simp only [↓QA,QB,Nat.reduceLT,reduceIte,Nat.reduceEqDiff,Nat.reduceAdd,Nat.reduceLeDiff,Nat.reduceMul,Nat.reduceBEq,eZ,jH,h0,Bool.true_and,fG]|refine rd0 rfl ?_))
  have e:decide ((0:Int)<(aJ v []).length)=kT v []:=by
   simp only [kT]
   cases aJ v []<;>simp
  rw [e]
theorem E7 {v:Net} {but:List Int}:kT v but=true↔aJ v but≠[]:=by
 rw [kT]
 cases aJ v but<;>simp
theorem kS {v:Net}:jH v=true↔(cA v).2.2=0∧aJ v []≠[]:=by
 rw [jH,Bool.and_eq_true,decide_eq_true_eq,E7]
theorem aKH {v:Net} (hs:jH v=true) {t:Nat} (ht:t<v.trams.length):hJ v (t:Int)=0:=by
 obtain ⟨hc,hne⟩:=kS.1 hs
 have hin:inR (t:Int) 0 ((v.trams.length:Int)-1)=true:=d5.2 (by omega)
 simp [hJ,fZ,hc,hne,hin]
theorem NL {v:Net} {t:Int} (hs:jH v=false∨¬(0≤t∧t<v.trams.length)):hJ v t≠0:=fun h=>by
 have hc:(cA v).2.2=0:=by
  by_cases q:(cA v).2.2=0
  ·exact q
  ·simp [hJ,fZ,q] at h
 have hin:inR t 0 ((v.trams.length:Int)-1)=true:=by
  cases q:inR t 0 ((v.trams.length:Int)-1)
  ·simp [hJ,fZ,hc,q] at h
  ·rfl
 have hne:aJ v []≠[]:=fun q=>by simp [hJ,fZ,hc,hin,q] at h
 rcases hs with hs|hs
 ·rw [kS.2 ⟨hc,hne⟩] at hs;cases hs
 ·rw [d5] at hin;omega
theorem nD {v:Net} (hs:jH v=true) {t:Nat} (ht:t<v.trams.length):kP v (t:Int)=((bR (dY v (aJ v []) t)).1,(bR (dY v (aJ v []) t)).2,0):=by
 rw [kP,if_pos (aKH hs ht),Int.toNat_natCast]
theorem OW {v:Net} {t:Int} (hs:jH v=false∨¬(0≤t∧t<v.trams.length)):kP v t=(⟨0,0⟩,0,hJ v t):=by
 rw [kP,if_neg (NL hs)]
theorem gX {l:List Int} {c:Int}:c∈dF l↔c∈l∧c≠-1:=by
 rw [dF,List.mem_filter];simp
theorem mT {l:List Int} {c:Int} (h:c∈l) (hc:c≠-1):(bR l).1.lo≤c∧c≤(bR l).1.hi:=by
 have hm:=gX.2 ⟨h,hc⟩
 exact (mL (List.ne_nil_of_mem hm)).2.2 _ hm
theorem vX {l:List Int} (h:dF l≠[]):(bR l).1.lo∈dF l∧(bR l).1.hi∈dF l:=by
 have:=mL h
 exact ⟨this.1,this.2.1⟩
theorem oR {l:List Int} (h:l≠[]):(bR l).2=2↔dF l=[]:=by
 have hl:l.length≠0:=fun e=>h (List.length_eq_zero_iff.1 e)
 simp only [bR,eP]
 constructor
 ·intro q
  split at q
  ·cases q
  ·split at q
   ·rename_i q2 q3;exact List.length_eq_zero_iff.1 (by simpa using q3)
   ·cases q
 ·intro q
  rw [q]
  simp only [List.length_nil]
  rw [if_neg (by omega)]
  simp
def dS (v:Net) (l:List Seen):Net:={ v with seen:=l }
def more (v:Net) (x:Seen):Net:=dS v (v.seen++[x])
theorem w5 (v:Net) (q:List Seen):∀ (p:List Int) (s:Int) (met:List Int),jC (dS v q) p s met=jC v p s met
 |[],_,_=>rfl
 |r::l,s,met=>by simp only [jC,w5 v q l];rfl
theorem L4 (v:Net) (q:List Seen) (s:Int) (p:List Int):gY (dS v q) s p=gY v s p:=by
 simp only [gY,w5]
theorem FR (v:Net) (q:List Seen) (i:Nat) (t:Tram):iF (dS v q) i t=iF v i t:=by
 simp only [iF,gO,L4];rfl
theorem JM {v:Net} (hv:Vd v) {q:List Seen} (h1:q.length≤3) (h2:∀ x∈q,(0≤x.tram∧x.tram<v.trams.length)∧-1≤x.minute∧x.minute≤400):Vd (dS v q) :=
 ⟨hv.st,hv.nra,fun r hr=>⟨(hv.ra r hr).a,(hv.ra r hr).b,(hv.ra r hr).ne,(hv.ra r hr).mins,(hv.ra r hr).shut⟩,hv.ntr,fun i h=>by rw [FR];exact hv.tr i h,h1,h2⟩
def lW (C:List Int) (y:Seen):Seen:=⟨y.tram,cT C y.tram⟩
def told (v:Net) (C:List Int):Net:=dS v (v.seen.map (lW C))
theorem uT {v:Net} (h:v.seen=[]):aJ v []=bD v:=by
 rw [aJ,List.filter_eq_self]
 intro s _
 simp [jZ,h]
theorem yN {v:Net} (hv:Vd v) (h:v.seen=[]):jH v=true:=by
 refine kS.2 ⟨by rw [tU hv],?_⟩
 rw [uT h]
 obtain ⟨c,hc⟩:=List.exists_mem_of_ne_nil _ (GU hv)
 obtain ⟨s,hs,_⟩:=rP hv hc
 exact List.ne_nil_of_mem hs
def fS (m:Int→Int) (l:List Int):Int:=(l.map m).sum
theorem mW (m:Int→Int) (r:Int) (l:List Int):fS m (r::l)=m r+fS m l:=by simp [fS]
theorem EK (m:Int→Int) (l:List Int) (r:Int):fS m (l++[r])=fS m l+m r:=by simp [fS]
theorem AO {m n:Int→Int}:∀ {l:List Int},(∀ r∈l,m r≤n r)→fS m l≤fS n l
 |[],_=>by simp [fS]
 |r::l,h=>by
  rw [mW,mW]
  have:=h r (by simp)
  have:=AO (l:=l) fun x hx=>h x (by simp [hx])
  omega
theorem EB:∀ l:List Int,fS (fun _=>0) l=0
 |[]=>rfl
 |a::l=>by rw [mW,EB l];rfl
def nV (v:Net) (r:Int):Int:=(bS v r).mins.lo
def pD (v:Net) (r:Int):Int:=(bS v r).mins.hi
theorem D6 (ss:List Stay) (rail m:Int):∀ (k:Nat) (s:Int),s≤qI ss rail m k s
 |0,s=>Int.le_refl _
 |k+1,s=>by
  rw [qI]
  split
  ·have:=D6 ss rail m k (s+1);omega
  ·exact Int.le_refl _
theorem S1 {m:Int→Int} {i:Int}:∀ (l:List Int) (a:Int) (ss:List Stay),a+fS m l≤(kM m i l a ss).2
 |[],a,ss=>by simp [fS,kM]
 |r::l,a,ss=>by
  rw [mW,kM]
  have h1:=D6 ss r (m r) 1000 a
  have h2:=S1 (m:=m) (i:=i) l (g7 ss r a (m r)+m r) (ss++[⟨i,r,g7 ss r a (m r),g7 ss r a (m r)+m r⟩])
  simp only [g7] at *
  omega
theorem Z4 {ss:List Stay} {rail m s:Int} (h:∀ x∈ss,x.til≤s):g7 ss rail s m=s:=by
 have:ss.any (iN rail s m)=false:=by
  rw [List.any_eq_false]
  intro x hx
  have:=h x hx
  simp only [iN,Bool.and_eq_true,decide_eq_true_eq,not_and]
  intro _ _
  omega
 rw [g7,show (1000:Nat)=999+1 from rfl,qI,this]
 rfl
theorem S5 {m:Int→Int} {i:Int}:∀ (l:List Int) (a:Int) (ss:List Stay),(∀ x∈ss,x.til≤a)→(∀ r∈l,0≤m r)→(kM m i l a ss).2=a+fS m l
 |[],a,ss,_,_=>by simp [fS,kM]
 |r::l,a,ss,h,hm=>by
  have h0:=hm r (by simp)
  rw [mW,kM,Z4 h,S5 l _ _ (fun x hx=>?_) fun x hx=>hm x (by simp [hx])]
  ·omega
  ·rcases List.mem_append.1 hx with hx|hx
   ·have:=h x hx;omega
   ·simp only [List.mem_singleton] at hx;subst hx;simp
theorem JR {v:Net} (m:Int→Int) (ps:List (List Int)):∀ (n t:Nat),t<n→cT (dB v m ps n).2 (t:Int)=(j3 m t (jI v t) (eI ps t) (dB v m ps t).1).2
 |0,t,h=>by omega
 |n+1,t,h=>by
  have hl:=mA v m ps n
  by_cases e:t=n
  ·subst e
   simp only [dB,cT,Int.toNat_natCast]
   rw [List.getElem?_append_right (by omega)]
   simp [hl]
  ·have:=JR (v:=v) m ps n t (by omega)
   rw [←this]
   simp only [dB,cT,Int.toNat_natCast]
   rw [List.getElem?_append_left (by omega)]
theorem M7 {v:Net} {s:State} (hs:s∈bD v) {r:Int} (h:0≤r∧r<v.rails.length):(eff s r=0∧(bS v r).shut≠0)∨((bS v r).shut≠1∧nV v r≤eff s r∧eff s r≤pD v r):=by
 obtain ⟨k,rfl⟩:∃ k:Nat,r=k:=⟨r.toNat,by omega⟩
 obtain ⟨h1,h2,h3⟩:=tT v.rails.length (Nat.le_refl _) s hs
 have hk:k<v.rails.length:=by omega
 have h4:=h3.2 k hk hk
 have he:=congrFun (yO (s:=s) (by omega)) (k:Int)
 simp only [rlI,Int.toNat_natCast] at he
 rw [←he] at h4
 have hr:bS v (k:Int)=v.rails[k]:=by simp [bS,hk]
 rw [nV,pD,hr]
 obtain ⟨z,hz⟩:∃ z,v.rails[k]=z:=⟨_,rfl⟩
 rw [hz] at h4 ⊢
 rw [chP,List.mem_append] at h4
 rcases h4 with h4|h4
 ·split at h4
  ·cases h4
  ·exact .inl ⟨by simpa using h4,by assumption⟩
 ·split at h4
  ·cases h4
  ·exact .inr ⟨by assumption,kD.1 h4⟩
theorem KG {v:Net} {s:State} {t:Nat} (ht:t<v.trams.length):cT (aX v s) (t:Int)=(j3 (eff s) t v.trams[t].leaves v.trams[t].path (dB v (eff s) (fY v) t).1).2:=by
 rw [aX,iO,JR _ _ _ _ ht,uJ ht,GW ht]
theorem DU {m:Int→Int} {l:List Int} (h:l.any (fun r=>m r==0)=false):∀ r∈l,m r≠0:=fun r hr=>by
 have:=List.any_eq_false.1 h r hr
 simpa using this
theorem CD {v:Net} (hv:Vd v) {s:State} (hs:s∈bD v) {t:Nat} (ht:t<v.trams.length) (hc:cT (aX v s) (t:Int)≠-1):v.trams[t].leaves+fS (nV v) v.trams[t].path≤cT (aX v s) (t:Int):=by
 have hp:=(pU hv ht).path
 rw [KG ht,j3] at hc ⊢
 cases q:v.trams[t].path.any (fun r=>eff s r==0)
 ·simp only [q,Bool.false_eq_true,if_false] at hc ⊢
  have h1:=S1 (m:=eff s) (i:=(t:Int)) v.trams[t].path v.trams[t].leaves (dB v (eff s) (fY v) t).1
  have h2:=AO (m:=nV v) (n:=eff s) (l:=v.trams[t].path) fun r hr=>by
   have h0:=DU q r hr
   rcases M7 hs (hp r hr) with h|h
   ·exact absurd h.1 h0
   ·exact h.2.1
  omega
 ·simp [q] at hc
theorem v6 {v:Net} (hv:Vd v) {s:State} (hs:s∈bD v) (ht:0<v.trams.length):(cT (aX v s) (0:Nat) = -1∧∃ r∈v.trams[0].path,eff s r=0)∨(cT (aX v s) (0:Nat)=v.trams[0].leaves+fS (eff s) v.trams[0].path∧∀ r∈v.trams[0].path,eff s r≠0):=by
 have hp:=(pU hv ht).path
 have hm:=BL hv hs
 rw [KG ht,j3]
 cases q:v.trams[0].path.any (fun r=>eff s r==0)
 ·refine .inr ⟨?_,DU q⟩
  simp only [Bool.false_eq_true,if_false]
  exact S5 _ _ _ (fun x hx=>by simp [dB] at hx) fun r hr=>(hm r (hp r hr).1 (hp r hr).2).1
 ·refine .inl ⟨by simp,?_⟩
  obtain ⟨r,hr,h⟩:=List.any_eq_true.1 q
  exact ⟨r,hr,by simpa using h⟩
theorem BW {v:Net} (hv:Vd v) (f:Rail→Int) (hf:∀ r∈v.rails,r.mins.lo≤f r∧f r≤r.mins.hi):∃ s∈bD v,∀ r:Int,0≤r→r<v.rails.length→(bS v r).shut≠1→eff s r=f (bS v r):=by
 have:v.rails.map (fun r=>if r.shut=1 then 0 else f r)∈gC v.rails []:=(jR _ _ _).2 ⟨_,rfl,by simp,fun i h hr=>by
  have h2:=hf _ (List.getElem_mem hr)
  rw [List.getElem?_eq_getElem (by simpa using hr),Option.getD_some,List.getElem_map]
  obtain ⟨z,hz⟩:∃ z,v.rails[i]=z:=⟨_,rfl⟩
  rw [hz] at h2 ⊢
  simp only [chP,List.mem_append]
  by_cases q:z.shut=1
  ·rw [if_pos q,if_neg (by omega)]
   exact .inl (by simp)
  ·rw [if_neg q,if_neg q]
   exact .inr (kD.2 h2)⟩
 obtain ⟨s,hs,he⟩:=rP hv this
 refine ⟨s,hs,fun r h0 h1 hsh=>?_⟩
 obtain ⟨k,rfl⟩:∃ k:Nat,r=k:=⟨r.toNat,by omega⟩
 have hk:k<v.rails.length:=by omega
 rw [yO (by rw [(gZ hs).1,(gZ hs).2]),he]
 have hr:bS v (k:Int)=v.rails[k]:=by simp [bS,hk]
 rw [hr] at hsh ⊢
 simp [rlI,hk,hsh]
theorem MC {m n:Int→Int}:∀ {l:List Int},(∀ r∈l,m r=n r)→fS m l=fS n l:=fun h=>by
 rw [fS,fS,List.map_congr_left h]
theorem KP {v:Net} (hv:Vd v) (ht:0<v.trams.length) (hn:(bR (dY v (bD v) 0)).2≠2):(bR (dY v (bD v) 0)).1=⟨v.trams[0].leaves+fS (nV v) v.trams[0].path,v.trams[0].leaves+fS (pD v) v.trams[0].path⟩:=by
 have hp:=(pU hv ht).path
 have hAne:dY v (bD v) 0≠[]:=by
  obtain ⟨s,hs,_⟩:=BW hv (fun r=>r.mins.lo) fun r hr=>⟨Int.le_refl _,(hv.ra r hr).mins.2.1⟩
  exact List.ne_nil_of_mem (List.mem_map.2 ⟨s,hs,rfl⟩)
 have hr:dF (dY v (bD v) 0)≠[]:=fun e=>hn ((oR hAne).2 e)
 obtain ⟨c0,hc0⟩:=List.exists_mem_of_ne_nil _ hr
 obtain ⟨hc1,hc2⟩:=gX.1 hc0
 obtain ⟨s0,hs0,hse⟩:=List.mem_map.1 hc1
 have hopen:∀ r∈v.trams[0].path,(bS v r).shut≠1:=fun r hr'=>by
  rcases v6 hv hs0 ht with h|h
  ·exact absurd (hse.symm.trans h.1) hc2
  ·rcases M7 hs0 (hp r hr') with q|q
   ·exact absurd q.1 (h.2 r hr')
   ·exact q.1
 have mem:∀ f:Rail→Int,(∀ r∈v.rails,r.mins.lo≤f r∧f r≤r.mins.hi)→v.trams[0].leaves+fS (fun r=>f (bS v r)) v.trams[0].path∈dF (dY v (bD v) 0):=fun f hf=>by
  obtain ⟨s,hs,he⟩:=BW hv f hf
  have hz:∀ r∈v.trams[0].path,eff s r=f (bS v r):=fun r hr'=>he r (hp r hr').1 (hp r hr').2 (hopen r hr')
  have hlv:=(pU hv ht).leaves
  rcases v6 hv hs ht with h|h
  ·obtain ⟨r,hr',h0⟩:=h.2
   have h1:=hz r hr'
   obtain ⟨k,hk⟩:∃ k:Nat,r=k:=⟨r.toNat,by have:=hp r hr';omega⟩
   have hb:=hp r hr'
   have hkl:k<v.rails.length:=by omega
   have hra:bS v r=v.rails[k]:=by rw [hk];simp [bS,hkl]
   have h2:=hf _ (List.getElem_mem hkl)
   have h3:=(hv.ra _ (List.getElem_mem hkl)).mins.1
   rw [hra] at h1
   omega
  ·have h2:=CD hv hs ht
   rw [←MC hz,←h.1]
   refine gX.2 ⟨List.mem_map.2 ⟨s,hs,rfl⟩,?_⟩
   have hm:=BL hv hs
   have:0≤fS (eff s) v.trams[0].path:=by
    have:=AO (m:=fun _=>0) (n:=eff s) (l:=v.trams[0].path) fun r hr'=>(hm r (hp r hr').1 (hp r hr').2).1
    have h0:=EB v.trams[0].path
    omega
   rw [h.1]
   omega
 have mlo:=mem (fun r=>r.mins.lo) fun r hr'=>⟨Int.le_refl _,(hv.ra r hr').mins.2.1⟩
 have mhi:=mem (fun r=>r.mins.hi) fun r hr'=>⟨(hv.ra r hr').mins.2.1,Int.le_refl _⟩
 obtain ⟨e1,e2⟩:=vX hr
 have up:∀ c∈dF (dY v (bD v) 0),c≤v.trams[0].leaves+fS (pD v) v.trams[0].path:=fun c hc=>by
  obtain ⟨h1,h2⟩:=gX.1 hc
  obtain ⟨s,hs,rfl⟩:=List.mem_map.1 h1
  rcases v6 hv hs ht with h|h
  ·exact absurd h.1 h2
  ·have:=AO (m:=eff s) (n:=pD v) (l:=v.trams[0].path) fun r hr'=>by
    rcases M7 hs (hp r hr') with q|q
    ·exact absurd q.1 (h.2 r hr')
    ·exact q.2.2
   have:=h.1
   omega
 have dn:∀ c∈dF (dY v (bD v) 0),v.trams[0].leaves+fS (nV v) v.trams[0].path≤c:=fun c hc=>by
  obtain ⟨h1,h2⟩:=gX.1 hc
  obtain ⟨s,hs,rfl⟩:=List.mem_map.1 h1
  exact CD hv hs ht h2
 have a1:=dn _ e1
 have a2:=up _ e2
 have a3:=mT (gX.1 mlo).1 (gX.1 mlo).2
 have a4:=mT (gX.1 mhi).1 (gX.1 mhi).2
 have b1:(fun r=>(bS v r).mins.lo)=nV v:=rfl
 have b2:(fun r=>(bS v r).mins.hi)=pD v:=rfl
 simp only [b1,b2] at a3 a4
 obtain ⟨⟨⟨l,u⟩,k⟩,hk⟩:∃ q,bR (dY v (bD v) 0)=q:=⟨_,rfl⟩
 rw [hk] at a1 a2 a3 a4 ⊢
 simp only at a1 a2 a3 a4 ⊢
 rw [Span.mk.injEq]
 omega
end Go.Am.Room
set_option maxRecDepth 8000
namespace Go.Am.Room
def cZ:=And.intro @bH (And.intro @aI (And.intro @aW (And.intro @aT (And.intro @aS (And.intro @aR (And.intro @bF (And.intro @bC (And.intro @bA (And.intro @dH (And.intro @List.length_append.{0} (@Int.toNat_natCast)))))))))))
theorem AD {v:Net} (hv:Vd v):∀ {p:List Int},(∀ r∈p,0≤r∧r<v.rails.length)→0≤fS (nV v) p∧fS (nV v) p≤20*p.length∧0≤fS (pD v) p∧fS (pD v) p≤20*p.length
 |[],_=>by simp [fS]
 |r::l,h=>by
  have h1:=h r (by simp)
  have h2:=AD hv (p:=l) fun x hx=>h x (by simp [hx])
  obtain ⟨k,rfl⟩:∃ k:Nat,r=k:=⟨r.toNat,by omega⟩
  have hk:k<v.rails.length:=by omega
  have h3:=(hv.ra _ (List.getElem_mem hk)).mins
  have hr:bS v (k:Int)=v.rails[k]:=by simp [bS,hk]
  rw [mW,mW]
  simp only [nV,pD,hr,List.length_cons] at *
  omega
theorem RZ (v:Net) (hv:Vd v) (p:List Int) (hl:p.length≤4) (hp:∀ r∈p,0≤r∧r<v.rails.length):dR T 60 [bI v,ints p] (n9 ⟨fS (nV v) p,fS (pD v) p⟩):=by
 refine bE (af:=a60) rfl (by simp [a60]) dd ?_
 (repeat (first|simp only [↓QA,QB,Nat.reduceLT,reduceIte,Nat.reduceEqDiff,Nat.reduceAdd,Nat.reduceLeDiff,Nat.reduceMul,Nat.reduceBEq,cZ,a60]|refine rd0 rfl ?_))
 refine bY (S:=Nat) 0 (fun k=>k≤p.length) (fun k=>p.length-k)
  (fun k=>[(1,ints p),(2,.ptr 0 0),(4,.ptr 1 0),(5,.ptr 2 0),(6,.int .i64 k)]) (fun k=>[.cells (aB v),.cells [.int .i64 0,.int .i64 0],.cells [.int .i64 (fS (nV v) (p.take k)),.int .i64 (fS (pD v) (p.take k))]]) (Nat.zero_le _) (by simp [aB,ints,fS]) ?_ fun k hk=>?_
 ·try simp only [aE,QE,Nat.reduceLT,reduceIte,Nat.reduceEqDiff,Nat.reduceAdd,Nat.reduceLeDiff,Nat.reduceMul,Nat.reduceBEq,cZ]
  try simp [fS]
 ·(repeat (first|simp only [↓QA,QB,Nat.reduceLT,reduceIte,Nat.reduceEqDiff,Nat.reduceAdd,Nat.reduceLeDiff,Nat.reduceMul,Nat.reduceBEq,cZ,aBM]|refine rd0 rfl ?_))
  refine aG (fun hd=>?_) fun hd=>?_
  ·have hk1:k<p.length:=by simpa using hd
   have hw:=bX hk1 (by omega)
   have hb:=AD hv (p:=p.take (k+1)) fun r hr=>hp r (List.mem_of_mem_take hr)
   have hlt:(p.take (k+1)).length=k+1:=by simp;omega
   have hs1:fS (nV v) (p.take (k+1))=fS (nV v) (p.take k)+nV v p[k]:=by rw [List.take_succ_eq_append_getElem hk1,EK]
   have hs2:fS (pD v) (p.take (k+1))=fS (pD v) (p.take k)+pD v p[k]:=by rw [List.take_succ_eq_append_getElem hk1,EK]
   obtain ⟨r,hr⟩:∃ r:Nat,p[k]=r:=⟨p[k].toNat,by have:=hp _ (List.getElem_mem hk1);omega⟩
   have hrb:=hp _ (List.getElem_mem hk1)
   rw [hr] at hrb
   have hr1:r<v.rails.length:=by omega
   have hra:bS v (r:Int)=v.rails[r]:=by simp [bS,hr1]
   rw [hr,nV,hra] at hs1
   rw [hr,pD,hra] at hs2
   obtain ⟨z,hz⟩:∃ z,v.rails[r]=z:=⟨_,rfl⟩
   rw [hz] at hs1 hs2
   rw [hlt] at hb
   have w1:IntKind.i64.wrap (fS (nV v) (p.take k)+z.mins.lo)=fS (nV v) (p.take (k+1)):=by rw [hs1];exact dU ⟨by omega,by omega⟩
   have w2:IntKind.i64.wrap (fS (pD v) (p.take k)+z.mins.hi)=fS (pD v) (p.take (k+1)):=by rw [hs2];exact dU ⟨by omega,by omega⟩
   (repeat (first|simp only [↓QA,QB,Nat.reduceLT,reduceIte,Nat.reduceEqDiff,Nat.reduceAdd,Nat.reduceLeDiff,Nat.reduceMul,Nat.reduceBEq,cZ]|refine rd0 rfl ?_))
   refine nL [.cells [.int .i64 0,.int .i64 0]] rfl ?_
   (repeat (first|simp only [↓QA,QB,Nat.reduceLT,reduceIte,Nat.reduceEqDiff,Nat.reduceAdd,Nat.reduceLeDiff,Nat.reduceMul,Nat.reduceBEq,cZ,hk1,hr,hr1,hz,w1,w2]|refine rd0 rfl ?_))
   ((first|refine aC (jU (fS (nV v) (p.take (k+1))) (fS (pD v) (p.take (k+1)))) rfl dd ?_|refine aD (jU (fS (nV v) (p.take (k+1))) (fS (pD v) (p.take (k+1)))) rfl dd ?_);(repeat (first|simp only [↓QA,QB,Nat.reduceLT,reduceIte,Nat.reduceEqDiff,Nat.reduceAdd,Nat.reduceLeDiff,Nat.reduceMul,Nat.reduceBEq,cZ,hk1,hr,hr1,hz,hw]|refine rd0 rfl ?_)))
   refine ⟨k+1,by omega,by omega,?_⟩
   try simp only [aE,QE,Nat.reduceLT,reduceIte,Nat.reduceEqDiff,Nat.reduceAdd,Nat.reduceLeDiff,Nat.reduceMul,Nat.reduceBEq,cZ,hw]
   try simp [aL,okVs,okV]
  ·have hk1:k=p.length:=by
    have:¬k<p.length:=by simpa using hd
    omega
   subst hk1
   rw [List.take_length]
   (repeat (first|simp only [↓QA,QB,Nat.reduceLT,reduceIte,Nat.reduceEqDiff,Nat.reduceAdd,Nat.reduceLeDiff,Nat.reduceMul,Nat.reduceBEq,cZ]|refine rd0 rfl ?_))
theorem Y0 (v:Net) (n:Int):clrs [.agg [.int .i64 v.stations,.lit (v.rails.map cF) false none,.lit (v.trams.map aZ) false none,.lit [] true none],.int .i64 n]=[bI (dS v []),.int .i64 n]:=by
 simp [clrs,clr,bI,aB,dS,(bL jM v.rails).2,(bL iX v.trams).2]
theorem U7 (v:Net) (p:List Int):clrs [.agg [.int .i64 v.stations,.lit (v.rails.map cF) false none,.lit (v.trams.map aZ) false none,.lit [] true none],.lit (p.map (.int .i64)) false none]=[bI (dS v []),ints p]:=by
 simp [clrs,clr,bI,aB,dS,ints,(bL jM v.rails).2,(bL iX v.trams).2]
 exact (bL (dC .i64) p).2
theorem N6 (v:Net):okV 0 (.agg [.int .i64 v.stations,.lit (v.rails.map cF) false none,.lit (v.trams.map aZ) false none,.lit [] true none]) :=
 ⟨trivial,(fJ jM v.rails).1,(fJ iX v.trams).1,by simp [okV,okVs],trivial⟩
set_option maxHeartbeats 2000000 in
theorem HA (v:Net) (hf:Fits v):dR T 13 [bI v] (.bool true):=by
 refine bE (af:=a13) rfl (by simp [a13]) dd ?_
 cases hs:jH v
 ·have e1:=OW (t:=0) (.inl hs)
  have hE:=NL (t:=0) (.inl hs)
  obtain ⟨E,hEe⟩:∃ E,hJ v 0=E:=⟨_,rfl⟩
  rw [hEe] at hE e1
  have g:(E==0)=false:=by simpa using hE
  (repeat (first|simp only [↓QA,QB,Nat.reduceLT,reduceIte,Nat.reduceEqDiff,Nat.reduceAdd,Nat.reduceLeDiff,Nat.reduceMul,Nat.reduceBEq,cZ,a13]|refine rd0 rfl ?_))
  ((first|refine aC (fP v hf) rfl dd ?_|refine aD (fP v hf) rfl dd ?_);(repeat (first|simp only [↓QA,QB,Nat.reduceLT,reduceIte,Nat.reduceEqDiff,Nat.reduceAdd,Nat.reduceLeDiff,Nat.reduceMul,Nat.reduceBEq,cZ,hs]|refine rd0 rfl ?_)))
  ((first|refine aC (dJ v hf 0) rfl dd ?_|refine aD (dJ v hf 0) rfl dd ?_);(repeat (first|simp only [↓QA,QB,Nat.reduceLT,reduceIte,Nat.reduceEqDiff,Nat.reduceAdd,Nat.reduceLeDiff,Nat.reduceMul,Nat.reduceBEq,cZ,e1,kA,g]|refine rd0 rfl ?_)))
  refine aC fH rfl bP ?_
  (repeat (first|simp only [↓QA,QB,Nat.reduceLT,reduceIte,Nat.reduceEqDiff,Nat.reduceAdd,Nat.reduceLeDiff,Nat.reduceMul,Nat.reduceBEq,cZ]|refine rd0 rfl ?_))
 ·obtain ⟨hc,hne⟩:=kS.1 hs
  have hv:=eB hc
  have hnt:=hv.ntr
  have hct:=fun t ht=>nD (v:=v) hs (t:=t) ht
  have okz:((0:Int)==0)=true:=rfl
  (repeat (first|simp only [↓QA,QB,Nat.reduceLT,reduceIte,Nat.reduceEqDiff,Nat.reduceAdd,Nat.reduceLeDiff,Nat.reduceMul,Nat.reduceBEq,cZ,a13]|refine rd0 rfl ?_))
  ((first|refine aC (fP v hf) rfl dd ?_|refine aD (fP v hf) rfl dd ?_);(repeat (first|simp only [↓QA,QB,Nat.reduceLT,reduceIte,Nat.reduceEqDiff,Nat.reduceAdd,Nat.reduceLeDiff,Nat.reduceMul,Nat.reduceBEq,cZ,hs]|refine rd0 rfl ?_)))
  refine bY (S:=Nat) 0 (fun k=>k≤v.trams.length) (fun k=>v.trams.length-k)
   (fun k=>[(1,.ptr 0 0),(6,.int .i64 k)]) (fun _=>[.cells (aB v)]) (Nat.zero_le _) (by simp [aB,ints]) ?_ fun k hk=>?_
  ·try simp only [aE,QE,Nat.reduceLT,reduceIte,Nat.reduceEqDiff,Nat.reduceAdd,Nat.reduceLeDiff,Nat.reduceMul,Nat.reduceBEq,cZ]
   try simp
  ·(repeat (first|simp only [↓QA,QB,Nat.reduceLT,reduceIte,Nat.reduceEqDiff,Nat.reduceAdd,Nat.reduceLeDiff,Nat.reduceMul,Nat.reduceBEq,cZ,aBX]|refine rd0 rfl ?_))
   refine aG (fun hd=>?_) fun hd=>?_
   ·have hk1:k<v.trams.length:=by simpa using hd
    have hw:=bX hk1 (by omega)
    have h1:=hct k hk1
    have hto:=pU hv hk1
    have hlo:(bR (dY v (aJ v []) k)).2≠2→v.trams[k].leaves+fS (nV v) v.trams[k].path≤(bR (dY v (aJ v []) k)).1.lo:=fun q=>by
     have hAne:dY v (aJ v []) k≠[]:=by simpa [dY] using hne
     have hr:dF (dY v (aJ v []) k)≠[]:=fun e=>q ((oR hAne).2 e)
     obtain ⟨a1,a2⟩:=gX.1 (vX hr).1
     obtain ⟨s,hs,he⟩:=List.mem_map.1 a1
     have:=CD hv (List.mem_filter.1 hs).1 hk1 (by rw [he];exact a2)
     rw [he] at this
     exact this
    have hsm:=RZ v hv v.trams[k].path hto.len.2 hto.path
    have hsb:=AD hv hto.path
    have hpl:=hto.len.2
    have hlv:=hto.leaves
    obtain ⟨⟨SP,HW⟩,hSH⟩:∃ q,bR (dY v (aJ v []) k)=q:=⟨_,rfl⟩
    rw [hSH] at h1 hlo
    simp only at h1 hlo
    obtain ⟨z,hz⟩:∃ z,v.trams[k]=z:=⟨_,rfl⟩
    rw [hz] at hlo hsm hsb hpl hlv
    obtain ⟨A,hA⟩:∃ A,fS (nV v) z.path=A:=⟨_,rfl⟩
    obtain ⟨B,hB⟩:∃ B,fS (pD v) z.path=B:=⟨_,rfl⟩
    rw [hA] at hlo hsb
    rw [hA,hB] at hsm
    have hwa:IntKind.i64.wrap (z.leaves+A)=z.leaves+A:=dU ⟨by omega,by omega⟩
    (repeat (first|simp only [↓QA,QB,Nat.reduceLT,reduceIte,Nat.reduceEqDiff,Nat.reduceAdd,Nat.reduceLeDiff,Nat.reduceMul,Nat.reduceBEq,cZ]|refine rd0 rfl ?_))
    ((first|refine aC (dJ v hf k) rfl dd ?_|refine aD (dJ v hf k) rfl dd ?_);(repeat (first|simp only [↓QA,QB,Nat.reduceLT,reduceIte,Nat.reduceEqDiff,Nat.reduceAdd,Nat.reduceLeDiff,Nat.reduceMul,Nat.reduceBEq,cZ,h1,kA]|refine rd0 rfl ?_)))
    cases c1:(HW==2)
    ·have d1:decide (SP.lo<z.leaves+A)=false:=by
      have:=hlo (by simpa using c1)
      simpa using this
     (repeat (first|simp only [↓QA,QB,Nat.reduceLT,reduceIte,Nat.reduceEqDiff,Nat.reduceAdd,Nat.reduceLeDiff,Nat.reduceMul,Nat.reduceBEq,cZ,okz,c1,hk1,hz]|refine rd0 rfl ?_))
     ((first|refine aC (hsm) rfl dd ?_|refine aD (hsm) rfl dd ?_);(repeat (first|simp only [↓QA,QB,Nat.reduceLT,reduceIte,Nat.reduceEqDiff,Nat.reduceAdd,Nat.reduceLeDiff,Nat.reduceMul,Nat.reduceBEq,cZ,okz,c1,hk1,hz,hwa,d1]|refine rd0 rfl ?_)))
     refine ⟨k+1,by omega,by omega,?_⟩
     try simp only [aE,QE,Nat.reduceLT,reduceIte,Nat.reduceEqDiff,Nat.reduceAdd,Nat.reduceLeDiff,Nat.reduceMul,Nat.reduceBEq,cZ,hw]
     try simp [aL]
    ·(repeat (first|simp only [↓QA,QB,Nat.reduceLT,reduceIte,Nat.reduceEqDiff,Nat.reduceAdd,Nat.reduceLeDiff,Nat.reduceMul,Nat.reduceBEq,cZ,okz,c1,hk1,hz]|refine rd0 rfl ?_))
     refine ⟨k+1,by omega,by omega,?_⟩
     try simp only [aE,QE,Nat.reduceLT,reduceIte,Nat.reduceEqDiff,Nat.reduceAdd,Nat.reduceLeDiff,Nat.reduceMul,Nat.reduceBEq,cZ,hw]
     try simp [aL]
   ·by_cases h0:v.trams.length=0
    ·have g0:((v.trams.length:Int)==0)=true:=by rw [h0];rfl
     (repeat (first|simp only [↓QA,QB,Nat.reduceLT,reduceIte,Nat.reduceEqDiff,Nat.reduceAdd,Nat.reduceLeDiff,Nat.reduceMul,Nat.reduceBEq,cZ,g0]|refine rd0 rfl ?_))
     refine aC fH rfl bP ?_
     (repeat (first|simp only [↓QA,QB,Nat.reduceLT,reduceIte,Nat.reduceEqDiff,Nat.reduceAdd,Nat.reduceLeDiff,Nat.reduceMul,Nat.reduceBEq,cZ]|refine rd0 rfl ?_))
    ·have g0:((v.trams.length:Int)==0)=false:=by rw [beq_eq_false_iff_ne];omega
     have h00:0<v.trams.length:=by omega
     have hvw:Vd (dS v []):=JM hv (by simp) (by simp)
     have hfw:Fits (dS v []):=⟨hf.rails,hf.trams,by simp [dS],hf.names,hf.paths⟩
     have hsw:=yN hvw rfl
     have h1:=nD (v:=dS v []) hsw (t:=0) h00
     rw [uT (v:=dS v []) rfl] at h1
     have h2:=KP hvw h00
     have hto:=pU hv h00
     have hsm:=RZ (dS v []) hvw v.trams[0].path hto.len.2 hto.path
     have hsb:=AD hv hto.path
     have hpl:=hto.len.2
     have hlv:=hto.leaves
     have htw:(dS v []).trams[0]=v.trams[0]:=rfl
     have hlw:nV (dS v [])=nV v:=rfl
     have hhw:pD (dS v [])=pD v:=rfl
     simp only [htw,hlw,hhw] at h2 hsm
     obtain ⟨⟨SP,HW⟩,hSH⟩:∃ q,bR (dY (dS v []) (bD (dS v [])) 0)=q:=⟨_,rfl⟩
     rw [hSH] at h1 h2
     simp only at h1 h2
     obtain ⟨z,hz⟩:∃ z,v.trams[0]=z:=⟨_,rfl⟩
     rw [hz] at h2 hsm hsb hpl hlv
     obtain ⟨A,hA⟩:∃ A,fS (nV v) z.path=A:=⟨_,rfl⟩
     obtain ⟨B,hB⟩:∃ B,fS (pD v) z.path=B:=⟨_,rfl⟩
     rw [hA,hB] at hsm hsb h2
     have hwa:IntKind.i64.wrap (z.leaves+A)=z.leaves+A:=dU ⟨by omega,by omega⟩
     have hwb:IntKind.i64.wrap (z.leaves+B)=z.leaves+B:=dU ⟨by omega,by omega⟩
     have i0:(0:Int)≤0∧(0:Int)<((v.trams.length:Nat):Int):=⟨by omega,by omega⟩
     have t0:Int.toNat 0=0:=rfl
     (repeat (first|simp only [↓QA,QB,Nat.reduceLT,reduceIte,Nat.reduceEqDiff,Nat.reduceAdd,Nat.reduceLeDiff,Nat.reduceMul,Nat.reduceBEq,cZ,g0]|refine rd0 rfl ?_))
     refine nL [.cells [.int .i64 0,.int .i64 0]] rfl ?_
     (repeat (first|simp only [↓QA,QB,Nat.reduceLT,reduceIte,Nat.reduceEqDiff,Nat.reduceAdd,Nat.reduceLeDiff,Nat.reduceMul,Nat.reduceBEq,cZ,MR,Int.le_refl,t0,h00,hz]|refine rd0 rfl ?_))
     refine fT hsm (U7 v _) ⟨N6 v,(jP z.path).1,trivial⟩ ?_
     (repeat (first|simp only [↓QA,QB,Nat.reduceLT,reduceIte,Nat.reduceEqDiff,Nat.reduceAdd,Nat.reduceLeDiff,Nat.reduceMul,Nat.reduceBEq,cZ,MR,Int.le_refl,t0,h00,hz]|refine rd0 rfl ?_))
     refine eO (dJ (dS v []) hfw 0) (Y0 v 0) ⟨N6 v,trivial,trivial⟩ ?_
     have h1':kP (dS v []) 0=(SP,HW,0):=h1
     (repeat (first|simp only [↓QA,QB,Nat.reduceLT,reduceIte,Nat.reduceEqDiff,Nat.reduceAdd,Nat.reduceLeDiff,Nat.reduceMul,Nat.reduceBEq,cZ,h1',kA]|refine rd0 rfl ?_))
     cases c1:(HW==2)
     ·have e2:=h2 (by simpa using c1)
      (repeat (first|simp only [↓QA,QB,Nat.reduceLT,reduceIte,Nat.reduceEqDiff,Nat.reduceAdd,Nat.reduceLeDiff,Nat.reduceMul,Nat.reduceBEq,cZ,okz,c1,hwa,hwb]|refine rd0 rfl ?_))
      ((first|refine aC (jU (z.leaves+A) (z.leaves+B)) rfl dd ?_|refine aD (jU (z.leaves+A) (z.leaves+B)) rfl dd ?_);(repeat (first|simp only [↓QA,QB,Nat.reduceLT,reduceIte,Nat.reduceEqDiff,Nat.reduceAdd,Nat.reduceLeDiff,Nat.reduceMul,Nat.reduceBEq,cZ,okz,c1,hwa,hwb,e2]|refine rd0 rfl ?_)))
      refine aD fH rfl bP ?_
      (repeat (first|simp only [↓QA,QB,Nat.reduceLT,reduceIte,Nat.reduceEqDiff,Nat.reduceAdd,Nat.reduceLeDiff,Nat.reduceMul,Nat.reduceBEq,cZ,okz,c1,hwa,hwb,e2]|refine rd0 rfl ?_))
     ·(repeat (first|simp only [↓QA,QB,Nat.reduceLT,reduceIte,Nat.reduceEqDiff,Nat.reduceAdd,Nat.reduceLeDiff,Nat.reduceMul,Nat.reduceBEq,cZ,okz,c1,hwa,hwb]|refine rd0 rfl ?_))
      refine aD fH rfl bP ?_
      (repeat (first|simp only [↓QA,QB,Nat.reduceLT,reduceIte,Nat.reduceEqDiff,Nat.reduceAdd,Nat.reduceLeDiff,Nat.reduceMul,Nat.reduceBEq,cZ,okz,c1,hwa,hwb]|refine rd0 rfl ?_))
end Go.Am.Room
