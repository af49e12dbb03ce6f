/- A part of the proof of TramMore: an abstract machine, or what functions come to on it. -/
import Derived.Test.YtnjlkiflililkaaOutQ6
set_option linter.unusedVariables false
set_option linter.unusedSimpArgs false
set_option linter.defProp false
namespace Go.Am
variable {T:FuncId→Option AFunc}
theorem A1 {f:FuncId} {args:List AV} {v:AV} {af:AFunc} (hf:T f=some af) (hn:args.length≤af.ntmps) (hk:n8 args) (h:Run T (.code af.body (gP 0 args) []) fun o=>PZ af.results v o.j o.env o.σ):dR T f args v:=by
 intro σ
 refine .frame hk.1 (.inl rfl) (R:=fun o=>o.v=v∧o.σ=[]) (.call hf hn h fun o ho=>?_) fun o ho=>⟨ho.2,ho.1,rfl⟩
 obtain ⟨h1,v0,h2,h3⟩:=ho
 refine ⟨h1,v0,h2,?_⟩
 unfold cQ at h3
 cases hs:snap o.σ 0 20 v0 with
 |none=>rw [hs] at h3;cases h3
 |some v1 =>
  rw [hs] at h3
  simp at h3
  exact .inr ⟨20,v1,v,hs,.inr h3.symm,fun i hi=>absurd hi (by simp),by simp,rfl,by simp⟩
theorem NP {a b:ACode} {e:Env} {σ:St} {Q:Out→Prop} (R:Env→St→Prop) (h:wp T a e σ fun j e' σ'=>j=none∧R e' σ') (h2:∀ e' σ',R e' σ'→Run T (.code b e' σ') Q):Run T (.code (.seq a b) e σ) Q :=
 .seq (iL h fun o ho=>ho) (fun o ho _=>h2 _ _ ho.2) fun o ho hj=>absurd ho.1 hj
theorem B5 {a:ACode} {e:Env} {σ:St} {K:KJ} (h:wp T a e σ K):Run T (.code a e σ) fun o=>K o.j o.env o.σ:=iL h fun o ho=>ho
theorem MT {a b c:ACode} {e:Env} {σ:St} {Q:Out→Prop} (R S:Env→St→Prop) (h:wp T (.seq a b) e σ fun j e' σ'=>j=none∧R e' σ')
  (h2:∀ e' σ',R e' σ'→∃ env1 σ1 env2 σ2,xW σ e' σ' env1 σ1∧((env2=env1∧σ2=σ1)∨OL σ.length env1 σ1 env2 σ2)∧S env2 σ2)
  (h3:∀ e σ,S e σ→Run T (.code c e σ) Q):Run T (.code (.seq a (.seq b c)) e σ) Q:=by
 refine Run.chain (a0:=a) (az:=[b]) (c:=c) (R:=fun o=>o.j=none∧R o.env o.σ) (S:=S) ?_ (fun o ho hj=>absurd ho.1 hj) (fun o ho _=>h2 _ _ ho.2) h3
 refine .chainCons (iL (show wp T a e σ _ from by simpa only [wp] using h) fun o ho=>ho) (fun o ho hj=>?_) fun o ho hj=>?_
 ·rw [hj] at ho
  simp only [pS] at ho
  exact .chainCons (iL ho fun o ho=>ho) (fun o ho _=>.chainNil ⟨rfl,ho.2⟩) fun o ho hj=>absurd ho.1 hj
 ·cases hq:o.j with
  |none=>exact absurd hq hj
  |some q=>rw [hq] at ho;simp only [pS] at ho;exact absurd ho.1 (by simp)
end Go.Am
namespace Go.Am.Room
def u5 (sz:Nat) (σ:St) (xs:List AV):AV×St:=if xs.length=0 then (.lit [] true none,σ) else (.lit xs false (some σ.length),σ++[.tok sz xs.length true])
theorem OQ {sz b:Nat} {σ:St} {xs:List AV} {f:Bool} {tk:Option Nat} (h:I0q sz b [] xs):dD sz b σ (.lit [] true none) (.lit xs f tk)=some ((u5 sz σ xs).1,(u5 sz σ xs).2):=by
 by_cases h0:xs.length=0
 ·have:xs=[]:=List.length_eq_zero_iff.1 h0
  subst this
  rw [HE];simp [u5]
 ·rw [rD h h0];simp [u5,h0]
theorem D1 {sz b:Nat} {σ:St} {xs ys:List AV} {f:Bool} {tk:Option Nat} (h:I0q sz b xs ys) (hy:ys.length≠0):dD sz b (u5 sz σ xs).2 (u5 sz σ xs).1 (.lit ys f tk)=some (.lit (xs++ys) false (some σ.length),σ++[.tok sz (xs.length+ys.length) true]):=by
 by_cases h0:xs.length=0
 ·have:xs=[]:=List.length_eq_zero_iff.1 h0
  subst this
  simp only [u5,List.length_nil,if_true]
  rw [rD h hy]
  simp
 ·simp only [u5,h0,if_false]
  rw [uG (ex:=true) h hy (by simp)]
  simp
end Go.Am.Room
set_option maxRecDepth 4000
namespace Go.Am.Room
def dP:=And.intro @bH (And.intro @aI (And.intro @aW (And.intro @aT (And.intro @aS (And.intro @aR (And.intro @bF (And.intro @bC (And.intro @bA (And.intro @dH (And.intro @d6 (@Nat.not_lt_zero)))))))))))
def eC (s:State):AV:=.agg [.lit (s.closed.map .bool) false none,ints s.mins]
theorem aQ (s:State):eC s = .agg [.lit (s.closed.map .bool) false none,ints s.mins]:=by simp only [eC]
theorem rY (s:State):mD (eC s):=j5 (bJ (fJ uV s.closed) (bJ (jP _) bP))
instance (s:State):Dat (eC s):=⟨rY s⟩
instance (l:List State):Dats (l.map eC):=⟨bL rY l⟩
theorem aY (σ:St) (m d:Nat) (l:List State):dN σ m d (l.map eC)=some (l.map eC):=mH (bL rY l) σ m d
def fG (l:List State):AV:=.lit (l.map eC) false none
theorem dE (l:List State):fG l = .lit (l.map eC) false none:=by simp only [fG]
theorem tQ (σ:St) (m d:Nat) (l:List Bool):dN σ m d (l.map .bool)=some (l.map .bool):=mH (bL uV l) σ m d
theorem vD (l:List Bool):aM 1 (l.map .bool)=true:=rR 1 _ l fun x=>SM _
theorem sM (l:List State):aM 2 (l.map eC)=true:=rR 2 eC l fun x=>by simp [cO,eC,AV.cells,AV.cell,ints]
def S8 (r:Rail) (s:State) (m:Int):List State:=([false,true].filter (u4 r.shut)).map fun c=>⟨s.closed++[c],s.mins++[m]⟩
theorem NT (r:Rail) (s:State):zX r s=(aU r.mins.lo (r.mins.hi+1-r.mins.lo).toNat).flatMap (S8 r s):=rfl
def V4:Nat→List Bool
 |0=>[false,true]
 |1=>[true]
 |_=>[]
def MK (r:Rail) (s:State) (m:Int) (c:Nat):List State:=((V4 c).filter (u4 r.shut)).map fun c=>⟨s.closed++[c],s.mins++[m]⟩
theorem M6 {c:Nat} (h:c<2) {b:Bool} (hb:((c:Int)==1)=b):V4 c=b::V4 (c+1):=by
 have:c=0∨c=1:=by omega
 rcases this with rfl|rfl
 ·have:b=false:=by rw [←hb];rfl
  subst this;rfl
 ·have:b=true:=by rw [←hb];rfl
  subst this;rfl
theorem y2 {rs:List Rail} {k:Nat} (h:k<rs.length):oH rs (k+1)=(oH rs k).flatMap (zX rs[k]):=by
 simp only [oH,List.getElem?_eq_getElem h]
theorem A0 {rs:List Rail} (hr:∀ r∈rs,r.mins.hi≤r.mins.lo+1):∀ k,(oH rs k).length≤4^k
 |0=>by simp [oH]
 |k+1=>by
  have ih:=A0 hr k
  by_cases h:k<rs.length
  ·rw [y2 h,Nat.pow_succ]
   refine Nat.le_trans (AG (zX rs[k]) 4 _ fun s _=>?_) (Nat.mul_le_mul_right 4 ih)
   rw [NT]
   have hm:=hr _ (List.getElem_mem h)
   refine Nat.le_trans (AG (S8 rs[k] s) 2 _ fun m _=>?_) ?_
   ·have:=List.length_filter_le (u4 rs[k].shut) [false,true]
    simpa [S8] using this
   ·rw [lB]
    omega
  ·simp only [oH,List.getElem?_eq_none (Nat.le_of_not_lt h)]
   exact Nat.le_trans ih (Nat.pow_le_pow_right (by omega) (by omega))
theorem C7 (v:Net) (hv:Vd v):dR T 95 [bI v] (fG (bD v)):=by
 refine bE (af:=a95) rfl (by simp [a95]) dd ?_
 have hnr:=hv.nra
 rw [show bD v=oH v.rails v.rails.length from rfl]
 (repeat (first|simp only [↓QA,QB,Nat.reduceLT,reduceIte,Nat.reduceEqDiff,Nat.reduceAdd,Nat.reduceLeDiff,Nat.reduceMul,Nat.reduceBEq,dP,aQ,aY,a95]|refine rd0 rfl ?_))
 refine bY (S:=Nat) 0 (fun n=>n≤v.rails.length) (fun n=>v.rails.length-n) (fun n=>[(1,.ptr 0 0),(3,fG (oH v.rails n)),(4,.int .i64 n)]) (fun _=>[.cells (aB v)]) (Nat.zero_le _) (by simp [aB,ints]) ?_ fun n hn=>?_
 ·try simp only [aE,QE,Nat.reduceLT,reduceIte,Nat.reduceEqDiff,Nat.reduceAdd,Nat.reduceLeDiff,Nat.reduceMul,Nat.reduceBEq,dP,aQ,aY,dE]
  simp [oH,eC,ints,clr,clrs]
 ·(repeat (first|simp only [↓QA,QB,Nat.reduceLT,reduceIte,Nat.reduceEqDiff,Nat.reduceAdd,Nat.reduceLeDiff,Nat.reduceMul,Nat.reduceBEq,dP,aQ,aY,aAY,dE]|refine rd0 rfl ?_))
  refine aG (fun h=>?_) fun h=>?_
  ·have hn1:n<v.rails.length:=by simpa using h
   have hwn:IntKind.i64.wrap ((n:Int)+1)=((n+1:Nat):Int):=bX hn1 (by omega)
   have hwl:∀ j,j≤5→(oH v.rails j).length≤1024:=fun j hj=>Nat.le_trans (A0 (fun r hr=>(hv.ra r hr).mins.2.2.2) j) (Nat.le_trans (Nat.pow_le_pow_right (by omega) hj) (by decide))
   have hsl:=hwl n (by omega)
   have hsl2:=hwl (n+1) (by omega)
   have hin:=tT (rs:=v.rails) n hn
   have hsu:=y2 hn1
   have hra:=hv.ra _ (List.getElem_mem hn1)
   obtain ⟨r,hr⟩:∃ r,v.rails[n]=r:=⟨_,rfl⟩
   rw [hr] at hsu hra
   have hmi:=hra.mins
   rw [hsu] at hsl2
   obtain ⟨W,hW⟩:∃ W,oH v.rails n=W:=⟨_,rfl⟩
   rw [hW] at hsl hsl2 hsu hin
   rw [hW]
   obtain ⟨X,hX⟩:∃ X,W.flatMap (zX r)=X:=⟨_,rfl⟩
   rw [hX] at hsl2 hsu
   (repeat (first|simp only [↓QA,QB,Nat.reduceLT,reduceIte,Nat.reduceEqDiff,Nat.reduceAdd,Nat.reduceLeDiff,Nat.reduceMul,Nat.reduceBEq,dP,aQ,aY,hn1,hr]|refine rd0 rfl ?_))
   refine mM 6 2 [] rfl ?_
   refine bY (S:=Nat×List State×Bool) (0,[],false) (fun a=>a.1≤W.length∧a.2.1++(W.drop a.1).flatMap (zX r)=X) (fun a=>W.length-a.1)
    (fun a=>[(1,.ptr 0 0),(3,fG W),(4,.int .i64 n),(5,.ptr 1 0),(6,.lit (a.2.1.map eC) false (some 2)),(7,.int .i64 a.1)])
    (fun a=>[.cells (aB v),.cells [.int .i64 r.a,.int .i64 r.b,.int .i64 r.mins.lo,.int .i64 r.mins.hi,.int .i64 r.shut],.tok 2 a.2.1.length a.2.2]) ⟨Nat.zero_le _,by simpa using hX⟩ (by simp [aB,ints]) ?_ fun a ha=>?_
   ·try simp only [aE,QE,Nat.reduceLT,reduceIte,Nat.reduceEqDiff,Nat.reduceAdd,Nat.reduceLeDiff,Nat.reduceMul,Nat.reduceBEq,dP,aQ,aY,dE]
    try simp
   ·obtain ⟨k,acc,ex⟩:=a
    obtain ⟨hk,hacc⟩:=ha
    simp only at hk hacc
    (repeat (first|simp only [↓QA,QB,Nat.reduceLT,reduceIte,Nat.reduceEqDiff,Nat.reduceAdd,Nat.reduceLeDiff,Nat.reduceMul,Nat.reduceBEq,dP,aQ,aY,aBG,dE]|refine rd0 rfl ?_))
    refine aG (fun h2=>?_) fun h2=>?_
    ·have hk1:k<W.length:=by simpa using h2
     have hwk:=bX hk1 (by omega)
     obtain ⟨s,hs⟩:∃ s,W[k]=s:=⟨_,rfl⟩
     have hcl:=hin _ (List.getElem_mem hk1)
     rw [hs] at hcl
     obtain ⟨hl1,hl2,_⟩:=hcl
     rw [List.drop_eq_getElem_cons hk1,hs,List.flatMap_cons,NT] at hacc
     obtain ⟨F,hF⟩:∃ F,(W.drop (k+1)).flatMap (zX r)=F:=⟨_,rfl⟩
     rw [hF] at hacc
     (repeat (first|simp only [↓QA,QB,Nat.reduceLT,reduceIte,Nat.reduceEqDiff,Nat.reduceAdd,Nat.reduceLeDiff,Nat.reduceMul,Nat.reduceBEq,dP,aQ,aY]|refine rd0 rfl ?_))
     refine bY (S:=Int×List State×Bool×St) (r.mins.lo,acc,ex,[]) (fun a=>r.mins.lo≤a.1∧a.1≤r.mins.hi+1∧a.2.1++((aU a.1 (r.mins.hi+1-a.1).toNat).flatMap (S8 r s)++F)=X) (fun a=>(r.mins.hi+1-a.1).toNat)
      (fun a=>[(1,.ptr 0 0),(3,fG W),(4,.int .i64 n),(5,.ptr 1 0),(6,.lit (a.2.1.map eC) false (some 2)),(7,.int .i64 k),(8,.int .i64 a.1)])
      (fun a=>.cells (aB v)::.cells [.int .i64 r.a,.int .i64 r.b,.int .i64 r.mins.lo,.int .i64 r.mins.hi,.int .i64 r.shut]::.tok 2 a.2.1.length a.2.2.1::a.2.2.2) ⟨Int.le_refl _,by simp only;omega,hacc⟩ (by simp [aB]) ?_ fun a ha=>?_
     ·try simp only [aE,QE,Nat.reduceLT,reduceIte,Nat.reduceEqDiff,Nat.reduceAdd,Nat.reduceLeDiff,Nat.reduceMul,Nat.reduceBEq,dP,aQ,aY,dE]
      try simp
     ·obtain ⟨m,acc,ex,τ⟩:=a
      obtain ⟨hm0,hm1,hacc⟩:=ha
      simp only at hm0 hm1 hacc
      (repeat (first|simp only [↓QA,QB,Nat.reduceLT,reduceIte,Nat.reduceEqDiff,Nat.reduceAdd,Nat.reduceLeDiff,Nat.reduceMul,Nat.reduceBEq,dP,aQ,aY,aBF,dE]|refine rd0 rfl ?_))
      refine aG (fun h3=>?_) fun h3=>?_
      ·have hm2:m≤r.mins.hi:=by simpa using h3
       have hwm:IntKind.i64.wrap (m+1)=m+1:=dU ⟨by omega,by omega⟩
       rw [FG hm2,List.flatMap_cons,List.append_assoc] at hacc
       obtain ⟨G,hG⟩:∃ G,(aU (m+1) (r.mins.hi+1-(m+1)).toNat).flatMap (S8 r s)++F=G:=⟨_,rfl⟩
       rw [hG] at hacc
       (repeat (first|simp only [↓QA,QB,Nat.reduceLT,reduceIte,Nat.reduceEqDiff,Nat.reduceAdd,Nat.reduceLeDiff,Nat.reduceMul,Nat.reduceBEq,dP,aQ,aY]|refine rd0 rfl ?_))
       refine bY (S:=Nat×List State×Bool) (0,acc,ex) (fun a=>a.1≤2∧a.2.1++(MK r s m a.1++G)=X) (fun a=>2-a.1)
        (fun a=>[(1,.ptr 0 0),(3,fG W),(4,.int .i64 n),(5,.ptr 1 0),(6,.lit (a.2.1.map eC) false (some 2)),(7,.int .i64 k),(8,.int .i64 m),(9,.int .i64 a.1)])
        (fun a=>.cells (aB v)::.cells [.int .i64 r.a,.int .i64 r.b,.int .i64 r.mins.lo,.int .i64 r.mins.hi,.int .i64 r.shut]::.tok 2 a.2.1.length a.2.2::τ) ⟨by simp,hacc⟩ (by simp [aB]) ?_ fun a ha=>?_
       ·try simp only [aE,QE,Nat.reduceLT,reduceIte,Nat.reduceEqDiff,Nat.reduceAdd,Nat.reduceLeDiff,Nat.reduceMul,Nat.reduceBEq,dP,aQ,aY,dE]
        try simp
       ·obtain ⟨c,acc,ex⟩:=a
        obtain ⟨hc0,hacc⟩:=ha
        simp only at hc0 hacc
        (repeat (first|simp only [↓QA,QB,Nat.reduceLT,reduceIte,Nat.reduceEqDiff,Nat.reduceAdd,Nat.reduceLeDiff,Nat.reduceMul,Nat.reduceBEq,dP,aQ,aY,aCD,dE]|refine rd0 rfl ?_))
        refine aG (fun h4=>?_) fun h4=>?_
        ·have hc2:c<2:=by
          have h0:(c:Int)<2:=by simpa using h4
          omega
         have hwc:=bX hc2 (by omega)
         obtain ⟨b,hb⟩:∃ b,((c:Int)==1)=b:=⟨_,rfl⟩
         rw [MK,M6 hc2 hb,List.filter_cons] at hacc
         have hcan:u4 r.shut b = !(b&&(r.shut==0)||!b&&(r.shut==1)):=by
          have e0:(r.shut==0)=decide (r.shut=0):=by rw [Bool.eq_iff_iff];simp
          have e1:(r.shut==1)=decide (r.shut=1):=by rw [Bool.eq_iff_iff];simp
          rw [u4,e0,e1]
         have hal:acc.length≤1024:=by
          have:=congrArg List.length hacc
          simp only [List.length_append] at this
          omega
         have b0:∀ (σ:St),dD 1 1 σ (.lit [] true none) (.lit (s.closed.map .bool) false none)=some ((u5 1 σ (s.closed.map .bool)).1,(u5 1 σ (s.closed.map .bool)).2):=fun σ=>OQ ⟨rfl,vD _,by simp [room];omega,by simp [room];omega⟩
         have b1:∀ (σ:St),dD 1 1 (u5 1 σ (s.closed.map .bool)).2 (u5 1 σ (s.closed.map .bool)).1 (.lit [.bool b] true none)=some (.lit (s.closed.map .bool++[.bool b]) false (some σ.length),σ++[.tok 1 (s.closed.length+1) true]):=fun σ=>by
          rw [D1 ⟨vD _,by simp [aM,AV.cells,AV.cell],by simp [room];omega,by simp [room];omega⟩ (by simp)]
          simp
         have a0:∀ (σ:St),dD 1 8 σ (.lit [] true none) (.lit (s.mins.map (.int .i64)) false none)=some ((u5 1 σ (s.mins.map (.int .i64))).1,(u5 1 σ (s.mins.map (.int .i64))).2):=fun σ=>OQ ⟨rfl,lP _,by simp [room];omega,by simp [room];omega⟩
         have a1:∀ (σ:St),dD 1 8 (u5 1 σ (s.mins.map (.int .i64))).2 (u5 1 σ (s.mins.map (.int .i64))).1 (.lit [.int .i64 m] true none)=some (.lit (s.mins.map (.int .i64)++[.int .i64 m]) false (some σ.length),σ++[.tok 1 (s.mins.length+1) true]):=fun σ=>by
          rw [D1 ⟨lP _,by simp [aM,AV.cells,AV.cell],by simp [room];omega,by simp [room];omega⟩ (by simp)]
          simp
         have a2:=fun (b0 b1:ABlk) (τ:St) (t u:Nat)=>lC (σ:=b0::b1::.tok 2 acc.length ex::τ) (t:=2) (ex:=ex) (sz:=2) (b:=48) (xs:=acc.map eC) (ys:=[.agg [.lit (s.closed.map .bool++[.bool b]) false (some t),.lit (s.mins.map (.int .i64)++[.int .i64 m]) false (some u)]]) (f:=true) (tk:=none) ⟨sM acc,by simp [aM,cO,AV.cells,AV.cell],by simp [room];omega,by simp [room];omega⟩ (by simp) acc.length (by simp) rfl
         have yes:u4 r.shut b=true→(acc++[(⟨s.closed++[b],s.mins++[m]⟩:State)])++(MK r s m (c+1)++G)=X:=fun q=>by
          rw [q] at hacc
          rw [←hacc];simp [MK]
         have no:u4 r.shut b=false→acc++(MK r s m (c+1)++G)=X:=fun q=>by
          rw [q] at hacc
          rw [←hacc];simp [MK]
         (repeat (first|simp only [↓QA,QB,Nat.reduceLT,reduceIte,Nat.reduceEqDiff,Nat.reduceAdd,Nat.reduceLeDiff,Nat.reduceMul,Nat.reduceBEq,dP,aQ,aY,hb]|refine rd0 rfl ?_))
         cases b
         ·cases q1:(r.shut==1)
          ·have hy:=yes (by rw [hcan,q1];simp)
           (repeat (first|simp only [↓QA,QB,Nat.reduceLT,reduceIte,Nat.reduceEqDiff,Nat.reduceAdd,Nat.reduceLeDiff,Nat.reduceMul,Nat.reduceBEq,dP,aQ,aY,q1]|refine rd0 rfl ?_))
           refine nL [.cells [.lit [] true none,.lit [] true none]] rfl ?_
           (repeat (first|simp only [↓QA,QB,Nat.reduceLT,reduceIte,Nat.reduceEqDiff,Nat.reduceAdd,Nat.reduceLeDiff,Nat.reduceMul,Nat.reduceBEq,dP,aQ,aY,hk1,hs,ints,b0,b1,a0,a1,a2]|refine rd0 rfl ?_))
           refine ⟨(c+1,acc++[⟨s.closed++[false],s.mins++[m]⟩],true),⟨by simp only;omega,hy⟩,by simp only;omega,?_⟩
           try simp only [aE,QE,Nat.reduceLT,reduceIte,Nat.reduceEqDiff,Nat.reduceAdd,Nat.reduceLeDiff,Nat.reduceMul,Nat.reduceBEq,dP,aQ,aY,hwc,dE,ints,tQ,List.map_append,List.map_cons,List.map_nil]
           try simp [aL]
          ·have hy:=no (by rw [hcan,q1];simp)
           (repeat (first|simp only [↓QA,QB,Nat.reduceLT,reduceIte,Nat.reduceEqDiff,Nat.reduceAdd,Nat.reduceLeDiff,Nat.reduceMul,Nat.reduceBEq,dP,aQ,aY,q1]|refine rd0 rfl ?_))
           refine ⟨(c+1,acc,ex),⟨by simp only;omega,hy⟩,by simp only;omega,?_⟩
           try simp only [aE,QE,Nat.reduceLT,reduceIte,Nat.reduceEqDiff,Nat.reduceAdd,Nat.reduceLeDiff,Nat.reduceMul,Nat.reduceBEq,dP,aQ,aY,hwc,dE,ints]
           try simp [aL]
         ·cases q1:(r.shut==0)
          ·have hy:=yes (by rw [hcan,q1];simp)
           (repeat (first|simp only [↓QA,QB,Nat.reduceLT,reduceIte,Nat.reduceEqDiff,Nat.reduceAdd,Nat.reduceLeDiff,Nat.reduceMul,Nat.reduceBEq,dP,aQ,aY,q1]|refine rd0 rfl ?_))
           refine nL [.cells [.lit [] true none,.lit [] true none]] rfl ?_
           (repeat (first|simp only [↓QA,QB,Nat.reduceLT,reduceIte,Nat.reduceEqDiff,Nat.reduceAdd,Nat.reduceLeDiff,Nat.reduceMul,Nat.reduceBEq,dP,aQ,aY,hk1,hs,ints,b0,b1,a0,a1,a2]|refine rd0 rfl ?_))
           refine ⟨(c+1,acc++[⟨s.closed++[true],s.mins++[m]⟩],true),⟨by simp only;omega,hy⟩,by simp only;omega,?_⟩
           try simp only [aE,QE,Nat.reduceLT,reduceIte,Nat.reduceEqDiff,Nat.reduceAdd,Nat.reduceLeDiff,Nat.reduceMul,Nat.reduceBEq,dP,aQ,aY,hwc,dE,ints,tQ,List.map_append,List.map_cons,List.map_nil]
           try simp [aL]
          ·have hy:=no (by rw [hcan,q1];simp)
           (repeat (first|simp only [↓QA,QB,Nat.reduceLT,reduceIte,Nat.reduceEqDiff,Nat.reduceAdd,Nat.reduceLeDiff,Nat.reduceMul,Nat.reduceBEq,dP,aQ,aY,q1]|refine rd0 rfl ?_))
           refine ⟨(c+1,acc,ex),⟨by simp only;omega,hy⟩,by simp only;omega,?_⟩
           try simp only [aE,QE,Nat.reduceLT,reduceIte,Nat.reduceEqDiff,Nat.reduceAdd,Nat.reduceLeDiff,Nat.reduceMul,Nat.reduceBEq,dP,aQ,aY,hwc,dE,ints]
           try simp [aL]
        ·have hc2:c=2:=by
          have h0:¬(c:Int)<2:=by simpa using h4
          omega
         subst hc2
         have he:MK r s m 2=[]:=rfl
         rw [he,List.nil_append,←hG] at hacc
         (repeat (first|simp only [↓QA,QB,Nat.reduceLT,reduceIte,Nat.reduceEqDiff,Nat.reduceAdd,Nat.reduceLeDiff,Nat.reduceMul,Nat.reduceBEq,dP,aQ,aY,hwm]|refine rd0 rfl ?_))
         refine ⟨(m+1,acc,ex,τ),⟨by simp only;omega,by simp only;omega,hacc⟩,by simp only;omega,?_⟩
         try simp only [aE,QE,Nat.reduceLT,reduceIte,Nat.reduceEqDiff,Nat.reduceAdd,Nat.reduceLeDiff,Nat.reduceMul,Nat.reduceBEq,dP,aQ,aY,hwm,dE,ints]
         try simp [aL]
      ·have hm2:¬m≤r.mins.hi:=by simpa using h3
       rw [HK hm2] at hacc
       simp only [List.flatMap_nil,List.nil_append] at hacc
       (repeat (first|simp only [↓QA,QB,Nat.reduceLT,reduceIte,Nat.reduceEqDiff,Nat.reduceAdd,Nat.reduceLeDiff,Nat.reduceMul,Nat.reduceBEq,dP,aQ,aY,hwk]|refine rd0 rfl ?_))
       refine ⟨(k+1,acc,ex),⟨by simp only;omega,by rw [hF];exact hacc⟩,by simp only;omega,?_⟩
       try simp only [aE,QE,Nat.reduceLT,reduceIte,Nat.reduceEqDiff,Nat.reduceAdd,Nat.reduceLeDiff,Nat.reduceMul,Nat.reduceBEq,dP,aQ,aY,hwk,dE,ints]
       try simp [aL]
    ·have hk1:k=W.length:=by simp at h2;omega
     rw [hk1,List.drop_length] at hacc
     simp only [List.flatMap_nil,List.append_nil] at hacc
     subst hacc
     (repeat (first|simp only [↓QA,QB,Nat.reduceLT,reduceIte,Nat.reduceEqDiff,Nat.reduceAdd,Nat.reduceLeDiff,Nat.reduceMul,Nat.reduceBEq,dP,aQ,aY,hwn]|refine rd0 rfl ?_))
     refine ⟨n+1,by omega,by omega,?_⟩
     try simp only [aE,QE,Nat.reduceLT,reduceIte,Nat.reduceEqDiff,Nat.reduceAdd,Nat.reduceLeDiff,Nat.reduceMul,Nat.reduceBEq,dP,aQ,aY,hwn,hsu,dE,ints]
     try simp [aL]
  ·have hn1:n=v.rails.length:=by simp at h;omega
   subst hn1
   (repeat (first|simp only [↓QA,QB,Nat.reduceLT,reduceIte,Nat.reduceEqDiff,Nat.reduceAdd,Nat.reduceLeDiff,Nat.reduceMul,Nat.reduceBEq,dP,aQ,aY,dE]|refine rd0 rfl ?_))
   try try simp only [QS,QC,Nat.reduceLT,reduceIte,Nat.reduceEqDiff,Nat.reduceAdd,Nat.reduceLeDiff,Nat.reduceMul,Nat.reduceBEq,dP,aQ,aY]
end Go.Am.Room
set_option maxRecDepth 4000
namespace Go.Am.Room
def eX:=And.intro @bH (And.intro @aI (And.intro @aW (And.intro @aT (And.intro @aS (And.intro @aR (And.intro @bF (And.intro @bC (And.intro @bA (And.intro @dH (And.intro @d6 (And.intro @Nat.not_lt_zero (And.intro @aQ (And.intro @aY (@tQ))))))))))))))
def fU (x:Stay):AV:=.agg [.int .i64 x.tram,.int .i64 x.rail,.int .i64 x.frm,.int .i64 x.til]
theorem bQ (x:Stay):fU x = .agg [.int .i64 x.tram,.int .i64 x.rail,.int .i64 x.frm,.int .i64 x.til]:=by simp only [fU]
theorem yV (x:Stay):mD (fU x):=j5 (bJ (dC _ _) (bJ (dC _ _) (bJ (dC _ _) (bJ (dC _ _) bP))))
instance (x:Stay):Dat (fU x):=⟨yV x⟩
instance (l:List Stay):Dats (l.map fU):=⟨bL yV l⟩
theorem cE (σ:St) (m d:Nat) (l:List Stay):dN σ m d (l.map fU)=some (l.map fU):=mH (bL yV l) σ m d
def FX (l:List Stay):AV:=.lit (l.map fU) false none
theorem LE (l:List Stay):FX l = .lit (l.map fU) false none:=by simp only [FX]
theorem A4 (l:List Stay):aM 4 (l.map fU)=true:=rR 4 fU l fun x=>by simp [cO,fU,AV.cells,AV.cell]
theorem R3 (ss:List Stay) (rail ready m B:Int) (hl:ss.length<9223372036854775808) (hB:∀ x∈ss,x.til≤B) (h0:0≤ready) (hr:ready≤B) (hB2:B≤1000) (hm:0≤m∧m≤20) :
  dR T 96 [.lit (ss.map fU) false none,.int .i64 rail,.int .i64 ready,.int .i64 m] (.int .i64 (g7 ss rail ready m)):=by
 refine bE (af:=a96) rfl (by simp [a96]) dd ?_
 have hfi:=yY (rail:=rail) (m:=m) hB (show B≤ready+1000 by omega)
 obtain ⟨Z,hZ⟩:∃ Z,g7 ss rail ready m=Z:=⟨_,rfl⟩
 rw [hZ] at hfi ⊢
 (repeat (first|simp only [↓QA,QB,Nat.reduceLT,reduceIte,Nat.reduceEqDiff,Nat.reduceAdd,Nat.reduceLeDiff,Nat.reduceMul,Nat.reduceBEq,eX,bQ,cE,a96]|refine rd0 rfl ?_))
 refine bY (S:=Int) ready (fun r=>sH ss rail m ready r) (fun r=>(B-r).toNat)
  (fun r=>[(0,.lit (ss.map fU) false none),(1,.int .i64 rail),(2,.int .i64 r),(3,.int .i64 m)]) (fun _=>[]) (DZ _ _ _ _) rfl ?_ fun r hb=>?_
 ·try simp only [aE,QE,Nat.reduceLT,reduceIte,Nat.reduceEqDiff,Nat.reduceAdd,Nat.reduceLeDiff,Nat.reduceMul,Nat.reduceBEq,eX,bQ,cE]
  try simp
 ·have hrB:=AA hB hb hr
  have hr0:=hb.1
  have hwm:IntKind.i64.wrap (r+m)=r+m:=dU ⟨by omega,by omega⟩
  (repeat (first|simp only [↓QA,QB,Nat.reduceLT,reduceIte,Nat.reduceEqDiff,Nat.reduceAdd,Nat.reduceLeDiff,Nat.reduceMul,Nat.reduceBEq,eX,bQ,cE,aB8]|refine rd0 rfl ?_))
  refine bY (S:=Nat×Int) (0,r) (fun a=>a.1≤ss.length∧Q2 ss rail m ready r a.1 a.2) (fun a=>ss.length-a.1)
   (fun a=>[(0,.lit (ss.map fU) false none),(1,.int .i64 rail),(2,.int .i64 r),(3,.int .i64 m),(9,.int .i64 a.2),(10,.int .i64 a.1)]) (fun _=>[]) ⟨by simp,.inl ⟨rfl,by simp⟩⟩ rfl ?_ fun a ha=>?_
  ·try simp only [aE,QE,Nat.reduceLT,reduceIte,Nat.reduceEqDiff,Nat.reduceAdd,Nat.reduceLeDiff,Nat.reduceMul,Nat.reduceBEq,eX,bQ,cE]
   try simp
  ·obtain ⟨k,n⟩:=a
   obtain ⟨hk,hlk⟩:=ha
   simp only at hk hlk
   (repeat (first|simp only [↓QA,QB,Nat.reduceLT,reduceIte,Nat.reduceEqDiff,Nat.reduceAdd,Nat.reduceLeDiff,Nat.reduceMul,Nat.reduceBEq,eX,bQ,cE,aB3]|refine rd0 rfl ?_))
   refine aG (fun h=>?_) fun h=>?_
   ·have hk1:k<ss.length:=by simpa using h
    have hw:=bX hk1 hl
    obtain ⟨x,hx⟩:∃ x,ss[k]=x:=⟨_,rfl⟩
    have hxm:x∈ss:=by rw [←hx];exact List.getElem_mem hk1
    have hat:=C3 (p:=iN rail r m) hk1
    rw [hx] at hat
    have no:iN rail r m x=false→Q2 ss rail m ready r (k+1) n:=fun q=>by
     rcases hlk with ⟨e,a⟩|e
     ·exact .inl ⟨e,by rw [hat,a,q];rfl⟩
     ·exact .inr e
    have yes:iN rail r m x=true→Q2 ss rail m ready r (k+1) (max n x.til):=fun q=>by
     have q1:=wF q
     have q2:=EZ hb hxm (Int.le_refl r) q (fun y h1 h2=>by omega)
     right
     refine ⟨by omega,?_⟩
     rcases hlk with ⟨e,_⟩|⟨e1,e2⟩
     ·rw [Int.max_eq_right (by omega)];exact q2
     ·by_cases hc:n≤x.til
      ·rw [Int.max_eq_right hc];exact q2
      ·rw [Int.max_eq_left (by omega)];exact e2
    have hcl:iN rail r m x=((x.rail==rail)&&decide (x.frm<r+m)&&decide (r<x.til)):=by
     have:decide (x.rail=rail)=(x.rail==rail):=by rw [Bool.eq_iff_iff];simp
     rw [iN,this]
    (repeat (first|simp only [↓QA,QB,Nat.reduceLT,reduceIte,Nat.reduceEqDiff,Nat.reduceAdd,Nat.reduceLeDiff,Nat.reduceMul,Nat.reduceBEq,eX,bQ,cE,hk1,hx]|refine rd0 rfl ?_))
    cases q1:(x.rail==rail)
    ·have nn:=no (by rw [hcl,q1];simp)
     (repeat (first|simp only [↓QA,QB,Nat.reduceLT,reduceIte,Nat.reduceEqDiff,Nat.reduceAdd,Nat.reduceLeDiff,Nat.reduceMul,Nat.reduceBEq,eX,bQ,cE,q1,hw]|refine rd0 rfl ?_))
     refine ⟨(k+1,n),⟨by simp only;omega,nn⟩,by simp only;omega,?_⟩
     try simp only [aE,QE,Nat.reduceLT,reduceIte,Nat.reduceEqDiff,Nat.reduceAdd,Nat.reduceLeDiff,Nat.reduceMul,Nat.reduceBEq,eX,bQ,cE,hw]
     try simp [aL]
    ·cases q2:decide (x.frm<r+m)
     ·have nn:=no (by rw [hcl,q1,q2];simp)
      (repeat (first|simp only [↓QA,QB,Nat.reduceLT,reduceIte,Nat.reduceEqDiff,Nat.reduceAdd,Nat.reduceLeDiff,Nat.reduceMul,Nat.reduceBEq,eX,bQ,cE,q1,hw,hwm,q2]|refine rd0 rfl ?_))
      refine ⟨(k+1,n),⟨by simp only;omega,nn⟩,by simp only;omega,?_⟩
      try simp only [aE,QE,Nat.reduceLT,reduceIte,Nat.reduceEqDiff,Nat.reduceAdd,Nat.reduceLeDiff,Nat.reduceMul,Nat.reduceBEq,eX,bQ,cE,hw]
      try simp [aL]
     ·cases q3:decide (r<x.til)
      ·have nn:=no (by rw [hcl,q1,q2,q3];simp)
       (repeat (first|simp only [↓QA,QB,Nat.reduceLT,reduceIte,Nat.reduceEqDiff,Nat.reduceAdd,Nat.reduceLeDiff,Nat.reduceMul,Nat.reduceBEq,eX,bQ,cE,q1,hw,hwm,q2,q3]|refine rd0 rfl ?_))
       refine ⟨(k+1,n),⟨by simp only;omega,nn⟩,by simp only;omega,?_⟩
       try simp only [aE,QE,Nat.reduceLT,reduceIte,Nat.reduceEqDiff,Nat.reduceAdd,Nat.reduceLeDiff,Nat.reduceMul,Nat.reduceBEq,eX,bQ,cE,hw]
       try simp [aL]
      ·have nn:=yes (by rw [hcl,q1,q2,q3];simp)
       (repeat (first|simp only [↓QA,QB,Nat.reduceLT,reduceIte,Nat.reduceEqDiff,Nat.reduceAdd,Nat.reduceLeDiff,Nat.reduceMul,Nat.reduceBEq,eX,bQ,cE,q1,hw,hwm,q2,q3]|refine rd0 rfl ?_))
       refine ⟨(k+1,max n x.til),⟨by simp only;omega,nn⟩,by simp only;omega,?_⟩
       try simp only [aE,QE,Nat.reduceLT,reduceIte,Nat.reduceEqDiff,Nat.reduceAdd,Nat.reduceLeDiff,Nat.reduceMul,Nat.reduceBEq,eX,bQ,cE,hw]
       try simp [aL]
   ·have hk1:k=ss.length:=by simp at h;omega
    rw [hk1] at hlk
    rcases hlk with ⟨e,a⟩|⟨e1,e2⟩
    ·rw [List.take_length] at a
     have hz:=E3 hfi (DR hb a)
     subst e
     have g:(n==n)=true:=by simp
     (repeat (first|simp only [↓QA,QB,Nat.reduceLT,reduceIte,Nat.reduceEqDiff,Nat.reduceAdd,Nat.reduceLeDiff,Nat.reduceMul,Nat.reduceBEq,eX,bQ,cE,g,hz]|refine rd0 rfl ?_))
    ·have g:(n==r)=false:=by simp;omega
     have hnB:=AA hB e2 hr
     (repeat (first|simp only [↓QA,QB,Nat.reduceLT,reduceIte,Nat.reduceEqDiff,Nat.reduceAdd,Nat.reduceLeDiff,Nat.reduceMul,Nat.reduceBEq,eX,bQ,cE,g]|refine rd0 rfl ?_))
     refine ⟨n,e2,by omega,?_⟩
     try simp only [aE,QE,Nat.reduceLT,reduceIte,Nat.reduceEqDiff,Nat.reduceAdd,Nat.reduceLeDiff,Nat.reduceMul,Nat.reduceBEq,eX,bQ,cE]
     try simp [aL]
theorem wA (v:Net) (hv:Vd v):dR T 50 [bI v] (bU (fY v)):=by
 refine bE (af:=a50) rfl (by simp [a50]) dd ?_
 have hnt:=hv.ntr
 (repeat (first|simp only [↓QA,QB,Nat.reduceLT,reduceIte,Nat.reduceEqDiff,Nat.reduceAdd,Nat.reduceLeDiff,Nat.reduceMul,Nat.reduceBEq,eX,bQ,cE,a50]|refine rd0 rfl ?_))
 refine mM 3 1 [] rfl ?_
 refine bY (S:=Nat×Bool) (0,false) (fun a=>a.1≤v.trams.length) (fun a=>v.trams.length-a.1)
  (fun a=>[(1,.ptr 0 0),(3,.lit (((v.trams.take a.1).map Tram.path).map ints) false (some 1)),(4,.int .i64 a.1)]) (fun a=>[.cells (aB v),.tok 1 a.1 a.2]) (Nat.zero_le _) (by simp [aB,ints]) ?_ fun a ha=>?_
 ·try simp only [aE,QE,Nat.reduceLT,reduceIte,Nat.reduceEqDiff,Nat.reduceAdd,Nat.reduceLeDiff,Nat.reduceMul,Nat.reduceBEq,eX,bQ,cE]
  try simp
 ·obtain ⟨k,ex⟩:=a
  simp only at ha
  (repeat (first|simp only [↓QA,QB,Nat.reduceLT,reduceIte,Nat.reduceEqDiff,Nat.reduceAdd,Nat.reduceLeDiff,Nat.reduceMul,Nat.reduceBEq,eX,bQ,cE,aA2]|refine rd0 rfl ?_))
  refine aG (fun h=>?_) fun h=>?_
  ·have hk1:k<v.trams.length:=by simpa using h
   have hw:=bX hk1 (by omega)
   have htk:(v.trams.take (k+1)).map Tram.path=(v.trams.take k).map Tram.path++[v.trams[k].path]:=by
    rw [List.take_succ_eq_append_getElem hk1,List.map_append];rfl
   have hlen:((v.trams.take k).map Tram.path).length=k:=by simp;omega
   obtain ⟨t,ht⟩:∃ t,v.trams[k]=t:=⟨_,rfl⟩
   rw [ht] at htk
   obtain ⟨P,hP⟩:∃ P,(v.trams.take k).map Tram.path=P:=⟨_,rfl⟩
   rw [hP] at htk hlen
   have a2:=fun (b0:ABlk) (τ:St)=>lC (σ:=b0::.tok 1 k ex::τ) (t:=1) (ex:=ex) (sz:=1) (b:=24) (xs:=P.map ints) (ys:=[.lit (t.path.map (.int .i64)) false none]) (f:=true) (tk:=none) ⟨m7 P,by simp [aM,AV.cells,AV.cell],by simp [room];omega,by simp [room];omega⟩ (by simp) k (by simp [hlen]) rfl
   rw [hP]
   (repeat (first|simp only [↓QA,QB,Nat.reduceLT,reduceIte,Nat.reduceEqDiff,Nat.reduceAdd,Nat.reduceLeDiff,Nat.reduceMul,Nat.reduceBEq,eX,bQ,cE,hk1,ht,ints,a2]|refine rd0 rfl ?_))
   refine ⟨(k+1,true),by simp only;omega,by simp only;omega,?_⟩
   try simp only [aE,QE,Nat.reduceLT,reduceIte,Nat.reduceEqDiff,Nat.reduceAdd,Nat.reduceLeDiff,Nat.reduceMul,Nat.reduceBEq,eX,bQ,cE,hw,htk,bU,ints,List.map_append,List.map_cons,List.map_nil]
   try simp [aL]
  ·have hk1:k=v.trams.length:=by simp at h;omega
   rw [hk1,List.take_length]
   (repeat (first|simp only [↓QA,QB,Nat.reduceLT,reduceIte,Nat.reduceEqDiff,Nat.reduceAdd,Nat.reduceLeDiff,Nat.reduceMul,Nat.reduceBEq,eX,bQ,cE,bU,fY]|refine rd0 rfl ?_))
   try try simp only [QS,QC,Nat.reduceLT,reduceIte,Nat.reduceEqDiff,Nat.reduceAdd,Nat.reduceLeDiff,Nat.reduceMul,Nat.reduceBEq,eX,bQ,cE]
end Go.Am.Room
set_option maxRecDepth 4000
namespace Go.Am.Room
def dW:=And.intro @bH (And.intro @aI (And.intro @aW (And.intro @aT (And.intro @aS (And.intro @aR (And.intro @bF (And.intro @bC (And.intro @bA (And.intro @dH (And.intro @d6 (And.intro @Nat.not_lt_zero (And.intro @aQ (And.intro @aY (And.intro @bQ (And.intro @cE (@tQ))))))))))))))))
structure StOk (v:Net) (s:State):Prop where
 cl:s.closed.length=v.rails.length
 mi:s.mins.length=v.rails.length
 bd:∀ i (h:i<s.mins.length),1≤s.mins[i]∧s.mins[i]≤20
theorem S4 {v:Net} {s:State} (hs:StOk v s) {R:Nat} (h1:R<s.closed.length) (h2:R<s.mins.length):eff s (R:Int)=if s.closed[R]=true then 0 else s.mins[R]:=by
 simp [eff,h1,h2]
theorem GE {v:Net} {s:State} (hs:StOk v s):vQ v (eff s):=by
 intro r h0 h1
 obtain ⟨R,rfl⟩:∃ R:Nat,r=R:=⟨r.toNat,by omega⟩
 have c1:=hs.cl
 have c2:=hs.mi
 rw [S4 hs (by omega) (by omega)]
 have:=hs.bd R (by omega)
 split<;>omega
def aA6 (x:List Stay×List Int):AV:=.tuple [FX x.1,ints x.2]
theorem W0 {p:List Int} {f:Int→Bool} {k:Nat} (h:k=p.length):(p.take k).any f=p.any f:=by rw [h,List.take_length]
theorem Z2 (v:Net) (hv:Vd v) (s:State) (hs:StOk v s) (ps:List (List Int)) (hp:RunOk v ps):dR T 49 [bI v,eC s,bU ps] (aA6 (dB v (eff s) ps v.trams.length)):=by
 refine bE (af:=a49) rfl (by simp [a49]) dd ?_
 have hnt:=hv.ntr
 have hpl:=hp.len
 have c1:=hs.cl
 have c2:=hs.mi
 have hbd:=F7 hv (GE hs) hp
 obtain ⟨m,hm⟩:∃ m,eff s=m:=⟨_,rfl⟩
 have hmb:=GE hs
 have hea:=fun R h1 h2=>S4 hs (R:=R) h1 h2
 rw [hm] at hmb hbd
 simp only [hm] at hea ⊢
 (repeat (first|simp only [↓QA,QB,Nat.reduceLT,reduceIte,Nat.reduceEqDiff,Nat.reduceAdd,Nat.reduceLeDiff,Nat.reduceMul,Nat.reduceBEq,dW,a49,bU]|refine rd0 rfl ?_))
 refine mM 8 4 [] rfl ?_
 (repeat (first|simp only [↓QA,QB,Nat.reduceLT,reduceIte,Nat.reduceEqDiff,Nat.reduceAdd,Nat.reduceLeDiff,Nat.reduceMul,Nat.reduceBEq,dW]|refine rd0 rfl ?_))
 refine mM 9 1 [] rfl ?_
 refine bY (S:=Nat×Bool×Bool) (0,false,false) (fun a=>a.1≤v.trams.length) (fun a=>v.trams.length-a.1)
  (fun a=>[(2,bU ps),(3,.ptr 0 0),(4,.ptr 1 0),(8,.lit ((dB v m ps a.1).1.map fU) false (some 2)),(9,.lit ((dB v m ps a.1).2.map (.int .i64)) false (some 3)),(10,.int .i64 a.1)])
  (fun a=>[.cells (aB v),.cells [.lit (s.closed.map .bool) false none,ints s.mins],.tok 4 (dB v m ps a.1).1.length a.2.1,.tok 1 a.1 a.2.2]) (Nat.zero_le _) (by simp [aB,ints,dB]) ?_ fun a ha=>?_
 ·try simp only [aE,QE,Nat.reduceLT,reduceIte,Nat.reduceEqDiff,Nat.reduceAdd,Nat.reduceLeDiff,Nat.reduceMul,Nat.reduceBEq,dW,bU,ints]
  try simp [dB]
 ·obtain ⟨i,ex,ex2⟩:=a
  simp only at ha
  (repeat (first|simp only [↓QA,QB,Nat.reduceLT,reduceIte,Nat.reduceEqDiff,Nat.reduceAdd,Nat.reduceLeDiff,Nat.reduceMul,Nat.reduceBEq,dW,aAI,bU]|refine rd0 rfl ?_))
  refine aG (fun h=>?_) fun h=>?_
  ·have hi1:i<v.trams.length:=by simpa using h
   have hwi:=bX hi1 (by omega)
   have hip:i<ps.length:=by omega
   obtain ⟨b1,b2⟩:=hbd i (by omega)
   have hlc:=mA v m ps i
   have hsu:=JQ v m ps i
   have hto:=pU hv hi1
   have hpm:=A9 hp hi1
   have hp4:=hp.few _ hpm
   have hpr:=hp.rails _ hpm
   have hpe:eI ps i=ps[i]:=by simp [eI,hip]
   rw [uJ hi1,hpe] at hsu
   rw [hpe] at hp4 hpr
   obtain ⟨t,ht⟩:∃ t,v.trams[i]=t:=⟨_,rfl⟩
   obtain ⟨p,hpp⟩:∃ p,ps[i]=p:=⟨_,rfl⟩
   rw [ht] at hto hsu
   rw [hpp] at hp4 hpr hsu
   have hlv:=hto.leaves
   obtain ⟨L,hL⟩:∃ L,t.leaves=L:=⟨_,rfl⟩
   rw [hL] at hlv hsu
   obtain ⟨SS,hSS⟩:∃ SS,(dB v m ps i).1=SS:=⟨_,rfl⟩
   obtain ⟨OO,hOO⟩:∃ OO,(dB v m ps i).2=OO:=⟨_,rfl⟩
   rw [hSS] at b1 hsu
   rw [hOO] at b2 hlc hsu
   have hgo:j3 m i L p SS=if p.any (fun r=>m r==0)=true then (SS,-1) else kM m i p L SS:=rfl
   rw [hSS,hOO]
   obtain ⟨R,hR⟩:∃ R,j3 m i L p SS=R:=⟨_,rfl⟩
   rw [hR] at hsu hgo
   have hsu1:(dB v m ps (i+1)).1=R.1:=by rw [hsu]
   have hsu2:(dB v m ps (i+1)).2=OO++[R.2]:=by rw [hsu]
   have aO:=fun (b0 b1 b2:ABlk) (τ:St) (ex2:Bool)=>lC (σ:=b0::b1::b2::.tok 1 i ex2::τ) (t:=3) (ex:=ex2) (sz:=1) (b:=8) (xs:=OO.map (.int .i64)) (ys:=[.int .i64 R.2]) (f:=true) (tk:=none) ⟨lP OO,by simp [aM,AV.cells,AV.cell],by simp [room];omega,by simp [room];omega⟩ (by simp) i (by simp [hlc]) rfl
   (repeat (first|simp only [↓QA,QB,Nat.reduceLT,reduceIte,Nat.reduceEqDiff,Nat.reduceAdd,Nat.reduceLeDiff,Nat.reduceMul,Nat.reduceBEq,dW,hi1,ht,hL,hip,hpp,bU]|refine rd0 rfl ?_))
   refine bY (S:=Nat) 0 (fun k=>k≤p.length) (fun k=>p.length-k)
    (fun k=>[(2,bU ps),(3,.ptr 0 0),(4,.ptr 1 0),(8,.lit (SS.map fU) false (some 2)),(9,.lit (OO.map (.int .i64)) false (some 3)),(10,.int .i64 i),(11,.int .i64 (if (p.take k).any (fun r=>m r==0)=true then -1 else L)),(12,.int .i64 k)])
    (fun k=>[.cells (aB v),.cells [.lit (s.closed.map .bool) false none,ints s.mins],.tok 4 SS.length ex,.tok 1 i ex2]) (Nat.zero_le _) (by simp [aB,ints]) ?_ fun k hk=>?_
   ·try simp only [aE,QE,Nat.reduceLT,reduceIte,Nat.reduceEqDiff,Nat.reduceAdd,Nat.reduceLeDiff,Nat.reduceMul,Nat.reduceBEq,dW,bU,ints]
    try simp
   ·(repeat (first|simp only [↓QA,QB,Nat.reduceLT,reduceIte,Nat.reduceEqDiff,Nat.reduceAdd,Nat.reduceLeDiff,Nat.reduceMul,Nat.reduceBEq,dW,aBS,bU,hip,hpp]|refine rd0 rfl ?_))
    refine aG (fun h2=>?_) fun h2=>?_
    ·have hk1:k<p.length:=by simpa using h2
     have hwk:=bX hk1 (by omega)
     have hat:=C3 (p:=fun r=>m r==0) hk1
     have hpk:=hpr _ (List.getElem_mem hk1)
     obtain ⟨r,hr⟩:∃ r:Nat,p[k]=(r:Int):=⟨p[k].toNat,by omega⟩
     rw [hr] at hat hpk
     have hr1:r<s.closed.length:=by omega
     have hr2:r<s.mins.length:=by omega
     have hmr:=hea r hr1 hr2
     have hmi:=hs.bd r hr2
     obtain ⟨cb,hcb⟩:∃ cb,s.closed[r]=cb:=⟨_,rfl⟩
     rw [hcb] at hmr
     (repeat (first|simp only [↓QA,QB,Nat.reduceLT,reduceIte,Nat.reduceEqDiff,Nat.reduceAdd,Nat.reduceLeDiff,Nat.reduceMul,Nat.reduceBEq,dW,hk1,hr,hr1,hcb,hip,hpp]|refine rd0 rfl ?_))
     cases cb
     ·have h0:(m (r:Int)==0)=false:=by rw [hmr];simp;omega
      rw [h0,Bool.or_false] at hat
      (repeat (first|simp only [↓QA,QB,Nat.reduceLT,reduceIte,Nat.reduceEqDiff,Nat.reduceAdd,Nat.reduceLeDiff,Nat.reduceMul,Nat.reduceBEq,dW,hwk]|refine rd0 rfl ?_))
      refine ⟨k+1,by omega,by omega,?_⟩
      try simp only [aE,QE,Nat.reduceLT,reduceIte,Nat.reduceEqDiff,Nat.reduceAdd,Nat.reduceLeDiff,Nat.reduceMul,Nat.reduceBEq,dW,hwk,hat,bU,ints]
      try simp [aL]
     ·have h0:(m (r:Int)==0)=true:=by rw [hmr];simp
      rw [h0,Bool.or_true] at hat
      (repeat (first|simp only [↓QA,QB,Nat.reduceLT,reduceIte,Nat.reduceEqDiff,Nat.reduceAdd,Nat.reduceLeDiff,Nat.reduceMul,Nat.reduceBEq,dW,hwk]|refine rd0 rfl ?_))
      refine ⟨k+1,by omega,by omega,?_⟩
      try simp only [aE,QE,Nat.reduceLT,reduceIte,Nat.reduceEqDiff,Nat.reduceAdd,Nat.reduceLeDiff,Nat.reduceMul,Nat.reduceBEq,dW,hwk,hat,bU,ints]
      try simp [aL]
    ·have hk1:k=p.length:=by simp at h2;omega
     rw [W0 hk1]
     cases hc:p.any (fun r=>m r==0)
     ·rw [hc] at hgo
      simp only [Bool.false_eq_true,if_false] at hgo ⊢
      (repeat (first|simp only [↓QA,QB,Nat.reduceLT,reduceIte,Nat.reduceEqDiff,Nat.reduceAdd,Nat.reduceLeDiff,Nat.reduceMul,Nat.reduceBEq,dW]|refine rd0 rfl ?_))
      refine bY (S:=Nat×Int×List Stay×Bool) (0,L,SS,ex) (fun a=>a.1≤p.length∧0≤a.2.1∧a.2.1≤60+20*(4*i+a.1:Nat)∧StaysOk a.2.2.1 (4*i+a.1)∧kM m i (p.drop a.1) a.2.1 a.2.2.1=R) (fun a=>p.length-a.1)
       (fun a=>[(2,bU ps),(3,.ptr 0 0),(4,.ptr 1 0),(8,.lit (a.2.2.1.map fU) false (some 2)),(9,.lit (OO.map (.int .i64)) false (some 3)),(10,.int .i64 i),(11,.int .i64 a.2.1),(13,.int .i64 a.1)])
       (fun a=>[.cells (aB v),.cells [.lit (s.closed.map .bool) false none,ints s.mins],.tok 4 a.2.2.1.length a.2.2.2,.tok 1 i ex2]) ⟨by simp,by simp only;omega,by simp only;omega,b1,hgo.symm⟩ (by simp [aB,ints]) ?_ fun a ha=>?_
      ·try simp only [aE,QE,Nat.reduceLT,reduceIte,Nat.reduceEqDiff,Nat.reduceAdd,Nat.reduceLeDiff,Nat.reduceMul,Nat.reduceBEq,dW,bU,ints]
       try simp
      ·obtain ⟨j,at_,SS,ex⟩:=a
       obtain ⟨hj,ha0,ha1,hso,hgo⟩:=ha
       simp only at hj ha0 ha1 hso hgo
       have hne:(at_==-1)=false:=by simp;omega
       by_cases hj1:j<p.length
       ·have g:decide ((j:Int)<(p.length:Int))=true:=by simp;omega
        have hwj:=bX hj1 (by omega)
        have hpk:=hpr _ (List.getElem_mem hj1)
        rw [List.drop_eq_getElem_cons hj1] at hgo
        obtain ⟨r,hr⟩:∃ r:Nat,p[j]=(r:Int):=⟨p[j].toNat,by omega⟩
        rw [hr] at hpk hgo
        have hr1:r<s.closed.length:=by omega
        have hr2:r<s.mins.length:=by omega
        have hmr:=hea r hr1 hr2
        have hmi:=hs.bd r hr2
        have hopen:s.closed[r]=false:=by
         rw [List.any_eq_false] at hc
         have:=hc _ (List.getElem_mem hj1)
         rw [hr,hmr] at this
         cases hq:s.closed[r]
         ·rfl
         ·rw [hq] at this;simp at this
        rw [hopen] at hmr
        simp only [Bool.false_eq_true,if_false] at hmr
        obtain ⟨M,hM⟩:∃ M,s.mins[r]=M:=⟨_,rfl⟩
        rw [hM] at hmr hmi
        simp only [kM,hmr] at hgo
        obtain ⟨f1,f2,f3⟩:=GL (rail:=(r:Int)) (m:=M) hso (by omega) ha0 ha1
        have hsl:=hso.len
        have hfr:=R3 SS r at_ M (60+20*((4*i+j:Nat):Int)) (by omega) hso.til ha0 ha1 (by omega) (by omega)
        obtain ⟨F,hF⟩:∃ F,g7 SS r at_ M=F:=⟨_,rfl⟩
        rw [hF] at hgo f2 f3 hfr
        have hwF:IntKind.i64.wrap (F+M)=F+M:=dU ⟨by omega,by omega⟩
        have a8:=fun (b0 b1:ABlk) (τ:St)=>lC (σ:=b0::b1::.tok 4 SS.length ex::τ) (t:=2) (ex:=ex) (sz:=4) (b:=32) (xs:=SS.map fU) (ys:=[.agg [.int .i64 i,.int .i64 r,.int .i64 F,.int .i64 (F+M)]]) (f:=true) (tk:=none) ⟨A4 SS,by simp [aM,cO,AV.cells,AV.cell],by simp [room];omega,by simp [room];omega⟩ (by simp) SS.length (by simp) rfl
        (repeat (first|simp only [↓QA,QB,Nat.reduceLT,reduceIte,Nat.reduceEqDiff,Nat.reduceAdd,Nat.reduceLeDiff,Nat.reduceMul,Nat.reduceBEq,dW,OE,bU,hip,hpp,g,hne,hj1,hr,hr2,hM,ints]|refine rd0 rfl ?_))
        ((first|refine xD (hfr) (by try simp only [QS,QC,Nat.reduceLT,reduceIte,Nat.reduceEqDiff,Nat.reduceAdd,Nat.reduceLeDiff,Nat.reduceMul,Nat.reduceBEq,dW]) trivial ?_|refine AF (hfr) (by try simp only [QS,QC,Nat.reduceLT,reduceIte,Nat.reduceEqDiff,Nat.reduceAdd,Nat.reduceLeDiff,Nat.reduceMul,Nat.reduceBEq,dW]) trivial ?_);(repeat (first|simp only [↓QA,QB,Nat.reduceLT,reduceIte,Nat.reduceEqDiff,Nat.reduceAdd,Nat.reduceLeDiff,Nat.reduceMul,Nat.reduceBEq,dW,hj1,hr,hr2,hM,ints,hwF,a8,hwj]|refine rd0 rfl ?_)))
        refine ⟨(j+1,F+M,SS++[⟨i,r,F,F+M⟩],true),⟨by simp only;omega,by simp only;omega,by simp only;omega,?_,hgo⟩,by simp only;omega,?_⟩
        ·refine ⟨by simp;omega,fun x hx=>?_,fun x hx=>?_⟩
         ·rcases List.mem_append.1 hx with hx|hx
          ·have:=hso.til x hx;simp only;omega
          ·simp only [List.mem_singleton] at hx;subst hx;simp only;omega
         ·rcases List.mem_append.1 hx with hx|hx
          ·exact hso.frm x hx
          ·simp only [List.mem_singleton] at hx;subst hx;simp only;omega
        ·try simp only [aE,QE,Nat.reduceLT,reduceIte,Nat.reduceEqDiff,Nat.reduceAdd,Nat.reduceLeDiff,Nat.reduceMul,Nat.reduceBEq,dW,hwj,bU,ints,List.map_append,List.map_cons,List.map_nil]
         try simp [aL]
       ·have g:decide ((j:Int)<(p.length:Int))=false:=by simp;omega
        rw [List.drop_eq_nil_of_le (by omega),kM] at hgo
        subst hgo
        (repeat (first|simp only [↓QA,QB,Nat.reduceLT,reduceIte,Nat.reduceEqDiff,Nat.reduceAdd,Nat.reduceLeDiff,Nat.reduceMul,Nat.reduceBEq,dW,OE,bU,hip,hpp,g,aO,hwi]|refine rd0 rfl ?_))
        refine ⟨(i+1,ex,true),by simp only;omega,by simp only;omega,?_⟩
        try simp only [aE,QE,Nat.reduceLT,reduceIte,Nat.reduceEqDiff,Nat.reduceAdd,Nat.reduceLeDiff,Nat.reduceMul,Nat.reduceBEq,dW,hwi,hsu1,hsu2,bU,ints,List.map_append,List.map_cons,List.map_nil]
        try simp [aL]
     ·rw [hc] at hgo
      simp only [if_true] at hgo ⊢
      subst hgo
      have hne:((-1:Int)==-1)=true:=by decide
      (repeat (first|simp only [↓QA,QB,Nat.reduceLT,reduceIte,Nat.reduceEqDiff,Nat.reduceAdd,Nat.reduceLeDiff,Nat.reduceMul,Nat.reduceBEq,dW]|refine rd0 rfl ?_))
      refine bY (S:=Unit) () (fun a=>True) (fun a=>0)
       (fun a=>[(2,bU ps),(3,.ptr 0 0),(4,.ptr 1 0),(8,.lit (SS.map fU) false (some 2)),(9,.lit (OO.map (.int .i64)) false (some 3)),(10,.int .i64 i),(11,.int .i64 (-1)),(13,.int .i64 0)])
       (fun a=>[.cells (aB v),.cells [.lit (s.closed.map .bool) false none,ints s.mins],.tok 4 SS.length ex,.tok 1 i ex2]) trivial (by simp [aB,ints]) ?_ fun a ha=>?_
      ·try simp only [aE,QE,Nat.reduceLT,reduceIte,Nat.reduceEqDiff,Nat.reduceAdd,Nat.reduceLeDiff,Nat.reduceMul,Nat.reduceBEq,dW,bU,ints]
       try simp
      ·(repeat (first|simp only [↓QA,QB,Nat.reduceLT,reduceIte,Nat.reduceEqDiff,Nat.reduceAdd,Nat.reduceLeDiff,Nat.reduceMul,Nat.reduceBEq,dW,OE,bU,hip,hpp,hne]|refine rd0 rfl ?_))
       cases hg:decide ((0:Int)<(p.length:Int))
       ·(repeat (first|simp only [↓QA,QB,Nat.reduceLT,reduceIte,Nat.reduceEqDiff,Nat.reduceAdd,Nat.reduceLeDiff,Nat.reduceMul,Nat.reduceBEq,dW,hg,hne,aO,hwi]|refine rd0 rfl ?_))
        refine ⟨(i+1,ex,true),by simp only;omega,by simp only;omega,?_⟩
        try simp only [aE,QE,Nat.reduceLT,reduceIte,Nat.reduceEqDiff,Nat.reduceAdd,Nat.reduceLeDiff,Nat.reduceMul,Nat.reduceBEq,dW,hwi,hsu1,hsu2,bU,ints,List.map_append,List.map_cons,List.map_nil]
        try simp [aL]
       ·(repeat (first|simp only [↓QA,QB,Nat.reduceLT,reduceIte,Nat.reduceEqDiff,Nat.reduceAdd,Nat.reduceLeDiff,Nat.reduceMul,Nat.reduceBEq,dW,hg,hne,aO,hwi]|refine rd0 rfl ?_))
        refine ⟨(i+1,ex,true),by simp only;omega,by simp only;omega,?_⟩
        try simp only [aE,QE,Nat.reduceLT,reduceIte,Nat.reduceEqDiff,Nat.reduceAdd,Nat.reduceLeDiff,Nat.reduceMul,Nat.reduceBEq,dW,hwi,hsu1,hsu2,bU,ints,List.map_append,List.map_cons,List.map_nil]
        try simp [aL]
  ·have hi1:i=v.trams.length:=by simp at h;omega
   rw [hi1]
   (repeat (first|simp only [↓QA,QB,Nat.reduceLT,reduceIte,Nat.reduceEqDiff,Nat.reduceAdd,Nat.reduceLeDiff,Nat.reduceMul,Nat.reduceBEq,dW,aA6,LE]|refine rd0 rfl ?_))
   try try simp only [QS,QC,Nat.reduceLT,reduceIte,Nat.reduceEqDiff,Nat.reduceAdd,Nat.reduceLeDiff,Nat.reduceMul,Nat.reduceBEq,dW]
end Go.Am.Room
set_option maxRecDepth 4000
namespace Go.Am.Room
def fB:=And.intro @bH (And.intro @aI (And.intro @aW (And.intro @aT (And.intro @aS (And.intro @aR (And.intro @bF (And.intro @bC (And.intro @bA (And.intro @dH (And.intro @d6 (And.intro @Nat.not_lt_zero (And.intro @aQ (And.intro @aY (And.intro @bQ (And.intro @cE (And.intro @tQ (@dE)))))))))))))))))
theorem aA1 {v:Net} (hv:Vd v):∀ k,k≤v.rails.length→∀ s∈oH v.rails k,∀ i (h:i<s.mins.length),1≤s.mins[i]∧s.mins[i]≤20
 |0,_,s,hs,i,h=>by simp [oH] at hs;subst hs;simp at h
 |k+1,hk,s,hs,i,h=>by
  have hk1:k<v.rails.length:=by omega
  rw [y2 hk1] at hs
  simp only [List.mem_flatMap,zX,List.mem_map,List.mem_filter] at hs
  obtain ⟨s0,hs0,m,hm,c,_,rfl⟩:=hs
  have hl0:=(tT k (by omega) s0 hs0).2.1
  simp only [List.length_append,List.length_cons,List.length_nil] at h
  by_cases e:i=s0.mins.length
  ·subst e
   have:=(hv.ra _ (List.getElem_mem hk1)).mins
   have:=kD.1 hm
   simp
   omega
  ·have hi:i<s0.mins.length:=by omega
   have:=aA1 hv k (by omega) s0 hs0 i hi
   simp only [List.getElem_append_left hi]
   exact this
theorem uO {v:Net} (hv:Vd v) {s:State} (h:s∈bD v):StOk v s:=by
 have hl:=gZ h
 exact ⟨hl.1,hl.2,aA1 hv _ (Nat.le_refl _) s h⟩
theorem BJ {v:Net} (hv:Vd v):(bD v).length≤1024 :=
 Nat.le_trans (A0 (fun r hr=>(hv.ra r hr).mins.2.2.2) _) (Nat.le_trans (Nat.pow_le_pow_right (by omega) hv.nra) (by decide))
theorem LM {v:Net} (hv:Vd v) (but:List Int):(aJ v but).length≤1024:=Nat.le_trans (List.length_filter_le _ _) (BJ hv)
theorem P8 (v:Net) (s:State):(aX v s).length=v.trams.length:=mA _ _ _ _
theorem AR {cs:List Int} {t:Nat} (h:t<cs.length):cT cs (t:Int)=cs[t]:=by simp [cT,h]
def KB (v:Net) (s:State):List AV:=(dB v (eff s) (fY v) v.trams.length).1.map fU
theorem A8 (v:Net) (hv:Vd v) (s:State) (hs:StOk v s):dR T 49 [bI v,eC s,bU (fY v)] (.tuple [.lit (KB v s) false none,ints (aX v s)]):=Z2 v hv s hs (fY v) (LD hv)
theorem mX (v:Net) (hv:Vd v) (but:List Int) (hbu:but.length<9223372036854775808):dR T 48 [bI v,ints but] (fG (aJ v but)):=by
 refine bE (af:=a48) rfl (by simp [a48]) dd ?_
 have hse:=hv.nse
 have hwl:=BJ hv
 have hwo:=fun s=>uO hv (s:=s)
 have hst:=C7 v hv
 have how:=wA v hv
 obtain ⟨R,hR⟩:∃ R,aJ v but=R:=⟨_,rfl⟩
 have hRl:=LM hv but
 rw [hR] at hRl ⊢
 have hR':[]++((bD v).drop 0).filter (fun s=>jZ v but (aX v s))=R:=hR
 obtain ⟨W,hW⟩:∃ W,bD v=W:=⟨_,rfl⟩
 rw [hW] at hwl hst hR'
 simp only [hW] at hwo
 obtain ⟨PO,hPO⟩:∃ PO,fY v=PO:=⟨_,rfl⟩
 (repeat (first|simp only [↓QA,QB,Nat.reduceLT,reduceIte,Nat.reduceEqDiff,Nat.reduceAdd,Nat.reduceLeDiff,Nat.reduceMul,Nat.reduceBEq,fB,a48]|refine rd0 rfl ?_))
 ((first|refine aC (hst) rfl dd ?_|refine aD (hst) rfl dd ?_);(repeat (first|simp only [↓QA,QB,Nat.reduceLT,reduceIte,Nat.reduceEqDiff,Nat.reduceAdd,Nat.reduceLeDiff,Nat.reduceMul,Nat.reduceBEq,fB]|refine rd0 rfl ?_)))
 refine mM 6 2 [] rfl ?_
 refine bY (S:=Nat×List State×Bool) (0,[],false) (fun a=>a.1≤W.length∧a.2.1++(W.drop a.1).filter (fun s=>jZ v but (aX v s))=R) (fun a=>W.length-a.1)
  (fun a=>[(1,ints but),(2,.ptr 0 0),(5,fG W),(6,.lit (a.2.1.map eC) false (some 1)),(7,.int .i64 a.1)])
  (fun a=>[.cells (aB v),.tok 2 a.2.1.length a.2.2]) ⟨Nat.zero_le _,hR'⟩ (by simp [aB,ints]) ?_ fun a ha=>?_
 ·try simp only [aE,QE,Nat.reduceLT,reduceIte,Nat.reduceEqDiff,Nat.reduceAdd,Nat.reduceLeDiff,Nat.reduceMul,Nat.reduceBEq,fB]
  try simp
 ·obtain ⟨k,acc,ex⟩:=a
  obtain ⟨hk,hacc⟩:=ha
  simp only at hk hacc
  (repeat (first|simp only [↓QA,QB,Nat.reduceLT,reduceIte,Nat.reduceEqDiff,Nat.reduceAdd,Nat.reduceLeDiff,Nat.reduceMul,Nat.reduceBEq,fB,aAL]|refine rd0 rfl ?_))
  refine aG (fun hd=>?_) fun hd=>?_
  ·have hk1:k<W.length:=by simpa using hd
   have hw:=bX hk1 (by omega)
   have hso:=hwo _ (List.getElem_mem hk1)
   obtain ⟨s,hs⟩:∃ s,W[k]=s:=⟨_,rfl⟩
   rw [hs] at hso
   rw [List.drop_eq_getElem_cons hk1,hs,List.filter_cons] at hacc
   have hal:acc.length≤1024:=by
    have:=congrArg List.length hacc
    simp only [List.length_append] at this
    omega
   have hrun:=A8 v hv s hso
   have hcl:=P8 v s
   obtain ⟨C,hC⟩:∃ C,aX v s=C:=⟨_,rfl⟩
   obtain ⟨SS,hSS⟩:∃ SS,KB v s=SS:=⟨_,rfl⟩
   rw [hPO] at hrun how
   rw [hC] at hrun hcl hacc
   rw [hSS] at hrun
   simp only [aQ] at hrun
   have hap:=fun (b0:ABlk) (τ:St)=>lC (σ:=b0::.tok 2 acc.length ex::τ) (t:=1) (ex:=ex) (sz:=2) (b:=48) (xs:=acc.map eC) (ys:=[.agg [.lit (s.closed.map .bool) false none,.lit (s.mins.map (.int .i64)) false none]]) (f:=true) (tk:=none) ⟨sM acc,by simp [aM,cO,AV.cells,AV.cell],by simp [room];omega,by simp [room];omega⟩ (by simp) acc.length (by simp) rfl
   (repeat (first|simp only [↓QA,QB,Nat.reduceLT,reduceIte,Nat.reduceEqDiff,Nat.reduceAdd,Nat.reduceLeDiff,Nat.reduceMul,Nat.reduceBEq,fB,hk1,hs,ints]|refine rd0 rfl ?_))
   ((first|refine aC (how) rfl dd ?_|refine aD (how) rfl dd ?_);(repeat (first|simp only [↓QA,QB,Nat.reduceLT,reduceIte,Nat.reduceEqDiff,Nat.reduceAdd,Nat.reduceLeDiff,Nat.reduceMul,Nat.reduceBEq,fB,hk1,hs,ints]|refine rd0 rfl ?_)))
   ((first|refine aC (hrun) rfl dd ?_|refine aD (hrun) rfl dd ?_);(repeat (first|simp only [↓QA,QB,Nat.reduceLT,reduceIte,Nat.reduceEqDiff,Nat.reduceAdd,Nat.reduceLeDiff,Nat.reduceMul,Nat.reduceBEq,fB,hk1,hs,ints]|refine rd0 rfl ?_)))
   refine bY (S:=Nat) 0 (fun j=>j≤v.seen.length) (fun j=>v.seen.length-j)
    (fun j=>[(1,ints but),(2,.ptr 0 0),(5,fG W),(6,.lit (acc.map eC) false (some 1)),(7,.int .i64 k),(9,ints C),(10,.bool (pE v but C j)),(11,.int .i64 j)])
    (fun j=>[.cells (aB v),.tok 2 acc.length ex]) (Nat.zero_le _) (by simp [aB,ints]) ?_ fun j hj=>?_
   ·try simp only [aE,QE,Nat.reduceLT,reduceIte,Nat.reduceEqDiff,Nat.reduceAdd,Nat.reduceLeDiff,Nat.reduceMul,Nat.reduceBEq,fB,ints]
    try simp [pE]
   ·(repeat (first|simp only [↓QA,QB,Nat.reduceLT,reduceIte,Nat.reduceEqDiff,Nat.reduceAdd,Nat.reduceLeDiff,Nat.reduceMul,Nat.reduceBEq,fB,aBQ]|refine rd0 rfl ?_))
    refine aG (fun h2=>?_) fun h2=>?_
    ·have hj1:j<v.seen.length:=by simpa using h2
     have hwj:=bX hj1 (by omega)
     have hsu:=zB hj1 but C
     have hsx:=hv.se _ (List.getElem_mem hj1)
     obtain ⟨x,hx⟩:∃ x,v.seen[j]=x:=⟨_,rfl⟩
     rw [hx] at hsu hsx
     obtain ⟨t,ht⟩:∃ t:Nat,x.tram=t:=⟨x.tram.toNat,by omega⟩
     rw [ht] at hsu hsx
     have htl:t<C.length:=by omega
     rw [AR htl] at hsu
     obtain ⟨q,hq⟩:∃ q,pE v but C j=q:=⟨_,rfl⟩
     rw [hq] at hsu
     rw [hq]
     cases q
     ·rw [Bool.false_and] at hsu
      (repeat (first|simp only [↓QA,QB,Nat.reduceLT,reduceIte,Nat.reduceEqDiff,Nat.reduceAdd,Nat.reduceLeDiff,Nat.reduceMul,Nat.reduceBEq,fB,hwj]|refine rd0 rfl ?_))
      refine ⟨j+1,by omega,by omega,?_⟩
      try simp only [aE,QE,Nat.reduceLT,reduceIte,Nat.reduceEqDiff,Nat.reduceAdd,Nat.reduceLeDiff,Nat.reduceMul,Nat.reduceBEq,fB,hwj,hsu,ints]
      try simp [aL]
     ·rw [Bool.true_and] at hsu
      (repeat (first|simp only [↓QA,QB,Nat.reduceLT,reduceIte,Nat.reduceEqDiff,Nat.reduceAdd,Nat.reduceLeDiff,Nat.reduceMul,Nat.reduceBEq,fB]|refine rd0 rfl ?_))
      ((first|refine aC (iT but (j:Int) hbu) rfl dd ?_|refine aD (iT but (j:Int) hbu) rfl dd ?_);(repeat (first|simp only [↓QA,QB,Nat.reduceLT,reduceIte,Nat.reduceEqDiff,Nat.reduceAdd,Nat.reduceLeDiff,Nat.reduceMul,Nat.reduceBEq,fB]|refine rd0 rfl ?_)))
      cases hb:but.contains (j:Int)
      ·rw [hb,Bool.false_or] at hsu
       (repeat (first|simp only [↓QA,QB,Nat.reduceLT,reduceIte,Nat.reduceEqDiff,Nat.reduceAdd,Nat.reduceLeDiff,Nat.reduceMul,Nat.reduceBEq,fB,hj1,hx,ht,htl,hwj]|refine rd0 rfl ?_))
       refine ⟨j+1,by omega,by omega,?_⟩
       try simp only [aE,QE,Nat.reduceLT,reduceIte,Nat.reduceEqDiff,Nat.reduceAdd,Nat.reduceLeDiff,Nat.reduceMul,Nat.reduceBEq,fB,hwj,hsu,ints]
       try simp [aL]
      ·rw [hb,Bool.true_or] at hsu
       (repeat (first|simp only [↓QA,QB,Nat.reduceLT,reduceIte,Nat.reduceEqDiff,Nat.reduceAdd,Nat.reduceLeDiff,Nat.reduceMul,Nat.reduceBEq,fB,hwj]|refine rd0 rfl ?_))
       refine ⟨j+1,by omega,by omega,?_⟩
       try simp only [aE,QE,Nat.reduceLT,reduceIte,Nat.reduceEqDiff,Nat.reduceAdd,Nat.reduceLeDiff,Nat.reduceMul,Nat.reduceBEq,fB,hwj,hsu,ints]
       try simp [aL]
    ·have hj1:j=v.seen.length:=by simp at h2;omega
     rw [hj1,vI]
     cases hc:jZ v but C
     ·rw [hc] at hacc
      simp only [Bool.false_eq_true,if_false] at hacc
      (repeat (first|simp only [↓QA,QB,Nat.reduceLT,reduceIte,Nat.reduceEqDiff,Nat.reduceAdd,Nat.reduceLeDiff,Nat.reduceMul,Nat.reduceBEq,fB,hw]|refine rd0 rfl ?_))
      refine ⟨(k+1,acc,ex),⟨by simp only;omega,hacc⟩,by simp only;omega,?_⟩
      try simp only [aE,QE,Nat.reduceLT,reduceIte,Nat.reduceEqDiff,Nat.reduceAdd,Nat.reduceLeDiff,Nat.reduceMul,Nat.reduceBEq,fB,hw,ints]
      try simp [aL]
     ·rw [hc] at hacc
      simp only [if_true] at hacc
      (repeat (first|simp only [↓QA,QB,Nat.reduceLT,reduceIte,Nat.reduceEqDiff,Nat.reduceAdd,Nat.reduceLeDiff,Nat.reduceMul,Nat.reduceBEq,fB,hk1,hs,ints,hap,hw]|refine rd0 rfl ?_))
      refine ⟨(k+1,acc++[s],true),⟨by simp only;omega,by rw [←hacc];simp⟩,by simp only;omega,?_⟩
      try simp only [aE,QE,Nat.reduceLT,reduceIte,Nat.reduceEqDiff,Nat.reduceAdd,Nat.reduceLeDiff,Nat.reduceMul,Nat.reduceBEq,fB,hw,ints,List.map_append,List.map_cons,List.map_nil]
      try simp [aL]
  ·have hk1:k=W.length:=by simp at hd;omega
   rw [hk1,List.drop_length] at hacc
   simp only [List.filter_nil,List.append_nil] at hacc
   subst hacc
   (repeat (first|simp only [↓QA,QB,Nat.reduceLT,reduceIte,Nat.reduceEqDiff,Nat.reduceAdd,Nat.reduceLeDiff,Nat.reduceMul,Nat.reduceBEq,fB]|refine rd0 rfl ?_))
   try try simp only [QS,QC,Nat.reduceLT,reduceIte,Nat.reduceEqDiff,Nat.reduceAdd,Nat.reduceLeDiff,Nat.reduceMul,Nat.reduceBEq,fB]
theorem J7 (v:Net):clrs [bI v,.lit [] true none]=[bI v,ints []]:=by simp [clrs,(B1 v).2,clr,ints]
theorem y4 (v:Net):okVs 0 [bI v,.lit [] true none]:=⟨(B1 v).1,by simp [okV,okVs],trivial⟩
end Go.Am.Room
set_option maxRecDepth 4000
namespace Go.Am.Room
theorem J4 (l:List State):mD (fG l):=fJ rY l
instance (l:List State):Dat (fG l):=⟨J4 l⟩
end Go.Am.Room
set_option maxRecDepth 8000
namespace Go.Am.Room
theorem g9 (a b:List Int) (ha:a.length<9223372036854775808) (hb:b.length<9223372036854775808):dR T 59 [ints a,ints b] (.bool (a.all b.contains)):=by
 refine bE (af:=a59) rfl (by simp [a59]) dd ?_
 (repeat (first|simp only [↓QA,QB,Nat.reduceLT,reduceIte,Nat.reduceEqDiff,Nat.reduceAdd,Nat.reduceLeDiff,Nat.reduceMul,Nat.reduceBEq,m6,a59]|refine rd0 rfl ?_))
 refine bY (S:=Nat) 0 (fun k=>k≤a.length∧(a.drop k).all b.contains=a.all b.contains) (fun k=>a.length-k) (fun k=>[(0,ints a),(1,ints b),(5,.int .i64 k)]) (fun _=>[]) ⟨by simp,by simp⟩ rfl ?_ fun k hk=>?_
 ·try simp only [aE,QE,Nat.reduceLT,reduceIte,Nat.reduceEqDiff,Nat.reduceAdd,Nat.reduceLeDiff,Nat.reduceMul,Nat.reduceBEq,m6]
  try simp
 ·obtain ⟨hk,hq⟩:=hk
  (repeat (first|simp only [↓QA,QB,Nat.reduceLT,reduceIte,Nat.reduceEqDiff,Nat.reduceAdd,Nat.reduceLeDiff,Nat.reduceMul,Nat.reduceBEq,m6,aBZ]|refine rd0 rfl ?_))
  refine aG (fun h=>?_) fun h=>?_
  ·have hk1:k<a.length:=by simpa using h
   have hw:=bX hk1 ha
   rw [List.drop_eq_getElem_cons hk1,List.all_cons] at hq
   (repeat (first|simp only [↓QA,QB,Nat.reduceLT,reduceIte,Nat.reduceEqDiff,Nat.reduceAdd,Nat.reduceLeDiff,Nat.reduceMul,Nat.reduceBEq,m6,hk1]|refine rd0 rfl ?_))
   ((first|refine aC (iT b a[k] hb) rfl dd ?_|refine aD (iT b a[k] hb) rfl dd ?_);(repeat (first|simp only [↓QA,QB,Nat.reduceLT,reduceIte,Nat.reduceEqDiff,Nat.reduceAdd,Nat.reduceLeDiff,Nat.reduceMul,Nat.reduceBEq,m6,hk1]|refine rd0 rfl ?_)))
   cases h2:b.contains a[k]
   ·rw [h2,Bool.false_and] at hq
    (repeat (first|simp only [↓QA,QB,Nat.reduceLT,reduceIte,Nat.reduceEqDiff,Nat.reduceAdd,Nat.reduceLeDiff,Nat.reduceMul,Nat.reduceBEq,m6,←hq]|refine rd0 rfl ?_))
   ·rw [h2,Bool.true_and] at hq
    (repeat (first|simp only [↓QA,QB,Nat.reduceLT,reduceIte,Nat.reduceEqDiff,Nat.reduceAdd,Nat.reduceLeDiff,Nat.reduceMul,Nat.reduceBEq,m6,hk1]|refine rd0 rfl ?_))
    refine ⟨k+1,⟨by omega,hq⟩,by omega,?_⟩
    try simp only [aE,QE,Nat.reduceLT,reduceIte,Nat.reduceEqDiff,Nat.reduceAdd,Nat.reduceLeDiff,Nat.reduceMul,Nat.reduceBEq,m6,hw]
  ·have hk1:k=a.length:=by simp at h;omega
   rw [hk1,List.drop_length,List.all_nil] at hq
   (repeat (first|simp only [↓QA,QB,Nat.reduceLT,reduceIte,Nat.reduceEqDiff,Nat.reduceAdd,Nat.reduceLeDiff,Nat.reduceMul,Nat.reduceBEq,m6,←hq]|refine rd0 rfl ?_))
end Go.Am.Room
set_option maxRecDepth 8000
namespace Go.Am.Room
def jH (v:Net):Bool:=decide ((cA v).2.2=0)&&kT v []
theorem fP (v:Net) (hf:Fits v):dR T 46 [bI v] (.bool (jH v)):=by
 refine bE (af:=a46) rfl (by simp [a46]) dd ?_
 (repeat (first|simp only [↓QA,QB,Nat.reduceLT,reduceIte,Nat.reduceEqDiff,Nat.reduceAdd,Nat.reduceLeDiff,Nat.reduceMul,Nat.reduceBEq,eZ,a46]|refine rd0 rfl ?_))
 ((first|refine aC (eW v hf) rfl dd ?_|refine aD (eW v hf) rfl dd ?_);(repeat (first|simp only [↓QA,QB,Nat.reduceLT,reduceIte,Nat.reduceEqDiff,Nat.reduceAdd,Nat.reduceLeDiff,Nat.reduceMul,Nat.reduceBEq,eZ]|refine rd0 rfl ?_)))
 cases h0:decide ((cA v).2.2=0)
 ·(repeat (first|simp only [↓QA,QB,Nat.reduceLT,reduceIte,Nat.reduceEqDiff,Nat.reduceAdd,Nat.reduceLeDiff,Nat.reduceMul,Nat.reduceBEq,eZ,jH,h0,Bool.false_and]|refine rd0 rfl ?_))
 ·have hv:=eB (by simpa using h0)
  have hs:=mX v hv [] (by simp)
  (repeat (first|simp only [↓QA,QB,Nat.reduceLT,reduceIte,Nat.reduceEqDiff,Nat.reduceAdd,Nat.reduceLeDiff,Nat.reduceMul,Nat.reduceBEq,eZ]|refine rd0 rfl ?_))
  refine eO hs (J7 v) (y4 v) ?_
  (repeat (first|simp only [↓QA,QB,Nat.reduceLT,reduceIte,Nat.reduceEqDiff,Nat.reduceAdd,Nat.reduceLeDiff,Nat.reduceMul,Nat.reduceBEq,eZ,jH,h0,Bool.true_and,fG]|refine rd0 rfl ?_))
  have e:decide ((0:Int)<(aJ v []).length)=kT v []:=by
   simp only [kT]
   cases aJ v []<;>simp
  rw [e]
end Go.Am.Room
set_option maxRecDepth 8000
namespace Go.Am.Room
theorem ZL {n m:Nat} (h:m≤n) (p:Int→Bool):((aU 0 m).filter p).length≤n:=by
 have:=List.length_filter_le p (aU 0 m)
 rw [lB] at this
 omega
theorem uH (v:Net):(oW v).1.length≤3∧(oW v).2.1.length≤3:=by
 unfold oW
 split
 ·rename_i h0
  have:=(mV h0).1.ntr
  exact ⟨ZL (by omega) _,ZL (by omega) _⟩
 ·simp
theorem GR (v:Net):(qH v).1.length≤5∧(qH v).2.1.length≤5:=by
 unfold qH
 split
 ·rename_i h0
  have:=(mV h0).1.nra
  exact ⟨ZL (by omega) _,ZL (by omega) _⟩
 ·simp
theorem E7 {v:Net} {but:List Int}:kT v but=true↔aJ v but≠[]:=by
 rw [kT]
 cases aJ v but<;>simp
theorem kS {v:Net}:jH v=true↔(cA v).2.2=0∧aJ v []≠[]:=by
 rw [jH,Bool.and_eq_true,decide_eq_true_eq,E7]
theorem XX {v:Net} (hs:jH v=true):eS v=0:=by
 obtain ⟨hc,hne⟩:=kS.1 hs
 rw [eS,hc]
 simp [fZ,hne]
theorem aKH {v:Net} (hs:jH v=true) {t:Nat} (ht:t<v.trams.length):hJ v (t:Int)=0:=by
 obtain ⟨hc,hne⟩:=kS.1 hs
 have hin:inR (t:Int) 0 ((v.trams.length:Int)-1)=true:=d5.2 (by omega)
 simp [hJ,fZ,hc,hne,hin]
theorem nD {v:Net} (hs:jH v=true) {t:Nat} (ht:t<v.trams.length):kP v (t:Int)=((bR (dY v (aJ v []) t)).1,(bR (dY v (aJ v []) t)).2,0):=by
 rw [kP,if_pos (aKH hs ht),Int.toNat_natCast]
theorem uL {v:Net} (hs:jH v=true):oW v=(j8 v (aJ v []),kQ v (aJ v []),0):=if_pos (XX hs)
theorem GI {v:Net} (hs:jH v=true):qH v=(sQ v (aJ v []),zU v (aJ v []),0):=if_pos (XX hs)
theorem gX {l:List Int} {c:Int}:c∈dF l↔c∈l∧c≠-1:=by
 rw [dF,List.mem_filter];simp
theorem mT {l:List Int} {c:Int} (h:c∈l) (hc:c≠-1):(bR l).1.lo≤c∧c≤(bR l).1.hi:=by
 have hm:=gX.2 ⟨h,hc⟩
 exact (mL (List.ne_nil_of_mem hm)).2.2 _ hm
theorem vX {l:List Int} (h:dF l≠[]):(bR l).1.lo∈dF l∧(bR l).1.hi∈dF l:=by
 have:=mL h
 exact ⟨this.1,this.2.1⟩
theorem oR {l:List Int} (h:l≠[]):(bR l).2=2↔dF l=[]:=by
 have hl:l.length≠0:=fun e=>h (List.length_eq_zero_iff.1 e)
 simp only [bR,eP]
 constructor
 ·intro q
  split at q
  ·cases q
  ·split at q
   ·rename_i q2 q3;exact List.length_eq_zero_iff.1 (by simpa using q3)
   ·cases q
 ·intro q
  rw [q]
  simp only [List.length_nil]
  rw [if_neg (by omega)]
  simp
theorem wB {l:List Int} (h:l≠[]):(bR l).2=1↔∀ c∈l,c≠-1:=by
 simp only [bR,eP]
 have hf:(dF l).length=l.length↔∀ c∈l,c≠-1:=by
  rw [dF,List.length_filter_eq_length_iff];simp
 constructor
 ·intro q
  split at q
  ·rename_i q2;exact hf.1 (by simpa using q2)
  ·split at q<;>cases q
 ·intro q
  rw [if_pos (by have:=hf.2 q;simpa using this)]
variable {α:Type}
structure Cells (enc:α→AV) (c:α→List AV) (sz:Nat):Prop where
 agg:∀ x,enc x = .agg (c x)
 len:∀ x,(c x).length=sz
 one:sz≠1∧sz≠0
 cell:∀ x,(c x).all (·.cell)=true
 data:∀ x,mD (enc x)
variable {enc:α→AV} {c:α→List AV} {sz:Nat}
theorem oN (h:Cells enc c sz) (l:List α):aM sz (l.map enc)=true:=rR sz enc l fun y=>by
 rw [h.agg]
 simp only [cO,AV.cells,h.len,beq_self_eq_true,Bool.true_and]
 exact h.cell y
end Go.Am.Room
namespace Go.Am.Room
def dS (v:Net) (l:List Seen):Net:={ v with seen:=l }
theorem IF (v:Net) (l:List Seen) (m:Int→Int) (ps:List (List Int)):∀ k,dB (dS v l) m ps k=dB v m ps k
 |0=>rfl
 |k+1=>by simp only [dB,IF v l m ps k];rfl
theorem pB (v:Net) (l:List Seen) (s:State):aX (dS v l) s=aX v s:=by
 simp only [aX,iO,IF];rfl
theorem E9 (v:Net) (l:List Seen) (t:Int) (s:State):mF (dS v l) t s=mF v t s:=by
 simp only [mF,pB];rfl
theorem V1 (v:Net) (l:List Seen) (ts:List State) (t:Nat):dY (dS v l) ts t=dY v ts t:=by
 simp only [dY,pB]
def more (v:Net) (x:Seen):Net:=dS v (v.seen++[x])
theorem S2 {v:Net} {x:Seen} {s:State} (h:s∈aJ (more v x) []):s∈aJ v []:=by
 obtain ⟨h1,h2⟩:=List.mem_filter.1 h
 refine List.mem_filter.2 ⟨h1,?_⟩
 rw [more,pB] at h2
 simp only [jZ,List.all_eq_true,List.mem_range] at h2 ⊢
 intro k hk
 have:=h2 k (by simp only [more,dS,List.length_append];omega)
 simp only [more,dS,List.getElem?_append_left hk] at this
 exact this
theorem rJ {p q:Int→Bool} (h:∀ t,p t=true→q t=true) (l:List Int):(l.filter p).all (l.filter q).contains=true:=by
 rw [List.all_eq_true]
 intro t ht
 obtain ⟨h1,h2⟩:=List.mem_filter.1 ht
 exact List.contains_iff_mem.2 (List.mem_filter.2 ⟨h1,h t h2⟩)
theorem PW {v:Net} {x:Seen} {ts ms:List State} (h:∀ s∈ms,s∈ts):(sQ v ts).all (sQ (more v x) ms).contains=true :=
 rJ (fun r hr=>List.all_eq_true.2 fun s hs=>(List.all_eq_true.1 hr) s (h s hs)) _
theorem UC {v:Net} {x:Seen} {ts ms:List State} (h:∀ s∈ms,s∈ts):(zU (more v x) ms).all (zU v ts).contains=true :=
 rJ (fun r hr=>by
  obtain ⟨s,hs,q⟩:=List.any_eq_true.1 hr
  exact List.any_eq_true.2 ⟨s,h s hs,q⟩) _
theorem MQ {v:Net} {x:Seen} {ts ms:List State} (h:∀ s∈ms,s∈ts):(j8 v ts).all (j8 (more v x) ms).contains=true :=
 rJ (fun r hr=>List.all_eq_true.2 fun s hs=>by rw [more,E9];exact (List.all_eq_true.1 hr) s (h s hs)) _
theorem QU {v:Net} {x:Seen} {ts ms:List State} (h:∀ s∈ms,s∈ts):(kQ (more v x) ms).all (kQ v ts).contains=true :=
 rJ (fun r hr=>by
  obtain ⟨s,hs,q⟩:=List.any_eq_true.1 hr
  rw [more,E9] at q
  exact List.any_eq_true.2 ⟨s,h s hs,q⟩) _
theorem PR {A M:List Int} (h:∀ c∈M,c∈A) (hM:M≠[]):((bR A).2≠0→(bR A).2=(bR M).2)∧((bR M).2≠2→(bR A).1.lo≤(bR M).1.lo∧(bR M).1.hi≤(bR A).1.hi):=by
 have hA:A≠[]:=fun e=>by
  obtain ⟨c,hc⟩:=List.exists_mem_of_ne_nil _ hM
  have:=h c hc
  rw [e] at this
  cases this
 constructor
 ·intro q
  have hk:(bR A).2=1∨(bR A).2=2∨(bR A).2=0:=by
   simp only [bR,eP]
   split
   ·exact .inl rfl
   ·split
    ·exact .inr (.inl rfl)
    ·exact .inr (.inr rfl)
  rcases hk with k|k|k
  ·rw [k,(wB hM).2 fun c hc=>(wB hA).1 k c (h c hc)]
  ·have hr:=(oR hA).1 k
   rw [k,(oR hM).2 ?_]
   rw [List.eq_nil_iff_forall_not_mem]
   intro c hc
   obtain ⟨h1,h2⟩:=gX.1 hc
   have:=gX.2 ⟨h c h1,h2⟩
   rw [hr] at this
   cases this
  ·exact absurd k q
 ·intro q
  have hr:dF M≠[]:=fun e=>q ((oR hM).2 e)
  obtain ⟨a,b⟩:=vX hr
  have ha:=gX.1 a
  have hb:=gX.1 b
  exact ⟨(mT (h _ ha.1) ha.2).1,(mT (h _ hb.1) hb.2).2⟩
end Go.Am.Room
set_option maxRecDepth 8000
namespace Go.Am.Room
def cH:=And.intro @bH (And.intro @aI (And.intro @aW (And.intro @aT (And.intro @aS (And.intro @aR (And.intro @bF (And.intro @bC (And.intro @bA (And.intro @dH (And.intro @List.length_append.{0} (@Int.toNat_natCast)))))))))))
def nN (x:Seen):List AV:=[.int .i64 x.tram,.int .i64 x.minute]
theorem nH:Cells bN nN 2:=⟨fun x=>by simp only [bN,nN],fun x=>rfl,by decide,fun x=>rfl,oQ⟩
def BH (v:Net) (y:Seen) (tk:Option Nat):List AV:=[.int .i64 v.stations,.lit (v.rails.map cF) false none,.lit (v.trams.map aZ) false none,.lit ((v.seen++[y]).map bN) false tk]
theorem VO (v:Net) (y:Seen):aB (more v y)=BH v y none:=by simp [aB,BH,more,dS]
theorem Q8 (v:Net) (y:Seen) (σ:St):E4 σ 3 (BH v y (some 3)) (BH v y none):=by
 have h1:okV 3 (.lit (v.rails.map cF) false none):=okV_up _ (fJ jM v.rails).1
 have h2:okV 3 (.lit (v.trams.map aZ) false none):=okV_up _ (fJ iX v.trams).1
 refine ⟨.inl ⟨rfl,trivial⟩,.inl ⟨rfl,h1⟩,.inl ⟨rfl,h2⟩,.inr ⟨20,_,?_,.inl rfl⟩,trivial⟩
 simp only [snap,snaps_ok0 σ 3 20 _ (bL oQ (v.seen++[y])).1]
 simp [Option.filter]
set_option maxHeartbeats 2000000 in
theorem H4 (v:Net) (y:Seen) (hf:Fits v) (hbig:v.seen.length*16≤140737488351232):dR T 12 [bI v,bN y] (.bool true):=by
 refine A1 (af:=a12) rfl (by simp [a12]) dd ?_
 have hfm:Fits (more v y):=⟨hf.rails,hf.trams,by simp [more,dS];omega,hf.names,hf.paths⟩
 simp only [a12]
 refine NP (fun ev σ=>Env.get ev 2 = .ptr 0 0∧Env.get ev 3 = .ptr 1 0∧σ=[.cells (aB v),.cells (nN y)]) ?_ fun ev σ ⟨e3,e4,hσ⟩=>?_
 ·(repeat (first|simp only [↓QA,QB,Nat.reduceLT,reduceIte,Nat.reduceEqDiff,Nat.reduceAdd,Nat.reduceLeDiff,Nat.reduceMul,Nat.reduceBEq,cH,nN]|refine rd0 rfl ?_))
 subst hσ
 refine MT (fun ev σ=>∃ ex,Env.get ev 2 = .ptr 0 0∧Env.get ev 5 = .ptr 2 0∧σ=[.cells (aB v),.cells (nN y),.cells (BH v y (some 3)),.tok 2 (v.seen.length+1) ex])
  (fun ev σ=>Env.get ev 2 = .ptr 0 0∧Env.get ev 5 = .ptr 2 0∧σ=[.cells (aB v),.cells (nN y),.cells (aB (more v y))]) ?_ ?_ ?_
 ·have hy1:aM 2 [bN y]=true:=oN nH [y]
  have hal:=oN nH v.seen
  by_cases hlk:v.seen=[]
  ·have hnil:List.map bN v.seen=[]:=by rw [hlk];rfl
   have hm:List.map bN (v.seen++[y])=[bN y]:=by rw [hlk];rfl
   have hl0:v.seen.length=0:=by rw [hlk];rfl
   have q2:∀ σ:St,dD 2 16 σ (.lit [] true none) (.lit [bN y] true none)=some (.lit [bN y] false (some σ.length),σ++[.tok 2 1 true]):=fun σ=>rD (xs:=[]) ⟨rfl,hy1,by simp [room],by simp [room]⟩ (by simp)
   simp only [aS] at q2
   (repeat (first|simp only [↓QA,QB,Nat.reduceLT,reduceIte,Nat.reduceEqDiff,Nat.reduceAdd,Nat.reduceLeDiff,Nat.reduceMul,Nat.reduceBEq,cH,e3,e4,hnil,HE,q2,nN]|refine rd0 rfl ?_))
   refine ⟨true,?_⟩
   try simp only [aE,QE,Nat.reduceLT,reduceIte,Nat.reduceEqDiff,Nat.reduceAdd,Nat.reduceLeDiff,Nat.reduceMul,Nat.reduceBEq,cH,e3,BH,hm,hl0,nN]
  ·have hl1:(v.seen.map bN).length≠0:=by simpa using hlk
   have q1:∀ σ:St,dD 2 16 σ (.lit [] true none) (.lit (v.seen.map bN) false none)=some (.lit (v.seen.map bN) false (some σ.length),σ++[.tok 2 v.seen.length true]):=fun σ=>by
    rw [rD (xs:=[]) ⟨rfl,hal,by simp [room];omega,by simp [room];omega⟩ hl1];simp
   have q2:∀ (b0 b1 b2:ABlk),dD 2 16 [b0,b1,b2,.tok 2 v.seen.length true] (.lit (v.seen.map bN) false (some 3)) (.lit [bN y] true none)=some (.lit ((v.seen++[y]).map bN) false (some 3),[b0,b1,b2,.tok 2 (v.seen.length+1) true]):=fun b0 b1 b2=>by
    rw [uG (ex:=true) ⟨hal,hy1,by simp [room];omega,by simp [room];omega⟩ (by simp) (by simp)];simp
   simp only [aS] at q2
   (repeat (first|simp only [↓QA,QB,Nat.reduceLT,reduceIte,Nat.reduceEqDiff,Nat.reduceAdd,Nat.reduceLeDiff,Nat.reduceMul,Nat.reduceBEq,cH,e3,e4,q1,q2,nN]|refine rd0 rfl ?_))
   refine ⟨true,?_⟩
   try simp only [aE,QE,Nat.reduceLT,reduceIte,Nat.reduceEqDiff,Nat.reduceAdd,Nat.reduceLeDiff,Nat.reduceMul,Nat.reduceBEq,cH,e3,BH,nN]
 ·rintro ev σ ⟨ex,q3,q5,rfl⟩
  refine ⟨[(2,.ptr 0 0),(5,.ptr 2 0)],[.cells (aB v),.cells (nN y),.cells (aB (more v y))],_,_,⟨by simp,by simp,⟨.inl ⟨q3.symm,by simp [okV,q3]⟩,.inl ⟨q5.symm,by simp [okV,q5]⟩,trivial⟩,fun i hi=>?_⟩,.inl ⟨rfl,rfl⟩,rfl,rfl,rfl⟩
  match i,hi with
  |0,_=>exact ⟨_,rfl,.inl ⟨by simp,.inl rfl,rfl⟩⟩
  |1,_=>exact ⟨_,rfl,.inl ⟨by simp,.inl rfl,rfl⟩⟩
  |2,_=>exact ⟨_,rfl,.inr (.inr ⟨_,_,rfl,by rw [VO],Q8 v y _,.inl (by simp)⟩)⟩
  |i+3,h=>simp at h;omega
 ·rintro ev σ ⟨e3,e5,rfl⟩
  refine B5 ?_
  cases hs:jH v
  ·(repeat (first|simp only [↓QA,QB,Nat.reduceLT,reduceIte,Nat.reduceEqDiff,Nat.reduceAdd,Nat.reduceLeDiff,Nat.reduceMul,Nat.reduceBEq,cH,e3,e5]|refine rd0 rfl ?_))
   ((first|refine aC (fP v hf) rfl dd ?_|refine aD (fP v hf) rfl dd ?_);(repeat (first|simp only [↓QA,QB,Nat.reduceLT,reduceIte,Nat.reduceEqDiff,Nat.reduceAdd,Nat.reduceLeDiff,Nat.reduceMul,Nat.reduceBEq,cH,hs,e3,e5]|refine rd0 rfl ?_)))
   refine aC fH rfl bP ?_
   (repeat (first|simp only [↓QA,QB,Nat.reduceLT,reduceIte,Nat.reduceEqDiff,Nat.reduceAdd,Nat.reduceLeDiff,Nat.reduceMul,Nat.reduceBEq,cH]|refine rd0 rfl ?_))
  ·cases hm:jH (more v y)
   ·(repeat (first|simp only [↓QA,QB,Nat.reduceLT,reduceIte,Nat.reduceEqDiff,Nat.reduceAdd,Nat.reduceLeDiff,Nat.reduceMul,Nat.reduceBEq,cH,e3,e5]|refine rd0 rfl ?_))
    ((first|refine aC (fP v hf) rfl dd ?_|refine aD (fP v hf) rfl dd ?_);(repeat (first|simp only [↓QA,QB,Nat.reduceLT,reduceIte,Nat.reduceEqDiff,Nat.reduceAdd,Nat.reduceLeDiff,Nat.reduceMul,Nat.reduceBEq,cH,hs,e3,e5]|refine rd0 rfl ?_)))
    ((first|refine aC (fP (more v y) hfm) rfl dd ?_|refine aD (fP (more v y) hfm) rfl dd ?_);(repeat (first|simp only [↓QA,QB,Nat.reduceLT,reduceIte,Nat.reduceEqDiff,Nat.reduceAdd,Nat.reduceLeDiff,Nat.reduceMul,Nat.reduceBEq,cH,hm,e3,e5]|refine rd0 rfl ?_)))
    refine aC fH rfl bP ?_
    (repeat (first|simp only [↓QA,QB,Nat.reduceLT,reduceIte,Nat.reduceEqDiff,Nat.reduceAdd,Nat.reduceLeDiff,Nat.reduceMul,Nat.reduceBEq,cH]|refine rd0 rfl ?_))
   ·obtain ⟨hc,hne⟩:=kS.1 hs
    obtain ⟨hcm,hnem⟩:=kS.1 hm
    have hv:=eB hc
    have hnt:=hv.ntr
    have e1:=GI hs
    have e2:=GI hm
    have e4:=uL hs
    have e6:=uL hm
    have b1:=GR v
    have b2:=GR (more v y)
    have b3:=uH v
    have b4:=uH (more v y)
    have hsub:∀ s∈aJ (more v y) [],s∈aJ v []:=fun s h=>S2 h
    have g1:=PW (v:=v) (x:=y) hsub
    have g2:=UC (v:=v) (x:=y) hsub
    have g3:=MQ (v:=v) (x:=y) hsub
    have g4:=QU (v:=v) (x:=y) hsub
    have hct:=fun t ht=>nD (v:=v) hs (t:=t) ht
    have hcu:∀ t,t<v.trams.length→kP (more v y) (t:Int)=((bR (dY v (aJ (more v y) []) t)).1,(bR (dY v (aJ (more v y) []) t)).2,0):=fun t ht=>by
     rw [nD (v:=more v y) hm (t:=t) ht,more,V1]
    have hsp:∀ t,_:=fun t=>PR (A:=dY v (aJ v []) t) (M:=dY v (aJ (more v y) []) t) (fun c hc=>by
     obtain ⟨s,hs,rfl⟩:=List.mem_map.1 hc
     exact List.mem_map.2 ⟨s,hsub s hs,rfl⟩) (by simpa [dY] using hnem)
    rw [e1] at b1
    rw [e2] at b2
    rw [e4] at b3
    rw [e6] at b4
    simp only at b1 b2 b3 b4
    obtain ⟨ts,htse⟩:∃ ts,aJ v []=ts:=⟨_,rfl⟩
    obtain ⟨us,huse⟩:∃ us,aJ (more v y) []=us:=⟨_,rfl⟩
    simp only [htse,huse] at e1 e2 e4 e6 b1 b2 b3 b4 g1 g2 g3 g4 hct hcu hsp
    obtain ⟨A,hA⟩:∃ l,sQ v ts=l:=⟨_,rfl⟩
    obtain ⟨B,hB⟩:∃ l,zU v ts=l:=⟨_,rfl⟩
    obtain ⟨C,hC⟩:∃ l,sQ (more v y) us=l:=⟨_,rfl⟩
    obtain ⟨D,hD⟩:∃ l,zU (more v y) us=l:=⟨_,rfl⟩
    obtain ⟨A2,hA2⟩:∃ l,j8 v ts=l:=⟨_,rfl⟩
    obtain ⟨B2,hB2⟩:∃ l,kQ v ts=l:=⟨_,rfl⟩
    obtain ⟨C2,hC2⟩:∃ l,j8 (more v y) us=l:=⟨_,rfl⟩
    obtain ⟨D2,hD2⟩:∃ l,kQ (more v y) us=l:=⟨_,rfl⟩
    rw [hA,hB] at e1 b1
    rw [hC,hD] at e2 b2
    rw [hA2,hB2] at e4 b3
    rw [hC2,hD2] at e6 b4
    rw [hA,hC] at g1
    rw [hB,hD] at g2
    rw [hA2,hC2] at g3
    rw [hB2,hD2] at g4
    have okz:((0:Int)==0)=true:=rfl
    (repeat (first|simp only [↓QA,QB,Nat.reduceLT,reduceIte,Nat.reduceEqDiff,Nat.reduceAdd,Nat.reduceLeDiff,Nat.reduceMul,Nat.reduceBEq,cH,e3,e5]|refine rd0 rfl ?_))
    ((first|refine aC (fP v hf) rfl dd ?_|refine aD (fP v hf) rfl dd ?_);(repeat (first|simp only [↓QA,QB,Nat.reduceLT,reduceIte,Nat.reduceEqDiff,Nat.reduceAdd,Nat.reduceLeDiff,Nat.reduceMul,Nat.reduceBEq,cH,hs,e3,e5]|refine rd0 rfl ?_)))
    ((first|refine aC (fP (more v y) hfm) rfl dd ?_|refine aD (fP (more v y) hfm) rfl dd ?_);(repeat (first|simp only [↓QA,QB,Nat.reduceLT,reduceIte,Nat.reduceEqDiff,Nat.reduceAdd,Nat.reduceLeDiff,Nat.reduceMul,Nat.reduceBEq,cH,hm,e3,e5]|refine rd0 rfl ?_)))
    ((first|refine aC (nB v hf) rfl dd ?_|refine aD (nB v hf) rfl dd ?_);(repeat (first|simp only [↓QA,QB,Nat.reduceLT,reduceIte,Nat.reduceEqDiff,Nat.reduceAdd,Nat.reduceLeDiff,Nat.reduceMul,Nat.reduceBEq,cH,e1,jT,e3,e5]|refine rd0 rfl ?_)))
    ((first|refine aC (nB (more v y) hfm) rfl dd ?_|refine aD (nB (more v y) hfm) rfl dd ?_);(repeat (first|simp only [↓QA,QB,Nat.reduceLT,reduceIte,Nat.reduceEqDiff,Nat.reduceAdd,Nat.reduceLeDiff,Nat.reduceMul,Nat.reduceBEq,cH,e2,jT,e3,e5]|refine rd0 rfl ?_)))
    ((first|refine aC (gN v hf) rfl dd ?_|refine aD (gN v hf) rfl dd ?_);(repeat (first|simp only [↓QA,QB,Nat.reduceLT,reduceIte,Nat.reduceEqDiff,Nat.reduceAdd,Nat.reduceLeDiff,Nat.reduceMul,Nat.reduceBEq,cH,e4,jT,e3,e5]|refine rd0 rfl ?_)))
    ((first|refine aC (gN (more v y) hfm) rfl dd ?_|refine aD (gN (more v y) hfm) rfl dd ?_);(repeat (first|simp only [↓QA,QB,Nat.reduceLT,reduceIte,Nat.reduceEqDiff,Nat.reduceAdd,Nat.reduceLeDiff,Nat.reduceMul,Nat.reduceBEq,cH,e6,jT,e3,e5,okz]|refine rd0 rfl ?_)))
    ((first|refine aC (g9 A C (by omega) (by omega)) rfl dd ?_|refine aD (g9 A C (by omega) (by omega)) rfl dd ?_);(repeat (first|simp only [↓QA,QB,Nat.reduceLT,reduceIte,Nat.reduceEqDiff,Nat.reduceAdd,Nat.reduceLeDiff,Nat.reduceMul,Nat.reduceBEq,cH,g1]|refine rd0 rfl ?_)))
    ((first|refine aC (g9 D B (by omega) (by omega)) rfl dd ?_|refine aD (g9 D B (by omega) (by omega)) rfl dd ?_);(repeat (first|simp only [↓QA,QB,Nat.reduceLT,reduceIte,Nat.reduceEqDiff,Nat.reduceAdd,Nat.reduceLeDiff,Nat.reduceMul,Nat.reduceBEq,cH,g2]|refine rd0 rfl ?_)))
    ((first|refine aC (g9 A2 C2 (by omega) (by omega)) rfl dd ?_|refine aD (g9 A2 C2 (by omega) (by omega)) rfl dd ?_);(repeat (first|simp only [↓QA,QB,Nat.reduceLT,reduceIte,Nat.reduceEqDiff,Nat.reduceAdd,Nat.reduceLeDiff,Nat.reduceMul,Nat.reduceBEq,cH,g3]|refine rd0 rfl ?_)))
    ((first|refine aC (g9 D2 B2 (by omega) (by omega)) rfl dd ?_|refine aD (g9 D2 B2 (by omega) (by omega)) rfl dd ?_);(repeat (first|simp only [↓QA,QB,Nat.reduceLT,reduceIte,Nat.reduceEqDiff,Nat.reduceAdd,Nat.reduceLeDiff,Nat.reduceMul,Nat.reduceBEq,cH,g4]|refine rd0 rfl ?_)))
    refine bY (S:=Nat) 0 (fun p=>p≤v.trams.length) (fun p=>v.trams.length-p)
     (fun p=>[(2,.ptr 0 0),(5,.ptr 2 0),(18,.int .i64 p)]) (fun _=>[.cells (aB v),.cells (nN y),.cells (aB (more v y))]) (by simp) (by simp [aB,ints]) ?_ fun p hp=>?_
    ·try simp only [aE,QE,Nat.reduceLT,reduceIte,Nat.reduceEqDiff,Nat.reduceAdd,Nat.reduceLeDiff,Nat.reduceMul,Nat.reduceBEq,cH,e3,e5]
     try simp
    ·(repeat (first|simp only [↓QA,QB,Nat.reduceLT,reduceIte,Nat.reduceEqDiff,Nat.reduceAdd,Nat.reduceLeDiff,Nat.reduceMul,Nat.reduceBEq,cH,aAZ]|refine rd0 rfl ?_))
     refine aG (fun h=>?_) fun h=>?_
     ·have hp1:p<v.trams.length:=by simpa using h
      have hw:=bX hp1 (by omega)
      have h1:=hct p hp1
      have h2:=hcu p hp1
      obtain ⟨h3,h4⟩:=hsp p
      obtain ⟨⟨⟨l1,u1⟩,k1⟩,hq1⟩:∃ q,bR (dY v ts p)=q:=⟨_,rfl⟩
      obtain ⟨⟨⟨l2,u2⟩,k2⟩,hq2⟩:∃ q,bR (dY v us p)=q:=⟨_,rfl⟩
      rw [hq1] at h1 h3 h4
      rw [hq2] at h2 h3 h4
      simp only at h1 h2 h3 h4
      (repeat (first|simp only [↓QA,QB,Nat.reduceLT,reduceIte,Nat.reduceEqDiff,Nat.reduceAdd,Nat.reduceLeDiff,Nat.reduceMul,Nat.reduceBEq,cH]|refine rd0 rfl ?_))
      ((first|refine aC (dJ v hf p) rfl dd ?_|refine aD (dJ v hf p) rfl dd ?_);(repeat (first|simp only [↓QA,QB,Nat.reduceLT,reduceIte,Nat.reduceEqDiff,Nat.reduceAdd,Nat.reduceLeDiff,Nat.reduceMul,Nat.reduceBEq,cH,h1,kA]|refine rd0 rfl ?_)))
      ((first|refine aC (dJ (more v y) hfm p) rfl dd ?_|refine aD (dJ (more v y) hfm p) rfl dd ?_);(repeat (first|simp only [↓QA,QB,Nat.reduceLT,reduceIte,Nat.reduceEqDiff,Nat.reduceAdd,Nat.reduceLeDiff,Nat.reduceMul,Nat.reduceBEq,cH,h2,kA,okz]|refine rd0 rfl ?_)))
      cases c1:(k1==0)
      ·have c2:(k1==k2)=true:=by simpa using h3 (by simpa using c1)
       cases c3:(k2==2)
       ·obtain ⟨h5,h6⟩:=h4 (by simpa using c3)
        have d1:decide (l2<l1)=false:=by simpa using h5
        have d2:decide (u1<u2)=false:=by simpa using h6
        (repeat (first|simp only [↓QA,QB,Nat.reduceLT,reduceIte,Nat.reduceEqDiff,Nat.reduceAdd,Nat.reduceLeDiff,Nat.reduceMul,Nat.reduceBEq,cH,c1,c2,c3,d1,d2,hw]|refine rd0 rfl ?_))
        refine ⟨p+1,by omega,by omega,?_⟩
        try simp only [aE,QE,Nat.reduceLT,reduceIte,Nat.reduceEqDiff,Nat.reduceAdd,Nat.reduceLeDiff,Nat.reduceMul,Nat.reduceBEq,cH,hw]
        try simp [aL]
       ·(repeat (first|simp only [↓QA,QB,Nat.reduceLT,reduceIte,Nat.reduceEqDiff,Nat.reduceAdd,Nat.reduceLeDiff,Nat.reduceMul,Nat.reduceBEq,cH,c1,c2,c3,hw]|refine rd0 rfl ?_))
        refine ⟨p+1,by omega,by omega,?_⟩
        try simp only [aE,QE,Nat.reduceLT,reduceIte,Nat.reduceEqDiff,Nat.reduceAdd,Nat.reduceLeDiff,Nat.reduceMul,Nat.reduceBEq,cH,hw]
        try simp [aL]
      ·cases c3:(k2==2)
       ·obtain ⟨h5,h6⟩:=h4 (by simpa using c3)
        have d1:decide (l2<l1)=false:=by simpa using h5
        have d2:decide (u1<u2)=false:=by simpa using h6
        (repeat (first|simp only [↓QA,QB,Nat.reduceLT,reduceIte,Nat.reduceEqDiff,Nat.reduceAdd,Nat.reduceLeDiff,Nat.reduceMul,Nat.reduceBEq,cH,c1,c3,d1,d2,hw]|refine rd0 rfl ?_))
        refine ⟨p+1,by omega,by omega,?_⟩
        try simp only [aE,QE,Nat.reduceLT,reduceIte,Nat.reduceEqDiff,Nat.reduceAdd,Nat.reduceLeDiff,Nat.reduceMul,Nat.reduceBEq,cH,hw]
        try simp [aL]
       ·(repeat (first|simp only [↓QA,QB,Nat.reduceLT,reduceIte,Nat.reduceEqDiff,Nat.reduceAdd,Nat.reduceLeDiff,Nat.reduceMul,Nat.reduceBEq,cH,c1,c3,hw]|refine rd0 rfl ?_))
        refine ⟨p+1,by omega,by omega,?_⟩
        try simp only [aE,QE,Nat.reduceLT,reduceIte,Nat.reduceEqDiff,Nat.reduceAdd,Nat.reduceLeDiff,Nat.reduceMul,Nat.reduceBEq,cH,hw]
        try simp [aL]
     ·(repeat (first|simp only [↓QA,QB,Nat.reduceLT,reduceIte,Nat.reduceEqDiff,Nat.reduceAdd,Nat.reduceLeDiff,Nat.reduceMul,Nat.reduceBEq,cH]|refine rd0 rfl ?_))
      refine aC fH rfl bP ?_
      (repeat (first|simp only [↓QA,QB,Nat.reduceLT,reduceIte,Nat.reduceEqDiff,Nat.reduceAdd,Nat.reduceLeDiff,Nat.reduceMul,Nat.reduceBEq,cH]|refine rd0 rfl ?_))
end Go.Am.Room
