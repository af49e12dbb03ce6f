/- A part of the proofs: an abstract machine, or what functions come to on it. -/
import Derived.Test.YtnjlkiflililkaaOutQ4
set_option linter.unusedVariables false
set_option linter.unusedSimpArgs false
set_option linter.defProp false
set_option maxRecDepth 4000
namespace Go.Am.Room
def fK:=And.intro @bH (And.intro @aI (And.intro @aW (And.intro @aT (And.intro @aS (And.intro @aR (And.intro @bF (And.intro @bC (And.intro @bA (And.intro @dH (And.intro @d6 (And.intro @Nat.not_lt_zero (And.intro @List.length_append.{0} (And.intro @Nat.add_lt_add_iff_left (And.intro @Nat.lt_add_right_iff_pos (And.intro @Nat.mul_one (@Int.toNat_natCast))))))))))))))))
def CJ (σ:St) (v:Net) (b:Nat):St:=σ++[.cells (aB v),.map [],.cells (db v b (σ.length+1))]
theorem JV (σ:St) (v:Net) (b:Nat):BZ T (.func 92 [] []) [bI v,.int .i64 b] σ (.ptr (σ.length+2) 0) (CJ σ v b):=by
 refine .callf (.call (af:=a92) rfl (by simp [a92]) (iL (K:=fun j e σ1=>(j=none∨j=some .ret)∧Env.get e 4 = .ptr (σ.length+2) 0∧σ1=CJ σ v b) ?_ fun o ho=>ho) fun o ho=>?_)
 ·(repeat (first|simp only [↓QA,QB,Nat.reduceLT,reduceIte,Nat.reduceEqDiff,Nat.reduceAdd,Nat.reduceLeDiff,Nat.reduceMul,Nat.reduceBEq,fK,a92,List.length_append,CJ,db]|refine rd0 rfl ?_))
  try simp [db,aB,ints]
 ·exact ⟨ho.1,_,rfl,.inl ⟨ho.2.1,ho.2.2⟩⟩
theorem tP (v:Net) (A:List K5) (k:Nat):aL k (.map (tEs v A)):=aDQ (C6 v) A k
def mI (σ:St) (v:Net) (A:List K5):St:=σ++[.cells (aB v),.cells (aB v),.map (tEs v A),.cells (db v 0 (σ.length+2))]
theorem B6 (σ:St) (v:Net):MemAt (mI σ v) (db v 0 (σ.length+2)) (tEs v) (σ.length+3) (σ.length+2) (σ.length+4) :=
 ⟨fun M=>by simp [mI],fun M=>by simp [mI,sW,sI,U8],fun M=>by rw [mI,sX];rfl,fun M M'=>by rw [mI,mI,p9];rfl,fun A k=>tP v A k,by omega,by omega⟩
def D4:List Int→Bool
 |[t,n]=>inR t 0 (n-1)
 |_=>true
def xI (v:Net) (ns:List Int):Int:=fZ v (if (cA v).2.2=0 then (if D4 ns=true then 0 else 4) else (cA v).2.2)
theorem nG (v:Net):xI v []=eS v:=by
 have:(if (cA v).2.2=0 then (if D4 []=true then 0 else 4) else (cA v).2.2:Int)=(cA v).2.2:=by
  split
  ·rename_i h;simp [D4,h]
  ·rfl
 rw [xI,this];rfl
theorem UK (v:Net) (t:Int):xI v [t,v.trams.length]=hJ v t:=rfl
def nS (v:Net) (ns:List Int) (k:Nat):AV:=if xI v ns=0 then .tuple [.ptr (k+3) 0,.int .i64 0] else .tuple [.nilPtr,.int .i64 (xI v ns)]
def qQ (v:Net):List K5:=HZ v [] []
def sE (σ:St) (v:Net) (ns:List Int):St:=if xI v ns=0 then mI σ v (qQ v) else σ
theorem uI (σ:St) (v:Net) (ns:List Int) (hns:ns=[]∨∃ t,ns=[t,(v.trams.length:Int)]) (hf:Fits v):BZ T (.func 79 [] []) [bI v,.lit (ns.map (.int .i64)) true none] σ (nS v ns σ.length) (sE σ v ns):=by
 refine .callf (.call (af:=a79) rfl (by simp [a79]) (iL (K:=fun j e σ1=>(j=none∨j=some .ret)∧(if xI v ns=0 then Env.get e 4 = .ptr (σ.length+3) 0∧Env.get e 5 = .int .i64 0∧σ1=mI σ v (qQ v) else Env.get e 4 = .nilPtr∧Env.get e 5 = .int .i64 (xI v ns)∧∃ τ,σ1=σ++τ)) ?_ fun o ho=>ho) fun o ho=>?_)
 ·obtain ⟨E,hE⟩:∃ E,xI v ns=E:=⟨_,rfl⟩
  rw [hE]
  rw [xI] at hE
  (repeat (first|simp only [↓QA,QB,Nat.reduceLT,reduceIte,Nat.reduceEqDiff,Nat.reduceAdd,Nat.reduceLeDiff,Nat.reduceMul,Nat.reduceBEq,fK,a79]|refine rd0 rfl ?_))
  ((first|refine aC (nJ v hf) rfl dd ?_|refine aD (nJ v hf) rfl dd ?_);(repeat (first|simp only [↓QA,QB,Nat.reduceLT,reduceIte,Nat.reduceEqDiff,Nat.reduceAdd,Nat.reduceLeDiff,Nat.reduceMul,Nat.reduceBEq,fK,qN]|refine rd0 rfl ?_)))
  cases h0:((cA v).2.2==0)
  ·have h0':(cA v).2.2≠0:=by simpa using h0
   have he:E=(cA v).2.2:=by rw [←hE];simp [h0',fZ]
   (repeat (first|simp only [↓QA,QB,Nat.reduceLT,reduceIte,Nat.reduceEqDiff,Nat.reduceAdd,Nat.reduceLeDiff,Nat.reduceMul,Nat.reduceBEq,fK,h0]|refine rd0 rfl ?_))
   rw [he,if_neg h0']
   simp
  ·have h0':(cA v).2.2=0:=by simpa using h0
   have hv:=eB h0'
   have hnt:=hv.ntr
   rw [if_pos h0'] at hE
   have hlk:=JV (σ++[.cells (aB v)]) v 0
   have hso:=EX (B6 σ v) hv PT []
   have e0:tEs v []=[]:=rfl
   simp only [mI,CJ,e0] at hso hlk
   try simp only [↓QA,QB,Nat.reduceLT,reduceIte,Nat.reduceEqDiff,Nat.reduceAdd,Nat.reduceLeDiff,Nat.reduceMul,Nat.reduceBEq,fK,List.append_assoc] at hso hlk
   have tail:D4 ns=true→(if (aJ v []).isEmpty then 8 else 0)=E:=fun q=>by
    rw [q] at hE;simpa [fZ] using hE
   have hk0:σ.length<σ.length+1:=by omega
   rcases hns with rfl|⟨t,rfl⟩
   ·have tl:=tail rfl
    have w01:IntKind.i64.wrap ((0:Int)+1)=1:=rfl
    have d01:decide ((1:Int)<((0:Nat):Int))=false:=rfl
    (repeat (first|simp only [↓QA,QB,Nat.reduceLT,reduceIte,Nat.reduceEqDiff,Nat.reduceAdd,Nat.reduceLeDiff,Nat.reduceMul,Nat.reduceBEq,fK,h0]|refine rd0 rfl ?_))
    refine bY (S:=Unit) () (fun _=>True) (fun _=>0) (fun _=>[(1,.lit [] false none),(2,.ptr σ.length 0),(9,.int .i64 0)]) (fun _=>σ++[.cells (aB v)]) trivial (by simp [aB,ints]) ?_ fun _ _=>?_
    ·try simp only [aE,QE,Nat.reduceLT,reduceIte,Nat.reduceEqDiff,Nat.reduceAdd,Nat.reduceLeDiff,Nat.reduceMul,Nat.reduceBEq,fK,List.map_nil]
     try simp [clr,clrs]
    ·(repeat (first|simp only [↓QA,QB,Nat.reduceLT,reduceIte,Nat.reduceEqDiff,Nat.reduceAdd,Nat.reduceLeDiff,Nat.reduceMul,Nat.reduceBEq,fK,OA,w01,d01]|refine rd0 rfl ?_))
     refine dZ hlk ?_
     (repeat (first|simp only [↓QA,QB,Nat.reduceLT,reduceIte,Nat.reduceEqDiff,Nat.reduceAdd,Nat.reduceLeDiff,Nat.reduceMul,Nat.reduceBEq,fK]|refine rd0 rfl ?_))
     refine dZ hso ?_
     cases hs:(aJ v []).isEmpty
     ·have he:E=0:=by rw [←tl];simp [hs]
      subst he
      (repeat (first|simp only [↓QA,QB,Nat.reduceLT,reduceIte,Nat.reduceEqDiff,Nat.reduceAdd,Nat.reduceLeDiff,Nat.reduceMul,Nat.reduceBEq,fK]|refine rd0 rfl ?_))
      simp [mI,qQ,aB,ints]
     ·have he:E=8:=by rw [←tl];simp [hs]
      subst he
      (repeat (first|simp only [↓QA,QB,Nat.reduceLT,reduceIte,Nat.reduceEqDiff,Nat.reduceAdd,Nat.reduceLeDiff,Nat.reduceMul,Nat.reduceBEq,fK]|refine rd0 rfl ?_))
      simp
   ·have w01:IntKind.i64.wrap ((0:Int)+1)=1:=rfl
    have w21:IntKind.i64.wrap ((2:Int)+1)=3:=rfl
    have w02:IntKind.i64.wrap ((0:Int)+2)=2:=rfl
    have d12:decide ((1:Int)<((2:Nat):Int))=true:=rfl
    have d32:decide ((3:Int)<((2:Nat):Int))=false:=rfl
    have j0:(0:Int)≤0:=by decide
    have j1:(0:Int)≤1:=by decide
    have t0:Int.toNat 0=0:=rfl
    have t1:Int.toNat 1=1:=rfl
    have hwl:IntKind.i64.wrap ((v.trams.length:Int)-1)=(v.trams.length:Int)-1:=dU ⟨by omega,by omega⟩
    have hix0:∀ l:List AV,DE 1 (.int .i64 t::l) 0 none=some (.lptr (.int .i64 t::l) 0 0 none):=fun l=>by simp [DE,AV.cells]
    have hix1:∀ l:List AV,DE 1 (.int .i64 t::.int .i64 (v.trams.length:Int)::l) 1 none=some (.lptr (.int .i64 t::.int .i64 (v.trams.length:Int)::l) 1 0 none):=fun l=>by simp [DE,AV.cells]
    have hpb:D4 [t,(v.trams.length:Int)]=inR t 0 ((v.trams.length:Int)-1):=rfl
    (repeat (first|simp only [↓QA,QB,Nat.reduceLT,reduceIte,Nat.reduceEqDiff,Nat.reduceAdd,Nat.reduceLeDiff,Nat.reduceMul,Nat.reduceBEq,fK,h0]|refine rd0 rfl ?_))
    refine bY (S:=Bool) false (fun b=>b=true→D4 [t,(v.trams.length:Int)]=true) (fun b=>if b then 0 else 1) (fun b=>[(1,.lit [.int .i64 t,.int .i64 v.trams.length] false none),(2,.ptr σ.length 0),(9,.int .i64 (if b then 2 else 0))]) (fun _=>σ++[.cells (aB v)]) (fun h=>by cases h) (by simp [aB,ints]) ?_ fun b hb=>?_
    ·try simp only [aE,QE,Nat.reduceLT,reduceIte,Nat.reduceEqDiff,Nat.reduceAdd,Nat.reduceLeDiff,Nat.reduceMul,Nat.reduceBEq,fK,List.map_nil,List.map_cons]
     try simp [clr,clrs]
    ·cases b
     ·simp only [Bool.false_eq_true,if_false]
      (repeat (first|simp only [↓QA,QB,Nat.reduceLT,reduceIte,Nat.reduceEqDiff,Nat.reduceAdd,Nat.reduceLeDiff,Nat.reduceMul,Nat.reduceBEq,fK,OA,w01,d12,hix0,hix1,hwl]|refine rd0 rfl ?_))
      ((first|refine eO (bZ 0 ((v.trams.length:Int)-1) [t] (by simp)) (by simp [clr,clrs,ints]) (by simp [okV,okVs]) ?_|refine fT (bZ 0 ((v.trams.length:Int)-1) [t] (by simp)) (by simp [clr,clrs,ints]) (by simp [okV,okVs]) ?_);(repeat (first|simp only [↓QA,QB,Nat.reduceLT,reduceIte,Nat.reduceEqDiff,Nat.reduceAdd,Nat.reduceLeDiff,Nat.reduceMul,Nat.reduceBEq,fK,kZ,w01,d12,hix0,hix1,hwl]|refine rd0 rfl ?_)))
      cases h1:inR t 0 ((v.trams.length:Int)-1)
      ·rw [hpb,h1] at hE
       have he:E=4:=by rw [←hE];simp [fZ]
       subst he
       (repeat (first|simp only [↓QA,QB,Nat.reduceLT,reduceIte,Nat.reduceEqDiff,Nat.reduceAdd,Nat.reduceLeDiff,Nat.reduceMul,Nat.reduceBEq,fK,hix0,hix1]|refine rd0 rfl ?_))
       simp
      ·(repeat (first|simp only [↓QA,QB,Nat.reduceLT,reduceIte,Nat.reduceEqDiff,Nat.reduceAdd,Nat.reduceLeDiff,Nat.reduceMul,Nat.reduceBEq,fK,hix0,hix1,w02]|refine rd0 rfl ?_))
       refine ⟨true,fun _=>by rw [hpb,h1],by simp,?_⟩
       try simp only [aE,QE,Nat.reduceLT,reduceIte,Nat.reduceEqDiff,Nat.reduceAdd,Nat.reduceLeDiff,Nat.reduceMul,Nat.reduceBEq,fK,w02]
       try simp [aL]
     ·have tl:=tail (hb rfl)
      simp only [if_true]
      (repeat (first|simp only [↓QA,QB,Nat.reduceLT,reduceIte,Nat.reduceEqDiff,Nat.reduceAdd,Nat.reduceLeDiff,Nat.reduceMul,Nat.reduceBEq,fK,OA,w21,d32]|refine rd0 rfl ?_))
      refine dZ hlk ?_
      (repeat (first|simp only [↓QA,QB,Nat.reduceLT,reduceIte,Nat.reduceEqDiff,Nat.reduceAdd,Nat.reduceLeDiff,Nat.reduceMul,Nat.reduceBEq,fK]|refine rd0 rfl ?_))
      refine dZ hso ?_
      cases hs:(aJ v []).isEmpty
      ·have he:E=0:=by rw [←tl];simp [hs]
       subst he
       (repeat (first|simp only [↓QA,QB,Nat.reduceLT,reduceIte,Nat.reduceEqDiff,Nat.reduceAdd,Nat.reduceLeDiff,Nat.reduceMul,Nat.reduceBEq,fK]|refine rd0 rfl ?_))
       simp [mI,qQ,aB,ints]
      ·have he:E=8:=by rw [←tl];simp [hs]
       subst he
       (repeat (first|simp only [↓QA,QB,Nat.reduceLT,reduceIte,Nat.reduceEqDiff,Nat.reduceAdd,Nat.reduceLeDiff,Nat.reduceMul,Nat.reduceBEq,fK]|refine rd0 rfl ?_))
       simp
 ·obtain ⟨hj,ho⟩:=ho
  by_cases he:xI v ns=0
  ·rw [if_pos he] at ho
   refine ⟨hj,nS v ns σ.length,?_,.inl ⟨rfl,?_⟩⟩
   ·simp [iU,o8,a79,ho.1,ho.2.1,nS,he]
   ·rw [ho.2.2,sE,if_pos he]
  ·rw [if_neg he] at ho
   obtain ⟨h4,h5,τ,hσ⟩:=ho
   refine ⟨hj,nS v ns σ.length,?_,.inr ⟨20,nS v ns σ.length,nS v ns σ.length,?_,.inl rfl,fun i hi=>.inl (by rw [hσ];exact List.getElem?_append_left hi),by rw [hσ];simp,rfl,by rw [hσ];simp [sE,he]⟩⟩
   ·simp [iU,o8,a79,h4,h5,nS,he]
   ·simp [nS,he,snap,snaps]
theorem VL {X:Type} {M:Type} {S:X→M→St} {obj:List AV} {es:M→List (AV×AV)} {p m N:Nat} (hS:∀ x,MemAt (S x) obj es p m N) (hK:∀ x A y B k i,N≤k→i<N→fN (S x A) (S y B) k i) (hpl:p<N) (U UD:X→St) (n:Nat) (hU:∀ x,(U x).length=n) (hUD:∀ x,(UD x).length=n) (ok:∀ x y,y∈U x→∀ k,N≤k→aL k y) (okD:∀ x y,y∈UD x→∀ k,N≤k→aL k y)
  (env:Env) (ps:List Nat) (a bb:ACode) (st st':LS) (pe pe':Option AJump) :
  Fam1 (fun x A=>S x A++(U x++[.cells [.ptr p 0],.loop st pe env ps a bb])) (fun x A=>S x A++(UD x++[.cells [.ptr p 0],.loop st' pe' env ps a bb])) obj es p m (N+n) (N+n+2):=by
 have low:∀ (x:X) (A:M) (y:X) (B:M) (C D:St) (k i:Nat),N≤k→i<N→fN (S x A++C) (S y B++D) k i:=by
  intro x A y B C D k i hk hi
  have e1:(S x A++C)[i]? = (S x A)[i]?:=List.getElem?_append_left (by rw [(hS x).len];exact hi)
  have e2:(S y B++D)[i]? = (S y B)[i]?:=List.getElem?_append_left (by rw [(hS y).len];exact hi)
  have:=hK x A y B k i hk hi
  simp only [fN,e1,e2] at this ⊢
  exact this
 have high:∀ (P Q:St) (C D:St) (l1 l2:ABlk) (k i:Nat),P.length=N→Q.length=N→C.length=n→D.length=n→(∀ y∈D,aL k y)→N≤i→i<N+n+2→(l1=l2∨∃ st pe st' pe' env ps a b,l1 = .loop st pe env ps a b∧l2 = .loop st' pe' env ps a b) →
   fN (P++(C++[.cells [.ptr p 0],l1])) (Q++(D++[.cells [.ptr p 0],l2])) k i:=by
  intro P Q C D l1 l2 k i hP hQ hA hB hk h1 h2 hl
  have e1:(P++(C++[.cells [.ptr p 0],l1]))[i]? = (C++[.cells [.ptr p 0],l1])[i-N]?:=by rw [List.getElem?_append_right (by rw [hP];exact h1),hP]
  have e2:(Q++(D++[.cells [.ptr p 0],l2]))[i]? = (D++[.cells [.ptr p 0],l2])[i-N]?:=by rw [List.getElem?_append_right (by rw [hQ];exact h1),hQ]
  simp only [fN,e1,e2]
  obtain ⟨j,hj⟩:∃ j,i-N=j:=⟨_,rfl⟩
  rw [hj]
  by_cases hjn:j<n
  ·right;left
   have hb:j<D.length:=by omega
   refine ⟨D[j],?_,hk _ (List.getElem_mem hb)⟩
   rw [List.getElem?_append_left hb,List.getElem?_eq_getElem hb]
  ·have:j=n∨j=n+1:=by omega
   rcases this with rfl|rfl
   ·left
    rw [List.getElem?_append_right (by omega),List.getElem?_append_right (by omega),hA,hB]
    simp
   ·rw [List.getElem?_append_right (by omega),List.getElem?_append_right (by omega),hA,hB]
    simp only [Nat.add_sub_cancel_left,List.getElem?_cons_succ,List.getElem?_cons_zero]
    rcases hl with rfl|⟨_,_,_,_,_,_,_,_,rfl,rfl⟩
    ·exact .inl rfl
    ·exact .inr (.inr ⟨_,_,_,_,_,_,_,_,rfl,rfl⟩)
 refine ⟨fun x=>?_,fun x A=>?_,fun x A=>?_,fun x A y B k i hk hi=>?_,fun x A y B k i hk hi=>?_,by omega,by omega⟩
 ·have:=(hS x).app (U x++[.cells [.ptr p 0],.loop st pe env ps a bb])
  rw [List.length_append,hU] at this
  exact this
 ·simp [(hS x).len,hUD];omega
 ·have e:N+n=(S x A).length+n:=by rw [(hS x).len]
  rw [e,sW]
  have:n=(U x).length:=by rw [hU]
  rw [this]
  exact kF _ _
 ·by_cases h:i<N
  ·exact low _ _ _ _ _ _ _ _ (by omega) h
  ·exact high _ _ _ _ _ _ _ _ ((hS x).len A) ((hS y).len B) (hU x) (hU y) (fun z hz=>ok y z hz k (by omega)) (by omega) hi (.inl rfl)
 ·by_cases h:i<N
  ·exact low _ _ _ _ _ _ _ _ (by omega) h
  ·exact high _ _ _ _ _ _ _ _ ((hS x).len A) ((hS y).len B) (hU x) (hUD y) (fun z hz=>okD y z hz k (by omega)) (by omega) hi (.inr ⟨_,_,_,_,_,_,_,_,rfl,rfl⟩)
theorem OS {X M:Type} {S:X→M→St} {obj:List AV} {es:M→List (AV×AV)} {p m N:Nat} (hS:∀ x,MemAt (S x) obj es p m N) (U UD:X→St) (n:Nat) (hU:∀ x,(U x).length=n) (hUD:∀ x,(UD x).length=n)
  (J:AJump) (e:Env) (k:Nat) (ps:List Nat) (a bb:ACode) (g:FuncId) (ek:Env.get e k = .func g [] [.ptr (N+n) 0]) (r:X×Bool) (B':M) (x:X) (B:M)
  (hrun:Run T (.call g [.yield (N+n+1),.ptr (N+n) 0] (S x B++(U x++[.cells [.ptr p 0],.loop .ready none e ps a bb]))) fun o=>∃ τ',o.σ=Fam1.out (fun x A=>S x A++(U x++[.cells [.ptr p 0],.loop .ready none e ps a bb])) (fun x A=>S x A++(UD x++[.cells [.ptr p 0],.loop .done (some J) e ps a bb])) r B'++τ') (K:KJ)
  (hT:∀ τ,r.2=true→K none e (S r.1 B'++(U r.1++(.cells [.ptr p 0]::.dead::τ))))
  (hD:∀ τ,r.2=false→K (some J) e (S r.1 B'++(UD r.1++(.cells [.ptr p 0]::.dead::τ)))) :
  rK (K:=⟨K⟩) T (.rangeFunc (.t k) ps a bb) e (S x B++(U x++[.cells [.ptr p 0]])):=by
 have hlen:(S x B++(U x++[ABlk.cells [.ptr p 0]])).length=N+n+1:=by simp [(hS x).len,hU];omega
 have hout:∀ (A W:St) (lp:ABlk) (τ':St),A.length=N→W.length=n→(A++(W++[ABlk.cells [.ptr p 0],lp])++τ')[N+n+1]? = some lp∧(A++(W++[ABlk.cells [.ptr p 0],lp])++τ').set (N+n+1) .dead=A++(W++(.cells [.ptr p 0]::.dead::τ')):=by
  intro A W lp τ' hA hW
  have h1:N+n+1=(A++W).length+1:=by simp [hA,hW]
  have h2:A++(W++[ABlk.cells [.ptr p 0],lp])++τ'=(A++W)++(.cells [.ptr p 0]::lp::τ'):=by simp
  rw [h1,h2]
  constructor
  ·rw [sX];rfl
  ·rw [p9];simp
 refine JS (by rw [VK,ek]) (by
  rw [hlen,List.append_assoc (S x B),List.append_assoc (U x)]
  exact hrun) fun o ho=>?_
 obtain ⟨τ',hσ⟩:=ho
 rw [hlen,hσ]
 cases hr2:r.2
 ·have hD':=hD τ' hr2
  obtain ⟨g1,g2⟩:=hout (S r.1 B') (UD r.1) (.loop .done (some J) e ps a bb) τ' ((hS _).len _) (hUD _)
  simp only [Fam1.out,hr2,Bool.false_eq_true,if_false]
  rw [g1,g2]
  exact ⟨_,_,_,_,_,_,rfl,by simp,hD'⟩
 ·have hT':=hT τ' hr2
  obtain ⟨g1,g2⟩:=hout (S r.1 B') (U r.1) (.loop .ready none e ps a bb) τ' ((hS _).len _) (hU _)
  simp only [Fam1.out,hr2,if_true]
  rw [g1,g2]
  exact ⟨_,_,_,_,_,_,rfl,by simp,hT'⟩
theorem pT {X A M:Type} {S:X→M→St} {obj:List AV} {es:M→List (AV×AV)} {p m N:Nat} (hS:∀ x,MemAt (S x) obj es p m N) (U UD:X→St) (n:Nat) (hU:∀ x,(U x).length=n) (hUD:∀ x,(UD x).length=n) (J:AJump) (e:Env) (ps:List Nat) (args:A→Bool→Option Nat→List AV) (hps:∀ t fl tk,ps.length=(args t fl tk).length) (a bb:ACode) {P:A→Prop} {f:A→X→X×Bool}
  (h:∀ t,P t→∀ (fl:Bool) (tk:Option Nat) x B τ,wp T a (lZ e ps (args t fl tk)) (S x B++(U x++(.cells [.ptr p 0]::.loop .ready none e ps a bb::τ))) (fun j e' σ'=>j=none∧∃ τ1,σ'=S x B++(U x++(.cells [.ptr p 0]::.loop .ready none e ps a bb::(τ++τ1))) ∧
   wp T bb e' (S x B++(U x++(.cells [.ptr p 0]::.loop .busy none e ps a bb::(τ++τ1)))) (fun j e'' σ''=>((f t x).2=true∧j=none∧∃ τ',σ''=S (f t x).1 B++(U (f t x).1++(.cells [.ptr p 0]::.loop .busy none e ps a bb::(τ++τ')))) ∨
    ((f t x).2=false∧j=some J∧∃ τ',σ''=S (f t x).1 B++(UD (f t x).1++(.cells [.ptr p 0]::.loop .busy none e ps a bb::(τ++τ'))))))) :
  wK (fun x B=>S x B++(U x++[.cells [.ptr p 0],.loop .ready none e ps a bb])) (fun x B=>S x B++(UD x++[.cells [.ptr p 0],.loop .done (some J) e ps a bb])) (N+n+1) args P f:=by
 intro t ht fl tk x B τ
 have hget:∀ (A W:St) (lp:ABlk) (υ:St),A.length=N→W.length=n→(A++(W++(ABlk.cells [.ptr p 0]::lp::υ)))[N+n+1]? = some lp:=by
  intro A W lp υ hA hW
  have h1:N+n+1=(A++W).length+1:=by simp [hA,hW]
  rw [h1,←List.append_assoc,sX];rfl
 have hset:∀ (A W:St) (lp l2:ABlk) (υ:St),A.length=N→W.length=n→(A++(W++(ABlk.cells [.ptr p 0]::lp::υ))).set (N+n+1) l2=A++(W++(ABlk.cells [.ptr p 0]::l2::υ)):=by
  intro A W lp l2 υ hA hW
  have h1:N+n+1=(A++W).length+1:=by simp [hA,hW]
  rw [h1,←List.append_assoc,p9]
  simp
 obtain ⟨r,hr⟩:∃ r,f t x=r:=⟨_,rfl⟩
 have h:=h t ht fl tk x B τ
 rw [hr] at h ⊢
 have hst:(fun x B=>S x B++(U x++[ABlk.cells [.ptr p 0],.loop .ready none e ps a bb])) x B++τ=S x B++(U x++(.cells [.ptr p 0]::.loop .ready none e ps a bb::τ)):=by simp
 rw [hst]
 refine .round (env:=e) (ps:=ps) (a:=a) (b:=bb)
  (R:=fun o=>o.j=none∧∃ τ1,o.σ=S x B++(U x++(.cells [.ptr p 0]::.loop .ready none e ps a bb::(τ++τ1)))∧wp T bb o.env (S x B++(U x++(.cells [.ptr p 0]::.loop .busy none e ps a bb::(τ++τ1)))) (fun j e'' σ''=>(r.2=true∧j=none∧∃ τ',σ''=S r.1 B++(U r.1++(.cells [.ptr p 0]::.loop .busy none e ps a bb::(τ++τ')))) ∨
    (r.2=false∧j=some J∧∃ τ',σ''=S r.1 B++(UD r.1++(.cells [.ptr p 0]::.loop .busy none e ps a bb::(τ++τ'))))))
  (S:=fun o=>(r.2=true∧o.j=none∧∃ τ',o.σ=S r.1 B++(U r.1++(.cells [.ptr p 0]::.loop .busy none e ps a bb::(τ++τ'))))∨(r.2=false∧o.j=some J∧∃ τ',o.σ=S r.1 B++(UD r.1++(.cells [.ptr p 0]::.loop .busy none e ps a bb::(τ++τ'))))) (hget _ _ _ _ ((hS _).len _) (hU _)) (by rw [hps t fl tk]) (iL h fun o ho=>ho) ?_ ?_ ?_
 ·rintro o ⟨hj,τ1,hσ,_⟩
  exact ⟨hj,by rw [hσ];exact hget _ _ _ _ ((hS _).len _) (hU _)⟩
 ·rintro o ⟨_,τ1,hσ,hw⟩
  rw [hσ,hset _ _ _ _ _ ((hS _).len _) (hU _)]
  exact iL hw fun o ho=>ho
 ·rintro o (⟨hr2,hj,τ',hσ⟩|⟨hr2,hj,τ',hσ⟩)
  ·rw [hσ,hj,hget _ _ _ _ ((hS _).len _) (hU _),hset _ _ _ _ _ ((hS _).len _) (hU _)]
   refine ⟨rfl,by rw [hr2];rfl,τ',?_⟩
   simp [Fam1.out,hr2]
  ·rw [hσ,hj,hget _ _ _ _ ((hS _).len _) (hUD _),hset _ _ _ _ _ ((hS _).len _) (hUD _)]
   refine ⟨rfl,by rw [hr2];rfl,τ',?_⟩
   simp [Fam1.out,hr2]
end Go.Am.Room
set_option maxRecDepth 8000
namespace Go.Am.Room
def zZ:=And.intro @bH (And.intro @aI (And.intro @aW (And.intro @aT (And.intro @aS (And.intro @aR (And.intro @bF (And.intro @bC (And.intro @bA (And.intro @dH (And.intro @d6 (And.intro @Nat.not_lt_zero (And.intro @List.length_append.{0} (And.intro @Nat.zero_add (And.intro @Nat.mul_one (And.intro @Int.toNat_natCast (And.intro @eU (And.intro @gD (And.intro @gJ (And.intro @lS (And.intro @gI (And.intro @jA (And.intro @iZ (And.intro @i7 (And.intro @i6 (And.intro @i9 (And.intro @iY (And.intro @Nat.add_lt_add_iff_left (@Nat.lt_add_right_iff_pos))))))))))))))))))))))))))))
theorem JC (v:Net) (b m p:Nat) (σ:St) (hσ:aK σ p=some (db v b m)) (t:Nat) (ht:t<v.trams.length) (c:Int):kK T (.func 111 [.ptr p 0] []) [.int .i64 t,.int .i64 c] σ (.bool (jE v t c)):=by
 refine fC (af:=a111) rfl (by simp [a111]) ?_
 have hit:=rG (v:=v) (t:=t) (z:=v.trams[t]) (by simp [ht]) c
 obtain ⟨z,hz⟩:∃ z,v.trams[t]=z:=⟨_,rfl⟩
 rw [hz] at hit
 have e:decide (c = -1)=(c==-1):=by rw [Bool.eq_iff_iff];simp
 rw [e] at hit
 rw [hit]
 cases h:(c==-1)
 ·(repeat (first|simp only [↓QA,QB,Nat.reduceLT,reduceIte,Nat.reduceEqDiff,Nat.reduceAdd,Nat.reduceLeDiff,Nat.reduceMul,Nat.reduceBEq,zZ,a111,h,hσ,ht,hz]|refine rd0 rfl ?_))
  refine fR [] (by first|rfl|simp) ?_
  try simp only [QS,QC,Nat.reduceLT,reduceIte,Nat.reduceEqDiff,Nat.reduceAdd,Nat.reduceLeDiff,Nat.reduceMul,Nat.reduceBEq,zZ]
 ·(repeat (first|simp only [↓QA,QB,Nat.reduceLT,reduceIte,Nat.reduceEqDiff,Nat.reduceAdd,Nat.reduceLeDiff,Nat.reduceMul,Nat.reduceBEq,zZ,a111,h]|refine rd0 rfl ?_))
  refine fR [] (by first|rfl|simp) ?_
  try simp only [QS,QC,Nat.reduceLT,reduceIte,Nat.reduceEqDiff,Nat.reduceAdd,Nat.reduceLeDiff,Nat.reduceMul,Nat.reduceBEq,zZ,Bool.false_and]
def X7 (p:Nat):AV:=.func 111 [.ptr p 0] []
theorem F9 (p:Nat):X7 p = .func 111 [.ptr p 0] []:=by simp only [X7]
end Go.Am.Room
set_option maxRecDepth 8000
namespace Go.Am.Room
def oE:=And.intro @bH (And.intro @aI (And.intro @aW (And.intro @aT (And.intro @aS (And.intro @aR (And.intro @bF (And.intro @bC (And.intro @bA (And.intro @dH (And.intro @d6 (And.intro @Nat.not_lt_zero (And.intro @List.length_append.{0} (And.intro @Nat.zero_add (And.intro @Nat.mul_one (And.intro @Int.toNat_natCast (And.intro @eU (And.intro @gD (And.intro @gJ (And.intro @lS (And.intro @gI (And.intro @jA (And.intro @iZ (And.intro @i7 (And.intro @i6 (And.intro @i9 (And.intro @iY (And.intro @Nat.add_lt_add_iff_left (And.intro @Nat.lt_add_right_iff_pos (And.intro @pM (@pL))))))))))))))))))))))))))))))
theorem DI {X:Type} {S:X→List K5→St} {v:Net} {b p m N:Nat} {bl:List Int} (hS:∀ x,MemAt (S x) (db v b m) (tEs v) p m N) (hK:∀ x A y B k i,N≤k→i<N→fN (S x A) (S y B) k i) (hpl:p<N) (hv:Vd v) (hb:ButIs b bl) (U UD:X→St) (n:Nat) (hU:∀ x,(U x).length=n) (hUD:∀ x,(UD x).length=n) (ok:∀ x y,y∈U x→∀ k,N≤k→aL k y) (okD:∀ x y,y∈UD x→∀ k,N≤k→aL k y)
  (J:AJump) {f:List Int→X→X×Bool} (e:Env) (k:Nat) (ps:List Nat) (a bb:ACode) (ek:Env.get e k = .func 106 [] [.ptr (N+n) 0])
  (hy:wK (fun x B=>S x B++(U x++[.cells [.ptr p 0],.loop .ready none e ps a bb])) (fun x B=>S x B++(UD x++[.cells [.ptr p 0],.loop .done (some J) e ps a bb])) (N+n+1) (qU v) (TOk v bl) f)
  (x:X) (A:List K5) (K:KJ)
  (hT:∀ τ,(cI f (TL v bl) x).2=true→K none e (S (cI f (TL v bl) x).1 (gH v bl f x A).1.2++(U (cI f (TL v bl) x).1++(.cells [.ptr p 0]::.dead::τ))))
  (hD:∀ τ,(cI f (TL v bl) x).2=false→K (some J) e (S (cI f (TL v bl) x).1 (gH v bl f x A).1.2++(UD (cI f (TL v bl) x).1++(.cells [.ptr p 0]::.dead::τ)))) :
  rK (K:=⟨K⟩) T (.rangeFunc (.t k) ps a bb) e (S x A++(U x++[.cells [.ptr p 0]])):=by
 have hrun:=zE (VL hS hK hpl U UD n hU hUD ok okD e ps a bb .ready .done none (some J)) hv hb hy (fun c h1 h2=>⟨h1,h2⟩) x A
 rw [vA] at hrun
 exact OS hS U UD n hU hUD J e k ps a bb 106 ek (cI f (TL v bl) x) (gH v bl f x A).1.2 x A hrun K hT hD
def tH (p:Nat) (x:B64):St:=[.cells [.ptr p 0],.cells [.int .i64 (x.1.1:Nat)],.cells [.int .i64 (x.1.2:Nat)],.cells [X7 p]]
theorem FI {S:List K5→St} {v:Net} {b p m N:Nat} (hR:MemAt S (db v b m) (tEs v) p m N) (hv:Vd v) (c:List Int) (x:B64) (B:List K5) (lp:ABlk) (τ:St) (e:Env) (G:Option AJump→St→Prop)
  (e1:Env.get e 1 = .ptr N 0) (e2:Env.get e 2 = .ptr (N+1) 0) (e3:Env.get e 3 = .ptr (N+2) 0) (e4:Env.get e 4 = .ptr (N+3) 0) (e6:Env.get e 6 = .ptr (N+(τ.length+1+1+1+1+1+1)) 0) (R:B64×Bool) (hRr:pQ (iM v) v.trams.length c x=R) :
  wp T WG e (S B++(tH p x++(.cells [.ptr p 0]::lp::(τ++[.cells (bV 3 (cW (d7 v c)))])))) (fun j e'' σ''=>(R.2=true∧j=none∧∃ τ',σ''=S B++(tH p R.1++(.cells [.ptr p 0]::lp::(τ++τ'))))∨G j σ''):=by
 have hnt:=hv.ntr
 have hR1:R.1.1=eM (iM v c) v.trams.length x.1:=by rw [←hRr,yI (iM v) (by omega)]
 have hR2:R.2=true:=by rw [←hRr];exact CH _ _ _ _
 have hpl:=hR.pl
 have hta:∀ (b0 b1 b2 b3 b4 b5:ABlk),aK (S B++(b0::b1::b2::b3::b4::b5::(τ++[.cells (bV 3 (cW (d7 v c)))]))) (N+(τ.length+1+1+1+1+1+1))=some (bV 3 (cW (d7 v c))):=fun b0 b1 b2 b3 b4 b5=>by
  rw [hR.base]
  simp only [sI]
  rw [kF];rfl
 have hlt:=fun k hk=>qW (iM v c) (n:=6) x.2 k hk
 simp only [tH,hR1,F9]
 (repeat (first|simp only [↓QA,QB,Nat.reduceLT,reduceIte,Nat.reduceEqDiff,Nat.reduceAdd,Nat.reduceLeDiff,Nat.reduceMul,Nat.reduceBEq,oE,hR.len,hR.base,hR.base0,hR.bset,hR.bset0,hR.at1,hR.at0,WG,e1]|refine rd0 rfl ?_))
 refine bY (S:=Nat) 0 (fun k=>k≤v.trams.length) (fun k=>v.trams.length-k)
  (fun k=>[(2,.ptr (N+1) 0),(3,.ptr (N+2) 0),(4,.ptr (N+3) 0),(6,.ptr (N+(τ.length+1+1+1+1+1+1)) 0),(27,.int .i64 v.trams.length),(28,.int .i64 k)])
  (fun k=>S B++(.cells [.ptr p 0]::.cells [.int .i64 ((eM (iM v c) k x.1).1:Nat)]::.cells [.int .i64 ((eM (iM v c) k x.1).2:Nat)]::.cells [.func 111 [.ptr p 0] []]::.cells [.ptr p 0]::lp::(τ++[.cells (bV 3 (cW (d7 v c)))]))) (Nat.zero_le _) rfl ?_ fun k hk=>?_
 ·try simp only [aE,QE,Nat.reduceLT,reduceIte,Nat.reduceEqDiff,Nat.reduceAdd,Nat.reduceLeDiff,Nat.reduceMul,Nat.reduceBEq,oE,hR.len,hR.base,hR.base0,hR.bset,hR.bset0,hR.at1,hR.at0,e2,e3,e4,e6]
  try simp
 ·(repeat (first|simp only [↓QA,QB,Nat.reduceLT,reduceIte,Nat.reduceEqDiff,Nat.reduceAdd,Nat.reduceLeDiff,Nat.reduceMul,Nat.reduceBEq,oE,hR.len,hR.base,hR.base0,hR.bset,hR.bset0,hR.at1,hR.at0,aBT]|refine rd0 rfl ?_))
  refine aG (fun hd=>?_) fun hd=>?_
  ·have hk1:k<v.trams.length:=by simpa using hd
   have hw:=bX hk1 (by omega)
   have hst:eM (iM v c) (k+1) x.1=if iM v c k=true then (DM (eM (iM v c) k x.1).1 (2^k),(eM (iM v c) k x.1).2) else ((eM (iM v c) k x.1).1,(eM (iM v c) k x.1).2|||2^k):=rfl
   obtain ⟨l1,l2⟩:=hlt k (by omega)
   obtain ⟨⟨Y1,Y2⟩,hY⟩:∃ Y,eM (iM v c) k x.1=Y:=⟨_,rfl⟩
   rw [hY] at hst l1 l2
   simp only at hst l1 l2
   have hp2:=k9 (show k≤60 by omega)
   have hsh:=vJ k (by omega)
   have hor:=aD4 Y2 (2^k) (by omega) (by omega)
   have han:=HO Y1 (2^k) (by omega) (by omega)
   have i3:(0:Int)≤(k:Int)∧(k:Int)<((3:Nat):Int):=⟨by omega,by omega⟩
   have hg:=kR 3 (cW (d7 v c)) (i:=k) (by omega)
   have hin:=fun σ (hσ:aK σ p=some (db v b m))=>JC v b m p σ hσ k hk1 (cW (d7 v c) k)
   have hfe:jE v k (cW (d7 v c) k)=iM v c k:=rfl
   rw [hY]
   (repeat (first|simp only [↓QA,QB,Nat.reduceLT,reduceIte,Nat.reduceEqDiff,Nat.reduceAdd,Nat.reduceLeDiff,Nat.reduceMul,Nat.reduceBEq,oE,hR.len,hR.base,hR.base0,hR.bset,hR.bset0,hR.at1,hR.at0,hta,i3,hg]|refine rd0 rfl ?_))
   refine BF (hin _ (hR.at1 _ _)) ?_
   rw [hfe]
   cases hf:iM v c k
   ·rw [hf] at hst
    simp only [Bool.false_eq_true,if_false] at hst
    (repeat (first|simp only [↓QA,QB,Nat.reduceLT,reduceIte,Nat.reduceEqDiff,Nat.reduceAdd,Nat.reduceLeDiff,Nat.reduceMul,Nat.reduceBEq,oE,hR.len,hR.base,hR.base0,hR.bset,hR.bset0,hR.at1,hR.at0,hta,i3,hg,hsh,hor]|refine rd0 rfl ?_))
    refine ⟨k+1,by omega,by omega,?_⟩
    rw [hst]
    try simp only [aE,QE,Nat.reduceLT,reduceIte,Nat.reduceEqDiff,Nat.reduceAdd,Nat.reduceLeDiff,Nat.reduceMul,Nat.reduceBEq,oE,hR.len,hR.base,hR.base0,hR.bset,hR.bset0,hR.at1,hR.at0,hw,hR.eqS]
    try simp [aL,okVs,okV]
    try omega
   ·rw [hf] at hst
    simp only [if_true] at hst
    (repeat (first|simp only [↓QA,QB,Nat.reduceLT,reduceIte,Nat.reduceEqDiff,Nat.reduceAdd,Nat.reduceLeDiff,Nat.reduceMul,Nat.reduceBEq,oE,hR.len,hR.base,hR.base0,hR.bset,hR.bset0,hR.at1,hR.at0,hta,i3,hg,hsh,han]|refine rd0 rfl ?_))
    refine ⟨k+1,by omega,by omega,?_⟩
    rw [hst]
    try simp only [aE,QE,Nat.reduceLT,reduceIte,Nat.reduceEqDiff,Nat.reduceAdd,Nat.reduceLeDiff,Nat.reduceMul,Nat.reduceBEq,oE,hR.len,hR.base,hR.base0,hR.bset,hR.bset0,hR.at1,hR.at0,hw,hR.eqS]
    try simp [aL,okVs,okV]
    try omega
  ·have hk1:k=v.trams.length:=by
    have:¬k<v.trams.length:=by simpa using hd
    omega
   rw [hk1]
   (repeat (first|simp only [↓QA,QB,Nat.reduceLT,reduceIte,Nat.reduceEqDiff,Nat.reduceAdd,Nat.reduceLeDiff,Nat.reduceMul,Nat.reduceBEq,oE,hR.len,hR.base,hR.base0,hR.bset,hR.bset0,hR.at1,hR.at0]|refine rd0 rfl ?_))
   exact .inl ⟨hR2,[.cells (bV 3 (cW (d7 v c)))],rfl⟩
end Go.Am.Room
set_option maxRecDepth 8000
namespace Go.Am.Room
def rV:=And.intro @bH (And.intro @aI (And.intro @aW (And.intro @aT (And.intro @aS (And.intro @aR (And.intro @bF (And.intro @bC (And.intro @bA (And.intro @dH (And.intro @d6 (And.intro @Nat.not_lt_zero (And.intro @List.length_append.{0} (And.intro @Nat.zero_add (And.intro @Nat.mul_one (And.intro @Int.toNat_natCast (And.intro @eU (And.intro @gD (And.intro @gJ (And.intro @lS (And.intro @gI (And.intro @jA (And.intro @iZ (And.intro @i7 (And.intro @i6 (And.intro @i9 (And.intro @iY (And.intro @Nat.add_lt_add_iff_left (And.intro @Nat.lt_add_right_iff_pos (And.intro @pM (@pL))))))))))))))))))))))))))))))
def EA (v:Net) (h:v.trams.length≤6):B64:=n5 (iM v) v.trams.length (TL v []) (mJ _ h)
def I5 (v:Net) (h:v.trams.length≤6) (A:List K5):List K5:=(gH v [] (pQ (iM v) v.trams.length) (mJ _ h) A).1.2
theorem EJ {A:Type} (fine:A→Nat→Bool) (n:Nat) (l:List A) (x:B64):cI (pQ fine n) l x=(n5 fine n l x,true):=BI (CH fine n) l x
theorem E5 {S:List K5→St} {v:Net} {b p m N:Nat} (hR:MemAt S (db v b m) (tEs v) p m N) (hv:Vd v) (hb:ButIs b []) (h6:v.trams.length≤6) (A:List K5) :
  BZ T (.func 84 [] []) [.ptr p 0] (S A) (.tuple [.int .i64 ((EA v h6).1.1:Nat),.int .i64 ((EA v h6).1.2:Nat)]) (S (I5 v h6 A)):=by
 have hit:=EJ (iM v) v.trams.length (TL v []) (mJ _ h6)
 obtain ⟨Y,hY⟩:∃ Y,n5 (iM v) v.trams.length (TL v []) (mJ _ h6)=Y:=⟨_,rfl⟩
 have hl:EA v h6=Y:=hY
 rw [hY] at hit
 rw [hl]
 have hsh:=vJ v.trams.length (by omega)
 have hp2:=k9 (show v.trams.length≤60 by omega)
 have hw:IntKind.i64.wrap (((2^v.trams.length:Nat):Int)-1)=((2^v.trams.length-1:Nat):Int):=by
  have:=Nat.two_pow_pos v.trams.length
  rw [dU ⟨by omega,by omega⟩];omega
 have hok:∀ (x:B64) (y:ABlk),y∈tH p x→∀ k,N≤k→aL k y:=by
  intro x y hy k hk
  have hpl:=hR.pl
  simp only [tH,List.mem_cons,List.not_mem_nil,or_false] at hy
  rcases hy with rfl|rfl|rfl|rfl<;>simp [aL,okVs,okV,X7]<;>omega
 refine y0 hR (af:=a84) rfl (by simp [a84]) ?_
 have hrg:=oJ hR hv hb (tH p) (tH p) 4 (fun _=>rfl) (fun _=>rfl) hok hok .ret (f:=pQ (iM v) v.trams.length)
 (repeat (first|simp only [↓QA,QB,Nat.reduceLT,reduceIte,Nat.reduceEqDiff,Nat.reduceAdd,Nat.reduceLeDiff,Nat.reduceMul,Nat.reduceBEq,rV,hR.len,hR.base,hR.base0,hR.bset,hR.bset0,hR.at1,hR.at0,a84,hsh,hw]|refine rd0 rfl ?_))
 refine tA rfl (by simp [a80]) ?_
 (repeat (first|simp only [↓QA,QB,Nat.reduceLT,reduceIte,Nat.reduceEqDiff,Nat.reduceAdd,Nat.reduceLeDiff,Nat.reduceMul,Nat.reduceBEq,rV,hR.len,hR.base,hR.base0,hR.bset,hR.bset0,hR.at1,hR.at0,a80]|refine rd0 rfl ?_))
 refine hrg _ 19 [20,21] _ _ ?_ ?_ (mJ _ h6) A _ ?_ ?_
 ·try simp only [aE,QE,Nat.reduceLT,reduceIte,Nat.reduceEqDiff,Nat.reduceAdd,Nat.reduceLeDiff,Nat.reduceMul,Nat.reduceBEq,rV,hR.len,hR.base,hR.base0,hR.bset,hR.bset0,hR.at1,hR.at0]
 ·refine pT (S:=fun _=>S) (fun _=>hR) (tH p) (tH p) 4 (fun _=>rfl) (fun _=>rfl) .ret _ _ (qU v) (fun _ _ _=>rfl) _ _ ?_
  intro c _ fl tk x B τ
  simp only [lZ,qU]
  obtain ⟨R,hRr⟩:∃ R,pQ (iM v) v.trams.length c x=R:=⟨_,rfl⟩
  rw [hRr]
  have lb:=fun lp e G=>FI hR hv c x B lp τ e G
  simp only [tH,F9] at lb ⊢
  (repeat (first|simp only [↓QA,QB,Nat.reduceLT,reduceIte,Nat.reduceEqDiff,Nat.reduceAdd,Nat.reduceLeDiff,Nat.reduceMul,Nat.reduceBEq,rV,hR.len,hR.base,hR.base0,hR.bset,hR.bset0,hR.at1,hR.at0]|refine rd0 rfl ?_))
  refine ⟨[.cells (bV 3 (cW (d7 v c)))],by simp,?_⟩
  simp only [←F9]
  refine FI hR hv c x B _ τ _ _ ?_ ?_ ?_ ?_ ?_ R hRr
  all_goals try simp only [aE,QE,Nat.reduceLT,reduceIte,Nat.reduceEqDiff,Nat.reduceAdd,Nat.reduceLeDiff,Nat.reduceMul,Nat.reduceBEq,rV,hR.len,hR.base,hR.base0,hR.bset,hR.bset0,hR.at1,hR.at0]
 ·intro τ h2
  rw [hit]
  simp only [tH]
  (repeat (first|simp only [↓QA,QB,Nat.reduceLT,reduceIte,Nat.reduceEqDiff,Nat.reduceAdd,Nat.reduceLeDiff,Nat.reduceMul,Nat.reduceBEq,rV,hR.len,hR.base,hR.base0,hR.bset,hR.bset0,hR.at1,hR.at0]|refine rd0 rfl ?_))
  refine ⟨_,_,rfl,rfl,?_⟩
  try simp only [QS,QC,Nat.reduceLT,reduceIte,Nat.reduceEqDiff,Nat.reduceAdd,Nat.reduceLeDiff,Nat.reduceMul,Nat.reduceBEq,rV,hR.len,hR.base,hR.base0,hR.bset,hR.bset0,hR.at1,hR.at0]
 ·intro τ h2
  rw [hit] at h2
  cases h2
end Go.Am.Room
set_option maxRecDepth 8000
namespace Go.Am.Room
def eK:=And.intro @bH (And.intro @aI (And.intro @aW (And.intro @aT (And.intro @aS (And.intro @aR (And.intro @bF (And.intro @bC (And.intro @bA (And.intro @dH (And.intro @d6 (And.intro @Nat.not_lt_zero (And.intro @List.length_append.{0} (And.intro @Nat.zero_add (And.intro @Nat.mul_one (And.intro @Int.toNat_natCast (And.intro @Nat.add_lt_add_iff_left (@Nat.lt_add_right_iff_pos)))))))))))))))))
theorem gN (v:Net) (hf:Fits v):dR T 25 [bI v] (jT (oW v)):=by
 refine bE (af:=a25) rfl (by simp [a25]) dd ?_
 have her:=fun σ=>uI σ v [] (.inl rfl) hf
 simp only [List.map_nil,nS,sE,nG] at her
 (repeat (first|simp only [↓QA,QB,Nat.reduceLT,reduceIte,Nat.reduceEqDiff,Nat.reduceAdd,Nat.reduceLeDiff,Nat.reduceMul,Nat.reduceBEq,eK,a25]|refine rd0 rfl ?_))
 refine dZ (her _) ?_
 by_cases h0:eS v=0
 ·obtain ⟨hv,hne⟩:=mV h0
  have hnt:=hv.ntr
  have h6:v.trams.length≤6:=by omega
  obtain ⟨hl1,hl2⟩:=HM hv h6
  have hld:=E5 (B6 [.cells (aB v)] v) hv PT h6 (qQ v)
  have hlt:=(EA v h6).2
  obtain ⟨⟨⟨P,Q⟩,hPQ⟩,hY⟩:∃ Y,EA v h6=Y:=⟨_,rfl⟩
  have hYl:n5 (iM v) v.trams.length (TL v []) (mJ _ h6)=⟨(P,Q),hPQ⟩:=hY
  rw [hYl] at hl1 hl2
  rw [hY] at hld
  simp only at hl1 hl2 hld hPQ
  have hm:oW v=(lst v.trams.length P,lst v.trams.length Q,0):=by rw [oW,if_pos h0,hl1,hl2]
  have hlo1:=uU P v.trams.length (by omega) (by omega)
  have hlo2:=uU Q v.trams.length (by omega) (by omega)
  rw [if_pos h0,if_pos h0,hm]
  simp only [mI] at hld ⊢
  try simp only [↓QA,QB,Nat.reduceLT,reduceIte,Nat.reduceEqDiff,Nat.reduceAdd,Nat.reduceLeDiff,Nat.reduceMul,Nat.reduceBEq,eK] at hld
  (repeat (first|simp only [↓QA,QB,Nat.reduceLT,reduceIte,Nat.reduceEqDiff,Nat.reduceAdd,Nat.reduceLeDiff,Nat.reduceMul,Nat.reduceBEq,eK,show ((0:Int)==0)=true from rfl]|refine rd0 rfl ?_))
  refine dZ hld ?_
  (repeat (first|simp only [↓QA,QB,Nat.reduceLT,reduceIte,Nat.reduceEqDiff,Nat.reduceAdd,Nat.reduceLeDiff,Nat.reduceMul,Nat.reduceBEq,eK]|refine rd0 rfl ?_))
  ((first|refine aC (hlo1) rfl dd ?_|refine aD (hlo1) rfl dd ?_);(repeat (first|simp only [↓QA,QB,Nat.reduceLT,reduceIte,Nat.reduceEqDiff,Nat.reduceAdd,Nat.reduceLeDiff,Nat.reduceMul,Nat.reduceBEq,eK]|refine rd0 rfl ?_)))
  ((first|refine aC (hlo2) rfl dd ?_|refine aD (hlo2) rfl dd ?_);(repeat (first|simp only [↓QA,QB,Nat.reduceLT,reduceIte,Nat.reduceEqDiff,Nat.reduceAdd,Nat.reduceLeDiff,Nat.reduceMul,Nat.reduceBEq,eK,jT]|refine rd0 rfl ?_)))
 ·have h0':(eS v==0)=false:=by simpa using h0
  have hm:oW v=([],[],eS v):=by rw [oW,if_neg h0]
  rw [if_neg h0,if_neg h0,hm]
  (repeat (first|simp only [↓QA,QB,Nat.reduceLT,reduceIte,Nat.reduceEqDiff,Nat.reduceAdd,Nat.reduceLeDiff,Nat.reduceMul,Nat.reduceBEq,eK,h0',jT]|refine rd0 rfl ?_))
  try rfl
theorem jQ (v:Net) (hf:Fits v):dR T 28 [bI v] (xJ (kX v)):=by
 refine bE (af:=a28) rfl (by simp [a28]) dd ?_
 have her:=fun σ=>uI σ v [] (.inl rfl) hf
 simp only [List.map_nil,nS,sE,nG] at her
 (repeat (first|simp only [↓QA,QB,Nat.reduceLT,reduceIte,Nat.reduceEqDiff,Nat.reduceAdd,Nat.reduceLeDiff,Nat.reduceMul,Nat.reduceBEq,eK,a28]|refine rd0 rfl ?_))
 refine dZ (her _) ?_
 by_cases h0:eS v=0
 ·obtain ⟨hv,hne⟩:=mV h0
  have hnt:=hv.ntr
  have h6:v.trams.length≤6:=by omega
  obtain ⟨hl1,hl2⟩:=HM hv h6
  have hld:=E5 (B6 [.cells (aB v)] v) hv PT h6 (qQ v)
  obtain ⟨⟨⟨P,Q⟩,hPQ⟩,hY⟩:∃ Y,EA v h6=Y:=⟨_,rfl⟩
  have hYl:n5 (iM v) v.trams.length (TL v []) (mJ _ h6)=⟨(P,Q),hPQ⟩:=hY
  rw [hYl] at hl1 hl2
  rw [hY] at hld
  simp only at hl1 hl2 hld hPQ
  have hin:=W1 (v:=v) (l:=aJ v [])
  have hml:=VG v (aJ v [])
  have hlo2:=uU Q v.trams.length (by omega) (by omega)
  rw [hl2] at hlo2
  obtain ⟨M,hM⟩:∃ M,kQ v (aJ v [])=M:=⟨_,rfl⟩
  have hfo:kX v=if M=[] then (0,9) else (gR v M (-1),0):=by rw [kX,if_pos h0,hM]
  rw [hM] at hlo2 hml
  simp only [hM] at hin
  obtain ⟨Z,hZ⟩:∃ Z,gR v M (-1)=Z:=⟨_,rfl⟩
  have hZM:(Z<0↔M=[]):=by
   have key:∀ (l:List Int) (b:Int),(∀ t∈l,0≤t)→(gR v l b<0↔b<0∧l=[]):=by
    intro l
    induction l with
    |nil=>intro b _;simp [gR]
    |cons t l ih =>
     intro b h
     have ht:=h t (by simp)
     rw [gR,ih _ fun x hx=>h x (by simp [hx])]
     split<;>simp_all<;>omega
   rw [←hZ,key M (-1) fun t ht=>(hin t ht).1]
   simp
  have hfo2:kX v=if Z<0 then (0,9) else (Z,0):=by
   rw [hfo,hZ]
   by_cases h:M=[]
   ·rw [if_pos h,if_pos (hZM.2 h)]
   ·rw [if_neg h,if_neg fun q=>h (hZM.1 q)]
  rw [if_pos h0,if_pos h0,hfo2]
  simp only [mI] at hld ⊢
  try simp only [↓QA,QB,Nat.reduceLT,reduceIte,Nat.reduceEqDiff,Nat.reduceAdd,Nat.reduceLeDiff,Nat.reduceMul,Nat.reduceBEq,eK] at hld
  (repeat (first|simp only [↓QA,QB,Nat.reduceLT,reduceIte,Nat.reduceEqDiff,Nat.reduceAdd,Nat.reduceLeDiff,Nat.reduceMul,Nat.reduceBEq,eK,show ((0:Int)==0)=true from rfl]|refine rd0 rfl ?_))
  refine dZ hld ?_
  (repeat (first|simp only [↓QA,QB,Nat.reduceLT,reduceIte,Nat.reduceEqDiff,Nat.reduceAdd,Nat.reduceLeDiff,Nat.reduceMul,Nat.reduceBEq,eK]|refine rd0 rfl ?_))
  ((first|refine aC (hlo2) rfl dd ?_|refine aD (hlo2) rfl dd ?_);(repeat (first|simp only [↓QA,QB,Nat.reduceLT,reduceIte,Nat.reduceEqDiff,Nat.reduceAdd,Nat.reduceLeDiff,Nat.reduceMul,Nat.reduceBEq,eK]|refine rd0 rfl ?_)))
  refine bY (S:=Nat×Int) (0,-1) (fun a=>a.1≤M.length∧a.2<v.trams.length∧gR v (M.drop a.1) a.2=Z) (fun a=>M.length-a.1)
   (fun a=>[(1,.ptr 0 0),(8,.int .i64 a.2),(28,ints M),(29,.int .i64 M.length),(30,.int .i64 a.1)]) (fun a=>[.cells (aB v),.cells (aB v),.cells (aB v),.map (tEs v (I5 v h6 (qQ v))),.cells (db v 0 3)]) ⟨Nat.zero_le _,by simp only;omega,hZ⟩ (by simp [aB,ints]) ?_ fun a ha=>?_
  ·try simp only [aE,QE,Nat.reduceLT,reduceIte,Nat.reduceEqDiff,Nat.reduceAdd,Nat.reduceLeDiff,Nat.reduceMul,Nat.reduceBEq,eK,ints]
   try simp
  ·obtain ⟨k,b⟩:=a
   obtain ⟨hk,hb,hgo⟩:=ha
   simp only at hk hb hgo
   (repeat (first|simp only [↓QA,QB,Nat.reduceLT,reduceIte,Nat.reduceEqDiff,Nat.reduceAdd,Nat.reduceLeDiff,Nat.reduceMul,Nat.reduceBEq,eK,aBR]|refine rd0 rfl ?_))
   refine aG (fun h2=>?_) fun h2=>?_
   ·have hk1:k<M.length:=by simpa using h2
    have hw:=bX hk1 (by omega)
    have hx:=hin _ (List.getElem_mem hk1)
    rw [F5q hk1] at hgo
    obtain ⟨x,hxe⟩:∃ x:Nat,M[k]=(x:Int):=⟨M[k].toNat,by omega⟩
    rw [hxe] at hx hgo
    have hx1:x<v.trams.length:=by omega
    (repeat (first|simp only [↓QA,QB,Nat.reduceLT,reduceIte,Nat.reduceEqDiff,Nat.reduceAdd,Nat.reduceLeDiff,Nat.reduceMul,Nat.reduceBEq,eK,hk1,hxe]|refine rd0 rfl ?_))
    cases hbn:decide (b<0)
    ·have hbn':¬b<0:=by simpa using hbn
     obtain ⟨B,rfl⟩:∃ B:Nat,b=(B:Int):=⟨b.toNat,by omega⟩
     have hB1:B<v.trams.length:=by omega
     rw [Int.toNat_natCast,Int.toNat_natCast,R2 hx1,R2 hB1] at hgo
     obtain ⟨zx,hzx⟩:∃ z,v.trams[x]=z:=⟨_,rfl⟩
     obtain ⟨zb,hzb⟩:∃ z,v.trams[B]=z:=⟨_,rfl⟩
     rw [hzx,hzb] at hgo
     cases q:decide (zx.due<zb.due)
     ·have q':¬zx.due<zb.due:=by simpa using q
      rw [if_neg (by omega)] at hgo
      (repeat (first|simp only [↓QA,QB,Nat.reduceLT,reduceIte,Nat.reduceEqDiff,Nat.reduceAdd,Nat.reduceLeDiff,Nat.reduceMul,Nat.reduceBEq,eK,hbn,hx1,hB1,hzx,hzb,q,hw]|refine rd0 rfl ?_))
      refine ⟨(k+1,(B:Int)),⟨by simp only;omega,by simp only;omega,hgo⟩,by simp only;omega,?_⟩
      try simp only [aE,QE,Nat.reduceLT,reduceIte,Nat.reduceEqDiff,Nat.reduceAdd,Nat.reduceLeDiff,Nat.reduceMul,Nat.reduceBEq,eK,hw,ints]
      try simp [aL]
     ·have q':zx.due<zb.due:=by simpa using q
      rw [if_pos (.inr q')] at hgo
      (repeat (first|simp only [↓QA,QB,Nat.reduceLT,reduceIte,Nat.reduceEqDiff,Nat.reduceAdd,Nat.reduceLeDiff,Nat.reduceMul,Nat.reduceBEq,eK,hbn,hx1,hB1,hzx,hzb,q,hw]|refine rd0 rfl ?_))
      refine ⟨(k+1,(x:Int)),⟨by simp only;omega,by simp only;omega,hgo⟩,by simp only;omega,?_⟩
      try simp only [aE,QE,Nat.reduceLT,reduceIte,Nat.reduceEqDiff,Nat.reduceAdd,Nat.reduceLeDiff,Nat.reduceMul,Nat.reduceBEq,eK,hw,ints]
      try simp [aL]
    ·have hbn':b<0:=by simpa using hbn
     rw [if_pos (.inl hbn')] at hgo
     (repeat (first|simp only [↓QA,QB,Nat.reduceLT,reduceIte,Nat.reduceEqDiff,Nat.reduceAdd,Nat.reduceLeDiff,Nat.reduceMul,Nat.reduceBEq,eK,hbn,hw]|refine rd0 rfl ?_))
     refine ⟨(k+1,(x:Int)),⟨by simp only;omega,by simp only;omega,hgo⟩,by simp only;omega,?_⟩
     try simp only [aE,QE,Nat.reduceLT,reduceIte,Nat.reduceEqDiff,Nat.reduceAdd,Nat.reduceLeDiff,Nat.reduceMul,Nat.reduceBEq,eK,hw,ints]
     try simp [aL]
   ·have hk1:k=M.length:=by simp at h2;omega
    rw [hk1,List.drop_length,gR] at hgo
    subst hgo
    cases q:decide (b<0)
    ·have q':¬b<0:=by simpa using q
     rw [if_neg q']
     (repeat (first|simp only [↓QA,QB,Nat.reduceLT,reduceIte,Nat.reduceEqDiff,Nat.reduceAdd,Nat.reduceLeDiff,Nat.reduceMul,Nat.reduceBEq,eK,q,xJ]|refine rd0 rfl ?_))
     try try simp only [QS,QC,Nat.reduceLT,reduceIte,Nat.reduceEqDiff,Nat.reduceAdd,Nat.reduceLeDiff,Nat.reduceMul,Nat.reduceBEq,eK]
    ·have q':b<0:=by simpa using q
     rw [if_pos q']
     (repeat (first|simp only [↓QA,QB,Nat.reduceLT,reduceIte,Nat.reduceEqDiff,Nat.reduceAdd,Nat.reduceLeDiff,Nat.reduceMul,Nat.reduceBEq,eK,q,xJ]|refine rd0 rfl ?_))
     try try simp only [QS,QC,Nat.reduceLT,reduceIte,Nat.reduceEqDiff,Nat.reduceAdd,Nat.reduceLeDiff,Nat.reduceMul,Nat.reduceBEq,eK]
 ·have h0':(eS v==0)=false:=by simpa using h0
  have hm:kX v=(0,eS v):=by rw [kX,if_neg h0]
  rw [if_neg h0,if_neg h0,hm]
  (repeat (first|simp only [↓QA,QB,Nat.reduceLT,reduceIte,Nat.reduceEqDiff,Nat.reduceAdd,Nat.reduceLeDiff,Nat.reduceMul,Nat.reduceBEq,eK,h0',xJ]|refine rd0 rfl ?_))
  try rfl
end Go.Am.Room
set_option maxRecDepth 8000
namespace Go.Am.Room
def jD:=And.intro @bH (And.intro @aI (And.intro @aW (And.intro @aT (And.intro @aS (And.intro @aR (And.intro @bF (And.intro @bC (And.intro @bA (And.intro @dH (And.intro @d6 (And.intro @Nat.not_lt_zero (And.intro @List.length_append.{0} (And.intro @Nat.zero_add (And.intro @Nat.mul_one (And.intro @Int.toNat_natCast (And.intro @Nat.add_lt_add_iff_left (And.intro @Nat.lt_add_right_iff_pos (And.intro @eU (And.intro @gD (And.intro @gJ (And.intro @lS (@gI))))))))))))))))))))))
theorem yQ (σ:St) (v:Net) (ns:List Int) (hns:ns=[]∨∃ t,ns=[t,(v.trams.length:Int)]) (hf:Fits v) (h:xI v ns=0):BZ T (.func 79 [] []) [bI v,.lit (ns.map (.int .i64)) true none] σ (.tuple [.ptr (σ.length+3) 0,.int .i64 0]) (mI σ v (qQ v)):=by
 have:=uI σ v ns hns hf
 rwa [nS,if_pos h,sE,if_pos h] at this
theorem C1 (σ:St) (v:Net) (ns:List Int) (hns:ns=[]∨∃ t,ns=[t,(v.trams.length:Int)]) (hf:Fits v) (h:xI v ns≠0):BZ T (.func 79 [] []) [bI v,.lit (ns.map (.int .i64)) true none] σ (.tuple [.nilPtr,.int .i64 (xI v ns)]) σ:=by
 have:=uI σ v ns hns hf
 rwa [nS,if_neg h,sE,if_neg h] at this
abbrev Com:=Span×Bool×Bool
def cU (x:Com):St:=[.cells [.bool x.2.1],.cells [.bool x.2.2]]
theorem aAS (N:Nat) (x:Com) (y:ABlk) (hy:y∈cU x) (k:Nat) (hk:N≤k):aL k y:=by
 simp only [cU,List.mem_cons,List.not_mem_nil,or_false] at hy
 rcases hy with rfl|rfl<;>simp [aL,okVs,okV]
def cS (v:Net) (t:Nat) (x:Com) (A:List K5):St:=mI [.cells (aB v),.cells [.int .i64 t],.cells [.int .i64 x.1.lo,.int .i64 x.1.hi]] v A
theorem aAV (v:Net) (t:Nat) (x:Com):MemAt (cS v t x) (db v 0 5) (tEs v) 6 5 7:=B6 [.cells (aB v),.cells [.int .i64 t],.cells [.int .i64 x.1.lo,.int .i64 x.1.hi]] v
theorem WT (v:Net) (t:Nat) (x:Com) (A:List K5) (y:Com) (B:List K5) (k i:Nat) (hk:7≤k) (hi:i<7):fN (cS v t x A) (cS v t y B) k i:=by
 match i,hi with
 |0,_=>exact .inl rfl
 |1,_=>exact .inl rfl
 |2,_=>exact .inr (.inl ⟨_,rfl,by simp [aL,okVs,okV]⟩)
 |3,_=>exact .inl rfl
 |4,_=>exact .inl rfl
 |5,_=>exact .inr (.inl ⟨_,rfl,tP v B k⟩)
 |6,_=>exact .inl rfl
def TK (v:Net) (t:Nat) (c:List Int) (x:Com):Com×Bool:=(T3 (cT (d7 v c) (t:Int)) x,true)
theorem dJ (v:Net) (hf:Fits v) (n:Int):dR T 23 [bI v,.int .i64 n] (kA (kP v n)):=by
 refine bE (af:=a23) rfl (by simp [a23]) dd ?_
 (repeat (first|simp only [↓QA,QB,Nat.reduceLT,reduceIte,Nat.reduceEqDiff,Nat.reduceAdd,Nat.reduceLeDiff,Nat.reduceMul,Nat.reduceBEq,jD,a23]|refine rd0 rfl ?_))
 by_cases h0:hJ v n=0
 ·have hck:(cA v).2.2=0∧inR n 0 ((v.trams.length:Int)-1)=true∧aJ v []≠[]:=by
   have h1:=h0
   by_cases q:(cA v).2.2=0
   ·cases q2:inR n 0 ((v.trams.length:Int)-1)
    ·simp [hJ,fZ,q,q2] at h1
    ·refine ⟨q,rfl,fun e=>?_⟩
     simp [hJ,fZ,q,q2,e] at h1
   ·simp [hJ,fZ,q] at h1
  obtain ⟨hc0,hin,hne⟩:=hck
  have hv:=eB hc0
  have hnt:=hv.ntr
  rw [d5] at hin
  obtain ⟨t,rfl⟩:∃ t:Nat,n=t:=⟨n.toNat,by omega⟩
  have htl:t<v.trams.length:=by omega
  have hmem:=LO (ZV hv [] t)
  have hTne:DG v (TL v []) t≠[]:=by
   intro e
   have:TL v []=[]:=by simpa [DG] using e
   have h2:=OI hv []
   rw [this] at h2
   simp at h2
   exact hne h2
  have hst:=JO hTne
  have hca:=YU (DG v (TL v []) t)
  have hgo:=BI (f:=TK v t) (fun _ _=>rfl) (TL v []) (⟨0,0⟩,false,false)
  have hfd:(TL v []).foldl (fun x c=>(TK v t c x).1) (⟨0,0⟩,false,false)=(DG v (TL v []) t).foldl (fun x a=>T3 a x) (⟨0,0⟩,false,false):=by
   rw [DG,List.foldl_map];rfl
  rw [hfd,hca] at hgo
  have hm:kP v t=((bR (DG v (TL v []) t)).1,(bR (DG v (TL v []) t)).2,0):=by rw [kP,if_pos h0,Int.toNat_natCast,hmem]
  obtain ⟨AT,hAT⟩:∃ AT,DG v (TL v []) t=AT:=⟨_,rfl⟩
  rw [hAT] at hm hgo hst
  have hcs:bR AT=(iE (dF AT),eP (dF AT).length AT.length):=rfl
  rw [hcs,hst] at hm
  obtain ⟨SP,hSP⟩:∃ SP,iE (dF AT)=SP:=⟨_,rfl⟩
  obtain ⟨EM,hEM⟩:∃ EM,(dF AT).isEmpty=EM:=⟨_,rfl⟩
  obtain ⟨SY,hSY⟩:∃ SY,AT.contains (-1)=SY:=⟨_,rfl⟩
  rw [hSP,hEM,hSY] at hgo
  rw [hSP,hEM,hSY] at hm
  rw [hm]
  have her:=fun σ=>yQ σ v [(t:Int),(v.trams.length:Int)] (.inr ⟨_,rfl⟩) hf h0
  simp only [List.map_nil,List.map_cons] at her
  have hrng:=DI (S:=cS v t) (aAV v t) (WT v t) (by decide) hv PT cU cU 2 (fun _=>rfl) (fun _=>rfl) (aAS _) (aAS _) .ret (f:=TK v t)
  simp only [cS,mI] at hrng her
  simp only [aI] at hrng her
  refine dZ (her _) ?_
  (repeat (first|simp only [↓QA,QB,Nat.reduceLT,reduceIte,Nat.reduceEqDiff,Nat.reduceAdd,Nat.reduceLeDiff,Nat.reduceMul,Nat.reduceBEq,jD,show ((0:Int)==0)=true from rfl]|refine rd0 rfl ?_))
  refine tA rfl (by simp [a80]) ?_
  (repeat (first|simp only [↓QA,QB,Nat.reduceLT,reduceIte,Nat.reduceEqDiff,Nat.reduceAdd,Nat.reduceLeDiff,Nat.reduceMul,Nat.reduceBEq,jD,a80]|refine rd0 rfl ?_))
  refine hrng _ 28 [29,30] _ _ ?_ ?_ (⟨0,0⟩,false,false) (qQ v) _ ?_ ?_
  ·try simp only [aE,QE,Nat.reduceLT,reduceIte,Nat.reduceEqDiff,Nat.reduceAdd,Nat.reduceLeDiff,Nat.reduceMul,Nat.reduceBEq,jD]
  ·refine pT (aAV v t) cU cU 2 (fun _=>rfl) (fun _=>rfl) .ret _ _ (qU v) (fun _ _ _=>rfl) _ _ ?_
   intro c _ fl tk x B τ
   have i3:(0:Int)≤(t:Int)∧(t:Int)<((3:Nat):Int):=⟨by omega,by omega⟩
   have hg:=kR 3 (cW (d7 v c)) (i:=t) (by omega)
   have hcf:cW (d7 v c) t=cT (d7 v c) (t:Int):=rfl
   rw [hcf] at hg
   have hta:∀ (b0 b1 b2 b3 b4 b5 b6 b7 b8 b9 b10:ABlk),aK (b0::b1::b2::b3::b4::b5::b6::b7::b8::b9::b10::(τ++[.cells (bV 3 (cW (d7 v c)))])) (τ.length+1+1+1+1+1+1+1+1+1+1+1)=some (bV 3 (cW (d7 v c))):=fun b0 b1 b2 b3 b4 b5 b6 b7 b8 b9 b10=>by
    simp only [sI]
    rw [kF];rfl
   obtain ⟨C,hC⟩:∃ C,cT (d7 v c) (t:Int)=C:=⟨_,rfl⟩
   have hcy:TK v t c x=(if C = -1 then (x.1,x.2.1,true) else if x.2.1=false then (⟨C,C⟩,true,x.2.2) else (mN x.1 C,true,x.2.2),true):=by rw [TK,hC];rfl
   rw [hC] at hg
   rw [hcy]
   obtain ⟨⟨lo,hi⟩,ru,sy⟩:=x
   simp only [lZ,qU,cS,mI,cU,aI]
   (repeat (first|simp only [↓QA,QB,Nat.reduceLT,reduceIte,Nat.reduceEqDiff,Nat.reduceAdd,Nat.reduceLeDiff,Nat.reduceMul,Nat.reduceBEq,jD]|refine rd0 rfl ?_))
   refine ⟨[.cells (bV 3 (cW (d7 v c)))],by simp,?_⟩
   cases q1:(C==-1)
   ·have q1':C≠-1:=by simpa using q1
    rw [if_neg q1']
    cases ru
    ·(repeat (first|simp only [↓QA,QB,Nat.reduceLT,reduceIte,Nat.reduceEqDiff,Nat.reduceAdd,Nat.reduceLeDiff,Nat.reduceMul,Nat.reduceBEq,jD,N7,hta,i3,hg,q1]|refine rd0 rfl ?_))
     exact .inl ⟨[.cells (bV 3 (cW (d7 v c)))],by simp⟩
    ·(repeat (first|simp only [↓QA,QB,Nat.reduceLT,reduceIte,Nat.reduceEqDiff,Nat.reduceAdd,Nat.reduceLeDiff,Nat.reduceMul,Nat.reduceBEq,jD,N7,hta,i3,hg,q1]|refine rd0 rfl ?_))
     exact .inl ⟨[.cells (bV 3 (cW (d7 v c)))],by simp [mN]⟩
   ·have q1':C = -1:=by simpa using q1
    rw [if_pos q1']
    (repeat (first|simp only [↓QA,QB,Nat.reduceLT,reduceIte,Nat.reduceEqDiff,Nat.reduceAdd,Nat.reduceLeDiff,Nat.reduceMul,Nat.reduceBEq,jD,N7,hta,i3,hg,q1]|refine rd0 rfl ?_))
    exact .inl ⟨[.cells (bV 3 (cW (d7 v c)))],by simp⟩
  ·intro τ h2
   rw [hgo]
   simp only [cU,cS,mI,aI]
   cases SY
   ·(repeat (first|simp only [↓QA,QB,Nat.reduceLT,reduceIte,Nat.reduceEqDiff,Nat.reduceAdd,Nat.reduceLeDiff,Nat.reduceMul,Nat.reduceBEq,jD,kA]|refine rd0 rfl ?_))
    try try simp only [QS,QC,Nat.reduceLT,reduceIte,Nat.reduceEqDiff,Nat.reduceAdd,Nat.reduceLeDiff,Nat.reduceMul,Nat.reduceBEq,jD]
   ·cases EM
    ·(repeat (first|simp only [↓QA,QB,Nat.reduceLT,reduceIte,Nat.reduceEqDiff,Nat.reduceAdd,Nat.reduceLeDiff,Nat.reduceMul,Nat.reduceBEq,jD,kA,Bool.true_eq_false,Bool.false_eq_true]|refine rd0 rfl ?_))
     try try simp only [QS,QC,Nat.reduceLT,reduceIte,Nat.reduceEqDiff,Nat.reduceAdd,Nat.reduceLeDiff,Nat.reduceMul,Nat.reduceBEq,jD]
    ·(repeat (first|simp only [↓QA,QB,Nat.reduceLT,reduceIte,Nat.reduceEqDiff,Nat.reduceAdd,Nat.reduceLeDiff,Nat.reduceMul,Nat.reduceBEq,jD,kA,Bool.true_eq_false,Bool.false_eq_true]|refine rd0 rfl ?_))
     try try simp only [QS,QC,Nat.reduceLT,reduceIte,Nat.reduceEqDiff,Nat.reduceAdd,Nat.reduceLeDiff,Nat.reduceMul,Nat.reduceBEq,jD]
  ·intro τ h2
   rw [hgo] at h2
   cases h2
 ·have h0':(hJ v n==0)=false:=by simpa using h0
  have hm:kP v n=(⟨0,0⟩,0,hJ v n):=by rw [kP,if_neg h0]
  have her:=fun σ=>C1 σ v [n,(v.trams.length:Int)] (.inr ⟨n,rfl⟩) hf h0
  simp only [List.map_nil,List.map_cons,UK] at her
  rw [hm]
  refine dZ (her _) ?_
  (repeat (first|simp only [↓QA,QB,Nat.reduceLT,reduceIte,Nat.reduceEqDiff,Nat.reduceAdd,Nat.reduceLeDiff,Nat.reduceMul,Nat.reduceBEq,jD,h0',kA]|refine rd0 rfl ?_))
  try rfl
end Go.Am.Room
set_option maxRecDepth 8000
namespace Go.Am.Room
def jW:=And.intro @bH (And.intro @aI (And.intro @aW (And.intro @aT (And.intro @aS (And.intro @aR (And.intro @bF (And.intro @bC (And.intro @bA (And.intro @dH (And.intro @d6 (And.intro @Nat.not_lt_zero (And.intro @List.length_append.{0} (And.intro @Nat.zero_add (And.intro @Nat.mul_one (And.intro @Int.toNat_natCast (And.intro @eU (And.intro @gD (And.intro @gJ (And.intro @lS (And.intro @gI (And.intro @jA (And.intro @iZ (And.intro @i7 (And.intro @i6 (And.intro @i9 (And.intro @iY (And.intro @Nat.add_lt_add_iff_left (@Nat.lt_add_right_iff_pos))))))))))))))))))))))))))))
theorem GC (v:Net) (b m p:Nat) (σ:St) (hσ:aK σ p=some (db v b m)) (t:Nat) (ht:t<v.trams.length) (c:Int):kK T (.func 111 [] []) [.ptr p 0,.int .i64 t,.int .i64 c] σ (.bool (jE v t c)):=by
 refine fC (af:=a111) rfl (by simp [a111]) ?_
 have hit:=rG (v:=v) (t:=t) (z:=v.trams[t]) (by simp [ht]) c
 obtain ⟨z,hz⟩:∃ z,v.trams[t]=z:=⟨_,rfl⟩
 rw [hz] at hit
 have e:decide (c = -1)=(c==-1):=by rw [Bool.eq_iff_iff];simp
 rw [e] at hit
 rw [hit]
 cases h:(c==-1)
 ·(repeat (first|simp only [↓QA,QB,Nat.reduceLT,reduceIte,Nat.reduceEqDiff,Nat.reduceAdd,Nat.reduceLeDiff,Nat.reduceMul,Nat.reduceBEq,jW,a111,h,hσ,ht,hz]|refine rd0 rfl ?_))
  refine fR [] (by first|rfl|simp) ?_
  try simp only [QS,QC,Nat.reduceLT,reduceIte,Nat.reduceEqDiff,Nat.reduceAdd,Nat.reduceLeDiff,Nat.reduceMul,Nat.reduceBEq,jW]
 ·(repeat (first|simp only [↓QA,QB,Nat.reduceLT,reduceIte,Nat.reduceEqDiff,Nat.reduceAdd,Nat.reduceLeDiff,Nat.reduceMul,Nat.reduceBEq,jW,a111,h]|refine rd0 rfl ?_))
  refine fR [] (by first|rfl|simp) ?_
  try simp only [QS,QC,Nat.reduceLT,reduceIte,Nat.reduceEqDiff,Nat.reduceAdd,Nat.reduceLeDiff,Nat.reduceMul,Nat.reduceBEq,jW,Bool.false_and]
theorem KA (a b:List Int) (ha:a.length<9223372036854775808) (hb:b.length<9223372036854775808):dR T 88 [ints a,ints b] (.bool (decide (a=b))):=by
 refine bE (af:=a88) rfl (by simp [a88]) dd ?_
 by_cases h:a.length=b.length
 ·have g:((a.length:Int)==(b.length:Int))=true:=by simp;omega
  (repeat (first|simp only [↓QA,QB,Nat.reduceLT,reduceIte,Nat.reduceEqDiff,Nat.reduceAdd,Nat.reduceLeDiff,Nat.reduceMul,Nat.reduceBEq,jW,a88,g]|refine rd0 rfl ?_))
  refine bY (S:=Nat) 0 (fun k=>k≤a.length∧a.take k=b.take k) (fun k=>a.length-k) (fun k=>[(0,ints a),(1,ints b),(12,.int .i64 a.length),(13,.int .i64 k)]) (fun _=>[]) ⟨Nat.zero_le _,by simp⟩ rfl ?_ fun k hk=>?_
  ·try simp only [aE,QE,Nat.reduceLT,reduceIte,Nat.reduceEqDiff,Nat.reduceAdd,Nat.reduceLeDiff,Nat.reduceMul,Nat.reduceBEq,jW,ints]
   try simp
  ·obtain ⟨hk,hq⟩:=hk
   (repeat (first|simp only [↓QA,QB,Nat.reduceLT,reduceIte,Nat.reduceEqDiff,Nat.reduceAdd,Nat.reduceLeDiff,Nat.reduceMul,Nat.reduceBEq,jW,aBI]|refine rd0 rfl ?_))
   refine aG (fun hd=>?_) fun hd=>?_
   ·have hk1:k<a.length:=by simpa using hd
    have hk2:k<b.length:=by omega
    have hw:=bX hk1 ha
    obtain ⟨x,hx⟩:∃ x,a[k]=x:=⟨_,rfl⟩
    obtain ⟨y,hy⟩:∃ y,b[k]=y:=⟨_,rfl⟩
    cases q:(x==y)
    ·have q':x≠y:=by simpa using q
     have hne:decide (a=b)=false:=by
      simp only [decide_eq_false_iff_not]
      rintro rfl
      exact q' (hx.symm.trans hy)
     rw [hne]
     (repeat (first|simp only [↓QA,QB,Nat.reduceLT,reduceIte,Nat.reduceEqDiff,Nat.reduceAdd,Nat.reduceLeDiff,Nat.reduceMul,Nat.reduceBEq,jW,hk1,hk2,hx,hy,q]|refine rd0 rfl ?_))
    ·have q':x=y:=by simpa using q
     (repeat (first|simp only [↓QA,QB,Nat.reduceLT,reduceIte,Nat.reduceEqDiff,Nat.reduceAdd,Nat.reduceLeDiff,Nat.reduceMul,Nat.reduceBEq,jW,hk1,hk2,hx,hy,q]|refine rd0 rfl ?_))
     refine ⟨k+1,⟨by omega,by rw [List.take_succ_eq_append_getElem hk1,List.take_succ_eq_append_getElem hk2,hq,hx,hy,q']⟩,by omega,?_⟩
     try simp only [aE,QE,Nat.reduceLT,reduceIte,Nat.reduceEqDiff,Nat.reduceAdd,Nat.reduceLeDiff,Nat.reduceMul,Nat.reduceBEq,jW,hw,ints]
     try simp [aL]
   ·have hk1:k=a.length:=by
     have:¬k<a.length:=by simpa using hd
     omega
    rw [hk1,List.take_length,h,List.take_length] at hq
    have he:decide (a=b)=true:=by simpa using hq
    rw [he]
    (repeat (first|simp only [↓QA,QB,Nat.reduceLT,reduceIte,Nat.reduceEqDiff,Nat.reduceAdd,Nat.reduceLeDiff,Nat.reduceMul,Nat.reduceBEq,jW]|refine rd0 rfl ?_))
 ·have g:((a.length:Int)==(b.length:Int))=false:=by simp;omega
  have hne:decide (a=b)=false:=by
   simp only [decide_eq_false_iff_not]
   rintro rfl
   exact h rfl
  rw [hne]
  (repeat (first|simp only [↓QA,QB,Nat.reduceLT,reduceIte,Nat.reduceEqDiff,Nat.reduceAdd,Nat.reduceLeDiff,Nat.reduceMul,Nat.reduceBEq,jW,a88,g]|refine rd0 rfl ?_))
def lV:Option (List Int)→AV
 |none=>.lit [] true none
 |some l=>ints l
theorem CN (P:List (List Int)):(P.map some).map lV=P.map ints:=by simp [lV]
theorem QZ (ps:List (List Int)) (pl n k:Nat) (hn:n=ps.length) (σ:St) (h1:aK σ k=some [.ref pl 0 n 1]) (h2:aK σ pl=some (ps.map ints)) (i:Nat) (hi:i<ps.length):kK T (.func 112 [] [.ptr k 0]) [.int .i64 i] σ (ints (eI ps i)):=by
 refine fC (af:=a112) rfl (by simp [a112]) ?_
 rw [M9 hi]
 obtain ⟨w,hw⟩:∃ w,ps[i]=w:=⟨_,rfl⟩
 have i1:(0:Int)≤(i:Int)∧(i:Int)<(n:Int)∧1=1:=⟨by omega,by omega,rfl⟩
 rw [hw]
 (repeat (first|simp only [↓QA,QB,Nat.reduceLT,reduceIte,Nat.reduceEqDiff,Nat.reduceAdd,Nat.reduceLeDiff,Nat.reduceMul,Nat.reduceBEq,jW,a112,h1,h2,i1,hi,hw]|refine rd0 rfl ?_))
 refine fR [] (by first|rfl|simp) ?_
 try simp only [QS,QC,Nat.reduceLT,reduceIte,Nat.reduceEqDiff,Nat.reduceAdd,Nat.reduceLeDiff,Nat.reduceMul,Nat.reduceBEq,jW]
end Go.Am.Room
set_option maxRecDepth 8000
namespace Go.Am.Room
def gQ:=And.intro @bH (And.intro @aI (And.intro @aW (And.intro @aT (And.intro @aS (And.intro @aR (And.intro @bF (And.intro @bC (And.intro @bA (And.intro @dH (And.intro @d6 (And.intro @Nat.not_lt_zero (And.intro @List.length_append.{0} (And.intro @Nat.zero_add (And.intro @Nat.mul_one (And.intro @Int.toNat_natCast (And.intro @eU (And.intro @gD (And.intro @gJ (And.intro @lS (And.intro @gI (And.intro @jA (And.intro @iZ (And.intro @i7 (And.intro @i6 (And.intro @i9 (And.intro @iY (And.intro @Nat.add_lt_add_iff_left (And.intro @Nat.lt_add_right_iff_pos (And.intro @pM (@pL))))))))))))))))))))))))))))))
def F0 (v:Net) (ps:List (List Int)) (c:List Int) (x:Unit):Unit×Bool:=(x,JN v ps c)
theorem JP (v:Net) (ps:List (List Int)):∀ l:List (List Int),(cI (F0 v ps) l ()).2=l.all (JN v ps)
 |[]=>rfl
 |c::l=>by
  have ih:=JP v ps l
  rw [List.all_cons]
  by_cases h:JN v ps c=true
  ·have:cI (F0 v ps) (c::l) ()=cI (F0 v ps) l ():=by simp only [cI,F0];exact if_pos h
   rw [this,h,Bool.true_and,ih]
  ·have:cI (F0 v ps) (c::l) ()=((),false):=by simp only [cI,F0];exact if_neg h
   rw [this]
   rw [Bool.not_eq_true] at h
   rw [h];rfl
def CO (v:Net) (ps:List (List Int)) (A:List K5):List K5:=(gH v [] (F0 v ps) () A).1.2
def doU (p pl n:Nat) (_:Unit):St:=[.cells [.ptr p 0],.cells [.ref pl 0 n 1],.cells [.bool false]]
theorem OZ {S:List K5→St} {v:Net} {b p m N:Nat} (hR:MemAt S (db v b m) (tEs v) p m N) (hv:Vd v) (ps:List (List Int)) (hps:RunOk v ps) (pl:Nat) (hpl:∀ A,aK (S A) pl=some (ps.map ints)) (hplN:pl<N) (c:List Int) (hcl:c.length=v.rails.length) (hcm:vQ v (rlI c)) (B:List K5) (lp:ABlk) (τ:St) (e:Env)
  (e2:Env.get e 2 = .ptr N 0) (e3:Env.get e 3 = .ptr (N+1) 0) (e4:Env.get e 4 = .ptr (N+2) 0) (e5:Env.get e 5 = .ptr (N+(τ.length+1+1+1+1+1)) 0) :
  wp T UO e (S B++(doU p pl v.trams.length ()++(.cells [.ptr p 0]::lp::(τ++[.cells (bV 5 (rl c))])))) (fun j e'' σ''=>(qJ v (iO v ps (rlI c)) v.trams.length=true∧j=none∧∃ τ',σ''=S B++(doU p pl v.trams.length ()++(.cells [.ptr p 0]::lp::(τ++τ')))) ∨
   (qJ v (iO v ps (rlI c)) v.trams.length=false∧j=some .ret∧∃ τ',σ''=S B++(doU p pl v.trams.length ()++(.cells [.ptr p 0]::lp::(τ++τ'))))):=by
 have hnt:=hv.ntr
 have hpN:=hR.pl
 have hlen:=hps.len
 have hta:∀ (b0 b1 b2 b3 b4:ABlk) (cs:List AV) (τ2:St),aK (S B++(b0::b1::b2::b3::b4::(τ++(.cells cs::τ2)))) (N+(τ.length+1+1+1+1+1))=some cs:=fun b0 b1 b2 b3 b4 cs τ2=>by
  rw [hR.base]
  simp only [sI]
  rw [kF];rfl
 have htb:∀ (b0 b1 b2 b3 b4 b5:ABlk) (cs:List AV) (τ2:St),aK (S B++(b0::b1::b2::b3::b4::(τ++(b5::.cells cs::τ2)))) (N+(τ.length+1+1+1+1+1+1))=some cs:=fun b0 b1 b2 b3 b4 b5 cs τ2=>by
  rw [hR.base]
  simp only [sI]
  have:τ++(b5::.cells cs::τ2)=(τ++[b5])++(.cells cs::τ2):=by simp
  rw [this,show τ.length+1=(τ++[b5]).length by simp,kF];rfl
 have hrun:∀ (σ:St) (k:Nat),aK σ p=some (db v b m)→aK σ pl=some (ps.map ints)→aK σ k=some [.ref pl 0 v.trams.length 1]→kK T (.func 109 [] []) [.ptr p 0,.agg (bV 5 (rl c)),.func 112 [] [.ptr k 0]] σ (.agg (bV 3 (cW (iO v ps (rlI c))))):=fun σ k h1 h2 h3=>by
  have hkl:=rH h3
  exact J2 v hv b m p σ h1 (rH h1) _ (fun τ n hn=>by
   try simp only [QS,QC,Nat.reduceLT,reduceIte,Nat.reduceEqDiff,Nat.reduceAdd,Nat.reduceLeDiff,Nat.reduceMul,Nat.reduceBEq,gQ,hR.len,hR.base,hR.base0,hR.bset,hR.bset0,hR.at1,hR.at0,GS]
   simp [show k<n by omega]) ps hps (fun i hi τ=>QZ ps pl v.trams.length k hlen.symm _ (lG h3 τ) (lG h2 τ) i (by omega)) (rl c) (rlI c) (RW c) hcm
 have hcc:(iO v ps (rlI c)).length=v.trams.length:=mA _ _ _ _
 obtain ⟨CS,hCS⟩:∃ CS,iO v ps (rlI c)=CS:=⟨_,rfl⟩
 simp only [hCS] at hrun
 rw [hCS] at hcc
 rw [hCS]
 have hplS:∀ τ,aK (S B++τ) pl=some (ps.map ints):=fun τ=>lG (hpl B) τ
 have hk3:∀ (b0 b2 b3 b4:ABlk) (cs:List AV) (τ2:St),aK (S B++(b0::.cells cs::b2::τ2)) (N+1)=some cs:=fun b0 b2 b3 b4 cs τ2=>by rw [hR.base];rfl
 simp only [doU]
 (repeat (first|simp only [↓QA,QB,Nat.reduceLT,reduceIte,Nat.reduceEqDiff,Nat.reduceAdd,Nat.reduceLeDiff,Nat.reduceMul,Nat.reduceBEq,gQ,hR.len,hR.base,hR.base0,hR.bset,hR.bset0,hR.at1,hR.at0,UO,hta,e2,e3,e4,e5]|refine rd0 rfl ?_))
 refine cM (hrun _ (N+1) (hR.at1 _ _) (hplS _) (by rw [hR.base];rfl)) ?_
 (repeat (first|simp only [↓QA,QB,Nat.reduceLT,reduceIte,Nat.reduceEqDiff,Nat.reduceAdd,Nat.reduceLeDiff,Nat.reduceMul,Nat.reduceBEq,gQ,hR.len,hR.base,hR.base0,hR.bset,hR.bset0,hR.at1,hR.at0,hta,htb,e2,e3,e4,e5]|refine rd0 rfl ?_))
 refine bY (S:=Nat) 0 (fun k=>k≤v.trams.length∧qJ v CS k=true) (fun k=>v.trams.length-k)
  (fun k=>[(2,.ptr N 0),(4,.ptr (N+2) 0),(6,.ptr (N+(τ.length+1+1+1+1+1+1)) 0),(21,.int .i64 v.trams.length),(22,.int .i64 k)])
  (fun k=>S B++(.cells [.ptr p 0]::.cells [.ref pl 0 v.trams.length 1]::.cells [.bool false]::.cells [.ptr p 0]::lp::(τ++[.cells (bV 5 (rl c)),.cells (bV 3 (cW CS))]))) ⟨Nat.zero_le _,rfl⟩ rfl ?_ fun k hk=>?_
 ·try simp only [aE,QE,Nat.reduceLT,reduceIte,Nat.reduceEqDiff,Nat.reduceAdd,Nat.reduceLeDiff,Nat.reduceMul,Nat.reduceBEq,gQ,hR.len,hR.base,hR.base0,hR.bset,hR.bset0,hR.at1,hR.at0,e2,e4]
  try simp
 ·obtain ⟨hk,hf⟩:=hk
  (repeat (first|simp only [↓QA,QB,Nat.reduceLT,reduceIte,Nat.reduceEqDiff,Nat.reduceAdd,Nat.reduceLeDiff,Nat.reduceMul,Nat.reduceBEq,gQ,hR.len,hR.base,hR.base0,hR.bset,hR.bset0,hR.at1,hR.at0,aBH]|refine rd0 rfl ?_))
  refine aG (fun hd=>?_) fun hd=>?_
  ·have hk1:k<v.trams.length:=by simpa using hd
   have hw:=bX hk1 (by omega)
   have hsu:=IZ v CS k
   rw [hf,Bool.true_and] at hsu
   have i3:(0:Int)≤(k:Int)∧(k:Int)<((3:Nat):Int):=⟨by omega,by omega⟩
   have hg:=kR 3 (cW CS) (i:=k) (by omega)
   have hin:=fun σ (hσ:aK σ p=some (db v b m))=>GC v b m p σ hσ k hk1 (cW CS k)
   have hfe:jE v k (cW CS k)=jE v k (cT CS (k:Int)):=rfl
   (repeat (first|simp only [↓QA,QB,Nat.reduceLT,reduceIte,Nat.reduceEqDiff,Nat.reduceAdd,Nat.reduceLeDiff,Nat.reduceMul,Nat.reduceBEq,gQ,hR.len,hR.base,hR.base0,hR.bset,hR.bset0,hR.at1,hR.at0,htb,i3,hg]|refine rd0 rfl ?_))
   refine BF (hin _ (hR.at1 _ _)) ?_
   rw [hfe]
   cases hq:jE v k (cT CS (k:Int))
   ·rw [hq] at hsu
    have hff:=O8 hsu (show k+1≤v.trams.length by omega)
    rw [hff]
    (repeat (first|simp only [↓QA,QB,Nat.reduceLT,reduceIte,Nat.reduceEqDiff,Nat.reduceAdd,Nat.reduceLeDiff,Nat.reduceMul,Nat.reduceBEq,gQ,hR.len,hR.base,hR.base0,hR.bset,hR.bset0,hR.at1,hR.at0,htb,i3,hg]|refine rd0 rfl ?_))
    exact .inr ⟨[.cells (bV 5 (rl c)),.cells (bV 3 (cW CS))],by simp⟩
   ·rw [hq] at hsu
    (repeat (first|simp only [↓QA,QB,Nat.reduceLT,reduceIte,Nat.reduceEqDiff,Nat.reduceAdd,Nat.reduceLeDiff,Nat.reduceMul,Nat.reduceBEq,gQ,hR.len,hR.base,hR.base0,hR.bset,hR.bset0,hR.at1,hR.at0,htb,i3,hg]|refine rd0 rfl ?_))
    refine ⟨k+1,⟨by omega,hsu⟩,by omega,?_⟩
    try simp only [aE,QE,Nat.reduceLT,reduceIte,Nat.reduceEqDiff,Nat.reduceAdd,Nat.reduceLeDiff,Nat.reduceMul,Nat.reduceBEq,gQ,hR.len,hR.base,hR.base0,hR.bset,hR.bset0,hR.at1,hR.at0,hw,hR.eqS]
    try simp [aL,okVs,okV]
    try omega
  ·have hk1:k=v.trams.length:=by
    have:¬k<v.trams.length:=by simpa using hd
    omega
   rw [hk1] at hf
   rw [hf]
   (repeat (first|simp only [↓QA,QB,Nat.reduceLT,reduceIte,Nat.reduceEqDiff,Nat.reduceAdd,Nat.reduceLeDiff,Nat.reduceMul,Nat.reduceBEq,gQ,hR.len,hR.base,hR.base0,hR.bset,hR.bset0,hR.at1,hR.at0]|refine rd0 rfl ?_))
   exact .inl ⟨[.cells (bV 5 (rl c)),.cells (bV 3 (cW CS))],by simp⟩
theorem RD {S:List K5→St} {v:Net} {b p m N:Nat} (hR:MemAt S (db v b m) (tEs v) p m N) (hv:Vd v) (hb:ButIs b []) (ps:List (List Int)) (hps:RunOk v ps) (pl:Nat) (hpl:∀ A,aK (S A) pl=some (ps.map ints)) (hplN:pl<N) (A:List K5) :
  BZ T (.func 87 [] []) [.ptr p 0,.ref pl 0 v.trams.length 1] (S A) (.bool (oV v ps)) (S (CO v ps A)):=by
 have hnt:=hv.ntr
 have hpN:=hR.pl
 have hlen:=hps.len
 have hit:=JP v ps (TL v [])
 have hok:∀ (x:Unit) (y:ABlk),y∈doU p pl v.trams.length x→∀ k,N≤k→aL k y:=by
  intro x y hy k hk
  simp only [doU,List.mem_cons,List.not_mem_nil,or_false] at hy
  rcases hy with rfl|rfl|rfl<;>simp [aL,okVs,okV]<;>omega
 refine y0 hR (af:=a87) rfl (by simp [a87]) ?_
 have hrg:=oJ hR hv hb (doU p pl v.trams.length) (doU p pl v.trams.length) 3 (fun _=>rfl) (fun _=>rfl) hok hok .ret (f:=F0 v ps)
 (repeat (first|simp only [↓QA,QB,Nat.reduceLT,reduceIte,Nat.reduceEqDiff,Nat.reduceAdd,Nat.reduceLeDiff,Nat.reduceMul,Nat.reduceBEq,gQ,hR.len,hR.base,hR.base0,hR.bset,hR.bset0,hR.at1,hR.at0,a87]|refine rd0 rfl ?_))
 refine tA rfl (by simp [a80]) ?_
 (repeat (first|simp only [↓QA,QB,Nat.reduceLT,reduceIte,Nat.reduceEqDiff,Nat.reduceAdd,Nat.reduceLeDiff,Nat.reduceMul,Nat.reduceBEq,gQ,hR.len,hR.base,hR.base0,hR.bset,hR.bset0,hR.at1,hR.at0,a80]|refine rd0 rfl ?_))
 refine hrg _ 9 [10,11] _ _ ?_ ?_ () A _ ?_ ?_
 ·try simp only [aE,QE,Nat.reduceLT,reduceIte,Nat.reduceEqDiff,Nat.reduceAdd,Nat.reduceLeDiff,Nat.reduceMul,Nat.reduceBEq,gQ,hR.len,hR.base,hR.base0,hR.bset,hR.bset0,hR.at1,hR.at0]
 ·refine pT (S:=fun _=>S) (fun _=>hR) (doU p pl v.trams.length) (doU p pl v.trams.length) 3 (fun _=>rfl) (fun _=>rfl) .ret _ _ (qU v) (fun _ _ _=>rfl) _ _ ?_
  intro c hc fl tk x B τ
  obtain ⟨hcl,hcm⟩:=hc.1
  simp only [lZ,qU,doU]
  have hfin:F0 v ps c x=((),qJ v (iO v ps (rlI c)) v.trams.length):=rfl
  rw [hfin]
  have db:=fun lp e=>OZ hR hv ps hps pl hpl hplN c hcl hcm B lp τ e
  simp only [doU] at db
  (repeat (first|simp only [↓QA,QB,Nat.reduceLT,reduceIte,Nat.reduceEqDiff,Nat.reduceAdd,Nat.reduceLeDiff,Nat.reduceMul,Nat.reduceBEq,gQ,hR.len,hR.base,hR.base0,hR.bset,hR.bset0,hR.at1,hR.at0]|refine rd0 rfl ?_))
  refine ⟨[.cells (bV 5 (rl c))],by simp,?_⟩
  refine db _ _ ?_ ?_ ?_ ?_
  all_goals try simp only [aE,QE,Nat.reduceLT,reduceIte,Nat.reduceEqDiff,Nat.reduceAdd,Nat.reduceLeDiff,Nat.reduceMul,Nat.reduceBEq,gQ,hR.len,hR.base,hR.base0,hR.bset,hR.bset0,hR.at1,hR.at0]
 ·intro τ h2
  rw [hit] at h2
  have h3:oV v ps=true:=h2
  rw [h3]
  simp only [doU]
  (repeat (first|simp only [↓QA,QB,Nat.reduceLT,reduceIte,Nat.reduceEqDiff,Nat.reduceAdd,Nat.reduceLeDiff,Nat.reduceMul,Nat.reduceBEq,gQ,hR.len,hR.base,hR.base0,hR.bset,hR.bset0,hR.at1,hR.at0]|refine rd0 rfl ?_))
  refine ⟨_,_,rfl,rfl,?_⟩
  try simp only [QS,QC,Nat.reduceLT,reduceIte,Nat.reduceEqDiff,Nat.reduceAdd,Nat.reduceLeDiff,Nat.reduceMul,Nat.reduceBEq,gQ,hR.len,hR.base,hR.base0,hR.bset,hR.bset0,hR.at1,hR.at0]
 ·intro τ h2
  rw [hit] at h2
  have h3:oV v ps=false:=h2
  rw [h3]
  simp only [doU]
  (repeat (first|simp only [↓QA,QB,Nat.reduceLT,reduceIte,Nat.reduceEqDiff,Nat.reduceAdd,Nat.reduceLeDiff,Nat.reduceMul,Nat.reduceBEq,gQ,hR.len,hR.base,hR.base0,hR.bset,hR.bset0,hR.at1,hR.at0]|refine rd0 rfl ?_))
  refine ⟨_,_,rfl,rfl,?_⟩
  try simp only [QS,QC,Nat.reduceLT,reduceIte,Nat.reduceEqDiff,Nat.reduceAdd,Nat.reduceLeDiff,Nat.reduceMul,Nat.reduceBEq,gQ,hR.len,hR.base,hR.base0,hR.bset,hR.bset0,hR.at1,hR.at0]
abbrev PS:=List (Option (List Int))×List K5
def NX (l:List (Option (List Int))):List (List Int):=l.map fun o=>o.getD []
theorem EO (P:List (List Int)):NX (P.map some)=P:=by
 rw [NX,List.map_map]
 exact List.map_id P
def zY (v:Net) (rec:Nat→PS→Bool×PS) (t left:Nat):List (List Int)→PS→Bool×PS
 |[],y=>(false,y)
 |w::ws,y =>
  if iV v t w≤left then (if (rec (left-iV v t w) (y.1.set t (some w),y.2)).1=true then rec (left-iV v t w) (y.1.set t (some w),y.2) else zY v rec t left ws (rec (left-iV v t w) (y.1.set t (some w),y.2)).2)
  else zY v rec t left ws (y.1.set t (some w),y.2)
def fnd (v:Net):Nat→Nat→Nat→PS→Bool×PS
 |0,_,left,y=>if left=0 then (oV v (NX y.1),(y.1,CO v (NX y.1) y.2)) else (false,y)
 |k+1,t,left,y=>zY v (fun left y=>fnd v k (t+1) left y) t left (eJ v (g8 v t) []) y
structure Fnd (v:Net) (p:List (List Int)) (t k:Nat) (y:PS):Prop where
 len:y.1.length=t+k
 pre:y.1.take t=p.map some
theorem uA {y:List (Option (List Int))} {t:Nat} {p:List (List Int)} {w:List Int} (h1:y.take t=p.map some) (h2:t<y.length):(y.set t (some w)).take (t+1)=(p++[w]).map some:=by
 have hl:(y.set t (some w)).length=y.length:=by simp
 rw [List.take_succ_eq_append_getElem (by rw [hl];exact h2)]
 simp [List.take_set_of_le,h1]
theorem AH (v:Net):∀ (k t left:Nat) (y:PS) (p:List (List Int)),p.length=t→Fnd v p t k y →
  ((fnd v k t left y).1=(dfs v (oV v) k p left).isSome)∧(∀ P,dfs v (oV v) k p left=some P→(fnd v k t left y).2.1=P.map some)∧Fnd v p t k (fnd v k t left y).2
 |0,t,left,y,p,hp,hy=>by
  have hl:y.1=p.map some:=by
   rw [←hy.pre,List.take_of_length_le (by rw [hy.len];omega)]
  simp only [fnd,dfs]
  by_cases h0:left=0
  ·rw [if_pos h0,hl,EO]
   subst h0
   simp only [decide_true,Bool.true_and]
   cases hd:oV v p
   ·exact ⟨rfl,fun P h=>(by cases h),⟨by rw [←hl];exact hy.len,by simp only;rw [←hl];exact hy.pre.trans hl.symm⟩⟩
   ·refine ⟨rfl,fun P h=>?_,⟨by rw [←hl];exact hy.len,by simp only;rw [←hl];exact hy.pre.trans hl.symm⟩⟩
    simp only [if_true,Option.some.injEq] at h
    rw [h]
  ·rw [if_neg h0]
   simp only [h0,decide_false,Bool.false_and,Bool.false_eq_true,if_false]
   exact ⟨rfl,fun P h=>(by cases h),hy⟩
 |k+1,t,left,y,p,hp,hy=>by
  simp only [fnd,dfs,hp]
  have key:∀ (ws:List (List Int)) (y:PS),Fnd v p t (k+1) y →
    ((zY v (fun left y=>fnd v k (t+1) left y) t left ws y).1=(ws.findSome? fun w=>if iV v t w≤left then dfs v (oV v) k (p++[w]) (left-iV v t w) else none).isSome) ∧
    (∀ P,(ws.findSome? fun w=>if iV v t w≤left then dfs v (oV v) k (p++[w]) (left-iV v t w) else none)=some P→(zY v (fun left y=>fnd v k (t+1) left y) t left ws y).2.1=P.map some)∧Fnd v p t (k+1) (zY v (fun left y=>fnd v k (t+1) left y) t left ws y).2:=by
   intro ws
   induction ws with
   |nil=>intro y hy;exact ⟨rfl,fun P h=>(by cases h),hy⟩
   |cons w ws ih =>
    intro y hy
    have hlt:t<y.1.length:=by have:=hy.len;omega
    have hset:Fnd v (p++[w]) (t+1) k (y.1.set t (some w),y.2):=⟨by have:=hy.len;simp;omega,uA hy.pre hlt⟩
    have hset2:Fnd v p t (k+1) (y.1.set t (some w),y.2):=⟨by have:=hy.len;simp;omega,by
     rw [←hy.pre];simp [List.take_set_of_le]⟩
    simp only [zY,List.findSome?_cons]
    by_cases ho:iV v t w≤left
    ·rw [if_pos ho,if_pos ho]
     obtain ⟨a,b,c⟩:=AH v k (t+1) (left-iV v t w) (y.1.set t (some w),y.2) (p++[w]) (by simp [hp]) hset
     obtain ⟨R,hR⟩:∃ R,fnd v k (t+1) (left-iV v t w) (y.1.set t (some w),y.2)=R:=⟨_,rfl⟩
     rw [hR] at a b c ⊢
     have c':Fnd v p t (k+1) R.2:=⟨by have:=c.len;omega,by
      have h1:=congrArg (List.take t) c.pre
      rw [List.take_take,show min t (t+1)=t by omega] at h1
      rw [h1,List.map_append]
      exact List.take_left' (by simp [hp])⟩
     cases hd:dfs v (oV v) k (p++[w]) (left-iV v t w) with
     |some P =>
      rw [hd] at a b
      rw [a]
      simp only [Option.isSome_some,if_true]
      exact ⟨a,fun Q h=>by rw [←(Option.some.inj h)];exact b P rfl,c'⟩
     |none =>
      rw [hd] at a
      rw [a]
      simp only [Option.isSome_none,Bool.false_eq_true,if_false]
      exact ih R.2 c'
    ·rw [if_neg ho,if_neg ho]
     exact ih _ hset2
  exact key _ y hy
end Go.Am.Room
set_option maxRecDepth 4000
namespace Go.Am.Room
structure Vary {Y:Type} (S:Y→St) (N:Nat):Prop where
 len:∀ y,(S y).length=N
 keep:∀ y z i,i<N→fN (S y) (S z) N i
 eqS:∀ k,N≤k→∀ y z a b c,EqS k (S y++a) (S z++b) (S z++c)=EqS k a b c
theorem FB {Y:Type} {S:Y→St} {N:Nat} (hV:Vary S N) {f:FuncId} {first cap args:List AV} {af:AFunc} {v:AV} {y z:Y} (hf:T f=some af) (hn:(first++args++cap).length≤af.ntmps)
  (h:wp T af.body (gP 0 (first++args++cap)) (S y) (fun j e σ1=>(j=none∨j=some .ret)∧∃ v0 τ,iU af.results e σ1=some v0∧σ1=S z++τ∧cQ σ1 N 20 v0=some v)):BZ T (.func f first cap) args (S y) v (S z):=by
 refine .callf (.call hf hn (iL h fun o ho=>ho) fun o ho=>?_)
 obtain ⟨hj,v0,τ,hres,hσ,h4⟩:=ho
 refine ⟨hj,v0,hres,?_⟩
 unfold cQ at h4
 cases hs:snap o.σ N 20 v0 with
 |none=>rw [hs] at h4;cases h4
 |some v1 =>
  rw [hs] at h4
  simp at h4
  refine .inr ⟨20,v1,v,by rw [hV.len];exact hs,.inr h4.symm,fun i hi=>?_,?_,rfl,?_⟩
  ·rw [hσ]
   rw [hV.len] at hi ⊢
   have:=hV.keep y z i hi
   have e2:(S z++τ)[i]? = (S z)[i]?:=List.getElem?_append_left (by rw [hV.len];exact hi)
   simp only [fN,e2] at this ⊢
   exact this
  ·rw [hσ,List.length_append,hV.len,hV.len];omega
  ·rw [hσ,hV.len,←hV.len z,List.take_left]
end Go.Am.Room
set_option maxRecDepth 8000
namespace Go.Am.Room
def eG:=And.intro @bH (And.intro @aI (And.intro @aW (And.intro @aT (And.intro @aS (And.intro @aR (And.intro @bF (And.intro @bC (And.intro @bA (And.intro @dH (And.intro @d6 (And.intro @Nat.not_lt_zero (And.intro @List.length_append.{0} (And.intro @Nat.zero_add (And.intro @Nat.mul_one (And.intro @Int.toNat_natCast (And.intro @Nat.add_lt_add_iff_left (@Nat.lt_add_right_iff_pos)))))))))))))))))
def rC (v:Net) (n:Nat):List AV:=(List.range n).map fun t=>bU (eJ v (g8 v t) [])
theorem RI (v:Net) {n t:Nat} (h:t<n):(rC v n)[t]? = some (bU (eJ v (g8 v t) [])):=by simp [rC,h]
theorem xF (l:List (Option (List Int))) (m:Nat):okVs m (l.map lV):=by
 induction l with
 |nil=>trivial
 |cons o l ih =>
  refine ⟨?_,ih⟩
  cases o with
  |none=>simp [lV,okV,okVs]
  |some w=>exact AC (jP w) m
theorem Q6 (l:List (Option (List Int))) {t:Nat} (h:t<l.length) (w:List Int):(l.map lV).take t++[AV.lit (w.map (.int .i64)) false none]++(l.map lV).drop (t+1)=(l.set t (some w)).map lV:=by
 rw [List.map_set,List.set_eq_take_append_cons_drop,if_pos (by simpa using h)]
 simp [lV,ints]
def TM:AV:=.func 86 [] [.ptr 10 0,.ptr 5 0,.ptr 7 0,.ptr 0 0,.ptr 11 0]
theorem jY:TM = .func 86 [] [.ptr 10 0,.ptr 5 0,.ptr 7 0,.ptr 0 0,.ptr 11 0]:=by simp only [TM]
def mvS (v:Net) (y:PS):St:=[.cells (aB v),.cells (aB v),.cells (aB v),.map (tEs v y.2),.cells (db v 0 3),.cells [.ptr 4 0],.cells (rC v v.trams.length),.cells [.ref 6 0 v.trams.length 1],.tok 1 0 false,.cells (y.1.map lV),.cells [.ref 9 0 v.trams.length 1],.cells [TM]]
theorem aDH (v:Net) (l:List (Option (List Int))):MemAt (fun A=>mvS v (l,A)) (db v 0 3) (tEs v) 4 3 12 :=
 ⟨fun M=>rfl,fun M=>rfl,fun M=>rfl,fun M M'=>rfl,fun A k=>tP v A k,by omega,by omega⟩
theorem JU (v:Net):Vary (mvS v) 12 where
 len:=fun y=>rfl
 keep:=fun y z i hi=>by
  match i,hi with
  |0,_=>exact .inl rfl
  |1,_=>exact .inl rfl
  |2,_=>exact .inl rfl
  |3,_=>exact .inr (.inl ⟨_,rfl,tP v z.2 _⟩)
  |4,_=>exact .inl rfl
  |5,_=>exact .inl rfl
  |6,_=>exact .inl rfl
  |7,_=>exact .inl rfl
  |8,_=>exact .inl rfl
  |9,_=>exact .inr (.inl ⟨_,rfl,xF z.1 _⟩)
  |10,_=>exact .inl rfl
  |11,_=>exact .inl rfl
 eqS:=fun k hk y z a b c=>by
  have h1:=tP v z.2 k
  have h2:aL k (.cells (z.1.map lV)):=xF z.1 k
  simp only [mvS,List.cons_append,List.nil_append,EqS,h1,h2,or_true,true_or,true_and,and_self]
theorem y1 (v:Net) (hv:Vd v):∀ (k t left:Nat) (y:PS) (p:List (List Int)),t+k=v.trams.length→left≤10→p.length=t→Fnd v p t k y→(∀ w∈p,w.length≤4∧∀ r∈w,0≤r∧r<v.rails.length) →
  BZ T TM [.int .i64 t,.int .i64 left] (mvS v y) (.bool (fnd v k t left y).1) (mvS v (fnd v k t left y).2)
 |0,t,left,y,p,hn,hleft,hp,hF,hpin=>by
  have hnt:=hv.ntr
  have hl:y.1=p.map some:=by rw [←hF.pre,List.take_of_length_le (by rw [hF.len];omega)]
  have hro:RunOk v p:=⟨by omega,fun w hw=>(hpin w hw).1,fun w hw=>(hpin w hw).2⟩
  have hE:((t:Int)==(v.trams.length:Int))=true:=by simp;omega
  obtain ⟨l,A⟩:=y
  simp only at hl
  subst hl
  have hdo:=RD (aDH v (p.map some)) hv PT p hro 9 (fun A=>by show some _=_;rw [CN]) (by omega) A
  have hr:fnd v 0 t left (p.map some,A)=if left=0 then (oV v p,(p.map some,CO v p A)) else (false,(p.map some,A)):=by simp only [fnd,EO]
  refine FB (JU v) (af:=a86) rfl (by simp [a86]) ?_
  rw [hr]
  cases h0:((left:Int)==0)
  ·have h0':¬left=0:=by simp at h0;omega
   rw [if_neg h0']
   simp only [mvS,jY]
   (repeat (first|simp only [↓QA,QB,Nat.reduceLT,reduceIte,Nat.reduceEqDiff,Nat.reduceAdd,Nat.reduceLeDiff,Nat.reduceMul,Nat.reduceBEq,eG,a86,hE,h0]|refine rd0 rfl ?_))
   exact ⟨_,[],rfl,by simp,by try simp only [QS,QC,Nat.reduceLT,reduceIte,Nat.reduceEqDiff,Nat.reduceAdd,Nat.reduceLeDiff,Nat.reduceMul,Nat.reduceBEq,eG]⟩
  ·have h0':left=0:=by simp at h0;omega
   rw [if_pos h0']
   simp only [mvS,jY] at hdo ⊢
   try simp only [↓QA,QB,Nat.reduceLT,reduceIte,Nat.reduceEqDiff,Nat.reduceAdd,Nat.reduceLeDiff,Nat.reduceMul,Nat.reduceBEq,eG] at hdo
   (repeat (first|simp only [↓QA,QB,Nat.reduceLT,reduceIte,Nat.reduceEqDiff,Nat.reduceAdd,Nat.reduceLeDiff,Nat.reduceMul,Nat.reduceBEq,eG,a86,hE,h0]|refine rd0 rfl ?_))
   refine dZ hdo ?_
   (repeat (first|simp only [↓QA,QB,Nat.reduceLT,reduceIte,Nat.reduceEqDiff,Nat.reduceAdd,Nat.reduceLeDiff,Nat.reduceMul,Nat.reduceBEq,eG]|refine rd0 rfl ?_))
   exact ⟨_,[],rfl,by simp,by try simp only [QS,QC,Nat.reduceLT,reduceIte,Nat.reduceEqDiff,Nat.reduceAdd,Nat.reduceLeDiff,Nat.reduceMul,Nat.reduceBEq,eG]⟩
 |k+1,t,left,y,p,hn,hleft,hp,hF,hpin0=>by
  have hnt:=hv.ntr
  have hok1:∀ A,aL 12 (.map (tEs v A)):=fun A=>tP v A 12
  have hok2:∀ l:List (Option (List Int)),aL 12 (.cells (l.map lV)):=fun l=>xF l 12
  have htt:t<v.trams.length:=by omega
  have hE:((t:Int)==(v.trams.length:Int))=false:=by simp;omega
  obtain ⟨z,hz⟩:∃ z,v.trams[t]=z:=⟨_,rfl⟩
  have hpth:eI (fY v) t=z.path:=by rw [GW htt,hz]
  have hzl:=(pU hv htt).len
  rw [hz] at hzl
  have hfr:=GN htt
  rw [hz] at hfr
  have hwg:=RI v (n:=v.trams.length) htt
  have hwi:∀ w∈eJ v (g8 v t) [],w.length≤4∧∀ r∈w,0≤r∧r<v.rails.length:=fun w hw=>HC hw
  have hwc:=HY (v:=v) (by have:=hv.nra;omega) (g8 v t) []
  have hr:fnd v (k+1) t left y=zY v (fun left y=>fnd v k (t+1) left y) t left (eJ v (g8 v t) []) y:=rfl
  obtain ⟨W,hW⟩:∃ W,eJ v (g8 v t) []=W:=⟨_,rfl⟩
  rw [hW] at hwg hwc hr
  simp only [hW] at hwi
  obtain ⟨R,hR⟩:∃ R,fnd v (k+1) t left y=R:=⟨_,rfl⟩
  rw [hR] at hr
  have hr':zY v (fun left y=>fnd v k (t+1) left y) t left (W.drop 0) y=R:=hr.symm
  have iA:(0:Int)≤(t:Int)∧(t:Int)<(v.trams.length:Int)∧1=1:=⟨by omega,by omega,rfl⟩
  have hwt:IntKind.i64.wrap ((t:Int)+1)=((t+1:Nat):Int):=bX htt (by omega)
  refine FB (JU v) (af:=a86) rfl (by simp [a86]) ?_
  rw [hR]
  simp only [mvS,jY]
  (repeat (first|simp only [↓QA,QB,Nat.reduceLT,reduceIte,Nat.reduceEqDiff,Nat.reduceAdd,Nat.reduceLeDiff,Nat.reduceMul,Nat.reduceBEq,eG,a86,hE,iA,hwg,cR]|refine rd0 rfl ?_))
  refine bY (S:=Nat×PS) (0,y) (fun a=>a.1≤W.length∧Fnd v p t (k+1) a.2∧zY v (fun left y=>fnd v k (t+1) left y) t left (W.drop a.1) a.2=R) (fun a=>W.length-a.1)
   (fun a=>[(0,.int .i64 t),(1,.int .i64 left),(2,.ptr 10 0),(5,.ptr 0 0),(6,.ptr 11 0),(27,bU W),(28,.int .i64 W.length),(29,.int .i64 a.1)])
   (fun a=>mvS v a.2) ⟨Nat.zero_le _,hF,hr'⟩ (by simp [mvS,jY,aB,ints]) ?_ fun a ha=>?_
  ·try simp only [aE,QE,Nat.reduceLT,reduceIte,Nat.reduceEqDiff,Nat.reduceAdd,Nat.reduceLeDiff,Nat.reduceMul,Nat.reduceBEq,eG,cR]
   try simp
  ·obtain ⟨j,y⟩:=a
   obtain ⟨hj,hF,hR⟩:=ha
   simp only at hj hF hR
   have hlt:t<y.1.length:=by have:=hF.len;omega
   simp only [mvS,jY]
   (repeat (first|simp only [↓QA,QB,Nat.reduceLT,reduceIte,Nat.reduceEqDiff,Nat.reduceAdd,Nat.reduceLeDiff,Nat.reduceMul,Nat.reduceBEq,eG,aBU,cR]|refine rd0 rfl ?_))
   refine aG (fun hd=>?_) fun hd=>?_
   ·have hj1:j<W.length:=by simpa using hd
    have hwj:=bX hj1 (by omega)
    rw [List.drop_eq_getElem_cons hj1,zY] at hR
    have hwl:=hwi _ (List.getElem_mem hj1)
    obtain ⟨w,hw⟩:∃ w,W[j]=w:=⟨_,rfl⟩
    rw [hw] at hR hwl
    have hpin:∀ u∈p++[w],u.length≤4∧∀ r∈u,0≤r∧r<v.rails.length:=fun u hu=>by
     rcases List.mem_append.1 hu with hu|hu
     ·exact hpin0 u hu
     ·simp only [List.mem_singleton] at hu;subst hu;exact hwl
    have hss:=Q6 y.1 hlt w
    have i8:(0:Int)≤(t:Int)∧(t:Int)<(v.trams.length:Int)∧1=1:=iA
    have c8:t+1≤y.1.length:=hlt
    have hot:iV v t w=if w=z.path then 0 else 1:=by rw [iV,hpth]
    have heq:=KA w z.path (by omega) (by omega)
    simp only [nI] at heq
    (repeat (first|simp only [↓QA,QB,Nat.reduceLT,reduceIte,Nat.reduceEqDiff,Nat.reduceAdd,Nat.reduceLeDiff,Nat.reduceMul,Nat.reduceBEq,eG,hj1,hw,htt,hz,cR]|refine rd0 rfl ?_))
    ((first|refine aC (heq) rfl dd ?_|refine aD (heq) rfl dd ?_);(repeat (first|simp only [↓QA,QB,Nat.reduceLT,reduceIte,Nat.reduceEqDiff,Nat.reduceAdd,Nat.reduceLeDiff,Nat.reduceMul,Nat.reduceBEq,eG,hj1,hw,htt,hz,cR]|refine rd0 rfl ?_)))
    cases q:decide (w=z.path)
    ·have q':¬w=z.path:=by simpa using q
     rw [if_neg q'] at hot
     rw [hot] at hR
     simp only [Bool.not_false,uW]
     by_cases hl1:1≤left
     ·have hlo:IntKind.i64.wrap ((left:Int)-1)=((left-1:Nat):Int):=(dU ⟨by omega,by omega⟩).trans (by omega)
      have hle:decide ((1:Int)≤(left:Int))=true:=decide_eq_true (by omega)
      have hrec:=y1 v hv k (t+1) (left-1) (y.1.set t (some w),y.2) (p++[w]) (by omega) (by omega) (by simp [hp]) ⟨by have:=hF.len;simp;omega,uA hF.pre hlt⟩ hpin
      rw [if_pos (show 1≤left by omega)] at hR
      obtain ⟨Q,hQ⟩:∃ Q,fnd v k (t+1) (left-1) (y.1.set t (some w),y.2)=Q:=⟨_,rfl⟩
      rw [hQ] at hrec hR
      have hFQ:Fnd v p t (k+1) Q.2:=by
       have:=(AH v k (t+1) (left-1) (y.1.set t (some w),y.2) (p++[w]) (by simp [hp]) ⟨by have:=hF.len;simp;omega,uA hF.pre hlt⟩).2.2
       rw [hQ] at this
       refine ⟨by have:=this.len;omega,?_⟩
       have h1:=congrArg (List.take t) this.pre
       rw [List.take_take,show min t (t+1)=t by omega] at h1
       rw [h1,List.map_append]
       exact List.take_left' (by simp [hp])
      obtain ⟨Qb,Qy⟩:=Q
      simp only [mvS,jY] at hrec
      simp only at hR hFQ hrec
      try simp only [↓QA,QB,Nat.reduceLT,reduceIte,Nat.reduceEqDiff,Nat.reduceAdd,Nat.reduceLeDiff,Nat.reduceMul,Nat.reduceBEq,eG] at hrec
      (repeat (first|simp only [↓QA,QB,Nat.reduceLT,reduceIte,Nat.reduceEqDiff,Nat.reduceAdd,Nat.reduceLeDiff,Nat.reduceMul,Nat.reduceBEq,eG,q,i8,c8,hss,hle,hwt,hlo,hj1,hw,htt,hz,cR]|refine rd0 rfl ?_))
      refine dZ hrec ?_
      cases Qb
      ·simp only [Bool.false_eq_true,if_false] at hR
       (repeat (first|simp only [↓QA,QB,Nat.reduceLT,reduceIte,Nat.reduceEqDiff,Nat.reduceAdd,Nat.reduceLeDiff,Nat.reduceMul,Nat.reduceBEq,eG,hwj]|refine rd0 rfl ?_))
       refine ⟨(j+1,Qy),⟨by simp only;omega,hFQ,hR⟩,by simp only;omega,?_⟩
       try simp only [aE,QE,Nat.reduceLT,reduceIte,Nat.reduceEqDiff,Nat.reduceAdd,Nat.reduceLeDiff,Nat.reduceMul,Nat.reduceBEq,eG,hwj,cR]
       try simp only [hok1,hok2,or_true,true_or,and_self,true_and]
      ·simp only [if_true] at hR
       subst hR
       (repeat (first|simp only [↓QA,QB,Nat.reduceLT,reduceIte,Nat.reduceEqDiff,Nat.reduceAdd,Nat.reduceLeDiff,Nat.reduceMul,Nat.reduceBEq,eG]|refine rd0 rfl ?_))
       exact ⟨_,[],rfl,by simp [mvS,jY],by try simp only [QS,QC,Nat.reduceLT,reduceIte,Nat.reduceEqDiff,Nat.reduceAdd,Nat.reduceLeDiff,Nat.reduceMul,Nat.reduceBEq,eG]⟩
     ·have hle:decide ((1:Int)≤(left:Int))=false:=by simp;omega
      rw [if_neg hl1] at hR
      (repeat (first|simp only [↓QA,QB,Nat.reduceLT,reduceIte,Nat.reduceEqDiff,Nat.reduceAdd,Nat.reduceLeDiff,Nat.reduceMul,Nat.reduceBEq,eG,q,i8,c8,hss,hle,hwj]|refine rd0 rfl ?_))
      refine ⟨(j+1,(y.1.set t (some w),y.2)),⟨by simp only;omega,⟨by have:=hF.len;simp;omega,by rw [←hF.pre];simp [List.take_set_of_le]⟩,hR⟩,by simp only;omega,?_⟩
      try simp only [aE,QE,Nat.reduceLT,reduceIte,Nat.reduceEqDiff,Nat.reduceAdd,Nat.reduceLeDiff,Nat.reduceMul,Nat.reduceBEq,eG,hwj,cR]
      try simp only [hok1,hok2,or_true,true_or,and_self,true_and]
    ·have q':w=z.path:=by simpa using q
     rw [if_pos q'] at hot
     rw [hot] at hR
     simp only [Bool.not_true,rO]
     have hlo:IntKind.i64.wrap ((left:Int)-0)=((left-0:Nat):Int):=(dU ⟨by omega,by omega⟩).trans (by omega)
     have hle:decide ((0:Int)≤(left:Int))=true:=decide_eq_true (by omega)
     have hrec:=y1 v hv k (t+1) (left-0) (y.1.set t (some w),y.2) (p++[w]) (by omega) (by omega) (by simp [hp]) ⟨by have:=hF.len;simp;omega,uA hF.pre hlt⟩ hpin
     rw [if_pos (show 0≤left by omega)] at hR
     obtain ⟨Q,hQ⟩:∃ Q,fnd v k (t+1) (left-0) (y.1.set t (some w),y.2)=Q:=⟨_,rfl⟩
     rw [hQ] at hrec hR
     have hFQ:Fnd v p t (k+1) Q.2:=by
      have:=(AH v k (t+1) (left-0) (y.1.set t (some w),y.2) (p++[w]) (by simp [hp]) ⟨by have:=hF.len;simp;omega,uA hF.pre hlt⟩).2.2
      rw [hQ] at this
      refine ⟨by have:=this.len;omega,?_⟩
      have h1:=congrArg (List.take t) this.pre
      rw [List.take_take,show min t (t+1)=t by omega] at h1
      rw [h1,List.map_append]
      exact List.take_left' (by simp [hp])
     obtain ⟨Qb,Qy⟩:=Q
     simp only [mvS,jY] at hrec
     simp only at hR hFQ hrec
     try simp only [↓QA,QB,Nat.reduceLT,reduceIte,Nat.reduceEqDiff,Nat.reduceAdd,Nat.reduceLeDiff,Nat.reduceMul,Nat.reduceBEq,eG] at hrec
     (repeat (first|simp only [↓QA,QB,Nat.reduceLT,reduceIte,Nat.reduceEqDiff,Nat.reduceAdd,Nat.reduceLeDiff,Nat.reduceMul,Nat.reduceBEq,eG,q,i8,c8,hss,hle,hwt,hlo,hj1,hw,htt,hz,cR]|refine rd0 rfl ?_))
     refine dZ hrec ?_
     cases Qb
     ·simp only [Bool.false_eq_true,if_false] at hR
      (repeat (first|simp only [↓QA,QB,Nat.reduceLT,reduceIte,Nat.reduceEqDiff,Nat.reduceAdd,Nat.reduceLeDiff,Nat.reduceMul,Nat.reduceBEq,eG,hwj]|refine rd0 rfl ?_))
      refine ⟨(j+1,Qy),⟨by simp only;omega,hFQ,hR⟩,by simp only;omega,?_⟩
      try simp only [aE,QE,Nat.reduceLT,reduceIte,Nat.reduceEqDiff,Nat.reduceAdd,Nat.reduceLeDiff,Nat.reduceMul,Nat.reduceBEq,eG,hwj,cR]
      try simp only [hok1,hok2,or_true,true_or,and_self,true_and]
     ·simp only [if_true] at hR
      subst hR
      (repeat (first|simp only [↓QA,QB,Nat.reduceLT,reduceIte,Nat.reduceEqDiff,Nat.reduceAdd,Nat.reduceLeDiff,Nat.reduceMul,Nat.reduceBEq,eG]|refine rd0 rfl ?_))
      exact ⟨_,[],rfl,by simp [mvS,jY],by try simp only [QS,QC,Nat.reduceLT,reduceIte,Nat.reduceEqDiff,Nat.reduceAdd,Nat.reduceLeDiff,Nat.reduceMul,Nat.reduceBEq,eG]⟩
   ·have hj1:j=W.length:=by
     have:¬j<W.length:=by simpa using hd
     omega
    rw [hj1,List.drop_length,zY] at hR
    subst hR
    (repeat (first|simp only [↓QA,QB,Nat.reduceLT,reduceIte,Nat.reduceEqDiff,Nat.reduceAdd,Nat.reduceLeDiff,Nat.reduceMul,Nat.reduceBEq,eG]|refine rd0 rfl ?_))
    exact ⟨_,[],rfl,by simp [mvS,jY],by try simp only [QS,QC,Nat.reduceLT,reduceIte,Nat.reduceEqDiff,Nat.reduceAdd,Nat.reduceLeDiff,Nat.reduceMul,Nat.reduceBEq,eG]⟩
end Go.Am.Room
set_option maxRecDepth 8000
namespace Go.Am.Room
def d9:=And.intro @bH (And.intro @aI (And.intro @aW (And.intro @aT (And.intro @aS (And.intro @aR (And.intro @bF (And.intro @bC (And.intro @bA (And.intro @dH (And.intro @d6 (And.intro @Nat.not_lt_zero (And.intro @List.length_append.{0} (And.intro @List.length_replicate.{0} (And.intro @Nat.zero_add (And.intro @Nat.mul_one (And.intro @Int.toNat_natCast (And.intro @Nat.add_lt_add_iff_left (@Nat.lt_add_right_iff_pos))))))))))))))))))
theorem tJ (x:AV) (n:Nat):(List.replicate n [x]).flatten=List.replicate n x:=by
 induction n with
 |zero=>rfl
 |succ n ih=>simp [List.replicate_succ,ih]
theorem EE:∀ l:List (List Int),sV 1 l.length (l.map ints)=l.map ints
 |[]=>rfl
 |x::l=>by simp [sV,EE l,AV.cell,ints]
theorem aFB {σ:St} {m id n:Nat} {l:List (List Int)} (hm:¬id<m) (hn:n=l.length) (hl:aK σ id=some (l.map ints)):cQ σ m 20 (.ref id 0 n 1)=some (.lit (l.map ints) false none):=by
 subst hn
 have hv:kO σ (.ref id 0 l.length 1)=some (l.map ints):=by simp [kO,hl,EE]
 rw [NA,if_neg hm,hv]
 simp [m7,VD]
def n6 (v:Net) (n k:Nat):List AV:=(List.range n).map fun t=>if t<k then bU (eJ v (g8 v t) []) else .lit [] true none
theorem aFH (v:Net) (n:Nat):n6 v n 0=List.replicate n (.lit [] true none):=by simp [n6,List.map_const']
theorem U5 (v:Net) (n:Nat):n6 v n n=rC v n:=List.map_congr_left fun t ht=>by
 rw [if_pos (by simpa using ht)]
theorem tR (v:Net) (n k:Nat):(n6 v n k).length=n:=by simp [n6]
theorem ZK (v:Net) (n k m:Nat):okVs m (n6 v n k):=by
 have key:∀ l:List Nat,okVs m (l.map fun t=>if t<k then bU (eJ v (g8 v t) []) else AV.lit [] true none):=by
  intro l
  induction l with
  |nil=>trivial
  |cons t l ih =>
   refine ⟨?_,ih⟩
   simp only
   split
   ·exact AC (v3 _) m
   ·simp [okV,okVs]
 exact key _
theorem UJ (v:Net) {n k:Nat} (h:k<n):(n6 v n k).take k++[bU (eJ v (g8 v k) [])]++(n6 v n k).drop (k+1)=n6 v n (k+1):=by
 have h1:(n6 v n k).take k++[bU (eJ v (g8 v k) [])]++(n6 v n k).drop (k+1)=(n6 v n k).set k (bU (eJ v (g8 v k) [])):=by
  rw [List.set_eq_take_append_cons_drop,if_pos (by rw [tR];exact h)];simp
 rw [h1]
 refine List.ext_getElem? fun j=>?_
 by_cases hj:j<n
 ·rw [List.getElem?_set]
  by_cases e:k=j
  ·subst e;simp [tR,hj,n6]
  ·rw [if_neg e]
   simp only [n6,List.getElem?_map,List.getElem?_range hj,Option.map_some]
   by_cases h2:j<k
   ·simp [h2,show j<k+1 by omega]
   ·simp [h2,show ¬j<k+1 by omega]
 ·rw [List.getElem?_eq_none (by rw [List.length_set,tR];omega),List.getElem?_eq_none (by rw [tR];omega)]
theorem KI (v:Net) (hf:Fits v):dR T 30 [bI v] (wQ (rX v)):=by
 refine bE (af:=a30) rfl (by simp [a30]) dd ?_
 (repeat (first|simp only [↓QA,QB,Nat.reduceLT,reduceIte,Nat.reduceEqDiff,Nat.reduceAdd,Nat.reduceLeDiff,Nat.reduceMul,Nat.reduceBEq,d9,a30]|refine rd0 rfl ?_))
 by_cases h0:eS v=0
 ·obtain ⟨hv,hne⟩:=mV h0
  have hnt:=hv.ntr
  have her:=yQ [.cells (aB v)] v [] (.inl rfl) hf (by rw [nG];exact h0)
  have hsome:∀ p,s7 v (aJ v [])=some p→rX v=(p,oK v p,0):=fun p hp=>by rw [rX,if_pos h0,hp]
  have hnone:s7 v (aJ v [])=none→rX v=([],[],9):=fun hp=>by rw [rX,if_pos h0,hp]
  have hbp:=YK hv
  obtain ⟨MO,hMO⟩:∃ MO,rX v=MO:=⟨_,rfl⟩
  rw [hMO] at hnone
  simp only [hMO] at hsome
  rw [hMO]
  obtain ⟨W,hW⟩:∃ W,s7 v (aJ v [])=W:=⟨_,rfl⟩
  rw [hW] at hbp hnone
  simp only [hW] at hsome
  simp only [mI,List.map_nil] at her
  simp only [aI] at her
  try simp only [↓QA,QB,Nat.reduceLT,reduceIte,Nat.reduceEqDiff,Nat.reduceAdd,Nat.reduceLeDiff,Nat.reduceMul,Nat.reduceBEq,d9] at her
  have hwi:∀ (n:Nat),n=v.trams.length→True:=fun _ _=>trivial
  have hmk:qO 24 (.int .i64 v.trams.length) (.int .i64 v.trams.length)=some v.trams.length:=by simp [qO,room];omega
  have hok1:∀ A k,aL k (.map (tEs v A)):=fun A k=>tP v A k
  have hok2:∀ (l:List (Option (List Int))) k,aL k (.cells (l.map lV)):=fun l k=>xF l k
  have hok3:∀ k m,aL m (.cells (n6 v v.trams.length k)):=fun k m=>ZK v _ k m
  refine dZ her ?_
  (repeat (first|simp only [↓QA,QB,Nat.reduceLT,reduceIte,Nat.reduceEqDiff,Nat.reduceAdd,Nat.reduceLeDiff,Nat.reduceMul,Nat.reduceBEq,d9,show ((0:Int)==0)=true from rfl,hmk,tJ,←aFH v]|refine rd0 rfl ?_))
  refine mM 3 1 [] rfl ?_
  refine bY (S:=Nat) 0 (fun k=>k≤v.trams.length) (fun k=>v.trams.length-k)
   (fun k=>[(1,.ptr 0 0),(3,.lit [] false (some 8)),(5,.ptr 5 0),(6,.ptr 7 0),(27,.lit (v.trams.map aZ) false none),(28,.int .i64 v.trams.length),(29,.int .i64 k)])
   (fun k=>[.cells (aB v),.cells (aB v),.cells (aB v),.map (tEs v (qQ v)),.cells (db v 0 3),.cells [.ptr 4 0],.cells (n6 v v.trams.length k),.cells [.ref 6 0 v.trams.length 1],.tok 1 0 false]) (Nat.zero_le _) (by simp [aB,ints]) ?_ fun k hk=>?_
  ·try simp only [aE,QE,Nat.reduceLT,reduceIte,Nat.reduceEqDiff,Nat.reduceAdd,Nat.reduceLeDiff,Nat.reduceMul,Nat.reduceBEq,d9]
   try simp
  ·(repeat (first|simp only [↓QA,QB,Nat.reduceLT,reduceIte,Nat.reduceEqDiff,Nat.reduceAdd,Nat.reduceLeDiff,Nat.reduceMul,Nat.reduceBEq,d9,aAJ]|refine rd0 rfl ?_))
   refine aG (fun hd=>?_) fun hd=>?_
   ·have hk1:k<v.trams.length:=by simpa using hd
    have hw:=bX hk1 (by omega)
    have hfr:=GN hk1
    have hto:=(pU hv hk1).frm
    obtain ⟨z,hz⟩:∃ z,v.trams[k]=z:=⟨_,rfl⟩
    rw [hz] at hfr hto
    obtain ⟨S,hS⟩:∃ S:Nat,z.frm=(S:Int):=⟨z.frm.toNat,by omega⟩
    have hst:=hv.st
    have hpw:=CP v hv S (by omega) (-1)
    have hb1:rB (-1)=[]:=rfl
    have hfs:=UJ v hk1
    rw [hb1,←hS,←hfr] at hpw
    rw [hfr,hS] at hpw
    rw [hfr,hS] at hfs
    obtain ⟨Y,hY⟩:∃ Y,eJ v (S:Int) []=Y:=⟨_,rfl⟩
    rw [hY] at hpw hfs
    have iA:(0:Int)≤(k:Int)∧(k:Int)<(v.trams.length:Int)∧1=1:=⟨by omega,by omega,rfl⟩
    have hfl:=tR v v.trams.length k
    have c8:k+1≤v.trams.length:=hk1
    simp only [cR] at hpw hfs
    (repeat (first|simp only [↓QA,QB,Nat.reduceLT,reduceIte,Nat.reduceEqDiff,Nat.reduceAdd,Nat.reduceLeDiff,Nat.reduceMul,Nat.reduceBEq,d9,hk1,hz,hS]|refine rd0 rfl ?_))
    ((first|refine aC (hpw) rfl dd ?_|refine aD (hpw) rfl dd ?_);(repeat (first|simp only [↓QA,QB,Nat.reduceLT,reduceIte,Nat.reduceEqDiff,Nat.reduceAdd,Nat.reduceLeDiff,Nat.reduceMul,Nat.reduceBEq,d9,hk1,hz,hS,iA,hfl,c8,hfs,hw]|refine rd0 rfl ?_)))
    refine ⟨k+1,by omega,by omega,?_⟩
    try simp only [aE,QE,Nat.reduceLT,reduceIte,Nat.reduceEqDiff,Nat.reduceAdd,Nat.reduceLeDiff,Nat.reduceMul,Nat.reduceBEq,d9,hw]
    try simp only [hok3,or_true,true_or,and_self,true_and]
   ·have hk1:k=v.trams.length:=by
     have:¬k<v.trams.length:=by simpa using hd
     omega
    rw [hk1,U5]
    have hwn:IntKind.i64.wrap ((v.trams.length:Int)+1)=((v.trams.length+1:Nat):Int):=by rw [dU ⟨by omega,by omega⟩];omega
    have hrep:List.replicate v.trams.length (AV.lit [] true none)=(List.replicate v.trams.length none).map lV:=by simp [lV]
    have hF0:Fnd v [] 0 v.trams.length (List.replicate v.trams.length none,qQ v):=⟨by simp,by simp⟩
    (repeat (first|simp only [↓QA,QB,Nat.reduceLT,reduceIte,Nat.reduceEqDiff,Nat.reduceAdd,Nat.reduceLeDiff,Nat.reduceMul,Nat.reduceBEq,d9,hmk,tJ,hrep,hwn]|refine rd0 rfl ?_))
    refine bY (S:=Nat×PS) (0,(List.replicate v.trams.length none,qQ v)) (fun a=>a.1≤v.trams.length+1∧Fnd v [] 0 v.trams.length a.2∧v4 v (oV v) (v.trams.length+1-a.1) a.1=W) (fun a=>v.trams.length+1-a.1)
     (fun a=>[(1,.ptr 0 0),(3,.lit [] false (some 8)),(9,.ptr 10 0),(10,.ptr 11 0),(49,.int .i64 ((v.trams.length+1:Nat):Int)),(50,.int .i64 a.1)])
     (fun a=>mvS v a.2) ⟨Nat.zero_le _,hF0,hbp.symm⟩ (by simp [mvS,jY,aB,ints]) ?_ fun a ha=>?_
    ·try simp only [aE,QE,Nat.reduceLT,reduceIte,Nat.reduceEqDiff,Nat.reduceAdd,Nat.reduceLeDiff,Nat.reduceMul,Nat.reduceBEq,d9]
     try simp [clr,clrs]
    ·obtain ⟨m,y⟩:=a
     obtain ⟨hm,hF,hq⟩:=ha
     simp only at hm hF hq
     cases hml:decide ((m:Int)<((v.trams.length+1:Nat):Int))
     ·have hm1:m=v.trams.length+1:=by
       have:¬(m:Int)<((v.trams.length+1:Nat):Int):=by simpa using hml
       omega
      rw [hm1,Nat.sub_self,v4] at hq
      have hres:=hnone hq.symm
      subst hres
      simp only [mvS,jY]
      (repeat (first|simp only [↓QA,QB,Nat.reduceLT,reduceIte,Nat.reduceEqDiff,Nat.reduceAdd,Nat.reduceLeDiff,Nat.reduceMul,Nat.reduceBEq,d9,U2,hml,wQ,cR,List.map_nil]|refine rd0 rfl ?_))
      try try simp only [QS,QC,Nat.reduceLT,reduceIte,Nat.reduceEqDiff,Nat.reduceAdd,Nat.reduceLeDiff,Nat.reduceMul,Nat.reduceBEq,d9]
     ·have hm1:m<v.trams.length+1:=by
       have:(m:Int)<((v.trams.length+1:Nat):Int):=by simpa using hml
       omega
      have hwm:=bX hm1 (by omega)
      rw [show v.trams.length+1-m=(v.trams.length+1-(m+1))+1 by omega,v4] at hq
      have hfd:=y1 v hv v.trams.length 0 m y [] (by omega) (by omega) rfl hF (fun w hw=>by cases hw)
      obtain ⟨l1,l2,l3⟩:=AH v v.trams.length 0 m y [] rfl hF
      obtain ⟨⟨Rb,Ry⟩,hRe⟩:∃ R,fnd v v.trams.length 0 m y=R:=⟨_,rfl⟩
      rw [hRe] at l1 l2 l3 hfd
      simp only at l1 l2 l3 hfd
      simp only [mvS,jY] at hfd ⊢
      try simp only [↓QA,QB,Nat.reduceLT,reduceIte,Nat.reduceEqDiff,Nat.reduceAdd,Nat.reduceLeDiff,Nat.reduceMul,Nat.reduceBEq,d9] at hfd
      have h00:((0:Nat):Int)=0:=rfl
      rw [h00] at hfd
      (repeat (first|simp only [↓QA,QB,Nat.reduceLT,reduceIte,Nat.reduceEqDiff,Nat.reduceAdd,Nat.reduceLeDiff,Nat.reduceMul,Nat.reduceBEq,d9,U2,hml]|refine rd0 rfl ?_))
      refine dZ hfd ?_
      cases hdf:dfs v (oV v) v.trams.length [] m with
      |none =>
       rw [hdf] at l1 hq
       simp only [Option.isSome_none] at l1 hq
       subst l1
       (repeat (first|simp only [↓QA,QB,Nat.reduceLT,reduceIte,Nat.reduceEqDiff,Nat.reduceAdd,Nat.reduceLeDiff,Nat.reduceMul,Nat.reduceBEq,d9,hwm]|refine rd0 rfl ?_))
       refine ⟨(m+1,Ry),⟨by simp only;omega,l3,hq⟩,by simp only;omega,?_⟩
       try simp only [aE,QE,Nat.reduceLT,reduceIte,Nat.reduceEqDiff,Nat.reduceAdd,Nat.reduceLeDiff,Nat.reduceMul,Nat.reduceBEq,d9,hwm]
       try simp only [hok1,hok2,or_true,true_or,and_self,true_and]
      |some P =>
       rw [hdf] at l1 hq
       have l2:=l2 P hdf
       simp only [Option.isSome_some] at l1 hq
       subst l1
       have hres:=hsome P hq.symm
       subst hres
       obtain ⟨Rl,RA⟩:=Ry
       simp only at l2 l3
       subst l2
       have hPl:P.length=v.trams.length:=by have:=l3.len;simpa using this
       have hPin:∀ w∈P,w.length≤4:=fun w hw=>by
        have h1:=hdf
        rw [BE,←yJ] at h1
        exact (YO (List.mem_of_find?_eq_some h1)).few w hw
       obtain ⟨A,hA⟩:∃ A,oK v P=A:=⟨_,rfl⟩
       have hA':[]++(aU ((0:Nat):Int) ((v.trams.length:Int)-((0:Nat):Int)).toNat).filter (XL v P)=A:=by rw [←hA,oK,hPl];simp;rfl
       rw [hA,CN]
       (repeat (first|simp only [↓QA,QB,Nat.reduceLT,reduceIte,Nat.reduceEqDiff,Nat.reduceAdd,Nat.reduceLeDiff,Nat.reduceMul,Nat.reduceBEq,d9,hPl]|refine rd0 rfl ?_))
       refine bY (S:=Nat×List Int×Bool) (0,[],false) (fun a=>a.1≤v.trams.length∧a.2.1++(aU (a.1:Int) ((v.trams.length:Int)-a.1).toNat).filter (XL v P)=A∧a.2.1.length≤a.1) (fun a=>v.trams.length-a.1)
        (fun a=>[(1,.ptr 0 0),(3,.lit (a.2.1.map (.int .i64)) false (some 8)),(9,.ptr 10 0),(57,.ref 9 0 v.trams.length 1),(58,.int .i64 v.trams.length),(59,.int .i64 a.1)])
        (fun a=>[.cells (aB v),.cells (aB v),.cells (aB v),.map (tEs v RA),.cells (db v 0 3),.cells [.ptr 4 0],.cells (rC v v.trams.length),.cells [.ref 6 0 v.trams.length 1],.tok 1 a.2.1.length a.2.2,.cells (P.map ints),.cells [.ref 9 0 v.trams.length 1],.cells [TM]]) ⟨Nat.zero_le _,hA',by simp⟩ (by simp [aB,ints,jY]) ?_ fun a ha=>?_
       ·try simp only [aE,QE,Nat.reduceLT,reduceIte,Nat.reduceEqDiff,Nat.reduceAdd,Nat.reduceLeDiff,Nat.reduceMul,Nat.reduceBEq,d9,KZ (show 9<12 by omega)]
        try simp
       ·obtain ⟨t,acc,ex⟩:=a
        obtain ⟨ht,hacc,hal⟩:=ha
        simp only at ht hacc hal
        (repeat (first|simp only [↓QA,QB,Nat.reduceLT,reduceIte,Nat.reduceEqDiff,Nat.reduceAdd,Nat.reduceLeDiff,Nat.reduceMul,Nat.reduceBEq,d9,aAH]|refine rd0 rfl ?_))
        refine aG (fun hd=>?_) fun hd=>?_
        ·have ht1:t<v.trams.length:=by simpa using hd
         have hw:=bX ht1 (by omega)
         have htp:t<P.length:=by omega
         rw [J3 ht1] at hacc
         have hmv:XL v P (t:Int) = !decide (P[t]=v.trams[t].path):=by rw [XL,Int.toNat_natCast,M9 htp,GW ht1]
         have hpl:=hPin _ (List.getElem_mem htp)
         have htl:=(pU hv ht1).len
         obtain ⟨z,hz⟩:∃ z,v.trams[t]=z:=⟨_,rfl⟩
         obtain ⟨p,hpe⟩:∃ p,P[t]=p:=⟨_,rfl⟩
         rw [hz,hpe] at hmv
         rw [hz] at htl
         rw [hpe] at hpl
         have iA:(0:Int)≤(t:Int)∧(t:Int)<(v.trams.length:Int)∧1=1:=⟨by omega,by omega,rfl⟩
         have heq:=KA p z.path (by omega) (by omega)
         simp only [nI] at heq
         have hap:=fun (b0 b1 b2 b3 b4 b5 b6 b7:ABlk) (τ:St)=>pX (σ:=b0::b1::b2::b3::b4::b5::b6::b7::.tok 1 acc.length ex::τ) (l:=acc) (a:=(t:Int)) (ex:=ex) (t:=8) (by omega) rfl
         (repeat (first|simp only [↓QA,QB,Nat.reduceLT,reduceIte,Nat.reduceEqDiff,Nat.reduceAdd,Nat.reduceLeDiff,Nat.reduceMul,Nat.reduceBEq,d9,iA,htp,hpe,ht1,hz,nI]|refine rd0 rfl ?_))
         ((first|refine aC (heq) rfl dd ?_|refine aD (heq) rfl dd ?_);(repeat (first|simp only [↓QA,QB,Nat.reduceLT,reduceIte,Nat.reduceEqDiff,Nat.reduceAdd,Nat.reduceLeDiff,Nat.reduceMul,Nat.reduceBEq,d9,iA,htp,hpe,ht1,hz,nI]|refine rd0 rfl ?_)))
         cases q:decide (p=z.path)
         ·rw [hmv,q] at hacc
          simp only [Bool.not_false,uW]
          (repeat (first|simp only [↓QA,QB,Nat.reduceLT,reduceIte,Nat.reduceEqDiff,Nat.reduceAdd,Nat.reduceLeDiff,Nat.reduceMul,Nat.reduceBEq,d9,hap,hw]|refine rd0 rfl ?_))
          refine ⟨(t+1,acc++[(t:Int)],true),⟨by simp only;omega,by simpa using hacc,by simp;omega⟩,by simp only;omega,?_⟩
          try simp only [aE,QE,Nat.reduceLT,reduceIte,Nat.reduceEqDiff,Nat.reduceAdd,Nat.reduceLeDiff,Nat.reduceMul,Nat.reduceBEq,d9,hw,nR,KZ (show 9<12 by omega),List.map_append,List.map_cons,List.map_nil]
          try simp [aL]
         ·rw [hmv,q] at hacc
          simp only [Bool.not_true,rO]
          (repeat (first|simp only [↓QA,QB,Nat.reduceLT,reduceIte,Nat.reduceEqDiff,Nat.reduceAdd,Nat.reduceLeDiff,Nat.reduceMul,Nat.reduceBEq,d9,hw]|refine rd0 rfl ?_))
          refine ⟨(t+1,acc,ex),⟨by simp only;omega,by simpa using hacc,by simp only;omega⟩,by simp only;omega,?_⟩
          try simp only [aE,QE,Nat.reduceLT,reduceIte,Nat.reduceEqDiff,Nat.reduceAdd,Nat.reduceLeDiff,Nat.reduceMul,Nat.reduceBEq,d9,hw,nR,KZ (show 9<12 by omega)]
          try simp [aL]
        ·have ht1:t=v.trams.length:=by
          have:¬t<v.trams.length:=by simpa using hd
          omega
         rw [UV ht1,List.append_nil] at hacc
         subst hacc
         have hsr:=fun (b0 b1 b2 b3 b4 b5 b6 b7 b8:ABlk) (τ:St)=>aFB (σ:=b0::b1::b2::b3::b4::b5::b6::b7::b8::.cells (P.map ints)::τ) (m:=0) (id:=9) (n:=v.trams.length) (l:=P) (by omega) hPl.symm rfl
         (repeat (first|simp only [↓QA,QB,Nat.reduceLT,reduceIte,Nat.reduceEqDiff,Nat.reduceAdd,Nat.reduceLeDiff,Nat.reduceMul,Nat.reduceBEq,d9,wQ,cR,nI]|refine rd0 rfl ?_))
         try try simp only [QS,QC,Nat.reduceLT,reduceIte,Nat.reduceEqDiff,Nat.reduceAdd,Nat.reduceLeDiff,Nat.reduceMul,Nat.reduceBEq,d9,hsr]
 ·have h0':(eS v==0)=false:=by simpa using h0
  have her:=C1 [.cells (aB v)] v [] (.inl rfl) hf (by rw [nG];exact h0)
  rw [nG] at her
  have hm:rX v=([],[],eS v):=by rw [rX,if_neg h0]
  rw [hm]
  simp only [List.map_nil] at her
  simp only [aI] at her
  refine dZ her ?_
  (repeat (first|simp only [↓QA,QB,Nat.reduceLT,reduceIte,Nat.reduceEqDiff,Nat.reduceAdd,Nat.reduceLeDiff,Nat.reduceMul,Nat.reduceBEq,d9,h0',wQ,cR,List.map_nil]|refine rd0 rfl ?_))
  try rfl
end Go.Am.Room
set_option maxRecDepth 8000
namespace Go.Am.Room
def pN:=And.intro @bH (And.intro @aI (And.intro @aW (And.intro @aT (And.intro @aS (And.intro @aR (And.intro @bF (And.intro @bC (And.intro @bA (And.intro @dH (And.intro @d6 (And.intro @Nat.not_lt_zero (And.intro @List.length_append.{0} (And.intro @Nat.zero_add (And.intro @Nat.mul_one (And.intro @Int.toNat_natCast (And.intro @eU (And.intro @gD (And.intro @gJ (And.intro @lS (And.intro @gI (And.intro @Nat.add_lt_add_iff_left (And.intro @Nat.lt_add_right_iff_pos (And.intro @pM (@pL))))))))))))))))))))))))
def sU (x:B64):St:=[.cells [.int .i64 (x.1.1:Nat)],.cells [.int .i64 (x.1.2:Nat)]]
theorem O5 {v:Net} (hv:Vd v) (c:List Int) (x:B64) (B:List K5) (lp:ABlk) (τ:St) (e:Env) (G:Option AJump→St→Prop)
  (e1:Env.get e 1 = .ptr 0 0) (e6:Env.get e 6 = .ptr 5 0) (e7:Env.get e 7 = .ptr 6 0) (e8:Env.get e 8 = .ptr (τ.length+9) 0) (R:B64×Bool) (hRr:pQ kC v.rails.length c x=R) :
  wp T VM e (mI [.cells (aB v)] v B++(sU x++(.cells [.ptr 4 0]::lp::(τ++[.cells (bV 5 (rl c))])))) (fun j e'' σ''=>(R.2=true∧j=none∧∃ τ',σ''=mI [.cells (aB v)] v B++(sU R.1++(.cells [.ptr 4 0]::lp::(τ++τ'))))∨G j σ''):=by
 have hnt:=hv.nra
 have hR1:R.1.1=eM (kC c) v.rails.length x.1:=by rw [←hRr,yI kC (by omega)]
 have hR2:R.2=true:=by rw [←hRr];exact CH _ _ _ _
 have hlt:=fun k hk=>qW (kC c) (n:=6) x.2 k hk
 have hta:∀ (b0 b1 b2 b3 b4 b5 b6 b7 b8:ABlk),aK (b0::b1::b2::b3::b4::b5::b6::b7::b8::(τ++[.cells (bV 5 (rl c))])) (τ.length+9)=some (bV 5 (rl c)):=fun b0 b1 b2 b3 b4 b5 b6 b7 b8=>by
  simp only [sI]
  rw [kF];rfl
 simp only [sU,hR1,mI,aI]
 (repeat (first|simp only [↓QA,QB,Nat.reduceLT,reduceIte,Nat.reduceEqDiff,Nat.reduceAdd,Nat.reduceLeDiff,Nat.reduceMul,Nat.reduceBEq,pN,VM,e1]|refine rd0 rfl ?_))
 refine bY (S:=Nat) 0 (fun k=>k≤v.rails.length) (fun k=>v.rails.length-k)
  (fun k=>[(1,.ptr 0 0),(6,.ptr 5 0),(7,.ptr 6 0),(8,.ptr (τ.length+9) 0),(29,.int .i64 v.rails.length),(30,.int .i64 k)])
  (fun k=>mI [.cells (aB v)] v B++(.cells [.int .i64 ((eM (kC c) k x.1).1:Nat)]::.cells [.int .i64 ((eM (kC c) k x.1).2:Nat)]::.cells [.ptr 4 0]::lp::(τ++[.cells (bV 5 (rl c))]))) (Nat.zero_le _) (by simp [mI,aB,eM]) ?_ fun k hk=>?_
 ·try simp only [aE,QE,Nat.reduceLT,reduceIte,Nat.reduceEqDiff,Nat.reduceAdd,Nat.reduceLeDiff,Nat.reduceMul,Nat.reduceBEq,pN,e1,e6,e7,e8]
  try simp
 ·(repeat (first|simp only [↓QA,QB,Nat.reduceLT,reduceIte,Nat.reduceEqDiff,Nat.reduceAdd,Nat.reduceLeDiff,Nat.reduceMul,Nat.reduceBEq,pN,aCE,mI]|refine rd0 rfl ?_))
  refine aG (fun hd=>?_) fun hd=>?_
  ·have hk1:k<v.rails.length:=by simpa using hd
   have hw:=bX hk1 (by omega)
   have hst:eM (kC c) (k+1) x.1=if kC c k=true then (DM (eM (kC c) k x.1).1 (2^k),(eM (kC c) k x.1).2) else ((eM (kC c) k x.1).1,(eM (kC c) k x.1).2|||2^k):=rfl
   obtain ⟨l1,l2⟩:=hlt k (by omega)
   obtain ⟨⟨Y1,Y2⟩,hY⟩:∃ Y,eM (kC c) k x.1=Y:=⟨_,rfl⟩
   rw [hY] at hst l1 l2
   simp only at hst l1 l2
   have hp2:=k9 (show k≤60 by omega)
   have hsh:=vJ k (by omega)
   have hor:=aD4 Y2 (2^k) (by omega) (by omega)
   have han:=HO Y1 (2^k) (by omega) (by omega)
   have i3:(0:Int)≤(k:Int)∧(k:Int)<((5:Nat):Int):=⟨by omega,by omega⟩
   have hg:=kR 5 (rl c) (i:=k) (by omega)
   have hop:kC c k = !(rl c k==0):=rfl
   rw [hY]
   cases hf:(rl c k==0)
   ·rw [hop,hf] at hst
    simp only [Bool.not_false,if_true] at hst
    (repeat (first|simp only [↓QA,QB,Nat.reduceLT,reduceIte,Nat.reduceEqDiff,Nat.reduceAdd,Nat.reduceLeDiff,Nat.reduceMul,Nat.reduceBEq,pN,hta,i3,hg,hsh,han,hf]|refine rd0 rfl ?_))
    refine ⟨k+1,by omega,by omega,?_⟩
    rw [hst]
    try simp only [aE,QE,Nat.reduceLT,reduceIte,Nat.reduceEqDiff,Nat.reduceAdd,Nat.reduceLeDiff,Nat.reduceMul,Nat.reduceBEq,pN,hw]
    try simp [aL,okVs,okV]
    try omega
   ·rw [hop,hf] at hst
    simp only [Bool.not_true,Bool.false_eq_true,if_false] at hst
    (repeat (first|simp only [↓QA,QB,Nat.reduceLT,reduceIte,Nat.reduceEqDiff,Nat.reduceAdd,Nat.reduceLeDiff,Nat.reduceMul,Nat.reduceBEq,pN,hta,i3,hg,hsh,hor,hf]|refine rd0 rfl ?_))
    refine ⟨k+1,by omega,by omega,?_⟩
    rw [hst]
    try simp only [aE,QE,Nat.reduceLT,reduceIte,Nat.reduceEqDiff,Nat.reduceAdd,Nat.reduceLeDiff,Nat.reduceMul,Nat.reduceBEq,pN,hw]
    try simp [aL,okVs,okV]
    try omega
  ·have hk1:k=v.rails.length:=by
    have:¬k<v.rails.length:=by simpa using hd
    omega
   rw [hk1]
   (repeat (first|simp only [↓QA,QB,Nat.reduceLT,reduceIte,Nat.reduceEqDiff,Nat.reduceAdd,Nat.reduceLeDiff,Nat.reduceMul,Nat.reduceBEq,pN]|refine rd0 rfl ?_))
   exact .inl ⟨hR2,[.cells (bV 5 (rl c))],rfl⟩
end Go.Am.Room
set_option maxRecDepth 8000
namespace Go.Am.Room
def m8:=And.intro @bH (And.intro @aI (And.intro @aW (And.intro @aT (And.intro @aS (And.intro @aR (And.intro @bF (And.intro @bC (And.intro @bA (And.intro @dH (And.intro @d6 (And.intro @Nat.not_lt_zero (And.intro @List.length_append.{0} (And.intro @Nat.zero_add (And.intro @Nat.mul_one (And.intro @Int.toNat_natCast (And.intro @eU (And.intro @gD (And.intro @gJ (And.intro @lS (And.intro @gI (And.intro @Nat.add_lt_add_iff_left (And.intro @Nat.lt_add_right_iff_pos (And.intro @pM (@pL))))))))))))))))))))))))
theorem nB (v:Net) (hf:Fits v):dR T 32 [bI v] (jT (qH v)):=by
 refine bE (af:=a32) rfl (by simp [a32]) dd ?_
 (repeat (first|simp only [↓QA,QB,Nat.reduceLT,reduceIte,Nat.reduceEqDiff,Nat.reduceAdd,Nat.reduceLeDiff,Nat.reduceMul,Nat.reduceBEq,m8,a32]|refine rd0 rfl ?_))
 by_cases h0:eS v=0
 ·obtain ⟨hv,hne⟩:=mV h0
  have hnt:=hv.nra
  have h6:v.rails.length≤6:=by omega
  obtain ⟨hl1,hl2⟩:=R8 hv h6
  have hit:=EJ kC v.rails.length (TL v []) (mJ _ h6)
  obtain ⟨⟨⟨P,Q⟩,hPQ⟩,hY⟩:∃ Y,n5 kC v.rails.length (TL v []) (mJ _ h6)=Y:=⟨_,rfl⟩
  rw [hY] at hl1 hl2 hit
  simp only at hl1 hl2 hPQ
  have hm:qH v=(lst v.rails.length P,lst v.rails.length Q,0):=by rw [qH,if_pos h0,hl1,hl2]
  have hlo1:=uU P v.rails.length (by omega) (by omega)
  have hlo2:=uU Q v.rails.length (by omega) (by omega)
  have hsh:=vJ v.rails.length (by omega)
  have hp2:=k9 (show v.rails.length≤60 by omega)
  have hw:IntKind.i64.wrap (((2^v.rails.length:Nat):Int)-1)=((2^v.rails.length-1:Nat):Int):=by
   have:=Nat.two_pow_pos v.rails.length
   rw [dU ⟨by omega,by omega⟩];omega
  have hok:∀ (x:B64) (y:ABlk),y∈sU x→∀ k,5≤k→aL k y:=by
   intro x y hy k hk
   simp only [sU,List.mem_cons,List.not_mem_nil,or_false] at hy
   rcases hy with rfl|rfl<;>simp [aL,okVs,okV]
  have hR:=B6 [.cells (aB v)] v
  have hrng:=oJ hR hv PT sU sU 2 (fun _=>rfl) (fun _=>rfl) hok hok .ret (f:=pQ kC v.rails.length)
  have her:=fun σ=>yQ σ v [] (.inl rfl) hf (by rw [nG];exact h0)
  simp only [List.map_nil] at her
  rw [hm]
  simp only [mI] at hrng her
  simp only [aI] at hrng her
  refine dZ (her _) ?_
  (repeat (first|simp only [↓QA,QB,Nat.reduceLT,reduceIte,Nat.reduceEqDiff,Nat.reduceAdd,Nat.reduceLeDiff,Nat.reduceMul,Nat.reduceBEq,m8,show ((0:Int)==0)=true from rfl,hsh,hw]|refine rd0 rfl ?_))
  refine tA rfl (by simp [a80]) ?_
  (repeat (first|simp only [↓QA,QB,Nat.reduceLT,reduceIte,Nat.reduceEqDiff,Nat.reduceAdd,Nat.reduceLeDiff,Nat.reduceMul,Nat.reduceBEq,m8,a80]|refine rd0 rfl ?_))
  refine hrng _ 24 [25,26] _ _ ?_ ?_ (mJ _ h6) (qQ v) _ ?_ ?_
  ·try simp only [aE,QE,Nat.reduceLT,reduceIte,Nat.reduceEqDiff,Nat.reduceAdd,Nat.reduceLeDiff,Nat.reduceMul,Nat.reduceBEq,m8]
  ·refine pT (S:=fun _=>mI [.cells (aB v)] v) (fun _=>hR) sU sU 2 (fun _=>rfl) (fun _=>rfl) .ret _ _ (qU v) (fun _ _ _=>rfl) _ _ ?_
   intro c _ fl tk x B τ
   simp only [lZ,qU]
   obtain ⟨R,hRr⟩:∃ R,pQ kC v.rails.length c x=R:=⟨_,rfl⟩
   rw [hRr]
   have lb:=fun lp e G=>O5 hv c x B lp τ e G
   simp only [sU,mI,aI] at lb ⊢
   (repeat (first|simp only [↓QA,QB,Nat.reduceLT,reduceIte,Nat.reduceEqDiff,Nat.reduceAdd,Nat.reduceLeDiff,Nat.reduceMul,Nat.reduceBEq,m8]|refine rd0 rfl ?_))
   refine ⟨[.cells (bV 5 (rl c))],by simp,?_⟩
   refine lb _ _ _ ?_ ?_ ?_ ?_ R hRr
   all_goals try simp only [aE,QE,Nat.reduceLT,reduceIte,Nat.reduceEqDiff,Nat.reduceAdd,Nat.reduceLeDiff,Nat.reduceMul,Nat.reduceBEq,m8]
  ·intro τ h2
   rw [hit]
   simp only [sU]
   (repeat (first|simp only [↓QA,QB,Nat.reduceLT,reduceIte,Nat.reduceEqDiff,Nat.reduceAdd,Nat.reduceLeDiff,Nat.reduceMul,Nat.reduceBEq,m8]|refine rd0 rfl ?_))
   ((first|refine aC (hlo1) rfl dd ?_|refine aD (hlo1) rfl dd ?_);(repeat (first|simp only [↓QA,QB,Nat.reduceLT,reduceIte,Nat.reduceEqDiff,Nat.reduceAdd,Nat.reduceLeDiff,Nat.reduceMul,Nat.reduceBEq,m8]|refine rd0 rfl ?_)))
   ((first|refine aC (hlo2) rfl dd ?_|refine aD (hlo2) rfl dd ?_);(repeat (first|simp only [↓QA,QB,Nat.reduceLT,reduceIte,Nat.reduceEqDiff,Nat.reduceAdd,Nat.reduceLeDiff,Nat.reduceMul,Nat.reduceBEq,m8,jT]|refine rd0 rfl ?_)))
  ·intro τ h2
   rw [hit] at h2
   cases h2
 ·have her:=fun σ=>C1 σ v [] (.inl rfl) hf (by rw [nG];exact h0)
  simp only [List.map_nil,nG] at her
  have h0':(eS v==0)=false:=by simpa using h0
  have hm:qH v=([],[],eS v):=by rw [qH,if_neg h0]
  rw [hm]
  refine dZ (her _) ?_
  (repeat (first|simp only [↓QA,QB,Nat.reduceLT,reduceIte,Nat.reduceEqDiff,Nat.reduceAdd,Nat.reduceLeDiff,Nat.reduceMul,Nat.reduceBEq,m8,h0',jT]|refine rd0 rfl ?_))
  try rfl
end Go.Am.Room
set_option maxRecDepth 8000
namespace Go.Am.Room
def eD:=And.intro @bH (And.intro @aI (And.intro @aW (And.intro @aT (And.intro @aS (And.intro @aR (And.intro @bF (And.intro @bC (And.intro @bA (And.intro @dH (And.intro @d6 (And.intro @Nat.not_lt_zero (And.intro @List.length_append.{0} (And.intro @Nat.zero_add (And.intro @Nat.mul_one (@Int.toNat_natCast)))))))))))))))
theorem ES (v:Net) (hf:Fits v):dR T 34 [bI v] (BP (uQ v)):=by
 refine bE (af:=a34) rfl (by simp [a34]) dd ?_
 (repeat (first|simp only [↓QA,QB,Nat.reduceLT,reduceIte,Nat.reduceEqDiff,Nat.reduceAdd,Nat.reduceLeDiff,Nat.reduceMul,Nat.reduceBEq,eD,a34]|refine rd0 rfl ?_))
 ((first|refine aC (nJ v hf) rfl dd ?_|refine aD (nJ v hf) rfl dd ?_);(repeat (first|simp only [↓QA,QB,Nat.reduceLT,reduceIte,Nat.reduceEqDiff,Nat.reduceAdd,Nat.reduceLeDiff,Nat.reduceMul,Nat.reduceBEq,eD,qN]|refine rd0 rfl ?_)))
 cases h0:((cA v).2.2==0)
 ·have h0':(cA v).2.2≠0:=by simpa using h0
  have hr:uQ v=(0,0,(cA v).2.2):=by rw [uQ,if_neg h0']
  rw [hr]
  (repeat (first|simp only [↓QA,QB,Nat.reduceLT,reduceIte,Nat.reduceEqDiff,Nat.reduceAdd,Nat.reduceLeDiff,Nat.reduceMul,Nat.reduceBEq,eD,h0,BP]|refine rd0 rfl ?_))
  try rfl
 ·have h0':(cA v).2.2=0:=by simpa using h0
  have hv:=eB h0'
  have hnr:=hv.nra
  have hnt:=hv.ntr
  obtain ⟨R,hR⟩:∃ R,wR v=R:=⟨_,rfl⟩
  have hr:uQ v=if R.1<0 then (0,0,9) else (R.1,R.2,0):=by rw [uQ,if_pos h0',hR]
  have hR':sY v (aU ((0:Nat):Int) ((v.rails.length:Int)-((0:Nat):Int)).toNat) (-1,0)=R:=by rw [←hR,wR];simp
  rw [hr]
  (repeat (first|simp only [↓QA,QB,Nat.reduceLT,reduceIte,Nat.reduceEqDiff,Nat.reduceAdd,Nat.reduceLeDiff,Nat.reduceMul,Nat.reduceBEq,eD,h0]|refine rd0 rfl ?_))
  refine bY (S:=Nat×Int×Int) (0,-1,0) (fun a=>a.1≤v.rails.length∧sY v (aU (a.1:Int) ((v.rails.length:Int)-a.1).toNat) a.2=R) (fun a=>v.rails.length-a.1)
   (fun a=>[(1,.ptr 0 0),(2,.int .i64 a.2.1),(3,.int .i64 a.2.2),(4,.int .i64 (cA v).2.2),(20,.lit (v.rails.map cF) false none),(21,.int .i64 v.rails.length),(22,.int .i64 a.1)]) (fun _=>[.cells (aB v)]) ⟨Nat.zero_le _,hR'⟩ (by simp [aB,ints]) ?_ fun a ha=>?_
  ·try simp only [aE,QE,Nat.reduceLT,reduceIte,Nat.reduceEqDiff,Nat.reduceAdd,Nat.reduceLeDiff,Nat.reduceMul,Nat.reduceBEq,eD]
   try simp
  ·obtain ⟨k,b,c⟩:=a
   obtain ⟨hk,hq⟩:=ha
   simp only at hk hq
   (repeat (first|simp only [↓QA,QB,Nat.reduceLT,reduceIte,Nat.reduceEqDiff,Nat.reduceAdd,Nat.reduceLeDiff,Nat.reduceMul,Nat.reduceBEq,eD,aAM]|refine rd0 rfl ?_))
   refine aG (fun h2=>?_) fun h2=>?_
   ·have hk1:k<v.rails.length:=by simpa using h2
    have hw:=bX hk1 (by omega)
    rw [HQ hk1] at hq
    obtain ⟨z,hz⟩:∃ z,v.rails[k]=z:=⟨_,rfl⟩
    rw [hz] at hq
    obtain ⟨C,hC⟩:∃ C,B4 v k=C:=⟨_,rfl⟩
    rw [hC] at hq
    (repeat (first|simp only [↓QA,QB,Nat.reduceLT,reduceIte,Nat.reduceEqDiff,Nat.reduceAdd,Nat.reduceLeDiff,Nat.reduceMul,Nat.reduceBEq,eD,hk1,hz]|refine rd0 rfl ?_))
    cases q1:(z.shut==1)
    ·have q1':z.shut≠1:=by simpa using q1
     rw [if_neg q1'] at hq
     (repeat (first|simp only [↓QA,QB,Nat.reduceLT,reduceIte,Nat.reduceEqDiff,Nat.reduceAdd,Nat.reduceLeDiff,Nat.reduceMul,Nat.reduceBEq,eD,q1]|refine rd0 rfl ?_))
     refine bY (S:=Nat) 0 (fun j=>j≤v.trams.length) (fun j=>v.trams.length-j)
      (fun j=>[(1,.ptr 0 0),(2,.int .i64 b),(3,.int .i64 c),(4,.int .i64 (cA v).2.2),(5,.int .i64 k),(7,.int .i64 (vG v k j:Nat)),(20,.lit (v.rails.map cF) false none),(21,.int .i64 v.rails.length),(22,.int .i64 k),(31,.lit (v.trams.map aZ) false none),(32,.int .i64 v.trams.length),(33,.int .i64 j)]) (fun _=>[.cells (aB v),.cells (cF z).cells]) (Nat.zero_le _) (by simp [aB,ints,vG,cF,AV.cells]) ?_ fun j hj=>?_
     ·try simp only [aE,QE,Nat.reduceLT,reduceIte,Nat.reduceEqDiff,Nat.reduceAdd,Nat.reduceLeDiff,Nat.reduceMul,Nat.reduceBEq,eD,vG]
      try simp
     ·(repeat (first|simp only [↓QA,QB,Nat.reduceLT,reduceIte,Nat.reduceEqDiff,Nat.reduceAdd,Nat.reduceLeDiff,Nat.reduceMul,Nat.reduceBEq,eD,aCA]|refine rd0 rfl ?_))
      refine aG (fun h3=>?_) fun h3=>?_
      ·have hj1:j<v.trams.length:=by simpa using h3
       have hwj:=bX hj1 (by omega)
       have hcl:=V3 v k j
       have hs:=LQ v k j
       have hwc:=bX (show vG v k j<v.trams.length by omega) (by omega)
       have hwt:=(pU hv hj1).frm
       have hst:=hv.st
       rw [GN hj1] at hs
       obtain ⟨y,hy⟩:∃ y,v.trams[j]=y:=⟨_,rfl⟩
       rw [hy] at hs hwt
       obtain ⟨f,hf1,hf2⟩:∃ f:Nat,y.frm=f∧f<5:=⟨y.frm.toNat,by omega,by omega⟩
       rw [hf1] at hs
       have hpw:=CP v hv f hf2 k
       rw [show rB (k:Int)=[(k:Int)] by rw [rB,if_neg (by omega)]] at hpw
       obtain ⟨W,hW⟩:∃ W,eJ v f [(k:Int)]=W:=⟨_,rfl⟩
       rw [hW] at hpw hs
       have hwe:(((W.length:Nat):Int)==0)=W.isEmpty:=by cases W<;>simp<;>omega
       (repeat (first|simp only [↓QA,QB,Nat.reduceLT,reduceIte,Nat.reduceEqDiff,Nat.reduceAdd,Nat.reduceLeDiff,Nat.reduceMul,Nat.reduceBEq,eD,hj1,hy,hf1]|refine rd0 rfl ?_))
       ((first|refine aC (hpw) rfl dd ?_|refine aD (hpw) rfl dd ?_);(repeat (first|simp only [↓QA,QB,Nat.reduceLT,reduceIte,Nat.reduceEqDiff,Nat.reduceAdd,Nat.reduceLeDiff,Nat.reduceMul,Nat.reduceBEq,eD,cR,hwe]|refine rd0 rfl ?_)))
       cases hse:W.isEmpty
       ·rw [hse] at hs
        simp only [Bool.false_eq_true,if_false,Nat.add_zero] at hs
        (repeat (first|simp only [↓QA,QB,Nat.reduceLT,reduceIte,Nat.reduceEqDiff,Nat.reduceAdd,Nat.reduceLeDiff,Nat.reduceMul,Nat.reduceBEq,eD,hwj]|refine rd0 rfl ?_))
        refine ⟨j+1,by omega,by omega,?_⟩
        rw [hs]
        try simp only [aE,QE,Nat.reduceLT,reduceIte,Nat.reduceEqDiff,Nat.reduceAdd,Nat.reduceLeDiff,Nat.reduceMul,Nat.reduceBEq,eD,hwj]
        try simp [aL]
       ·rw [hse] at hs
        simp only [if_true] at hs
        (repeat (first|simp only [↓QA,QB,Nat.reduceLT,reduceIte,Nat.reduceEqDiff,Nat.reduceAdd,Nat.reduceLeDiff,Nat.reduceMul,Nat.reduceBEq,eD,hwj,hwc]|refine rd0 rfl ?_))
        refine ⟨j+1,by omega,by omega,?_⟩
        rw [hs]
        try simp only [aE,QE,Nat.reduceLT,reduceIte,Nat.reduceEqDiff,Nat.reduceAdd,Nat.reduceLeDiff,Nat.reduceMul,Nat.reduceBEq,eD,hwj,hwc]
        try simp [aL]
      ·have hj1:j=v.trams.length:=by
        have:¬j<v.trams.length:=by simpa using h3
        omega
       rw [hj1]
       have hCC:((vG v k v.trams.length:Nat):Int)=C:=by rw [←hC];rfl
       rw [hCC]
       (repeat (first|simp only [↓QA,QB,Nat.reduceLT,reduceIte,Nat.reduceEqDiff,Nat.reduceAdd,Nat.reduceLeDiff,Nat.reduceMul,Nat.reduceBEq,eD]|refine rd0 rfl ?_))
       cases q2:decide (b<0)
       ·have q2':¬b<0:=by simpa using q2
        cases q3:decide (c<C)
        ·have q3':¬c<C:=by simpa using q3
         rw [if_neg (by simp only;omega)] at hq
         (repeat (first|simp only [↓QA,QB,Nat.reduceLT,reduceIte,Nat.reduceEqDiff,Nat.reduceAdd,Nat.reduceLeDiff,Nat.reduceMul,Nat.reduceBEq,eD,q2,q3,hw]|refine rd0 rfl ?_))
         refine ⟨(k+1,b,c),⟨by simp only;omega,hq⟩,by simp only;omega,?_⟩
         try simp only [aE,QE,Nat.reduceLT,reduceIte,Nat.reduceEqDiff,Nat.reduceAdd,Nat.reduceLeDiff,Nat.reduceMul,Nat.reduceBEq,eD,hw]
         try simp [aL]
        ·have q3':c<C:=by simpa using q3
         rw [if_pos (.inr q3')] at hq
         (repeat (first|simp only [↓QA,QB,Nat.reduceLT,reduceIte,Nat.reduceEqDiff,Nat.reduceAdd,Nat.reduceLeDiff,Nat.reduceMul,Nat.reduceBEq,eD,q2,q3,hw]|refine rd0 rfl ?_))
         refine ⟨(k+1,(k:Int),C),⟨by simp only;omega,hq⟩,by simp only;omega,?_⟩
         try simp only [aE,QE,Nat.reduceLT,reduceIte,Nat.reduceEqDiff,Nat.reduceAdd,Nat.reduceLeDiff,Nat.reduceMul,Nat.reduceBEq,eD,hw]
         try simp [aL]
       ·have q2':b<0:=by simpa using q2
        rw [if_pos (.inl q2')] at hq
        (repeat (first|simp only [↓QA,QB,Nat.reduceLT,reduceIte,Nat.reduceEqDiff,Nat.reduceAdd,Nat.reduceLeDiff,Nat.reduceMul,Nat.reduceBEq,eD,q2,hw]|refine rd0 rfl ?_))
        refine ⟨(k+1,(k:Int),C),⟨by simp only;omega,hq⟩,by simp only;omega,?_⟩
        try simp only [aE,QE,Nat.reduceLT,reduceIte,Nat.reduceEqDiff,Nat.reduceAdd,Nat.reduceLeDiff,Nat.reduceMul,Nat.reduceBEq,eD,hw]
        try simp [aL]
    ·have q1':z.shut=1:=by simpa using q1
     rw [if_pos q1'] at hq
     (repeat (first|simp only [↓QA,QB,Nat.reduceLT,reduceIte,Nat.reduceEqDiff,Nat.reduceAdd,Nat.reduceLeDiff,Nat.reduceMul,Nat.reduceBEq,eD,q1,hw]|refine rd0 rfl ?_))
     refine ⟨(k+1,b,c),⟨by simp only;omega,hq⟩,by simp only;omega,?_⟩
     try simp only [aE,QE,Nat.reduceLT,reduceIte,Nat.reduceEqDiff,Nat.reduceAdd,Nat.reduceLeDiff,Nat.reduceMul,Nat.reduceBEq,eD,hw]
     try simp [aL]
   ·have hk1:k=v.rails.length:=by
     have:¬k<v.rails.length:=by simpa using h2
     omega
    rw [rM (by omega),sY] at hq
    subst hq
    cases q:decide (b<0)
    ·have q':¬b<0:=by simpa using q
     rw [if_neg (by simpa using q')]
     (repeat (first|simp only [↓QA,QB,Nat.reduceLT,reduceIte,Nat.reduceEqDiff,Nat.reduceAdd,Nat.reduceLeDiff,Nat.reduceMul,Nat.reduceBEq,eD,q,BP]|refine rd0 rfl ?_))
     try rfl
    ·have q':b<0:=by simpa using q
     rw [if_pos (by simpa using q')]
     (repeat (first|simp only [↓QA,QB,Nat.reduceLT,reduceIte,Nat.reduceEqDiff,Nat.reduceAdd,Nat.reduceLeDiff,Nat.reduceMul,Nat.reduceBEq,eD,q,BP]|refine rd0 rfl ?_))
     try rfl
theorem GU {v:Net} (hv:Vd v):gC v.rails []≠[]:=by
 have:v.rails.map (fun r=>if r.shut=1 then 0 else r.mins.lo)∈gC v.rails []:=(jR _ _ _).2 ⟨_,rfl,by simp,fun i h hr=>by
  have h2:=(hv.ra _ (List.getElem_mem hr)).mins
  rw [List.getElem?_eq_getElem (by simpa using hr),Option.getD_some,List.getElem_map]
  obtain ⟨z,hz⟩:∃ z,v.rails[i]=z:=⟨_,rfl⟩
  rw [hz] at h2 ⊢
  simp only [chP,List.mem_append]
  by_cases q:z.shut=1
  ·rw [if_pos q,if_neg (by omega)]
   exact .inl (by simp)
  ·rw [if_neg q,if_neg q]
   exact .inr (kD.2 ⟨Int.le_refl _,by omega⟩)⟩
 exact List.ne_nil_of_mem this
theorem UQ {v:Net} {but:List Int} (h:∀ k,k<v.seen.length→but.contains (k:Int)=true) (cs:List Int):jZ v but cs=true:=by
 rw [jZ,List.all_eq_true]
 intro k hk
 have hk2:k<v.seen.length:=by simpa using hk
 rw [List.getElem?_eq_getElem hk2]
 simp only [h k hk2,Bool.true_or]
theorem RT {v:Net} (hv:Vd v) {but:List Int} (h:∀ k,k<v.seen.length→but.contains (k:Int)=true):kT v but=true:=by
 obtain ⟨c,hc⟩:=List.exists_mem_of_ne_nil _ (GU hv)
 have ht:c∈TL v but:=List.mem_filter.2 ⟨hc,UQ h _⟩
 obtain ⟨s,hs,_⟩:=uB hv ht
 rw [kT]
 cases hh:aJ v but with
 |nil=>rw [hh] at hs;cases hs
 |cons a b=>rfl
theorem O1 {v:Net} (hv:Vd v):∀ c∈dM v.seen.length v.seen.length,kT v c=true:=fun c hc=>by
 have hl:=hv.nse
 exact RT hv fun k hk=>GX ⟨v.seen.length,by omega⟩ c hc ⟨k,by omega⟩ hk
theorem tO (f:List Int→Bool) (n:Nat):∀ k m,eV f n (k+1) m=(eV f n k m).or ((dM n (m+k)).find? f)
 |0,m=>by simp only [eV,Nat.add_zero];cases (dM n m).find? f<;>rfl
 |k+1,m=>by
  rw [eV,tO f n k (m+1)]
  rw [show eV f n (k+1) m=(match (dM n m).find? f with|some l=>some l|none=>eV f n k (m+1)) from rfl]
  rw [show m+1+k=m+(k+1) by omega]
  cases (dM n m).find? f<;>rfl
theorem zQ {v:Net} (hv:Vd v):eV (kT v) v.seen.length (v.seen.length+1) 0=some (mU v):=by
 have hl:=hv.nse
 have h1:=KD ⟨v.seen.length,by omega⟩
 simp only at h1
 obtain ⟨w,hw⟩:=List.length_eq_one_iff.1 h1
 have hs:=O1 hv w (by rw [hw];simp)
 rw [tO,mU,Nat.zero_add,hw]
 cases eV (kT v) v.seen.length v.seen.length 0 with
 |some l=>rfl
 |none=>simp [hs]
end Go.Am.Room
set_option maxRecDepth 8000
namespace Go.Am.Room
def bW:=And.intro @bH (And.intro @aI (And.intro @aW (And.intro @aT (And.intro @aS (And.intro @aR (And.intro @bF (And.intro @bC (And.intro @bA (And.intro @List.length_append.{0} (And.intro @Nat.mul_one (And.intro @Int.toNat_natCast (And.intro @dH (And.intro @d6 (@nR))))))))))))))
def CA (σ:St) (v:Net) (b:Nat) (A:List K5):St:=σ++[.cells (aB v),.map (tEs v A),.cells (db v b (σ.length+1))]
theorem ZB (σ:St) (v:Net) (b:Nat):MemAt (CA σ v b) (db v b (σ.length+1)) (tEs v) (σ.length+2) (σ.length+1) (σ.length+3) :=
 ⟨fun M=>by simp [CA],fun M=>by simp [CA,sW,sI,U8],fun M=>by rw [CA,sX];rfl,fun M M'=>by rw [CA,CA,p9];rfl,fun A k=>tP v A k,by omega,by omega⟩
theorem jJ (v:Net) (hf:Fits v):dR T 36 [bI v] (zS (kY v)):=by
 refine bE (af:=a36) rfl (by simp [a36]) dd ?_
 (repeat (first|simp only [↓QA,QB,Nat.reduceLT,reduceIte,Nat.reduceEqDiff,Nat.reduceAdd,Nat.reduceLeDiff,Nat.reduceMul,Nat.reduceBEq,bW,a36]|refine rd0 rfl ?_))
 ((first|refine aC (nJ v hf) rfl dd ?_|refine aD (nJ v hf) rfl dd ?_);(repeat (first|simp only [↓QA,QB,Nat.reduceLT,reduceIte,Nat.reduceEqDiff,Nat.reduceAdd,Nat.reduceLeDiff,Nat.reduceMul,Nat.reduceBEq,bW,qN]|refine rd0 rfl ?_)))
 cases h0:((cA v).2.2==0)
 ·have h0':(cA v).2.2≠0:=by simpa using h0
  have hwo:kY v=([],(cA v).2.2):=if_neg h0'
  rw [hwo]
  (repeat (first|simp only [↓QA,QB,Nat.reduceLT,reduceIte,Nat.reduceEqDiff,Nat.reduceAdd,Nat.reduceLeDiff,Nat.reduceMul,Nat.reduceBEq,bW,h0,zS]|refine rd0 rfl ?_))
  try rfl
 ·have h0':(cA v).2.2=0:=by simpa using h0
  have hwo:kY v=(mU v,0):=if_pos h0'
  have hv:=eB h0'
  have hnl:=hv.nse
  have hwf:=zQ hv
  rw [←aCP _ _ (by omega)] at hwf
  rw [hwo]
  obtain ⟨W,hW⟩:∃ W,mU v=W:=⟨_,rfl⟩
  rw [hW] at hwf ⊢
  obtain ⟨n,hn⟩:∃ n,v.seen.length=n:=⟨_,rfl⟩
  rw [hn] at hwf hnl
  have hp:2^n≤2^3:=Nat.pow_le_pow_right (by omega) hnl
  have hshl:=vJ n (by omega)
  obtain ⟨P,hP⟩:∃ P,2^n=P:=⟨_,rfl⟩
  have hbl:∀ s,s<P→ButIs s (lst n s):=fun s hs=>XK (by omega) (by omega)
  rw [hP] at hp hshl hwf
  obtain ⟨q,hq⟩:∃ q,kT v=q:=⟨_,rfl⟩
  have hqd:∀ l,(!(aJ v l).isEmpty)=q l:=fun l=>by rw [←hq];rfl
  rw [hq] at hwf
  (repeat (first|simp only [↓QA,QB,Nat.reduceLT,reduceIte,Nat.reduceEqDiff,Nat.reduceAdd,Nat.reduceLeDiff,Nat.reduceMul,Nat.reduceBEq,bW,h0,hn,hshl]|refine rd0 rfl ?_))
  refine bY (S:=Nat×Option (List Int)) (0,none) (fun x=>x.1≤P∧oD q n (P-x.1) x.1 x.2=some W∧(x.2.getD []).length≤n) (fun x=>P-x.1)
   (fun x=>[(1,.ptr 0 0),(2,ints (x.2.getD [])),(4,.bool x.2.isSome),(19,.int .i64 P),(20,.int .i64 x.1)])
   (fun x=>[.cells (aB v)]) ⟨by simp,by simpa using hwf,by simp⟩ (by simp [aB,ints]) ?_ fun x hx=>?_
  ·try simp only [aE,QE,Nat.reduceLT,reduceIte,Nat.reduceEqDiff,Nat.reduceAdd,Nat.reduceLeDiff,Nat.reduceMul,Nat.reduceBEq,bW,ints,Option.getD_none,Option.isSome_none]
   try simp [clr,clrs]
  ·obtain ⟨s,o⟩:=x
   obtain ⟨hs,hfo,hol⟩:=hx
   simp only at hs hfo hol
   (repeat (first|simp only [↓QA,QB,Nat.reduceLT,reduceIte,Nat.reduceEqDiff,Nat.reduceAdd,Nat.reduceLeDiff,Nat.reduceMul,Nat.reduceBEq,bW,aAK]|refine rd0 rfl ?_))
   refine aG (fun h=>?_) fun h=>?_
   ·have hs1:s<P:=by simpa using h
    have hw:=bX hs1 (by omega)
    have hll:=G7 n s
    have hlk:=JV [.cells (aB v)] v s
    have hso:=EX (ZB [.cells (aB v)] v s) hv (hbl s hs1) []
    have e0:tEs v []=[]:=rfl
    rw [hqd] at hso
    have hlo:=uU s n (by omega) (by omega)
    rw [show P-s=(P-(s+1))+1 by omega] at hfo
    simp only [oD] at hfo
    obtain ⟨L,hL⟩:∃ L,lst n s=L:=⟨_,rfl⟩
    rw [hL] at hfo hll hlo hso
    obtain ⟨qL,hqL⟩:∃ x,q L=x:=⟨_,rfl⟩
    rw [hqL] at hso
    simp only [CA,CJ,e0] at hso hlk
    try simp only [↓QA,QB,Nat.reduceLT,reduceIte,Nat.reduceEqDiff,Nat.reduceAdd,Nat.reduceLeDiff,Nat.reduceMul,Nat.reduceBEq,bW,List.cons_append,List.nil_append,List.length_cons,List.length_nil] at hso hlk
    (repeat (first|simp only [↓QA,QB,Nat.reduceLT,reduceIte,Nat.reduceEqDiff,Nat.reduceAdd,Nat.reduceLeDiff,Nat.reduceMul,Nat.reduceBEq,bW,hn,Option.getD_some]|refine rd0 rfl ?_))
    ((first|refine aC (hlo) rfl dd ?_|refine aD (hlo) rfl dd ?_);(repeat (first|simp only [↓QA,QB,Nat.reduceLT,reduceIte,Nat.reduceEqDiff,Nat.reduceAdd,Nat.reduceLeDiff,Nat.reduceMul,Nat.reduceBEq,bW]|refine rd0 rfl ?_)))
    cases o with
    |none =>
     have hst:kE q none L=if q L=true then some L else none:=rfl
     (repeat (first|simp only [↓QA,QB,Nat.reduceLT,reduceIte,Nat.reduceEqDiff,Nat.reduceAdd,Nat.reduceLeDiff,Nat.reduceMul,Nat.reduceBEq,bW,Option.isSome_none,Option.getD_none]|refine rd0 rfl ?_))
     refine dZ hlk ?_
     (repeat (first|simp only [↓QA,QB,Nat.reduceLT,reduceIte,Nat.reduceEqDiff,Nat.reduceAdd,Nat.reduceLeDiff,Nat.reduceMul,Nat.reduceBEq,bW]|refine rd0 rfl ?_))
     refine dZ hso ?_
     (repeat (first|simp only [↓QA,QB,Nat.reduceLT,reduceIte,Nat.reduceEqDiff,Nat.reduceAdd,Nat.reduceLeDiff,Nat.reduceMul,Nat.reduceBEq,bW]|refine rd0 rfl ?_))
     cases qL
     ·rw [hqL] at hst
      simp only [Bool.false_eq_true,if_false] at hst
      rw [hst] at hfo
      (repeat (first|simp only [↓QA,QB,Nat.reduceLT,reduceIte,Nat.reduceEqDiff,Nat.reduceAdd,Nat.reduceLeDiff,Nat.reduceMul,Nat.reduceBEq,bW,hw]|refine rd0 rfl ?_))
      refine ⟨(s+1,none),⟨by simp only;omega,hfo,by simp⟩,by simp only;omega,?_⟩
      try simp only [aE,QE,Nat.reduceLT,reduceIte,Nat.reduceEqDiff,Nat.reduceAdd,Nat.reduceLeDiff,Nat.reduceMul,Nat.reduceBEq,bW,hw,Option.isSome_none,Option.getD_none]
      try simp [ints,aL]
     ·rw [hqL] at hst
      simp only [if_true] at hst
      rw [hst] at hfo
      (repeat (first|simp only [↓QA,QB,Nat.reduceLT,reduceIte,Nat.reduceEqDiff,Nat.reduceAdd,Nat.reduceLeDiff,Nat.reduceMul,Nat.reduceBEq,bW,hw]|refine rd0 rfl ?_))
      refine ⟨(s+1,some L),⟨by simp only;omega,hfo,by simpa using hll⟩,by simp only;omega,?_⟩
      try simp only [aE,QE,Nat.reduceLT,reduceIte,Nat.reduceEqDiff,Nat.reduceAdd,Nat.reduceLeDiff,Nat.reduceMul,Nat.reduceBEq,bW,hw,Option.isSome_some,Option.getD_some]
      try simp [ints,aL]
    |some b =>
     simp only [Option.getD_some] at hol
     simp only [Option.isSome_some,uW]
     (repeat (first|simp only [↓QA,QB,Nat.reduceLT,reduceIte,Nat.reduceEqDiff,Nat.reduceAdd,Nat.reduceLeDiff,Nat.reduceMul,Nat.reduceBEq,bW,Option.isSome_some,Option.getD_some]|refine rd0 rfl ?_))
     have fin:∀ (hfw:fW b L=false),kE q (some b) L=if q L=true then some L else some b:=fun hfw=>by simp only [kE,hfw];rfl
     cases h1:decide ((b.length:Int)<(L.length:Int))
     ·have h1':¬b.length<L.length:=by simpa using h1
      (repeat (first|simp only [↓QA,QB,Nat.reduceLT,reduceIte,Nat.reduceEqDiff,Nat.reduceAdd,Nat.reduceLeDiff,Nat.reduceMul,Nat.reduceBEq,bW,Option.getD_some,h1]|refine rd0 rfl ?_))
      cases h2:((L.length:Int)==(b.length:Int))
      ·have h2':¬b.length=L.length:=by intro h;rw [h] at h2;simp at h2
       have hst:=fin (by simp [fW,h1',h2'])
       (repeat (first|simp only [↓QA,QB,Nat.reduceLT,reduceIte,Nat.reduceEqDiff,Nat.reduceAdd,Nat.reduceLeDiff,Nat.reduceMul,Nat.reduceBEq,bW,h2]|refine rd0 rfl ?_))
       refine dZ hlk ?_
       (repeat (first|simp only [↓QA,QB,Nat.reduceLT,reduceIte,Nat.reduceEqDiff,Nat.reduceAdd,Nat.reduceLeDiff,Nat.reduceMul,Nat.reduceBEq,bW]|refine rd0 rfl ?_))
       refine dZ hso ?_
       (repeat (first|simp only [↓QA,QB,Nat.reduceLT,reduceIte,Nat.reduceEqDiff,Nat.reduceAdd,Nat.reduceLeDiff,Nat.reduceMul,Nat.reduceBEq,bW]|refine rd0 rfl ?_))
       cases qL
       ·rw [hqL] at hst
        simp only [Bool.false_eq_true,if_false] at hst
        rw [hst] at hfo
        (repeat (first|simp only [↓QA,QB,Nat.reduceLT,reduceIte,Nat.reduceEqDiff,Nat.reduceAdd,Nat.reduceLeDiff,Nat.reduceMul,Nat.reduceBEq,bW,hw]|refine rd0 rfl ?_))
        refine ⟨(s+1,some b),⟨by simp only;omega,hfo,by simpa using hol⟩,by simp only;omega,?_⟩
        try simp only [aE,QE,Nat.reduceLT,reduceIte,Nat.reduceEqDiff,Nat.reduceAdd,Nat.reduceLeDiff,Nat.reduceMul,Nat.reduceBEq,bW,hw,Option.isSome_some,Option.getD_some]
        try simp [ints,aL]
       ·rw [hqL] at hst
        simp only [if_true] at hst
        rw [hst] at hfo
        (repeat (first|simp only [↓QA,QB,Nat.reduceLT,reduceIte,Nat.reduceEqDiff,Nat.reduceAdd,Nat.reduceLeDiff,Nat.reduceMul,Nat.reduceBEq,bW,hw]|refine rd0 rfl ?_))
        refine ⟨(s+1,some L),⟨by simp only;omega,hfo,by simpa using hll⟩,by simp only;omega,?_⟩
        try simp only [aE,QE,Nat.reduceLT,reduceIte,Nat.reduceEqDiff,Nat.reduceAdd,Nat.reduceLeDiff,Nat.reduceMul,Nat.reduceBEq,bW,hw,Option.isSome_some,Option.getD_some]
        try simp [ints,aL]
      ·have h2':b.length=L.length:=by simp at h2;omega
       (repeat (first|simp only [↓QA,QB,Nat.reduceLT,reduceIte,Nat.reduceEqDiff,Nat.reduceAdd,Nat.reduceLeDiff,Nat.reduceMul,Nat.reduceBEq,bW,Option.getD_some,h2]|refine rd0 rfl ?_))
       ((first|refine aC (N3 L b (by omega) (by omega)) rfl dd ?_|refine aD (N3 L b (by omega) (by omega)) rfl dd ?_);(repeat (first|simp only [↓QA,QB,Nat.reduceLT,reduceIte,Nat.reduceEqDiff,Nat.reduceAdd,Nat.reduceLeDiff,Nat.reduceMul,Nat.reduceBEq,bW,DS,Option.getD_some]|refine rd0 rfl ?_)))
       cases h3:less b L
       ·have hst:=fin (by simp [fW,h2',h3])
        (repeat (first|simp only [↓QA,QB,Nat.reduceLT,reduceIte,Nat.reduceEqDiff,Nat.reduceAdd,Nat.reduceLeDiff,Nat.reduceMul,Nat.reduceBEq,bW,h3]|refine rd0 rfl ?_))
        refine dZ hlk ?_
        (repeat (first|simp only [↓QA,QB,Nat.reduceLT,reduceIte,Nat.reduceEqDiff,Nat.reduceAdd,Nat.reduceLeDiff,Nat.reduceMul,Nat.reduceBEq,bW]|refine rd0 rfl ?_))
        refine dZ hso ?_
        (repeat (first|simp only [↓QA,QB,Nat.reduceLT,reduceIte,Nat.reduceEqDiff,Nat.reduceAdd,Nat.reduceLeDiff,Nat.reduceMul,Nat.reduceBEq,bW]|refine rd0 rfl ?_))
        cases qL
        ·rw [hqL] at hst
         simp only [Bool.false_eq_true,if_false] at hst
         rw [hst] at hfo
         (repeat (first|simp only [↓QA,QB,Nat.reduceLT,reduceIte,Nat.reduceEqDiff,Nat.reduceAdd,Nat.reduceLeDiff,Nat.reduceMul,Nat.reduceBEq,bW,hw]|refine rd0 rfl ?_))
         refine ⟨(s+1,some b),⟨by simp only;omega,hfo,by simpa using hol⟩,by simp only;omega,?_⟩
         try simp only [aE,QE,Nat.reduceLT,reduceIte,Nat.reduceEqDiff,Nat.reduceAdd,Nat.reduceLeDiff,Nat.reduceMul,Nat.reduceBEq,bW,hw,Option.isSome_some,Option.getD_some]
         try simp [ints,aL]
        ·rw [hqL] at hst
         simp only [if_true] at hst
         rw [hst] at hfo
         (repeat (first|simp only [↓QA,QB,Nat.reduceLT,reduceIte,Nat.reduceEqDiff,Nat.reduceAdd,Nat.reduceLeDiff,Nat.reduceMul,Nat.reduceBEq,bW,hw]|refine rd0 rfl ?_))
         refine ⟨(s+1,some L),⟨by simp only;omega,hfo,by simpa using hll⟩,by simp only;omega,?_⟩
         try simp only [aE,QE,Nat.reduceLT,reduceIte,Nat.reduceEqDiff,Nat.reduceAdd,Nat.reduceLeDiff,Nat.reduceMul,Nat.reduceBEq,bW,hw,Option.isSome_some,Option.getD_some]
         try simp [ints,aL]
       ·have hfw:fW b L=true:=by simp [fW,h2',h3]
        have hst:kE q (some b) L=some b:=by simp only [kE,hfw,if_true]
        rw [hst] at hfo
        (repeat (first|simp only [↓QA,QB,Nat.reduceLT,reduceIte,Nat.reduceEqDiff,Nat.reduceAdd,Nat.reduceLeDiff,Nat.reduceMul,Nat.reduceBEq,bW,h3,hw]|refine rd0 rfl ?_))
        refine ⟨(s+1,some b),⟨by simp only;omega,hfo,by simpa using hol⟩,by simp only;omega,?_⟩
        try simp only [aE,QE,Nat.reduceLT,reduceIte,Nat.reduceEqDiff,Nat.reduceAdd,Nat.reduceLeDiff,Nat.reduceMul,Nat.reduceBEq,bW,hw,Option.isSome_some,Option.getD_some]
        try simp [ints,aL]
     ·have h1':b.length<L.length:=by simpa using h1
      have h2':¬b.length=L.length:=by omega
      have hfw:fW b L=true:=by simp [fW,h1',h2']
      have hst:kE q (some b) L=some b:=by simp only [kE,hfw,if_true]
      rw [hst] at hfo
      (repeat (first|simp only [↓QA,QB,Nat.reduceLT,reduceIte,Nat.reduceEqDiff,Nat.reduceAdd,Nat.reduceLeDiff,Nat.reduceMul,Nat.reduceBEq,bW,h1,hw]|refine rd0 rfl ?_))
      refine ⟨(s+1,some b),⟨by simp only;omega,hfo,by simpa using hol⟩,by simp only;omega,?_⟩
      try simp only [aE,QE,Nat.reduceLT,reduceIte,Nat.reduceEqDiff,Nat.reduceAdd,Nat.reduceLeDiff,Nat.reduceMul,Nat.reduceBEq,bW,hw,Option.isSome_some,Option.getD_some]
      try simp [ints,aL]
   ·have hs1:s=P:=by simp at h;omega
    rw [hs1,Nat.sub_self] at hfo
    simp only [oD] at hfo
    subst hfo
    (repeat (first|simp only [↓QA,QB,Nat.reduceLT,reduceIte,Nat.reduceEqDiff,Nat.reduceAdd,Nat.reduceLeDiff,Nat.reduceMul,Nat.reduceBEq,bW,zS,Option.getD_some]|refine rd0 rfl ?_))
    try try simp only [QS,QC,Nat.reduceLT,reduceIte,Nat.reduceEqDiff,Nat.reduceAdd,Nat.reduceLeDiff,Nat.reduceMul,Nat.reduceBEq,bW]
end Go.Am.Room
set_option maxRecDepth 8000
namespace Go.Am.Room
def m6:=And.intro @aR (@List.length_append.{0})
theorem jU (a b:Int):dR T 40 [.int .i64 a,.int .i64 b] (n9 ⟨a,b⟩):=by
 refine bE (af:=a40) rfl (by simp [a40]) dd ?_
 (repeat (first|simp only [↓QA,QB,Nat.reduceLT,reduceIte,Nat.reduceEqDiff,Nat.reduceAdd,Nat.reduceLeDiff,Nat.reduceMul,Nat.reduceBEq,m6,a40]|refine rd0 rfl ?_))
def u8s (l:List Int):AV:=.lit (l.map (.int .u8)) false none
theorem U0 (l:List Int):mD (u8s l):=fJ (dC .u8) l
instance (l:List Int):Dat (u8s l):=⟨U0 l⟩
end Go.Am.Room
set_option maxRecDepth 8000
namespace Go.Am.Room
def eZ:=And.intro @bH (And.intro @aI (And.intro @aW (And.intro @aT (And.intro @aS (And.intro @aR (And.intro @bF (And.intro @bC (And.intro @bA (And.intro @dH (@List.length_append.{0}))))))))))
theorem EL (p n:Int):dR T 39 [.int .i64 p,.int .i64 n] (bN ⟨p,n⟩):=by
 refine bE (af:=a39) rfl (by simp [a39]) dd ?_
 (repeat (first|simp only [↓QA,QB,Nat.reduceLT,reduceIte,Nat.reduceEqDiff,Nat.reduceAdd,Nat.reduceLeDiff,Nat.reduceMul,Nat.reduceBEq,eZ,a39]|refine rd0 rfl ?_))
theorem xH (o:Bool) (l:List Seen):dR T 38 [.bool o,.lit (l.map bN) false none] (bI (exN o l)):=by
 refine bE (af:=a38) rfl (by simp [a38]) dd ?_
 (repeat (first|simp only [↓QA,QB,Nat.reduceLT,reduceIte,Nat.reduceEqDiff,Nat.reduceAdd,Nat.reduceLeDiff,Nat.reduceMul,Nat.reduceBEq,eZ,a38]|refine rd0 rfl ?_))
 ((first|refine aC (jU 5 6) rfl dd ?_|refine aD (jU 5 6) rfl dd ?_);(repeat (first|simp only [↓QA,QB,Nat.reduceLT,reduceIte,Nat.reduceEqDiff,Nat.reduceAdd,Nat.reduceLeDiff,Nat.reduceMul,Nat.reduceBEq,eZ]|refine rd0 rfl ?_)))
 ((first|refine aC (jU 4 4) rfl dd ?_|refine aD (jU 4 4) rfl dd ?_);(repeat (first|simp only [↓QA,QB,Nat.reduceLT,reduceIte,Nat.reduceEqDiff,Nat.reduceAdd,Nat.reduceLeDiff,Nat.reduceMul,Nat.reduceBEq,eZ]|refine rd0 rfl ?_)))
 ((first|refine aC (jU 12 12) rfl dd ?_|refine aD (jU 12 12) rfl dd ?_);(repeat (first|simp only [↓QA,QB,Nat.reduceLT,reduceIte,Nat.reduceEqDiff,Nat.reduceAdd,Nat.reduceLeDiff,Nat.reduceMul,Nat.reduceBEq,eZ]|refine rd0 rfl ?_)))
 ((first|refine aC (jU 3 3) rfl dd ?_|refine aD (jU 3 3) rfl dd ?_);(repeat (first|simp only [↓QA,QB,Nat.reduceLT,reduceIte,Nat.reduceEqDiff,Nat.reduceAdd,Nat.reduceLeDiff,Nat.reduceMul,Nat.reduceBEq,eZ]|refine rd0 rfl ?_)))
 cases o
 ·(repeat (first|simp only [↓QA,QB,Nat.reduceLT,reduceIte,Nat.reduceEqDiff,Nat.reduceAdd,Nat.reduceLeDiff,Nat.reduceMul,Nat.reduceBEq,eZ,exN,UA,L5,List.map_cons,List.map_nil]|refine rd0 rfl ?_))
  simp [NA,kO,aK,sV,aM,AV.cells,AV.cell,BT,NV,S6,S3,VT,LK,bA,ints]
 ·have i0:(0:Int)≤0∧(0:Int)<((4:Nat):Int):=by decide
  have i2:(0:Int)≤2∧(2:Int)<((4:Nat):Int):=by decide
  (repeat (first|simp only [↓QA,QB,Nat.reduceLT,reduceIte,Nat.reduceEqDiff,Nat.reduceAdd,Nat.reduceLeDiff,Nat.reduceMul,Nat.reduceBEq,eZ,exN,UA,L5,List.map_cons,List.map_nil,i0,i2,List.flatMap_cons,List.flatMap_nil,AV.cells,Int.toNat_zero,show (2:Int).toNat=2 from rfl]|refine rd0 rfl ?_))
  simp [NA,kO,aK,sV,aM,AV.cells,AV.cell,BT,NV,S6,S3,VT,LK,bA,ints]
theorem eY (o:Bool) (l:List Seen) (h:l.length≤100:=by decide):Fits (exN o l):=⟨by simp [exN],by simp [exN],by simp [exN];omega,fun k hk=>by
 simp only [exN,List.mem_cons,List.not_mem_nil,or_false] at hk
 rcases hk with rfl|rfl<;>decide,fun k hk=>by
 simp only [exN,List.mem_cons,List.not_mem_nil,or_false] at hk
 rcases hk with rfl|rfl<;>decide⟩
theorem eW (v:Net) (hf:Fits v):dR T 41 [bI v] (.bool (decide ((cA v).2.2=0))):=by
 refine bE (af:=a41) rfl (by simp [a41]) dd ?_
 (repeat (first|simp only [↓QA,QB,Nat.reduceLT,reduceIte,Nat.reduceEqDiff,Nat.reduceAdd,Nat.reduceLeDiff,Nat.reduceMul,Nat.reduceBEq,eZ,a41]|refine rd0 rfl ?_))
 ((first|refine aC (zK v hf) rfl dd ?_|refine aD (zK v hf) rfl dd ?_);(repeat (first|simp only [↓QA,QB,Nat.reduceLT,reduceIte,Nat.reduceEqDiff,Nat.reduceAdd,Nat.reduceLeDiff,Nat.reduceMul,Nat.reduceBEq,eZ,qN]|refine rd0 rfl ?_)))
 try rfl
 try (simp;rfl)
theorem WQ (a b:List (List Int)) (ha:a.length<9223372036854775808) (hb:b.length<9223372036854775808) (hl:∀ r∈a,r.length<9223372036854775808) (hm:∀ r∈b,r.length<9223372036854775808):dR T 21 [bU a,bU b] (.bool (decide (a=b))):=by
 refine bE (af:=a21) rfl (by simp [a21]) dd ?_
 have hlb:=OR a.length b.length
 (repeat (first|simp only [↓QA,QB,Nat.reduceLT,reduceIte,Nat.reduceEqDiff,Nat.reduceAdd,Nat.reduceLeDiff,Nat.reduceMul,Nat.reduceBEq,eZ,a21,cR]|refine rd0 rfl ?_))
 refine bY (S:=Nat×Bool) (0,decide (a.length=b.length)) (fun x=>x.1≤a.length∧(x.2=true→a.length=b.length∧a.take x.1=b.take x.1)∧(x.2=false→a≠b)) (fun x=>a.length+1-x.1-(if x.2=true then 0 else 1))
  (fun x=>[(0,bU a),(1,bU b),(5,.bool x.2),(6,.int .i64 x.1)]) (fun _=>[]) ⟨by simp,by simp,fun h e=>by rw [e] at h;simp at h⟩ rfl ?_ fun x hx=>?_
 ·try simp only [aE,QE,Nat.reduceLT,reduceIte,Nat.reduceEqDiff,Nat.reduceAdd,Nat.reduceLeDiff,Nat.reduceMul,Nat.reduceBEq,eZ,cR,hlb]
  try simp
 ·obtain ⟨k,o⟩:=x
  obtain ⟨hk,h1,h2⟩:=hx
  simp only at hk h1 h2
  (repeat (first|simp only [↓QA,QB,Nat.reduceLT,reduceIte,Nat.reduceEqDiff,Nat.reduceAdd,Nat.reduceLeDiff,Nat.reduceMul,Nat.reduceBEq,eZ,aBO,cR]|refine rd0 rfl ?_))
  cases o
  ·have hne:=h2 rfl
   have:decide (a=b)=false:=by simpa using hne
   rw [this]
   (repeat (first|simp only [↓QA,QB,Nat.reduceLT,reduceIte,Nat.reduceEqDiff,Nat.reduceAdd,Nat.reduceLeDiff,Nat.reduceMul,Nat.reduceBEq,eZ]|refine rd0 rfl ?_))
  ·obtain ⟨hle,htk⟩:=h1 rfl
   (repeat (first|simp only [↓QA,QB,Nat.reduceLT,reduceIte,Nat.reduceEqDiff,Nat.reduceAdd,Nat.reduceLeDiff,Nat.reduceMul,Nat.reduceBEq,eZ,cR]|refine rd0 rfl ?_))
   refine aG (fun h=>?_) fun h=>?_
   ·have hk1:k<a.length:=by simpa using h
    have hk2:k<b.length:=by omega
    have hw:=bX hk1 ha
    have hio:=oA a[k] b[k] (hl _ (List.getElem_mem hk1)) (hm _ (List.getElem_mem hk2))
    (repeat (first|simp only [↓QA,QB,Nat.reduceLT,reduceIte,Nat.reduceEqDiff,Nat.reduceAdd,Nat.reduceLeDiff,Nat.reduceMul,Nat.reduceBEq,eZ,hk1,hk2,cR]|refine rd0 rfl ?_))
    ((first|refine aC (hio) rfl dd ?_|refine aD (hio) rfl dd ?_);(repeat (first|simp only [↓QA,QB,Nat.reduceLT,reduceIte,Nat.reduceEqDiff,Nat.reduceAdd,Nat.reduceLeDiff,Nat.reduceMul,Nat.reduceBEq,eZ,hk1,hk2]|refine rd0 rfl ?_)))
    refine ⟨(k+1,decide (a[k]=b[k])),⟨by simp only;omega,fun q=>⟨hle,?_⟩,fun q e=>?_⟩,?_,?_⟩
    ·rw [List.take_succ_eq_append_getElem hk1,List.take_succ_eq_append_getElem hk2,htk]
     simp only [decide_eq_true_eq] at q
     rw [q]
    ·subst e
     simp at q
    ·simp only;split<;>omega
    ·try simp only [aE,QE,Nat.reduceLT,reduceIte,Nat.reduceEqDiff,Nat.reduceAdd,Nat.reduceLeDiff,Nat.reduceMul,Nat.reduceBEq,eZ,hw,cR]
   ·have hk1:k=a.length:=by simp at h;omega
    have:a=b:=by
     rw [hk1,List.take_length] at htk
     rw [htk,hle,List.take_length]
    rw [decide_eq_true this]
    (repeat (first|simp only [↓QA,QB,Nat.reduceLT,reduceIte,Nat.reduceEqDiff,Nat.reduceAdd,Nat.reduceLeDiff,Nat.reduceMul,Nat.reduceBEq,eZ]|refine rd0 rfl ?_))
end Go.Am.Room
set_option maxRecDepth 8000
namespace Go.Am.Room
def eF:=And.intro @bH (And.intro @aI (And.intro @aW (And.intro @aT (And.intro @aS (And.intro @aR (And.intro @bF (And.intro @bC (And.intro @bA (And.intro @dH (And.intro @List.length_append.{0} (@cR)))))))))))
theorem FK (a:List (List Int)) (h:a.length≤1000∧∀ r∈a,r.length≤4):dR T 21 [bU a,bU a] (.bool true):=by
 have:=WQ a a (by omega) (by omega) (fun r hr=>by have:=h.2 r hr;omega) (fun r hr=>by have:=h.2 r hr;omega)
 simpa using this
set_option maxHeartbeats 1000000 in
theorem fH:dR T 22 [] (.bool true):=by
 refine bE (af:=a22) rfl (by simp [a22]) bP ?_
 (repeat (first|simp only [↓QA,QB,Nat.reduceLT,reduceIte,Nat.reduceEqDiff,Nat.reduceAdd,Nat.reduceLeDiff,Nat.reduceMul,Nat.reduceBEq,eF,a22]|refine rd0 rfl ?_))
 refine eO (xH false []) (by simp [clr,clrs]) (by simp [okV,okVs]) ?_
 (repeat (first|simp only [↓QA,QB,Nat.reduceLT,reduceIte,Nat.reduceEqDiff,Nat.reduceAdd,Nat.reduceLeDiff,Nat.reduceMul,Nat.reduceBEq,eF]|refine rd0 rfl ?_))
 refine eO (xH true []) (by simp [clr,clrs]) (by simp [okV,okVs]) ?_
 (repeat (first|simp only [↓QA,QB,Nat.reduceLT,reduceIte,Nat.reduceEqDiff,Nat.reduceAdd,Nat.reduceLeDiff,Nat.reduceMul,Nat.reduceBEq,eF]|refine rd0 rfl ?_))
 ((first|refine aC (EL 0 (-1)) rfl dd ?_|refine aD (EL 0 (-1)) rfl dd ?_);(repeat (first|simp only [↓QA,QB,Nat.reduceLT,reduceIte,Nat.reduceEqDiff,Nat.reduceAdd,Nat.reduceLeDiff,Nat.reduceMul,Nat.reduceBEq,eF]|refine rd0 rfl ?_)))
 ((first|refine aC (EL 1 15) rfl dd ?_|refine aD (EL 1 15) rfl dd ?_);(repeat (first|simp only [↓QA,QB,Nat.reduceLT,reduceIte,Nat.reduceEqDiff,Nat.reduceAdd,Nat.reduceLeDiff,Nat.reduceMul,Nat.reduceBEq,eF]|refine rd0 rfl ?_)))
 refine eO (xH true [⟨0,-1⟩,⟨1,15⟩]) (by simp [clr,clrs,bN]) (by simp [okV,okVs]) ?_
 (repeat (first|simp only [↓QA,QB,Nat.reduceLT,reduceIte,Nat.reduceEqDiff,Nat.reduceAdd,Nat.reduceLeDiff,Nat.reduceMul,Nat.reduceBEq,eF]|refine rd0 rfl ?_))
 ((first|refine aC (EL 0 (-1)) rfl dd ?_|refine aD (EL 0 (-1)) rfl dd ?_);(repeat (first|simp only [↓QA,QB,Nat.reduceLT,reduceIte,Nat.reduceEqDiff,Nat.reduceAdd,Nat.reduceLeDiff,Nat.reduceMul,Nat.reduceBEq,eF]|refine rd0 rfl ?_)))
 refine eO (xH true [⟨0,-1⟩]) (by simp [clr,clrs,bN]) (by simp [okV,okVs]) ?_
 (repeat (first|simp only [↓QA,QB,Nat.reduceLT,reduceIte,Nat.reduceEqDiff,Nat.reduceAdd,Nat.reduceLeDiff,Nat.reduceMul,Nat.reduceBEq,eF]|refine rd0 rfl ?_))
 ((first|refine aC (EN exH (eY _ _) 3) rfl dd ?_|refine aD (EN exH (eY _ _) 3) rfl dd ?_);(repeat (first|simp only [↓QA,QB,Nat.reduceLT,reduceIte,Nat.reduceEqDiff,Nat.reduceAdd,Nat.reduceLeDiff,Nat.reduceMul,Nat.reduceBEq,eF,x1,BN]|refine rd0 rfl ?_)))
 ((first|refine aC (dJ exH (eY _ _) 1) rfl dd ?_|refine aD (dJ exH (eY _ _) 1) rfl dd ?_);(repeat (first|simp only [↓QA,QB,Nat.reduceLT,reduceIte,Nat.reduceEqDiff,Nat.reduceAdd,Nat.reduceLeDiff,Nat.reduceMul,Nat.reduceBEq,eF,x2,kA]|refine rd0 rfl ?_)))
 ((first|refine aC (dJ exK (eY _ _) 1) rfl dd ?_|refine aD (dJ exK (eY _ _) 1) rfl dd ?_);(repeat (first|simp only [↓QA,QB,Nat.reduceLT,reduceIte,Nat.reduceEqDiff,Nat.reduceAdd,Nat.reduceLeDiff,Nat.reduceMul,Nat.reduceBEq,eF,x3,kA]|refine rd0 rfl ?_)))
 ((first|refine aC (dJ exT (eY _ _) 0) rfl dd ?_|refine aD (dJ exT (eY _ _) 0) rfl dd ?_);(repeat (first|simp only [↓QA,QB,Nat.reduceLT,reduceIte,Nat.reduceEqDiff,Nat.reduceAdd,Nat.reduceLeDiff,Nat.reduceMul,Nat.reduceBEq,eF,x4,kA]|refine rd0 rfl ?_)))
 ((first|refine aC (gN exK (eY _ _)) rfl dd ?_|refine aD (gN exK (eY _ _)) rfl dd ?_);(repeat (first|simp only [↓QA,QB,Nat.reduceLT,reduceIte,Nat.reduceEqDiff,Nat.reduceAdd,Nat.reduceLeDiff,Nat.reduceMul,Nat.reduceBEq,eF,x5,jT]|refine rd0 rfl ?_)))
 ((first|refine aC (jQ exK (eY _ _)) rfl dd ?_|refine aD (jQ exK (eY _ _)) rfl dd ?_);(repeat (first|simp only [↓QA,QB,Nat.reduceLT,reduceIte,Nat.reduceEqDiff,Nat.reduceAdd,Nat.reduceLeDiff,Nat.reduceMul,Nat.reduceBEq,eF,x6,xJ]|refine rd0 rfl ?_)))
 ((first|refine aC (jQ exH (eY _ _)) rfl dd ?_|refine aD (jQ exH (eY _ _)) rfl dd ?_);(repeat (first|simp only [↓QA,QB,Nat.reduceLT,reduceIte,Nat.reduceEqDiff,Nat.reduceAdd,Nat.reduceLeDiff,Nat.reduceMul,Nat.reduceBEq,eF,x7,xJ]|refine rd0 rfl ?_)))
 ((first|refine aC (KI exK (eY _ _)) rfl dd ?_|refine aD (KI exK (eY _ _)) rfl dd ?_);(repeat (first|simp only [↓QA,QB,Nat.reduceLT,reduceIte,Nat.reduceEqDiff,Nat.reduceAdd,Nat.reduceLeDiff,Nat.reduceMul,Nat.reduceBEq,eF,x8,wQ]|refine rd0 rfl ?_)))
 ((first|refine aC (nB exH (eY _ _)) rfl dd ?_|refine aD (nB exH (eY _ _)) rfl dd ?_);(repeat (first|simp only [↓QA,QB,Nat.reduceLT,reduceIte,Nat.reduceEqDiff,Nat.reduceAdd,Nat.reduceLeDiff,Nat.reduceMul,Nat.reduceBEq,eF,x9,jT]|refine rd0 rfl ?_)))
 ((first|refine aC (ES exH (eY _ _)) rfl dd ?_|refine aD (ES exH (eY _ _)) rfl dd ?_);(repeat (first|simp only [↓QA,QB,Nat.reduceLT,reduceIte,Nat.reduceEqDiff,Nat.reduceAdd,Nat.reduceLeDiff,Nat.reduceMul,Nat.reduceBEq,eF,x10,BP]|refine rd0 rfl ?_)))
 ((first|refine aC (jJ exS (eY _ _)) rfl dd ?_|refine aD (jJ exS (eY _ _)) rfl dd ?_);(repeat (first|simp only [↓QA,QB,Nat.reduceLT,reduceIte,Nat.reduceEqDiff,Nat.reduceAdd,Nat.reduceLeDiff,Nat.reduceMul,Nat.reduceBEq,eF,x11,zS]|refine rd0 rfl ?_)))
 ((first|refine aC (jQ exS (eY _ _)) rfl dd ?_|refine aD (jQ exS (eY _ _)) rfl dd ?_);(repeat (first|simp only [↓QA,QB,Nat.reduceLT,reduceIte,Nat.reduceEqDiff,Nat.reduceAdd,Nat.reduceLeDiff,Nat.reduceMul,Nat.reduceBEq,eF,x12,xJ]|refine rd0 rfl ?_)))
 refine fT (FK [[3,2],[3,1,0]] (by simp)) (by simp [clr,clrs,ints,bU]) (by simp [okV,okVs,ints,bU]) ?_
 (repeat (first|simp only [↓QA,QB,Nat.reduceLT,reduceIte,Nat.reduceEqDiff,Nat.reduceAdd,Nat.reduceLeDiff,Nat.reduceMul,Nat.reduceBEq,eF]|refine rd0 rfl ?_))
 ((first|refine aC (jU 14 16) rfl dd ?_|refine aD (jU 14 16) rfl dd ?_);(repeat (first|simp only [↓QA,QB,Nat.reduceLT,reduceIte,Nat.reduceEqDiff,Nat.reduceAdd,Nat.reduceLeDiff,Nat.reduceMul,Nat.reduceBEq,eF,List.map_nil,List.length_nil,show (((0:Nat):Int)==0)=true from rfl]|refine rd0 rfl ?_)))
 ((first|refine eO (oA [0,1] [0,1] (by simp) (by simp)) (by simp [clr,clrs,ints]) (by simp [okV,okVs]) ?_|refine fT (oA [0,1] [0,1] (by simp) (by simp)) (by simp [clr,clrs,ints]) (by simp [okV,okVs]) ?_);(repeat (first|simp only [↓QA,QB,Nat.reduceLT,reduceIte,Nat.reduceEqDiff,Nat.reduceAdd,Nat.reduceLeDiff,Nat.reduceMul,Nat.reduceBEq,eF,eq_self,List.map_nil,List.length_nil,show (((0:Nat):Int)==0)=true from rfl]|refine rd0 rfl ?_)))
 refine fT (FK [[2],[3,2]] (by simp)) (by simp [clr,clrs,ints,bU]) (by simp [okV,okVs,ints,bU]) ?_
 (repeat (first|simp only [↓QA,QB,Nat.reduceLT,reduceIte,Nat.reduceEqDiff,Nat.reduceAdd,Nat.reduceLeDiff,Nat.reduceMul,Nat.reduceBEq,eF]|refine rd0 rfl ?_))
 ((first|refine eO (oA [0,1] [0,1] (by simp) (by simp)) (by simp [clr,clrs,ints]) (by simp [okV,okVs]) ?_|refine fT (oA [0,1] [0,1] (by simp) (by simp)) (by simp [clr,clrs,ints]) (by simp [okV,okVs]) ?_);(repeat (first|simp only [↓QA,QB,Nat.reduceLT,reduceIte,Nat.reduceEqDiff,Nat.reduceAdd,Nat.reduceLeDiff,Nat.reduceMul,Nat.reduceBEq,eF,eq_self,List.map_nil,List.length_nil,show (((0:Nat):Int)==0)=true from rfl]|refine rd0 rfl ?_)))
 ((first|refine eO (oA [2] [2] (by simp) (by simp)) (by simp [clr,clrs,ints]) (by simp [okV,okVs]) ?_|refine fT (oA [2] [2] (by simp) (by simp)) (by simp [clr,clrs,ints]) (by simp [okV,okVs]) ?_);(repeat (first|simp only [↓QA,QB,Nat.reduceLT,reduceIte,Nat.reduceEqDiff,Nat.reduceAdd,Nat.reduceLeDiff,Nat.reduceMul,Nat.reduceBEq,eF,eq_self]|refine rd0 rfl ?_)))
 ((first|refine eO (oA [1] [1] (by simp) (by simp)) (by simp [clr,clrs,ints]) (by simp [okV,okVs]) ?_|refine fT (oA [1] [1] (by simp) (by simp)) (by simp [clr,clrs,ints]) (by simp [okV,okVs]) ?_);(repeat (first|simp only [↓QA,QB,Nat.reduceLT,reduceIte,Nat.reduceEqDiff,Nat.reduceAdd,Nat.reduceLeDiff,Nat.reduceMul,Nat.reduceBEq,eF,eq_self]|refine rd0 rfl ?_)))
end Go.Am.Room
