/- A part of the proof of TopRipened: an abstract machine, or what functions come to on it. -/
import Derived.Test.YtckllniniolhcaaGreatTopRipenedQ3
open Nat (reduceLT reduceEqDiff reduceAdd reduceLeDiff reduceMul)
set_option linter.unusedVariables false
set_option linter.unusedSimpArgs false
set_option linter.defProp false
namespace Go.Am.Room
structure MemAt {M:Type} (S:M->St) (obj:List AV) (es:M->List (AV×AV)) (p m N:Nat):Prop where
 len:∀ M,(S M).length=N
 at0:∀ M,aH (S M) p=some obj
 map0:∀ M,(S M)[m]? = some (.map (es M))
 mset:∀ M M',(S M).set m (.map (es M'))=S M'
 ok:∀ M k,aF k (.map (es M))
 pl:p<N
 ml:m<N
namespace MemAt
variable {M:Type} {S:M->St} {obj:List AV} {es:M->List (AV×AV)} {p m N:Nat}
theorem base(h:MemAt S obj es p m N)(A:M)(τ:St)(k:Nat):aH (S A++τ) (N+k)=aH τ k:=by rw[<-h.len A];exact nG _ _ _
theorem base0(h:MemAt S obj es p m N)(A:M)(τ:St):aH (S A++τ) N=aH τ 0:=h.base A τ 0
theorem bset(h:MemAt S obj es p m N)(A:M)(τ:St)(k:Nat)(x:ABlk):(S A++τ).set (N+k) x=S A++τ.set k x:=by rw[<-h.len A];exact m5 _ _ _ _
theorem bset0(h:MemAt S obj es p m N)(A:M)(τ:St)(x:ABlk):(S A++τ).set N x=S A++τ.set 0 x:=h.bset A τ 0 x
theorem at1(h:MemAt S obj es p m N)(A:M)(τ:St):aH (S A++τ) p=some (obj):=by
 have:=h.at0 A;have hl:=h.pl;rw[<-h.len A] at hl;simp only[aH] at this ⊢;rw[List.getElem?_append_left hl];exact this
theorem map1(h:MemAt S obj es p m N)(A:M)(τ:St):(S A++τ)[m]? = some (.map (es A)):=by
 have hl:=h.ml;rw[<-h.len A] at hl;rw[List.getElem?_append_left hl];exact h.map0 A
theorem mset1(h:MemAt S obj es p m N)(A B:M)(τ:St):(S A++τ).set m (.map (es B))=S B++τ:=by
 have hl:=h.ml;rw[<-h.len A] at hl;rw[List.set_append_left _ _ hl,h.mset]
theorem keep(h:MemAt S obj es p m N)(A B:M)(i:Nat)(hi:i≠m):(S B)[i]? = (S A)[i]?:=by
 rw[<-h.mset A B,List.getElem?_set_ne (fun e=>hi e.symm)]
theorem kept(h:MemAt S obj es p m N){A B:M}{σ τ:St}(hσ:σ=S B++τ):∀ i,i<(S A).length->fZ (S A) σ (S A).length i:=by
 intro i hi;rw[hσ];have hl:i<(S B).length:=by rw[h.len] at hi ⊢;exact hi
 by_cases him:i=m
 ·subst him;refine .inr (.inl ⟨.map (es B),?_,h.ok B _⟩);rw[List.getElem?_append_left hl,h.map0]
 ·refine .inl ?_;rw[List.getElem?_append_left hl,h.keep A B i him]
theorem app(h:MemAt S obj es p m N)(τ:St):MemAt (fun A=>S A++τ) obj es p m (N+τ.length) :=
 ⟨fun A=>by rw[List.length_append,h.len],fun A=>h.at1 A τ,fun A=>h.map1 A τ,fun A B=>h.mset1 A B τ,h.ok,by have:=h.pl;omega,by have:=h.ml;omega⟩
theorem eqS(h:MemAt S obj es p m N)(k:Nat)(A B:M)(x y z:St):EqS k (S A++x) (S B++y) (S B++z)=EqS k x y z:=by
 rw[<-h.mset A B];exact UK k _ (h.ok B k) _ _ _ _ _
end MemAt
theorem CR{M:Type}{S:M->St}{obj:List AV}{es:M->List (AV×AV)}{p m N:Nat}(hR:MemAt S obj es p m N){f:FuncId}{first cap args:List AV}{af:AFunc}{v:AV}{A B:M}(hf:T f=some af)(hn:(first++args++cap).length<=af.ntmps)(h:wp T af.body (iG 0 (first++args++cap)) (S A) (fun j e σ1=>(j=none\/j=some .ret)/\∃ v0 τ,jK af.results e σ1=some v0/\σ1=S B++τ/\cQ σ1 N 20 v0=some v)):yK T (.func f first cap) args (S A) v (S B):=by
 refine .callf (.call hf hn (gS h fun o ho=>ho) fun o ho=>?_);obtain⟨hj,v0,τ,hres,hσ,h4⟩:=ho;refine⟨hj,v0,hres,?_⟩;unfold cQ at h4;cases hs:snap o.σ N 20 v0 with
 |none=>rw[hs] at h4;cases h4
 |some v1 =>
  rw[hs] at h4;simp at h4;refine .inr ⟨20,v1,v,by rw[hR.len];exact hs,.inr h4.symm,hR.kept hσ,?_,rfl,?_⟩
  ·rw[hσ,List.length_append,hR.len,hR.len];omega
  ·rw[hσ,hR.len,<-hR.len B,List.take_left]
def bE{A X:Type}(f:A->X->X×Bool):List A->X->X×Bool
 |[],x=>(x,true)
 |a::az,x=>if (f a x).2=true then bE f az (f a x).1 else ((f a x).1,false)
theorem xH{A X:Type}(f:A->X->X×Bool):∀ (az bs:List A) (x:X),bE f (az++bs) x=if (bE f az x).2=true then bE f bs (bE f az x).1 else ((bE f az x).1,false)
 |[],bs,x=>by simp[bE]
 |a::az,bs,x=>by
  simp only[List.cons_append,bE];split
  ·exact xH f az bs _
  ·simp
structure Fam {X:Type} (Z ZD:X->St) (obj:List AV) (p q N:Nat):Prop where
 len:∀ x,(Z x).length=N
 lenD:∀ x,(ZD x).length=N
 at0:∀ x,aH (Z x) p=some obj
 atq0:∀ x,aH (Z x) q=some [.ptr p 0]
 keep:∀ x y k i,N<=k->i<N->fZ (Z x) (Z y) k i
 keepD:∀ x y k i,N<=k->i<N->fZ (Z x) (ZD y) k i
 pl:p<N
 ql:q<N
namespace Fam
variable {X:Type} {Z ZD:X->St} {obj:List AV} {p q N:Nat}
theorem base(h:Fam Z ZD obj p q N)(x:X)(τ:St)(k:Nat):aH (Z x++τ) (N+k)=aH τ k:=by rw[<-h.len x];exact nG _ _ _
theorem base0(h:Fam Z ZD obj p q N)(x:X)(τ:St):aH (Z x++τ) N=aH τ 0:=h.base x τ 0
theorem bset(h:Fam Z ZD obj p q N)(x:X)(τ:St)(k:Nat)(y:ABlk):(Z x++τ).set (N+k) y=Z x++τ.set k y:=by rw[<-h.len x];exact m5 _ _ _ _
theorem bset0(h:Fam Z ZD obj p q N)(x:X)(τ:St)(y:ABlk):(Z x++τ).set N y=Z x++τ.set 0 y:=h.bset x τ 0 y
theorem at1(h:Fam Z ZD obj p q N)(x:X)(τ:St):aH (Z x++τ) p=some obj:=by
 have:=h.at0 x;have hl:=h.pl;rw[<-h.len x] at hl;simp only[aH] at this ⊢;rw[List.getElem?_append_left hl];exact this
theorem atq1(h:Fam Z ZD obj p q N)(x:X)(τ:St):aH (Z x++τ) q=some [.ptr p 0]:=by
 have:=h.atq0 x;have hl:=h.ql;rw[<-h.len x] at hl;simp only[aH] at this ⊢;rw[List.getElem?_append_left hl];exact this
def out(Z ZD:X->St)(r:X×Bool):St:=if r.2=true then Z r.1 else ZD r.1
end Fam
theorem IU{A X:Type}(f:A->X->X×Bool)(a:A)(x:X):bE f [a] x=f a x:=by
 simp only[bE];obtain⟨y,bb⟩:=f a x;cases bb<;>simp
structure Fam1 {X:Type} {M:Type} (Z ZD:X->M->St) (obj:List AV) (es:M->List (AV×AV)) (p m q N:Nat):Prop where
 ship:∀ x,MemAt (Z x) obj es p m N
 lenD:∀ x A,(ZD x A).length=N
 atq0:∀ x A,aH (Z x A) q=some [.ptr p 0]
 keep:∀ x A y B k i,N<=k->i<N->fZ (Z x A) (Z y B) k i
 keepD:∀ x A y B k i,N<=k->i<N->fZ (Z x A) (ZD y B) k i
 ql:q<N
 pl:p<N
namespace Fam1
variable {X:Type} {M:Type} {Z ZD:X->M->St} {obj:List AV} {es:M->List (AV×AV)} {p m q N:Nat}
theorem atq1(h:Fam1 Z ZD obj es p m q N)(x:X)(A:M)(τ:St):aH (Z x A++τ) q=some [.ptr p 0]:=by
 have:=h.atq0 x A;have hl:=h.ql;rw[<-(h.ship x).len A] at hl;simp only[aH] at this ⊢;rw[List.getElem?_append_left hl];exact this
def out(Z ZD:X->M->St)(r:X×Bool)(A:M):St:=if r.2=true then Z r.1 A else ZD r.1 A
end Fam1
def AN{X A M:Type}(Z ZD:X->M->St)(id:Nat)(args:A->Bool->Option Nat->List AV)(P:A->Prop)(f:A->X->X×Bool):Prop :=
 ∀ t,P t->∀ (fl:Bool) (tk:Option Nat) x B τ,Run T (.callv (.yield id) (args t fl tk) (Z x B++τ)) fun o=>o.v = .bool (f t x).2/\∃ τ',o.σ=Fam1.out Z ZD (f t x) B++(τ++τ')
theorem aHI{X:Type}{M:Type}{S:M->St}{obj:List AV}{es:M->List (AV×AV)}{p m N:Nat}(hS:MemAt S obj es p m N)(U UD:X->St)(n:Nat)(hU:∀ x,(U x).length=n)(hUD:∀ x,(UD x).length=n)(ok:∀ x y,y∈U x->∀ k,N<=k->aF k y)(okD:∀ x y,y∈UD x->∀ k,N<=k->aF k y)(env:Env)(ps:List Nat)(a bb:ACode)(st st':LS)(pe pe':Option AJump):
  Fam1 (fun x A=>S A++(U x++[.cells [.ptr p 0],.loop st pe env ps a bb])) (fun x A=>S A++(UD x++[.cells [.ptr p 0],.loop st' pe' env ps a bb])) obj es p m (N+n) (N+n+2):=by
 have hpl:=hS.pl;have low:∀ (A B:M) (C D:St) (k i:Nat),i<N->fZ (S A++C) (S B++D) k i:=by
  intro A B C D k i hi;have e1:(S A++C)[i]? = (S A)[i]?:=List.getElem?_append_left (by rw[hS.len];exact hi);have e2:(S B++D)[i]? = (S B)[i]?:=List.getElem?_append_left (by rw[hS.len];exact hi);simp only[fZ,e1,e2];by_cases him:i=m
  ·subst him;exact .inr (.inl ⟨_,hS.map0 B,hS.ok B k⟩)
  ·exact .inl (hS.keep A B i him)
 have high:∀ (A B:M) (C D:St) (l1 l2:ABlk) (k i:Nat),C.length=n->D.length=n->(∀ y∈D,aF k y)->N<=i->i<N+n+2->(l1=l2\/∃ st pe st' pe' env ps a b,l1 = .loop st pe env ps a b/\l2 = .loop st' pe' env ps a b) ->
   fZ (S A++(C++[.cells [.ptr p 0],l1])) (S B++(D++[.cells [.ptr p 0],l2])) k i:=by
  intro A B C D l1 l2 k i hA hB hk h1 h2 hl;have e1:(S A++(C++[.cells [.ptr p 0],l1]))[i]? = (C++[.cells [.ptr p 0],l1])[i-N]?:=by rw[List.getElem?_append_right (by rw[hS.len];exact h1),hS.len]
  have e2:(S B++(D++[.cells [.ptr p 0],l2]))[i]? = (D++[.cells [.ptr p 0],l2])[i-N]?:=by rw[List.getElem?_append_right (by rw[hS.len];exact h1),hS.len]
  simp only[fZ,e1,e2];obtain⟨j,hj⟩:∃ j,i-N=j:=⟨_,rfl⟩;rw[hj];by_cases hjn:j<n
  ·right;left;have hb:j<D.length:=by omega
   refine⟨D[j],?_,hk _ (List.getElem_mem hb)⟩;rw[List.getElem?_append_left hb,List.getElem?_eq_getElem hb]
  ·have:j=n\/j=n+1:=by omega
   rcases this with rfl|rfl
   ·left;rw[List.getElem?_append_right (by omega),List.getElem?_append_right (by omega),hA,hB];simp
   ·rw[List.getElem?_append_right (by omega),List.getElem?_append_right (by omega),hA,hB];simp only[Nat.add_sub_cancel_left,List.getElem?_cons_succ,List.getElem?_cons_zero];rcases hl with rfl|⟨_,_,_,_,_,_,_,_,rfl,rfl⟩
    ·exact .inl rfl
    ·exact .inr (.inr ⟨_,_,_,_,_,_,_,_,rfl,rfl⟩)
 refine⟨fun x=>?_,fun x A=>?_,fun x A=>?_,fun x A y B k i hk hi=>?_,fun x A y B k i hk hi=>?_,by omega,by omega⟩
 ·have:=hS.app (U x++[.cells [.ptr p 0],.loop st pe env ps a bb]);rw[List.length_append,hU] at this;exact this
 ·simp[hS.len,hUD];omega
 ·have e:N+n=(S A).length+n:=by rw[hS.len]
  rw[e,nG];have:n=(U x).length:=by rw[hU]
  rw[this];exact k7 _ _
 ·by_cases h:i<N
  ·exact low _ _ _ _ _ _ h
  ·exact high _ _ _ _ _ _ _ _ (hU x) (hU y) (fun z hz=>ok y z hz k (by omega)) (by omega) hi (.inl rfl)
 ·by_cases h:i<N
  ·exact low _ _ _ _ _ _ h
  ·exact high _ _ _ _ _ _ _ _ (hU x) (hUD y) (fun z hz=>okD y z hz k (by omega)) (by omega) hi (.inr ⟨_,_,_,_,_,_,_,_,rfl,rfl⟩)
theorem aB0{X A M:Type}{S:M->St}{obj:List AV}{es:M->List (AV×AV)}{p m N:Nat}(hS:MemAt S obj es p m N)(U UD:X->St)(n:Nat)(hU:∀ x,(U x).length=n)(hUD:∀ x,(UD x).length=n)(J:AJump)(e:Env)(k:Nat)(ps:List Nat)(a bb:ACode)(g:FuncId)(ek:Env.get e k = .func g [] [.ptr (N+n) 0])(r:X×Bool)(B':M)(x:X)(B:M)(hrun:Run T (.call g [.yield (N+n+1),.ptr (N+n) 0] (S B++(U x++[.cells [.ptr p 0],.loop .ready none e ps a bb]))) fun o=>∃ τ',o.σ=Fam1.out (fun x A=>S A++(U x++[.cells [.ptr p 0],.loop .ready none e ps a bb])) (fun x A=>S A++(UD x++[.cells [.ptr p 0],.loop .done (some J) e ps a bb])) r B'++τ')(K:KJ)(hT:∀ τ,r.2=true->K none e (S B'++(U r.1++(.cells [.ptr p 0]::.dead::τ))))(hD:∀ τ,r.2=false->K (some J) e (S B'++(UD r.1++(.cells [.ptr p 0]::.dead::τ)))):
  rK (K:=⟨K⟩) T (.rangeFunc (.t k) ps a bb) e (S B++(U x++[.cells [.ptr p 0]])):=by
 have hlen:(S B++(U x++[ABlk.cells [.ptr p 0]])).length=N+n+1:=by simp[hS.len,hU];omega
 have hout:∀ (A W:St) (lp:ABlk) (τ':St),A.length=N->W.length=n->(A++(W++[ABlk.cells [.ptr p 0],lp])++τ')[N+n+1]? = some lp/\(A++(W++[ABlk.cells [.ptr p 0],lp])++τ').set (N+n+1) .dead=A++(W++(.cells [.ptr p 0]::.dead::τ')):=by
  intro A W lp τ' hA hW;have h1:N+n+1=(A++W).length+1:=by simp[hA,hW]
  have h2:A++(W++[ABlk.cells [.ptr p 0],lp])++τ'=(A++W)++(.cells [.ptr p 0]::lp::τ'):=by simp
  rw[h1,h2];constructor
  ·rw[mZ];rfl
  ·rw[m5];simp
 refine HS (by rw[PE,ek]) (by
  rw[hlen,List.append_assoc (S B),List.append_assoc (U x)]
  exact hrun) fun o ho=>?_
 obtain⟨τ',hσ⟩:=ho;rw[hlen,hσ];cases hr2:r.2
 ·have hD':=hD τ' hr2;obtain⟨g1,g2⟩:=hout (S B') (UD r.1) (.loop .done (some J) e ps a bb) τ' (hS.len _) (hUD _);simp only[Fam1.out,hr2,Bool.false_eq_true,if_false];rw[g1,g2];exact⟨_,_,_,_,_,_,rfl,by simp,hD'⟩
 ·have hT':=hT τ' hr2;obtain⟨g1,g2⟩:=hout (S B') (U r.1) (.loop .ready none e ps a bb) τ' (hS.len _) (hU _);simp only[Fam1.out,hr2,if_true];rw[g1,g2];exact⟨_,_,_,_,_,_,rfl,by simp,hT'⟩
theorem US{X A M:Type}{S:M->St}{obj:List AV}{es:M->List (AV×AV)}{p m N:Nat}(hS:MemAt S obj es p m N)(U UD:X->St)(n:Nat)(hU:∀ x,(U x).length=n)(hUD:∀ x,(UD x).length=n)(J:AJump)(e:Env)(ps:List Nat)(args:A->Bool->Option Nat->List AV)(hps:∀ t fl tk,ps.length=(args t fl tk).length)(a bb:ACode){P:A->Prop}{f:A->X->X×Bool}(h:∀ t,P t->∀ (fl:Bool) (tk:Option Nat) x B τ,wp T a (lD e ps (args t fl tk)) (S B++(U x++(.cells [.ptr p 0]::.loop .ready none e ps a bb::τ))) (fun j e' σ'=>j=none/\σ'=S B++(U x++(.cells [.ptr p 0]::.loop .ready none e ps a bb::τ)) /\
   wp T bb e' (S B++(U x++(.cells [.ptr p 0]::.loop .busy none e ps a bb::τ))) (fun j e'' σ''=>((f t x).2=true/\j=none/\∃ τ',σ''=S B++(U (f t x).1++(.cells [.ptr p 0]::.loop .busy none e ps a bb::(τ++τ')))) \/
    ((f t x).2=false/\j=some J/\∃ τ',σ''=S B++(UD (f t x).1++(.cells [.ptr p 0]::.loop .busy none e ps a bb::(τ++τ'))))))):
  AN (fun x B=>S B++(U x++[.cells [.ptr p 0],.loop .ready none e ps a bb])) (fun x B=>S B++(UD x++[.cells [.ptr p 0],.loop .done (some J) e ps a bb])) (N+n+1) args P f:=by
 intro t ht fl tk x B τ;have hget:∀ (A W:St) (lp:ABlk) (υ:St),A.length=N->W.length=n->(A++(W++(ABlk.cells [.ptr p 0]::lp::υ)))[N+n+1]? = some lp:=by
  intro A W lp υ hA hW;have h1:N+n+1=(A++W).length+1:=by simp[hA,hW]
  rw[h1,<-List.append_assoc,mZ];rfl
 have hset:∀ (A W:St) (lp l2:ABlk) (υ:St),A.length=N->W.length=n->(A++(W++(ABlk.cells [.ptr p 0]::lp::υ))).set (N+n+1) l2=A++(W++(ABlk.cells [.ptr p 0]::l2::υ)):=by
  intro A W lp l2 υ hA hW;have h1:N+n+1=(A++W).length+1:=by simp[hA,hW]
  rw[h1,<-List.append_assoc,m5];simp
 obtain⟨r,hr⟩:∃ r,f t x=r:=⟨_,rfl⟩;have h:=h t ht fl tk x B τ;rw[hr] at h ⊢;have hst:(fun x B=>S B++(U x++[ABlk.cells [.ptr p 0],.loop .ready none e ps a bb])) x B++τ=S B++(U x++(.cells [.ptr p 0]::.loop .ready none e ps a bb::τ)):=by simp
 rw[hst];refine .round (env:=e) (ps:=ps) (a:=a) (b:=bb)
  (R:=fun o=>o.j=none/\o.σ=S B++(U x++(.cells [.ptr p 0]::.loop .ready none e ps a bb::τ))/\wp T bb o.env (S B++(U x++(.cells [.ptr p 0]::.loop .busy none e ps a bb::τ))) (fun j e'' σ''=>(r.2=true/\j=none/\∃ τ',σ''=S B++(U r.1++(.cells [.ptr p 0]::.loop .busy none e ps a bb::(τ++τ')))) \/
    (r.2=false/\j=some J/\∃ τ',σ''=S B++(UD r.1++(.cells [.ptr p 0]::.loop .busy none e ps a bb::(τ++τ'))))))
  (S:=fun o=>(r.2=true/\o.j=none/\∃ τ',o.σ=S B++(U r.1++(.cells [.ptr p 0]::.loop .busy none e ps a bb::(τ++τ'))))\/(r.2=false/\o.j=some J/\∃ τ',o.σ=S B++(UD r.1++(.cells [.ptr p 0]::.loop .busy none e ps a bb::(τ++τ'))))) (hget _ _ _ _ (hS.len _) (hU _)) (by rw[hps t fl tk]) (gS h fun o ho=>ho) ?_ ?_ ?_
 ·rintro o ⟨hj,hσ,_⟩;exact⟨hj,by rw[hσ];exact hget _ _ _ _ (hS.len _) (hU _)⟩
 ·rintro o ⟨_,hσ,hw⟩;rw[hσ,hset _ _ _ _ _ (hS.len _) (hU _)];exact gS hw fun o ho=>ho
 ·rintro o (⟨hr2,hj,τ',hσ⟩|⟨hr2,hj,τ',hσ⟩)
  ·rw[hσ,hj,hget _ _ _ _ (hS.len _) (hU _),hset _ _ _ _ _ (hS.len _) (hU _)];refine⟨rfl,by rw[hr2];rfl,τ',?_⟩;simp[Fam1.out,hr2]
  ·rw[hσ,hj,hget _ _ _ _ (hS.len _) (hUD _),hset _ _ _ _ _ (hS.len _) (hUD _)];refine⟨rfl,by rw[hr2];rfl,τ',?_⟩;simp[Fam1.out,hr2]
theorem A4{A X:Type}{f:A->X->X×Bool}(h:∀ a x,(f a x).2=true):∀ (l:List A) (x:X),bE f l x=(l.foldl (fun x a=>(f a x).1) x,true)
 |[],x=>rfl
 |a::az,x=>by simp only[bE,h,if_true,List.foldl_cons];exact A4 h az _
end Go.Am.Room
namespace Go.Am.Room
def iB(f:Nat->Int)(i:Nat)(v:Int):Nat->Int:=fun j=>if j=i then v else f j
def aZ(n:Nat)(f:Nat->Int):List AV:=(List.range n).map fun i=>.int .i64 (f i)
theorem dL(n:Nat)(f:Nat->Int):(aZ n f).length=n:=by simp[aZ]
theorem gO(n:Nat)(f:Nat->Int){i:Nat}(h:i<n):(aZ n f)[i]? = some (.int .i64 (f i)):=by simp[aZ,h]
theorem SZ{n:Nat}{f g:Nat->Int}(h:∀ i,i<n->f i=g i):aZ n f=aZ n g:=by
 refine List.map_congr_left fun i hi=>?_
 rw[h i (by simpa using hi)]
theorem oJ(n:Nat)(f:Nat->Int)(v:Int){i:Nat}(h:i<n):(aZ n f).take i++[AV.int .i64 v]++(aZ n f).drop (i+1)=aZ n (iB f i v):=by
 have h1:(aZ n f).take i++[AV.int .i64 v]++(aZ n f).drop (i+1)=(aZ n f).set i (.int .i64 v):=by
  rw[List.set_eq_take_append_cons_drop,if_pos (by rw[dL];exact h)];simp
 rw[h1];refine List.ext_getElem? fun j=>?_
 by_cases hj:j<n
 ·rw[gO n _ hj,List.getElem?_set];by_cases e:i=j
  ·subst e;simp[dL,hj,iB]
  ·rw[if_neg e,gO n _ hj];simp[iB,show ¬j=i from fun q=>e q.symm]
 ·rw[List.getElem?_eq_none (by rw[List.length_set,dL];omega),List.getElem?_eq_none (by rw[dL];omega)]
theorem lR(n:Nat)(f:Nat->Int):rP (aZ n f):=bH (enc:=fun i:Nat=>AV.int .i64 (f i)) (fun i=>bJ _ _) (List.range n)
instance (n:Nat) (f:Nat->Int):Dats (aZ n f):=⟨lR n f⟩
theorem pS(n:Nat)(f:Nat->Int)(m:Nat):okVs m (aZ n f):=wQ (lR n f) m
theorem iR(n:Nat)(f:Nat->Int)(σ:St)(m d:Nat):cI σ m d (aZ n f)=some (aZ n f):=iZ (lR n f) σ m d
theorem d8(n:Nat)(f:Nat->Int):cH (aZ n f)=true:=aKJ _ _ fun i=>by simp[AV.cell]
theorem d7(n:Nat)(f:Nat->Int):(aZ n f).take n=aZ n f:=List.take_of_length_le (by rw[dL];exact Nat.le_refl n)
theorem d6(n:Nat)(f:Nat->Int):(aZ n f).drop n=[]:=List.drop_eq_nil_of_le (by rw[dL];exact Nat.le_refl n)
theorem NU(f g:Nat->Int):∀ l:List Nat,bQ (List.replicate l.length .i) (l.map fun i=>.int .i64 (f i)) (l.map fun i=>.int .i64 (g i))=some (l.all fun i=>f i==g i)
 |[]=>rfl
 |x::l=>by
  simp only[List.length_cons,List.replicate_succ,List.map_cons,aBI,aIU,NU f g l,aCO,List.all_cons]
theorem FA(n:Nat)(f g:Nat->Int):bQ (List.replicate n .i) (aZ n f) (aZ n g)=some ((List.range n).all fun i=>f i==g i):=by
 have:=NU f g (List.range n)
 rwa [List.length_range] at this
section
variable {K:Type} [DecidableEq K]
def qP(M:List K)(w:K):List K:=if w∈M then M else M++[w]
structure KeyIs (sh:EqTy) (enc val:K->AV):Prop where
 eq:∀ w x,lE sh (enc w) (enc x)=some (decide (w=x))
 dk:∀ w,j8 (enc w)
 dv:∀ w,j8 (val w)
variable {sh:EqTy} {enc val:K->AV}
def vD(enc val:K->AV)(M:List K):List (AV×AV):=M.map fun w=>(enc w,val w)
theorem UI(h:KeyIs sh enc val)(w:K):∀ M:List K,findKey sh (enc w) (vD enc val M)=some (if w∈M then some (val w) else none)
 |[]=>by simp[vD,findKey]
 |x::M=>by
  have ih:=UI h w M;simp only[vD,List.map_cons,findKey,h.eq] at ih ⊢;by_cases e:w=x
  ·subst e;simp
  ·simp only[e,decide_false,ih,List.mem_cons,false_or]
theorem W4(h:KeyIs sh enc val)(w:K):∀ M:List K,w∉M->nC sh (enc w) (val w) (vD enc val M)=some (vD enc val (M++[w]))
 |[],_=>by simp[vD,nC]
 |x::M,hn=>by
  have ih:=W4 h w M (fun q=>hn (List.mem_cons_of_mem _ q));have hx:w≠x:=fun e=>hn (by rw[e];simp)
  simp only[vD,List.map_cons,nC,h.eq,List.cons_append] at ih ⊢;simp only[hx,decide_false,ih,Option.map_some]
theorem aM9(h:KeyIs sh enc val)(M:List K)(k:Nat):aF k (.map (vD enc val M)):=by
 simp only[aF,vD];intro q hq;obtain⟨w,hw,rfl⟩:=List.mem_map.1 hq;exact⟨xN (h.dk w) k,xN (h.dv w) k⟩
variable {S:List K->St} {obj:List AV} {p m N:Nat}
theorem aGX(hk:KeyIs sh enc val)(h:MemAt S obj (vD enc val) p m N)(M:List K)(τ:St)(w:K):zG sh (S M++τ) (.map m) (enc w)=some (if w∈M then some (val w) else none):=by
 simp only[zG,h.map1,UI hk,hk.eq];simp
theorem aL7(hk:KeyIs sh enc val)(h:MemAt S obj (vD enc val) p m N)(M:List K)(τ:St)(w:K)(hw:w∉M):uP sh (S M++τ) (.map m) (enc w) (val w)=some (S (M++[w])++τ):=by
 simp only[uP,hk.eq,h.map1,W4 hk w M hw,Option.map_some,h.mset1];simp
end
end Go.Am.Room
set_option maxRecDepth 4000
namespace Go.Am.Room.Fa
def cO:=zz @dE (zz @aI (zz @dC (zz @dD (zz @aJ (zz @dQ (zz @dS (zz @dH (zz @bZ (@List.length_append.{0})))))))))
theorem n8(v:Farm)(h:Fits v):cV T 223 [encFarm v] (enc3 (check v)):=by
 refine aR (af:=aB6) rfl (by simp[aB6]) dd ?_;try simp only[↓QA,QB,seval,cO,aB6]
 (refine bT (cE 1 7 [(v.rain.length:Int)] (by simp)) (by simp[clr,clrs,ints]) (by simp[okV,okVs]) ?_;try simp only[↓QA,QB,seval,cO,gB])
 cases h1:inR (v.rain.length:Int) 1 7
 ·try simp only[↓QA,QB,seval,cO]
  simp[check,h1,enc3]
 ·have hc:check v=match aU tF v.rain 0 with|some (i,e)=>(1,(i:Int),e)|none=>gD v:=by simp only[check,h1,Bool.true_eq_false,if_false];try rfl
  rw[hc];have hf:=L7 [.cells (aC v)] (.func 345 [] []) v.rain tF h.rain (fun τ=>by try simp only[QS,QC,seval,cO]) fun i hi=>L4 i _ _
  try simp only[↓QA,QB,seval,cO] at hf
  try simp only[↓QA,QB,seval,cO]
  refine aS hf ?_;cases hb:aU tF v.rain 0 with
  |some p =>
   obtain⟨i,e⟩:=p;have he:=fN hb;have hg:(e==0)=false:=by simpa using he
   try simp only[↓QA,QB,seval,cO,iM,hb,lU,hg,enc3]
  |none =>
   try simp only[↓QA,QB,seval,cO,iM,hb,lU]
   (refine aD (HD v.way 0 9) rfl dd ?_;try simp only[↓QA,QB,seval,cO])
   (refine bT (cE 0 30 [v.full,v.ripe] (by simp)) (by simp[clr,clrs,ints]) (by simp[okV,okVs]) ?_;try simp only[↓QA,QB,seval,cO,BO])
   cases h2:(!inR v.full 0 30||!inR v.ripe 0 30)
   ·have h2':¬(inR v.full 0 30=false\/inR v.ripe 0 30=false):=by
     intro h;rcases h with h|h<;>rw[h] at h2<;>simp at h2
    cases h5:(fW v.way 0 9==0)
    ·have h5':fW v.way 0 9≠0:=by simpa using h5
     try simp only[↓QA,QB,seval,cO,h5]
     by_cases h4:fW v.way 0 9=7
     ·simp[gD,h4,enc3]
     ·have:¬(inR v.full 0 30=false\/inR v.ripe 0 30=false\/fW v.way 0 9=7):=by
       rintro (h|h|h)
       ·exact h2' (.inl h)
       ·exact h2' (.inr h)
       ·exact h4 h
      simp[gD,this,h5',enc3]
    ·have h5':fW v.way 0 9=0:=by simpa using h5
     have hc:gD v=jE v:=by
      have:¬(inR v.full 0 30=false\/inR v.ripe 0 30=false\/fW v.way 0 9=7):=by
       rintro (h|h|h)
       ·exact h2' (.inl h)
       ·exact h2' (.inr h)
       ·omega
      rw[gD,if_neg this,if_pos h5']
     rw[hc];try simp only[↓QA,QB,seval,cO,h5]
     cases h6:decide ((4:Int)<(v.plots.length:Int))
     case' true =>
      have h6':4<v.plots.length:=by first|(have:=of_decide_eq_false h6;omega)|(have:=of_decide_eq_true h6;omega)
      try simp only[↓QA,QB,seval,cO,h6]
      simp[jE,h6',enc3]
     have h6':¬4<v.plots.length:=by first|(have:=of_decide_eq_false h6;omega)|(have:=of_decide_eq_true h6;omega)
     have hc:jE v=match aU (pH v) v.plots 0 with|some (i,e)=>(3,(i:Int),e)|none=>jF v:=by simp only[jE,h6',if_false];try rfl
     rw[hc];have hf:=LC [.cells (aC v)] (.func 348 [] [.ptr 0 0]) v.plots (pH v) h.plots (fun τ=>by try simp only[QS,QC,seval,cO]) fun i hi=>KZ v h i hi _
     try simp only[↓QA,QB,seval,cO] at hf
     try simp only[↓QA,QB,seval,cO,h6]
     refine aS hf ?_;cases hb:aU (pH v) v.plots 0 with
     |some p =>
      obtain⟨i,e⟩:=p;have he:=fN hb;have hg:(e==0)=false:=by simpa using he
      try simp only[↓QA,QB,seval,cO,iM,hb,lU,hg,enc3]
     |none =>
      try simp only[↓QA,QB,seval,cO,iM,hb,lU]
      cases h7:decide ((4:Int)<(v.looks.length:Int))
      case' true =>
       have h7':4<v.looks.length:=by first|(have:=of_decide_eq_false h7;omega)|(have:=of_decide_eq_true h7;omega)
       try simp only[↓QA,QB,seval,cO,h7]
       simp[jF,h7',enc3]
      have h7':¬4<v.looks.length:=by first|(have:=of_decide_eq_false h7;omega)|(have:=of_decide_eq_true h7;omega)
      have hc:jF v=match aU (tY v) v.looks 0 with|some (i,e)=>(4,(i:Int),e)|none=>(0,0,0):=by simp only[jF,h7',if_false];try rfl
      rw[hc];have hf:=LY [.cells (aC v)] (.func 352 [] [.ptr 0 0]) v.looks (tY v) h.looks (fun τ=>by try simp only[QS,QC,seval,cO]) fun i hi=>LJ v h i _
      try simp only[↓QA,QB,seval,cO] at hf
      try simp only[↓QA,QB,seval,cO,h7]
      refine aS hf ?_;cases hb:aU (tY v) v.looks 0 with
      |some p =>
       obtain⟨i,e⟩:=p;have he:=fN hb;have hg:(e==0)=false:=by simpa using he
       try simp only[↓QA,QB,seval,cO,iM,hb,lU,hg,enc3]
      |none =>
       try simp only[↓QA,QB,seval,cO,iM,hb,lU,enc3]
   ·have h2':inR v.full 0 30=false\/inR v.ripe 0 30=false:=by
     cases a:inR v.full 0 30
     ·exact .inl rfl
     ·cases b:inR v.ripe 0 30
      ·exact .inr rfl
      ·rw[a,b] at h2;simp at h2
    have:inR v.full 0 30=false\/inR v.ripe 0 30=false\/fW v.way 0 9=7:=by
     rcases h2' with h|h
     ·exact .inl h
     ·exact .inr (.inl h)
    try simp only[↓QA,QB,seval,cO]
    simp[gD,this,enc3]
theorem nQ(s n:Nat)(hs:s<9223372036854775808)(hn:n<=60):cV T 117 [.int .i64 s,.int .i64 n] (ints (lst n s)):=by
 refine aR (af:=XS) rfl (by simp[XS]) dd ?_;try simp only[↓QA,QB,seval,cO,XS]
 obtain⟨R,hRR⟩:∃ R,lst n s=R:=⟨_,rfl⟩;have hRR':[]++(aL ((0:Nat):Int) (n-0)).filter (fun i=>decide (s/2^i.toNat%2=1))=R:=hRR;rw[hRR];refine jN 4 1 [] rfl ?_;refine bC (S:=Nat×List Int×Bool) (0,[],false) (fun x=>x.1<=n/\x.2.1.length<=x.1/\x.2.1++(aL (x.1:Int) (n-x.1)).filter (fun i=>decide (s/2^i.toNat%2=1))=R) (fun x=>n-x.1)
  (fun x=>[(0,.int .i64 s),(4,.lit (x.2.1.map (.int .i64)) false (some 0)),(6,.int .i64 n),(7,.int .i64 x.1)]) (fun x=>[.tok 1 x.2.1.length x.2.2]) ⟨by simp,by simp,hRR'⟩ rfl ?_ fun x hx=>?_
 ·try simp only[aB,QE,seval,cO]
  try simp
 ·obtain⟨k,acc,ex⟩:=x;obtain⟨hk,hal,hacc⟩:=hx;simp only at hk hal hacc;try simp only[↓QA,QB,seval,cO,aCF]
  refine aE (fun h=>?_) fun h=>?_
  ·have hk1:k<n:=by simpa using h
   have hw:=bD hk1 (by omega);rw[show n-k=(n-(k+1))+1 by omega] at hacc;simp only[aL,List.filter_cons,Int.toNat_natCast] at hacc;rw[show ((k:Int)+1)=((k+1:Nat):Int) by omega] at hacc;have vs:=N7 s k (by omega);have va:=FF (s/2^k) (Nat.lt_of_le_of_lt (Nat.div_le_self _ _) hs);have hbit:(((s/2^k%2:Nat):Int)==1)=decide (s/2^k%2=1):=by
    generalize s/2^k%2=q;rw[Bool.eq_iff_iff,beq_iff_eq,decide_eq_true_eq];omega
   try simp only[↓QA,QB,seval,cO,vs,va,hbit]
   cases hb:decide (s/2^k%2=1)
   ·simp only[hb,Bool.false_eq_true,if_false] at hacc;try simp only[↓QA,QB,seval,cO,hw]
    refine⟨(k+1,acc,ex),⟨by simp only;omega,by simp only;omega,by simpa using hacc⟩,by simp only;omega,?_⟩;try simp only[aB,QE,seval,cO,hw,lB]
    try simp[aF]
   ·simp only[hb,if_true] at hacc;have hap:=fun (τ:St)=>kV (σ:=.tok 1 acc.length ex::τ) (l:=acc) (a:=(k:Int)) (ex:=ex) (t:=0) (by omega) rfl
    try simp only[↓QA,QB,seval,cO,hw,hap]
    refine⟨(k+1,acc++[(k:Int)],true),⟨by simp only;omega,by simp only[List.length_append,List.length_cons,List.length_nil];omega,by
     rw[<-hacc];simp⟩,by simp only;omega,?_⟩
    try simp only[aB,QE,seval,cO,hw,lB,List.map_append,List.map_cons,List.map_nil]
    try simp[aF]
  ·have hk1:k=n:=by simp at h;omega
   rw[hk1] at hacc;simp only[Nat.sub_self,aL,List.filter_nil,List.append_nil] at hacc;try simp only[↓QA,QB,seval,cO,hacc,ints]
def sJ(must never:Bool):Int:=if must then 1 else if never then 2 else 0
theorem EP(must never:Bool):cV T 444 [.bool must,.bool never] (.int .i64 (sJ must never)):=by
 refine aR (af:=WN) rfl (by simp[WN]) dd ?_;cases must
 ·cases never;all_goals try simp only[↓QA,QB,seval,cO,WN,sJ,Bool.false_eq_true]
 ·try simp only[↓QA,QB,seval,cO,WN,sJ]
theorem aE9:cV T 222 [] (.int .i64 0):=by
 refine aR (af:=YU) rfl (by simp[YU]) a9 ?_;try simp only[↓QA,QB,seval,cO,YU]
end Go.Am.Room.Fa
namespace Go.Am.Room.Fa
def uJ:=zz @dE (zz @aI (zz @dC (zz @dD (zz @aJ (zz @dQ (zz @dS (zz @dH (zz @bZ (zz @bY (zz @List.length_append.{0} (zz @dL (zz @d7 (zz @d6 (zz @iR (zz @d8 (zz @wL (zz @Nat.mul_one (@Int.toNat_natCast))))))))))))))))))
theorem F1(n sz id off:Nat)(k k':IntKind)(lo hi:Int):E4 n sz (.ptr id off) (some (.int k lo)) (some (.int k' hi))=if 0<=lo/\lo<=hi/\hi<=n then some (.ref id (off+lo.toNat*sz) (hi.toNat-lo.toNat) sz) else none:=by simp only[E4,rS,iD]
theorem aH0(r:Nat->Int)(a d:Nat):pts r (min a d) d=pts r a d:=by
 by_cases h:a<=d
 ·rw[Nat.min_eq_left h]
 ·rw[Nat.min_eq_right (by omega),GI,ZB r (by omega)]
theorem PP(x:AV)(r:Nat->Int)(a d:Nat)(hr:∀ i,0<=r i/\r i<=2)(hd:d<=7)(σ:St):
  wp T KS.body (iG 0 [x,.agg (aZ 7 r),.int .i64 a,.int .i64 d]) σ (I7 KS.results σ (.int .i64 (pts r a d))):=by
 rw[<-aH0];have hm:min (a:Int) (d:Int)=((min a d:Nat):Int):=by omega
 obtain⟨A,hA⟩:∃ A,min a d=A:=⟨_,rfl⟩;rw[hA] at hm ⊢;have hAd:A<=d:=by omega
 have c1:(0:Int)<=(A:Int)/\(A:Int)<=(d:Int)/\(d:Int)<=((7:Nat):Int):=⟨by omega,by omega,by omega⟩;try simp only[↓QA,QB,reduceLT,reduceIte,reduceEqDiff,reduceAdd,reduceLeDiff,reduceMul,Nat.reduceBEq,uJ,F1,KS,hm,c1]
 refine bC (S:=Nat) 0 (fun k=>k<=d-A) (fun k=>d-A-k) (fun k=>[(8,.int .i64 (pts r A (A+k))),(15,.ref σ.length (0+A) (d-A) 1),(16,.int .i64 ((d-A:Nat):Int)),(17,.int .i64 k)]) (fun _=>σ++[.cells (aZ 7 r)]) (Nat.zero_le _) (by simp) ?_ fun k hk=>?_
 ·try simp only[aB,QE,reduceLT,reduceIte,reduceEqDiff,reduceAdd,reduceLeDiff,reduceMul,Nat.reduceBEq,uJ,F1,Nat.add_zero,GI]
  try simp
 ·try simp only[↓QA,QB,reduceLT,reduceIte,reduceEqDiff,reduceAdd,reduceLeDiff,reduceMul,Nat.reduceBEq,uJ,F1,aAM]
  refine aE (fun h=>?_) fun h=>?_
  ·have hk1:k<d-A:=by
    have h0:(k:Int)<((d-A:Nat):Int):=by simpa using h
    omega
   have hw:=bD hk1 (by omega);have hi7:A+k<7:=by omega
   have hget:=gO 7 r hi7;have c2:(0:Int)<=(k:Int)/\(k:Int)<((d-A:Nat):Int)/\1=1:=⟨by omega,by omega,rfl⟩;have hb:=K6 hr A (A+k);have hs:=PY r (show A<=A+k by omega);have hrk:=hr (A+k);obtain⟨P,hP⟩:∃ P,pts r A (A+k)=P:=⟨_,rfl⟩;obtain⟨R,hR⟩:∃ R,r (A+k)=R:=⟨_,rfl⟩;rw[hP] at hb hs;rw[hR] at hs hrk hget;have w1:IntKind.i64.wrap (1+R)=1+R:=bM ⟨by omega,by omega⟩;have w2:IntKind.i64.wrap (P+(1+R))=P+(1+R):=bM ⟨by omega,by omega⟩;rw[hP];try simp only[↓QA,QB,reduceLT,reduceIte,reduceEqDiff,reduceAdd,reduceLeDiff,reduceMul,Nat.reduceBEq,uJ,F1,c2,Nat.zero_add,hget,w1,w2,hw]
   refine⟨k+1,by omega,by omega,?_⟩;try simp only[aB,QE,reduceLT,reduceIte,reduceEqDiff,reduceAdd,reduceLeDiff,reduceMul,Nat.reduceBEq,uJ,F1,hw,show A+(k+1)=A+k+1 by omega,hs,Nat.zero_add,gV (Nat.lt_succ_self σ.length)]
   try simp[aF,pS]
  ·have hk1:k=d-A:=by
    have h0:¬(k:Int)<((d-A:Nat):Int):=by simpa using h
    omega
   subst hk1;rw[show A+(d-A)=d by omega];try simp only[↓QA,QB,reduceLT,reduceIte,reduceEqDiff,reduceAdd,reduceLeDiff,reduceMul,Nat.reduceBEq,uJ,F1]
   refine bU [.cells (aZ 7 r)] (by first|rfl|simp) ?_;try simp only[QS,QC,reduceLT,reduceIte,reduceEqDiff,reduceAdd,reduceLeDiff,reduceMul,Nat.reduceBEq,uJ,F1]
theorem I3(x:AV)(r:Nat->Int)(a d:Nat)(hr:∀ i,0<=r i/\r i<=2)(hd:d<=7)(σ:St):eS T (.func 234 [] []) [x,.agg (aZ 7 r),.int .i64 a,.int .i64 d] σ (.int .i64 (pts r a d)) :=
 bN (af:=KS) rfl (by simp[KS]) (PP x r a d hr hd σ)
theorem R3(x:AV)(r:Nat->Int)(a d:Nat)(hr:∀ i,0<=r i/\r i<=2)(hd:d<=7)(σ:St):eS T (.func 234 [x] []) [.agg (aZ 7 r),.int .i64 a,.int .i64 d] σ (.int .i64 (pts r a d)) :=
 bN (af:=KS) rfl (by simp[KS]) (PP x r a d hr hd σ)
def gN(ds:List Int):Nat:=ds.foldl (fun s d=>s|||2^d.toNat) 0
theorem YF(ds:List Int)(d:Int):gN (ds++[d])=gN ds|||2^d.toNat:=by simp[gN]
theorem IJ:∀ (ds:List Int) (s:Nat),(∀ d∈ds,0<=d)->∀ i:Nat,(ds.foldl (fun s d=>s|||2^d.toNat) s).testBit i=(s.testBit i||ds.contains (i:Int))
 |[],s,_,i=>by simp
 |d::ds,s,h,i=>by
  rw[List.foldl_cons,IJ ds _ (fun x hx=>h x (by simp[hx])) i,Nat.testBit_or,Nat.testBit_two_pow,List.contains_cons,Bool.or_assoc]
  congr 2
  have:=h d (by simp);rw[Bool.eq_iff_iff,decide_eq_true_eq,beq_iff_eq];omega
theorem BY{ds:List Int}(h:∀ d∈ds,0<=d)(i:Nat):(gN ds).testBit i=ds.contains (i:Int):=by
 rw[gN,IJ ds 0 h i];simp
theorem EZ{ds:List Int}{n:Nat}(h:∀ d∈ds,0<=d/\d<n):gN ds<2^n:=by
 refine Nat.lt_pow_two_of_testBit _ fun i hi=>?_
 rw[BY (fun d hd=>(h d hd).1),Bool.eq_false_iff];intro hc;rw[List.contains_iff_mem] at hc;have:=h _ hc;omega
theorem VR{ds:List Int}(h:∀ d∈ds,0<=d):gN ds=0↔ds=[]:=by
 constructor
 ·intro h0;cases ds with
  |nil=>rfl
  |cons d ds =>
   exfalso;have hd:=h d (by simp);have h1:=BY h d.toNat
   rw[h0,Nat.zero_testBit,show ((d.toNat:Nat):Int)=d by omega] at h1;simp at h1
 ·rintro rfl;rfl
theorem sN:∀ (n:Nat) (a lo:Int) (k:Nat),a<=lo->lo+k<=a+n->(aL a n).filter (fun x=>decide (lo<=x)&&decide (x<lo+k))=aL lo k
 |0,a,lo,k,h1,h2=>by
  have:k=0:=by omega
  subst this;rfl
 |n+1,a,lo,k,h1,h2=>by
  simp only[aL,List.filter_cons];by_cases h:a=lo
  ·subst h;cases k with
   |zero =>
    have hz:(decide (a<=a)&&decide (a<a+((0:Nat):Int)))=false:=by simp
    rw[hz];simp only[Bool.false_eq_true,if_false,aL];rw[List.filter_eq_nil_iff];intro x hx;have:=(bI _ _ _).1 hx;rw[Bool.and_eq_true,decide_eq_true_eq,decide_eq_true_eq];omega
   |succ k =>
    have hz:(decide (a<=a)&&decide (a<a+((k+1:Nat):Int)))=true:=by
     rw[Bool.and_eq_true,decide_eq_true_eq,decide_eq_true_eq];omega
    rw[hz];simp only[if_true,aL]
    congr 1
    rw[<-sN n (a+1) (a+1) k (Int.le_refl _) (by omega)];refine List.filter_congr fun x hx=>?_
    have:=(bI _ _ _).1 hx;rw[Bool.eq_iff_iff];simp;omega
  ·have hz:(decide (lo<=a)&&decide (a<lo+(k:Int)))=false:=by simp;omega
   rw[hz];simp only[Bool.false_eq_true,if_false];exact sN n (a+1) lo k (by omega) (by omega)
theorem W3{lo:Int}{k n:Nat}(ok:Int->Bool)(h0:0<=lo)(h1:lo+k<=n):lst n (gN ((aL lo k).filter ok))=(aL lo k).filter ok:=by
 have hn:∀ d∈(aL lo k).filter ok,0<=d:=fun d hd=>by
  have:=(bI _ _ _).1 (List.mem_filter.1 hd).1;omega
 rw[lst];have e:(aL 0 n).filter (fun i=>decide (gN ((aL lo k).filter ok)/2^i.toNat%2=1))=((aL 0 n).filter (fun x=>decide (lo<=x)&&decide (x<lo+k))).filter ok:=by
  rw[List.filter_filter];refine List.filter_congr fun x hx=>?_
  have hx0:=(bI _ _ _).1 hx;rw[<-pR,BY hn,show ((x.toNat:Nat):Int)=x by omega,Bool.eq_iff_iff,List.contains_iff_mem,List.mem_filter,bI];simp;constructor
  ·rintro⟨⟨a,b⟩,c⟩;exact⟨c,a,b⟩
  ·rintro⟨c,a,b⟩;exact⟨⟨a,b⟩,c⟩
 rw[e,sN n 0 lo k h0 (by omega)]
theorem M3{v:Farm}(hv:Vd v){p:Nat}(hp:p<v.plots.length)(rain but:List Int):lst v.rain.length (gN (bK v p rain but))=bK v p rain but:=by
 have:=(IH hv hp).1;rw[bK,tN hp,jY];exact W3 _ this.1 (by omega)
def cC:List Span->List Int->List (List Int)
 |[],l=>[l]
 |s::rs,l=>(jY s).flatMap fun n=>cC rs (l++[n])
theorem OC{rs:List Span}:∀ k,k<=rs.length->(eT rs k).flatMap (cC (rs.drop k))=cC rs []
 |0,_=>by simp[eT]
 |k+1,h=>by
  have hk:k<rs.length:=by omega
  rw[<-OC k (by omega),mK hk,List.flatMap_assoc]
  congr 1
  funext l;rw[List.drop_eq_getElem_cons hk,cC,ext,List.flatMap_map]
theorem EC{α:Type}:∀ l:List α,(l.flatMap fun x=>[x])=l
 |[]=>rfl
 |x::l=>by rw[List.flatMap_cons,EC l];rfl
theorem H2(v:Farm):cC v.rain []=nS v:=by
 rw[<-OC v.rain.length (Nat.le_refl _),List.drop_length];exact EC _
theorem CZ:∀ (rs:List Span) (l c:List Int),c∈cC rs l->∃ t,c=l++t
 |[],l,c,h=>by simp only[cC,List.mem_singleton] at h;exact⟨[],by simp[h]⟩
 |s::rs,l,c,h=>by
  simp only[cC,List.mem_flatMap] at h;obtain⟨n,_,hc⟩:=h;obtain⟨t,rfl⟩:=CZ rs _ c hc;exact⟨n::t,by simp⟩
theorem HY:∀ (n:Nat) (a:Int),(aL a n).Pairwise (·≠·)
 |0,a=>List.Pairwise.nil
 |n+1,a=>by
  simp only[aL];refine List.Pairwise.cons (fun x hx=>?_) (HY n (a+1));have:=(bI _ _ _).1 hx;omega
theorem tA:∀ (rs:List Span) (l:List Int),(cC rs l).Pairwise (·≠·)
 |[],l=>by simp[cC]
 |s::rs,l=>by
  simp only[cC];rw[List.pairwise_flatMap];refine⟨fun n _=>tA rs _,List.Pairwise.imp ?_ (HY _ _)⟩;intro n m hnm x hx y hy e;obtain⟨t,rfl⟩:=CZ _ _ _ hx;obtain⟨u,hu⟩:=CZ _ _ _ hy;have e2:=e.trans hu;rw[List.append_assoc,List.append_assoc] at e2;have:=List.append_cancel_left e2;simp at this;exact hnm this.1
def fI{A X:Type}[DecidableEq A](f:A->X->X×Bool)(a:A)(s:Option A×X):(Option A×X)×Bool:=if s.1=some a then (s,true) else ((some a,(f a s.2).1),(f a s.2).2)
theorem rA{A X:Type}[DecidableEq A](f:A->X->X×Bool):∀ (l:List A) (o:Option A) (x:X),l.Pairwise (·≠·)->(∀ a∈l,o≠some a)->(bE (fI f) l (o,x)).1.2=(bE f l x).1/\(bE (fI f) l (o,x)).2=(bE f l x).2
 |[],o,x,_,_=>⟨rfl,rfl⟩
 |a::l,o,x,h,ho=>by
  have h0:=ho a (by simp);obtain⟨h1,h2⟩:=List.pairwise_cons.1 h;have ih:=rA f l (some a) (f a x).1 h2 fun b hb e=>h1 b hb (by simpa using e)
  simp only[bE,fI,h0,if_false];split
  ·exact ih
  ·exact⟨rfl,rfl⟩
end Go.Am.Room.Fa
namespace Go.Am.Room.Fa
def eE:=zz @dE (zz @aI (zz @dC (zz @dD (zz @aJ (zz @dQ (zz @dS (zz @dH (zz @bZ (zz @bY (zz @List.length_append.{0} (zz @dL (zz @d7 (zz @d6 (zz @iR (zz @d8 (zz @wL (zz @Nat.mul_one (@Int.toNat_natCast))))))))))))))))))
def db(v:Farm)(b m:Nat):List AV:=aC v++[.int .i64 b,.map m]
theorem dY(v:Farm)(b m:Nat):(db v b m)[0]? = some (.lit (v.rain.map cG) false none):=by simp[db,aC]
theorem dW(v:Farm)(b m:Nat):(db v b m)[1]? = some (.int .i64 v.full):=by simp[db,aC]
theorem dZ(v:Farm)(b m:Nat):(db v b m)[2]? = some (.int .i64 v.ripe):=by simp[db,aC]
theorem d4(v:Farm)(b m:Nat):(db v b m)[3]? = some (.int .i64 v.way.lo):=by simp[db,aC]
theorem d5(v:Farm)(b m:Nat):(db v b m)[4]? = some (.int .i64 v.way.hi):=by simp[db,aC]
theorem dV(v:Farm)(b m:Nat):(db v b m)[5]? = some (.lit (v.plots.map dI) false none):=by simp[db,aC]
theorem j4(v:Farm)(b m:Nat):(db v b m)[6]? = some (.lit (v.looks.map gA) false none):=by simp[db,aC]
theorem jZ(v:Farm)(b m:Nat):(db v b m)[7]? = some (.int .i64 b):=by simp[db,aC]
theorem j3(v:Farm)(b m:Nat):(db v b m)[8]? = some (.map m):=by simp[db,aC]
theorem aNJ(v:Farm)(b:Nat){m k:Nat}(h:m<k):okVs k (db v b m):=by
 have:=okVs_up (m:=k) _ (s9 v).1;refine BR this ?_;simp[okVs,okV,h]
def jR(v:Farm)(c bl:List Int)(k:Nat)(q:Nat):Int:=if q<k then (gN (bK v q c bl):Int) else 0
def yL(v:Farm)(c bl:List Int):Nat->Nat->Nat×Bool
 |0,p=>(p,true)
 |n+1,p=>if (bK v p c bl).isEmpty then (p,false) else yL v c bl n (p+1)
theorem NQ(v:Farm)(c bl:List Int):∀ n p,(yL v c bl n p).2=((List.range n).all fun i=>!(bK v (p+i) c bl).isEmpty)/\((yL v c bl n p).2=true->(yL v c bl n p).1=p+n)
 |0,p=>⟨rfl,fun _=>rfl⟩
 |n+1,p=>by
  obtain⟨h1,h2⟩:=NQ v c bl n (p+1);have hr:(List.range (n+1)).all (fun i=>!(bK v (p+i) c bl).isEmpty)=(!(bK v p c bl).isEmpty&&(List.range n).all fun i=>!(bK v (p+1+i) c bl).isEmpty):=by
   rw[List.range_succ_eq_map,List.all_cons,List.all_map];have e:((fun i=>!(bK v (p+i) c bl).isEmpty)∘Nat.succ)=fun i=>!(bK v (p+1+i) c bl).isEmpty:=by
    funext i;simp only[Function.comp,show p+Nat.succ i=p+1+i by omega]
   rw[e];rfl
  simp only[yL];split
  ·rename_i h;rw[hr,h];exact⟨rfl,fun h=>by cases h⟩
  ·rename_i h;rw[hr,Bool.not_eq_true] at *;rw[h,h1];refine⟨rfl,fun h=>?_⟩;rw[h2 (by rw[h1];exact h)];omega
theorem SX{v:Farm}{c bl:List Int}{k:Nat}:iB (jR v c bl k) k (gN (bK v k c bl))=jR v c bl (k+1):=by
 funext i;simp only[iB,jR];by_cases h:i=k
 ·subst h;simp
 ·simp only[h,if_false];by_cases h2:i<k
  ·rw[if_pos h2,if_pos (by omega)]
  ·rw[if_neg h2,if_neg (by omega)]
theorem GO{v:Farm}{c bl:List Int}{k:Nat}:iB (jR v c bl k) k 0=jR v c bl k:=by
 funext i;simp only[iB];by_cases h:i=k
 ·subst h;simp[jR]
 ·simp only[h,if_false]
theorem CJ(f:Nat->Int)(k:Nat)(a b:Int):iB (iB f k a) k b=iB f k b:=by
 funext i;simp only[iB];split<;>rfl
theorem Q4{v:Farm}{p:Int}{c bl:List Int}{d:Int}{k:Nat}(hk:k<v.looks.length)(h:sP p bl c d k v.looks[k]=false):lH v p c bl d=false:=by
 simp only[lH];rw[Bool.eq_false_iff];intro ha;have:=List.all_eq_true.1 ha k (by simpa using hk);rw[List.getElem?_eq_getElem hk] at this;simp only at this;rw[h] at this;cases this
theorem LR(v:Farm)(hv:Vd v)(b m p:Nat)(bl c:List Int)(hb:ButIs b bl)(hc:RainOk v c)(σ:St)(hp:aH σ p=some (db v b m)):
  eS T (.func 354 [] []) [.ptr p 0,.agg (aZ 7 (rl c))] σ (.tuple [.agg (aZ 4 (jR v c bl (yL v c bl v.plots.length 0).1)),.bool (yL v c bl v.plots.length 0).2]):=by
 refine bN (af:=ZV) rfl (by simp[ZV]) ?_;have hno:=hv.npl;have hnr:=hv.nra;have hnl:=hv.nlk;have hpl:=mJ hp;have h0:=fun τ=>iI hp τ
 have hbd:=uL hv hc;have hp2:p<σ.length+2:=by omega
 have hp3:p<σ.length+3:=by omega
 obtain⟨R,hR⟩:∃ R,yL v c bl v.plots.length 0=R:=⟨_,rfl⟩;rw[hR];have hz:[AV.int .i64 0,.int .i64 0,.int .i64 0,.int .i64 0]=aZ 4 (jR v c bl 0):=by simp[aZ,jR,List.range_succ]
 obtain⟨N,hN⟩:∃ N,σ.length=N:=⟨_,rfl⟩
 (repeat (first|simp only[↓QA,QB,reduceLT,reduceIte,reduceEqDiff,reduceAdd,reduceLeDiff,reduceMul,Nat.reduceBEq,eE,dY,dW,dZ,d4,d5,dV,j4,jZ,j3,ZV,h0,hz]|refine rd0 rfl ?_))
 refine bC (S:=Nat) 0 (fun k=>k<=v.plots.length/\yL v c bl (v.plots.length-k) k=R) (fun k=>v.plots.length-k)
  (fun k=>[(0,.ptr p 0),(3,.ptr σ.length 0),(4,.ptr (σ.length+1) 0),(6,.func 234 [.ptr p 0] []),(19,.lit (v.plots.map dI) false none),(20,.int .i64 v.plots.length),(21,.int .i64 k)])
  (fun k=>σ++[.cells (aZ 7 (rl c)),.cells (aZ 4 (jR v c bl k))]) ⟨Nat.zero_le _,by simpa using hR⟩ (by simp) ?_ fun k hk=>?_
 ·try simp only[aB,QE,reduceLT,reduceIte,reduceEqDiff,reduceAdd,reduceLeDiff,reduceMul,Nat.reduceBEq,eE,dY,dW,dZ,d4,d5,dV,j4,jZ,j3,hp2,hp3]
  try simp
 ·obtain⟨hk,hq⟩:=hk
  (repeat (first|simp only[↓QA,QB,reduceLT,reduceIte,reduceEqDiff,reduceAdd,reduceLeDiff,reduceMul,Nat.reduceBEq,eE,dY,dW,dZ,d4,d5,dV,j4,jZ,j3,Z2]|refine rd0 rfl ?_))
  refine aE (fun hd=>?_) fun hd=>?_
  ·have hk1:k<v.plots.length:=by simpa using hd
   have hw:=bD hk1 (by omega);have hplk:=(IH hv hk1).1;have hfb:=uU hv hk1 c bl;have hfe:bK v k c bl=(aL v.plots[k].flower.lo (v.plots[k].flower.hi+1-v.plots[k].flower.lo).toNat).filter (lH v k c bl):=by rw[bK,tN hk1];rfl
   rw[show v.plots.length-k=(v.plots.length-(k+1))+1 by omega] at hq;simp only[yL] at hq;obtain⟨y,hy⟩:∃ y,v.plots[k]=y:=⟨_,rfl⟩;rw[hy] at hplk hfe;obtain⟨F,hF⟩:∃ F,bK v k c bl=F:=⟨_,rfl⟩;have hnx:=@SX v c bl k;rw[hF] at hq hfe hfb hnx;obtain⟨L,hL⟩:∃ L:Nat,y.flower.lo=(L:Int):=⟨y.flower.lo.toNat,by omega⟩;obtain⟨H,hH⟩:∃ H:Nat,y.flower.hi=(H:Int):=⟨y.flower.hi.toNat,by omega⟩;rw[hL,hH] at hfe hplk;have i4:(0:Int)<=(k:Int)/\(k:Int)<((4:Nat):Int):=⟨by omega,by omega⟩;have c4:k+1<=4:=by omega
   have hk4:k<4:=by omega
   (repeat (first|simp only[↓QA,QB,reduceLT,reduceIte,reduceEqDiff,reduceAdd,reduceLeDiff,reduceMul,Nat.reduceBEq,eE,dY,dW,dZ,d4,d5,dV,j4,jZ,j3,hk1,hy]|refine rd0 rfl ?_))
   refine bC (S:=Nat×List Int) (L,[]) (fun a=>L<=a.1/\a.1<=H+1/\a.2++(aL (a.1:Int) ((H:Int)+1-a.1).toNat).filter (lH v k c bl)=F) (fun a=>H+1-a.1)
    (fun a=>[(0,.ptr p 0),(3,.ptr σ.length 0),(4,.ptr (σ.length+1) 0),(6,.func 234 [.ptr p 0] []),(7,.int .i64 k),(8,.ptr (σ.length+2) 0),(9,.int .i64 a.1),(19,.lit (v.plots.map dI) false none),(20,.int .i64 v.plots.length),(21,.int .i64 k)])
    (fun a=>σ++[.cells (aZ 7 (rl c)),.cells (aZ 4 (iB (jR v c bl k) k (gN a.2))),.cells [.str y.name,.int .i64 y.flower.lo,.int .i64 y.flower.hi,.int .i64 y.hands]]) ⟨Nat.le_refl _,by simp only;omega,by rw[hfe];rfl⟩ ?_ ?_ fun a ha=>?_
   ·have:(gN []:Int)=0:=rfl;simp only[this,GO]
   ·try simp only[aB,QE,reduceLT,reduceIte,reduceEqDiff,reduceAdd,reduceLeDiff,reduceMul,Nat.reduceBEq,eE,dY,dW,dZ,d4,d5,dV,j4,jZ,j3,hp2,hp3,hL]
    try simp
   ·obtain⟨d,acc⟩:=a;obtain⟨hd0,hd1,hacc⟩:=ha;simp only at hd0 hd1 hacc;have hadF:∀ x∈acc,0<=x/\x<v.rain.length:=fun x hx=>hfb.2 x (by rw[<-hacc];simp[hx])
    (repeat (first|simp only[↓QA,QB,reduceLT,reduceIte,reduceEqDiff,reduceAdd,reduceLeDiff,reduceMul,Nat.reduceBEq,eE,dY,dW,dZ,d4,d5,dV,j4,jZ,j3,aAG]|refine rd0 rfl ?_))
    refine aE (fun h=>?_) fun h=>?_
    ·have hd2:d<=H:=by
      have h0:(d:Int)<=y.flower.hi:=by simpa using h
      omega
     have hwd:=bD (show d<H+1 by omega) (by omega);rw[nN (show (d:Int)<=(H:Int) by omega),List.filter_cons,show (d:Int)+1=((d+1:Nat):Int) by omega] at hacc
     (repeat (first|simp only[↓QA,QB,reduceLT,reduceIte,reduceEqDiff,reduceAdd,reduceLeDiff,reduceMul,Nat.reduceBEq,eE,dY,dW,dZ,d4,d5,dV,j4,jZ,j3,h0]|refine rd0 rfl ?_))
     refine bC (S:=Nat) 0 (fun i=>i<=v.looks.length/\kL v k c bl d i=true) (fun i=>v.looks.length-i)
      (fun i=>[(0,.ptr p 0),(3,.ptr σ.length 0),(4,.ptr (σ.length+1) 0),(6,.func 234 [.ptr p 0] []),(7,.int .i64 k),(8,.ptr (σ.length+2) 0),(9,.int .i64 d),(19,.lit (v.plots.map dI) false none),(20,.int .i64 v.plots.length),(21,.int .i64 k),(40,.lit (v.looks.map gA) false none),(41,.int .i64 v.looks.length),(42,.int .i64 i)])
      (fun i=>σ++[.cells (aZ 7 (rl c)),.cells (aZ 4 (iB (jR v c bl k) k (gN acc))),.cells [.str y.name,.int .i64 y.flower.lo,.int .i64 y.flower.hi,.int .i64 y.hands]]) ⟨Nat.zero_le _,rfl⟩ (by simp) ?_ fun i hi=>?_
     ·try simp only[aB,QE,reduceLT,reduceIte,reduceEqDiff,reduceAdd,reduceLeDiff,reduceMul,Nat.reduceBEq,eE,dY,dW,dZ,d4,d5,dV,j4,jZ,j3,hp2,hp3]
      try simp
     ·obtain⟨hi,hup⟩:=hi
      (repeat (first|simp only[↓QA,QB,reduceLT,reduceIte,reduceEqDiff,reduceAdd,reduceLeDiff,reduceMul,Nat.reduceBEq,eE,dY,dW,dZ,d4,d5,dV,j4,jZ,j3,aAE]|refine rd0 rfl ?_))
      refine aE (fun h2=>?_) fun h2=>?_
      ·have hi1:i<v.looks.length:=by simpa using h2
       have hwi:=bD hi1 (by omega);have hsu:=u7 hi1 k c bl d;have hfa:=@Q4 v k c bl d i hi1;have hlx:=hv.lk _ (List.getElem_mem hi1);rw[hup,Bool.true_and] at hsu;obtain⟨x,hx⟩:∃ x,v.looks[i]=x:=⟨_,rfl⟩;rw[hx] at hsu hlx hfa;have hlo:sP k bl c d i x=(!(x.plot==(k:Int))||bl.contains (i:Int)||EG c d x.day==x.points):=by
        simp only[sP]
        congr 3
       obtain⟨D,hD⟩:∃ D:Nat,x.day=(D:Int):=⟨x.day.toNat,by omega⟩;have hpe:EG c d x.day=pts (rl c) d D:=by rw[EG,hD,Int.toNat_natCast,Int.toNat_natCast]
       rw[hpe] at hlo;have hfu:=fun τ=>R3 (.ptr p 0) (rl c) d D hbd (by omega) τ
       obtain⟨Z,hZ⟩:∃ Z,pts (rl c) d D=Z:=⟨_,rfl⟩;rw[hZ] at hlo;simp only[hZ] at hfu;have vs:=N7 b i (by omega);have va:=FF (b/2^i) (Nat.lt_of_le_of_lt (Nat.div_le_self _ _) hb.lt);have hbi:=hb.bit i (by omega)
       (repeat (first|simp only[↓QA,QB,reduceLT,reduceIte,reduceEqDiff,reduceAdd,reduceLeDiff,reduceMul,Nat.reduceBEq,eE,dY,dW,dZ,d4,d5,dV,j4,jZ,j3,hi1,hx]|refine rd0 rfl ?_))
       refine rO [.cells [.int .i64 0,.int .i64 0,.int .i64 0]] rfl ?_
       (repeat (first|simp only[↓QA,QB,reduceLT,reduceIte,reduceEqDiff,reduceAdd,reduceLeDiff,reduceMul,Nat.reduceBEq,eE,dY,dW,dZ,d4,d5,dV,j4,jZ,j3,hD]|refine rd0 rfl ?_))
       refine kT (hfu _) ?_
       (repeat (first|simp only[↓QA,QB,reduceLT,reduceIte,reduceEqDiff,reduceAdd,reduceLeDiff,reduceMul,Nat.reduceBEq,eE,dY,dW,dZ,d4,d5,dV,j4,jZ,j3,hD]|refine rd0 rfl ?_))
       cases hl:(x.plot==(k:Int))
       ·have hlk:sP k bl c d i x=true:=by rw[hlo,hl];rfl
        rw[hlk] at hsu
        (repeat (first|simp only[↓QA,QB,reduceLT,reduceIte,reduceEqDiff,reduceAdd,reduceLeDiff,reduceMul,Nat.reduceBEq,eE,dY,dW,dZ,d4,d5,dV,j4,jZ,j3,hl,hwi]|refine rd0 rfl ?_))
        refine⟨i+1,⟨by omega,hsu⟩,by omega,?_⟩;try simp only[aB,QE,reduceLT,reduceIte,reduceEqDiff,reduceAdd,reduceLeDiff,reduceMul,Nat.reduceBEq,eE,dY,dW,dZ,d4,d5,dV,j4,jZ,j3,hp2,hp3,hwi]
        try simp[aF,okVs,okV]
       ·cases hbc:bl.contains (i:Int)
        ·rw[hbc,Bool.not_false] at hbi;rw[hl,hbc] at hlo;simp only[Bool.not_true,Bool.false_or] at hlo;have hxz:(x.points==Z)=(Z==x.points):=by rw[Bool.eq_iff_iff,beq_iff_eq,beq_iff_eq];exact eq_comm
         (repeat (first|simp only[↓QA,QB,reduceLT,reduceIte,reduceEqDiff,reduceAdd,reduceLeDiff,reduceMul,Nat.reduceBEq,eE,dY,dW,dZ,d4,d5,dV,j4,jZ,j3,hl,h0,vs,va,hbi,hxz]|refine rd0 rfl ?_))
         cases hzx:(Z==x.points)
         ·rw[hzx] at hlo;rw[hfa hlo] at hacc;simp only[Bool.false_eq_true,if_false] at hacc
          (repeat (first|simp only[↓QA,QB,reduceLT,reduceIte,reduceEqDiff,reduceAdd,reduceLeDiff,reduceMul,Nat.reduceBEq,eE,dY,dW,dZ,d4,d5,dV,j4,jZ,j3,hwd]|refine rd0 rfl ?_))
          refine⟨(d+1,acc),⟨by simp only;omega,by simp only;omega,hacc⟩,by simp only;omega,?_⟩;try simp only[aB,QE,reduceLT,reduceIte,reduceEqDiff,reduceAdd,reduceLeDiff,reduceMul,Nat.reduceBEq,eE,dY,dW,dZ,d4,d5,dV,j4,jZ,j3,hp2,hp3,hwd]
          try simp[aF,okVs,okV]
         ·rw[hzx] at hlo;rw[hlo] at hsu
          (repeat (first|simp only[↓QA,QB,reduceLT,reduceIte,reduceEqDiff,reduceAdd,reduceLeDiff,reduceMul,Nat.reduceBEq,eE,dY,dW,dZ,d4,d5,dV,j4,jZ,j3,hwi]|refine rd0 rfl ?_))
          refine⟨i+1,⟨by omega,hsu⟩,by omega,?_⟩;try simp only[aB,QE,reduceLT,reduceIte,reduceEqDiff,reduceAdd,reduceLeDiff,reduceMul,Nat.reduceBEq,eE,dY,dW,dZ,d4,d5,dV,j4,jZ,j3,hp2,hp3,hwi]
          try simp[aF,okVs,okV]
        ·rw[hbc,Bool.not_true] at hbi;have hlk:sP k bl c d i x=true:=by rw[hlo,hl,hbc];rfl
         rw[hlk] at hsu
         (repeat (first|simp only[↓QA,QB,reduceLT,reduceIte,reduceEqDiff,reduceAdd,reduceLeDiff,reduceMul,Nat.reduceBEq,eE,dY,dW,dZ,d4,d5,dV,j4,jZ,j3,hl,h0,vs,va,hbi,hwi]|refine rd0 rfl ?_))
         refine⟨i+1,⟨by omega,hsu⟩,by omega,?_⟩;try simp only[aB,QE,reduceLT,reduceIte,reduceEqDiff,reduceAdd,reduceLeDiff,reduceMul,Nat.reduceBEq,eE,dY,dW,dZ,d4,d5,dV,j4,jZ,j3,hp2,hp3,hwi]
         try simp[aF,okVs,okV]
      ·have hi1:i=v.looks.length:=by simp at h2;omega
       rw[hi1] at hup;have hok:lH v k c bl d=true:=hup;rw[hok] at hacc;simp only[if_true] at hacc;have hsl:gN acc<2^7:=EZ fun x hx=>by have:=hadF x hx;omega
       have h2d:2^d<=2^7:=Nat.pow_le_pow_right (by omega) (by omega);have vsh:=rB d (by omega);have vor:=S4 (gN acc) (2^d) (by omega) (by omega);have hge:=gO 4 (iB (jR v c bl k) k (gN acc)) hk4;have hup2:iB (jR v c bl k) k (gN acc) k=(gN acc:Int):=by simp[iB]
       rw[hup2] at hge;have hst:=oJ 4 (iB (jR v c bl k) k (gN acc)) ((gN acc|||2^d:Nat):Int) hk4;rw[CJ] at hst;have hsa:gN (acc++[(d:Int)])=gN acc|||2^d:=by rw[YF,Int.toNat_natCast]
       (repeat (first|simp only[↓QA,QB,reduceLT,reduceIte,reduceEqDiff,reduceAdd,reduceLeDiff,reduceMul,Nat.reduceBEq,eE,dY,dW,dZ,d4,d5,dV,j4,jZ,j3,i4,c4,Nat.zero_add,hge,vsh,vor,hst,hwd]|refine rd0 rfl ?_))
       refine⟨(d+1,acc++[(d:Int)]),⟨by simp only;omega,by simp only;omega,by rw[<-hacc];simp⟩,by simp only;omega,?_⟩;try simp only[aB,QE,reduceLT,reduceIte,reduceEqDiff,reduceAdd,reduceLeDiff,reduceMul,Nat.reduceBEq,eE,dY,dW,dZ,d4,d5,dV,j4,jZ,j3,hp2,hp3,hwd,hsa]
       try simp[aF,okVs,okV,pS]
    ·have hd2:d=H+1:=by
      have h0:¬(d:Int)<=y.flower.hi:=by simpa using h
      omega
     rw[qX (show ¬(d:Int)<=(H:Int) by omega)] at hacc;simp only[List.filter_nil,List.append_nil] at hacc;subst hacc;have hge:=gO 4 (iB (jR v c bl k) k (gN acc)) hk4;have hup2:iB (jR v c bl k) k (gN acc) k=(gN acc:Int):=by simp[iB]
     rw[hup2] at hge;have hsz:=VR (fun x hx=>(hadF x hx).1);cases hz0:((gN acc:Int)==0)
     ·have hz0':gN acc≠0:=by intro e;rw[e] at hz0;cases hz0
      have hne:acc≠[]:=fun e=>hz0' (hsz.2 e)
      have hie:acc.isEmpty=false:=by cases acc with
       |nil=>exact absurd rfl hne
       |cons a b=>rfl
      rw[hie] at hq;simp only[Bool.false_eq_true,if_false] at hq
      (repeat (first|simp only[↓QA,QB,reduceLT,reduceIte,reduceEqDiff,reduceAdd,reduceLeDiff,reduceMul,Nat.reduceBEq,eE,dY,dW,dZ,d4,d5,dV,j4,jZ,j3,i4,Nat.zero_add,hge,hz0,hw]|refine rd0 rfl ?_))
      refine⟨k+1,⟨by omega,hq⟩,by omega,?_⟩;try simp only[aB,QE,reduceLT,reduceIte,reduceEqDiff,reduceAdd,reduceLeDiff,reduceMul,Nat.reduceBEq,eE,dY,dW,dZ,d4,d5,dV,j4,jZ,j3,hp2,hp3,hw,hnx]
      try simp[aF,okVs,okV,pS]
     ·have hz0':gN acc=0:=by
       have:(gN acc:Int)=0:=by simpa using hz0
       omega
      have hne:acc=[]:=hsz.1 hz0';rw[hne] at hq;simp only[List.isEmpty_nil,if_true] at hq;subst hq;have hzz:iB (jR v c bl k) k (gN acc)=jR v c bl k:=by rw[hz0'];exact GO
      simp only[hzz] at hge
      (repeat (first|simp only[↓QA,QB,reduceLT,reduceIte,reduceEqDiff,reduceAdd,reduceLeDiff,reduceMul,Nat.reduceBEq,eE,dY,dW,dZ,d4,d5,dV,j4,jZ,j3,i4,Nat.zero_add,hge,hz0,hzz]|refine rd0 rfl ?_))
      refine bU [.cells (aZ 7 (rl c)),.cells (aZ 4 (jR v c bl k)),.cells [.str y.name,.int .i64 y.flower.lo,.int .i64 y.flower.hi,.int .i64 y.hands]] (by first|rfl|simp) ?_;try simp only[QS,QC,reduceLT,reduceIte,reduceEqDiff,reduceAdd,reduceLeDiff,reduceMul,Nat.reduceBEq,eE,dY,dW,dZ,d4,d5,dV,j4,jZ,j3]
  ·have hk1:k=v.plots.length:=by simp at hd;omega
   subst hk1;rw[Nat.sub_self] at hq;simp only[yL] at hq;subst hq
   (repeat (first|simp only[↓QA,QB,reduceLT,reduceIte,reduceEqDiff,reduceAdd,reduceLeDiff,reduceMul,Nat.reduceBEq,eE,dY,dW,dZ,d4,d5,dV,j4,jZ,j3]|refine rd0 rfl ?_))
   refine bU [.cells (aZ 7 (rl c)),.cells (aZ 4 (jR v c bl v.plots.length))] (by first|rfl|simp) ?_;try simp only[QS,QC,reduceLT,reduceIte,reduceEqDiff,reduceAdd,reduceLeDiff,reduceMul,Nat.reduceBEq,eE,dY,dW,dZ,d4,d5,dV,j4,jZ,j3]
end Go.Am.Room.Fa
namespace Go.Am.Room
structure ObjAt {X:Type} (S:X->St) (obj:List AV) (p N:Nat):Prop where
 len:∀ x,(S x).length=N
 at0:∀ x,aH (S x) p=some obj
 pl:p<N
def AH{X:Type}(Z ZD:X->St)(r:X×Bool):St:=if r.2=true then Z r.1 else ZD r.1
def E7{A X:Type}(Z ZD:X->St)(id:Nat)(args:A->List AV)(P:A->Prop)(f:A->X->X×Bool):Prop :=
 ∀ t,P t->∀ x τ,Run T (.callv (.yield id) (args t) (Z x++τ)) fun o=>o.v = .bool (f t x).2/\∃ τ',o.σ=AH Z ZD (f t x)++(τ++τ')
theorem WA{X:Type}{S:X->St}{obj:List AV}{p N:Nat}(hS:ObjAt S obj p N)(U UD:X->St)(n:Nat)(hU:∀ x,(U x).length=n)(hUD:∀ x,(UD x).length=n)(J:AJump)(e:Env)(k:Nat)(ps:List Nat)(a bb:ACode)(g:FuncId)(ek:Env.get e k = .func g [] [.ptr (N+n) 0])(r:X×Bool)(x:X)(hrun:Run T (.call g [.yield (N+n+1),.ptr (N+n) 0] (S x++(U x++[.cells [.ptr p 0],.loop .ready none e ps a bb]))) fun o=>∃ τ',o.σ=AH (fun x=>S x++(U x++[.cells [.ptr p 0],.loop .ready none e ps a bb])) (fun x=>S x++(UD x++[.cells [.ptr p 0],.loop .done (some J) e ps a bb])) r++τ')(K:KJ)(hT:∀ τ,r.2=true->K none e (S r.1++(U r.1++(.cells [.ptr p 0]::.dead::τ))))(hD:∀ τ,r.2=false->K (some J) e (S r.1++(UD r.1++(.cells [.ptr p 0]::.dead::τ)))):
  rK (K:=⟨K⟩) T (.rangeFunc (.t k) ps a bb) e (S x++(U x++[.cells [.ptr p 0]])):=by
 have hlen:(S x++(U x++[ABlk.cells [.ptr p 0]])).length=N+n+1:=by simp[hS.len,hU];omega
 have hout:∀ (A W:St) (lp:ABlk) (τ':St),A.length=N->W.length=n->(A++(W++[ABlk.cells [.ptr p 0],lp])++τ')[N+n+1]? = some lp/\(A++(W++[ABlk.cells [.ptr p 0],lp])++τ').set (N+n+1) .dead=A++(W++(.cells [.ptr p 0]::.dead::τ')):=by
  intro A W lp τ' hA hW;have h1:N+n+1=(A++W).length+1:=by simp[hA,hW]
  have h2:A++(W++[ABlk.cells [.ptr p 0],lp])++τ'=(A++W)++(.cells [.ptr p 0]::lp::τ'):=by simp
  rw[h1,h2];constructor
  ·rw[mZ];rfl
  ·rw[m5];simp
 refine HS (by rw[PE,ek]) (by
  rw[hlen,List.append_assoc (S x),List.append_assoc (U x)]
  exact hrun) fun o ho=>?_
 obtain⟨τ',hσ⟩:=ho;rw[hlen,hσ];cases hr2:r.2
 ·have hD':=hD τ' hr2;obtain⟨g1,g2⟩:=hout (S r.1) (UD r.1) (.loop .done (some J) e ps a bb) τ' (hS.len _) (hUD _);simp only[AH,hr2,Bool.false_eq_true,if_false];rw[g1,g2];exact⟨_,_,_,_,_,_,rfl,by simp,hD'⟩
 ·have hT':=hT τ' hr2;obtain⟨g1,g2⟩:=hout (S r.1) (U r.1) (.loop .ready none e ps a bb) τ' (hS.len _) (hU _);simp only[AH,hr2,if_true];rw[g1,g2];exact⟨_,_,_,_,_,_,rfl,by simp,hT'⟩
theorem S2{X A:Type}{S:X->St}{obj:List AV}{p N:Nat}(hS:ObjAt S obj p N)(U UD:X->St)(n:Nat)(hU:∀ x,(U x).length=n)(hUD:∀ x,(UD x).length=n)(J:AJump)(e:Env)(ps:List Nat)(args:A->List AV)(hps:∀ t,ps.length=(args t).length)(a bb:ACode){P:A->Prop}{f:A->X->X×Bool}(h:∀ t,P t->∀ x τ,wp T a (lD e ps (args t)) (S x++(U x++(.cells [.ptr p 0]::.loop .ready none e ps a bb::τ))) (fun j e' σ'=>j=none/\∃ τ1,σ'=S x++(U x++(.cells [.ptr p 0]::.loop .ready none e ps a bb::(τ++τ1))) /\
   wp T bb e' (S x++(U x++(.cells [.ptr p 0]::.loop .busy none e ps a bb::(τ++τ1)))) (fun j e'' σ''=>((f t x).2=true/\j=none/\∃ τ',σ''=S (f t x).1++(U (f t x).1++(.cells [.ptr p 0]::.loop .busy none e ps a bb::(τ++τ')))) \/
    ((f t x).2=false/\j=some J/\∃ τ',σ''=S (f t x).1++(UD (f t x).1++(.cells [.ptr p 0]::.loop .busy none e ps a bb::(τ++τ'))))))):
  E7 (fun x=>S x++(U x++[.cells [.ptr p 0],.loop .ready none e ps a bb])) (fun x=>S x++(UD x++[.cells [.ptr p 0],.loop .done (some J) e ps a bb])) (N+n+1) args P f:=by
 intro t ht x τ;have hget:∀ (A W:St) (lp:ABlk) (υ:St),A.length=N->W.length=n->(A++(W++(ABlk.cells [.ptr p 0]::lp::υ)))[N+n+1]? = some lp:=by
  intro A W lp υ hA hW;have h1:N+n+1=(A++W).length+1:=by simp[hA,hW]
  rw[h1,<-List.append_assoc,mZ];rfl
 have hset:∀ (A W:St) (lp l2:ABlk) (υ:St),A.length=N->W.length=n->(A++(W++(ABlk.cells [.ptr p 0]::lp::υ))).set (N+n+1) l2=A++(W++(ABlk.cells [.ptr p 0]::l2::υ)):=by
  intro A W lp l2 υ hA hW;have h1:N+n+1=(A++W).length+1:=by simp[hA,hW]
  rw[h1,<-List.append_assoc,m5];simp
 obtain⟨r,hr⟩:∃ r,f t x=r:=⟨_,rfl⟩;have h:=h t ht x τ;rw[hr] at h ⊢;have hst:(fun x=>S x++(U x++[ABlk.cells [.ptr p 0],.loop .ready none e ps a bb])) x++τ=S x++(U x++(.cells [.ptr p 0]::.loop .ready none e ps a bb::τ)):=by simp
 rw[hst];refine .round (env:=e) (ps:=ps) (a:=a) (b:=bb)
  (R:=fun o=>o.j=none/\∃ τ1,o.σ=S x++(U x++(.cells [.ptr p 0]::.loop .ready none e ps a bb::(τ++τ1)))/\wp T bb o.env (S x++(U x++(.cells [.ptr p 0]::.loop .busy none e ps a bb::(τ++τ1)))) (fun j e'' σ''=>(r.2=true/\j=none/\∃ τ',σ''=S r.1++(U r.1++(.cells [.ptr p 0]::.loop .busy none e ps a bb::(τ++τ')))) \/
    (r.2=false/\j=some J/\∃ τ',σ''=S r.1++(UD r.1++(.cells [.ptr p 0]::.loop .busy none e ps a bb::(τ++τ'))))))
  (S:=fun o=>(r.2=true/\o.j=none/\∃ τ',o.σ=S r.1++(U r.1++(.cells [.ptr p 0]::.loop .busy none e ps a bb::(τ++τ'))))\/(r.2=false/\o.j=some J/\∃ τ',o.σ=S r.1++(UD r.1++(.cells [.ptr p 0]::.loop .busy none e ps a bb::(τ++τ'))))) (hget _ _ _ _ (hS.len _) (hU _)) (by rw[hps t]) (gS h fun o ho=>ho) ?_ ?_ ?_
 ·rintro o ⟨hj,τ1,hσ,_⟩;exact⟨hj,by rw[hσ];exact hget _ _ _ _ (hS.len _) (hU _)⟩
 ·rintro o ⟨_,τ1,hσ,hw⟩;rw[hσ,hset _ _ _ _ _ (hS.len _) (hU _)];exact gS hw fun o ho=>ho
 ·rintro o (⟨hr2,hj,τ',hσ⟩|⟨hr2,hj,τ',hσ⟩)
  ·rw[hσ,hj,hget _ _ _ _ (hS.len _) (hU _),hset _ _ _ _ _ (hS.len _) (hU _)];refine⟨rfl,by rw[hr2];rfl,τ',?_⟩;simp[AH,hr2]
  ·rw[hσ,hj,hget _ _ _ _ (hS.len _) (hUD _),hset _ _ _ _ _ (hS.len _) (hUD _)];refine⟨rfl,by rw[hr2];rfl,τ',?_⟩;simp[AH,hr2]
end Go.Am.Room
set_option maxRecDepth 8000
namespace Go.Am.Room.Fa
def fS:=zz @aJ (zz @dH (zz @List.length_append.{0} (zz @dL (zz @d7 (zz @d6 (zz @iR (zz @d8 (zz @Nat.mul_one (zz @Int.toNat_natCast (zz @dY (zz @dW (zz @dZ (zz @d4 (zz @d5 (zz @dV (zz @j4 (zz @jZ (zz @j3 (zz @y9 (zz @zB (zz @nX (@nZ))))))))))))))))))))))
theorem vR(l:List Int)(n:Int):rl (l++[n])=iB (rl l) l.length n:=by
 funext i;simp only[rl,iB];by_cases h:i=l.length
 ·subst h;simp
 ·rw[if_neg h];by_cases h2:i<l.length
  ·rw[List.getElem?_append_left h2]
  ·rw[List.getElem?_eq_none (by simp;omega),List.getElem?_eq_none (by omega)]
theorem sF(l:List Int):iB (rl l) l.length 0=rl l:=by
 funext i;simp only[iB];split
 ·rename_i h;subst h;simp[rl]
 ·rfl
theorem HN{a b:List Int}(h1:a.length=b.length)(h2:a.length<=7):((List.range 7).all fun i=>rl a i==rl b i)=decide (b=a):=by
 rw[Bool.eq_iff_iff,List.all_eq_true,decide_eq_true_eq];constructor
 ·intro h;refine List.ext_getElem h1.symm fun i hi1 hi2=>?_
  have:=h i (by simp;omega);rw[beq_iff_eq,J7 (by omega),J7 (by omega)] at this;exact this.symm
 ·rintro rfl i _;simp
theorem n6{A X:Type}[DecidableEq A](f:A->X->X×Bool):∀ (az:List A) (o:Option A) (x:X) (u:A),(bE (fI f) az (o,x)).1.1=some u->o=some u\/u∈az
 |[],o,x,u,h=>.inl h
 |a::az,o,x,u,h=>by
  simp only[bE,fI] at h;by_cases ho:o=some a
  ·simp only[ho,if_true] at h;rcases n6 f az (some a) x u h with h|h
   ·exact .inl (ho.trans h)
   ·exact .inr (by simp[h])
  ·simp only[ho,if_false] at h;split at h
   ·rcases n6 f az (some a) _ u h with h|h
    ·simp at h;exact .inr (by simp[h])
    ·exact .inr (by simp[h])
   ·simp at h;exact .inr (by simp[h])
theorem qC:∀ (rs:List Span) (l c:List Int),c∈cC rs l->c.length=l.length+rs.length
 |[],l,c,h=>by simp only[cC,List.mem_singleton] at h;simp[h]
 |s::rs,l,c,h=>by
  simp only[cC,List.mem_flatMap] at h;obtain⟨n,_,hc⟩:=h;have:=qC rs _ c hc;simp at this ⊢;omega
def kM:List SK:=List.replicate 7 .i
theorem dG:[SK.i,.i,.i,.i,.i,.i,.i]=List.replicate 7 .i:=rfl
structure WFam {X:Type} (Z:X->St) (v:Farm) (b m p q N:Nat):Prop where
 len:∀ x,(Z x).length=N
 atp:∀ x τ,aH (Z x++τ) p=some (db v b m)
 atq:∀ x τ,aH (Z x++τ) q=some [.ptr p 0]
namespace WFam
variable {X:Type} {Z:X->St} {v:Farm} {b m p q N:Nat}
theorem base(h:WFam Z v b m p q N)(x:X)(τ:St)(k:Nat):aH (Z x++τ) (N+k)=aH τ k:=by rw[<-h.len x];exact nG _ _ _
theorem base0(h:WFam Z v b m p q N)(x:X)(τ:St):aH (Z x++τ) N=aH τ 0:=h.base x τ 0
theorem bset(h:WFam Z v b m p q N)(x:X)(τ:St)(k:Nat)(y:ABlk):(Z x++τ).set (N+k) y=Z x++τ.set k y:=by rw[<-h.len x];exact m5 _ _ _ _
theorem bset0(h:WFam Z v b m p q N)(x:X)(τ:St)(y:ABlk):(Z x++τ).set N y=Z x++τ.set 0 y:=h.bset x τ 0 y
end WFam
def u5(q N:Nat):AV:=.func 468 [] [.ptr q 0,.ptr (N+3) 0,.ptr (N+1) 0,.ptr (N+2) 0,.ptr N 0,.ptr (N+4) 0]
theorem rT(q N:Nat):u5 q N = .func 468 [] [.ptr q 0,.ptr (N+3) 0,.ptr (N+1) 0,.ptr (N+2) 0,.ptr N 0,.ptr (N+4) 0]:=by simp only[u5]
def iH(id q N:Nat)(o:Option (List Int))(A:Nat->Int):St:=[.cells [.yield id],.cells (aZ 7 A),.cells (aZ 7 (rl (o.getD []))),.cells [.bool o.isNone],.cells [u5 q N]]
theorem cX(id q N:Nat)(o:Option (List Int))(A:Nat->Int)(τ:St):iH id q N o A++τ = .cells [.yield id]::.cells (aZ 7 A)::.cells (aZ 7 (rl (o.getD [])))::.cells [.bool o.isNone]::.cells [u5 q N]::τ:=by simp[iH]
def w7{X:Type}(Z ZD:X->St)(id q N:Nat)(l:List Int)(r:(Option (List Int)×X)×Bool)(o:Out):Prop :=
 o.v = .bool r.2/\∃ A τ',o.σ=AH Z ZD (r.1.2,r.2)++(iH id q N r.1.1 A++τ')/\(r.2=true->A=rl l)
def aDS{X:Type}(Z:X->St)(f:List Int->X->X×Bool)(v:Farm)(q id N:Nat)(l:List Int)(s:Span)(rs:List Span)(R:(Option (List Int)×X)×Bool)(k:Nat)(e:Env)(σ:St):Prop :=
 Env.get e 0 = .int .i64 l.length/\Env.get e 1 = .ptr q 0/\Env.get e 3 = .ptr (N+1) 0/\Env.get e 6 = .ptr (N+4) 0/\∃ n o x c τ,Env.get e 9 = .int .i64 n/\s.lo<=n/\n<=s.hi+1/\k=(s.hi+1-n).toNat/\(∀ u,o=some u->u.length=v.rain.length) /\
   σ=Z x++(iH id q N o (iB (rl l) l.length c)++τ)/\bE (fI f) ((aL n k).flatMap fun n=>cC rs (l++[n])) (o,x)=R
theorem wY{X:Type}{Z ZD:X->St}{v:Farm}{b m p q id N:Nat}(hR:WFam Z v b m p q N)(f:List Int->X->X×Bool)(hy:E7 Z ZD id (fun t=>[.agg (aZ 7 (rl t))]) (RainOk v) f)(hv:Vd v):
  ∀ (rs:List Span) (l:List Int) (o:Option (List Int)) (x:X) (τ:St),rs=v.rain.drop l.length->l.length<=v.rain.length->(∀ i (h:i<v.rain.length),i<l.length->v.rain[i].lo<=rl l i/\rl l i<=v.rain[i].hi)->(∀ u,o=some u->u.length=v.rain.length) ->
   Run T (.callv (u5 q N) [.int .i64 l.length] (Z x++(iH id q N o (rl l)++τ))) (w7 Z ZD id q N l (bE (fI f) (cC rs l) (o,x)))
 |[],l,o,x,τ,hrs,hl,hbd,ho=>by
  have hl2:l.length=v.rain.length:=by
   have:=congrArg List.length hrs;simp at this;omega
  have hro:RainOk v l:=⟨hl2,fun i h=>hbd i h (by omega)⟩;have hnr:=hv.nra;simp only[cC,IU,rT];refine .callf (.call (af:=IF) rfl (by simp[IF]) (gS (K:=fun j e σ'=>(j=none\/j=some .ret)/\w7 Z ZD id q N l (fI f l (o,x)) ⟨none,[],σ',Env.get e 8⟩) ?_ fun o ho=>ho) fun w hw=>⟨hw.1,_,rfl,.inl hw.2⟩);have hE:((l.length:Int)==(v.rain.length:Int))=true:=by rw[hl2];simp
  rw[cX];cases o with
  |none =>
   have hon:fI f l (none,x)=((some l,(f l x).1),(f l x).2):=by simp[fI]
   rw[hon];have hcall:=hy l hro x;obtain⟨r,hr⟩:∃ r,f l x=r:=⟨_,rfl⟩;rw[hr] at hcall ⊢
   (repeat (first|simp only[↓QA,QB,reduceLT,reduceIte,reduceEqDiff,reduceAdd,reduceLeDiff,reduceMul,Nat.reduceBEq,fS,hR.base,hR.base0,hR.bset,hR.bset0,hR.atp,hR.atq,kM,dG,IF,hE,Option.isNone_none,Option.getD_none]|refine rd0 rfl ?_))
   refine .mono (hcall _) fun w hw=>?_
   obtain⟨hw1,τ',hw2⟩:=hw;rw[hw1,hw2]
   (repeat (first|simp only[↓QA,QB,reduceLT,reduceIte,reduceEqDiff,reduceAdd,reduceLeDiff,reduceMul,Nat.reduceBEq,fS,hR.base,hR.base0,hR.bset,hR.bset0,hR.atp,hR.atq,kM,dG]|refine rd0 rfl ?_))
   exact⟨rfl,rl l,τ++τ',by simp[iH],fun _=>rfl⟩
  |some u =>
   have hul:=ho u rfl;have heq:bQ (List.replicate 7 .i) (aZ 7 (rl l)) (aZ 7 (rl u))=some (decide (u=l)):=by
    rw[FA,HN (by omega) (by omega)]
   by_cases hu:u=l
   ·subst hu;have hon:fI f u (some u,x)=((some u,x),true):=by simp[fI]
    rw[hon];have hdt:decide (u=u)=true:=by simp
    rw[hdt] at heq
    (repeat (first|simp only[↓QA,QB,reduceLT,reduceIte,reduceEqDiff,reduceAdd,reduceLeDiff,reduceMul,Nat.reduceBEq,fS,hR.base,hR.base0,hR.bset,hR.bset0,hR.atp,hR.atq,kM,dG,IF,hE,heq,Option.isNone_some,Option.getD_some]|refine rd0 rfl ?_))
    exact⟨rfl,rl u,τ,by simp[iH,AH],fun _=>rfl⟩
   ·have hon:fI f l (some u,x)=((some l,(f l x).1),(f l x).2):=by simp[fI,hu]
    rw[hon];have hdt:decide (u=l)=false:=by simpa using hu
    rw[hdt] at heq;have hcall:=hy l hro x;obtain⟨r,hr⟩:∃ r,f l x=r:=⟨_,rfl⟩;rw[hr] at hcall ⊢
    (repeat (first|simp only[↓QA,QB,reduceLT,reduceIte,reduceEqDiff,reduceAdd,reduceLeDiff,reduceMul,Nat.reduceBEq,fS,hR.base,hR.base0,hR.bset,hR.bset0,hR.atp,hR.atq,kM,dG,IF,hE,heq,Option.isNone_some,Option.getD_some]|refine rd0 rfl ?_))
    refine .mono (hcall _) fun w hw=>?_
    obtain⟨hw1,τ',hw2⟩:=hw;rw[hw1,hw2]
    (repeat (first|simp only[↓QA,QB,reduceLT,reduceIte,reduceEqDiff,reduceAdd,reduceLeDiff,reduceMul,Nat.reduceBEq,fS,hR.base,hR.base0,hR.bset,hR.bset0,hR.atp,hR.atq,kM,dG]|refine rd0 rfl ?_))
    exact⟨rfl,rl l,τ++τ',by simp[iH],fun _=>rfl⟩
 |s::rs,l,o,x,τ,hrs,hl,hbd,ho=>by
  have hlt:l.length<v.rain.length:=by
   have:=congrArg List.length hrs;simp at this;omega
  have hdr:=List.drop_eq_getElem_cons hlt;rw[<-hrs] at hdr;have hs:v.rain[l.length]=s:=by have:=(List.cons.inj hdr).1;exact this.symm
  have hrs2:rs=v.rain.drop (l.length+1):=(List.cons.inj hdr).2;have hra:=hv.ra _ (List.getElem_mem hlt);rw[hs] at hra;have hnr:=hv.nra;have hE:((l.length:Int)==(v.rain.length:Int))=false:=by simp;omega
  have hlen7:l.length<7:=by omega
  have i7:(0:Int)<=(l.length:Int)/\(l.length:Int)<((7:Nat):Int):=⟨by omega,by omega⟩;have c7:l.length+1<=7:=by omega
  have hwd:IntKind.i64.wrap ((l.length:Int)+1)=((l.length+1:Nat):Int):=bD hlt (by omega)
  have ih:=fun (n:Int) (hn:s.lo<=n/\n<=s.hi) (o:Option (List Int)) (x:X) (τ:St) (ho:∀ u,o=some u->u.length=v.rain.length)=>wY hR f hy hv rs (l++[n]) o x τ (by rw[hrs2];simp) (by simp;omega) (fun i h hi=>by
   rw[vR];simp only[iB];by_cases e:i=l.length
   ·subst e;rw[if_pos rfl,hs];exact hn
   ·rw[if_neg e]
    exact hbd i h (by simp at hi;omega)) ho
  obtain⟨R,hRR⟩:∃ R,bE (fI f) (cC (s::rs) l) (o,x)=R:=⟨_,rfl⟩;rw[hRR];simp only[cC,jY] at hRR;simp only[rT];refine .callf (.call (af:=IF) rfl (by simp[IF]) (gS (K:=fun j e σ'=>(j=none\/j=some .ret)/\w7 Z ZD id q N l R ⟨none,[],σ',Env.get e 8⟩) ?_ fun o ho=>ho) fun w hw=>⟨hw.1,_,rfl,.inl hw.2⟩);rw[cX]
  (repeat (first|simp only[↓QA,QB,reduceLT,reduceIte,reduceEqDiff,reduceAdd,reduceLeDiff,reduceMul,Nat.reduceBEq,fS,hR.base,hR.base0,hR.bset,hR.bset0,hR.atp,hR.atq,kM,dG,IF,hE,hlt,hs]|refine rd0 rfl ?_))
  refine aI7 (aDS Z f v q id N l s rs R) ?_ (s.hi+1-s.lo).toNat _ _ ?_
  ·rintro k e σ ⟨e0,e1,e3,e6,n,o,x,c,τ,e9,hn0,hn1,hk,ho,rfl,hq⟩;subst hk;have hst:=oJ 7 (iB (rl l) l.length c) n hlen7;rw[CJ,<-vR l n] at hst;have hst0:=oJ 7 (iB (rl l) l.length c) 0 hlen7;rw[CJ,sF] at hst0;rw[cX]
   (repeat (first|simp only[↓QA,QB,reduceLT,reduceIte,reduceEqDiff,reduceAdd,reduceLeDiff,reduceMul,Nat.reduceBEq,fS,hR.base,hR.base0,hR.bset,hR.bset0,hR.atp,hR.atq,kM,dG,ZX,e0,e1,e3,e6,e9,hlt,hs]|refine rd0 rfl ?_))
   refine aE (fun h=>?_) fun h=>?_
   ·have hn2:n<=s.hi:=by simpa using h
    have hwn:IntKind.i64.wrap (n+1)=n+1:=bM ⟨by omega,by omega⟩;rw[nN hn2,List.flatMap_cons,xH] at hq;have hc:=ih n ⟨hn0,hn2⟩ o x τ ho;simp only[cX,List.length_append,List.length_cons,List.length_nil,Nat.zero_add] at hc;obtain⟨r,hr⟩:∃ r,bE (fI f) (cC rs (l++[n])) (o,x)=r:=⟨_,rfl⟩;rw[hr] at hq hc
    (repeat (first|simp only[↓QA,QB,reduceLT,reduceIte,reduceEqDiff,reduceAdd,reduceLeDiff,reduceMul,Nat.reduceBEq,fS,hR.base,hR.base0,hR.bset,hR.bset0,hR.atp,hR.atq,kM,dG,e0,e1,e3,e6,e9,i7,c7,Nat.zero_add,hst,hwd]|refine rd0 rfl ?_))
    refine .mono hc fun w hw=>?_
    obtain⟨hw1,A,τ',hw2,hw3⟩:=hw;rw[hw1,hw2];cases hr2:r.2
    ·rw[hr2] at hq;simp only[Bool.false_eq_true,if_false] at hq
     (repeat (first|simp only[↓QA,QB,reduceLT,reduceIte,reduceEqDiff,reduceAdd,reduceLeDiff,reduceMul,Nat.reduceBEq,fS,hR.base,hR.base0,hR.bset,hR.bset0,hR.atp,hR.atq,kM,dG,e0,e1,e3,e6,e9]|refine rd0 rfl ?_))
     rw[<-hq];exact⟨rfl,A,τ',by simp[AH],fun h=>by cases h⟩
    ·rw[hr2] at hq;simp only[if_true] at hq;have hA:=hw3 hr2;rw[hA];simp only[AH,if_true];rw[cX];have hlr:l.length+1+rs.length=v.rain.length:=by rw[hrs2];simp;omega
     (repeat (first|simp only[↓QA,QB,reduceLT,reduceIte,reduceEqDiff,reduceAdd,reduceLeDiff,reduceMul,Nat.reduceBEq,fS,hR.base,hR.base0,hR.bset,hR.bset0,hR.atp,hR.atq,kM,dG,e0,e1,e3,e6,e9,hwn]|refine rd0 rfl ?_))
     refine⟨(s.hi+1-(n+1)).toNat,by omega,?_,?_,?_,?_,n+1,r.1.1,r.1.2,n,τ',?_,by omega,by omega,rfl,fun u hu=>?_,?_,hq⟩
     ·try simp only[aB,QE,reduceLT,reduceIte,reduceEqDiff,reduceAdd,reduceLeDiff,reduceMul,Nat.reduceBEq,fS,hR.base,hR.base0,hR.bset,hR.bset0,hR.atp,hR.atq,kM,dG,e0]
     ·try simp only[aB,QE,reduceLT,reduceIte,reduceEqDiff,reduceAdd,reduceLeDiff,reduceMul,Nat.reduceBEq,fS,hR.base,hR.base0,hR.bset,hR.bset0,hR.atp,hR.atq,kM,dG,e1]
     ·try simp only[aB,QE,reduceLT,reduceIte,reduceEqDiff,reduceAdd,reduceLeDiff,reduceMul,Nat.reduceBEq,fS,hR.base,hR.base0,hR.bset,hR.bset0,hR.atp,hR.atq,kM,dG,e3]
     ·try simp only[aB,QE,reduceLT,reduceIte,reduceEqDiff,reduceAdd,reduceLeDiff,reduceMul,Nat.reduceBEq,fS,hR.base,hR.base0,hR.bset,hR.bset0,hR.atp,hR.atq,kM,dG,e6]
     ·try simp only[aB,QE,reduceLT,reduceIte,reduceEqDiff,reduceAdd,reduceLeDiff,reduceMul,Nat.reduceBEq,fS,hR.base,hR.base0,hR.bset,hR.bset0,hR.atp,hR.atq,kM,dG]
     ·rw[<-hr] at hu;rcases n6 f _ o x u hu with h|h
      ·exact ho u h
      ·have:=qC _ _ _ h;simp at this;omega
     ·rw[cX,vR]
   ·have hn2:¬n<=s.hi:=by simpa using h
    rw[qX hn2,List.flatMap_nil] at hq;simp only[bE] at hq
    (repeat (first|simp only[↓QA,QB,reduceLT,reduceIte,reduceEqDiff,reduceAdd,reduceLeDiff,reduceMul,Nat.reduceBEq,fS,hR.base,hR.base0,hR.bset,hR.bset0,hR.atp,hR.atq,kM,dG,e0,e1,e3,e6,e9,i7,c7,Nat.zero_add,hst0]|refine rd0 rfl ?_))
    rw[<-hq];exact⟨rfl,rl l,τ,by simp[AH,iH],fun _=>rfl⟩
  ·refine⟨?_,?_,?_,?_,s.lo,o,x,0,τ,?_,Int.le_refl _,by omega,rfl,ho,?_,hRR⟩
   ·try simp only[aB,QE,reduceLT,reduceIte,reduceEqDiff,reduceAdd,reduceLeDiff,reduceMul,Nat.reduceBEq,fS,hR.base,hR.base0,hR.bset,hR.bset0,hR.atp,hR.atq,kM,dG]
   ·try simp only[aB,QE,reduceLT,reduceIte,reduceEqDiff,reduceAdd,reduceLeDiff,reduceMul,Nat.reduceBEq,fS,hR.base,hR.base0,hR.bset,hR.bset0,hR.atp,hR.atq,kM,dG]
   ·try simp only[aB,QE,reduceLT,reduceIte,reduceEqDiff,reduceAdd,reduceLeDiff,reduceMul,Nat.reduceBEq,fS,hR.base,hR.base0,hR.bset,hR.bset0,hR.atp,hR.atq,kM,dG]
   ·try simp only[aB,QE,reduceLT,reduceIte,reduceEqDiff,reduceAdd,reduceLeDiff,reduceMul,Nat.reduceBEq,fS,hR.base,hR.base0,hR.bset,hR.bset0,hR.atp,hR.atq,kM,dG]
   ·try simp only[aB,QE,reduceLT,reduceIte,reduceEqDiff,reduceAdd,reduceLeDiff,reduceMul,Nat.reduceBEq,fS,hR.base,hR.base0,hR.bset,hR.bset0,hR.atp,hR.atq,kM,dG]
   ·rw[cX,sF]
theorem KP{X:Type}{Z ZD:X->St}{v:Farm}{b m p q id N:Nat}(hR:WFam Z v b m p q N)(f:List Int->X->X×Bool)(hy:E7 Z ZD id (fun t=>[.agg (aZ 7 (rl t))]) (RainOk v) f)(hv:Vd v)(x:X):
  Run T (.call 467 [.yield id,.ptr q 0] (Z x)) fun o=>∃ τ',o.σ=AH Z ZD (bE f (cC v.rain []) x)++τ':=by
 have hn:=wY hR f hy hv v.rain [] none x [] (by simp) (by simp) (fun i h hi=>by simp at hi) (fun u hu=>by cases hu);have hl:=hR.len x;have hz:[AV.int .i64 0,.int .i64 0,.int .i64 0,.int .i64 0,.int .i64 0,.int .i64 0,.int .i64 0]=aZ 7 (rl []):=by simp[aZ,rl,List.range_succ]
 obtain⟨ho1,ho2⟩:=rA f (cC v.rain []) none x (tA _ _) (fun a _ h=>by cases h);have hend:∀ w,w7 Z ZD id q N [] (bE (fI f) (cC v.rain []) (none,x)) w->∃ τ',w.σ=AH Z ZD (bE f (cC v.rain []) x)++τ':=by
  rintro w ⟨_,A,τ',h2,_⟩;refine⟨iH id q N (bE (fI f) (cC v.rain []) (none,x)).1.1 A++τ',?_⟩;rw[h2,show ((bE (fI f) (cC v.rain []) (none,x)).1.2,(bE (fI f) (cC v.rain []) (none,x)).2)=bE f (cC v.rain []) x from Prod.ext ho1 ho2]
 rw[cX,rT] at hn;simp only[List.length_nil,Option.getD_none,Option.isNone_none] at hn;refine .call (af:=YD) rfl (by simp[YD]) (gS (K:=fun j e σ'=>(j=none\/j=some .ret)/\∃ τ',σ'=AH Z ZD (bE f (cC v.rain []) x)++τ') ?_ fun o ho=>ho) fun o ho=>⟨ho.1,_,rfl,.inl ho.2⟩
 try simp only[↓QA,QB,seval,fS,hR.base,hR.base0,hR.bset,hR.bset0,hR.atp,hR.atq,kM,dG,YD,hl,hz]
 refine .mono hn fun w hw=>?_
 have:=hend w hw;try simp only[↓QA,QB,seval,fS,hR.base,hR.base0,hR.bset,hR.bset0,hR.atp,hR.atq,kM,dG]
 exact this
end Go.Am.Room.Fa
namespace Go.Am.Room.Fa
def eqT(t u:Truth):Bool:=(List.range 7).all fun i=>rl t.rain i==rl u.rain i
def EN(t:Truth):List Truth->List Truth
 |[]=>[t]
 |u::us=>if eqT t u=true then t::us else u::EN t us
def wA(t:Truth):AV:=.agg (aZ 7 (rl t.rain))
def BD(t:Truth):AV:=.agg (aZ 4 (fun q=>(gN (jO t q):Int)))
def kvT(t:Truth):AV×AV:=(wA t,BD t)
theorem aBG(t u:Truth):lE (.agg (List.replicate 7 .i)) (wA t) (wA u)=some (eqT t u):=by
 have:=FA 7 (rl t.rain) (rl u.rain);simp only[wA,lE,this,eqT]
theorem GZ(t:Truth):∀ ts:List Truth,nC (.agg (List.replicate 7 .i)) (wA t) (BD t) (ts.map kvT)=some ((EN t ts).map kvT)
 |[]=>rfl
 |u::us=>by
  have ih:=GZ t us;simp only[List.map_cons,nC,kvT,aBG,EN] at ih ⊢;cases h:eqT t u
  ·simp only[Bool.false_eq_true,if_false,List.map_cons,kvT];simp only[ih,Option.map_some]
  ·simp only[if_true,List.map_cons,kvT]
theorem MQ{t:Truth}:∀ {ts:List Truth},(∀ u∈ts,eqT t u=false)->EN t ts=ts++[t]
 |[],_=>rfl
 |u::us,h=>by
  simp only[EN,h u (by simp),Bool.false_eq_true,if_false,List.cons_append];rw[MQ fun w hw=>h w (by simp[hw])]
def EK(v:Farm)(bl c:List Int)(ts:List Truth):List Truth:=match kX v bl c with|some t=>EN t ts|none=>ts
theorem LZ{v:Farm}{bl c:List Int}{t:Truth}(h:kX v bl c=some t):t.rain=c:=by
 simp only[kX] at h;split at h
 ·simp only[Option.some.injEq] at h;subst h;rfl
 ·cases h
theorem LT{v:Farm}{bl:List Int}{G:Nat}(hG:G<=7):∀ (cs:List (List Int)) (acc:List Truth),cs.Pairwise (·≠·)->(∀ c∈cs,c.length=G)->(∀ u∈acc,u.rain.length=G/\u.rain∉cs) ->
  cs.foldl (fun ts c=>EK v bl c ts) acc=acc++cs.filterMap (kX v bl)
 |[],acc,_,_,_=>by simp
 |c::cs,acc,hp,hl,ha=>by
  obtain⟨h1,h2⟩:=List.pairwise_cons.1 hp;rw[List.foldl_cons,List.filterMap_cons];cases ht:kX v bl c with
  |none =>
   simp only[EK,ht];exact LT hG cs acc h2 (fun c hc=>hl c (by simp[hc])) fun u hu=>⟨(ha u hu).1,fun h=>(ha u hu).2 (by simp[h])⟩
  |some t =>
   have hr:=LZ ht;have hcl:=hl c (by simp);have hnew:EN t acc=acc++[t]:=MQ fun u hu=>by
    obtain⟨q1,q2⟩:=ha u hu;rw[eqT,HN (by rw[hr,hcl,q1]) (by rw[hr,hcl];exact hG),hr];simp only[decide_eq_false_iff_not];intro e;exact q2 (by simp[e])
   have e:EK v bl c acc=acc++[t]:=by simp only[EK,ht,hnew]
   rw[e,LT hG cs (acc++[t]) h2 (fun c hc=>hl c (by simp[hc])) fun u hu=>?_]
   ·simp
   ·rcases List.mem_append.1 hu with hu|hu
    ·exact⟨(ha u hu).1,fun h=>(ha u hu).2 (by simp[h])⟩
    ·simp only[List.mem_singleton] at hu;subst hu;rw[hr];exact⟨hcl,fun h=>h1 c h rfl⟩
theorem PU{v:Farm}(hv:Vd v)(bl:List Int):(cC v.rain []).foldl (fun ts c=>EK v bl c ts) []=truths v bl:=by
 rw[LT (G:=v.rain.length) hv.nra.2 _ _ (tA _ _) (fun c hc=>by have:=qC _ _ _ hc;simpa using this) (by simp),H2];rfl
theorem aBV(t:Truth):j8 (wA t):=gQ (lR 7 _)
theorem ZS(t:Truth):j8 (BD t):=gQ (lR 4 _)
theorem aCY(ts:List Truth)(k:Nat):aF k (.map (ts.map kvT)):=by
 simp only[aF];intro q hq;obtain⟨t,_,rfl⟩:=List.mem_map.1 hq;exact⟨xN (aBV t) k,xN (ZS t) k⟩
theorem aF6(σ τ:St)(F:ABlk)(ts:List Truth)(t:Truth):uP (.agg (List.replicate 7 .i)) (σ++(F::.map (ts.map kvT)::τ)) (.map (σ.length+1)) (wA t) (BD t)=some (σ++(F::.map ((EN t ts).map kvT)::τ)):=by
 have h1:(σ++(F::.map (ts.map kvT)::τ))[σ.length+1]? = some (.map (ts.map kvT)):=by rw[mZ];rfl
 have h2:(σ++(F::.map (ts.map kvT)::τ)).set (σ.length+1) (.map ((EN t ts).map kvT))=σ++(F::.map ((EN t ts).map kvT)::τ):=by rw[m5];rfl
 simp only[uP,aBG,h1,GZ,Option.map_some,h2,Option.isSome_some];simp
theorem WO(v:Farm)(c bl:List Int):(fun q=>(gN (jO ⟨c,vH v c bl v.plots.length⟩ q):Int))=jR v c bl v.plots.length:=by
 funext q;simp only[jO,vH,jR];by_cases h:q<v.plots.length
 ·simp[h]
 ·simp[h,gN]
theorem SA(v:Farm)(c bl:List Int):((yL v c bl v.plots.length 0).2=true->kX v bl c=some ⟨c,vH v c bl v.plots.length⟩/\(yL v c bl v.plots.length 0).1=v.plots.length)/\((yL v c bl v.plots.length 0).2=false->kX v bl c=none):=by
 obtain⟨h1,h2⟩:=NQ v c bl v.plots.length 0;have e:sK v c bl v.plots.length=(yL v c bl v.plots.length 0).2:=by
  rw[h1,sK,vH,List.all_map]
  congr 1
  funext i;simp
 rw[zM,e];constructor
 ·intro h;rw[if_pos h];exact⟨rfl,by rw[h2 h];omega⟩
 ·intro h;rw[h];rfl
end Go.Am.Room.Fa
namespace Go.Am.Room.Fa
def AR:=zz @dE (zz @aI (zz @dC (zz @dD (zz @aJ (zz @dQ (zz @dS (zz @dH (zz @List.length_append.{0} (zz @dL (zz @d7 (zz @d6 (zz @iR (zz @d8 (zz @Nat.mul_one (zz @Int.toNat_natCast (zz @dY (zz @dW (zz @dZ (zz @d4 (zz @d5 (zz @dV (zz @j4 (zz @jZ (zz @j3 (zz @nX (zz @nZ (@dG)))))))))))))))))))))))))))
def eL(σ:St)(v:Farm)(b:Nat)(ts:List Truth):St:=σ++[.cells (aC v),.map (ts.map kvT),.cells (db v b (σ.length+1))]
theorem qO(σ:St)(v:Farm)(b:Nat)(ts:List Truth)(τ:St):eL σ v b ts++τ=σ++(.cells (aC v)::.map (ts.map kvT)::.cells (db v b (σ.length+1))::τ):=by simp[eL]
theorem OD(σ:St)(v:Farm)(b:Nat):ObjAt (eL σ v b) (db v b (σ.length+1)) (σ.length+2) (σ.length+3) :=
 ⟨fun ts=>by simp[eL],fun ts=>by rw[eL,nG];rfl,by omega⟩
theorem K3(σ:St)(p:Nat):yK T (.func 353 [] []) [.ptr p 0] σ (.func 467 [] [.ptr σ.length 0]) (σ++[.cells [.ptr p 0]]):=by
 refine .callf (.call (af:=X5) rfl (by simp[X5]) (gS (K:=fun j e σ1=>(j=none\/j=some .ret)/\Env.get e 2 = .func 467 [] [.ptr σ.length 0]/\σ1=σ++[.cells [.ptr p 0]]) ?_ fun o ho=>ho) fun o ho=>?_)
 ·try simp only[↓QA,QB,seval,AR,X5]
  try simp
 ·exact⟨ho.1,_,rfl,.inl ⟨ho.2.1,ho.2.2⟩⟩
theorem OF(σ:St)(v:Farm)(b:Nat)(bl:List Int)(hv:Vd v)(hb:ButIs b bl)(e:Env)(e5:Env.get e 5 = .ptr (σ.length+3) 0):
  E7 (fun ts=>eL σ v b ts++([.cells [.ptr (σ.length+2) 0]]++[.cells [.ptr (σ.length+2) 0],.loop .ready none e [16] (.reg [⟨(some 6),.alloc [(.int .i64 0),(.int .i64 0),(.int .i64 0),(.int .i64 0),(.int .i64 0),(.int .i64 0),(.int .i64 0)],none⟩,⟨none,.store 7 (.t 6) (.t 16),none⟩]) CH]))
   (fun ts=>eL σ v b ts++([.cells [.ptr (σ.length+2) 0]]++[.cells [.ptr (σ.length+2) 0],.loop .done (some .ret) e [16] (.reg [⟨(some 6),.alloc [(.int .i64 0),(.int .i64 0),(.int .i64 0),(.int .i64 0),(.int .i64 0),(.int .i64 0),(.int .i64 0)],none⟩,⟨none,.store 7 (.t 6) (.t 16),none⟩]) CH]))
   (σ.length+3+1+1) (fun t=>[.agg (aZ 7 (rl t))]) (RainOk v) (fun c ts=>(EK v bl c ts,true)):=by
 refine S2 (OD σ v b) (fun _=>[.cells [.ptr (σ.length+2) 0]]) (fun _=>[.cells [.ptr (σ.length+2) 0]]) 1 (fun _=>rfl) (fun _=>rfl) .ret e [16] (fun t=>[.agg (aZ 7 (rl t))]) (fun _=>rfl) _ _ ?_;intro c hc ts τ;simp only[lD,Env.put];rw[qO]
 (repeat (first|simp only[↓QA,QB,reduceLT,reduceIte,reduceEqDiff,reduceAdd,reduceLeDiff,reduceMul,Nat.reduceBEq,AR]|refine rd0 rfl ?_))
 refine⟨[.cells (aZ 7 (rl c))],by simp[eL,aI],?_⟩;rw[qO];obtain⟨hg1,hg2⟩:=SA v c bl;have hfl:=fun σ' hp=>LR v hv b (σ.length+1) (σ.length+2) bl c hb hc σ' hp
 obtain⟨r,hr⟩:∃ r,yL v c bl v.plots.length 0=r:=⟨_,rfl⟩;rw[hr] at hg1 hg2;simp only[hr] at hfl;have hp:∀ (a0 a1:ABlk) (τ:St),aH (σ++(a0::a1::.cells (db v b (σ.length+1))::τ)) (σ.length+2)=some (db v b (σ.length+1)):=fun a0 a1 τ=>by rw[nG];rfl
 (repeat (first|simp only[↓QA,QB,reduceLT,reduceIte,reduceEqDiff,reduceAdd,reduceLeDiff,reduceMul,Nat.reduceBEq,AR,CH,e5]|refine rd0 rfl ?_))
 refine aS (hfl _ (hp _ _ _)) ?_;cases hr2:r.2
 ·have ht:=hg2 hr2;have ha:EK v bl c ts=ts:=by simp only[EK,ht]
  (repeat (first|simp only[↓QA,QB,reduceLT,reduceIte,reduceEqDiff,reduceAdd,reduceLeDiff,reduceMul,Nat.reduceBEq,AR]|refine rd0 rfl ?_))
  refine .inl ⟨[.cells (aZ 7 (rl c)),.cells (aZ 4 (jR v c bl r.1))],?_⟩;rw[ha];simp[eL,aI]
 ·obtain⟨ht,hr1⟩:=hg1 hr2;have ha:EK v bl c ts=EN ⟨c,vH v c bl v.plots.length⟩ ts:=by simp only[EK,ht]
  have hpm:∀ (F:ABlk) (τ:St),uP (.agg (List.replicate 7 .i)) (σ++(F::.map (ts.map kvT)::τ)) (.map (σ.length+1)) (.agg (aZ 7 (rl c))) (.agg (aZ 4 (jR v c bl v.plots.length)))=some (σ++(F::.map ((EN ⟨c,vH v c bl v.plots.length⟩ ts).map kvT)::τ)):=fun F τ=>by
   have:=aF6 σ τ F ts ⟨c,vH v c bl v.plots.length⟩;simp only[BD,WO,wA] at this;exact this
  rw[hr1]
  (repeat (first|simp only[↓QA,QB,reduceLT,reduceIte,reduceEqDiff,reduceAdd,reduceLeDiff,reduceMul,Nat.reduceBEq,AR,e5,hpm]|refine rd0 rfl ?_))
  refine .inl ⟨[.cells (aZ 7 (rl c)),.cells (aZ 4 (jR v c bl v.plots.length))],?_⟩;rw[ha];simp[eL,aI]
end Go.Am.Room.Fa
namespace Go.Am.Room.Fa
def AY:=zz @dE (zz @aI (zz @dC (zz @dD (zz @aJ (zz @dQ (zz @dS (zz @dH (zz @List.length_append.{0} (zz @Nat.mul_one (@Int.toNat_natCast))))))))))
theorem RF(σ:St)(v:Farm)(b:Nat)(bl:List Int)(hv:Vd v)(hb:ButIs b bl)(e:Env)(e5:Env.get e 5 = .ptr (σ.length+3) 0)(e15:Env.get e 15 = .func 467 [] [.ptr (σ.length+3+1) 0])(K:KJ)(σ0:St)(hσ:σ0=eL σ v b []++([.cells [.ptr (σ.length+2) 0]]++[.cells [.ptr (σ.length+2) 0]]))(hT:∀ τ,K none e (eL σ v b (truths v bl)++(.cells [.ptr (σ.length+2) 0]::τ))):
  rK (K:=⟨K⟩) T (.rangeFunc (.t 15) [16] (.reg [⟨(some 6),.alloc [(.int .i64 0),(.int .i64 0),(.int .i64 0),(.int .i64 0),(.int .i64 0),(.int .i64 0),(.int .i64 0)],none⟩,⟨none,.store 7 (.t 6) (.t 16),none⟩]) CH) e σ0:=by
 subst hσ;have hy:=OF σ v b bl hv hb e e5;have hW:WFam (fun ts=>eL σ v b ts++([.cells [.ptr (σ.length+2) 0]]++[.cells [.ptr (σ.length+2) 0],.loop .ready none e [16] (.reg [⟨(some 6),.alloc [(.int .i64 0),(.int .i64 0),(.int .i64 0),(.int .i64 0),(.int .i64 0),(.int .i64 0),(.int .i64 0)],none⟩,⟨none,.store 7 (.t 6) (.t 16),none⟩]) CH])) v b (σ.length+1) (σ.length+2) (σ.length+3+1) (σ.length+3+1+2):=by
  refine⟨fun ts=>by simp[eL],fun ts τ=>?_,fun ts τ=>?_⟩
  ·rw[List.append_assoc,qO,nG];rfl
  ·rw[List.append_assoc,qO,show σ.length+3+1=σ.length+4 from rfl,nG];rfl
 have hrun:=KP hW (fun c ts=>(EK v bl c ts,true)) hy hv [];have hit:bE (fun c ts=>(EK v bl c ts,true)) (cC v.rain []) []=(truths v bl,true):=by
  rw[A4 (fun _ _=>rfl)];simp only;rw[PU hv]
 rw[hit] at hrun;exact WA (OD σ v b) (fun _=>[.cells [.ptr (σ.length+2) 0]]) (fun _=>[.cells [.ptr (σ.length+2) 0]]) 1 (fun _=>rfl) (fun _=>rfl) .ret e 15 [16] _ _ _ e15 (truths v bl,true) [] hrun K (fun τ _=>hT _) (fun τ h=>by cases h)
theorem JL(σ:St)(v:Farm)(b:Nat)(bl:List Int)(hv:Vd v)(hb:ButIs b bl):yK T (.func 224 [] []) [encFarm v,.int .i64 b] σ (.ptr (σ.length+2) 0) (eL σ v b (truths v bl)):=by
 have hlen:∀ ts,(eL σ v b ts).length=σ.length+3:=fun ts=>by simp[eL]
 refine .callf (.call (af:=aBJ) rfl (by simp[aBJ]) (Run.trim (R:=fun o=>o.j=some .ret/\Env.get o.env 4 = .ptr (σ.length+2) 0/\∃ τ,o.σ=eL σ v b (truths v bl)++τ)
   (Q:=fun o=>o.j=some .ret/\Env.get o.env 4 = .ptr (σ.length+2) 0/\o.σ=eL σ v b (truths v bl)) (gS (K:=fun j e σ1=>j=some .ret/\Env.get e 4 = .ptr (σ.length+2) 0/\∃ τ,σ1=eL σ v b (truths v bl)++τ) ?_ fun o ho=>ho) fun o ho=>?_) fun o ho=>?_)
 ·try simp only[↓QA,QB,seval,AY,aBJ]
  refine cB (K3 _ _) ?_;try simp only[↓QA,QB,seval,AY]
  refine RF σ v b bl hv hb _ ?_ ?_ _ _ ?_ fun τ=>?_
  ·try simp only[aB,QE,seval,AY]
  ·try simp only[aB,QE,seval,AY]
   try simp
  ·simp[eL,db,aI]
  ·rw[qO];try simp only[↓QA,QB,seval,AY]
   exact⟨.cells [.ptr (σ.length+2) 0]::τ,by simp[eL,aI]⟩
 ·obtain⟨hj,h4,τ,hs⟩:=ho;refine⟨[(4,.ptr (σ.length+2) 0)],σ.length+3,⟨by omega,by rw[hs];simp[hlen],fun q hq=>?_,fun i hi=>?_⟩,hj,by simp[Env.get],?_⟩
  ·simp only[List.mem_singleton] at hq;subst hq;exact⟨h4.symm,by simp[okV]⟩
  ·rw[hs];by_cases h:i<σ.length
   ·refine .inl ⟨h,.inl ?_⟩;rw[qO,List.getElem?_append_left h]
   ·refine .inr ?_;obtain⟨k,rfl⟩:∃ k,i=σ.length+k:=⟨i-σ.length,by omega⟩;rw[qO,mZ];have hk:k<3:=by omega
    match k,hk with
    |0,_=>exact⟨_,rfl,okVs_up _ (s9 v).1⟩
    |1,_=>exact⟨_,rfl,aCY _ _⟩
    |2,_=>exact⟨_,rfl,aNJ v b (by omega)⟩
  ·simp only;rw[hs,<-hlen (truths v bl),List.take_left]
 ·exact⟨.inr ho.1,_,rfl,.inl ⟨ho.2.1,ho.2.2⟩⟩
end Go.Am.Room.Fa
namespace Go.Am.Room.Fa
def fH:=zz @dE (zz @aI (zz @dC (zz @dD (zz @aJ (zz @dQ (zz @dS (zz @dH (zz @List.length_append.{0} (zz @Nat.mul_one (zz @Int.toNat_natCast (zz @bZ (zz @bY (zz @dY (zz @dW (zz @dZ (zz @d4 (zz @d5 (zz @dV (zz @j4 (zz @jZ (@j3)))))))))))))))))))))
def lV:List Int->Int
 |a::m::rest=>if inR a 0 m then lV rest else 7
 |_=>0
def V2(ns:List Int):AV:=.lit (ns.map (.int .i64)) true none
theorem yH(ns:List Int):V2 ns = .lit (ns.map (.int .i64)) true none:=by simp only[V2]
theorem uC(ns:List Int)(σ:St):yK T (.func 93 [] []) [V2 ns] σ (.func 233 [] [.ptr σ.length 0]) (σ++[.cells [V2 ns]]):=by
 refine .callf (.call (af:=a93) rfl (by simp[a93]) (gS (K:=fun j e σ1=>(j=none\/j=some .ret)/\Env.get e 2 = .func 233 [] [.ptr σ.length 0]/\σ1=σ++[.cells [V2 ns]]) ?_ fun o ho=>ho) fun o ho=>⟨ho.1,_,rfl,.inl ⟨ho.2.1,ho.2.2⟩⟩);try simp only[↓QA,QB,seval,fH,a93,yH]
 try simp
theorem rY(ns:List Int)(hn:ns.length<=100)(q:Nat)(σ:St)(hq:aH σ q=some [V2 ns]):eS T (.func 233 [] [.ptr q 0]) [] σ (.int .i64 (lV ns)):=by
 refine bN (af:=aDB) rfl (by simp[aDB]) ?_;obtain⟨R,hR⟩:∃ R,lV ns=R:=⟨_,rfl⟩;have hql:=mJ hq;rw[hR];rw[yH] at hq
 (repeat (first|simp only[↓QA,QB,seval,fH,aDB]|refine rd0 rfl ?_))
 refine bC (S:=Nat) 0 (fun i=>lV (ns.drop i)=R/\i<=ns.length) (fun i=>ns.length-i) (fun i=>[(0,.ptr q 0),(2,.int .i64 i)]) (fun _=>σ) ⟨by simpa using hR,Nat.zero_le _⟩ rfl ?_ fun i hi=>?_
 ·try simp only[aB,QE,seval,fH]
  try simp
 ·obtain⟨hi,hil⟩:=hi;have hw1:IntKind.i64.wrap ((i:Int)+1)=((i+1:Nat):Int):=by rw[bM ⟨by omega,by omega⟩];omega
  have hw2:IntKind.i64.wrap ((i:Int)+2)=((i+2:Nat):Int):=by rw[bM ⟨by omega,by omega⟩];omega
  (repeat (first|simp only[↓QA,QB,seval,fH,aD0,hq,hw1]|refine rd0 rfl ?_))
  refine aE (fun h=>?_) fun h=>?_
  ·have hi2:i+1<ns.length:=by
    have h0:((i+1:Nat):Int)<(ns.length:Int):=by simpa using h
    omega
   have hi1:i<ns.length:=by omega
   rw[List.drop_eq_getElem_cons hi1,List.drop_eq_getElem_cons hi2,lV] at hi
   (repeat (first|simp only[↓QA,QB,seval,fH,hq,hw1,hi1,hi2]|refine rd0 rfl ?_))
   ((first|refine bT (cE 0 ns[i+1] [ns[i]] (by simp)) (by simp[clr,clrs,ints]) (by simp[okV,okVs]) ?_|refine jH (cE 0 ns[i+1] [ns[i]] (by simp)) (by simp[clr,clrs,ints]) (by simp[okV,okVs]) ?_);(repeat (first|simp only[↓QA,QB,seval,fH,gB,hq,hw1,hi1,hi2]|refine rd0 rfl ?_)))
   cases hb:inR ns[i] 0 ns[i+1]
   ·rw[hb] at hi;simp only[Bool.false_eq_true,if_false] at hi;subst hi
    (repeat (first|simp only[↓QA,QB,seval,fH]|refine rd0 rfl ?_))
    refine bU [] (by first|rfl|simp) ?_;try simp only[QS,QC,seval,fH]
   ·rw[hb] at hi;simp only[if_true] at hi
    (repeat (first|simp only[↓QA,QB,seval,fH,hw2]|refine rd0 rfl ?_))
    refine⟨i+2,⟨hi,by omega⟩,by omega,?_⟩;try simp only[aB,QE,seval,fH,hw2,hql]
    try simp
  ·have hi2:¬i+1<ns.length:=by
    have h0:¬((i+1:Nat):Int)<(ns.length:Int):=by simpa using h
    omega
   have hz:lV (ns.drop i)=0:=by
    rcases Nat.lt_or_ge i ns.length with hlt|hge
    ·rw[List.drop_eq_getElem_cons hlt,List.drop_eq_nil_of_le (by omega)];rfl
    ·rw[List.drop_eq_nil_of_le hge];rfl
   rw[hz] at hi;subst hi
   (repeat (first|simp only[↓QA,QB,seval,fH]|refine rd0 rfl ?_))
   refine bU [] (by first|rfl|simp) ?_;try simp only[QS,QC,seval,fH]
def uI:Int:=-1099511627776
def kD(v:Farm)(plot eo:Int):Int:=if (check v).2.2=0 then (if plot≠uI/\inR plot 0 ((v.plots.length:Int)-1)=false then 4 else eo) else (check v).2.2
theorem NT(σ τ:St)(v:Farm)(b:Nat)(ts:List Truth)(m:Nat)(hm:m=σ.length+1):kG 2 (σ++(.cells (aC v)::.map (ts.map kvT)::τ)) (.map m)=some ts.length:=by
 subst hm;have:(σ++(ABlk.cells (aC v)::.map (ts.map kvT)::τ))[σ.length+1]? = some (.map (ts.map kvT)):=by rw[mZ];rfl
 simp only[kG,this,List.length_map]
def aMS(E:Int)(σ σ':St)(a b:AV)(σ1:St):Prop:=(E≠0/\a = .nilPtr/\b = .int .i64 E/\∃ τ,σ1=σ++τ)\/(E=0/\a = .ptr (σ.length+3) 0/\b = .int .i64 0/\σ1=σ')
theorem nL(v:Farm)(hf:Fits v)(plot eo:Int)(F:AV)(σ:St)(hF:∀ τ,eS T F [] (σ++τ) (.int .i64 eo)):
  Run T (.callv (.func 92 [] []) [encFarm v,.int .i64 plot,F] σ) fun o =>
   (bS v (kD v plot eo)≠0/\o.v = .tuple [.nilPtr,.int .i64 (bS v (kD v plot eo))]/\o.σ=σ) \/
   (bS v (kD v plot eo)=0/\o.v = .tuple [.ptr (σ.length+3) 0,.int .i64 0]/\o.σ=eL (σ++[.cells (aC v)]) v 0 (truths v [])):=by
 have hfp:=hf.plots;obtain⟨E,hE⟩:∃ E,bS v (kD v plot eo)=E:=⟨_,rfl⟩;rw[hE];refine .callf (.call (af:=a92) rfl (by simp[a92]) (gS (K:=fun j e σ1=>(j=none\/j=some .ret)/\aMS E σ (eL (σ++[.cells (aC v)]) v 0 (truths v [])) (Env.get e 6) (Env.get e 7) σ1) ?_ fun o ho=>ho) fun o ho=>?_)
 ·have hws:IntKind.i64.wrap ((v.plots.length:Int)-1)=(v.plots.length:Int)-1:=bM ⟨by omega,by omega⟩;try simp only[↓QA,QB,seval,fH,a92]
  (refine aD (n8 v hf) rfl dd ?_;try simp only[↓QA,QB,seval,fH,enc3])
  cases h0:((check v).2.2==0)
  ·have h0':(check v).2.2≠0:=by simpa using h0
   have:E=(check v).2.2:=by rw[<-hE,kD,if_neg h0',bS,if_neg h0']
   try simp only[↓QA,QB,seval,fH,h0]
   exact .inl ⟨by rw[this];exact h0',rfl,by rw[this],_,rfl⟩
  ·have h0':(check v).2.2=0:=by simpa using h0
   have hv:=vd_of_check h0';try simp only[↓QA,QB,seval,fH,h0]
   by_cases hb:plot≠uI/\inR plot 0 ((v.plots.length:Int)-1)=false
   ·have:E=4:=by rw[<-hE,kD,if_pos h0',if_pos hb];rfl
    have h1:(plot==-1099511627776)=false:=by have:=hb.1;simpa[uI] using this
    try simp only[↓QA,QB,seval,fH,h1,hws]
    (refine bT (cE 0 ((v.plots.length:Int)-1) [plot] (by simp)) (by simp[clr,clrs,ints]) (by simp[okV,okVs]) ?_;try simp only[↓QA,QB,seval,fH,gB,hb.2,h1])
    exact .inl ⟨by omega,rfl,by rw[this],_,rfl⟩
   have ha:kD v plot eo=eo:=by rw[kD,if_pos h0',if_neg hb]
   cases h1:(plot==-1099511627776)
   case' true =>
    try simp only[↓QA,QB,seval,fH,h1]
   case' false =>
    have h1':plot≠uI:=by simpa[uI] using h1
    have h2:inR plot 0 ((v.plots.length:Int)-1)=true:=by
     cases h:inR plot 0 ((v.plots.length:Int)-1)
     ·exact absurd ⟨h1',h⟩ hb
     ·rfl
    try simp only[↓QA,QB,seval,fH,h1,hws]
    (refine bT (cE 0 ((v.plots.length:Int)-1) [plot] (by simp)) (by simp[clr,clrs,ints]) (by simp[okV,okVs]) ?_;try simp only[↓QA,QB,seval,fH,gB,h2,h1])
   all_goals
    rw[ha] at hE;refine aS (hF _) ?_;cases h3:(eo==0)
    ·have h3':eo≠0:=by simpa using h3
     have:E=eo:=by rw[<-hE,bS,if_neg h3']
     try simp only[↓QA,QB,seval,fH,h3]
     exact .inl ⟨by rw[this];exact h3',rfl,by rw[this],_,rfl⟩
    ·have h3':eo=0:=by simpa using h3
     subst h3';have hlk:=fun σ'=>JL σ' v 0 [] hv S8
     try simp only[↓QA,QB,seval,fH,h3]
     refine cB (hlk _) ?_;rw[eL];have hn1:σ.length+1+2=σ.length+3:=rfl;have hn2:σ.length+1+1=σ.length+2:=rfl;have hll:=NT (σ++[.cells (aC v)]) [.cells (db v 0 (σ.length+1+1))] v 0 (truths v []) (σ.length+1+1) (by simp);simp only[aI,List.append_assoc,List.cons_append,List.nil_append,hn2] at hll;cases hg:(((truths v []).length:Int)==0)
     ·have hne:(truths v []).isEmpty=false:=by
       cases h:truths v [] with
       |nil=>rw[h] at hg;cases hg
       |cons a b=>rfl
      have:E=0:=by rw[<-hE,bS,if_pos rfl,hne];rfl
      try simp only[↓QA,QB,seval,fH,hn1,hn2,hll,hg]
      exact .inr ⟨this,rfl,rfl,by simp[eL,aI]⟩
     ·have hne:(truths v []).isEmpty=true:=by
       cases h:truths v [] with
       |nil=>rfl
       |cons a b=>rw[h] at hg;simp at hg;omega
      have:E=8:=by rw[<-hE,bS,if_pos rfl,hne];rfl
      try simp only[↓QA,QB,seval,fH,hn1,hn2,hll,hg]
      exact .inl ⟨by omega,rfl,by rw[this],_,rfl⟩
 ·obtain⟨hj,hq⟩:=ho;rcases hq with⟨h1,h2,h3,τ,h4⟩|⟨h1,h2,h3,h4⟩
  ·refine⟨hj,.tuple [.nilPtr,.int .i64 E],?_,?_⟩
   ·show some (AV.tuple [_,_])=_
    rw[h2,h3]
   ·refine .inr ⟨20,.tuple [.nilPtr,.int .i64 E],.tuple [.nilPtr,.int .i64 E],by simp[snap,snaps],.inl rfl,fun i hi=>.inl ?_,by rw[h4];simp,.inl ⟨h1,rfl,by simp[h4]⟩⟩;rw[h4,List.getElem?_append_left hi]
  ·refine⟨hj,.tuple [.ptr (σ.length+3) 0,.int .i64 0],?_,.inl (.inr ⟨h1,rfl,h4⟩)⟩;show some (AV.tuple [_,_])=_
   rw[h2,h3]
end Go.Am.Room.Fa
namespace Go.Am.Room
def xA(σ:St):AV->Option (AV×St)
 |.map id=>match σ[id]? with|some (.map es)=>some (.ptr σ.length 0,σ++[.miter id es.length (List.range es.length) none])|_=>none
 |_=>none
def zE(σ:St):AV->Option AV
 |.ptr id 0 =>
  match σ[id]? with
  |some (.miter m n _ (some i)) =>
   match σ[m]? with
   |some (.map es)=>if es.length=n then (es[i]?).map fun p=>.tuple [p.1,p.2] else none
   |_=>none
  |_=>none
 |_=>none
theorem BF(x:AOpd)(e:Env)(σ:St):aop (.mrange x) e σ=xA σ (x.ev e):=by
 simp only[aop,xA];cases x.ev e<;>rfl
theorem B3(x:AOpd)(d:Option Nat)(os:List AOper)(e:Env)(σ:St)(K:Env->St->Prop):aQ T (⟨d,.mrange x,none⟩::os) e σ K=bO (K:=⟨fun v σ'=>aQ T os (Env.put e d v) σ' K⟩) (aop (.mrange x) e σ):=by simp only[aQ,iQ,bO]
theorem A5{σ:St}{m:Nat}{es:List (AV×AV)}(h:σ[m]? = some (.map es)):xA σ (.map m)=some (.ptr σ.length 0,σ++[.miter m es.length (List.range es.length) none]):=by simp only[xA,h]
theorem ET(x:AOpd)(e:Env)(σ:St):aop (.entry x) e σ=(zE σ (x.ev e)).map (·,σ):=by
 simp only[aop,zE];cases x.ev e<;>try rfl
 rename_i id off;cases off with
 |succ o=>rfl
 |zero =>
  simp only;cases σ[id]? with
  |none=>rfl
  |some b =>
   cases b<;>try rfl
   rename_i m n left last;cases last with
   |none=>rfl
   |some i =>
    simp only;cases σ[m]? with
    |none=>rfl
    |some b =>
     cases b<;>try rfl
     rename_i es;simp only;by_cases h:es.length=n
     ·simp only[h,if_true];cases es[i]?<;>rfl
     ·simp only[h,if_false];rfl
theorem E3(x:AOpd)(d:Option Nat)(os:List AOper)(e:Env)(σ:St)(K:Env->St->Prop):aQ T (⟨d,.entry x,none⟩::os) e σ K=bO (K:=⟨fun v σ'=>aQ T os (Env.put e d v) σ' K⟩) (aop (.entry x) e σ):=by simp only[aQ,iQ,bO]
theorem LL{σ:St}{id m n i:Nat}{left:List Nat}{es:List (AV×AV)}{k v:AV}(h1:σ[id]? = some (.miter m n left (some i)))(h2:σ[m]? = some (.map es))(h3:es.length=n)(h4:es[i]? = some (k,v)):zE σ (.ptr id 0)=some (.tuple [k,v]):=by
 simp only[zE,h1,h2,h3,h4,if_true,Option.map_some]
section
variable {S A:Type} (ts:List A) (kv:A->AV×AV) (m N:Nat) (P:List A->S->Prop) (IE:S->Env) (B:S->St)
def O4(t:A)(done:List A)(s:S)(left:List Nat)(i:Nat)(K:KJ):KJ :=
 GM (S:=Bool×S) (fun a=>a.1=false/\P (t::done) a.2) (fun a=>if a.1=true then 1 else 0) (fun a=>IE a.2) (fun a=>B a.2++[.miter m ts.length left (some i)]) (true,s) K
def aLE(d d2 x j:Nat)(body:ACode):ACode:=.seq (.reg [⟨some d,.mnext (.t x),none⟩,⟨some d2,.ext (.t d) 0,none⟩]) (.seq (.cond (.t d2) .skip (.jump (.exit j))) body)
theorem aQZ{d d2 x j:Nat}{body:ACode}{K:KJ}(hN:∀ s,(B s).length=N)(hm:∀ s,(B s)[m]? = some (.map (ts.map kv)))(hx:∀ s,Env.get (IE s) x = .ptr N 0)(step:∀ done s t i left,P done s->t∈ts->ts[i]? = some t->wp T body ((d2,.bool true)::(d,.tuple [.bool true,(kv t).1,(kv t).2])::IE s) (B s++[.miter m ts.length left (some i)]) (O4 ts m P IE B t done s left i K))(fin:∀ done s left last,P done s->(∀ t,t∈done↔t∈ts)->K (some (.exit j)) ((d2,.bool false)::(d,.tuple [.bool false])::IE s) (B s++[.miter m ts.length left last])):
  ∀ n left last done s,left.length=n->(∀ t∈done,t∈ts)->(∀ i t,ts[i]? = some t->i∈left\/t∈done)->P done s ->
   RK T (.loop (aLE d d2 x j body)) (IE s) (B s++[.miter m ts.length left last]) K:=by
 intro n
 induction n using Nat.strongRecOn with
 |_ n ih =>
  intro left last done s hl hdone hcov hP;have hml:m<N:=by
   have:=hm s;rw[<-hN s];by_cases h:m<(B s).length
   ·exact h
   ·rw[List.getElem?_eq_none (by omega)] at this;cases this
  have hmap:∀ (b:ABlk),(B s++[b])[m]? = some (.map (ts.map kv)):=fun b=>by
   rw[List.getElem?_append_left (by rw[hN];exact hml)];exact hm s
  have hit:∀ (b:ABlk),(B s++[b])[N]? = some b:=fun b=>by
   rw[List.getElem?_append_right (by rw[hN];exact Nat.le_refl _),hN,Nat.sub_self];rfl
  have hset:∀ (b c:ABlk),(B s++[b]).set N c=B s++[c]:=fun b c=>by
   rw[List.set_append_right _ _ (by rw[hN];exact Nat.le_refl _),hN,Nat.sub_self];rfl
  have hgx:AOpd.ev (IE s) (.t x) = .ptr N 0:=by rw[PE];exact hx s
  have h1:Run T (.code (aLE d d2 x j body) (IE s) (B s++[.miter m ts.length left last])) fun o =>
    (o.j=none/\∃ i t s',i∈left/\ts[i]? = some t/\P (t::done) s'/\o.env=IE s'/\o.σ=B s'++[.miter m ts.length (left.filter (·≠i)) (some i)])\/(o.j≠none/\K o.j o.env o.σ):=by
   refine .seq (R:=fun o=>o.j=none/\((left=[]/\o.env=(d2,.bool false)::(d,.tuple [.bool false])::IE s/\o.σ=B s++[.miter m ts.length left last]) \/
     ∃ i t,i∈left/\ts[i]? = some t/\o.env=(d2,.bool true)::(d,.tuple [.bool true,(kv t).1,(kv t).2])::IE s/\o.σ=B s++[.miter m ts.length (left.filter (·≠i)) (some i)]))
    (.reg (.stepm (x:=.t x) rfl rfl hgx (hit _) (hmap _) (by simp) (fun h0=>?_) fun i k v hi hk=>?_)) (fun o ho _=>?_) (fun o ho hj=>absurd ho.1 hj)
   ·refine .step (v:=.bool false) (σ':=B s++[.miter m ts.length left last]) rfl (by simp[aop,AOpd.ev,Env.put,Env.get]) (.nil ⟨rfl,.inl ⟨h0,rfl,rfl⟩⟩)
   ·rw[hset];rw[List.getElem?_map] at hk;cases ht:ts[i]? with
    |none=>rw[ht] at hk;cases hk
    |some t =>
     rw[ht] at hk;simp only[Option.map_some,Option.some.injEq] at hk;refine .step (v:=.bool true) (σ':=B s++[.miter m ts.length (left.filter (·≠i)) (some i)]) rfl (by simp[aop,AOpd.ev,Env.put,Env.get]) (.nil ⟨rfl,.inr ⟨i,t,hi,ht,?_,rfl⟩⟩);rw[hk];rfl
   ·obtain⟨hj,⟨h0,he,hs⟩|⟨i,t,hi,ht,he,hs⟩⟩:=ho
    ·rw[he,hs];refine .seq (R:=fun o=>o.j=some (.exit j)/\K o.j o.env o.σ) (.cond false (by simp[AOpd.ev,Env.get]) (.jump ⟨rfl,?_⟩)) (fun o ho hn=>by rw[ho.1] at hn;cases hn) fun o ho hj=>.inr ⟨hj,ho.2⟩
     refine fin done s left last hP fun t=>⟨hdone t,fun htm=>?_⟩
     obtain⟨i,hi,rfl⟩:=List.getElem_of_mem htm;rcases hcov i ts[i] (List.getElem?_eq_getElem hi) with h|h
     ·rw[h0] at h;cases h
     ·exact h
    ·rw[he,hs];refine .seq (R:=fun o=>o.j=none/\o.env=(d2,.bool true)::(d,.tuple [.bool true,(kv t).1,(kv t).2])::IE s/\o.σ=B s++[.miter m ts.length (left.filter (·≠i)) (some i)]) (.cond true (by simp[AOpd.ev,Env.get]) (.skip ⟨rfl,rfl,rfl⟩)) (fun o ho _=>?_) fun o ho hj=>absurd ho.1 hj
     rw[ho.2.1,ho.2.2];have hst:=step done s t i (left.filter (·≠i)) hP (List.mem_of_getElem? ht) ht;refine .trim2 (gS hst fun o ho=>ho) fun o ho=>?_
     cases hj:o.j with
     |none =>
      rw[hj,O4,RH] at ho;obtain⟨⟨b,s'⟩,⟨h1,h2⟩,_,h3⟩:=ho;exact .inr ⟨_,_,MZ h3,.inl ⟨rfl,i,t,s',hi,ht,h2,rfl,rfl⟩⟩
     |some j =>
      rw[hj,O4,XY] at ho;exact .inl (.inr ⟨by simp,ho⟩)
  refine .loop h1 (fun o ho hj=>?_) fun o ho hj=>?_
  ·rcases ho with⟨_,i,t,s',hi,ht,hP',q3,q4⟩|⟨q1,_⟩
   ·rw[q3,q4];refine ih (left.filter (·≠i)).length ?_ _ _ (t::done) s' rfl ?_ ?_ hP'
    ·rw[<-hl];refine List.length_filter_lt_length_iff_exists.2 ⟨i,hi,by simp⟩
    ·intro u hu;rcases List.mem_cons.1 hu with rfl|hu
     ·exact List.mem_of_getElem? ht
     ·exact hdone u hu
    ·intro k u hk;by_cases e:k=i
     ·subst e;rw[ht] at hk;cases hk;exact .inr (by simp)
     ·rcases hcov k u hk with h|h
      ·exact .inl (by rw[List.mem_filter];exact⟨h,by simpa using e⟩)
      ·exact .inr (List.mem_cons_of_mem _ h)
   ·exact absurd hj q1
  ·rcases ho with⟨q,_⟩|⟨_,q⟩
   ·exact absurd q hj
   ·exact q
theorem aE6{d d2 x j:Nat}{body:ACode}{e:Env}{σ:St}{K:KJ}(s0:S)(hN:∀ s,(B s).length=N)(hm:∀ s,(B s)[m]? = some (.map (ts.map kv)))(hx:∀ s,Env.get (IE s) x = .ptr N 0)(hP:P [] s0)(hσ:σ=B s0++[.miter m ts.length (List.range ts.length) none])(hE:EqW e (IE s0))(step:∀ done s t i left,P done s->t∈ts->ts[i]? = some t->wp T body ((d2,.bool true)::(d,.tuple [.bool true,(kv t).1,(kv t).2])::IE s) (B s++[.miter m ts.length left (some i)]) (O4 ts m P IE B t done s left i K))(fin:∀ done s left last,P done s->(∀ t,t∈done↔t∈ts)->K (some (.exit j)) ((d2,.bool false)::(d,.tuple [.bool false])::IE s) (B s++[.miter m ts.length left last])):
  rK (K:=⟨K⟩) T (.loop (aLE d d2 x j body)) e σ:=by
 subst hσ;refine .weak (GR hE) (aQZ ts kv m N P IE B hN hm hx step fin _ _ _ [] s0 rfl (by simp) (fun i t ht=>.inl ?_) hP);rw[List.mem_range];by_cases h:i<ts.length
 ·exact h
 ·rw[List.getElem?_eq_none (by omega)] at ht;cases ht
end
end Go.Am.Room
namespace Go.Am.Room.Fa
def kY:=zz @dE (zz @aI (zz @dC (zz @dD (zz @aJ (zz @dQ (zz @dS (zz @dH (zz @List.length_append.{0} (zz @Nat.mul_one (zz @Int.toNat_natCast (zz @bZ (zz @bY (zz @dY (zz @dW (zz @dZ (zz @d4 (zz @d5 (zz @dV (zz @j4 (zz @jZ (zz @j3 (zz @BF (zz @B3 (zz @ET (zz @E3 (zz @dL (zz @d7 (zz @d6 (zz @iR (zz @d8 (zz @wL (@CE))))))))))))))))))))))))))))))))
def CI(z s:Span)(l:List Int):Prop:=(l=[]->s=z)/\(l≠[]->s.lo∈l/\s.hi∈l/\∀ x∈l,s.lo<=x/\x<=s.hi)
def mm(s:Span)(x:Int):Span:=⟨min s.lo x,max s.hi x⟩
theorem TJ{z s:Span}{l:List Int}{x:Int}(h:CI z s l)(hx:x<=z.lo/\z.hi<=x):CI z (mm s x) (x::l):=by
 refine⟨fun h=>(by cases h),fun _=>?_⟩;by_cases hl:l=[]
 ·have:=h.1 hl;subst this;subst hl;have e1:min s.lo x=x:=by omega
  have e2:max s.hi x=x:=by omega
  simp only[mm,e1,e2];refine⟨by simp,by simp,fun y hy=>?_⟩;simp at hy;omega
 ·obtain⟨a,b,c⟩:=h.2 hl;simp only[mm];refine⟨?_,?_,fun y hy=>?_⟩
  ·by_cases h1:s.lo<=x
   ·rw[show min s.lo x=s.lo by omega];exact List.mem_cons_of_mem _ a
   ·rw[show min s.lo x=x by omega];simp
  ·by_cases h1:x<=s.hi
   ·rw[show max s.hi x=s.hi by omega];exact List.mem_cons_of_mem _ b
   ·rw[show max s.hi x=x by omega];simp
  ·rcases List.mem_cons.1 hy with rfl|hy
   ·omega
   ·have:=c y hy;omega
theorem AU{z s:Span}{l k:List Int}(h:CI z s l)(hk:∀ x,x∈l↔x∈k):CI z s k:=by
 have hn:l=[]↔k=[]:=by
  constructor
  ·intro e;cases k with
   |nil=>rfl
   |cons a b=>have:=(hk a).2 (by simp);rw[e] at this;cases this
  ·intro e;cases l with
   |nil=>rfl
   |cons a b=>have:=(hk a).1 (by simp);rw[e] at this;cases this
 refine⟨fun e=>h.1 (hn.2 e),fun e=>?_⟩;obtain⟨a,b,c⟩:=h.2 fun e2=>e (hn.1 e2)
 exact⟨(hk _).1 a,(hk _).1 b,fun x hx=>c x ((hk x).2 hx)⟩
theorem TQ{z s:Span}{l:List Int}(h:CI z s l)(hl:l≠[]):s=gH l:=by
 obtain⟨a,b,c⟩:=h.2 hl;obtain⟨d,e,f⟩:=kS hl;have h1:=c _ d;have h2:=c _ e;have h3:=f _ a;have h4:=f _ b;cases s;cases hs:gH l;rw[hs] at h1 h2 h3 h4;simp only at h1 h2 h3 h4
 congr<;>omega
theorem aBH(z:Span):CI z z []:=⟨fun _=>rfl,fun h=>absurd rfl h⟩
structure KOk (v:Farm) (t:Truth):Prop where
 tok:TOk v t
 lst:∀ p,p<v.plots.length->lst v.rain.length (gN (jO t p))=jO t p
theorem GF{v:Farm}(hv:Vd v){but:List Int}{t:Truth}(h:t∈truths v but):KOk v t:=by
 refine⟨z0 hv h,fun p hp=>?_⟩;have e:jO t p=bK v p t.rain but:=by simp[jO,(zN.1 h).2.1,hp]
 rw[e];exact M3 hv hp _ _
structure KnownAt (σ:St) (v:Farm) (b m p:Nat) (ts:List Truth):Prop where
 obj:aH σ p=some (db v b m)
 map:σ[m]? = some (.map (ts.map kvT))
theorem KnownAt.pl{σ:St}{v:Farm}{b m p:Nat}{ts:List Truth}(h:KnownAt σ v b m p ts):p<σ.length:=mJ h.obj
theorem KnownAt.ml{σ:St}{v:Farm}{b m p:Nat}{ts:List Truth}(h:KnownAt σ v b m p ts):m<σ.length:=by
 by_cases hm:m<σ.length
 ·exact hm
 ·have:=h.map;rw[List.getElem?_eq_none (by omega)] at this;cases this
theorem KnownAt.map1{σ:St}{v:Farm}{b m p:Nat}{ts:List Truth}(h:KnownAt σ v b m p ts)(τ:St):(σ++τ)[m]? = some (.map (ts.map kvT)):=by rw[List.getElem?_append_left h.ml];exact h.map
theorem EB{σ:St}{v:Farm}{b m p:Nat}{ts:List Truth}(h:KnownAt σ v b m p ts){t:Truth}{i:Nat}(ht:ts[i]? = some t)(left:List Nat)(a:ABlk)(τ:St):
  zE (σ++(a::.miter m ts.length left (some i)::τ)) (.ptr (σ.length+1) 0)=some (.tuple [wA t,BD t]):=by
 refine LL (es:=ts.map kvT) (by rw[mZ];rfl) (h.map1 _) (by simp) ?_;rw[List.getElem?_map,ht];rfl
theorem u3(v:Farm)(hv:Vd v)(ts:List Truth)(hts:∀ t∈ts,KOk v t)(hne:ts≠[])(b m p:Nat)(σ:St)(hK:KnownAt σ v b m p ts)(P d:Nat)(hP:P<v.plots.length)(hd:d<=v.rain.length):
  eS T (.func 94 [] []) [.ptr p 0,.int .i64 P,.int .i64 d] σ (cG (lZ ts P d)):=by
 refine bN (af:=a94) rfl (by simp[a94]) ?_;have hnr:=hv.nra;have hnp:=hv.npl;have hpl:=hK.pl;have hml:=hK.ml;have h0:=fun τ=>iI hK.obj τ
 have hmr:=fun τ=>A5 (hK.map1 τ)
 simp only[List.length_map] at hmr;have hp2:p<σ.length+2:=by omega
 have hm2:m<σ.length+2:=by omega
 have i4:(0:Int)<=(P:Int)/\(P:Int)<((4:Nat):Int):=⟨by omega,by omega⟩
 (repeat (first|simp only[↓QA,QB,reduceLT,reduceIte,reduceEqDiff,reduceAdd,reduceLeDiff,reduceMul,Nat.reduceBEq,kY,a94,h0,hmr]|refine rd0 rfl ?_))
 refine aE6 (S:=Span) ts kvT m (σ.length+1) (fun done s=>CI ⟨31,-1⟩ s (dO done P d)) (fun _=>[(0,.ptr p 0),(1,.int .i64 P),(2,.int .i64 d),(6,.ptr σ.length 0),(17,.ptr (σ.length+1) 0)])
  (fun s=>σ++[.cells [.int .i64 s.lo,.int .i64 s.hi]]) ⟨31,-1⟩ (fun s=>by simp) (fun s=>hK.map1 _) (fun s=>by simp[Env.get]) (aBH _) (by simp) ?_ (fun done s t i left hs ht hti=>?_) fun done s left last hs hdone=>?_
 ·try simp only[aB,QE,reduceLT,reduceIte,reduceEqDiff,reduceAdd,reduceLeDiff,reduceMul,Nat.reduceBEq,kY]
  try simp
 ·have hent:=EB hK hti left;unfold O4;obtain⟨htk,hlst⟩:=hts t ht;have hfl:=htk.fl P hP;have hlst:=hlst P hP;have hsb:gN (jO t P)<2^7:=EZ fun x hx=>by have:=hfl.2.2 x hx;omega
  have hge:=gO 4 (fun q=>(gN (jO t q):Int)) (show P<4 by omega);have hnum:=nQ (gN (jO t P)) v.rain.length (by omega) (by omega);rw[hlst] at hnum;have hfull:=fun (H:Nat) (τ:St)=>I3 (.ptr p 0) (rl t.rain) H d (uL hv htk.rain) (by omega) τ
  have hst:∀ x,x∈dO (t::done) P d↔x∈(jO t P).map (vI t d)\/x∈dO done P d:=fun x=>by
   rw[dO,List.flatMap_cons,List.mem_append];rfl
  obtain⟨F,hF⟩:∃ F,jO t P=F:=⟨_,rfl⟩;rw[hF] at hfl hnum hst;simp only[hF] at hge;obtain⟨bb,hbb⟩:∃ bb:Nat,gN F=bb:=⟨_,rfl⟩;rw[hbb] at hnum;simp only[hbb] at hge
  (repeat (first|simp only[↓QA,QB,reduceLT,reduceIte,reduceEqDiff,reduceAdd,reduceLeDiff,reduceMul,Nat.reduceBEq,kY,hent,h0,kvT,wA,BD,i4,Nat.zero_add,hge]|refine rd0 rfl ?_))
  ((first|refine aD (hnum) rfl dd ?_|refine aG (hnum) rfl dd ?_);(repeat (first|simp only[↓QA,QB,reduceLT,reduceIte,reduceEqDiff,reduceAdd,reduceLeDiff,reduceMul,Nat.reduceBEq,kY,hent,h0,kvT,wA,BD,i4,Nat.zero_add,hge,ints]|refine rd0 rfl ?_)))
  refine bC (S:=Nat×Span) (0,s) (fun a=>a.1<=F.length/\CI ⟨31,-1⟩ a.2 ((F.take a.1).map (vI t d)++dO done P d)) (fun a=>F.length-a.1)
   (fun a=>[(0,.ptr p 0),(1,.int .i64 P),(2,.int .i64 d),(6,.ptr σ.length 0),(7,.ptr (σ.length+2) 0),(17,.ptr (σ.length+1) 0),(32,ints F),(33,.int .i64 F.length),(34,.int .i64 a.1)])
   (fun a=>σ++[.cells [.int .i64 a.2.lo,.int .i64 a.2.hi],.miter m ts.length left (some i),.cells (aZ 7 (rl t.rain)),.cells (aZ 4 (fun q=>(gN (jO t q):Int)))]) ⟨Nat.zero_le _,by simpa using hs⟩ (by simp) ?_ fun a ha=>?_
  ·try simp only[aB,QE,reduceLT,reduceIte,reduceEqDiff,reduceAdd,reduceLeDiff,reduceMul,Nat.reduceBEq,kY,ints]
   try simp
  ·obtain⟨k,s⟩:=a;obtain⟨hk,hmm⟩:=ha;simp only at hk hmm
   (repeat (first|simp only[↓QA,QB,reduceLT,reduceIte,reduceEqDiff,reduceAdd,reduceLeDiff,reduceMul,Nat.reduceBEq,kY,aI4,ints]|refine rd0 rfl ?_))
   refine aE (fun h=>?_) fun h=>?_
   ·have hk1:k<F.length:=by simpa using h
    have hwk:=bD hk1 (by omega);have hm:=hfl.2.2 _ (List.getElem_mem hk1);obtain⟨H,hH⟩:∃ H:Nat,F[k]=(H:Int):=⟨F[k].toNat,by omega⟩;have hfu:=hfull H;have hx:pts (rl t.rain) H d=vI t d H:=by simp[vI,EG]
    have hxb:=L9 hv htk hd (H:Int);rw[hx] at hfu;obtain⟨x,hxe⟩:∃ x,vI t d H=x:=⟨_,rfl⟩;rw[hxe] at hxb;simp only[hxe] at hfu;have hnx:CI ⟨31,-1⟩ (mm s x) ((F.take (k+1)).map (vI t d)++dO done P d):=by
     refine AU (TJ hmm (by simp only;omega)) fun y=>?_
     rw[List.take_succ_eq_append_getElem hk1,List.map_append,List.map_cons,List.map_nil,hH,hxe];simp only[List.mem_cons,List.mem_append,List.not_mem_nil,or_false];constructor
     ·rintro (h|h|h)
      ·exact .inl (.inr h)
      ·exact .inl (.inl h)
      ·exact .inr h
     ·rintro ((h|h)|h)
      ·exact .inr (.inl h)
      ·exact .inl h
      ·exact .inr (.inr h)
    (repeat (first|simp only[↓QA,QB,reduceLT,reduceIte,reduceEqDiff,reduceAdd,reduceLeDiff,reduceMul,Nat.reduceBEq,kY,hk1,hH,ints]|refine rd0 rfl ?_))
    refine aS (hfu _) ?_
    (repeat (first|simp only[↓QA,QB,reduceLT,reduceIte,reduceEqDiff,reduceAdd,reduceLeDiff,reduceMul,Nat.reduceBEq,kY,hwk]|refine rd0 rfl ?_))
    refine⟨(k+1,mm s x),⟨by simp only;omega,hnx⟩,by simp only;omega,?_⟩;try simp only[aB,QE,reduceLT,reduceIte,reduceEqDiff,reduceAdd,reduceLeDiff,reduceMul,Nat.reduceBEq,kY,hwk,ints,mm,hp2]
    try simp[aF,okVs,okV,pS]
    try omega
   ·have hk1:k=F.length:=by simp at h;omega
    rw[hk1,List.take_length] at hmm
    (repeat (first|simp only[↓QA,QB,reduceLT,reduceIte,reduceEqDiff,reduceAdd,reduceLeDiff,reduceMul,Nat.reduceBEq,kY]|refine rd0 rfl ?_))
    refine⟨(false,s),⟨rfl,AU hmm fun x=>?_⟩,by simp,?_⟩
    ·rw[hst,List.mem_append]
    ·try simp only[aB,QE,reduceLT,reduceIte,reduceEqDiff,reduceAdd,reduceLeDiff,reduceMul,Nat.reduceBEq,kY,hp2]
     try simp[aF,okVs,okV]
     try omega
 ·have hsp:lZ ts P d=s:=by
   have hc:CI ⟨31,-1⟩ s (dO ts P d):=AU hs fun x=>by simp only[dO,List.mem_flatMap,hdone]
   exact (TQ hc (xT (fun t ht=>(hts t ht).tok) hne hP d)).symm
  rw[hsp]
  (repeat (first|simp only[↓QA,QB,reduceLT,reduceIte,reduceEqDiff,reduceAdd,reduceLeDiff,reduceMul,Nat.reduceBEq,kY]|refine rd0 rfl ?_))
  refine bU [.cells [.int .i64 s.lo,.int .i64 s.hi],.miter m ts.length left last] (by first|rfl|simp) ?_;try simp only[QS,QC,reduceLT,reduceIte,reduceEqDiff,reduceAdd,reduceLeDiff,reduceMul,Nat.reduceBEq,kY]
end Go.Am.Room.Fa
namespace Go.Am.Room.Fa
def iX:=zz @dE (zz @aI (zz @dC (zz @dD (zz @aJ (zz @dQ (zz @dS (zz @dH (zz @List.length_append.{0} (zz @Nat.mul_one (zz @Int.toNat_natCast (zz @bZ (zz @bY (zz @dY (zz @dW (zz @dZ (zz @d4 (zz @d5 (zz @dV (zz @j4 (zz @jZ (zz @j3 (zz @BF (zz @B3 (zz @ET (zz @E3 (zz @dL (zz @d7 (zz @d6 (zz @iR (zz @d8 (zz @wL (@CE))))))))))))))))))))))))))))))))
theorem nH{v:Farm}(hf:Fits v){plot eo:Int}{F:AV}{σ:St}(hF:∀ τ,eS T F [] (σ++τ) (.int .i64 eo)){E:Int}(hE:bS v (kD v plot eo)=E)(h0:E≠0):eS T (.func 92 [] []) [encFarm v,.int .i64 plot,F] σ (.tuple [.nilPtr,.int .i64 E]):=by
 subst hE;refine .mono (nL v hf plot eo F σ hF) fun o ho=>?_
 rcases ho with h|h
 ·exact h.2
 ·exact absurd h.1 h0
theorem rQ{v:Farm}(hf:Fits v){plot eo:Int}{F:AV}{σ:St}(hF:∀ τ,eS T F [] (σ++τ) (.int .i64 eo))(hE:bS v (kD v plot eo)=0):yK T (.func 92 [] []) [encFarm v,.int .i64 plot,F] σ (.tuple [.ptr (σ.length+3) 0,.int .i64 0]) (eL (σ++[.cells (aC v)]) v 0 (truths v [])):=by
 refine .mono (nL v hf plot eo F σ hF) fun o ho=>?_
 rcases ho with h|h
 ·exact absurd hE h.1
 ·exact h.2
theorem aH4(n k:Int)(hk:k<9223372036854775807):inR (max n (-1099511627775)) 0 k=inR n 0 k:=by
 rw[Bool.eq_iff_iff,c9,c9];omega
theorem OQ(v:Farm)(hf:Fits v)(n:Int)(eo:Int):kD v (max n (-1099511627775)) eo=if (check v).2.2=0 then (if inR n 0 ((v.plots.length:Int)-1) then eo else 4) else (check v).2.2:=by
 have hfp:=hf.plots;have hn:max n (-1099511627775)≠uI:=by unfold uI;omega
 rw[kD,aH4 n _ (by omega)]
 congr 1
 cases inR n 0 ((v.plots.length:Int)-1)
 ·simp[hn]
 ·simp
theorem aKF(d G:Int):lV [d,G]=if inR d 0 G then 0 else 7:=rfl
theorem JR(v:Farm)(hf:Fits v)(n d:Int):bS v (kD v (max n (-1099511627775)) (lV [d,(v.rain.length:Int)]))=lF v n d:=by
 rw[lF]
 congr 1
 rw[OQ v hf,aKF,qN,wE];by_cases h:(check v).2.2=0
 ·simp only[h,if_true];by_cases h2:inR n 0 ((v.plots.length:Int)-1)=true
  ·rw[if_pos h2,if_pos h2];rfl
  ·rw[if_neg h2,if_neg h2];rfl
 ·simp[h]
theorem HW(v:Farm)(hf:Fits v)(n:Int):bS v (kD v (max n (-1099511627775)) 0)=mO v n:=by
 rw[mO]
 congr 1
 rw[OQ v hf,wE]
theorem GH(v:Farm)(eo:Int):kD v (-1099511627776) eo=if (check v).2.2=0 then eo else (check v).2.2:=by
 simp[kD,uI]
theorem XR(v:Farm)(d:Int):bS v (kD v (-1099511627776) (lV [d,(v.rain.length:Int)-1]))=A6 v d:=by
 rw[A6,GH];rfl
theorem UV(v:Farm)(d h:Int):bS v (kD v (-1099511627776) (lV [d,(v.rain.length:Int),h,400]))=vU v d h:=by
 rw[vU]
 congr 1
 rw[GH];have:lV [d,(v.rain.length:Int),h,400]=if inR d 0 (v.rain.length:Int) then (if inR h 0 400 then 0 else 7) else 7:=rfl
 rw[this,qN,qN];by_cases hc:(check v).2.2=0
 ·simp only[hc,if_true,g0];by_cases h2:inR d 0 (v.rain.length:Int)=true
  ·simp[h2]
  ·simp[h2]
 ·simp[hc]
theorem xL(v:Farm)(n d:Int)(hf:Fits v):cV T 15 [encFarm v,.int .i64 n,.int .i64 d] (B4 (pU v n d)):=by
 refine aR (af:=a15) rfl (by simp[a15]) dd ?_;obtain⟨E,hE⟩:∃ E,lF v n d=E:=⟨_,rfl⟩;have hask:=JR v hf n d;rw[hE] at hask;have hun:=fun σ=>uC [d,(v.rain.length:Int)] σ
 have hu1:=fun (q:Nat) (σ:St) hq=>rY [d,(v.rain.length:Int)] (by simp) q σ hq
 simp only[yH,List.map_cons,List.map_nil] at hun hu1
 (repeat (first|simp only[↓QA,QB,seval,iX,a15]|refine rd0 rfl ?_))
 refine n9 (hun _) ?_
 (repeat (first|simp only[↓QA,QB,seval,iX]|refine rd0 rfl ?_))
 by_cases h0':E=0
 ·subst h0';have hE2:=hE;obtain⟨hw,hne⟩:=kR hE2;obtain⟨ha,hd0,hd1⟩:=tG hw;obtain⟨hv,hn0,hn1⟩:=s8 ha;have hm:pU v n d=(lZ (truths v []) n.toNat d.toNat,0):=by rw[pU,hE,if_pos rfl]
  rw[hm];simp only[g0] at hd1;obtain⟨N,rfl⟩:∃ N:Nat,n=N:=⟨n.toNat,by omega⟩;obtain⟨D,rfl⟩:∃ D:Nat,d=D:=⟨d.toNat,by omega⟩;rw[Int.toNat_natCast,Int.toNat_natCast];have hen:=rQ hf (plot:=max (N:Int) (-1099511627775)) (eo:=lV [(D:Int),(v.rain.length:Int)]) (F:=.func 233 [] [.ptr 2 0]) (σ:=[.cells (aC v),.cells [.int .i64 0,.int .i64 0],.cells [.lit [.int .i64 D,.int .i64 v.rain.length] true none]]) (fun τ=>hu1 _ _ rfl) hask;have hgr:=u3 v hv (truths v []) (fun t ht=>GF hv ht) hne 0 5 6 (eL ([.cells (aC v),.cells [.int .i64 0,.int .i64 0],.cells [.lit [.int .i64 D,.int .i64 v.rain.length] true none]]++[.cells (aC v)]) v 0 (truths v [])) ⟨rfl,rfl⟩ N D (by omega) (by omega);try simp only[↓QA,QB,seval,iX,eL,List.cons_append,List.nil_append,List.length_cons,List.length_nil] at hen
  try simp only[↓QA,QB,seval,iX,eL,List.cons_append,List.nil_append,List.length_cons,List.length_nil] at hgr
  refine n9 hen ?_
  (repeat (first|simp only[↓QA,QB,seval,iX]|refine rd0 rfl ?_))
  refine aS hgr ?_
  (repeat (first|simp only[↓QA,QB,seval,iX,B4]|refine rd0 rfl ?_))
 ·have hm:pU v n d=(⟨0,0⟩,E):=by rw[pU,hE,if_neg h0']
  have hg:(E==0)=false:=by simpa using h0'
  rw[hm];refine kT (nH hf (fun τ=>hu1 _ _ rfl) hask h0') ?_
  (repeat (first|simp only[↓QA,QB,seval,iX,hg,B4]|refine rd0 rfl ?_))
theorem HX(v:Farm)(d:Int)(hf:Fits v):cV T 76 [encFarm v,.int .i64 d] (B4 (tB v d)):=by
 refine aR (af:=a76) rfl (by simp[a76]) dd ?_;have hfr:=hf.rain;have hwe:IntKind.i64.wrap ((v.rain.length:Int)-1)=(v.rain.length:Int)-1:=bM ⟨by omega,by omega⟩;obtain⟨E,hE⟩:∃ E,A6 v d=E:=⟨_,rfl⟩;have hask:=XR v d;rw[hE] at hask;obtain⟨G1,hG1⟩:∃ G1,(v.rain.length:Int)-1=G1:=⟨_,rfl⟩;rw[hG1] at hask hwe;have hun:=fun σ=>uC [d,G1] σ
 have hu1:=fun (q:Nat) (σ:St) hq=>rY [d,G1] (by simp) q σ hq
 simp only[yH,List.map_cons,List.map_nil] at hun hu1
 (repeat (first|simp only[↓QA,QB,reduceLT,reduceIte,reduceEqDiff,reduceAdd,reduceLeDiff,reduceMul,Nat.reduceBEq,iX,a76,hG1,hwe]|refine rd0 rfl ?_))
 refine n9 (hun _) ?_
 (repeat (first|simp only[↓QA,QB,reduceLT,reduceIte,reduceEqDiff,reduceAdd,reduceLeDiff,reduceMul,Nat.reduceBEq,iX]|refine rd0 rfl ?_))
 by_cases h0':E=0
 ·subst h0';have hE2:=hE;obtain⟨hw,hne⟩:=kR hE2;obtain⟨ha,hd0,hd1⟩:=tG hw;have hv:=vd_of_check ha;have hnr:=hv.nra;have hm:tB v d=(gH (mW (truths v []) d.toNat),0):=by rw[tB,hE,if_pos rfl]
  rw[hm];simp only[g0] at hd1;obtain⟨D,rfl⟩:∃ D:Nat,d=D:=⟨d.toNat,by omega⟩;rw[Int.toNat_natCast];have hen:=rQ hf (plot:=-1099511627776) (eo:=lV [(D:Int),G1]) (F:=.func 233 [] [.ptr 2 0]) (σ:=[.cells (aC v),.cells [.int .i64 0,.int .i64 0],.cells [.lit [.int .i64 D,.int .i64 G1] true none]]) (fun τ=>hu1 _ _ rfl) hask;try simp only[↓QA,QB,reduceLT,reduceIte,reduceEqDiff,reduceAdd,reduceLeDiff,reduceMul,Nat.reduceBEq,iX,eL,List.cons_append,List.nil_append,List.length_cons,List.length_nil] at hen
  refine n9 hen ?_;have htsk:∀ t∈truths v [],TOk v t:=fun t ht=>z0 hv ht
  obtain⟨ts,hts⟩:∃ ts,truths v []=ts:=⟨_,rfl⟩;rw[hts] at hne ⊢;simp only[hts] at htsk;obtain⟨σ,hσ⟩:∃ σ:St,[ABlk.cells (aC v),.cells [.int .i64 0,.int .i64 0],.cells [.lit [.int .i64 D,.int .i64 G1] true none],.cells (aC v),.cells (aC v),.map (ts.map kvT),.cells (db v 0 5)]=σ:=⟨_,rfl⟩;have hmr:xA [ABlk.cells (aC v),.cells [.int .i64 2,.int .i64 0],.cells [.lit [.int .i64 D,.int .i64 G1] true none],.cells (aC v),.cells (aC v),.map (ts.map kvT),.cells (db v 0 5)] (.map 5)=some (.ptr 7 0,[ABlk.cells (aC v),.cells [.int .i64 2,.int .i64 0],.cells [.lit [.int .i64 D,.int .i64 G1] true none],.cells (aC v),.cells (aC v),.map (ts.map kvT),.cells (db v 0 5),.miter 5 ts.length (List.range ts.length) none]):=by
   have:=A5 (σ:=[ABlk.cells (aC v),.cells [.int .i64 2,.int .i64 0],.cells [.lit [.int .i64 D,.int .i64 G1] true none],.cells (aC v),.cells (aC v),.map (ts.map kvT),.cells (db v 0 5)]) (m:=5) (es:=ts.map kvT) rfl;simpa using this
  simp only[aI] at hmr
  (repeat (first|simp only[↓QA,QB,reduceLT,reduceIte,reduceEqDiff,reduceAdd,reduceLeDiff,reduceMul,Nat.reduceBEq,iX,hmr]|refine rd0 rfl ?_))
  refine aE6 (S:=Span) ts kvT 5 7 (fun done s=>CI ⟨2,0⟩ s (mW done D)) (fun _=>[(1,.int .i64 D),(4,.ptr 1 0),(29,.ptr 7 0)])
   (fun s=>[.cells (aC v),.cells [.int .i64 s.lo,.int .i64 s.hi],.cells [.lit [.int .i64 D,.int .i64 G1] true none],.cells (aC v),.cells (aC v),.map (ts.map kvT),.cells (db v 0 5)]) ⟨2,0⟩ (fun s=>rfl) (fun s=>rfl) (fun s=>by simp[Env.get]) (aBH _) (by simp[aI]) ?_ (fun done s t i left hs ht hti=>?_) fun done s left last hs hdone=>?_
  ·try simp only[aB,QE,reduceLT,reduceIte,reduceEqDiff,reduceAdd,reduceLeDiff,reduceMul,Nat.reduceBEq,iX]
   try simp
  ·have htk:=htsk t ht;have hent:∀ τ,zE (.cells (aC v)::.cells [.int .i64 s.lo,.int .i64 s.hi]::.cells [.lit [.int .i64 D,.int .i64 G1] true none]::.cells (aC v)::.cells (aC v)::.map (ts.map kvT)::.cells (db v 0 5)::.miter 5 ts.length left (some i)::τ) (.ptr 7 0)=some (.tuple [wA t,BD t]):=fun τ=>by
    refine LL (es:=ts.map kvT) rfl rfl (by simp) ?_;rw[List.getElem?_map,hti];rfl
   simp only[aI] at hent;unfold O4;have hge:=gO 7 (rl t.rain) (show D<7 by omega);have hrb:=uL hv htk.rain D;obtain⟨x,hx⟩:∃ x,rl t.rain D=x:=⟨_,rfl⟩;rw[hx] at hge hrb;have i7:(0:Int)<=(D:Int)/\(D:Int)<((7:Nat):Int):=⟨by omega,by omega⟩;have hnx:CI ⟨2,0⟩ (mm s x) (mW (t::done) D):=by
    rw[mW,List.map_cons,hx];exact TJ hs (by simp only;omega)
   (repeat (first|simp only[↓QA,QB,reduceLT,reduceIte,reduceEqDiff,reduceAdd,reduceLeDiff,reduceMul,Nat.reduceBEq,iX,hent,kvT,wA,BD,i7,Nat.zero_add,hge,List.cons_append,List.nil_append]|refine rd0 rfl ?_))
   refine⟨(false,mm s x),⟨rfl,hnx⟩,by simp,?_⟩;try simp only[aB,QE,reduceLT,reduceIte,reduceEqDiff,reduceAdd,reduceLeDiff,reduceMul,Nat.reduceBEq,iX,mm,List.cons_append,List.nil_append]
   try simp[aF,okVs,okV]
  ·have hsp:gH (mW ts D)=s:=by
    have hc:CI ⟨2,0⟩ s (mW ts D):=AU hs fun x=>by simp only[mW,List.mem_map,hdone]
    refine (TQ hc ?_).symm;cases ts with
    |nil=>exact absurd rfl hne
    |cons a b=>simp[mW]
   rw[hsp]
   (repeat (first|simp only[↓QA,QB,reduceLT,reduceIte,reduceEqDiff,reduceAdd,reduceLeDiff,reduceMul,Nat.reduceBEq,iX,B4]|refine rd0 rfl ?_))
   try try simp only[QS,QC,reduceLT,reduceIte,reduceEqDiff,reduceAdd,reduceLeDiff,reduceMul,Nat.reduceBEq,iX]
 ·have hm:tB v d=(⟨0,0⟩,E):=by rw[tB,hE,if_neg h0']
  have hg:(E==0)=false:=by simpa using h0'
  rw[hm];refine kT (nH hf (fun τ=>hu1 _ _ rfl) hask h0') ?_
  (repeat (first|simp only[↓QA,QB,reduceLT,reduceIte,reduceEqDiff,reduceAdd,reduceLeDiff,reduceMul,Nat.reduceBEq,iX,hg,B4]|refine rd0 rfl ?_))
end Go.Am.Room.Fa
namespace Go.Am.Room.Fa
def nY:=zz @dE (zz @aI (zz @dC (zz @dD (zz @aJ (zz @dQ (zz @dS (zz @dH (zz @List.length_append.{0} (zz @Nat.mul_one (zz @Int.toNat_natCast (zz @bZ (zz @bY (zz @dY (zz @dW (zz @dZ (zz @d4 (zz @d5 (zz @dV (zz @j4 (zz @jZ (zz @j3 (zz @BF (zz @B3 (zz @ET (zz @E3 (zz @dL (zz @d7 (zz @d6 (zz @iR (zz @d8 (zz @wL (@CE))))))))))))))))))))))))))))))))
theorem qB(σ:St):eS T (.func 222 [] []) [] σ (.int .i64 0):=VZ aE9 rfl trivial
theorem VT(t:Truth)(l:List Truth)(p:Nat)(d:Int):FX (t::l) p d=((jO t p).contains d||FX l p d):=by simp[FX]
theorem RO{l k:List Truth}(h:∀ t,t∈l↔t∈k)(p:Nat)(d:Int):FX l p d=FX k p d:=by
 rw[Bool.eq_iff_iff,FX,FX,List.any_eq_true,List.any_eq_true];constructor
 ·rintro⟨t,a,b⟩;exact⟨t,(h t).1 a,b⟩
 ·rintro⟨t,a,b⟩;exact⟨t,(h t).2 a,b⟩
theorem BG(v:Farm)(n:Int)(hf:Fits v):cV T 77 [encFarm v,.int .i64 n] (sE (nP v n)):=by
 refine aR (af:=a77) rfl (by simp[a77]) dd ?_;obtain⟨E,hE⟩:∃ E,mO v n=E:=⟨_,rfl⟩;have hask:=HW v hf n;rw[hE] at hask;try simp only[↓QA,QB,reduceLT,reduceIte,reduceEqDiff,reduceAdd,reduceLeDiff,reduceMul,Nat.reduceBEq,nY,a77]
 by_cases h0':E=0
 ·subst h0';have hE2:=hE;obtain⟨hw,hne⟩:=kR hE2;obtain⟨hv,hn0,hn1⟩:=s8 hw;have hnr:=hv.nra;have hnp:=hv.npl;have hm:nP v n=(rN v (truths v []) n.toNat,0):=by rw[nP,hE,if_pos rfl]
  rw[hm];obtain⟨N,rfl⟩:∃ N:Nat,n=N:=⟨n.toNat,by omega⟩;rw[Int.toNat_natCast];have hen:=rQ hf (plot:=max (N:Int) (-1099511627775)) (eo:=0) (F:=.func 222 [] []) (σ:=[.cells (aC v)]) (fun τ=>qB _) hask;try simp only[↓QA,QB,reduceLT,reduceIte,reduceEqDiff,reduceAdd,reduceLeDiff,reduceMul,Nat.reduceBEq,nY,eL,List.cons_append,List.nil_append,List.length_cons,List.length_nil] at hen
  refine cB hen ?_;have htsk:∀ t∈truths v [],TOk v t:=fun t ht=>z0 hv ht
  obtain⟨ts,hts⟩:∃ ts,truths v []=ts:=⟨_,rfl⟩;rw[hts] at hne ⊢;simp only[hts] at htsk;have hmr:xA [ABlk.cells (aC v),.cells (aC v),.cells (aC v),.map (ts.map kvT),.cells (db v 0 3)] (.map 3)=some (.ptr 5 0,[ABlk.cells (aC v),.cells (aC v),.cells (aC v),.map (ts.map kvT),.cells (db v 0 3),.miter 3 ts.length (List.range ts.length) none]):=by
   have:=A5 (σ:=[ABlk.cells (aC v),.cells (aC v),.cells (aC v),.map (ts.map kvT),.cells (db v 0 3)]) (m:=3) (es:=ts.map kvT) rfl;simpa using this
  simp only[aI] at hmr;try simp only[↓QA,QB,reduceLT,reduceIte,reduceEqDiff,reduceAdd,reduceLeDiff,reduceMul,Nat.reduceBEq,nY,hmr]
  refine aE6 (S:=Nat) ts kvT 3 5 (fun done s=>s<2^7/\∀ i:Nat,s.testBit i=FX done N (i:Int)) (fun s=>[(1,.int .i64 N),(2,.ptr 0 0),(8,.int .i64 s),(25,.ptr 5 0)])
   (fun s=>[.cells (aC v),.cells (aC v),.cells (aC v),.map (ts.map kvT),.cells (db v 0 3)]) 0 (fun s=>rfl) (fun s=>rfl) (fun s=>by simp[Env.get]) ⟨by omega,fun i=>by simp[FX]⟩ (by simp[aI]) ?_ (fun done s t i left hs ht hti=>?_) fun done s left last hs hdone=>?_
  ·try simp only[aB,QE,reduceLT,reduceIte,reduceEqDiff,reduceAdd,reduceLeDiff,reduceMul,Nat.reduceBEq,nY]
   try simp
  ·obtain⟨hs1,hs2⟩:=hs;have htk:=htsk t ht;have hfl:=htk.fl N (by omega);have hent:∀ τ,zE (.cells (aC v)::.cells (aC v)::.cells (aC v)::.map (ts.map kvT)::.cells (db v 0 3)::.miter 3 ts.length left (some i)::τ) (.ptr 5 0)=some (.tuple [wA t,BD t]):=fun τ=>by
    refine LL (es:=ts.map kvT) rfl rfl (by simp) ?_;rw[List.getElem?_map,hti];rfl
   simp only[aI] at hent;unfold O4;have hge:=gO 4 (fun q=>(gN (jO t q):Int)) (show N<4 by omega);have hsb:gN (jO t N)<2^7:=EZ fun x hx=>by have:=hfl.2.2 x hx;omega
   have hbit:=fun i=>BY (fun x hx=>(hfl.2.2 x hx).1) i
   have vor:=S4 s (gN (jO t N)) (by omega) (by omega);have i4:(0:Int)<=(N:Int)/\(N:Int)<((4:Nat):Int):=⟨by omega,by omega⟩;have hnx:s|||gN (jO t N)<2^7/\∀ i:Nat,(s|||gN (jO t N)).testBit i=FX (t::done) N (i:Int):=by
    refine⟨Nat.or_lt_two_pow hs1 hsb,fun i=>?_⟩;rw[Nat.testBit_or,hs2,hbit,VT,Bool.or_comm]
   try simp only[↓QA,QB,reduceLT,reduceIte,reduceEqDiff,reduceAdd,reduceLeDiff,reduceMul,Nat.reduceBEq,nY,hent,kvT,wA,BD,i4,Nat.zero_add,hge,vor,List.cons_append,List.nil_append]
   refine⟨(false,s|||gN (jO t N)),⟨rfl,hnx⟩,by simp,?_⟩;try simp only[aB,QE,reduceLT,reduceIte,reduceEqDiff,reduceAdd,reduceLeDiff,reduceMul,Nat.reduceBEq,nY,List.cons_append,List.nil_append]
   try simp[aF,okVs,okV]
  ·obtain⟨hs1,hs2⟩:=hs;have hsp:lst v.rain.length s=rN v ts N:=by
    rw[lst,rN];refine List.filter_congr fun x hx=>?_
    have hx0:=(bI _ _ _).1 hx;rw[<-pR,hs2,show ((x.toNat:Nat):Int)=x by omega,RO hdone]
   have hnum:=nQ s v.rain.length (by omega) (by omega);rw[hsp] at hnum;obtain⟨F,hF⟩:∃ F,rN v ts N=F:=⟨_,rfl⟩;rw[hF] at hnum ⊢;try simp only[↓QA,QB,reduceLT,reduceIte,reduceEqDiff,reduceAdd,reduceLeDiff,reduceMul,Nat.reduceBEq,nY,sE]
   (refine aD (hnum) rfl dd ?_;try simp only[↓QA,QB,reduceLT,reduceIte,reduceEqDiff,reduceAdd,reduceLeDiff,reduceMul,Nat.reduceBEq,nY,sE])
   try try simp only[QS,QC,reduceLT,reduceIte,reduceEqDiff,reduceAdd,reduceLeDiff,reduceMul,Nat.reduceBEq,nY]
 ·have hm:nP v n=([],E):=by rw[nP,hE,if_neg h0']
  have hg:(E==0)=false:=by simpa using h0'
  rw[hm];refine aS (nH hf (fun τ=>qB _) hask h0') ?_;try simp only[↓QA,QB,reduceLT,reduceIte,reduceEqDiff,reduceAdd,reduceLeDiff,reduceMul,Nat.reduceBEq,nY,hg,sE]
  try rfl
def aN1(v:Farm)(s:Span)(some:Bool):Int :=
 if sJ (decide (v.full<=s.lo)) (decide (s.hi<v.full))=2 then 2 else if sJ (decide (s.hi+v.way.hi<=v.ripe)) (decide (v.ripe<s.lo+v.way.lo))=2 then 2
 else if sJ (decide (v.full<=s.lo)) (decide (s.hi<v.full))=1/\sJ (decide (s.hi+v.way.hi<=v.ripe)) (decide (v.ripe<s.lo+v.way.lo))=1 then 1 else if some then 0 else 2
def wV(v:Farm)(n:Int):Bool:=decide (v.full<=n)&&decide (n+v.way.lo<=v.ripe)
theorem aDK{v:Farm}(hv:Vd v){ts:List Truth}(hts:∀ t∈ts,TOk v t)(hne:ts≠[]){P d:Nat}(hP:P<v.plots.length)(hd:d<=v.rain.length):
  eG v ts P d=aN1 v (lZ ts P d) ((dO ts P d).any (wV v)):=by
 have hfn:=xT hts hne hP d;obtain⟨h1,h2,h3⟩:=kS hfn;have hwy:=hv.way;have hgne:kF v ts P d≠[]:=by
  rw[kF];cases hfi:dO ts P d with
  |nil=>exact absurd hfi hfn
  |cons a b =>
   have:jY v.way≠[]:=List.ne_nil_of_mem (jV.2 ⟨Int.le_refl _,hwy.2.1⟩);simp[uT,this]
 have hall:eG v ts P d=1↔∀ n∈dO ts P d,∀ w,v.way.lo<=w->w<=v.way.hi->v.full<=n/\n+w<=v.ripe:=by
  rw[eG,oY];simp only[kF,uT,List.mem_flatMap,List.mem_map,jV];constructor
  ·intro h n hn w hw0 hw1;have:=h (nF v n w) ⟨n,hn,w,⟨hw0,hw1⟩,rfl⟩;simpa[nF] using this
  ·rintro h _ ⟨n,hn,w,⟨hw0,hw1⟩,rfl⟩;have:=h n hn w hw0 hw1;simpa[nF] using this
 have hnone:eG v ts P d=2↔∀ n∈dO ts P d,∀ w,v.way.lo<=w->w<=v.way.hi->¬(v.full<=n/\n+w<=v.ripe):=by
  rw[eG,n7];simp only[kF,uT,List.mem_flatMap,List.mem_map,jV];constructor
  ·rintro⟨_,h⟩ n hn w hw0 hw1 hc;have:=h (nF v n w) ⟨n,hn,w,⟨hw0,hw1⟩,rfl⟩;simp[nF,hc.1,hc.2] at this
  ·intro h;refine⟨hgne,?_⟩;rintro _ ⟨n,hn,w,⟨hw0,hw1⟩,rfl⟩;have:=h n hn w hw0 hw1;rw[id,Bool.eq_false_iff];intro hc;simp[nF] at hc;exact this hc
 have hcases:=lG ((kF v ts P d).filter id).length (kF v ts P d).length;have hg:eG v ts P d=fF ((kF v ts P d).filter id).length (kF v ts P d).length:=rfl;rw[<-hg] at hcases;have hany:(dO ts P d).any (wV v)=true↔∃ n∈dO ts P d,v.full<=n/\n+v.way.lo<=v.ripe:=by
  simp[List.any_eq_true,wV]
 have hS:gH (dO ts P d)=lZ ts P d:=rfl;rw[hS] at h1 h2 h3;obtain⟨s,hs⟩:∃ s,lZ ts P d=s:=⟨_,rfl⟩;rw[hs] at h1 h2 h3 ⊢;simp only[aN1,sJ];by_cases a1:v.full<=s.lo
 ·by_cases a2:s.hi+v.way.hi<=v.ripe
  ·have:eG v ts P d=1:=hall.2 fun n hn w hw0 hw1=>by have:=h3 n hn;omega
   simp[a1,a2,this]
  ·by_cases a3:v.ripe<s.lo+v.way.lo
   ·have:eG v ts P d=2:=hnone.2 fun n hn w hw0 hw1=>by have:=h3 n hn;omega
    simp[a1,a2,a3,this]
   ·have hn1:eG v ts P d≠1:=fun e=>by have:=hall.1 e _ h2 _ (hwy.2.1) (Int.le_refl _);omega
    have hn2:eG v ts P d≠2:=fun e=>hnone.1 e _ h1 _ (Int.le_refl _) hwy.2.1 ⟨a1,by omega⟩
    have h0:eG v ts P d=0:=by rcases hcases with h|h|h<;>first|exact h|exact absurd h hn1|exact absurd h hn2
    have:(dO ts P d).any (wV v)=true:=hany.2 ⟨_,h1,a1,by omega⟩;simp[a1,a2,a3,h0,this]
 ·by_cases a4:s.hi<v.full
  ·have:eG v ts P d=2:=hnone.2 fun n hn w hw0 hw1=>by have:=h3 n hn;omega
   simp[a1,a4,this]
  ·have hn1:eG v ts P d≠1:=fun e=>by have:=hall.1 e _ h1 _ (Int.le_refl _) hwy.2.1;omega
   by_cases hc:(dO ts P d).any (wV v)=true
   ·obtain⟨n,hn,c1,c2⟩:=hany.1 hc;have hn2:eG v ts P d≠2:=fun e=>hnone.1 e n hn _ (Int.le_refl _) hwy.2.1 ⟨c1,c2⟩
    have h0:eG v ts P d=0:=by rcases hcases with h|h|h<;>first|exact h|exact absurd h hn1|exact absurd h hn2
    have hnn:=h3 n hn;have a3:¬v.ripe<s.lo+v.way.lo:=by omega
    by_cases a2:s.hi+v.way.hi<=v.ripe
    ·simp[a1,a4,a2,h0,hc]
    ·simp[a1,a4,a2,a3,h0,hc]
   ·have h2':eG v ts P d=2:=hnone.2 fun n hn w hw0 hw1 hcc=>hc (hany.2 ⟨n,hn,hcc.1,by omega⟩)
    have hcf:(dO ts P d).any (wV v)=false:=by simpa using hc
    rw[h2',hcf];by_cases a2:s.hi+v.way.hi<=v.ripe
    ·simp[a1,a4,a2]
    ·by_cases a3:v.ripe<s.lo+v.way.lo
     ·simp[a1,a4,a2,a3]
     ·simp[a1,a4,a2,a3]
end Go.Am.Room.Fa
namespace Go.Am.Room.Fa
def cA:=zz @dE (zz @aI (zz @dC (zz @dD (zz @aJ (zz @dQ (zz @dS (zz @dH (zz @List.length_append.{0} (zz @Nat.mul_one (zz @Int.toNat_natCast (zz @bZ (zz @bY (zz @dY (zz @dW (zz @dZ (zz @d4 (zz @d5 (zz @dV (zz @j4 (zz @jZ (zz @j3 (zz @BF (zz @B3 (zz @ET (zz @E3 (zz @dL (zz @d7 (zz @d6 (zz @iR (zz @d8 (zz @wL (@CE))))))))))))))))))))))))))))))))
def u4:List Nat:=[443,445]
def nW(i:Nat):AV:=.agg [.func i [] []]
theorem FL(i:Nat):nW i = .agg [.func i [] []]:=by simp only[nW]
theorem UZ(i:Nat):j8 (nW i):=⟨by simp[nW,okV,okVs],by simp[nW,clr,clrs]⟩
theorem IR(σ:St)(m d:Nat)(l:List Nat):cI σ m d (l.map nW)=some (l.map nW):=iZ (bH UZ l) σ m d
theorem X3:cV T 331 [] (.lit (u4.map nW) false none):=by
 refine aR (af:=ZT) rfl (by simp[ZT]) a9 ?_;try simp only[↓QA,QB,seval,cA,ZT,u4,FL,List.map_cons,List.map_nil]
 try simp[cQ,cI,snap,snaps,clr,clrs]
def aC4(v:Farm)(s:Span):Int:=sJ (decide (v.full<=s.lo)) (decide (s.hi<v.full))
def aCN(v:Farm)(s:Span):Int:=sJ (decide (s.hi+v.way.hi<=v.ripe)) (decide (v.ripe<s.lo+v.way.lo))
theorem TF(v:Farm)(b m p:Nat)(s:Span)(σ:St)(hp:aH σ p=some (db v b m)):eS T (.func 443 [] []) [.ptr p 0,cG s] σ (.int .i64 (aC4 v s)):=by
 refine bN (af:=aAO) rfl (by simp[aAO]) ?_;have h0:=fun τ=>iI hp τ
 (repeat (first|simp only[↓QA,QB,seval,cA,aAO,h0]|refine rd0 rfl ?_))
 ((first|refine aD (EP (decide (v.full<=s.lo)) (decide (s.hi<v.full))) rfl dd ?_|refine aG (EP (decide (v.full<=s.lo)) (decide (s.hi<v.full))) rfl dd ?_);(repeat (first|simp only[↓QA,QB,seval,cA,h0]|refine rd0 rfl ?_)))
 refine bU [.cells [.int .i64 s.lo,.int .i64 s.hi]] (by first|rfl|simp) ?_;try simp only[QS,QC,seval,cA,aC4]
theorem P8(v:Farm)(hv:Vd v)(b m p:Nat)(s:Span)(hs:0<=s.lo/\s.lo<=s.hi/\s.hi<=21)(σ:St)(hp:aH σ p=some (db v b m)):eS T (.func 445 [] []) [.ptr p 0,cG s] σ (.int .i64 (aCN v s)):=by
 refine bN (af:=YC) rfl (by simp[YC]) ?_;have h0:=fun τ=>iI hp τ
 have hwy:=hv.way;have w1:IntKind.i64.wrap (s.hi+v.way.hi)=s.hi+v.way.hi:=bM ⟨by omega,by omega⟩;have w2:IntKind.i64.wrap (s.lo+v.way.lo)=s.lo+v.way.lo:=bM ⟨by omega,by omega⟩
 (repeat (first|simp only[↓QA,QB,seval,cA,YC,h0,w1,w2]|refine rd0 rfl ?_))
 ((first|refine aD (EP (decide (s.hi+v.way.hi<=v.ripe)) (decide (v.ripe<s.lo+v.way.lo))) rfl dd ?_|refine aG (EP (decide (s.hi+v.way.hi<=v.ripe)) (decide (v.ripe<s.lo+v.way.lo))) rfl dd ?_);(repeat (first|simp only[↓QA,QB,seval,cA,h0]|refine rd0 rfl ?_)))
 refine bU [.cells [.int .i64 s.lo,.int .i64 s.hi]] (by first|rfl|simp) ?_;try simp only[QS,QC,seval,cA,aCN]
theorem D8(a b:Bool):sJ a b=0\/sJ a b=1\/sJ a b=2:=by cases a<;>cases b<;>simp[sJ]
set_option maxHeartbeats 1000000 in
theorem NL(v:Farm)(hv:Vd v)(ts:List Truth)(hts:∀ t∈ts,KOk v t)(hne:ts≠[])(b m p:Nat)(σ:St)(hK:KnownAt σ v b m p ts)(P d:Nat)(hP:P<v.plots.length)(hd:d<=v.rain.length):
  eS T (.func 204 [] []) [.ptr p 0,.int .i64 P,.int .i64 d] σ (.int .i64 (eG v ts P d)):=by
 refine bN (af:=aDM) rfl (by simp[aDM]) ?_;have hnr:=hv.nra;have hnp:=hv.npl;have hwy:=hv.way;have hpl:=hK.pl;have hml:=hK.ml;have h0:=fun τ=>iI hK.obj τ
 have hmr:=fun τ=>A5 (hK.map1 τ)
 simp only[List.length_map] at hmr;have hp1:p<σ.length+1:=by omega
 have hp2:p<σ.length+2:=by omega
 have hm2:m<σ.length+2:=by omega
 have i4:(0:Int)<=(P:Int)/\(P:Int)<((4:Nat):Int):=⟨by omega,by omega⟩;have hgr:=u3 v hv ts hts hne b m p σ hK P d hP hd;have hgood:=aDK hv (fun t ht=>(hts t ht).tok) hne hP hd;have hsb:=F8 hv (fun t ht=>(hts t ht).tok) hne hP hd;obtain⟨s,hs⟩:∃ s,lZ ts P d=s:=⟨_,rfl⟩;rw[hs] at hgr hgood hsb;obtain⟨G,hG⟩:∃ G,eG v ts P d=G:=⟨_,rfl⟩;rw[hG] at hgood ⊢;have hr1:=fun τ=>TF v b m p s (σ++τ) (h0 τ)
 have hr2:=fun τ=>P8 v hv b m p s hsb (σ++τ) (h0 τ)
 obtain⟨K1,hK1⟩:∃ K1,aC4 v s=K1:=⟨_,rfl⟩;obtain⟨K2,hK2⟩:∃ K2,aCN v s=K2:=⟨_,rfl⟩;have c1:K1=0\/K1=1\/K1=2:=by rw[<-hK1];exact D8 _ _
 have c2:K2=0\/K2=1\/K2=2:=by rw[<-hK2];exact D8 _ _
 have hgd:G=if K1=2 then 2 else if K2=2 then 2 else if K1=1/\K2=1 then 1 else if (dO ts P d).any (wV v) then 0 else 2:=by
  rw[hgood,<-hK1,<-hK2];rfl
 simp only[hK1] at hr1;simp only[hK2] at hr2;have hrl:(u4.map nW).length=2:=rfl;have hrl2:u4.length=2:=rfl
 (repeat (first|simp only[↓QA,QB,reduceLT,reduceIte,reduceEqDiff,reduceAdd,reduceLeDiff,reduceMul,Nat.reduceBEq,cA,aDM]|refine rd0 rfl ?_))
 refine aS hgr ?_
 (repeat (first|simp only[↓QA,QB,reduceLT,reduceIte,reduceEqDiff,reduceAdd,reduceLeDiff,reduceMul,Nat.reduceBEq,cA]|refine rd0 rfl ?_))
 refine aD X3 rfl a9 ?_
 (repeat (first|simp only[↓QA,QB,reduceLT,reduceIte,reduceEqDiff,reduceAdd,reduceLeDiff,reduceMul,Nat.reduceBEq,cA,hrl,hrl2]|refine rd0 rfl ?_))
 refine bC (S:=Nat×Bool) (0,true) (fun a=>a.1<=2/\(a.1=0->a.2=true)/\(1<=a.1->K1≠2)/\(a.1=1->a.2=(K1==1))/\(2<=a.1->K2≠2/\a.2=((K1==1)&&(K2==1)))) (fun a=>2-a.1)
  (fun a=>[(0,.ptr p 0),(1,.int .i64 P),(2,.int .i64 d),(7,.ptr σ.length 0),(8,.bool a.2),(20,.lit (u4.map nW) false none),(21,.int .i64 2),(22,.int .i64 a.1)])
  (fun a=>σ++[.cells [.int .i64 s.lo,.int .i64 s.hi]]) ⟨by omega,fun _=>rfl,fun h=>absurd h (by simp),fun h=>by simp at h,fun h=>absurd h (by simp)⟩ (by simp) ?_ fun a ha=>?_
 ·try simp only[aB,QE,reduceLT,reduceIte,reduceEqDiff,reduceAdd,reduceLeDiff,reduceMul,Nat.reduceBEq,cA]
  try simp
 ·obtain⟨k,bb⟩:=a;obtain⟨hk,q0,q1,q2,q3⟩:=ha;simp only at hk q0 q1 q2 q3
  (repeat (first|simp only[↓QA,QB,reduceLT,reduceIte,reduceEqDiff,reduceAdd,reduceLeDiff,reduceMul,Nat.reduceBEq,cA,aDD]|refine rd0 rfl ?_))
  refine aE (fun h=>?_) fun h=>?_
  ·have hk2:k=0\/k=1:=by
    have h0:(k:Int)<2:=by simpa using h
    omega
   have hw:=bD (show k<2 by omega) (by omega);have hlk:k<u4.length:=by rw[hrl2];omega
   obtain⟨id,hid,X,hcall,hX⟩:∃ id,u4[k]=id/\∃ X,(∀ τ,eS T (.func id [] []) [.ptr p 0,cG s] (σ++τ) (.int .i64 X))/\((k=0/\X=K1)\/(k=1/\X=K2)):=by
    rcases hk2 with rfl|rfl
    ·exact⟨_,rfl,K1,hr1,.inl ⟨rfl,rfl⟩⟩
    ·exact⟨_,rfl,K2,hr2,.inr ⟨rfl,rfl⟩⟩
   have hcl:bV 1 (.agg [.func id [] []])=true:=by simp[bV,AV.cells,AV.cell]
   (repeat (first|simp only[↓QA,QB,reduceLT,reduceIte,reduceEqDiff,reduceAdd,reduceLeDiff,reduceMul,Nat.reduceBEq,cA,hlk,hid,hcl,FL]|refine rd0 rfl ?_))
   refine aS (hcall _) ?_;cases hx2:(X==2)
   ·have hx2':X≠2:=by simpa using hx2
    cases hx0:(X==0)
    ·have hx0':X≠0:=by simpa using hx0
     (repeat (first|simp only[↓QA,QB,reduceLT,reduceIte,reduceEqDiff,reduceAdd,reduceLeDiff,reduceMul,Nat.reduceBEq,cA,hx2,hx0,hw]|refine rd0 rfl ?_))
     refine⟨(k+1,bb),⟨by simp only;omega,fun h=>by simp at h,?_,?_,?_⟩,by simp only;omega,?_⟩
     ·intro _;rcases hX with⟨e1,e2⟩|⟨e1,e2⟩
      ·rw[<-e2];exact hx2'
      ·exact q1 (by omega)
     ·intro e;simp only at e;have e0:k=0:=by omega
      have hb:=q0 e0;rcases hX with⟨e1,e2⟩|⟨e1,e2⟩
      ·simp only[hb];have:K1=1:=by omega
       simp[this]
      ·omega
     ·intro e;simp only at e;rcases hX with⟨e1,e2⟩|⟨e1,e2⟩
      ·omega
      ·refine⟨by rw[<-e2];exact hx2',?_⟩;simp only[q2 e1];have:K2=1:=by omega
       simp[this]
     ·try simp only[aB,QE,reduceLT,reduceIte,reduceEqDiff,reduceAdd,reduceLeDiff,reduceMul,Nat.reduceBEq,cA,hw,hp1,IR]
      try simp[aF,okVs,okV]
    ·have hx0':X=0:=by simpa using hx0
     (repeat (first|simp only[↓QA,QB,reduceLT,reduceIte,reduceEqDiff,reduceAdd,reduceLeDiff,reduceMul,Nat.reduceBEq,cA,hx2,hx0,hw]|refine rd0 rfl ?_))
     refine⟨(k+1,false),⟨by simp only;omega,fun h=>by simp at h,?_,?_,?_⟩,by simp only;omega,?_⟩
     ·intro _;rcases hX with⟨e1,e2⟩|⟨e1,e2⟩
      ·rw[<-e2];exact hx2'
      ·exact q1 (by omega)
     ·intro e;simp only at e;rcases hX with⟨e1,e2⟩|⟨e1,e2⟩
      ·have:K1=0:=by omega
       simp[this]
      ·omega
     ·intro e;simp only at e;rcases hX with⟨e1,e2⟩|⟨e1,e2⟩
      ·omega
      ·refine⟨by rw[<-e2];exact hx2',?_⟩;have:K2=0:=by omega
       simp[this]
     ·try simp only[aB,QE,reduceLT,reduceIte,reduceEqDiff,reduceAdd,reduceLeDiff,reduceMul,Nat.reduceBEq,cA,hw,hp1,IR]
      try simp[aF,okVs,okV]
   ·have hx2':X=2:=by simpa using hx2
    have hG2:G=2:=by
     rcases hX with⟨e1,e2⟩|⟨e1,e2⟩
     ·rw[hgd,if_pos (by omega)]
     ·rw[hgd];split
      ·rfl
      ·rw[if_pos (by omega)]
    rw[hG2]
    (repeat (first|simp only[↓QA,QB,reduceLT,reduceIte,reduceEqDiff,reduceAdd,reduceLeDiff,reduceMul,Nat.reduceBEq,cA,hx2]|refine rd0 rfl ?_))
    refine bU [.cells [.int .i64 s.lo,.int .i64 s.hi],.cells [.func id [] []]] (by first|rfl|simp) ?_;try simp only[QS,QC,reduceLT,reduceIte,reduceEqDiff,reduceAdd,reduceLeDiff,reduceMul,Nat.reduceBEq,cA]
  ·have hk2:k=2:=by
    have h0:¬(k:Int)<2:=by simpa using h
    omega
   obtain⟨q4,q5⟩:=q3 (by omega);have q6:=q1 (by omega);clear q0 q1 q2 q3;cases bb
   ·have h11:¬(K1=1/\K2=1):=by
     rintro⟨e1,e2⟩;rw[e1,e2] at q5;simp at q5
    rw[if_neg q6,if_neg q4,if_neg h11] at hgd
    (repeat (first|simp only[↓QA,QB,reduceLT,reduceIte,reduceEqDiff,reduceAdd,reduceLeDiff,reduceMul,Nat.reduceBEq,cA,h0,hmr]|refine rd0 rfl ?_))
    refine aE6 (S:=Unit) ts kvT m (σ.length+1) (fun done _=>∀ n∈dO done P d,wV v n=false) (fun _=>[(0,.ptr p 0),(1,.int .i64 P),(2,.int .i64 d),(41,.ptr (σ.length+1) 0)])
     (fun _=>σ++[.cells [.int .i64 s.lo,.int .i64 s.hi]]) () (fun s=>by simp) (fun s=>hK.map1 _) (fun s=>by simp[Env.get]) (fun n hn=>by simp[dO] at hn) (by simp) ?_ (fun done _ t i left hcan ht hti=>?_) fun done _ left last hcan hdone=>?_
    ·try simp only[aB,QE,reduceLT,reduceIte,reduceEqDiff,reduceAdd,reduceLeDiff,reduceMul,Nat.reduceBEq,cA]
     try simp
    ·have hent:=EB hK hti left;unfold O4;obtain⟨htk,hlst⟩:=hts t ht;have hfl:=htk.fl P hP;have hlst:=hlst P hP;have hsb2:gN (jO t P)<2^7:=EZ fun x hx=>by have:=hfl.2.2 x hx;omega
     have hge:=gO 4 (fun q=>(gN (jO t q):Int)) (show P<4 by omega);have hnum:=nQ (gN (jO t P)) v.rain.length (by omega) (by omega);rw[hlst] at hnum;have hfull:=fun (H:Nat) (τ:St)=>I3 (.ptr p 0) (rl t.rain) H d (uL hv htk.rain) (by omega) τ
     have hmem:∀ x∈jO t P,(∃ y∈dO ts P d,y=vI t d x):=fun x hx=>⟨_,by simp only[dO,List.mem_flatMap,List.mem_map];exact⟨t,ht,x,hx,rfl⟩,rfl⟩
     have hst:∀ x,x∈dO (t::done) P d->x∈(jO t P).map (vI t d)\/x∈dO done P d:=fun x=>by
      rw[dO,List.flatMap_cons,List.mem_append];exact id
     obtain⟨F,hF⟩:∃ F,jO t P=F:=⟨_,rfl⟩;rw[hF] at hfl hnum hst hmem;simp only[hF] at hge;obtain⟨bb,hbb⟩:∃ bb:Nat,gN F=bb:=⟨_,rfl⟩;rw[hbb] at hnum;simp only[hbb] at hge
     (repeat (first|simp only[↓QA,QB,reduceLT,reduceIte,reduceEqDiff,reduceAdd,reduceLeDiff,reduceMul,Nat.reduceBEq,cA,hent,h0,kvT,wA,BD,i4,Nat.zero_add,hge]|refine rd0 rfl ?_))
     ((first|refine aD (hnum) rfl dd ?_|refine aG (hnum) rfl dd ?_);(repeat (first|simp only[↓QA,QB,reduceLT,reduceIte,reduceEqDiff,reduceAdd,reduceLeDiff,reduceMul,Nat.reduceBEq,cA,hent,h0,kvT,wA,BD,i4,Nat.zero_add,hge,ints]|refine rd0 rfl ?_)))
     refine bC (S:=Nat) 0 (fun k=>k<=F.length/\∀ x∈(F.take k).map (vI t d),wV v x=false) (fun k=>F.length-k)
      (fun k=>[(0,.ptr p 0),(1,.int .i64 P),(2,.int .i64 d),(11,.ptr (σ.length+2) 0),(41,.ptr (σ.length+1) 0),(56,ints F),(57,.int .i64 F.length),(58,.int .i64 k)])
      (fun k=>σ++[.cells [.int .i64 s.lo,.int .i64 s.hi],.miter m ts.length left (some i),.cells (aZ 7 (rl t.rain)),.cells (aZ 4 (fun q=>(gN (jO t q):Int)))]) ⟨Nat.zero_le _,by simp⟩ (by simp) ?_ fun k hk=>?_
     ·try simp only[aB,QE,reduceLT,reduceIte,reduceEqDiff,reduceAdd,reduceLeDiff,reduceMul,Nat.reduceBEq,cA,ints]
      try simp
     ·obtain⟨hk,hmm⟩:=hk
      (repeat (first|simp only[↓QA,QB,reduceLT,reduceIte,reduceEqDiff,reduceAdd,reduceLeDiff,reduceMul,Nat.reduceBEq,cA,aA1,ints]|refine rd0 rfl ?_))
      refine aE (fun h=>?_) fun h=>?_
      ·have hk1:k<F.length:=by simpa using h
       have hwk:=bD hk1 (by omega);have hm:=hfl.2.2 _ (List.getElem_mem hk1);have hme:=hmem _ (List.getElem_mem hk1);obtain⟨H,hH⟩:∃ H:Nat,F[k]=(H:Int):=⟨F[k].toNat,by omega⟩;rw[hH] at hme;have hfu:=hfull H;have hx:pts (rl t.rain) H d=vI t d H:=by simp[vI,EG]
       have hxb:=L9 hv htk hd (H:Int);rw[hx] at hfu;obtain⟨x,hxe⟩:∃ x,vI t d H=x:=⟨_,rfl⟩;rw[hxe] at hxb hme;simp only[hxe] at hfu;have hnx:wV v x=false->∀ y∈(F.take (k+1)).map (vI t d),wV v y=false:=fun hc y hy=>by
        rw[List.take_succ_eq_append_getElem hk1,List.map_append,List.map_cons,List.map_nil,hH,hxe] at hy;rcases List.mem_append.1 hy with hy|hy
        ·exact hmm y hy
        ·simp at hy;rw[hy];exact hc
       have hwx:IntKind.i64.wrap (x+v.way.lo)=x+v.way.lo:=bM ⟨by omega,by omega⟩;have hcb:wV v x=(decide (v.full<=x)&&decide (x+v.way.lo<=v.ripe)):=rfl
       (repeat (first|simp only[↓QA,QB,reduceLT,reduceIte,reduceEqDiff,reduceAdd,reduceLeDiff,reduceMul,Nat.reduceBEq,cA,hk1,hH,ints]|refine rd0 rfl ?_))
       refine aS (hfu _) ?_
       (repeat (first|simp only[↓QA,QB,reduceLT,reduceIte,reduceEqDiff,reduceAdd,reduceLeDiff,reduceMul,Nat.reduceBEq,cA,h0]|refine rd0 rfl ?_))
       cases h5:decide (v.full<=x)
       ·have hc:wV v x=false:=by rw[hcb,h5];rfl
        (repeat (first|simp only[↓QA,QB,reduceLT,reduceIte,reduceEqDiff,reduceAdd,reduceLeDiff,reduceMul,Nat.reduceBEq,cA,h5,h0,hwk]|refine rd0 rfl ?_))
        refine⟨k+1,⟨by omega,hnx hc⟩,by omega,?_⟩;try simp only[aB,QE,reduceLT,reduceIte,reduceEqDiff,reduceAdd,reduceLeDiff,reduceMul,Nat.reduceBEq,cA,hwk,ints,hp2]
        try simp[aF,okVs,okV,pS]
        try omega
       ·cases h6:decide (x+v.way.lo<=v.ripe)
        ·have hc:wV v x=false:=by rw[hcb,h5,h6];rfl
         (repeat (first|simp only[↓QA,QB,reduceLT,reduceIte,reduceEqDiff,reduceAdd,reduceLeDiff,reduceMul,Nat.reduceBEq,cA,h5,h0,hwx,h6,hwk]|refine rd0 rfl ?_))
         refine⟨k+1,⟨by omega,hnx hc⟩,by omega,?_⟩;try simp only[aB,QE,reduceLT,reduceIte,reduceEqDiff,reduceAdd,reduceLeDiff,reduceMul,Nat.reduceBEq,cA,hwk,ints,hp2]
         try simp[aF,okVs,okV,pS]
         try omega
        ·have hc:wV v x=true:=by rw[hcb,h5,h6];rfl
         have hany:(dO ts P d).any (wV v)=true:=by
          obtain⟨y,hy,rfl⟩:=hme;exact List.any_eq_true.2 ⟨_,hy,hc⟩
         have hG0:G=0:=by rw[hgd,hany];rfl
         rw[hG0]
         (repeat (first|simp only[↓QA,QB,reduceLT,reduceIte,reduceEqDiff,reduceAdd,reduceLeDiff,reduceMul,Nat.reduceBEq,cA,h5,h0,hwx,h6]|refine rd0 rfl ?_))
         refine bU [.cells [.int .i64 s.lo,.int .i64 s.hi],.miter m ts.length left (some i),.cells (aZ 7 (rl t.rain)),.cells (aZ 4 (fun q=>(gN (jO t q):Int)))] (by first|rfl|simp) ?_;try simp only[QS,QC,reduceLT,reduceIte,reduceEqDiff,reduceAdd,reduceLeDiff,reduceMul,Nat.reduceBEq,cA]
      ·have hk1:k=F.length:=by simp at h;omega
       rw[hk1,List.take_length] at hmm
       (repeat (first|simp only[↓QA,QB,reduceLT,reduceIte,reduceEqDiff,reduceAdd,reduceLeDiff,reduceMul,Nat.reduceBEq,cA]|refine rd0 rfl ?_))
       refine⟨(false,()),⟨rfl,fun x hx=>?_⟩,by simp,?_⟩
       ·rcases hst x hx with h|h
        ·exact hmm x h
        ·exact hcan x h
       ·try simp only[aB,QE,reduceLT,reduceIte,reduceEqDiff,reduceAdd,reduceLeDiff,reduceMul,Nat.reduceBEq,cA,hp2]
        try simp[aF,okVs,okV]
        try omega
    ·have hany:(dO ts P d).any (wV v)=false:=by
      rw[Bool.eq_false_iff];intro hc;obtain⟨n,hn,hcn⟩:=List.any_eq_true.1 hc;have:n∈dO done P d:=by simp only[dO,List.mem_flatMap,hdone] at hn ⊢;exact hn
      rw[hcan n this] at hcn;cases hcn
     have hG2:G=2:=by rw[hgd,hany];rfl
     rw[hG2]
     (repeat (first|simp only[↓QA,QB,reduceLT,reduceIte,reduceEqDiff,reduceAdd,reduceLeDiff,reduceMul,Nat.reduceBEq,cA]|refine rd0 rfl ?_))
     refine bU [.cells [.int .i64 s.lo,.int .i64 s.hi],.miter m ts.length left last] (by first|rfl|simp) ?_;try simp only[QS,QC,reduceLT,reduceIte,reduceEqDiff,reduceAdd,reduceLeDiff,reduceMul,Nat.reduceBEq,cA]
   ·have h11:K1=1/\K2=1:=by
     have:=q5.symm;simpa using this
    have hG1:G=1:=by rw[hgd,if_neg q6,if_neg q4,if_pos h11]
    rw[hG1]
    (repeat (first|simp only[↓QA,QB,reduceLT,reduceIte,reduceEqDiff,reduceAdd,reduceLeDiff,reduceMul,Nat.reduceBEq,cA]|refine rd0 rfl ?_))
    refine bU [.cells [.int .i64 s.lo,.int .i64 s.hi]] (by first|rfl|simp) ?_;try simp only[QS,QC,reduceLT,reduceIte,reduceEqDiff,reduceAdd,reduceLeDiff,reduceMul,Nat.reduceBEq,cA]
end Go.Am.Room.Fa
namespace Go.Am.Room.Fa
def cY:=zz @dE (zz @aI (zz @dC (zz @dD (zz @aJ (zz @dQ (zz @dS (zz @dH (zz @List.length_append.{0} (zz @Nat.mul_one (zz @Int.toNat_natCast (zz @bZ (zz @bY (zz @dY (zz @dW (zz @dZ (zz @d4 (zz @d5 (zz @dV (zz @j4 (zz @jZ (zz @j3 (zz @wL (@CE)))))))))))))))))))))))
theorem xC(v:Farm)(n d:Int)(hf:Fits v):cV T 59 [encFarm v,.int .i64 n,.int .i64 d] (lX (yS v n d)):=by
 refine aR (af:=a59) rfl (by simp[a59]) dd ?_;obtain⟨E,hE⟩:∃ E,lF v n d=E:=⟨_,rfl⟩;have hask:=JR v hf n d;rw[hE] at hask;have hun:=fun σ=>uC [d,(v.rain.length:Int)] σ
 have hu1:=fun (q:Nat) (σ:St) hq=>rY [d,(v.rain.length:Int)] (by simp) q σ hq
 simp only[yH,List.map_cons,List.map_nil] at hun hu1
 (repeat (first|simp only[↓QA,QB,seval,cY,a59]|refine rd0 rfl ?_))
 refine n9 (hun _) ?_
 (repeat (first|simp only[↓QA,QB,seval,cY]|refine rd0 rfl ?_))
 by_cases h0':E=0
 ·subst h0';have hE2:=hE;obtain⟨hw,hne⟩:=kR hE2;obtain⟨ha,hd0,hd1⟩:=tG hw;obtain⟨hv,hn0,hn1⟩:=s8 ha;have hm:yS v n d=(eG v (truths v []) n.toNat d.toNat,0):=by rw[yS,hE,if_pos rfl]
  rw[hm];simp only[g0] at hd1;obtain⟨N,rfl⟩:∃ N:Nat,n=N:=⟨n.toNat,by omega⟩;obtain⟨D,rfl⟩:∃ D:Nat,d=D:=⟨d.toNat,by omega⟩;rw[Int.toNat_natCast,Int.toNat_natCast];have hen:=rQ hf (plot:=max (N:Int) (-1099511627775)) (eo:=lV [(D:Int),(v.rain.length:Int)]) (F:=.func 233 [] [.ptr 1 0]) (σ:=[.cells (aC v),.cells [.lit [.int .i64 D,.int .i64 v.rain.length] true none]]) (fun τ=>hu1 _ _ rfl) hask;have hgr:=NL v hv (truths v []) (fun t ht=>GF hv ht) hne 0 4 5 (eL ([.cells (aC v),.cells [.lit [.int .i64 D,.int .i64 v.rain.length] true none]]++[.cells (aC v)]) v 0 (truths v [])) ⟨rfl,rfl⟩ N D (by omega) (by omega);try simp only[↓QA,QB,seval,cY,eL,List.cons_append,List.nil_append,List.length_cons,List.length_nil] at hen
  try simp only[↓QA,QB,seval,cY,eL,List.cons_append,List.nil_append,List.length_cons,List.length_nil] at hgr
  refine n9 hen ?_
  (repeat (first|simp only[↓QA,QB,seval,cY]|refine rd0 rfl ?_))
  refine aS hgr ?_
  (repeat (first|simp only[↓QA,QB,seval,cY,lX]|refine rd0 rfl ?_))
 ·have hm:yS v n d=(0,E):=by rw[yS,hE,if_neg h0']
  have hg:(E==0)=false:=by simpa using h0'
  rw[hm];refine kT (nH hf (fun τ=>hu1 _ _ rfl) hask h0') ?_
  (repeat (first|simp only[↓QA,QB,seval,cY,hg,lX]|refine rd0 rfl ?_))
theorem N3(v:Farm)(n:Int)(hf:Fits v):cV T 74 [encFarm v,.int .i64 n] (j5 (zZ v n)):=by
 refine aR (af:=a74) rfl (by simp[a74]) dd ?_;obtain⟨E,hE⟩:∃ E,mO v n=E:=⟨_,rfl⟩;have hask:=HW v hf n;rw[hE] at hask;try simp only[↓QA,QB,seval,cY,a74]
 by_cases h0':E=0
 ·subst h0';have hE2:=hE;obtain⟨hw,hne⟩:=kR hE2;obtain⟨hv,hn0,hn1⟩:=s8 hw;have hnr:=hv.nra;have hm:zZ v n=(G5 v (truths v []) n.toNat,MA v (truths v []) n.toNat,0):=by rw[zZ,hE,if_pos rfl]
  rw[hm];obtain⟨N,rfl⟩:∃ N:Nat,n=N:=⟨n.toNat,by omega⟩;rw[Int.toNat_natCast];have hen:=rQ hf (plot:=max (N:Int) (-1099511627775)) (eo:=0) (F:=.func 222 [] []) (σ:=[.cells (aC v)]) (fun τ=>qB _) hask;have hgo:=fun (D:Nat) (hD:D<=v.rain.length) (τ:St)=>NL v hv (truths v []) (fun t ht=>GF hv ht) hne 0 3 4 ([.cells (aC v),.cells (aC v),.cells (aC v),.map ((truths v []).map kvT),.cells (db v 0 3)]++τ) ⟨rfl,rfl⟩ N D (by omega) hD
  try simp only[↓QA,QB,seval,cY,eL,List.cons_append,List.nil_append,List.length_cons,List.length_nil] at hen
  refine cB hen ?_;obtain⟨ts,hts⟩:∃ ts,truths v []=ts:=⟨_,rfl⟩;rw[hts] at hne ⊢;simp only[hts,aI,List.cons_append,List.nil_append] at hgo;obtain⟨G,hG⟩:∃ G,v.rain.length=G:=⟨_,rfl⟩;obtain⟨R1,hR1⟩:∃ R,G5 v ts N=R:=⟨_,rfl⟩;obtain⟨R2,hR2⟩:∃ R,MA v ts N=R:=⟨_,rfl⟩;obtain⟨p1,hp1⟩:∃ p:Int->Bool,(fun d=>eG v ts N d.toNat==1)=p:=⟨_,rfl⟩;obtain⟨p2,hp2⟩:∃ p:Int->Bool,(fun d=>!(eG v ts N d.toNat==2))=p:=⟨_,rfl⟩;have hR1':(aL 0 (G+1)).filter p1=R1:=by rw[<-hR1,<-hG,<-hp1];rfl
  have hR2':(aL 0 (G+1)).filter p2=R2:=by rw[<-hR2,<-hG,<-hp2];rfl
  have hl1:R1.length<=8:=by rw[<-hR1'];exact Nat.le_trans (List.length_filter_le _ _) (by rw[jS];omega)
  have hl2:R2.length<=8:=by rw[<-hR2'];exact Nat.le_trans (List.length_filter_le _ _) (by rw[jS];omega)
  rw[hR1,hR2];rw[hG] at hgo;have hwG:IntKind.i64.wrap ((G:Int)+1)=((G+1:Nat):Int):=by rw[bM ⟨by omega,by omega⟩];omega
  try simp only[↓QA,QB,seval,cY,hG,hwG]
  refine jN 4 1 [] rfl ?_;refine jN 5 1 [] rfl ?_;refine bC (S:=Nat×List Int×Bool×List Int×Bool) (0,[],false,[],false) (fun a=>a.1<=G+1/\a.2.1++(aL (a.1:Int) (G+1-a.1)).filter p1=R1/\a.2.2.2.1++(aL (a.1:Int) (G+1-a.1)).filter p2=R2) (fun a=>G+1-a.1)
   (fun a=>[(1,.int .i64 N),(4,.lit (a.2.1.map (.int .i64)) false (some 5)),(5,.lit (a.2.2.2.1.map (.int .i64)) false (some 6)),(7,.ptr 4 0),(23,.int .i64 ((G+1:Nat):Int)),(24,.int .i64 a.1)])
   (fun a=>[.cells (aC v),.cells (aC v),.cells (aC v),.map (ts.map kvT),.cells (db v 0 3),.tok 1 a.2.1.length a.2.2.1,.tok 1 a.2.2.2.1.length a.2.2.2.2]) ⟨Nat.zero_le _,by simpa using hR1',by simpa using hR2'⟩ (by simp[aI]) ?_ fun a ha=>?_
  ·try simp only[aB,QE,seval,cY]
   try simp
  ·obtain⟨d,ac1,ex1,ac2,ex2⟩:=a;obtain⟨hd,hc1,hc2⟩:=ha;simp only at hd hc1 hc2;try simp only[↓QA,QB,seval,cY,aJ6]
   refine aE (fun h=>?_) fun h=>?_
   ·have hd1:d<G+1:=by
     have h0:(d:Int)<((G+1:Nat):Int):=by simpa using h
     omega
    have hw:=bD hd1 (by omega);rw[show G+1-d=(G+1-(d+1))+1 by omega] at hc1 hc2;simp only[aL,List.filter_cons] at hc1 hc2;rw[show ((d:Int)+1)=((d+1:Nat):Int) by omega] at hc1 hc2;have ha1:ac1.length<=8:=by
     have:=congrArg List.length hc1;simp only[List.length_append] at this;omega
    have ha2:ac2.length<=8:=by
     have:=congrArg List.length hc2;simp only[List.length_append] at this;omega
    have hgd:=hgo d (by omega);have e1:p1 (d:Int)=(eG v ts N d==1):=by rw[<-hp1];simp only[Int.toNat_natCast]
    have e2:p2 (d:Int) = !(eG v ts N d==2):=by rw[<-hp2];simp only[Int.toNat_natCast]
    obtain⟨g,hg⟩:∃ g,eG v ts N d=g:=⟨_,rfl⟩;rw[hg] at e1 e2;simp only[hg] at hgd;rw[e1] at hc1;rw[e2] at hc2;have hap1:=fun (b0 b1 b2 b3 b4:ABlk) (τ:St)=>kV (σ:=b0::b1::b2::b3::b4::.tok 1 ac1.length ex1::τ) (l:=ac1) (a:=(d:Int)) (ex:=ex1) (t:=5) (by omega) rfl
    have hap2:=fun (b0 b1 b2 b3 b4 b5:ABlk) (τ:St)=>kV (σ:=b0::b1::b2::b3::b4::b5::.tok 1 ac2.length ex2::τ) (l:=ac2) (a:=(d:Int)) (ex:=ex2) (t:=6) (by omega) rfl
    try simp only[↓QA,QB,seval,cY]
    refine aS (hgd _) ?_;cases h1:(g==1)
    ·rw[h1] at hc1;simp only[Bool.false_eq_true,if_false] at hc1;cases h2:(g==2)
     ·rw[h2] at hc2;simp only[Bool.not_false,if_true] at hc2;try simp only[↓QA,QB,seval,cY,h1,h2,hap2,hw]
      refine⟨(d+1,ac1,ex1,ac2++[(d:Int)],true),⟨by simp only;omega,hc1,by rw[<-hc2];simp⟩,by simp only;omega,?_⟩;try simp only[aB,QE,seval,cY,hw,lB,List.map_append,List.map_cons,List.map_nil]
      try simp[aF]
     ·rw[h2] at hc2;simp only[Bool.not_true,Bool.false_eq_true,if_false] at hc2;try simp only[↓QA,QB,seval,cY,h1,h2,hw]
      refine⟨(d+1,ac1,ex1,ac2,ex2),⟨by simp only;omega,hc1,hc2⟩,by simp only;omega,?_⟩;try simp only[aB,QE,seval,cY,hw]
      try simp[aF]
    ·rw[h1] at hc1;simp only[if_true] at hc1;have hg1:g=1:=by simpa using h1
     have h2:(g==2)=false:=by rw[hg1];rfl
     rw[h2] at hc2;simp only[Bool.not_false,if_true] at hc2;try simp only[↓QA,QB,seval,cY,h1,hap1]
     try simp only[↓QA,QB,seval,cY,h2,hap2,hw]
     refine⟨(d+1,ac1++[(d:Int)],true,ac2++[(d:Int)],true),⟨by simp only;omega,by rw[<-hc1];simp,by rw[<-hc2];simp⟩,by simp only;omega,?_⟩;try simp only[aB,QE,seval,cY,hw,lB,List.map_append,List.map_cons,List.map_nil]
     try simp[aF]
   ·have hd1:d=G+1:=by
     have h0:¬(d:Int)<((G+1:Nat):Int):=by simpa using h
     omega
    rw[hd1,Nat.sub_self] at hc1 hc2;simp only[aL,List.filter_nil,List.append_nil] at hc1 hc2;subst hc1;subst hc2;try simp only[↓QA,QB,seval,cY,j5]
    try try simp only[QS,QC,seval,cY]
 ·have hm:zZ v n=([],[],E):=by rw[zZ,hE,if_neg h0']
  have hg:(E==0)=false:=by simpa using h0'
  rw[hm];refine aS (nH hf (fun τ=>qB _) hask h0') ?_;try simp only[↓QA,QB,seval,cY,hg,j5]
  try rfl
theorem WP(q:Nat->Bool)(k:Nat):qV q (k+1)=if q k=true then (k:Int) else qV q k:=rfl
theorem I4(q:Nat->Bool):∀ k,-1<=qV q k/\qV q k<k
 |0=>by simp[qV]
 |k+1=>by
  have:=I4 q k;simp only[qV];split<;>omega
theorem AI(v:Farm)(n:Int)(hf:Fits v):cV T 75 [encFarm v,.int .i64 n] (lX (wS v n)):=by
 refine aR (af:=a75) rfl (by simp[a75]) dd ?_;obtain⟨E,hE⟩:∃ E,mO v n=E:=⟨_,rfl⟩;have hask:=HW v hf n;rw[hE] at hask
 (repeat (first|simp only[↓QA,QB,seval,cY,a75]|refine rd0 rfl ?_))
 by_cases h0':E=0
 ·subst h0';have hE2:=hE;obtain⟨hw,hne⟩:=kR hE2;obtain⟨hv,hn0,hn1⟩:=s8 hw;have hnr:=hv.nra;have hwy:=hv.way;have hm:wS v n=if FJ v (truths v []) n.toNat = -1 then (0,9) else (FJ v (truths v []) n.toNat,0):=by rw[wS,hE,if_pos rfl]
  rw[hm];obtain⟨N,rfl⟩:∃ N:Nat,n=N:=⟨n.toNat,by omega⟩;rw[Int.toNat_natCast];have hen:=rQ hf (plot:=max (N:Int) (-1099511627775)) (eo:=0) (F:=.func 222 [] []) (σ:=[.cells (aC v)]) (fun τ=>qB _) hask;have hgo:=fun (D:Nat) (hD:D<=v.rain.length) (τ:St)=>u3 v hv (truths v []) (fun t ht=>GF hv ht) hne 0 3 4 ([.cells (aC v),.cells (aC v),.cells (aC v),.map ((truths v []).map kvT),.cells (db v 0 3)]++τ) ⟨rfl,rfl⟩ N D (by omega) hD
  have hsb:=fun (D:Nat) (hD:D<=v.rain.length)=>F8 hv (fun t ht=>z0 hv (but:=[]) ht) hne (show N<v.plots.length by omega) hD
  try simp only[↓QA,QB,seval,cY,eL,List.cons_append,List.nil_append,List.length_cons,List.length_nil] at hen
  refine cB hen ?_;obtain⟨ts,hts⟩:∃ ts,truths v []=ts:=⟨_,rfl⟩;rw[hts] at hne ⊢;simp only[hts,aI,List.cons_append,List.nil_append] at hgo;simp only[hts] at hsb;obtain⟨G,hG⟩:∃ G,v.rain.length=G:=⟨_,rfl⟩;obtain⟨L,hL⟩:∃ L,FJ v ts N=L:=⟨_,rfl⟩;have hL':qV (pA v ts N) (G+1)=L:=by rw[<-hL,<-hG];rfl
  have hLb:=I4 (pA v ts N) (G+1);rw[hL'] at hLb;rw[hL];rw[hG] at hgo hsb;have hwG:IntKind.i64.wrap ((G:Int)+1)=((G+1:Nat):Int):=by rw[bM ⟨by omega,by omega⟩];omega
  (repeat (first|simp only[↓QA,QB,seval,cY,hG,hwG]|refine rd0 rfl ?_))
  refine bC (S:=Nat) 0 (fun k=>k<=G+1) (fun k=>G+1-k)
   (fun k=>[(1,.int .i64 N),(2,.ptr 0 0),(6,.ptr 4 0),(8,.int .i64 (qV (pA v ts N) k)),(23,.int .i64 ((G+1:Nat):Int)),(24,.int .i64 k)])
   (fun _=>[.cells (aC v),.cells (aC v),.cells (aC v),.map (ts.map kvT),.cells (db v 0 3)]) (Nat.zero_le _) (by simp[aI]) ?_ fun d hd=>?_
  ·try simp only[aB,QE,seval,cY]
   try simp[qV]
  ·(repeat (first|simp only[↓QA,QB,seval,cY,aJ3]|refine rd0 rfl ?_))
   refine aE (fun h=>?_) fun h=>?_
   ·have hd1:d<G+1:=by
     have h0:(d:Int)<((G+1:Nat):Int):=by simpa using h
     omega
    have hw:=bD hd1 (by omega);have hgd:=hgo d (by omega);have hb:=hsb d (by omega);have hup:=WP (pA v ts N) d;have hge:pA v ts N d=decide ((lZ ts N d).hi+v.way.hi<=v.ripe):=rfl;rw[hge] at hup;obtain⟨s,hs⟩:∃ s,lZ ts N d=s:=⟨_,rfl⟩;simp only[hs] at hgd hb hup;have hwx:IntKind.i64.wrap (s.hi+v.way.hi)=s.hi+v.way.hi:=bM ⟨by omega,by omega⟩
    (repeat (first|simp only[↓QA,QB,seval,cY]|refine rd0 rfl ?_))
    refine kT (hgd _) ?_;cases h5:decide (s.hi+v.way.hi<=v.ripe)
    ·rw[h5] at hup;simp only[Bool.false_eq_true,if_false] at hup
     (repeat (first|simp only[↓QA,QB,seval,cY,hwx,h5,hw]|refine rd0 rfl ?_))
     refine⟨d+1,by omega,by omega,?_⟩;try simp only[aB,QE,seval,cY,hw,hup]
     try simp[aF]
    ·rw[h5] at hup;simp only[if_true] at hup
     (repeat (first|simp only[↓QA,QB,seval,cY,hwx,h5,hw]|refine rd0 rfl ?_))
     refine⟨d+1,by omega,by omega,?_⟩;try simp only[aB,QE,seval,cY,hw,hup]
     try simp[aF]
   ·have hd1:d=G+1:=by
     have h0:¬(d:Int)<((G+1:Nat):Int):=by simpa using h
     omega
    subst hd1;rw[hL'];by_cases h9:L = -1
    ·subst h9;rw[if_pos rfl]
     (repeat (first|simp only[↓QA,QB,seval,cY,show decide ((-1:Int)<0)=true from rfl,lX]|refine rd0 rfl ?_))
    ·have hlt:decide (L<0)=false:=by simp;omega
     rw[if_neg h9]
     (repeat (first|simp only[↓QA,QB,seval,cY,hlt,lX]|refine rd0 rfl ?_))
 ·have hm:wS v n=(0,E):=by rw[wS,hE,if_neg h0']
  have hg:(E==0)=false:=by simpa using h0'
  rw[hm];refine aS (nH hf (fun τ=>qB _) hask h0') ?_
  (repeat (first|simp only[↓QA,QB,seval,cY,hg,lX]|refine rd0 rfl ?_))
def CO(q:List Int->Bool)(sh:List Int->Nat)(L:List (List Int)):Option (List Int)->Prop
 |none=>∀ c∈L,q c=false
 |some b=>b∈L/\q b=true/\∀ c∈L,q c=true->sh b<sh c\/(sh b=sh c/\(c=b\/dJ b c=true))
def MN(q:List Int->Bool)(sh:List Int->Nat)(o:Option (List Int))(c:List Int):Option (List Int) :=
 if q c then (match o with|none=>some c|some b=>if sh c<sh b then some c else some b) else o
def rC(q:List Int->Bool)(sh:List Int->Nat)(o:Option (List Int))(c:List Int):Option (List Int) :=
 if q c then (match o with|none=>some c|some b=>if sh c<sh b\/(sh c=sh b/\dJ c b=true) then some c else some b) else o
theorem MG(q:List Int->Bool)(sh:List Int->Nat):∀ (L2 L1:List (List Int)) (o:Option (List Int)),(L1++L2).Pairwise (fun a b=>dJ a b=true)->CO q sh L1 o->CO q sh (L1++L2) (L2.foldl (MN q sh) o)
 |[],L1,o,_,h=>by simpa using h
 |c::L2,L1,o,hp,h=>by
  have e:L1++c::L2=(L1++[c])++L2:=by simp
  rw[e] at hp ⊢;rw[List.foldl_cons];refine MG q sh L2 (L1++[c]) _ hp ?_;have hlast:∀ a∈L1,dJ a c=true:=fun a ha=>(List.pairwise_append.1 (List.pairwise_append.1 hp).1).2.2 a ha c (by simp)
  cases hq:q c
  ·simp only[MN,hq,Bool.false_eq_true,if_false];cases o with
   |none =>
    intro d hd;rcases List.mem_append.1 hd with hd|hd
    ·exact h d hd
    ·simp at hd;rw[hd];exact hq
   |some b =>
    refine⟨List.mem_append_left _ h.1,h.2.1,fun d hd hqd=>?_⟩;rcases List.mem_append.1 hd with hd|hd
    ·exact h.2.2 d hd hqd
    ·simp at hd;rw[hd,hq] at hqd;cases hqd
  ·simp only[MN,hq,if_true];cases o with
   |none =>
    refine⟨by simp,hq,fun d hd hqd=>?_⟩;rcases List.mem_append.1 hd with hd|hd
    ·rw[h d hd] at hqd;cases hqd
    ·simp at hd;exact .inr ⟨by rw[hd],.inl hd⟩
   |some b =>
    simp only;split
    ·rename_i hlt;refine⟨by simp,hq,fun d hd hqd=>?_⟩;rcases List.mem_append.1 hd with hd|hd
     ·rcases h.2.2 d hd hqd with h3|⟨h3,_⟩
      ·exact .inl (by omega)
      ·exact .inl (by omega)
     ·simp at hd;exact .inr ⟨by rw[hd],.inl hd⟩
    ·rename_i hlt;refine⟨List.mem_append_left _ h.1,h.2.1,fun d hd hqd=>?_⟩;rcases List.mem_append.1 hd with hd|hd
     ·exact h.2.2 d hd hqd
     ·simp at hd;subst hd;by_cases he:sh b=sh d
      ·exact .inr ⟨he,.inr (hlast b h.1)⟩
      ·exact .inl (by omega)
theorem N4(q:List Int->Bool)(sh:List Int->Nat):∀ (L2 L1:List (List Int)) (o:Option (List Int)),CO q sh L1 o->CO q sh (L1++L2) (L2.foldl (rC q sh) o)
 |[],L1,o,h=>by simpa using h
 |c::L2,L1,o,h=>by
  have e:L1++c::L2=(L1++[c])++L2:=by simp
  rw[e,List.foldl_cons];refine N4 q sh L2 (L1++[c]) _ ?_;cases hq:q c
  ·simp only[rC,hq,Bool.false_eq_true,if_false];cases o with
   |none =>
    intro d hd;rcases List.mem_append.1 hd with hd|hd
    ·exact h d hd
    ·simp at hd;rw[hd];exact hq
   |some b =>
    refine⟨List.mem_append_left _ h.1,h.2.1,fun d hd hqd=>?_⟩;rcases List.mem_append.1 hd with hd|hd
    ·exact h.2.2 d hd hqd
    ·simp at hd;rw[hd,hq] at hqd;cases hqd
  ·simp only[rC,hq,if_true];cases o with
   |none =>
    refine⟨by simp,hq,fun d hd hqd=>?_⟩;rcases List.mem_append.1 hd with hd|hd
    ·rw[h d hd] at hqd;cases hqd
    ·simp at hd;exact .inr ⟨by rw[hd],.inl hd⟩
   |some b =>
    simp only;split
    ·rename_i hlt;refine⟨by simp,hq,fun d hd hqd=>?_⟩;rcases List.mem_append.1 hd with hd|hd
     ·rcases h.2.2 d hd hqd with h3|⟨h3,h4⟩
      ·rcases hlt with hl|⟨hl,_⟩
       ·exact .inl (by omega)
       ·exact .inl (by omega)
      ·rcases hlt with hl|⟨hl,hf⟩
       ·exact .inl (by omega)
       ·refine .inr ⟨by omega,.inr ?_⟩;rcases h4 with h4|h4
        ·rw[h4];exact hf
        ·exact sC hf h4
     ·simp at hd;exact .inr ⟨by rw[hd],.inl hd⟩
    ·rename_i hlt;refine⟨List.mem_append_left _ h.1,h.2.1,fun d hd hqd=>?_⟩;rcases List.mem_append.1 hd with hd|hd
     ·exact h.2.2 d hd hqd
     ·simp at hd;subst hd;rw[not_or] at hlt;by_cases he:sh b=sh d
      ·refine .inr ⟨he,?_⟩;have hnf:dJ d b=false:=by
        cases hf:dJ d b
        ·rfl
        ·exact absurd ⟨he.symm,hf⟩ hlt.2
       by_cases hbf:dJ b d=true
       ·exact .inr hbf
       ·exact .inl (B9 hnf (by simpa using hbf))
      ·exact .inl (by omega)
theorem aCA{q:List Int->Bool}{sh:List Int->Nat}{L K:List (List Int)}(hLK:∀ c,c∈L↔c∈K){a b:Option (List Int)}(ha:CO q sh L a)(hb:CO q sh K b):a=b:=by
 cases a with
 |none =>
  cases b with
  |none=>rfl
  |some b=>have:=ha b ((hLK b).2 hb.1);rw[hb.2.1] at this;cases this
 |some a =>
  cases b with
  |none=>have:=hb a ((hLK a).1 ha.1);rw[ha.2.1] at this;cases this
  |some b =>
   have h1:=ha.2.2 b ((hLK b).2 hb.1) hb.2.1;have h2:=hb.2.2 a ((hLK a).1 ha.1) ha.2.1;rcases h1 with h1|⟨h1,h3⟩
   ·rcases h2 with h2|⟨h2,_⟩<;>omega
   ·rcases h2 with h2|⟨h2,h4⟩
    ·omega
    ·rcases h3 with h3|h3
     ·rw[h3]
     ·rcases h4 with h4|h4
      ·rw[h4]
      ·have:=sC h3 h4;rw[xQ] at this;cases this
theorem zO{n:Nat}:∀ {k m:Nat} {c:List Int},c∈zT n k m↔∃ i,m<=i/\i<m+k/\c∈dM n i
 |0,m,c=>by simp[zT];intro i a b;omega
 |k+1,m,c=>by
  rw[zT,List.mem_append,zO (k:=k)];constructor
  ·rintro (h|⟨i,a,b,h⟩)
   ·exact⟨m,Nat.le_refl _,by omega,h⟩
   ·exact⟨i,by omega,by omega,h⟩
  ·rintro⟨i,a,b,h⟩;by_cases e:i=m
   ·subst e;exact .inl h
   ·exact .inr ⟨i,by omega,by omega,h⟩
theorem yQ{n:Nat}(hn:n<=6):∀ (k m:Nat),m+k<=7->(zT n k m).Pairwise fun a b=>dJ a b=true
 |0,m,_=>List.Pairwise.nil
 |k+1,m,h=>by
  rw[zT,List.pairwise_append];refine⟨?_,yQ hn k (m+1) (by omega),fun a ha b hb=>?_⟩
  ·have:=wR ⟨n,by omega⟩ ⟨m,by omega⟩;simp only at this;refine (List.pairwise_iff_forall_sublist.2 fun {a b} hab=>?_);have h1:=(List.pairwise_iff_forall_sublist.1 this) hab;have ha:=(i9 n m a (hab.subset (by simp))).1;have hb:=(i9 n m b (hab.subset (by simp))).1;simp[dJ,ha,hb,h1]
  ·obtain⟨i,hi,_,hbi⟩:=zO.1 hb;have h1:=(i9 n m a ha).1;have h2:=(i9 n i b hbi).1;have:a.length<b.length:=by omega
   rw[dJ,if_neg (by omega)];simpa using this
def yG(n:Nat):List (List Int):=(List.range (2^n)).map (lst n)
theorem aEG{n:Nat}(hn:n<=6)(c:List Int):c∈qJ n↔c∈yG n:=by
 rw[qJ,zO,yG,List.mem_map];constructor
 ·rintro⟨i,_,hi,hc⟩;obtain⟨s,hs,he⟩:=SF ⟨n,by omega⟩ ⟨i,by omega⟩ c hc;exact⟨s.val,by simpa using hs,he⟩
 ·rintro⟨s,hs,rfl⟩;have hs2:s<2^n:=by simpa using hs
  have hp:2^n<=2^6:=Nat.pow_le_pow_right (by omega) hn;have:=aAK ⟨n,by omega⟩ ⟨s,by omega⟩ hs2;exact⟨(lst n s).length,Nat.zero_le _,by have:=BC n s;omega,this⟩
theorem ZJ{q:List Int->Bool}{sh:List Int->Nat}{n:Nat}(hn:n<=6):(qJ n).foldl (MN q sh) none=(yG n).foldl (rC q sh) none:=by
 have h1:=MG q sh (qJ n) [] none (by rw[List.nil_append];exact yQ hn (n+1) 0 (by omega)) (fun c hc=>by cases hc);have h2:=N4 q sh (yG n) [] none (fun c hc=>by cases hc);exact aCA (aEG hn) h1 h2
theorem SG(v:Farm)(l:List Truth)(d:Nat)(hands:Int):KA v l d hands=MN (fun c=>m6 v l c d hands) (fun c=>(bA v l c d).length):=by
 funext o c;rfl
theorem R5{v:Farm}(hv:Vd v):nS v≠[]:=by
 have:RainOk v (v.rain.map fun s=>s.lo):=⟨by simp,fun i h=>by
  have h2:=hv.ra _ (List.getElem_mem h);have e:rl (v.rain.map fun s=>s.lo) i=v.rain[i].lo:=by simp[rl,h]
  rw[e]
  omega⟩
 exact List.ne_nil_of_mem (oE.2 this)
theorem GX{v:Farm}(hv:Vd v){but:List Int}(h:∀ k,k<v.looks.length->but.contains (k:Int)=true):lA v but=true:=by
 obtain⟨c,hc⟩:=List.exists_mem_of_ne_nil _ (R5 hv);have ht:(⟨c,(List.range v.plots.length).map (fun p=>bK v p c but)⟩:Truth)∈truths v but:=by
  refine zN.2 ⟨oE.1 hc,rfl,fun x hx e=>?_⟩;simp only[List.mem_map,List.mem_range] at hx;obtain⟨p,hp,rfl⟩:=hx;have hpl:=(IH hv hp).1;have:v.plots[p].flower.lo∈bK v p c but:=by
   rw[bK,tN hp,List.mem_filter,jV];refine⟨by omega,?_⟩;rw[lH,List.all_eq_true];intro k hk;have hk2:k<v.looks.length:=by simpa using hk
   rw[List.getElem?_eq_getElem hk2];simp only[sP,h k hk2,Bool.or_true,Bool.true_or]
  rw[e] at this;cases this
 rw[lA];cases hh:truths v but with
 |nil=>rw[hh] at ht;cases ht
 |cons a b=>rfl
theorem CW{v:Farm}(hv:Vd v):∀ c∈dM v.looks.length v.looks.length,lA v c=true:=fun c hc=>by
 have hl:=hv.nlk;exact GX hv fun k hk=>A3 ⟨v.looks.length,by omega⟩ c hc ⟨k,by omega⟩ hk
theorem kJ(f:List Int->Bool)(n:Nat):∀ k m,cR f n (k+1) m=(cR f n k m).or ((dM n (m+k)).find? f)
 |0,m=>by simp only[cR,Nat.add_zero];cases (dM n m).find? f<;>rfl
 |k+1,m=>by
  rw[cR,kJ f n k (m+1)];rw[show cR f n (k+1) m=(match (dM n m).find? f with|some l=>some l|none=>cR f n k (m+1)) from rfl];rw[show m+1+k=m+(k+1) by omega];cases (dM n m).find? f<;>rfl
theorem vL{v:Farm}(hv:Vd v):cR (lA v) v.looks.length (v.looks.length+1) 0=some (qR v):=by
 have hl:=hv.nlk;have h1:=DO ⟨v.looks.length,by omega⟩;simp only at h1;obtain⟨w,hw⟩:=List.length_eq_one_iff.1 h1;have hs:=CW hv w (by rw[hw];simp);rw[kJ,qR,Nat.zero_add,hw];cases cR (lA v) v.looks.length v.looks.length 0 with
 |some l=>rfl
 |none=>simp[hs]
end Go.Am.Room.Fa
namespace Go.Am.Room.Fa
def cM:=zz @dE (zz @aI (zz @dC (zz @dD (zz @aJ (zz @dQ (zz @dS (zz @dH (zz @List.length_append.{0} (zz @Nat.mul_one (zz @Int.toNat_natCast (zz @bZ (zz @bY (zz @dY (zz @dW (zz @dZ (zz @d4 (zz @d5 (zz @dV (zz @j4 (zz @jZ (zz @j3 (@lB))))))))))))))))))))))
theorem tQ(v:Farm)(hf:Fits v):cV T 78 [encFarm v] (sE (pQ v)):=by
 refine aR (af:=a78) rfl (by simp[a78]) dd ?_;try simp only[↓QA,QB,seval,cM,a78]
 (refine aD (n8 v hf) rfl dd ?_;try simp only[↓QA,QB,seval,cM,enc3])
 cases h0:((check v).2.2==0)
 ·have h0':(check v).2.2≠0:=by simpa using h0
  have hwo:pQ v=([],(check v).2.2):=if_neg h0';rw[hwo];try simp only[↓QA,QB,seval,cM,h0,sE]
  try rfl
 ·have h0':(check v).2.2=0:=by simpa using h0
  have hwo:pQ v=(qR v,0):=if_pos h0';have hv:=vd_of_check h0';have hnl:=hv.nlk;have hwf:=vL hv;rw[<-YN _ _ (by omega)] at hwf;rw[hwo];obtain⟨W,hW⟩:∃ W,qR v=W:=⟨_,rfl⟩;rw[hW] at hwf ⊢;obtain⟨n,hn⟩:∃ n,v.looks.length=n:=⟨_,rfl⟩;rw[hn] at hwf hnl;have hp:2^n<=2^4:=Nat.pow_le_pow_right (by omega) hnl;have hshl:=rB n (by omega);obtain⟨P,hP⟩:∃ P,2^n=P:=⟨_,rfl⟩;have hbl:∀ s,s<P->ButIs s (lst n s):=fun s hs=>T7 (by omega) (by omega)
  rw[hP] at hp hshl hwf;obtain⟨q,hq⟩:∃ q,lA v=q:=⟨_,rfl⟩;have hqd:∀ l,decide ((0:Int)<((truths v l).length:Int))=q l:=fun l=>by
   rw[<-hq,lA];cases truths v l<;>simp
  rw[hq] at hwf;try simp only[↓QA,QB,seval,cM,h0,hn,hshl]
  refine bC (S:=Nat×Option (List Int)) (0,none) (fun x=>x.1<=P/\lQ q n (P-x.1) x.1 x.2=some W/\(x.2.getD []).length<=n) (fun x=>P-x.1)
   (fun x=>[(1,.ptr 0 0),(2,ints (x.2.getD [])),(4,.bool x.2.isSome),(19,.int .i64 P),(20,.int .i64 x.1)])
   (fun x=>[.cells (aC v)]) ⟨by simp,by simpa using hwf,by simp⟩ (by simp[aC,ints]) ?_ fun x hx=>?_
  ·try simp only[aB,QE,seval,cM,ints,Option.getD_none,Option.isSome_none]
   try simp[clr,clrs]
  ·obtain⟨s,o⟩:=x;obtain⟨hs,hfo,hol⟩:=hx;simp only at hs hfo hol;try simp only[↓QA,QB,seval,cM,aJH]
   refine aE (fun h=>?_) fun h=>?_
   ·have hs1:s<P:=by simpa using h
    have hw:=bD hs1 (by omega);have hll:=BC n s;have hlk:=JL [.cells (aC v)] v s (lst n s) hv (hbl s hs1);have hlo:=nQ s n (by omega) (by omega);have hlen:=NT [.cells (aC v)] [.cells (db v s 2)] v s (truths v (lst n s)) 2 rfl;rw[show P-s=(P-(s+1))+1 by omega] at hfo;simp only[lQ] at hfo;obtain⟨L,hL⟩:∃ L,lst n s=L:=⟨_,rfl⟩;rw[hL] at hfo hll hlk hlo hlen;have hqL:=hqd L;try simp only[↓QA,QB,seval,cM,eL,List.cons_append,List.nil_append,List.length_cons,List.length_nil] at hlk hlen
    try simp only[↓QA,QB,seval,cM,hn,Option.getD_some]
    (refine aD (hlo) rfl dd ?_;try simp only[↓QA,QB,seval,cM])
    cases o with
    |none =>
     have hst:gZ q none L=if q L=true then some L else none:=rfl
     try simp only[↓QA,QB,seval,cM,Option.isSome_none,Option.getD_none]
     refine cB hlk ?_;try simp only[↓QA,QB,seval,cM,hlen,hqL]
     cases hsm:q L
     ·rw[hsm] at hst;simp only[Bool.false_eq_true,if_false] at hst;rw[hst] at hfo;try simp only[↓QA,QB,seval,cM,hw]
      refine⟨(s+1,none),⟨by simp only;omega,hfo,by simp⟩,by simp only;omega,?_⟩;try simp only[aB,QE,seval,cM,hw,Option.isSome_none,Option.getD_none]
      try simp[ints,aF]
     ·rw[hsm] at hst;simp only[if_true] at hst;rw[hst] at hfo;try simp only[↓QA,QB,seval,cM,hw]
      refine⟨(s+1,some L),⟨by simp only;omega,hfo,by simpa using hll⟩,by simp only;omega,?_⟩;try simp only[aB,QE,seval,cM,hw,Option.isSome_some,Option.getD_some]
      try simp[ints,aF]
    |some b =>
     simp only[Option.getD_some] at hol;simp only[Option.isSome_some,tI];try simp only[↓QA,QB,seval,cM,Option.isSome_some,Option.getD_some]
     have fin:∀ (hfw:dJ b L=false),gZ q (some b) L=if q L=true then some L else some b:=fun hfw=>by simp only[gZ,hfw];rfl
     cases h1:decide ((b.length:Int)<(L.length:Int))
     ·have h1':¬b.length<L.length:=by simpa using h1
      try simp only[↓QA,QB,seval,cM,Option.getD_some,h1]
      cases h2:((L.length:Int)==(b.length:Int))
      ·have h2':¬b.length=L.length:=by intro h;rw[h] at h2;simp at h2
       have hst:=fin (by simp[dJ,h1',h2']);try simp only[↓QA,QB,seval,cM,h2]
       refine cB hlk ?_;try simp only[↓QA,QB,seval,cM,hlen,hqL]
       cases hsm:q L
       ·rw[hsm] at hst;simp only[Bool.false_eq_true,if_false] at hst;rw[hst] at hfo;try simp only[↓QA,QB,seval,cM,hw]
        refine⟨(s+1,some b),⟨by simp only;omega,hfo,by simpa using hol⟩,by simp only;omega,?_⟩;try simp only[aB,QE,seval,cM,hw,Option.isSome_some,Option.getD_some]
        try simp[ints,aF]
       ·rw[hsm] at hst;simp only[if_true] at hst;rw[hst] at hfo;try simp only[↓QA,QB,seval,cM,hw]
        refine⟨(s+1,some L),⟨by simp only;omega,hfo,by simpa using hll⟩,by simp only;omega,?_⟩;try simp only[aB,QE,seval,cM,hw,Option.isSome_some,Option.getD_some]
        try simp[ints,aF]
      ·have h2':b.length=L.length:=by simp at h2;omega
       try simp only[↓QA,QB,seval,cM,Option.getD_some,h2]
       (refine aD (BX L b (by omega) (by omega)) rfl dd ?_;try simp only[↓QA,QB,seval,cM,tR,Option.getD_some])
       cases h3:less b L
       ·have hst:=fin (by simp[dJ,h2',h3]);try simp only[↓QA,QB,seval,cM,h3]
        refine cB hlk ?_;try simp only[↓QA,QB,seval,cM,hlen,hqL]
        cases hsm:q L
        ·rw[hsm] at hst;simp only[Bool.false_eq_true,if_false] at hst;rw[hst] at hfo;try simp only[↓QA,QB,seval,cM,hw]
         refine⟨(s+1,some b),⟨by simp only;omega,hfo,by simpa using hol⟩,by simp only;omega,?_⟩;try simp only[aB,QE,seval,cM,hw,Option.isSome_some,Option.getD_some]
         try simp[ints,aF]
        ·rw[hsm] at hst;simp only[if_true] at hst;rw[hst] at hfo;try simp only[↓QA,QB,seval,cM,hw]
         refine⟨(s+1,some L),⟨by simp only;omega,hfo,by simpa using hll⟩,by simp only;omega,?_⟩;try simp only[aB,QE,seval,cM,hw,Option.isSome_some,Option.getD_some]
         try simp[ints,aF]
       ·have hfw:dJ b L=true:=by simp[dJ,h2',h3]
        have hst:gZ q (some b) L=some b:=by simp only[gZ,hfw,if_true]
        rw[hst] at hfo;try simp only[↓QA,QB,seval,cM,h3,hw]
        refine⟨(s+1,some b),⟨by simp only;omega,hfo,by simpa using hol⟩,by simp only;omega,?_⟩;try simp only[aB,QE,seval,cM,hw,Option.isSome_some,Option.getD_some]
        try simp[ints,aF]
     ·have h1':b.length<L.length:=by simpa using h1
      have h2':¬b.length=L.length:=by omega
      have hfw:dJ b L=true:=by simp[dJ,h1',h2']
      have hst:gZ q (some b) L=some b:=by simp only[gZ,hfw,if_true]
      rw[hst] at hfo;try simp only[↓QA,QB,seval,cM,h1,hw]
      refine⟨(s+1,some b),⟨by simp only;omega,hfo,by simpa using hol⟩,by simp only;omega,?_⟩;try simp only[aB,QE,seval,cM,hw,Option.isSome_some,Option.getD_some]
      try simp[ints,aF]
   ·have hs1:s=P:=by simp at h;omega
    rw[hs1,Nat.sub_self] at hfo;simp only[lQ] at hfo;subst hfo;try simp only[↓QA,QB,seval,cM,sE,Option.getD_some]
    try try simp only[QS,QC,seval,cM]
end Go.Am.Room.Fa
namespace Go.Am.Room
variable {α:Type}
def tP(c:α->List AV):List α->List AV
 |[]=>[]
 |y::l=>c y++tP c l
structure Cells (enc:α->AV) (c:α->List AV) (sz:Nat):Prop where
 agg:∀ x,enc x = .agg (c x)
 len:∀ x,(c x).length=sz
 one:sz≠1/\sz≠0
 cell:∀ x,(c x).all (·.cell)=true
 data:∀ x,j8 (enc x)
variable {enc:α->AV} {c:α->List AV} {sz:Nat}
theorem DI(h:Cells enc c sz):∀ l,(tP c l).length=l.length*sz
 |[]=>by simp[tP]
 |y::l=>by simp only[tP,List.length_append,h.len,List.length_cons,DI h l,Nat.add_mul];omega
theorem JW(h:Cells enc c sz):∀ l:List α,(l.map enc).flatMap AV.cells=tP c l
 |[]=>rfl
 |y::l=>by rw[List.map_cons,List.flatMap_cons,JW h l,h.agg];rfl
theorem VP(h:Cells enc c sz)(l:List α):aM sz (l.map enc)=true:=pD sz enc l fun y=>by
 rw[h.agg];simp only[bV,AV.cells,h.len,beq_self_eq_true,Bool.true_and];exact h.cell y
theorem F4(h:Cells enc c sz)(m:Nat)(hc:∀ x,okVs m (c x)):∀ l,okVs m (tP c l)
 |[]=>trivial
 |y::l=>BR (hc y) (F4 h m hc l)
end Go.Am.Room
namespace Go.Am.Room.Fa
theorem NZ:∀ a b:List Int,decide (qZ a b<0)=less a b
 |[],[]=>rfl
 |[],b::bs=>rfl
 |a::az,[]=>rfl
 |a::az,b::bs=>by
  have ih:=NZ az bs;simp only[qZ,less,rU];by_cases h1:a<b
  ·simp[h1,show ¬a=b by omega]
  ·by_cases h2:b<a
   ·simp[h1,h2,show ¬a=b by omega]<;>omega
   ·have:a=b:=by omega
    subst this;simp[ih]
def wP(x:Plot):List AV:=[.str x.name,.int .i64 x.flower.lo,.int .i64 x.flower.hi,.int .i64 x.hands]
theorem v6:Cells dI wP 4:=⟨fun x=>by simp only[dI,wP],fun x=>rfl,by decide,fun x=>rfl,tU⟩
theorem WE(m:Nat)(x:Plot):okVs m (wP x):=⟨trivial,trivial,trivial,trivial,trivial⟩
def NS:List AV:=[.str ⟨#[]⟩,.int .i64 0,.int .i64 0,.int .i64 0]
theorem QU(b0 b1 b2 b3 b4 b5:ABlk)(l:List Plot):sS 4 [b0,b1,b2,b3,b4,b5,.cells (List.replicate l.length NS).flatten] (.ref 6 0 l.length 4) (.lit (l.map dI) false none)=some (.int .i64 l.length,[b0,b1,b2,b3,b4,b5,.cells (tP wP l)]):=by
 have h1:aM 4 (l.map dI)=true:=VP v6 l;have h2:(l.map dI).take l.length=l.map dI:=List.take_of_length_le (by simp);have h3:=DI v6 l;have h4:((List.replicate l.length NS).flatten).length=l.length*4:=by simp[NS]
 have h5:iC (List.replicate l.length NS).flatten 0 (tP wP l)=some (tP wP l):=by
  simp only[iC];rw[if_pos (by omega),List.drop_of_length_le (by omega)];simp
 have h6:=JW v6 l;simp[sS,lS,AX,h1,aH,h2,h5,h6]
theorem F0:∀ (l:List Plot) (k:Nat) (hk:k<l.length),(tP wP l)[k*4+3]? = some (.int .i64 l[k].hands)
 |[],k,hk=>by simp at hk
 |y::l,0,hk=>rfl
 |y::l,k+1,hk=>by
  have:=F0 l k (by simpa using hk);have e:(k+1)*4+3=(wP y).length+(k*4+3):=by simp only[wP,List.length_cons,List.length_nil];omega
  simp only[tP,List.getElem_cons_succ];rw[e,List.getElem?_append_right (by omega),Nat.add_sub_cancel_left];exact this
def zD(n:Nat)(p:Nat->Bool)(g:Nat):Prop:=g<2^n/\∀ i,g.testBit i=(decide (i<n)&&p i)
theorem IW{k:Nat}{p:Nat->Bool}{g:Nat}(h:zD k p g):(p k=true->zD (k+1) p (g|||2^k))/\(p k=false->zD (k+1) p g):=by
 obtain⟨h1,h2⟩:=h;have hlt:2^k<2^(k+1):=Nat.pow_lt_pow_right (by omega) (by omega);constructor
 ·intro hp;refine⟨Nat.or_lt_two_pow (by omega) hlt,fun i=>?_⟩;rw[Nat.testBit_or,h2,Nat.testBit_two_pow];by_cases e:k=i
  ·subst e;simp[hp]
  ·rw[Bool.eq_iff_iff];simp[e];intro _;omega
 ·intro hp;refine⟨by omega,fun i=>?_⟩;rw[h2];by_cases e:i=k
  ·subst e;simp[hp]
  ·rw[Bool.eq_iff_iff];simp;intro _;omega
theorem ZP{n s g:Nat}{p:Nat->Bool}(hs:s<2^n)(hn:n<=60)(hg:zD n p g):(EI s g=0)↔∀ x∈lst n s,p x.toNat=true:=by
 have hp:=kZ hn;have hb:=fun i=>GU (b:=g) (by have:=hg.1;omega) s i (by omega)
 constructor
 ·intro h x hx;obtain⟨h1,h2⟩:=BP.1 hx;have:=hb x.toNat
  rw[h,Nat.zero_testBit,h2,hg.2] at this;simp at this;exact this.2
 ·intro h;refine Nat.eq_of_testBit_eq fun i=>?_
  rw[hb,Nat.zero_testBit,hg.2];cases hsi:s.testBit i
  ·rfl
  ·by_cases hi:i<n
   ·have:=h (i:Int) (BP.2 ⟨by omega,by simpa using hsi⟩);rw[Int.toNat_natCast] at this;simp[hi,this]
   ·rw[Nat.testBit_lt_two_pow (Nat.lt_of_lt_of_le hs (Nat.pow_le_pow_right (by omega) (by omega)))] at hsi;cases hsi
theorem aGV{n s g:Nat}{p:Nat->Bool}(hg:zD n p g):lst n (s &&& g)=(lst n s).filter fun x=>p x.toNat:=by
 simp only[lst];rw[List.filter_filter];refine List.filter_congr fun x hx=>?_
 have hx0:=(bI _ _ _).1 hx;rw[<-pR,<-pR,Nat.testBit_and,hg.2];have:decide (x.toNat<n)=true:=by simp;omega
 rw[this,Bool.true_and,Bool.and_comm]
end Go.Am.Room.Fa
namespace Go.Am.Room.Fa
def aV:=zz @dE (zz @aI (zz @dC (zz @dD (zz @aJ (zz @dQ (zz @dS (zz @dH (zz @List.length_append.{0} (zz @Nat.mul_one (zz @Int.toNat_natCast (zz @bZ (zz @bY (zz @dY (zz @dW (zz @dZ (zz @d4 (zz @d5 (zz @dV (zz @j4 (zz @jZ (zz @j3 (@lB))))))))))))))))))))))
set_option maxHeartbeats 2000000 in
theorem xX(v:Farm)(da hands:Int)(hf:Fits v):cV T 26 [encFarm v,.int .i64 da,.int .i64 hands] (j5 (uW v da hands)):=by
 refine aR (af:=a26) rfl (by simp[a26]) dd ?_;obtain⟨E,hE⟩:∃ E,vU v da hands=E:=⟨_,rfl⟩;have hask:=UV v da hands;rw[hE] at hask;have hun:=fun σ=>uC [da,(v.rain.length:Int),hands,400] σ
 have hu1:=fun (q:Nat) (σ:St) hq=>rY [da,(v.rain.length:Int),hands,400] (by simp) q σ hq
 simp only[yH,List.map_cons,List.map_nil] at hun hu1
 (repeat (first|simp only[↓QA,QB,seval,aV,a26]|refine rd0 rfl ?_))
 refine n9 (hun _) ?_
 (repeat (first|simp only[↓QA,QB,seval,aV]|refine rd0 rfl ?_))
 by_cases h0':E=0
 ·subst h0';have hE2:=hE;obtain⟨hw,hne⟩:=kR hE2;obtain⟨hw2,hh0,hh1⟩:=tG hw;obtain⟨ha,hd0,hd1⟩:=tG hw2;have hv:=vd_of_check ha;have hnr:=hv.nra;have hnp:=hv.npl;have hwy:=hv.way;have hm:uW v da hands=KO v (truths v []) da.toNat (EQ v (truths v []) da.toNat hands):=by rw[uW,hE,if_pos rfl]
  rw[hm];simp only[g0] at hd1;obtain⟨d,rfl⟩:∃ d:Nat,da=d:=⟨da.toNat,by omega⟩;rw[Int.toNat_natCast];have hen:=rQ hf (plot:=-1099511627776) (eo:=lV [(d:Int),(v.rain.length:Int),hands,400]) (F:=.func 233 [] [.ptr 1 0]) (σ:=[.cells (aC v),.cells [.lit [.int .i64 d,.int .i64 v.rain.length,.int .i64 hands,.int .i64 400] true none]]) (fun τ=>hu1 _ _ rfl) hask;have hgo:=fun (P:Nat) (hP:P<v.plots.length) (τ:St)=>u3 v hv (truths v []) (fun t ht=>GF hv ht) hne 0 4 5 ([.cells (aC v),.cells [.lit [.int .i64 d,.int .i64 v.rain.length,.int .i64 hands,.int .i64 400] true none],.cells (aC v),.cells (aC v),.map ((truths v []).map kvT),.cells (db v 0 4)]++τ) ⟨rfl,rfl⟩ P d hP (by omega)
  have hsb:=fun (P:Nat) (hP:P<v.plots.length)=>F8 hv (fun t ht=>z0 hv (but:=[]) ht) hne hP (show d<=v.rain.length by omega)
  try simp only[↓QA,QB,seval,aV,eL,List.cons_append,List.nil_append,List.length_cons,List.length_nil] at hen
  refine n9 hen ?_;have hee:=ZJ (q:=fun c=>m6 v (truths v []) c d hands) (sh:=fun c=>(bA v (truths v []) c d).length) (show v.plots.length<=6 by omega);rw[<-SG] at hee;have hei:EQ v (truths v []) d hands=(yG v.plots.length).foldl (rC (fun c=>m6 v (truths v []) c d hands) (fun c=>(bA v (truths v []) c d).length)) none:=hee;have hhands:=fun (p:Nat) (hp:p<v.plots.length)=>(IH hv hp).2
  obtain⟨ts,hts⟩:∃ ts,truths v []=ts:=⟨_,rfl⟩;rw[hts] at hne ⊢;simp only[hts] at hei;simp only[hts,aI,List.cons_append,List.nil_append] at hgo;simp only[hts] at hsb;obtain⟨R,hR⟩:∃ R,EQ v ts d hands=R:=⟨_,rfl⟩;rw[hR] at hei ⊢;obtain⟨f,hfe⟩:∃ f,rC (fun c=>m6 v ts c d hands) (fun c=>(bA v ts c d).length)=f:=⟨_,rfl⟩;rw[hfe,yG] at hei;have hfst:∀ o c,f o c=rC (fun c=>m6 v ts c d hands) (fun c=>(bA v ts c d).length) o c:=fun o c=>by rw[hfe]
  have hcp:=fun b0 b1 b2 b3 b4 b5=>QU b0 b1 b2 b3 b4 b5 v.plots
  have hfh:=fun (k:Nat) (hk:k<v.plots.length)=>F0 v.plots k hk
  have hPCo:∀ k,okVs k (tP wP v.plots):=fun k=>F4 v6 k (WE k) v.plots
  have hPCl:=DI v6 v.plots;obtain⟨PC,hPC⟩:∃ PC,tP wP v.plots=PC:=⟨_,rfl⟩;rw[hPC] at hPCl;simp only[hPC] at hcp hfh hPCo;obtain⟨n,hn⟩:∃ n,v.plots.length=n:=⟨_,rfl⟩;have hmk:oU 40 (.int .i64 n) (.int .i64 n)=some n:=by simp[oU,room];omega
  simp only[NS,hn] at hcp;rw[hn] at hnp hei hPCl;have hp:2^n<=2^4:=Nat.pow_le_pow_right (by omega) hnp;have hshl:=rB n (by omega);obtain⟨Q,hQ⟩:∃ Q,2^n=Q:=⟨_,rfl⟩;rw[hQ] at hp hshl hei
  (repeat (first|simp only[↓QA,QB,seval,aV,hn,hmk,hcp]|refine rd0 rfl ?_))
  refine bC (S:=Nat×Nat×Nat) (0,0,0) (fun a=>a.1<=n/\zD a.1 (fun p=>pA v ts p d) a.2.1/\zD a.1 (fun p=>!iN v ts p d) a.2.2) (fun a=>n-a.1)
   (fun a=>[(1,.int .i64 d),(2,.int .i64 hands),(3,.ptr 0 0),(6,.lit [] false none),(7,.lit [] false none),(9,.ptr 5 0),(10,.int .i64 a.2.1),(11,.int .i64 a.2.2),(12,.ref 6 0 n 4),(47,.int .i64 n),(48,.int .i64 a.1)])
   (fun a=>[.cells (aC v),.cells [.lit [.int .i64 d,.int .i64 v.rain.length,.int .i64 hands,.int .i64 400] true none],.cells (aC v),.cells (aC v),.map (ts.map kvT),.cells (db v 0 4),.cells PC]) ⟨Nat.zero_le _,⟨by simp,fun i=>by simp⟩,⟨by simp,fun i=>by simp⟩⟩ (by simp[aI]) ?_ fun a ha=>?_
  ·try simp only[aB,QE,seval,aV,gV (show 6<7 by omega)]
   try simp[clr,clrs]
  ·obtain⟨k,g,th⟩:=a;obtain⟨hk,hg,hth⟩:=ha;simp only at hk hg hth
   (repeat (first|simp only[↓QA,QB,seval,aV,aJJ]|refine rd0 rfl ?_))
   refine aE (fun h=>?_) fun h=>?_
   ·have hk1:k<n:=by simpa using h
    have hw:=bD hk1 (by omega);have hgk:=hgo k (by omega);have hb:=hsb k (by omega);obtain⟨g1,g2⟩:=IW hg;obtain⟨t1,t2⟩:=IW hth;have hge:pA v ts k d=decide ((lZ ts k d).hi+v.way.hi<=v.ripe):=rfl;have hwe:(!iN v ts k d)=decide ((lZ ts k d).lo<v.full):=by
     rw[iN,Bool.eq_iff_iff];simp
    simp only[hge] at g1 g2;simp only[hwe] at t1 t2;obtain⟨s,hs⟩:∃ s,lZ ts k d=s:=⟨_,rfl⟩;simp only[hs] at hgk hb g1 g2 t1 t2;have hwx:IntKind.i64.wrap (s.hi+v.way.hi)=s.hi+v.way.hi:=bM ⟨by omega,by omega⟩;have hg4:g<16:=Nat.lt_of_lt_of_le hg.1 (show 2^k<=2^4 from Nat.pow_le_pow_right (by omega) (by omega));have ht4:th<16:=Nat.lt_of_lt_of_le hth.1 (show 2^k<=2^4 from Nat.pow_le_pow_right (by omega) (by omega));have hk4:2^k<=2^4:=Nat.pow_le_pow_right (by omega) (by omega);have vsh:=rB k (by omega);have vog:=S4 g (2^k) (by omega) (by omega);have vot:=S4 th (2^k) (by omega) (by omega)
    (repeat (first|simp only[↓QA,QB,seval,aV]|refine rd0 rfl ?_))
    refine aS (hgk _) ?_;cases h5:decide (s.hi+v.way.hi<=v.ripe)
    ·cases h6:decide (s.lo<v.full)
     ·(repeat (first|simp only[↓QA,QB,seval,aV,hwx,h5,h6,hw]|refine rd0 rfl ?_))
      refine⟨(k+1,g,th),⟨by simp only;omega,g2 h5,t2 h6⟩,by simp only;omega,?_⟩;try simp only[aB,QE,seval,aV,hw,gV (show 6<7 by omega)]
      try simp[aF]
     ·(repeat (first|simp only[↓QA,QB,seval,aV,hwx,h5,h6,vsh,vot,hw]|refine rd0 rfl ?_))
      refine⟨(k+1,g,th|||2^k),⟨by simp only;omega,g2 h5,t1 h6⟩,by simp only;omega,?_⟩;try simp only[aB,QE,seval,aV,hw,gV (show 6<7 by omega)]
      try simp[aF]
    ·cases h6:decide (s.lo<v.full)
     ·(repeat (first|simp only[↓QA,QB,seval,aV,hwx,h5,h6,vsh,vog,hw]|refine rd0 rfl ?_))
      refine⟨(k+1,g|||2^k,th),⟨by simp only;omega,g1 h5,t2 h6⟩,by simp only;omega,?_⟩;try simp only[aB,QE,seval,aV,hw,gV (show 6<7 by omega)]
      try simp[aF]
     ·(repeat (first|simp only[↓QA,QB,seval,aV,hwx,h5,h6,vsh,vog,vot,hw]|refine rd0 rfl ?_))
      refine⟨(k+1,g|||2^k,th|||2^k),⟨by simp only;omega,g1 h5,t1 h6⟩,by simp only;omega,?_⟩;try simp only[aB,QE,seval,aV,hw,gV (show 6<7 by omega)]
      try simp[aF]
   ·have hk1:k=n:=by simp at h;omega
    rw[hk1] at hg hth;have hg4:g<16:=Nat.lt_of_lt_of_le hg.1 (by omega);have ht4:th<16:=Nat.lt_of_lt_of_le hth.1 (by omega)
    (repeat (first|simp only[↓QA,QB,seval,aV,hshl]|refine rd0 rfl ?_))
    refine bC (S:=Nat×Option (List Int)) (0,none) (fun a=>a.1<=Q/\(((List.range Q).drop a.1).map (lst n)).foldl f a.2=R/\(a.2.getD []).length<=n) (fun a=>Q-a.1)
     (fun a=>[(2,.int .i64 hands),(6,ints (a.2.getD [])),(7,ints (bA v ts (a.2.getD []) d)),(10,.int .i64 g),(11,.int .i64 th),(12,.ref 6 0 n 4),(15,.bool a.2.isSome),(80,.int .i64 Q),(81,.int .i64 a.1)])
     (fun a=>[.cells (aC v),.cells [.lit [.int .i64 d,.int .i64 v.rain.length,.int .i64 hands,.int .i64 400] true none],.cells (aC v),.cells (aC v),.map (ts.map kvT),.cells (db v 0 4),.cells PC]) ⟨Nat.zero_le _,by simpa using hei.symm,by simp⟩ (by simp[aI]) ?_ fun a ha=>?_
    ·have hso:bA v ts [] d=[]:=rfl;try simp only[aB,QE,seval,aV,gV (show 6<7 by omega),Option.getD_none,Option.isSome_none,hso,ints,hk1]
     try simp[clr,clrs]
    ·obtain⟨s,o⟩:=a;obtain⟨hs,hq,hol⟩:=ha;simp only at hs hq hol
     (repeat (first|simp only[↓QA,QB,seval,aV,aJQ]|refine rd0 rfl ?_))
     refine aE (fun h2=>?_) fun h2=>?_
     ·have hs1:s<Q:=by simpa using h2
      have hw:=bD hs1 (by omega);have hs2:s<2^n:=by omega
      have hr1:s<(List.range Q).length:=by simpa using hs1
      rw[List.drop_eq_getElem_cons hr1,List.getElem_range,List.map_cons,List.foldl_cons,hfst] at hq;have hll:=BC n s;have hlr:∀ x∈lst n s,0<=x/\x<n:=fun x hx=>by have:=(BP.1 hx).1;omega
      have hn1:=nQ s n (by omega) (by omega);have hn2:=nQ (s &&& th) n (Nat.lt_of_le_of_lt Nat.and_le_left (by omega)) (by omega);have hla:lst n (s &&& th)=bA v ts (lst n s) d:=aGV hth;rw[hla] at hn2;have vand:=aQG s th (by omega) (by omega);have vann:=HQ s g (by omega) (by omega);have hzi:=ZP hs2 (by omega) hg;have hslen:(bA v ts (lst n s) d).length<=n:=Nat.le_trans (List.length_filter_le _ _) hll;obtain⟨L,hL⟩:∃ L,lst n s=L:=⟨_,rfl⟩;rw[hL] at hq hll hlr hn1 hn2 hzi hslen;have hzb:(((EI s g:Nat):Int)==0)=L.all (fun p=>pA v ts p.toNat d):=by
       rw[Bool.eq_iff_iff,List.all_eq_true,<-hzi];simp
      obtain⟨SL,hSL⟩:∃ SL,bA v ts L d=SL:=⟨_,rfl⟩;rw[hSL] at hn2 hslen;obtain⟨H,hH⟩:∃ H,xM v L=H:=⟨_,rfl⟩;have hdo:m6 v ts L d hands=(decide (hands<=H)&&L.all fun p=>pA v ts p.toNat d):=by rw[m6,hH]
      (repeat (first|simp only[↓QA,QB,seval,aV]|refine rd0 rfl ?_))
      ((first|refine aD (hn1) rfl dd ?_|refine aG (hn1) rfl dd ?_);(repeat (first|simp only[↓QA,QB,seval,aV,vand]|refine rd0 rfl ?_)))
      ((first|refine aD (hn2) rfl dd ?_|refine aG (hn2) rfl dd ?_);(repeat (first|simp only[↓QA,QB,seval,aV,ints]|refine rd0 rfl ?_)))
      refine bC (S:=Nat×Int) (0,0) (fun a=>a.1<=L.length/\a.2+xM v (L.drop a.1)=H/\0<=a.2/\a.2<=99*a.1) (fun a=>L.length-a.1)
       (fun a=>[(2,.int .i64 hands),(6,ints (o.getD [])),(7,ints (bA v ts (o.getD []) d)),(10,.int .i64 g),(11,.int .i64 th),(12,.ref 6 0 n 4),(15,.bool o.isSome),(16,.int .i64 s),(17,ints L),(18,ints SL),(19,.int .i64 a.2),(80,.int .i64 Q),(81,.int .i64 s),(94,ints L),(95,.int .i64 L.length),(96,.int .i64 a.1)])
       (fun a=>[.cells (aC v),.cells [.lit [.int .i64 d,.int .i64 v.rain.length,.int .i64 hands,.int .i64 400] true none],.cells (aC v),.cells (aC v),.map (ts.map kvT),.cells (db v 0 4),.cells PC]) ⟨Nat.zero_le _,by simpa using hH,Int.le_refl _,by simp⟩ (by simp[aI]) ?_ fun a ha=>?_
      ·try simp only[aB,QE,seval,aV,gV (show 6<7 by omega),ints]
       try simp
      ·obtain⟨j,sum⟩:=a;obtain⟨hj,hsum,hs0,hs9⟩:=ha;simp only at hj hsum hs0 hs9
       (repeat (first|simp only[↓QA,QB,seval,aV,aJO,ints]|refine rd0 rfl ?_))
       refine aE (fun h3=>?_) fun h3=>?_
       ·have hj1:j<L.length:=by simpa using h3
        have hwj:=bD hj1 (by omega);have hpr:=hlr _ (List.getElem_mem hj1);obtain⟨p,hpe⟩:∃ p:Nat,L[j]=(p:Int):=⟨L[j].toNat,by omega⟩;have hpp:p<v.plots.length:=by omega
        have hfp:=hfh p hpp;have hhp:=hhands p hpp;rw[List.drop_eq_getElem_cons hj1,xM,hpe,aDC hpp] at hsum;obtain⟨y,hy⟩:∃ y,v.plots[p].hands=y:=⟨_,rfl⟩;rw[hy] at hhp hsum hfp;have hwn:IntKind.i64.wrap (sum+y)=sum+y:=bM ⟨by omega,by omega⟩;have i1:(0:Int)<=(p:Int)/\(p:Int)<((n:Nat):Int)/\4=4:=⟨by omega,by omega,rfl⟩
        (repeat (first|simp only[↓QA,QB,seval,aV,hj1,hpe,i1,Nat.zero_add,hfp,hwn,hwj,ints]|refine rd0 rfl ?_))
        refine⟨(j+1,sum+y),⟨by simp only;omega,by simp only;omega,by simp only;omega,by simp only;omega⟩,by simp only;omega,?_⟩;try simp only[aB,QE,seval,aV,hwj,hwn,gV (show 6<7 by omega),ints]
        try simp[aF]
       ·have hj1:j=L.length:=by simp at h3;omega
        rw[hj1,List.drop_length] at hsum;simp only[xM,Int.add_zero] at hsum;subst hsum;cases hga:L.all (fun p=>pA v ts p.toNat d)
        ·have hst:rC (fun c=>m6 v ts c d hands) (fun c=>(bA v ts c d).length) o L=o:=by
          have hd0:m6 v ts L d hands=false:=by rw[hdo,hga,Bool.and_false]
          simp[rC,hd0]
         rw[hst] at hq
         (repeat (first|simp only[↓QA,QB,seval,aV,vann,hzb,hga,hw,ints]|refine rd0 rfl ?_))
         refine⟨(s+1,o),⟨by simp only;omega,hq,hol⟩,by simp only;omega,?_⟩;try simp only[aB,QE,seval,aV,hw,gV (show 6<7 by omega),ints]
         try simp[aF]
        ·cases hlt:decide (sum<hands)
         ·have hd1:m6 v ts L d hands=true:=by
           have:¬sum<hands:=by simpa using hlt
           have e:decide (hands<=sum)=true:=by simp;omega
           rw[hdo,hga,e];rfl
          have hsN:rC (fun c=>m6 v ts c d hands) (fun c=>(bA v ts c d).length) none L=some L:=by simp[rC,hd1]
          have hsS:∀ b,rC (fun c=>m6 v ts c d hands) (fun c=>(bA v ts c d).length) (some b) L=if SL.length<(bA v ts b d).length\/(SL.length=(bA v ts b d).length/\dJ L b=true) then some L else some b:=fun b=>by simp only[rC,hd1,if_true,hSL]
          (repeat (first|simp only[↓QA,QB,seval,aV,vann,hzb,hga,hlt,ints]|refine rd0 rfl ?_))
          cases h1:decide (((SL.length:Nat):Int)<((bA v ts (o.getD []) d).length:Int))
          ·have h1':¬SL.length<(bA v ts (o.getD []) d).length:=by simpa using h1
           (repeat (first|simp only[↓QA,QB,seval,aV,h1,ints]|refine rd0 rfl ?_))
           cases h2:(((SL.length:Nat):Int)==((bA v ts (o.getD []) d).length:Int))
           ·have h2':¬SL.length=(bA v ts (o.getD []) d).length:=by intro h;rw[h] at h2;simp at h2
            have hb:¬(SL.length<(bA v ts (o.getD []) d).length\/(SL.length=(bA v ts (o.getD []) d).length/\dJ L (o.getD [])=true)):=by rintro (h|⟨h,_⟩);exact h1' h;exact h2' h
            (repeat (first|simp only[↓QA,QB,seval,aV,h1,h2,ints]|refine rd0 rfl ?_))
            cases o with
            |none =>
             rw[hsN] at hq
             (repeat (first|simp only[↓QA,QB,seval,aV,Option.isSome_none,hw,ints]|refine rd0 rfl ?_))
             refine⟨(s+1,some L),⟨by simp only;omega,hq,by simpa using hll⟩,by simp only;omega,?_⟩;try simp only[aB,QE,seval,aV,hw,gV (show 6<7 by omega),ints,Option.isSome_some,Option.getD_some,hSL]
             try simp[aF]
            |some b =>
             simp only[Option.getD_some] at hol hb;rw[hsS,if_neg hb] at hq
             (repeat (first|simp only[↓QA,QB,seval,aV,Option.isSome_some,Option.getD_some,hw,ints]|refine rd0 rfl ?_))
             refine⟨(s+1,some b),⟨by simp only;omega,hq,by simpa using hol⟩,by simp only;omega,?_⟩;try simp only[aB,QE,seval,aV,hw,gV (show 6<7 by omega),ints,Option.isSome_some,Option.getD_some]
             try simp[aF]
           ·have h2':SL.length=(bA v ts (o.getD []) d).length:=by simp at h2;omega
            (repeat (first|simp only[↓QA,QB,seval,aV,h1,h2,ints]|refine rd0 rfl ?_))
            cases h3:decide (((L.length:Nat):Int)<((o.getD []).length:Int))
            ·have h3':¬L.length<(o.getD []).length:=by simpa using h3
             (repeat (first|simp only[↓QA,QB,seval,aV,h3,ints]|refine rd0 rfl ?_))
             cases h4:(((L.length:Nat):Int)==((o.getD []).length:Int))
             ·have h4':¬L.length=(o.getD []).length:=by intro h;rw[h] at h4;simp at h4
              have hb:¬(SL.length<(bA v ts (o.getD []) d).length\/(SL.length=(bA v ts (o.getD []) d).length/\dJ L (o.getD [])=true)):=by
               rintro (h|⟨_,h⟩)
               ·exact h1' h
               ·rw[dJ,if_neg h4'] at h;exact h3' (by simpa using h)
              (repeat (first|simp only[↓QA,QB,seval,aV,h3,h4,ints]|refine rd0 rfl ?_))
              cases o with
              |none =>
               rw[hsN] at hq
               (repeat (first|simp only[↓QA,QB,seval,aV,Option.isSome_none,hw,ints]|refine rd0 rfl ?_))
               refine⟨(s+1,some L),⟨by simp only;omega,hq,by simpa using hll⟩,by simp only;omega,?_⟩;try simp only[aB,QE,seval,aV,hw,gV (show 6<7 by omega),ints,Option.isSome_some,Option.getD_some,hSL]
               try simp[aF]
              |some b =>
               simp only[Option.getD_some] at hol hb;rw[hsS,if_neg hb] at hq
               (repeat (first|simp only[↓QA,QB,seval,aV,Option.isSome_some,Option.getD_some,hw,ints]|refine rd0 rfl ?_))
               refine⟨(s+1,some b),⟨by simp only;omega,hq,by simpa using hol⟩,by simp only;omega,?_⟩;try simp only[aB,QE,seval,aV,hw,gV (show 6<7 by omega),ints,Option.isSome_some,Option.getD_some]
               try simp[aF]
             ·have h4':L.length=(o.getD []).length:=by simp at h4;omega
              (repeat (first|simp only[↓QA,QB,seval,aV,h3,h4,ints]|refine rd0 rfl ?_))
              ((first|refine aD (BX L (o.getD []) (by omega) (by omega)) rfl dd ?_|refine aG (BX L (o.getD []) (by omega) (by omega)) rfl dd ?_);(repeat (first|simp only[↓QA,QB,seval,aV,NZ,h3,h4,ints]|refine rd0 rfl ?_)))
              cases h5:less L (o.getD [])
              ·have hb:¬(SL.length<(bA v ts (o.getD []) d).length\/(SL.length=(bA v ts (o.getD []) d).length/\dJ L (o.getD [])=true)):=by
                rintro (h|⟨_,h⟩)
                ·exact h1' h
                ·rw[dJ,if_pos h4',h5] at h;cases h
               (repeat (first|simp only[↓QA,QB,seval,aV,h5,ints]|refine rd0 rfl ?_))
               cases o with
               |none =>
                rw[hsN] at hq
                (repeat (first|simp only[↓QA,QB,seval,aV,Option.isSome_none,hw,ints]|refine rd0 rfl ?_))
                refine⟨(s+1,some L),⟨by simp only;omega,hq,by simpa using hll⟩,by simp only;omega,?_⟩;try simp only[aB,QE,seval,aV,hw,gV (show 6<7 by omega),ints,Option.isSome_some,Option.getD_some,hSL]
                try simp[aF]
               |some b =>
                simp only[Option.getD_some] at hol hb;rw[hsS,if_neg hb] at hq
                (repeat (first|simp only[↓QA,QB,seval,aV,Option.isSome_some,Option.getD_some,hw,ints]|refine rd0 rfl ?_))
                refine⟨(s+1,some b),⟨by simp only;omega,hq,by simpa using hol⟩,by simp only;omega,?_⟩;try simp only[aB,QE,seval,aV,hw,gV (show 6<7 by omega),ints,Option.isSome_some,Option.getD_some]
                try simp[aF]
              ·have hb:(SL.length<(bA v ts (o.getD []) d).length\/(SL.length=(bA v ts (o.getD []) d).length/\dJ L (o.getD [])=true)):=.inr ⟨h2',by rw[dJ,if_pos h4',h5]⟩
               (repeat (first|simp only[↓QA,QB,seval,aV,h5,ints]|refine rd0 rfl ?_))
               cases o with
               |none =>
                rw[hsN] at hq
                (repeat (first|simp only[↓QA,QB,seval,aV,Option.isSome_none,hw,ints]|refine rd0 rfl ?_))
                refine⟨(s+1,some L),⟨by simp only;omega,hq,by simpa using hll⟩,by simp only;omega,?_⟩;try simp only[aB,QE,seval,aV,hw,gV (show 6<7 by omega),ints,Option.isSome_some,Option.getD_some,hSL]
                try simp[aF]
               |some b =>
                simp only[Option.getD_some] at hol hb;rw[hsS,if_pos hb] at hq
                (repeat (first|simp only[↓QA,QB,seval,aV,Option.isSome_some,Option.getD_some,hw,ints]|refine rd0 rfl ?_))
                refine⟨(s+1,some L),⟨by simp only;omega,hq,by simpa using hll⟩,by simp only;omega,?_⟩;try simp only[aB,QE,seval,aV,hw,gV (show 6<7 by omega),ints,Option.isSome_some,Option.getD_some,hSL]
                try simp[aF]
            ·have h3':L.length<(o.getD []).length:=by simpa using h3
             have hb:(SL.length<(bA v ts (o.getD []) d).length\/(SL.length=(bA v ts (o.getD []) d).length/\dJ L (o.getD [])=true)):=.inr ⟨h2',by rw[dJ,if_neg (by omega)];simpa using h3'⟩
             (repeat (first|simp only[↓QA,QB,seval,aV,h3,ints]|refine rd0 rfl ?_))
             cases o with
             |none =>
              rw[hsN] at hq
              (repeat (first|simp only[↓QA,QB,seval,aV,Option.isSome_none,hw,ints]|refine rd0 rfl ?_))
              refine⟨(s+1,some L),⟨by simp only;omega,hq,by simpa using hll⟩,by simp only;omega,?_⟩;try simp only[aB,QE,seval,aV,hw,gV (show 6<7 by omega),ints,Option.isSome_some,Option.getD_some,hSL]
              try simp[aF]
             |some b =>
              simp only[Option.getD_some] at hol hb;rw[hsS,if_pos hb] at hq
              (repeat (first|simp only[↓QA,QB,seval,aV,Option.isSome_some,Option.getD_some,hw,ints]|refine rd0 rfl ?_))
              refine⟨(s+1,some L),⟨by simp only;omega,hq,by simpa using hll⟩,by simp only;omega,?_⟩;try simp only[aB,QE,seval,aV,hw,gV (show 6<7 by omega),ints,Option.isSome_some,Option.getD_some,hSL]
              try simp[aF]
          ·have h1':SL.length<(bA v ts (o.getD []) d).length:=by simpa using h1
           have hb:(SL.length<(bA v ts (o.getD []) d).length\/(SL.length=(bA v ts (o.getD []) d).length/\dJ L (o.getD [])=true)):=.inl h1'
           (repeat (first|simp only[↓QA,QB,seval,aV,h1,ints]|refine rd0 rfl ?_))
           cases o with
           |none =>
            rw[hsN] at hq
            (repeat (first|simp only[↓QA,QB,seval,aV,Option.isSome_none,hw,ints]|refine rd0 rfl ?_))
            refine⟨(s+1,some L),⟨by simp only;omega,hq,by simpa using hll⟩,by simp only;omega,?_⟩;try simp only[aB,QE,seval,aV,hw,gV (show 6<7 by omega),ints,Option.isSome_some,Option.getD_some,hSL]
            try simp[aF]
           |some b =>
            simp only[Option.getD_some] at hol hb;rw[hsS,if_pos hb] at hq
            (repeat (first|simp only[↓QA,QB,seval,aV,Option.isSome_some,Option.getD_some,hw,ints]|refine rd0 rfl ?_))
            refine⟨(s+1,some L),⟨by simp only;omega,hq,by simpa using hll⟩,by simp only;omega,?_⟩;try simp only[aB,QE,seval,aV,hw,gV (show 6<7 by omega),ints,Option.isSome_some,Option.getD_some,hSL]
            try simp[aF]
         ·have hst:rC (fun c=>m6 v ts c d hands) (fun c=>(bA v ts c d).length) o L=o:=by
           have:sum<hands:=by simpa using hlt
           have e:decide (hands<=sum)=false:=by simp;omega
           have hd0:m6 v ts L d hands=false:=by rw[hdo,e,Bool.false_and]
           simp[rC,hd0]
          rw[hst] at hq
          (repeat (first|simp only[↓QA,QB,seval,aV,vann,hzb,hga,hlt,hw,ints]|refine rd0 rfl ?_))
          refine⟨(s+1,o),⟨by simp only;omega,hq,hol⟩,by simp only;omega,?_⟩;try simp only[aB,QE,seval,aV,hw,gV (show 6<7 by omega),ints]
          try simp[aF]
     ·have hs1:s=Q:=by simp at h2;omega
      have hdr:(List.range Q).drop s=[]:=by rw[List.drop_eq_nil_iff];simp;omega
      rw[hdr] at hq;simp only[List.map_nil,List.foldl_nil] at hq;subst hq;cases o with
      |none =>
       (repeat (first|simp only[↓QA,QB,seval,aV,Option.isSome_none,Option.getD_none,KO,j5,ints,List.map_nil]|refine rd0 rfl ?_))
       try rfl
      |some b =>
       (repeat (first|simp only[↓QA,QB,seval,aV,Option.isSome_some,Option.getD_some,KO,j5]|refine rd0 rfl ?_))
       try try simp only[QS,QC,seval,aV]
 ·have hm:uW v da hands=([],[],E):=by rw[uW,hE,if_neg h0']
  have hg:(E==0)=false:=by simpa using h0'
  rw[hm];refine kT (nH hf (fun τ=>hu1 _ _ rfl) hask h0') ?_
  (repeat (first|simp only[↓QA,QB,seval,aV,hg,j5]|refine rd0 rfl ?_))
  try rfl
end Go.Am.Room.Fa
namespace Go.Am.Room.Fa
def nV:=zz @dE (zz @aI (zz @dC (zz @dD (zz @aJ (zz @dQ (zz @dS (zz @dH (zz @bZ (@List.length_append.{0})))))))))
theorem yC(p d n:Int):cV T 73 [.int .i64 p,.int .i64 d,.int .i64 n] (gA ⟨p,d,n⟩):=by
 refine aR (af:=a73) rfl (by simp[a73]) dd ?_;try simp only[↓QA,QB,seval,nV,a73]
theorem C8(l:List rL):cV T 72 [.lit (l.map gA) false none] (encFarm (exF l)):=by
 refine aR (af:=a72) rfl (by simp[a72]) dd ?_;try simp only[↓QA,QB,seval,nV,a72]
 (refine aD (fG 1 1) rfl dd ?_;try simp only[↓QA,QB,seval,nV])
 (refine aD (fG 0 1) rfl dd ?_;try simp only[↓QA,QB,seval,nV])
 (refine aD (fG 0 0) rfl dd ?_;try simp only[↓QA,QB,seval,nV])
 (refine aD (fG 1 2) rfl dd ?_;try simp only[↓QA,QB,seval,nV])
 (refine aD (fG 0 1) rfl dd ?_;try simp only[↓QA,QB,seval,nV])
 (refine aD (fG 2 3) rfl dd ?_;try simp only[↓QA,QB,seval,nV])
 (refine aD (fG 1 2) rfl dd ?_;try simp only[↓QA,QB,seval,nV])
 (refine aD (fG 0 1) rfl dd ?_;try simp only[↓QA,QB,seval,nV,exF,YK,XT,ZL,List.map_cons,List.map_nil])
 try simp[N2,lS,aH,yP,aM,AV.cells,AV.cell,C1,MJ,T3,TK,TX,L5,dS,ints,List.flatMap_cons,List.flatMap_nil]
theorem bF(l:List rL)(h:l.length<=100:=by decide):Fits (exF l):=⟨by simp[exF],by simp[exF],by simp[exF];omega,fun k hk=>by
 simp only[exF,List.mem_cons,List.not_mem_nil,or_false] at hk
 rcases hk with rfl|rfl|rfl<;>decide⟩
def someV(v:Farm):Bool:=decide ((check v).2.2=0)&&lA v []
theorem DH{v:Farm}{but:List Int}:lA v but=true↔truths v but≠[]:=by
 rw[lA];cases truths v but<;>simp
theorem some_iff{v:Farm}:someV v=true↔(check v).2.2=0/\truths v []≠[]:=by
 rw[someV,Bool.and_eq_true,decide_eq_true_eq,DH]
theorem aME{v:Farm}(h:truths v []≠[]):bS v 0=0:=by
 simp[bS,h]
theorem aKD{v:Farm}(hc:(check v).2.2=0){p:Nat}(hp:p<v.plots.length):wE v (p:Int)=0:=by
 rw[wE,if_pos hc,if_pos (c9.2 (by omega))]
theorem aFP{n m:Int}(h:0<=n/\n<=m):qN n m 0=0:=by
 rw[qN,if_pos rfl,if_pos (c9.2 h)]
theorem U5{v:Farm}(hs:someV v=true){p d:Nat}(hp:p<v.plots.length)(hd:d<=v.rain.length):lF v (p:Int) (d:Int)=0:=by
 obtain⟨hc,hne⟩:=some_iff.1 hs;rw[lF,aKD hc hp,aFP (by simp only[g0];omega),aME hne]
theorem aK8{v:Farm}(hs:someV v=true){p d:Nat}(hp:p<v.plots.length)(hd:d<=v.rain.length):yS v (p:Int) (d:Int)=(eG v (truths v []) p d,0):=by
 rw[yS,if_pos (U5 hs hp hd),Int.toNat_natCast,Int.toNat_natCast]
theorem aEA{l:List Truth}{p d:Nat}{n:Int}:n∈dO l p d↔∃ t∈l,∃ h∈jO t p,n=vI t d h:=by
 simp only[dO,List.mem_flatMap,List.mem_map];constructor
 ·rintro⟨t,ht,h,hh,rfl⟩;exact⟨t,ht,h,hh,rfl⟩
 ·rintro⟨t,ht,h,hh,rfl⟩;exact⟨t,ht,h,hh,rfl⟩
end Go.Am.Room.Fa
namespace Go.Am.Room.Fa
theorem xP{a:Int}(ha:0<=a){n:Nat}(hn:0<n):∃ j:Nat,a.tmod (n:Int)=(j:Int)/\j<n:=by
 obtain⟨k,rfl⟩:∃ k:Nat,a=k:=⟨a.toNat,by omega⟩;refine⟨k%n,?_,Nat.mod_lt _ hn⟩;rw[Int.tmod_eq_emod_of_nonneg (by omega)];norm_cast
end Go.Am.Room.Fa
namespace Go.Am.Room.Tr
structure Rail where
 a:Int
 b:Int
 mins:Span
 shut:Int
structure Tram where
 name:ByteArray
 frm:Int
 leaves:Int
 due:Int
 path:List Int
structure Seen where
 tram:Int
 minute:Int
structure Net where
 stations:Int
 rails:List Rail
 trams:List Tram
 seen:List Seen
def encRail(r:Rail):AV:=.agg [.int .i64 r.a,.int .i64 r.b,.int .i64 r.mins.lo,.int .i64 r.mins.hi,.int .i64 r.shut]
theorem encRail_eq(r:Rail):encRail r = .agg [.int .i64 r.a,.int .i64 r.b,.int .i64 r.mins.lo,.int .i64 r.mins.hi,.int .i64 r.shut]:=by simp only[encRail]
theorem yF(r:Rail):j8 (encRail r):=gQ (aT (bJ _ _) (aT (bJ _ _) (aT (bJ _ _) (aT (bJ _ _) (aT (bJ _ _) a9)))))
instance (r:Rail):Dat (encRail r):=⟨yF r⟩
instance (l:List Rail):Dats (l.map encRail):=⟨bH yF l⟩
theorem S_mapRail(σ:St)(m d:Nat)(l:List Rail):cI σ m d (l.map encRail)=some (l.map encRail):=iZ (bH yF l) σ m d
def encTram(t:Tram):AV:=.agg [.str t.name,.int .i64 t.frm,.int .i64 t.leaves,.int .i64 t.due,ints t.path]
theorem encTram_eq(t:Tram):encTram t = .agg [.str t.name,.int .i64 t.frm,.int .i64 t.leaves,.int .i64 t.due,ints t.path]:=by simp only[encTram]
theorem yI(t:Tram):j8 (encTram t):=gQ (aT (vW _) (aT (bJ _ _) (aT (bJ _ _) (aT (bJ _ _) (aT (iT _) a9)))))
instance (t:Tram):Dat (encTram t):=⟨yI t⟩
instance (l:List Tram):Dats (l.map encTram):=⟨bH yI l⟩
theorem S_mapTram(σ:St)(m d:Nat)(l:List Tram):cI σ m d (l.map encTram)=some (l.map encTram):=iZ (bH yI l) σ m d
def encSeen(x:Seen):AV:=.agg [.int .i64 x.tram,.int .i64 x.minute]
theorem encSeen_eq(x:Seen):encSeen x = .agg [.int .i64 x.tram,.int .i64 x.minute]:=by simp only[encSeen]
theorem xV(x:Seen):j8 (encSeen x):=gQ (aT (bJ _ _) (aT (bJ _ _) a9))
instance (x:Seen):Dat (encSeen x):=⟨xV x⟩
instance (l:List Seen):Dats (l.map encSeen):=⟨bH xV l⟩
theorem S_mapSeen(σ:St)(m d:Nat)(l:List Seen):cI σ m d (l.map encSeen)=some (l.map encSeen):=iZ (bH xV l) σ m d
def netCells(v:Net):List AV:=[.int .i64 v.stations,.lit (v.rails.map encRail) false none,.lit (v.trams.map encTram) false none,.lit (v.seen.map encSeen) false none]
theorem netCells_eq(v:Net):netCells v=[.int .i64 v.stations,.lit (v.rails.map encRail) false none,.lit (v.trams.map encTram) false none,.lit (v.seen.map encSeen) false none]:=by simp only[netCells]
def encNet(v:Net):AV:=.agg (netCells v)
theorem encNet_eq(v:Net):encNet v = .agg (netCells v):=by simp only[encNet]
theorem FQ(v:Net):j8 (encNet v):=gQ (aT (bJ _ _) (aT (gG yF _) (aT (gG yI _) (aT (gG xV _) a9))))
instance (v:Net):Dat (encNet v):=⟨FQ v⟩
structure Fits (v:Net):Prop where
 rails:v.rails.length<9223372036854775808
 trams:v.trams.length<9223372036854775808
 seen:v.seen.length<9223372036854775808
 names:∀ t∈v.trams,t.name.size<9223372036854775808
 paths:∀ t∈v.trams,t.path.length<9223372036854775808
def pC(v:Net)(s:Int):Bool:=inR s 0 (v.stations-1)
def dN(v:Net)(r:Rail):Int :=
 if pC v r.a=false\/pC v r.b=false then 4 else if r.a=r.b then 2
 else if fW r.mins 1 20=7\/inR r.shut 0 2=false then 7 else if fW r.mins 1 20≠0\/r.mins.lo+1<r.mins.hi then 2 else 0
def dP(r:Rail)(s:Int):Int:=if s=r.a then r.b else if s=r.b then r.a else -1
def eW(v:Net)(r:Int):Rail:=(v.rails[r.toNat]?).getD ⟨0,0,⟨0,0⟩,0⟩
def lN(v:Net):List Int->Int->List Int->Bool
 |[],s,_=>s==0
 |r::l,s,met =>
  if dP (eW v r) s<0\/met.contains (dP (eW v r) s)=true\/(dP (eW v r) s=0/\l≠[]) then false
  else lN v l (dP (eW v r) s) (met++[dP (eW v r) s])
def jI(v:Net)(s:Int)(path:List Int):Bool:=if inR path.length 1 4=false\/s=0 then false else lN v path s [s]
def iO(v:Net)(t:Tram):Int :=
 if pC v t.frm=false then 4 else if inR t.leaves 0 60=false\/inR t.due 0 400=false then 7
 else if inR t.path.length 1 4=false then 3 else if t.path.all (fun r=>inR r 0 ((v.rails.length:Int)-1))=false then 4
 else if jI v t.frm t.path=false then 2 else 0
def k6(v:Net)(i:Nat)(t:Tram):Int:=if fresh t.name ((v.trams.take i).map Tram.name)=0 then iO v t else fresh t.name ((v.trams.take i).map Tram.name)
def lO(v:Net)(_:Nat)(x:Seen):Int:=if inR x.tram 0 ((v.trams.length:Int)-1)=false then 4 else if inR x.minute (-1) 400=false then 7 else 0
def jF(v:Net):Int×Int×Int:=if 3<v.seen.length then (4,0,3) else match aU (lO v) v.seen 0 with|some (i,e)=>(4,i,e)|none=>(0,0,0)
def jE(v:Net):Int×Int×Int:=if 3<v.trams.length then (3,0,3) else match aU (k6 v) v.trams 0 with|some (i,e)=>(3,i,e)|none=>jF v
def gD(v:Net):Int×Int×Int:=if 5<v.rails.length then (2,0,3) else match aU (fun _ r=>dN v r) v.rails 0 with|some (i,e)=>(2,i,e)|none=>jE v
def check(v:Net):Int×Int×Int:=if inR v.stations 2 5=false then (1,0,7) else gD v
def SR(v:Net)(but l:List Int)(r:Int):Bool:=!decide ((eW v r).shut=1)&&!but.contains r&&!l.contains r
def HG(v:Net)(but l:List Int):List (List Int):=((aL 0 v.rails.length).filter (SR v but l)).map fun r=>l++[r]
def iW(v:Net)(but:List Int):Nat->List (List Int)
 |0=>[[]]
 |k+1=>(iW v but k).flatMap (HG v but)
def jB(v:Net)(s:Int)(but:List Int):Nat->List (List Int)
 |0=>[]
 |k+1=>jB v s but k++(iW v but (k+1)).filter (jI v s)
def eX(v:Net)(s:Int)(but:List Int):List (List Int):=jB v s but 4
def rX(v:Net)(s:Int):List (List Int)×Int:=if (check v).2.2=0 then (if pC v s=true then (eX v s [],0) else ([],4)) else ([],(check v).2.2)
structure State where
 closed:List Bool
 mins:List Int
def jY(s:Span):List Int:=aL s.lo (s.hi+1-s.lo).toNat
def yO(shut:Int)(c:Bool):Bool:=!(c&&decide (shut=0)||!c&&decide (shut=1))
def EH(r:Rail)(s:State):List State:=(jY r.mins).flatMap fun m=>([false,true].filter (yO r.shut)).map fun c=>⟨s.closed++[c],s.mins++[m]⟩
def p9(rs:List Rail):Nat->List State
 |0=>[⟨[],[]⟩]
 |k+1=>match rs[k]? with|some r=>(p9 rs k).flatMap (EH r)|none=>p9 rs k
def lI(v:Net):List State:=p9 v.rails v.rails.length
def eff(s:State)(r:Int):Int:=if (s.closed[r.toNat]?).getD false=true then 0 else (s.mins[r.toNat]?).getD 0
structure Stay where
 tram:Int
 rail:Int
 frm:Int
 til:Int
def jP(rail ready m:Int)(x:Stay):Bool:=decide (x.rail=rail)&&decide (x.frm<ready+m)&&decide (ready<x.til)
def zS(ss:List Stay)(rail m:Int):Nat->Int->Int
 |0,s=>s
 |k+1,s=>if ss.any (jP rail s m)=true then zS ss rail m k (s+1) else s
def lC(ss:List Stay)(rail ready m:Int):Int:=zS ss rail m 1000 ready
def pJ(m:Int->Int)(i:Int):List Int->Int->List Stay->List Stay×Int
 |[],at_,ss=>(ss,at_)
 |r::l,at_,ss=>pJ m i l (lC ss r at_ (m r)+m r) (ss++[⟨i,r,lC ss r at_ (m r),lC ss r at_ (m r)+m r⟩])
def oZ(m:Int->Int)(i:Int)(leaves:Int)(path:List Int)(ss:List Stay):List Stay×Int :=
 if path.any (fun r=>m r==0)=true then (ss,-1) else pJ m i path leaves ss
def rH(v:Net)(i:Nat):Int:=match v.trams[i]? with|some t=>t.leaves|none=>0
def fR(ps:List (List Int))(i:Nat):List Int:=(ps[i]?).getD []
def fM(v:Net)(m:Int->Int)(ps:List (List Int)):Nat->List Stay×List Int
 |0=>([],[])
 |k+1=>((oZ m k (rH v k) (fR ps k) (fM v m ps k).1).1,(fM v m ps k).2++[(oZ m k (rH v k) (fR ps k) (fM v m ps k).1).2])
def lP(v:Net)(ps:List (List Int))(m:Int->Int):List Int:=(fM v m ps v.trams.length).2
def lL(v:Net):List (List Int):=v.trams.map Tram.path
def comesOf(v:Net)(s:State):List Int:=lP v (lL v) (eff s)
def comeAt(cs:List Int)(t:Int):Int:=(cs[t.toNat]?).getD 0
def mQ(v:Net)(but cs:List Int):Bool:=(List.range v.seen.length).all fun k=>match v.seen[k]? with|some x=>but.contains (k:Int)||comeAt cs x.tram==x.minute|none=>true
def truths(v:Net)(but:List Int):List State:=(lI v).filter fun s=>mQ v but (comesOf v s)
def lA(v:Net)(but:List Int):Bool:=!(truths v but).isEmpty
def bS(v:Net)(e:Int):Int:=if e=0 then (if (truths v []).isEmpty then 8 else 0) else e
def iL(v:Net):Int:=bS v (check v).2.2
def m9(v:Net)(t:Int):Int:=bS v (if (check v).2.2=0 then (if inR t 0 ((v.trams.length:Int)-1) then 0 else 4) else (check v).2.2)
def atsIn(v:Net)(l:List State)(t:Nat):List Int:=l.map fun s=>comeAt (comesOf v s) t
def fJ(ats:List Int):List Int:=ats.filter fun c=>!decide (c = -1)
def comesS(ats:List Int):Span×Int:=(gH (fJ ats),fF (fJ ats).length ats.length)
def comesR(v:Net)(t:Int):Span×Int×Int:=if m9 v t=0 then ((comesS (atsIn v (truths v []) t.toNat)).1,(comesS (atsIn v (truths v []) t.toNat)).2,0) else (⟨0,0⟩,0,m9 v t)
def DQ(v:Net)(t:Nat):Int:=match v.trams[t]? with|some x=>x.due|none=>0
def mH(v:Net)(t:Nat)(c:Int):Bool:=!decide (c = -1)&&decide (c<=DQ v t)
def KF(v:Net)(t:Int)(s:State):Bool:=!mH v t.toNat (comeAt (comesOf v s) t)
def M1(v:Net)(l:List State)(t:Int):Bool:=l.all (KF v t)
def LG(v:Net)(l:List State)(t:Int):Bool:=l.any (KF v t)
def aA7(v:Net)(l:List State):List Int:=(aL 0 v.trams.length).filter (M1 v l)
def NH(v:Net)(l:List State):List Int:=(aL 0 v.trams.length).filter (LG v l)
def DF(v:Net):List Int×List Int×Int:=if iL v=0 then (aA7 v (truths v []),NH v (truths v []),0) else ([],[],iL v)
def lM(v:Net):List Int->Int->Int
 |[],b=>b
 |t::l,b=>lM v l (if b<0\/DQ v t.toNat<DQ v b.toNat then t else b)
def pT(v:Net):Int×Int:=if iL v=0 then (if NH v (truths v [])=[] then (0,9) else (lM v (NH v (truths v [])) (-1),0)) else (0,iL v)
def W6(v:Net)(ps:List (List Int))(s:State):Bool:=(List.range v.trams.length).all fun t=>mH v t (comeAt (lP v ps (eff s)) t)
def m6(v:Net)(l:List State)(ps:List (List Int)):Bool:=l.all (W6 v ps)
def pZ(v:Net)(ps:List (List Int)):List Int:=(aL 0 ps.length).filter fun t=>!decide (fR ps t.toNat=fR (lL v) t.toNat)
def iP(v:Net)(t:Nat):Int:=match v.trams[t]? with|some x=>x.frm|none=>0
def pV(v:Net):Nat->List (List (List Int))
 |0=>[[]]
 |k+1=>(pV v k).flatMap fun p=>(eX v (iP v k) []).map fun w=>p++[w]
def B2(v:Net):List (List (List Int)):=pV v v.trams.length
def S1(v:Net)(l:List State)(many:Nat)(p:List (List Int)):Bool:=(pZ v p).length==many&&m6 v l p
def BV(v:Net)(l:List State):Nat->Nat->Option (List (List Int))
 |0,_=>none
 |k+1,m=>match (B2 v).find? (S1 v l m) with|some p=>some p|none=>BV v l k (m+1)
def vM(v:Net)(l:List State):Option (List (List Int)):=BV v l (v.trams.length+1) 0
def uE(v:Net):List (List Int)×List Int×Int:=if iL v=0 then (match vM v (truths v []) with|some p=>(p,pZ v p,0)|none=>([],[],9)) else ([],[],iL v)
def BZ(r:Int)(s:State):Bool:=(s.closed[r.toNat]?).getD false
def XM(v:Net)(l:List State):List Int:=(aL 0 v.rails.length).filter fun r=>l.all (BZ r)
def aM7(v:Net)(l:List State):List Int:=(aL 0 v.rails.length).filter fun r=>l.any (BZ r)
def C4(v:Net):List Int×List Int×Int:=if iL v=0 then (XM v (truths v []),aM7 v (truths v []),0) else ([],[],iL v)
def GN(v:Net)(r:Int):Int:=(((List.range v.trams.length).filter fun t=>(eX v (iP v t) [r]).isEmpty).length:Int)
def wM(v:Net):List Int->Int×Int->Int×Int
 |[],b=>b
 |r::l,b=>wM v l (if (eW v r).shut=1 then b else if b.1<0\/b.2<GN v r then (r,GN v r) else b)
def B5(v:Net):Int×Int:=wM v (aL 0 v.rails.length) (-1,0)
def w8(v:Net):Int×Int×Int:=if (check v).2.2=0 then (if (B5 v).1<0 then (0,0,9) else ((B5 v).1,(B5 v).2,0)) else (0,0,(check v).2.2)
def qR(v:Net):List Int:=(cR (lA v) v.seen.length v.seen.length 0).getD (((dM v.seen.length v.seen.length)[0]?).getD [])
def pQ(v:Net):List Int×Int:=if (check v).2.2=0 then (qR v,0) else ([],(check v).2.2)
def XB:ByteArray:=⟨#[114,101,100]⟩
def QI:ByteArray:=⟨#[98,108,117,101]⟩
def exN(o:Bool)(l:List Seen):Net:=⟨4,[⟨1,0,⟨5,6⟩,if o then 2 else 0⟩,⟨2,1,⟨4,4⟩,0⟩,⟨2,0,⟨12,12⟩,if o then 0 else 2⟩,⟨3,2,⟨3,3⟩,0⟩],[⟨XB,2,0,12,[1,0]⟩,⟨QI,3,0,24,[3,1,0]⟩],l⟩
def exH:Net:=exN false []
def exK:Net:=exN true []
def exS:Net:=exN true [⟨0,-1⟩,⟨1,15⟩]
def exT:Net:=exN true [⟨0,-1⟩]
theorem x1:rX exH 3=([[3,2],[3,1,0]],0):=by decide +kernel
theorem x2:comesR exH 1=(⟨14,16⟩,1,0):=by decide +kernel
theorem x3:(comesR exK 1).2=(0,0):=by decide +kernel
theorem x4:(comesR exT 0).2=(2,0):=by decide +kernel
theorem x5:DF exK=([],[0,1],0):=by decide +kernel
theorem x6:pT exK=(0,0):=by decide +kernel
theorem x7:pT exH=(0,9):=by decide +kernel
theorem x8:uE exK=([[2],[3,2]],[0,1],0):=by decide +kernel
theorem x9:C4 exH=([],[2],0):=by decide +kernel
theorem x10:w8 exH=(3,1,0):=by decide +kernel
theorem x11:pQ exS=([1],0):=by decide +kernel
theorem x12:pT exS=(0,8):=by decide +kernel
end Go.Am.Room.Tr
namespace Go.Am.Room.Fa
open Go
variable {P:Program}
structure TysP (P:Program):Prop where
 int:P.underlying 3=some (.int .i64)
 u8:P.underlying 5=some (.int .u8)
 str:P.underlying 9=some .string
 rain:P.underlying 22=some (.slice 24)
 span:lJ P 24 [3,3]
 plots:P.underlying 25=some (.slice 71)
 looks:P.underlying 26=some (.slice 175)
 farm:lJ P 28 [22,3,3,24,25,26]
 ints:P.underlying 30=some (.slice 3)
 u8s:P.underlying 34=some (.slice 5)
 plot:lJ P 71 [9,24,3]
 rails:P.underlying 124=some (.slice 301)
 trams:P.underlying 125=some (.slice 303)
 seens:P.underlying 126=some (.slice 306)
 net:lJ P 128 [3,124,125,126]
 look:lJ P 175 [3,3,3]
 rail:lJ P 301 [3,3,24,3]
 tram:lJ P 303 [9,3,3,3,30]
 seen:lJ P 306 [3,3]
theorem aIJ{n:Nat}{cs:List AV}(T:TysP P)(h:Typ P (n+3) 71 cs):∃ s:Plot,mkV P 71 cs=dI s/\s.name.size<9223372036854775808:=by
 obtain⟨e,a,b,rfl,h1,c,d,rfl,h2,c2,d2,rfl,h3,rfl⟩:=uQ T.plot h;obtain⟨x,rfl,hx⟩:=UJ T.str h1;obtain⟨y,rfl⟩:=LM T.int T.span h2;obtain⟨z,rfl,_⟩:=gJ T.int h3;exact⟨⟨x,y,z⟩,e,by simp only[maxLen] at hx;simp only;omega⟩
theorem aHQ{n:Nat}{cs:List AV}(T:TysP P)(h:Typ P (n+2) 24 cs):∃ s:Span,mkV P 24 cs=cG s/\True:=by
 obtain⟨e,a,b,rfl,h1,c,d,rfl,h2,rfl⟩:=uQ T.span h;obtain⟨x,rfl,_⟩:=gJ T.int h1;obtain⟨y,rfl,_⟩:=gJ T.int h2;exact⟨⟨x,y⟩,e,trivial⟩
theorem aFT{n:Nat}{cs:List AV}(T:TysP P)(h:Typ P (n+2) 175 cs):∃ s:rL,mkV P 175 cs=gA s/\True:=by
 obtain⟨e,a,b,rfl,h1,c,d,rfl,h2,c2,d2,rfl,h3,rfl⟩:=uQ T.look h;obtain⟨x,rfl,_⟩:=gJ T.int h1;obtain⟨y,rfl,_⟩:=gJ T.int h2;obtain⟨z,rfl,_⟩:=gJ T.int h3;exact⟨⟨x,y,z⟩,e,trivial⟩
theorem ty_farm{n:Nat}{cs:List AV}(T:TysP P)(h:Typ P (n+5) 28 cs):∃ s:Farm,mkV P 28 cs=encFarm s/\Fits s:=by
 obtain⟨e,a1,b1,rfl,h1,a2,b2,rfl,h2,a3,b3,rfl,h3,a4,b4,rfl,h4,a5,b5,rfl,h5,a6,b6,rfl,h6,rfl⟩:=uQ T.farm h;obtain⟨x1,rfl,⟨l1,_⟩,_⟩:=mG T.rain h1 fun y hy=>aHQ T hy
 obtain⟨x2,rfl,_⟩:=gJ T.int h2;obtain⟨x3,rfl,_⟩:=gJ T.int h3;obtain⟨x4,rfl⟩:=LM T.int T.span h4;obtain⟨x5,rfl,⟨l5,_⟩,q5⟩:=mG T.plots h5 fun y hy=>aIJ T hy
 obtain⟨x6,rfl,⟨l6,_⟩,_⟩:=mG T.looks h6 fun y hy=>aFT T hy
 exact⟨⟨x1,x2,x3,x4,x5,x6⟩,e,⟨l1,l5,l6,q5⟩⟩
theorem aGA{n:Nat}{cs:List AV}(T:TysP P)(h:Typ P (n+3) 301 cs):∃ s:Tr.Rail,mkV P 301 cs=Tr.encRail s/\True:=by
 obtain⟨e,a1,b1,rfl,h1,a2,b2,rfl,h2,a3,b3,rfl,h3,a4,b4,rfl,h4,rfl⟩:=uQ T.rail h;obtain⟨x1,rfl,_⟩:=gJ T.int h1;obtain⟨x2,rfl,_⟩:=gJ T.int h2;obtain⟨x3,rfl⟩:=LM T.int T.span h3;obtain⟨x4,rfl,_⟩:=gJ T.int h4;exact⟨⟨x1,x2,x3,x4⟩,e,trivial⟩
theorem aHY{n:Nat}{cs:List AV}(T:TysP P)(h:Typ P (n+3) 303 cs):∃ s:Tr.Tram,mkV P 303 cs=Tr.encTram s/\(s.name.size<9223372036854775808/\s.path.length<9223372036854775808):=by
 obtain⟨e,a1,b1,rfl,h1,a2,b2,rfl,h2,a3,b3,rfl,h3,a4,b4,rfl,h4,a5,b5,rfl,h5,rfl⟩:=uQ T.tram h;obtain⟨x1,rfl,hx⟩:=UJ T.str h1;obtain⟨x2,rfl,_⟩:=gJ T.int h2;obtain⟨x3,rfl,_⟩:=gJ T.int h3;obtain⟨x4,rfl,_⟩:=gJ T.int h4;obtain⟨x5,_,rfl,l5⟩:=aG9 T.int T.ints h5;exact⟨⟨x1,x2,x3,x4,x5⟩,e,by simp only[maxLen] at hx;simp only;omega,l5⟩
theorem aE4{n:Nat}{cs:List AV}(T:TysP P)(h:Typ P (n+2) 306 cs):∃ s:Tr.Seen,mkV P 306 cs=Tr.encSeen s/\True:=by
 obtain⟨e,a,b,rfl,h1,c,d,rfl,h2,rfl⟩:=uQ T.seen h;obtain⟨x,rfl,_⟩:=gJ T.int h1;obtain⟨y,rfl,_⟩:=gJ T.int h2;exact⟨⟨x,y⟩,e,trivial⟩
theorem ty_net{n:Nat}{cs:List AV}(T:TysP P)(h:Typ P (n+5) 128 cs):∃ s:Tr.Net,mkV P 128 cs=Tr.encNet s/\Tr.Fits s:=by
 obtain⟨e,a1,b1,rfl,h1,a2,b2,rfl,h2,a3,b3,rfl,h3,a4,b4,rfl,h4,rfl⟩:=uQ T.net h;obtain⟨x1,rfl,_⟩:=gJ T.int h1;obtain⟨x2,rfl,⟨l2,_⟩,_⟩:=mG T.rails h2 fun y hy=>aGA T hy
 obtain⟨x3,rfl,⟨l3,_⟩,q3⟩:=mG T.trams h3 fun y hy=>aHY T hy
 obtain⟨x4,rfl,⟨l4,_⟩,_⟩:=mG T.seens h4 fun y hy=>aE4 T hy
 exact⟨⟨x1,x2,x3,x4⟩,e,⟨l2,l3,l4,fun t ht=>(q3 t ht).1,fun t ht=>(q3 t ht).2⟩⟩
theorem ty_u8s{n:Nat}{cs:List AV}(T:TysP P)(h:Typ P (n+2) 34 cs):∃ l:List Int,mkV P 34 cs=u8s l/\aJN l:=by
 obtain⟨l,e,h1,h2⟩:=aLB T.u8 T.u8s h;exact⟨l,e,h1,h2⟩
end Go.Am.Room.Fa
namespace Go.Am.Room.Tr
structure RailOk (v:Net) (r:Rail):Prop where
 a:0<=r.a/\r.a<v.stations
 b:0<=r.b/\r.b<v.stations
 ne:r.a≠r.b
 mins:1<=r.mins.lo/\r.mins.lo<=r.mins.hi/\r.mins.hi<=20/\r.mins.hi<=r.mins.lo+1
 shut:0<=r.shut/\r.shut<=2
structure Vd (v:Net):Prop where
 st:2<=v.stations/\v.stations<=5
 nra:v.rails.length<=5
 ra:∀ r∈v.rails,RailOk v r
 ntr:v.trams.length<=3
 tr:∀ i (h:i<v.trams.length),k6 v i v.trams[i]=0
 nse:v.seen.length<=3
 se:∀ x∈v.seen,(0<=x.tram/\x.tram<v.trams.length)/\-1<=x.minute/\x.minute<=400
theorem rG{v:Net}{s:Int}:pC v s=true↔0<=s/\s<v.stations:=by
 rw[pC,c9];omega
theorem KC{v:Net}{r:Rail}:dN v r=0↔RailOk v r:=by
 constructor
 ·intro h;unfold dN at h;split at h
  ·omega
  rename_i h1;split at h
  ·omega
  rename_i h2;split at h
  ·omega
  rename_i h3;split at h
  ·omega
  rename_i h4;rw[not_or,Bool.not_eq_false,Bool.not_eq_false,rG,rG] at h1;rw[not_or,Bool.not_eq_false,c9] at h3;rw[not_or,Decidable.not_not] at h4;have:=sY h4.1;exact⟨h1.1,h1.2,h2,by omega,h3.2⟩
 ·intro h;have h1:=h.mins;have e:=aHM (show 1<=r.mins.lo/\r.mins.lo<=r.mins.hi/\r.mins.hi<=20 by omega);rw[dN,if_neg (by simp[rG.2 h.a,rG.2 h.b]),if_neg h.ne,if_neg (by simp[e,c9.2 h.shut]),if_neg (by simp[e];omega)]
theorem vd_of_check{v:Net}(h:(check v).2.2=0):Vd v:=by
 unfold check at h;split at h
 ·simp at h
 rename_i c1;unfold gD at h;split at h
 ·simp at h
 rename_i c2;split at h
 ·rename_i i e he;exact absurd h (fN he)
 rename_i f2;unfold jE at h;split at h
 ·simp at h
 rename_i c3;split at h
 ·rename_i i e he;exact absurd h (fN he)
 rename_i f3;unfold jF at h;split at h
 ·simp at h
 rename_i c4;split at h
 ·rename_i i e he;exact absurd h (fN he)
 rename_i f4;rw[Bool.not_eq_false,c9] at c1;refine⟨c1,by omega,?_,by omega,fun i hi=>by simpa using iY f3 i hi,by omega,?_⟩
 ·intro x hx;obtain⟨k,hk,rfl⟩:=List.getElem_of_mem hx;exact KC.1 (iY f2 k hk)
 ·intro x hx;obtain⟨k,hk,rfl⟩:=List.getElem_of_mem hx;have:=iY f4 k hk;unfold lO at this;split at this
  ·omega
  rename_i hi;split at this
  ·omega
  rename_i hj;rw[Bool.not_eq_false,c9] at hi hj;omega
structure TramOk (v:Net) (t:Tram):Prop where
 frm:0<=t.frm/\t.frm<v.stations
 leaves:0<=t.leaves/\t.leaves<=60
 due:0<=t.due/\t.due<=400
 len:1<=t.path.length/\t.path.length<=4
 path:∀ r∈t.path,0<=r/\r<v.rails.length
 leads:jI v t.frm t.path=true
theorem aDA{v:Net}{t:Tram}(h:iO v t=0):TramOk v t:=by
 unfold iO at h;split at h
 ·omega
 rename_i h1;split at h
 ·omega
 rename_i h2;split at h
 ·omega
 rename_i h3;split at h
 ·omega
 rename_i h4;split at h
 ·omega
 rename_i h5;rw[Bool.not_eq_false] at h1 h3 h4 h5;rw[not_or,Bool.not_eq_false,Bool.not_eq_false,c9,c9] at h2;rw[rG] at h1;rw[c9] at h3;rw[List.all_eq_true] at h4;exact⟨h1,h2.1,h2.2,by omega,fun r hr=>by have:=c9.1 (h4 r hr);omega,h5⟩
theorem DN{v:Net}(h:Vd v){i:Nat}(hi:i<v.trams.length):TramOk v v.trams[i]:=by
 have:=h.tr i hi;unfold k6 at this;split at this
 ·exact aDA this
 ·rename_i h0;exact absurd this h0
theorem EW{v:Net}{r:Nat}(h:r<v.rails.length):eW v (r:Int)=v.rails[r]:=by simp[eW,h]
end Go.Am.Room.Tr
set_option maxRecDepth 4000
namespace Go.Am.Room.Tr
def bL:=zz @encNet_eq (zz @netCells_eq (zz @encRail_eq (zz @encTram_eq (zz @encSeen_eq (zz @aJ (zz @S_mapRail (zz @S_mapTram (@S_mapSeen))))))))
theorem sA(v:Net)(s:Int)(hst:2<=v.stations/\v.stations<=5):cV T 309 [encNet v,.int .i64 s] (.bool (pC v s)):=by
 refine aR (af:=aAT) rfl (by simp[aAT]) dd ?_;have hw:IntKind.i64.wrap (v.stations-1)=v.stations-1:=bM ⟨by omega,by omega⟩;try simp only[↓QA,QB,seval,bL,aAT,hw]
 (refine aD (fQ s 0 (v.stations-1)) rfl dd ?_;try simp only[↓QA,QB,seval,bL,pC])
theorem Z9(r:Rail)(s:Int):cV T 415 [encRail r,.int .i64 s] (.int .i64 (dP r s)):=by
 refine aR (af:=aD3) rfl (by simp[aD3]) dd ?_;try simp only[↓QA,QB,seval,bL,aD3]
 cases h1:(s==r.a)
 ·have h1':s≠r.a:=by simpa using h1
  try simp only[↓QA,QB,seval,bL,h1]
  cases h2:(s==r.b)
  ·have h2':s≠r.b:=by simpa using h2
   try simp only[↓QA,QB,seval,bL,h2]
   simp[dP,h1',h2']
  ·have h2':s=r.b:=by simpa using h2
   try simp only[↓QA,QB,seval,bL,h2]
   simp only[dP,if_neg h1',if_pos h2']
 ·have h1':s=r.a:=by simpa using h1
  try simp only[↓QA,QB,seval,bL,h1]
  simp only[dP,if_pos h1']
theorem XG(v:Net)(r:Rail)(hst:2<=v.stations/\v.stations<=5):cV T 171 [encNet v,encRail r] (.int .i64 (dN v r)):=by
 refine aR (af:=aBA) rfl (by simp[aBA]) dd ?_;try simp only[↓QA,QB,seval,bL,aBA]
 (refine aD (sA v r.a hst) rfl dd ?_;try simp only[↓QA,QB,seval,bL])
 cases h1:pC v r.a
 ·try simp only[↓QA,QB,seval,bL]
  simp[dN,h1]
 ·try simp only[↓QA,QB,seval,bL]
  (refine aD (sA v r.b hst) rfl dd ?_;try simp only[↓QA,QB,seval,bL])
  cases h2:pC v r.b
  ·try simp only[↓QA,QB,seval,bL]
   simp[dN,h2]
  ·try simp only[↓QA,QB,seval,bL]
   cases h3:(r.a==r.b)
   ·have h3':r.a≠r.b:=by simpa using h3
    try simp only[↓QA,QB,seval,bL,h3]
    (refine aD (xD r.mins 1 20) rfl dd ?_;try simp only[↓QA,QB,seval,bL])
    cases h4:(fW r.mins 1 20==7)
    ·have h4':fW r.mins 1 20≠7:=by simpa using h4
     try simp only[↓QA,QB,seval,bL,h4]
     (refine aD (fQ r.shut 0 2) rfl dd ?_;try simp only[↓QA,QB,seval,bL])
     cases h5:inR r.shut 0 2
     ·try simp only[↓QA,QB,seval,bL]
      simp[dN,h1,h2,h3',h5]
     ·cases h6:(fW r.mins 1 20==0)
      ·have h6':fW r.mins 1 20≠0:=by simpa using h6
       try simp only[↓QA,QB,seval,bL,h6]
       simp[dN,h1,h2,h3',h4',h5,h6']
      ·have h6':fW r.mins 1 20=0:=by simpa using h6
       have hb:=sY h6';have hw:IntKind.i64.wrap (r.mins.lo+1)=r.mins.lo+1:=bM ⟨by omega,by omega⟩;cases h7:decide (r.mins.lo+1<r.mins.hi)
       ·have h7':¬r.mins.lo+1<r.mins.hi:=by simpa using h7
        try simp only[↓QA,QB,seval,bL,h6,hw,h7]
        simp[dN,h1,h2,h3',h5,h6',h7']
       ·have h7':r.mins.lo+1<r.mins.hi:=by simpa using h7
        try simp only[↓QA,QB,seval,bL,h6,hw,h7]
        simp[dN,h1,h2,h3',h5,h6',h7']
    ·have h4':fW r.mins 1 20=7:=by simpa using h4
     try simp only[↓QA,QB,seval,bL,h4]
     simp[dN,h1,h2,h3',h4']
   ·have h3':r.a=r.b:=by simpa using h3
    try simp only[↓QA,QB,seval,bL,h3]
    rw[dN,if_neg (by simp[h1,h2]),if_pos h3']
theorem RU{v:Net}{p:List Int}{k:Nat}(hk:k<p.length)(s:Int)(met:List Int):lN v (p.drop k) s met=if dP (eW v p[k]) s<0\/met.contains (dP (eW v p[k]) s)=true\/(dP (eW v p[k]) s=0/\k+1<p.length) then false
  else lN v (p.drop (k+1)) (dP (eW v p[k]) s) (met++[dP (eW v p[k]) s]):=by
 rw[List.drop_eq_getElem_cons hk,lN];have:p.drop (k+1)≠[]↔k+1<p.length:=by
  rw[Ne,List.drop_eq_nil_iff];omega
 simp only[this]
theorem IK(v:Net)(s:Int)(p:List Int)(hp:∀ r∈p,0<=r/\r<v.rails.length)(hl:p.length<9223372036854775808):cV T 310 [encNet v,.int .i64 s,ints p] (.bool (jI v s p)):=by
 refine aR (af:=aBZ) rfl (by simp[aBZ]) dd ?_
 (repeat (first|simp only[↓QA,QB,seval,bL,aBZ]|refine rd0 rfl ?_))
 ((first|refine aD (fQ p.length 1 4) rfl dd ?_|refine aG (fQ p.length 1 4) rfl dd ?_);(repeat (first|simp only[↓QA,QB,seval,bL]|refine rd0 rfl ?_)))
 cases h1:inR p.length 1 4
 ·(repeat (first|simp only[↓QA,QB,seval,bL]|refine rd0 rfl ?_))
  simp[jI,h1]
 ·have hpl:=c9.1 h1;cases h2:(s==0)
  case' true =>
   have h2':s=0:=by simpa using h2
   (repeat (first|simp only[↓QA,QB,seval,bL,h2]|refine rd0 rfl ?_))
   simp[jI,h1,h2']
  have h2':s≠0:=by simpa using h2
  obtain⟨B,hB⟩:∃ B,jI v s p=B:=⟨_,rfl⟩;have hB2:lN v p s [s]=B:=by rw[<-hB,jI,if_neg (by simp[h1,h2'])]
  rw[hB]
  (repeat (first|simp only[↓QA,QB,seval,bL,h2]|refine rd0 rfl ?_))
  refine jN 7 1 [.int .i64 s] rfl ?_;refine bC (S:=Nat×Int×List Int×Bool) (0,s,[s],false) (fun a=>a.1<=p.length/\a.2.2.1.length=a.1+1/\lN v (p.drop a.1) a.2.1 a.2.2.1=B) (fun a=>p.length-a.1)
   (fun a=>[(1,.int .i64 a.2.1),(2,ints p),(3,.ptr 0 0),(7,.lit (a.2.2.1.map (.int .i64)) false (some 1)),(8,.int .i64 a.1)]) (fun a=>[.cells (netCells v),.tok 1 (a.1+1) a.2.2.2]) ⟨by simp,by simp,by simpa using hB2⟩ (by simp[netCells,ints]) ?_ fun a ha=>?_
  ·try simp only[aB,QE,seval,bL]
   try simp
  ·obtain⟨k,c,met,ex⟩:=a;obtain⟨hk,hm,hgo⟩:=ha;simp only at hk hm hgo
   (repeat (first|simp only[↓QA,QB,seval,bL,aAX]|refine rd0 rfl ?_))
   refine aE (fun h=>?_) fun h=>?_
   ·have hk1:k<p.length:=by simpa using h
    have hw:=bD hk1 (by omega);rw[RU hk1] at hgo;have hpr:=hp _ (List.getElem_mem hk1);obtain⟨R,hR⟩:∃ R:Nat,p[k]=(R:Int):=⟨p[k].toNat,by omega⟩;rw[hR] at hpr hgo;have hRl:R<v.rails.length:=by omega
    rw[EW hRl] at hgo;obtain⟨z,hz⟩:∃ z,v.rails[R]=z:=⟨_,rfl⟩;rw[hz] at hgo;have hov:=Z9 z c;obtain⟨o,ho⟩:∃ o,dP z c=o:=⟨_,rfl⟩;rw[ho] at hgo hov;have hap:=fun (b0:ABlk) (τ:St)=>kV (σ:=b0::.tok 1 (k+1) ex::τ) (l:=met) (a:=o) (ex:=ex) (t:=1) (by omega) (by rw[hm];rfl)
    rw[hm] at hap
    (repeat (first|simp only[↓QA,QB,seval,bL,hk1,hR,hRl,hz]|refine rd0 rfl ?_))
    ((first|refine aD (hov) rfl dd ?_|refine aG (hov) rfl dd ?_);(repeat (first|simp only[↓QA,QB,seval,bL,hk1,hR,hRl,hz]|refine rd0 rfl ?_)))
    cases q1:decide (o<0)
    ·have q1':¬o<0:=by simpa using q1
     (repeat (first|simp only[↓QA,QB,seval,bL,q1]|refine rd0 rfl ?_))
     ((first|refine yE (CT met o (by omega)) (by try simp only[QS,QC,seval,bL]) trivial ?_|refine AS (CT met o (by omega)) (by try simp only[QS,QC,seval,bL]) trivial ?_);(repeat (first|simp only[↓QA,QB,seval,bL,q1]|refine rd0 rfl ?_)))
     cases q2:met.contains o
     ·cases q3:(o==0)
      ·have q3':o≠0:=by simpa using q3
       rw[if_neg (by rw[q2];simp[q1',q3'])] at hgo
       (repeat (first|simp only[↓QA,QB,seval,bL,q3,hap,hw]|refine rd0 rfl ?_))
       refine⟨(k+1,o,met++[o],true),⟨by simp only;omega,by simp[hm],hgo⟩,by simp only;omega,?_⟩;try simp only[aB,QE,seval,bL,hw,lB,List.map_append,List.map_cons,List.map_nil]
       try simp[aF]
      ·have q3':o=0:=by simpa using q3
       cases q4:decide (((k+1:Nat):Int)<(p.length:Int))
       ·have q4':¬k+1<p.length:=by have:=of_decide_eq_false q4;omega
        rw[if_neg (by rw[q2];simp[q1',q4'])] at hgo
        (repeat (first|simp only[↓QA,QB,seval,bL,q3,hap,hw,q4]|refine rd0 rfl ?_))
        refine⟨(k+1,o,met++[o],true),⟨by simp only;omega,by simp[hm],hgo⟩,by simp only;omega,?_⟩;try simp only[aB,QE,seval,bL,hw,lB,List.map_append,List.map_cons,List.map_nil]
        try simp[aF]
       ·have q4':k+1<p.length:=by
         have:=of_decide_eq_true q4;omega
        rw[if_pos (.inr (.inr ⟨q3',q4'⟩))] at hgo
        (repeat (first|simp only[↓QA,QB,seval,bL,q3,hw,q4,<-hgo]|refine rd0 rfl ?_))
     ·rw[if_pos (.inr (.inl q2))] at hgo
      (repeat (first|simp only[↓QA,QB,seval,bL,<-hgo]|refine rd0 rfl ?_))
    ·have q1':o<0:=by simpa using q1
     rw[if_pos (.inl q1')] at hgo
     (repeat (first|simp only[↓QA,QB,seval,bL,q1,<-hgo]|refine rd0 rfl ?_))
   ·have hk1:k=p.length:=by simp at h;omega
    rw[hk1,List.drop_length,lN] at hgo
    (repeat (first|simp only[↓QA,QB,seval,bL,hgo]|refine rd0 rfl ?_))
end Go.Am.Room.Tr
namespace Go.Am.Room.Tr
def aW:=zz @encNet_eq (zz @netCells_eq (zz @encRail_eq (zz @encTram_eq (zz @encSeen_eq (zz @aJ (zz @S_mapRail (zz @S_mapTram (@S_mapSeen))))))))
def enc3(x:Int×Int×Int):AV:=.tuple [.int .i64 x.1,.int .i64 x.2.1,.int .i64 x.2.2]
theorem aBR(v:Net)(t:Tram)(hst:2<=v.stations/\v.stations<=5)(hnr:v.rails.length<=5):cV T 172 [encNet v,encTram t] (.int .i64 (iO v t)):=by
 refine aR (af:=aAP) rfl (by simp[aAP]) dd ?_
 (repeat (first|simp only[↓QA,QB,reduceLT,reduceIte,reduceEqDiff,reduceAdd,reduceLeDiff,reduceMul,Nat.reduceBEq,aW,aAP]|refine rd0 rfl ?_))
 ((first|refine aD (sA v t.frm hst) rfl dd ?_|refine aG (sA v t.frm hst) rfl dd ?_);(repeat (first|simp only[↓QA,QB,reduceLT,reduceIte,reduceEqDiff,reduceAdd,reduceLeDiff,reduceMul,Nat.reduceBEq,aW]|refine rd0 rfl ?_)))
 cases h1:pC v t.frm
 ·(repeat (first|simp only[↓QA,QB,reduceLT,reduceIte,reduceEqDiff,reduceAdd,reduceLeDiff,reduceMul,Nat.reduceBEq,aW]|refine rd0 rfl ?_))
  simp[iO,h1]
 ·(repeat (first|simp only[↓QA,QB,reduceLT,reduceIte,reduceEqDiff,reduceAdd,reduceLeDiff,reduceMul,Nat.reduceBEq,aW]|refine rd0 rfl ?_))
  ((first|refine aD (fQ t.leaves 0 60) rfl dd ?_|refine aG (fQ t.leaves 0 60) rfl dd ?_);(repeat (first|simp only[↓QA,QB,reduceLT,reduceIte,reduceEqDiff,reduceAdd,reduceLeDiff,reduceMul,Nat.reduceBEq,aW]|refine rd0 rfl ?_)))
  cases h2:inR t.leaves 0 60
  ·(repeat (first|simp only[↓QA,QB,reduceLT,reduceIte,reduceEqDiff,reduceAdd,reduceLeDiff,reduceMul,Nat.reduceBEq,aW]|refine rd0 rfl ?_))
   simp[iO,h1,h2]
  ·(repeat (first|simp only[↓QA,QB,reduceLT,reduceIte,reduceEqDiff,reduceAdd,reduceLeDiff,reduceMul,Nat.reduceBEq,aW]|refine rd0 rfl ?_))
   ((first|refine aD (fQ t.due 0 400) rfl dd ?_|refine aG (fQ t.due 0 400) rfl dd ?_);(repeat (first|simp only[↓QA,QB,reduceLT,reduceIte,reduceEqDiff,reduceAdd,reduceLeDiff,reduceMul,Nat.reduceBEq,aW]|refine rd0 rfl ?_)))
   cases h3:inR t.due 0 400
   ·(repeat (first|simp only[↓QA,QB,reduceLT,reduceIte,reduceEqDiff,reduceAdd,reduceLeDiff,reduceMul,Nat.reduceBEq,aW]|refine rd0 rfl ?_))
    simp[iO,h1,h2,h3]
   ·(repeat (first|simp only[↓QA,QB,reduceLT,reduceIte,reduceEqDiff,reduceAdd,reduceLeDiff,reduceMul,Nat.reduceBEq,aW]|refine rd0 rfl ?_))
    ((first|refine aD (fQ t.path.length 1 4) rfl dd ?_|refine aG (fQ t.path.length 1 4) rfl dd ?_);(repeat (first|simp only[↓QA,QB,reduceLT,reduceIte,reduceEqDiff,reduceAdd,reduceLeDiff,reduceMul,Nat.reduceBEq,aW]|refine rd0 rfl ?_)))
    cases h4:inR t.path.length 1 4
    ·(repeat (first|simp only[↓QA,QB,reduceLT,reduceIte,reduceEqDiff,reduceAdd,reduceLeDiff,reduceMul,Nat.reduceBEq,aW]|refine rd0 rfl ?_))
     simp[iO,h1,h2,h3,h4]
    ·have hpl:=c9.1 h4;have hwl:IntKind.i64.wrap ((v.rails.length:Int)-1)=(v.rails.length:Int)-1:=bM ⟨by omega,by omega⟩;obtain⟨q,hq⟩:∃ q:Int->Bool,(fun r=>inR r 0 ((v.rails.length:Int)-1))=q:=⟨_,rfl⟩;have hqr:∀ r,inR r 0 ((v.rails.length:Int)-1)=q r:=fun r=>by rw[<-hq]
     have hE:iO v t=if t.path.all q=false then 4 else if jI v t.frm t.path=false then 2 else 0:=by
      rw[iO,if_neg (by simp[h1]),if_neg (by simp[h2,h3]),if_neg (by simp[h4]),hq]
     rw[hE]
     (repeat (first|simp only[↓QA,QB,reduceLT,reduceIte,reduceEqDiff,reduceAdd,reduceLeDiff,reduceMul,Nat.reduceBEq,aW]|refine rd0 rfl ?_))
     refine bC (S:=Nat) 0 (fun k=>k<=t.path.length/\(t.path.drop k).all q=t.path.all q) (fun k=>t.path.length-k)
      (fun k=>[(2,.ptr 0 0),(3,.ptr 1 0),(5,.int .i64 k)]) (fun _=>[.cells (netCells v),.cells [.str t.name,.int .i64 t.frm,.int .i64 t.leaves,.int .i64 t.due,ints t.path]]) ⟨by simp,by simp⟩ (by simp[netCells,ints]) ?_ fun k hk=>?_
     ·try simp only[aB,QE,reduceLT,reduceIte,reduceEqDiff,reduceAdd,reduceLeDiff,reduceMul,Nat.reduceBEq,aW]
      try simp
     ·obtain⟨hk,hb⟩:=hk
      (repeat (first|simp only[↓QA,QB,reduceLT,reduceIte,reduceEqDiff,reduceAdd,reduceLeDiff,reduceMul,Nat.reduceBEq,aW,aAI]|refine rd0 rfl ?_))
      refine aE (fun h=>?_) fun h=>?_
      ·have hk1:k<t.path.length:=by simpa using h
       have hw:=bD hk1 (by omega);rw[List.drop_eq_getElem_cons hk1,List.all_cons] at hb;obtain⟨r,hr⟩:∃ r,t.path[k]=r:=⟨_,rfl⟩;rw[hr] at hb;have hin:=fQ r 0 ((v.rails.length:Int)-1);rw[hqr r] at hin
       (repeat (first|simp only[↓QA,QB,reduceLT,reduceIte,reduceEqDiff,reduceAdd,reduceLeDiff,reduceMul,Nat.reduceBEq,aW,hk1,hr,hwl]|refine rd0 rfl ?_))
       ((first|refine aD (hin) rfl dd ?_|refine aG (hin) rfl dd ?_);(repeat (first|simp only[↓QA,QB,reduceLT,reduceIte,reduceEqDiff,reduceAdd,reduceLeDiff,reduceMul,Nat.reduceBEq,aW,hk1,hr,hwl]|refine rd0 rfl ?_)))
       cases h5:q r
       ·rw[h5,Bool.false_and] at hb
        (repeat (first|simp only[↓QA,QB,reduceLT,reduceIte,reduceEqDiff,reduceAdd,reduceLeDiff,reduceMul,Nat.reduceBEq,aW,<-hb]|refine rd0 rfl ?_))
       ·rw[h5,Bool.true_and] at hb
        (repeat (first|simp only[↓QA,QB,reduceLT,reduceIte,reduceEqDiff,reduceAdd,reduceLeDiff,reduceMul,Nat.reduceBEq,aW,hw]|refine rd0 rfl ?_))
        refine⟨k+1,⟨by omega,hb⟩,by omega,?_⟩;try simp only[aB,QE,reduceLT,reduceIte,reduceEqDiff,reduceAdd,reduceLeDiff,reduceMul,Nat.reduceBEq,aW,hw]
        try simp[aF]
      ·have hk1:k=t.path.length:=by simp at h;omega
       rw[hk1,List.drop_length,List.all_nil] at hb;have hp:∀ r∈t.path,0<=r/\r<v.rails.length:=fun r hr=>by
        have:=List.all_eq_true.1 hb.symm r hr;rw[<-hqr,c9] at this;omega
       (repeat (first|simp only[↓QA,QB,reduceLT,reduceIte,reduceEqDiff,reduceAdd,reduceLeDiff,reduceMul,Nat.reduceBEq,aW]|refine rd0 rfl ?_))
       ((first|refine aD (IK v t.frm t.path hp (by omega)) rfl dd ?_|refine aG (IK v t.frm t.path hp (by omega)) rfl dd ?_);(repeat (first|simp only[↓QA,QB,reduceLT,reduceIte,reduceEqDiff,reduceAdd,reduceLeDiff,reduceMul,Nat.reduceBEq,aW]|refine rd0 rfl ?_)))
       cases h6:jI v t.frm t.path
       ·(repeat (first|simp only[↓QA,QB,reduceLT,reduceIte,reduceEqDiff,reduceAdd,reduceLeDiff,reduceMul,Nat.reduceBEq,aW,<-hb]|refine rd0 rfl ?_))
        rfl
       ·(repeat (first|simp only[↓QA,QB,reduceLT,reduceIte,reduceEqDiff,reduceAdd,reduceLeDiff,reduceMul,Nat.reduceBEq,aW,<-hb]|refine rd0 rfl ?_))
        rfl
theorem zR{k:Nat}{ns:List ByteArray}{s:ByteArray}{b:ABlk}{ex:Bool}{τ:St}(hk:ns.length=k)(hn:k<16):dK 1 16 (b::.tok 1 k ex::τ) (.lit (ns.map .str) false (some 1)) (.lit [.str s] true none)=some (.lit ((ns++[s]).map .str) false (some 1),b::.tok 1 (k+1) true::τ):=by
 rw[xO (ex:=ex) ⟨pD 1 _ ns (fun x=>aED _),by simp[aM,AV.cells,AV.cell],by simp[room,hk];omega,by simp[room,hk];omega⟩ (by simp) (by simp[hk])];simp[hk]
theorem C0{v:Net}{k:Nat}(h:k<v.trams.length):(v.trams.take (k+1)).map Tram.name=(v.trams.take k).map Tram.name++[v.trams[k].name]:=by
 rw[List.take_succ_eq_append_getElem h,List.map_append];rfl
theorem refcheck_ok(v:Net)(h:Fits v):cV T 45 [encNet v] (enc3 (check v)):=by
 refine aR (af:=a45) rfl (by simp[a45]) dd ?_;have hfr:=h.rails;have hft:=h.trams;have hfs:=h.seen
 (repeat (first|simp only[↓QA,QB,seval,aW,a45]|refine rd0 rfl ?_))
 ((first|refine aD (fQ v.stations 2 5) rfl dd ?_|refine aG (fQ v.stations 2 5) rfl dd ?_);(repeat (first|simp only[↓QA,QB,seval,aW]|refine rd0 rfl ?_)))
 cases h1:inR v.stations 2 5
 ·(repeat (first|simp only[↓QA,QB,seval,aW]|refine rd0 rfl ?_))
  simp[check,h1,enc3]
 ·have hst:=c9.1 h1;have hc:check v=gD v:=by simp only[check,h1,Bool.true_eq_false,if_false]
  rw[hc]
  (repeat (first|simp only[↓QA,QB,seval,aW]|refine rd0 rfl ?_))
  cases h2:decide ((5:Int)<(v.rails.length:Int))
  case' true =>
   have h2':5<v.rails.length:=by first|(have:=of_decide_eq_false h2;omega)|(have:=of_decide_eq_true h2;omega)
   (repeat (first|simp only[↓QA,QB,seval,aW]|refine rd0 rfl ?_))
   simp[gD,h2',enc3]
  have h2':¬5<v.rails.length:=by first|(have:=of_decide_eq_false h2;omega)|(have:=of_decide_eq_true h2;omega)
  have hc:gD v=match aU (fun _ r=>dN v r) v.rails 0 with|some (i,e)=>(2,(i:Int),e)|none=>jE v:=by simp only[gD,h2',if_false];try rfl
  rw[hc]
  (repeat (first|simp only[↓QA,QB,seval,aW]|refine rd0 rfl ?_))
  refine bC (S:=Nat) 0 (fun k=>k<=v.rails.length/\aU (fun _ r=>dN v r) (v.rails.drop k) k=aU (fun _ r=>dN v r) v.rails 0) (fun k=>v.rails.length-k)
   (fun k=>[(1,.ptr 0 0),(5,.int .i64 k)]) (fun _=>[.cells (netCells v)]) ⟨Nat.zero_le _,by simp⟩ (by simp[netCells,ints]) ?_ fun k hs=>?_
  ·try simp only[aB,QE,seval,aW]
   try simp
  ·obtain⟨hk,hb⟩:=hs
   (repeat (first|simp only[↓QA,QB,seval,aW,aI0]|refine rd0 rfl ?_))
   refine aE (fun hd=>?_) fun hd=>?_
   ·have hk1:k<v.rails.length:=by simpa using hd
    rw[eN hk1] at hb;have hw:=bD hk1 hfr;obtain⟨z,hz⟩:∃ z,v.rails[k]=z:=⟨_,rfl⟩;rw[hz] at hb;have hra:=XG v z hst;obtain⟨E,hE⟩:∃ E,dN v z=E:=⟨_,rfl⟩;rw[hE] at hb hra
    (repeat (first|simp only[↓QA,QB,seval,aW,hk1,hz]|refine rd0 rfl ?_))
    ((first|refine aD (hra) rfl dd ?_|refine aG (hra) rfl dd ?_);(repeat (first|simp only[↓QA,QB,seval,aW,hk1,hz]|refine rd0 rfl ?_)))
    cases hf:(E==0)
    ·have hf':E≠0:=by simpa using hf
     rw[if_neg hf'] at hb;rw[<-hb]
     (repeat (first|simp only[↓QA,QB,seval,aW,hf]|refine rd0 rfl ?_))
     rfl
    ·have hf':E=0:=by simpa using hf
     rw[if_pos hf'] at hb
     (repeat (first|simp only[↓QA,QB,seval,aW,hf,hw]|refine rd0 rfl ?_))
     refine⟨k+1,⟨by omega,hb⟩,by omega,?_⟩;try simp only[aB,QE,seval,aW,hw]
     try simp[aF]
   ·have hk1:k=v.rails.length:=by simp at hd;omega
    rw[fC hk1] at hb;rw[<-hb]
    (repeat (first|simp only[↓QA,QB,seval,aW]|refine rd0 rfl ?_))
    cases h6:decide ((3:Int)<(v.trams.length:Int))
    case' true =>
     have h6':3<v.trams.length:=by first|(have:=of_decide_eq_false h6;omega)|(have:=of_decide_eq_true h6;omega)
     (repeat (first|simp only[↓QA,QB,seval,aW]|refine rd0 rfl ?_))
     simp[jE,h6',enc3]
    have h6':¬3<v.trams.length:=by first|(have:=of_decide_eq_false h6;omega)|(have:=of_decide_eq_true h6;omega)
    have hc:jE v=match aU (k6 v) v.trams 0 with|some (i,e)=>(3,(i:Int),e)|none=>jF v:=by simp only[jE,h6',if_false];try rfl
    rw[hc]
    (repeat (first|simp only[↓QA,QB,seval,aW]|refine rd0 rfl ?_))
    refine jN 7 1 [] rfl ?_;refine bC (S:=Nat×Bool) (0,false) (fun s=>s.1<=v.trams.length/\aU (k6 v) (v.trams.drop s.1) s.1=aU (k6 v) v.trams 0) (fun s=>v.trams.length-s.1)
     (fun s=>[(1,.ptr 0 0),(7,.lit (((v.trams.take s.1).map Tram.name).map .str) false (some 1)),(8,.int .i64 s.1)]) (fun s=>[.cells (netCells v),.tok 1 s.1 s.2]) ⟨Nat.zero_le _,by simp⟩ (by simp[netCells,ints]) ?_ fun s hs=>?_
    ·try simp only[aB,QE,seval,aW]
     try simp
    ·obtain⟨k,ex⟩:=s;obtain⟨hk,hb⟩:=hs;simp only at hk hb;have hlen:((v.trams.take k).map Tram.name).length=k:=by simp[hk]
     (repeat (first|simp only[↓QA,QB,seval,aW,aJU]|refine rd0 rfl ?_))
     refine aE (fun hd=>?_) fun hd=>?_
     ·have hk1:k<v.trams.length:=by simpa using hd
      rw[eN hk1] at hb;have hw:=bD hk1 hft;have hap:=fun (τ:St)=>zR (k:=k) (ns:=(v.trams.take k).map Tram.name) (s:=v.trams[k].name) (b:=.cells (netCells v)) (ex:=ex) (τ:=τ) hlen (by omega)
      simp only[netCells_eq] at hap;have hset:k6 v k v.trams[k]=if fresh v.trams[k].name ((v.trams.take k).map Tram.name)=0 then iO v v.trams[k] else fresh v.trams[k].name ((v.trams.take k).map Tram.name):=rfl
      have hfre:=MW v.trams[k].name ((v.trams.take k).map Tram.name) (h.names _ (List.getElem_mem hk1)) (by rw[hlen];omega);have htn:=C0 hk1;obtain⟨p,hpe⟩:∃ p,v.trams[k]=p:=⟨_,rfl⟩;rw[hpe] at hset hap hb htn hfre;obtain⟨F,hF⟩:∃ F,fresh p.name ((v.trams.take k).map Tram.name)=F:=⟨_,rfl⟩;rw[hF] at hset hfre;have htr:=aBR v p hst (by omega);obtain⟨E,hE⟩:∃ E,iO v p=E:=⟨_,rfl⟩;rw[hE] at htr hset
      (repeat (first|simp only[↓QA,QB,seval,aW,hk1,hpe]|refine rd0 rfl ?_))
      ((first|refine yE (hfre) (by try simp only[QS,QC,seval,aW]) trivial ?_|refine AS (hfre) (by try simp only[QS,QC,seval,aW]) trivial ?_);(repeat (first|simp only[↓QA,QB,seval,aW,hk1,hpe,hap]|refine rd0 rfl ?_)))
      cases hf:(F==0)
      ·have hf':F≠0:=by simpa using hf
       rw[if_neg hf'] at hset;rw[hset,if_neg hf'] at hb;rw[<-hb]
       (repeat (first|simp only[↓QA,QB,seval,aW,hf]|refine rd0 rfl ?_))
       rfl
      ·have hf':F=0:=by simpa using hf
       rw[if_pos hf'] at hset;rw[hset] at hb
       (repeat (first|simp only[↓QA,QB,seval,aW,hf,hk1,hpe]|refine rd0 rfl ?_))
       ((first|refine aD (htr) rfl dd ?_|refine aG (htr) rfl dd ?_);(repeat (first|simp only[↓QA,QB,seval,aW,hk1,hpe]|refine rd0 rfl ?_)))
       cases h9:(E==0)
       ·have h9':E≠0:=by simpa using h9
        rw[if_neg h9'] at hb
        (repeat (first|simp only[↓QA,QB,seval,aW,h9]|refine rd0 rfl ?_))
        rw[<-hb];rfl
       ·have h9':E=0:=by simpa using h9
        rw[if_pos h9'] at hb
        (repeat (first|simp only[↓QA,QB,seval,aW,h9,hw]|refine rd0 rfl ?_))
        refine⟨(k+1,true),⟨by simp only;omega,hb⟩,by simp only;omega,?_⟩;try simp only[aB,QE,seval,aW,htn,hw]
        try simp[aF]
     ·have hk1:k=v.trams.length:=by simp at hd;omega
      rw[fC hk1] at hb;rw[<-hb,hk1]
      (repeat (first|simp only[↓QA,QB,seval,aW]|refine rd0 rfl ?_))
      cases h7:decide ((3:Int)<(v.seen.length:Int))
      case' true =>
       have h7':3<v.seen.length:=by first|(have:=of_decide_eq_false h7;omega)|(have:=of_decide_eq_true h7;omega)
       (repeat (first|simp only[↓QA,QB,seval,aW]|refine rd0 rfl ?_))
       simp[jF,h7',enc3]
      have h7':¬3<v.seen.length:=by first|(have:=of_decide_eq_false h7;omega)|(have:=of_decide_eq_true h7;omega)
      have hc:jF v=match aU (lO v) v.seen 0 with|some (i,e)=>(4,(i:Int),e)|none=>(0,0,0):=by simp only[jF,h7',if_false];try rfl
      rw[hc];have hwl:IntKind.i64.wrap ((v.trams.length:Int)-1)=(v.trams.length:Int)-1:=bM ⟨by omega,by omega⟩
      (repeat (first|simp only[↓QA,QB,seval,aW]|refine rd0 rfl ?_))
      refine bC (S:=Nat) 0 (fun k=>k<=v.seen.length/\aU (lO v) (v.seen.drop k) k=aU (lO v) v.seen 0) (fun k=>v.seen.length-k)
       (fun k=>[(1,.ptr 0 0),(10,.int .i64 k)]) (fun _=>[.cells (netCells v),.tok 1 v.trams.length ex]) ⟨Nat.zero_le _,by simp⟩ (by simp[netCells,ints]) ?_ fun m hm=>?_
      ·try simp only[aB,QE,seval,aW]
       try simp
      ·obtain⟨hm,hbm⟩:=hm
       (repeat (first|simp only[↓QA,QB,seval,aW,aI2]|refine rd0 rfl ?_))
       refine aE (fun hd3=>?_) fun hd3=>?_
       ·have hm1:m<v.seen.length:=by simpa using hd3
        rw[eN hm1] at hbm;have hw3:=bD hm1 hfs;obtain⟨x,hx⟩:∃ x,v.seen[m]=x:=⟨_,rfl⟩;rw[hx] at hbm;have hle:lO v m x=if inR x.tram 0 ((v.trams.length:Int)-1)=false then 4 else if inR x.minute (-1) 400=false then 7 else 0:=rfl
        rw[hle] at hbm
        (repeat (first|simp only[↓QA,QB,seval,aW,hm1,hx,hwl]|refine rd0 rfl ?_))
        ((first|refine aD (fQ x.tram 0 ((v.trams.length:Int)-1)) rfl dd ?_|refine aG (fQ x.tram 0 ((v.trams.length:Int)-1)) rfl dd ?_);(repeat (first|simp only[↓QA,QB,seval,aW,hm1,hx,hwl]|refine rd0 rfl ?_)))
        cases hi:inR x.tram 0 ((v.trams.length:Int)-1)
        ·rw[hi] at hbm
         (repeat (first|simp only[↓QA,QB,seval,aW,hm1]|refine rd0 rfl ?_))
         rw[<-hbm];rfl
        ·rw[hi] at hbm;simp only[Bool.true_eq_false,if_false] at hbm
         (repeat (first|simp only[↓QA,QB,seval,aW,hm1,hx]|refine rd0 rfl ?_))
         ((first|refine aD (fQ x.minute (-1) 400) rfl dd ?_|refine aG (fQ x.minute (-1) 400) rfl dd ?_);(repeat (first|simp only[↓QA,QB,seval,aW,hm1,hx]|refine rd0 rfl ?_)))
         cases hi2:inR x.minute (-1) 400
         ·rw[hi2] at hbm
          (repeat (first|simp only[↓QA,QB,seval,aW,hm1]|refine rd0 rfl ?_))
          rw[<-hbm];simp[enc3]
         ·rw[hi2] at hbm
          (repeat (first|simp only[↓QA,QB,seval,aW,hm1,hw3]|refine rd0 rfl ?_))
          refine⟨m+1,⟨by omega,by rw[<-hbm];rfl⟩,by omega,?_⟩;try simp only[aB,QE,seval,aW,hw3]
          try simp
       ·have hm1:m=v.seen.length:=by simp at hd3;omega
        rw[fC hm1] at hbm;rw[<-hbm]
        (repeat (first|simp only[↓QA,QB,seval,aW]|refine rd0 rfl ?_))
        rfl
def g9(v:Net):List Int->Int->List Int->Option Int
 |[],s,_=>some s
 |r::l,s,met=>if s=0\/dP (eW v r) s<0\/met.contains (dP (eW v r) s)=true then none else g9 v l (dP (eW v r) s) (met++[dP (eW v r) s])
def iN(v:Net)(s:Int)(p:List Int):Bool:=match g9 v p s [s] with|some o=>o==0&&!p.isEmpty|none=>false
def fX(v:Net)(s:Int)(p:List Int):Bool:=match g9 v p s [s] with|some o=>!(o==0)|none=>false
theorem B7(v:Net):∀ (l:List Int) (s:Int) (met:List Int),s≠0->lN v l s met=(match g9 v l s met with|some o=>o==0|none=>false)
 |[],s,met,h=>by simp[lN,g9]
 |r::l,s,met,h=>by
  simp only[lN,g9];obtain⟨o,ho⟩:∃ o,dP (eW v r) s=o:=⟨_,rfl⟩;rw[ho];by_cases h1:o<0
  ·simp[h1]
  ·by_cases h2:met.contains o=true
   ·rw[if_pos (.inr (.inl h2)),if_pos (.inr (.inr h2))]
   ·by_cases h3:o=0
    ·subst h3;rw[if_neg (show ¬(s=0\/(0:Int)<0\/met.contains 0=true) from fun q=>by rcases q with q|q|q;exact h q;omega;exact h2 q)];cases l with
     |nil=>rw[if_neg (by simp only[ne_eq,not_true_eq_false,and_false,or_false];exact fun q=>by rcases q with q|q;omega;exact h2 q)];simp[lN,g9]
     |cons x l=>rw[if_pos (.inr (.inr ⟨rfl,by simp⟩))];simp[g9]
    ·rw[if_neg (fun q=>by rcases q with q|q|q;exact h1 q;exact h2 q;exact h3 q.1),if_neg (fun q=>by rcases q with q|q|q;exact h q;exact h1 q;exact h2 q)];exact B7 v l o _ h3
theorem DY{v:Net}{s:Int}{p:List Int}(h:1<=p.length/\p.length<=4):jI v s p=iN v s p:=by
 have h1:inR p.length 1 4=true:=c9.2 (by omega);have he:p.isEmpty=false:=by cases p<;>simp at h ⊢
 rw[jI,iN,he];by_cases hs:s=0
 ·rw[if_pos (.inr hs),hs];cases p with
  |nil=>simp at he
  |cons x l=>simp[g9]
 ·rw[if_neg (by simp[h1,hs]),B7 v p s [s] hs];cases g9 v p s [s]<;>simp
theorem F9(v:Net)(r:Int)(t:List Int):∀ (l:List Int) (s:Int) (met:List Int) (x:Int),g9 v (l++r::t) s met=some x->∃ o,g9 v l s met=some o/\o≠0
 |[],s,met,x,h=>by
  simp only[List.nil_append,g9] at h;split at h
  ·cases h
  ·rename_i hn;exact⟨s,rfl,fun e=>hn (.inl e)⟩
 |y::l,s,met,x,h=>by
  simp only[List.cons_append,g9] at h ⊢;split at h
  ·cases h
  ·rename_i hn;rw[if_neg hn];exact F9 v r t l _ _ x h
theorem N5{r:Rail}{s:Int}(h:¬dP r s<0):(s=r.a/\dP r s=r.b)\/(s=r.b/\dP r s=r.a):=by
 unfold dP at h ⊢;split
 ·rename_i h1;exact .inl ⟨h1,rfl⟩
 ·rename_i h1;rw[if_neg h1] at h;split
  ·rename_i h2;exact .inr ⟨h2,rfl⟩
  ·rename_i h2;rw[if_neg h2] at h;omega
theorem M4(v:Net)(r:Int):∀ (l:List Int) (s:Int) (met:List Int),(eW v r).a∈met->(eW v r).b∈met->r∈l->g9 v l s met=none
 |[],s,met,_,_,h=>by cases h
 |y::l,s,met,ha,hb,h=>by
  simp only[g9];split
  ·rfl
  ·rename_i hn;rcases List.mem_cons.1 h with rfl|h
   ·exfalso;rw[not_or,not_or] at hn;obtain⟨h1,h2,h3⟩:=hn;apply h3;rw[List.contains_iff_mem];rcases N5 h2 with⟨_,e⟩|⟨_,e⟩<;>rw[e]<;>assumption
   ·exact M4 v r l _ _ (List.mem_append_left _ ha) (List.mem_append_left _ hb) h
theorem AA(v:Net):∀ (l:List Int) (s:Int) (met:List Int) (x:Int),s∈met->g9 v l s met=some x->l.Nodup
 |[],s,met,x,_,_=>List.nodup_nil
 |y::l,s,met,x,hs,h=>by
  simp only[g9] at h;split at h
  ·cases h
  ·rename_i hn;rw[not_or,not_or] at hn;obtain⟨h1,h2,h3⟩:=hn;have hm:dP (eW v y) s∈met++[dP (eW v y) s]:=by simp
   have hs':s∈met++[dP (eW v y) s]:=List.mem_append_left _ hs;refine List.nodup_cons.2 ⟨fun hy=>?_,AA v l _ _ x hm h⟩;have hab:(eW v y).a∈met++[dP (eW v y) s]/\(eW v y).b∈met++[dP (eW v y) s]:=by
    rcases N5 h2 with⟨e1,e2⟩|⟨e1,e2⟩
    ·rw[<-e1,<-e2];exact⟨hs',hm⟩
    ·rw[<-e1,<-e2];exact⟨hm,hs'⟩
   rw[M4 v y l _ _ hab.1 hab.2 hy] at h;cases h
def tT(b:Int):List Int:=if b<0 then [] else [b]
def BU(v:Net)(b r:Int):Bool:=!(r==b)&&!decide ((eW v r).shut=1)
def NE(v:Net)(b:Int)(l:List Int):List (List Int):=((aL 0 v.rails.length).filter (BU v b)).map fun r=>l++[r]
def yR(v:Net)(s b:Int):Nat->List (List Int)
 |0=>[[]]
 |k+1=>(yR v s b k).flatMap fun l=>(NE v b l).filter (fX v s)
def KL(v:Net)(s b:Int):Nat->List (List Int)
 |0=>[]
 |k+1=>KL v s b k++(yR v s b k).flatMap fun l=>(NE v b l).filter (iN v s)
theorem C5(v:Net)(but:List Int):∀ k,∀ l∈iW v but k,l.length=k
 |0,l,h=>by simp[iW] at h;simp[h]
 |k+1,l,h=>by
  simp only[iW,List.mem_flatMap,HG,List.mem_map] at h;obtain⟨a,ha,r,_,rfl⟩:=h;simp[C5 v but k a ha]
theorem pG{α β:Type}(p:β->Bool)(f:α->List β):∀ l:List α,(l.flatMap f).filter p=l.flatMap fun x=>(f x).filter p
 |[]=>rfl
 |x::l=>by rw[List.flatMap_cons,List.filter_append,pG p f l,List.flatMap_cons]
theorem pE{α β:Type}(p:α->Bool)(f:α->List β):∀ l:List α,(l.filter p).flatMap f=l.flatMap fun x=>if p x=true then f x else []
 |[]=>rfl
 |x::l=>by
  rw[List.flatMap_cons,List.filter_cons,<-pE p f l];split<;>simp
theorem FN{v:Net}{s b:Int}{q:List Int->Bool}{l:List Int}(h:∀ r,q (l++[r])=true->fX v s l=true/\r∉l):(HG v (tT b) l).filter q=if fX v s l=true then (NE v b l).filter q else []:=by
 have e:(HG v (tT b) l).filter q=(NE v b l).filter q:=by
  simp only[HG,NE,List.filter_map,List.filter_filter]
  congr 1
  refine List.filter_congr fun r hr=>?_
  have hr0:=(bI _ _ _).1 hr;simp only[Function.comp_def];cases hq:q (l++[r]) with
  |false=>simp
  |true =>
   have hc:l.contains r=false:=by rw[Bool.eq_false_iff,Ne,List.contains_iff_mem];exact (h r hq).2
   have hb:(tT b).contains r=(r==b):=by
    unfold tT;split
    ·rw[Bool.eq_iff_iff];simp;omega
    ·rw[Bool.eq_iff_iff];simp
   simp only[SR,BU,hc,hb,Bool.true_and,Bool.not_false,Bool.and_true];rw[Bool.and_comm]
 rw[e];split
 ·rfl
 ·rename_i hb;rw[List.filter_eq_nil_iff];intro x hx;simp only[NE,List.mem_map] at hx;obtain⟨r,_,rfl⟩:=hx;intro hq;exact hb (h r hq).1
theorem QL{v:Net}{s:Int}{l:List Int}{r:Int}(h:fX v s (l++[r])=true):fX v s l=true/\r∉l:=by
 unfold fX at h;split at h
 ·rename_i o ho;obtain⟨x,hx,h0⟩:=F9 v r [] l s [s] o ho;refine⟨by simp[fX,hx,h0],?_⟩;have:=AA v _ s [s] o (by simp) ho;rw[List.nodup_append] at this;intro hm;exact this.2.2 r hm r (by simp) rfl
 ·cases h
theorem V9{v:Net}{s:Int}{l:List Int}{r:Int}(h:iN v s (l++[r])=true):fX v s l=true/\r∉l:=by
 unfold iN at h;split at h
 ·rename_i o ho;obtain⟨x,hx,h0⟩:=F9 v r [] l s [s] o ho;refine⟨by simp[fX,hx,h0],?_⟩;have:=AA v _ s [s] o (by simp) ho;rw[List.nodup_append] at this;intro hm;exact this.2.2 r hm r (by simp) rfl
 ·cases h
theorem AJ{v:Net}{s b:Int}(hs:s≠0):∀ k,yR v s b k=(iW v (tT b) k).filter (fX v s)
 |0=>by
  have h:fX v s []=true:=by simp[fX,g9,hs]
  simp only[yR,iW,List.filter_cons,h,if_true,List.filter_nil]
 |k+1=>by
  simp only[yR,iW];rw[AJ hs k,pG,pE]
  congr 1
  funext l;exact (FN fun r=>QL).symm
theorem LD{v:Net}{s b:Int}(hs:s≠0):∀ k,k<=4->KL v s b k=jB v s (tT b) k
 |0,_=>rfl
 |k+1,hk=>by
  simp only[KL,jB,iW];rw[LD hs k (by omega),AJ hs k,pE]
  congr 1
  have e:((iW v (tT b) k).flatMap (HG v (tT b))).filter (jI v s)=((iW v (tT b) k).flatMap (HG v (tT b))).filter (iN v s):=by
   refine List.filter_congr fun l hl=>?_
   have:=C5 v (tT b) (k+1) l hl;exact DY (by omega)
  rw[e,pG]
  congr 1
  funext l;exact (FN fun r=>V9).symm
theorem VJ(v:Net)(but:List Int):eX v 0 but=[]:=by
 have key:∀ k,jB v 0 but k=[]:=by
  intro k
  induction k with
  |zero=>rfl
  |succ k ih =>
   rw[jB,ih,List.nil_append,List.filter_eq_nil_iff];intro l _;simp[jI]
 exact key 4
theorem aPV(v:Net){s b:Int}(hs:s≠0):KL v s b 4=eX v s (tT b):=LD hs 4 (Nat.le_refl _)
def zW(ss:List Stay)(rail m s t:Int):Prop:=s<=t/\ss.any (jP rail t m)=false/\∀ y,s<=y->y<t->ss.any (jP rail y m)=true
theorem JQ{ss:List Stay}{rail m s t u:Int}(h:zW ss rail m s t)(k:zW ss rail m s u):t=u:=by
 obtain⟨h1,h2,h3⟩:=h;obtain⟨k1,k2,k3⟩:=k;by_cases a:t<u
 ·rw[k3 t h1 a] at h2;cases h2
 ·by_cases b:u<t
  ·rw[h3 u k1 b] at k2;cases k2
  ·omega
theorem DK{ss:List Stay}{rail m s B:Int}(hB:∀ x∈ss,x.til<=B)(h:ss.any (jP rail s m)=true):s<B:=by
 rw[List.any_eq_true] at h;obtain⟨x,hx,hc⟩:=h;have:=hB x hx;simp[jP] at hc;omega
theorem J6{ss:List Stay}{rail m B:Int}(hB:∀ x∈ss,x.til<=B):∀ (k:Nat) (s:Int),B<=s+k->zW ss rail m s (zS ss rail m k s)
 |0,s,h=>⟨by simp[zS],by
   rw[zS,Bool.eq_false_iff];intro hc;have:=DK hB hc
   omega,fun y h1 h2=>by simp[zS] at h2;omega⟩
 |k+1,s,h=>by
  rw[zS];split
  ·rename_i hc;obtain⟨h1,h2,h3⟩:=J6 hB k (s+1) (by omega);refine⟨by omega,h2,fun y q1 q2=>?_⟩;by_cases e:y=s
   ·subst e;exact hc
   ·exact h3 y (by omega) q2
  ·rename_i hc;exact⟨Int.le_refl _,by simpa using hc,fun y q1 q2=>by omega⟩
theorem C6{ss:List Stay}{rail m B s:Int}(hB:∀ x∈ss,x.til<=B)(h:B<=s+1000):zW ss rail m s (lC ss rail s m):=J6 hB 1000 s h
theorem aGH{ss:List Stay}{rail m B s t:Int}(hB:∀ x∈ss,x.til<=B)(h:zW ss rail m s t)(hs:s<=B):t<=B:=by
 by_cases e:s=t
 ·omega
 ·have h1:=h.1;have:=DK hB (h.2.2 (t-1) (by omega) (by omega));omega
theorem Q5{rail m s:Int}{x:Stay}(h:jP rail s m x=true){y:Int}(h1:s<=y)(h2:y<x.til):jP rail y m x=true:=by
 simp[jP] at h ⊢;omega
theorem BM{rail m s:Int}{x:Stay}(h:jP rail s m x=true):s<x.til:=by
 simp[jP] at h;omega
def uY(ss:List Stay)(rail m s t:Int):Prop:=s<=t/\∀ y,s<=y->y<t->ss.any (jP rail y m)=true
theorem JK(ss:List Stay)(rail m s:Int):uY ss rail m s s:=⟨Int.le_refl _,fun y h1 h2=>by omega⟩
theorem J5{ss:List Stay}{rail m s t u:Int}{x:Stay}(h:uY ss rail m s t)(hx:x∈ss)(ht:t<=u)(hc:jP rail u m x=true)(hm:∀ y,t<=y->y<u->ss.any (jP rail y m)=true):uY ss rail m s x.til:=by
 have:=BM hc;refine⟨by have:=h.1;omega,fun y h1 h2=>?_⟩;by_cases a:y<t
 ·exact h.2 y h1 a
 ·by_cases b:y<u
  ·exact hm y (by omega) b
  ·rw[List.any_eq_true];exact⟨x,hx,Q5 hc (by omega) h2⟩
theorem JB{ss:List Stay}{rail m s t:Int}(h:uY ss rail m s t)(hf:ss.any (jP rail t m)=false):zW ss rail m s t:=⟨h.1,hf,h.2⟩
theorem ER{ss:List Stay}{rail m B s t:Int}(hB:∀ x∈ss,x.til<=B)(h:uY ss rail m s t)(hs:s<=B):t<=B:=by
 by_cases e:s=t
 ·omega
 ·have h1:=h.1;have:=DK hB (h.2 (t-1) (by omega) (by omega));omega
structure RunOk (v:Net) (ps:List (List Int)):Prop where
 len:ps.length=v.trams.length
 few:∀ p∈ps,p.length<=4
 rails:∀ p∈ps,∀ r∈p,0<=r/\r<v.rails.length
def HI(v:Net)(m:Int->Int):Prop:=∀ r:Int,0<=r->r<v.rails.length->0<=m r/\m r<=20
structure StaysOk (ss:List Stay) (n:Nat):Prop where
 len:ss.length<=n
 til:∀ x∈ss,x.til<=60+20*n
 frm:∀ x∈ss,0<=x.frm
theorem NY{ss:List Stay}{n k:Nat}(h:StaysOk ss n)(hk:n<=k):StaysOk ss k:=⟨by have:=h.len;omega,fun x hx=>by have:=h.til x hx;omega,h.frm⟩
theorem L8{ss:List Stay}{n:Nat}(h:StaysOk ss n)(hn:n<=40){rail m s:Int}(h0:0<=s)(hs:s<=60+20*n):zW ss rail m s (lC ss rail s m)/\s<=lC ss rail s m/\lC ss rail s m<=60+20*n:=by
 have h1:=C6 (rail:=rail) (m:=m) h.til (show (60:Int)+20*n<=s+1000 by omega);exact⟨h1,h1.1,aGH h.til h1 hs⟩
theorem W1{m:Int->Int}{i:Int}:∀ (l:List Int) (a:Int) (ss:List Stay) (n:Nat),StaysOk ss n->n+l.length<=40->0<=a->a<=60+20*n->(∀ r∈l,0<=m r/\m r<=20) ->
  StaysOk (pJ m i l a ss).1 (n+l.length)/\a<=(pJ m i l a ss).2/\(pJ m i l a ss).2<=60+20*(n+l.length:Nat)
 |[],a,ss,n,h,hn,h0,h1,hm=>by simp only[pJ,List.length_nil,Nat.add_zero];exact⟨h,Int.le_refl _,h1⟩
 |r::l,a,ss,n,h,hn,h0,h1,hm=>by
  simp only[List.length_cons] at hn ⊢;obtain⟨f1,f2,f3⟩:=L8 (rail:=r) (m:=m r) h (by omega) h0 h1;have hmr:=hm r (by simp);simp only[pJ]
  obtain⟨q1,q2,q3⟩:=W1 (m:=m) (i:=i) l (lC ss r a (m r)+m r) (ss++[⟨i,r,lC ss r a (m r),lC ss r a (m r)+m r⟩]) (n+1) ⟨by have:=h.len;simp;omega,fun x hx=>by
   rcases List.mem_append.1 hx with hx|hx
   ·have:=h.til x hx;omega
   ·simp only[List.mem_singleton] at hx;subst hx;simp only;omega,fun x hx=>by
   rcases List.mem_append.1 hx with hx|hx
   ·exact h.frm x hx
   ·simp only[List.mem_singleton] at hx;subst hx;simp only;omega⟩ (by omega) (by omega) (by omega) (fun x hx=>hm x (by simp[hx]))
  rw[show n+(l.length+1)=n+1+l.length by omega];exact⟨q1,by omega,q3⟩
theorem DC{v:Net}{i:Nat}(h:i<v.trams.length):rH v i=v.trams[i].leaves:=by simp[rH,h]
theorem aG5{m:Int->Int}{i a:Int}{l:List Int}{ss:List Stay}{n:Nat}(h:StaysOk ss n)(hn:n+l.length<=40)(h0:0<=a)(h1:a<=60)(hm:∀ r∈l,0<=m r/\m r<=20):
  StaysOk (oZ m i a l ss).1 (n+l.length)/\-1<=(oZ m i a l ss).2/\(oZ m i a l ss).2<=60+20*(n+l.length:Nat):=by
 unfold oZ;split
 ·exact⟨NY h (by omega),by simp only;omega,by simp only;omega⟩
 ·obtain⟨q1,q2,q3⟩:=W1 (i:=i) l a ss n h hn h0 (by omega) hm;exact⟨q1,by omega,q3⟩
theorem run_len(v:Net)(m:Int->Int)(ps:List (List Int)):∀ k,(fM v m ps k).2.length=k
 |0=>rfl
 |k+1=>by simp[fM,run_len v m ps k]
theorem FK{v:Net}{ps:List (List Int)}(h:RunOk v ps){i:Nat}(hi:i<v.trams.length):fR ps i∈ps:=by
 have:i<ps.length:=by rw[h.len];exact hi
 simp[fR,this]
theorem SO{v:Net}(hv:Vd v){m:Int->Int}(hm:HI v m){ps:List (List Int)}(hp:RunOk v ps):∀ k,k<=v.trams.length->StaysOk (fM v m ps k).1 (4*k)/\∀ c∈(fM v m ps k).2,-1<=c/\c<=300
 |0,_=>⟨⟨by simp[fM],by simp[fM],by simp[fM]⟩,by simp[fM]⟩
 |k+1,hk=>by
  have hn:=hv.ntr;obtain⟨h1,h2⟩:=SO hv hm hp k (by omega);have ht:=DN hv (show k<v.trams.length by omega);have hpm:=FK hp (show k<v.trams.length by omega);have hpl:=hp.few _ hpm;have h60:=ht.leaves;rw[<-DC (show k<v.trams.length by omega)] at h60
  obtain⟨q1,q2,q3⟩:=aG5 (m:=m) (i:=k) (a:=rH v k) (l:=fR ps k) h1 (by omega) h60.1 h60.2 (fun r hr=>by
   have:=hp.rails _ hpm r hr
   exact hm r this.1 this.2)
  simp only[fM];refine⟨NY q1 (by omega),fun c hc=>?_⟩;rcases List.mem_append.1 hc with hc|hc
  ·exact h2 c hc
  ·simp only[List.mem_singleton] at hc;subst hc;omega
theorem aET{v:Net}(hv:Vd v):RunOk v (lL v):=by
 have key:∀ p∈lL v,p.length<=4/\∀ r∈p,0<=r/\r<v.rails.length:=by
  intro p hp;simp only[lL,List.mem_map] at hp;obtain⟨t,ht,rfl⟩:=hp;obtain⟨i,hi,rfl⟩:=List.getElem_of_mem ht;have:=DN hv hi;exact⟨this.len.2,this.path⟩
 exact⟨by simp[lL],fun p hp=>(key p hp).1,fun p hp=>(key p hp).2⟩
def chP(r:Rail):List Int:=(if r.shut=0 then [] else [0])++(if r.shut=1 then [] else jY r.mins)
def cC:List Rail->List Int->List (List Int)
 |[],l=>[l]
 |r::rs,l=>(chP r).flatMap fun n=>cC rs (l++[n])
def rlI(c:List Int)(r:Int):Int:=(c[r.toNat]?).getD 0
def vT(s:State):List Int:=(s.closed.zip s.mins).map fun x=>if x.1=true then 0 else x.2
theorem SD{s:State}(h:s.closed.length=s.mins.length):eff s=rlI (vT s):=by
 funext r;simp only[eff,rlI,vT,List.getElem?_map,List.getElem?_zip_eq_some,List.zip];obtain⟨i,hi⟩:∃ i,r.toNat=i:=⟨_,rfl⟩;rw[hi];by_cases hl:i<s.closed.length
 ·have hm:i<s.mins.length:=by omega
  have e:(List.zipWith Prod.mk s.closed s.mins)[i]? = some (s.closed[i],s.mins[i]):=by
   rw[List.getElem?_zipWith];simp[hl,hm]
  rw[e];simp[hl,hm]
 ·have hm:¬i<s.mins.length:=by omega
  have e:(List.zipWith Prod.mk s.closed s.mins)[i]? = none:=by
   rw[List.getElem?_zipWith];simp[show s.closed.length<=i by omega]
  rw[e];simp[show s.closed.length<=i by omega,show s.mins.length<=i by omega]
theorem qU{s:Span}{x:Int}:x∈jY s↔s.lo<=x/\x<=s.hi:=by
 rw[jY,bI];omega
theorem GE{l:List Int}{x:Int}{k:Nat}(h:l.length=k):((l++[x])[k]?).getD 0=x:=by subst h;simp
def aCI(rs:List Rail)(k:Nat)(c:List Int):Prop:=c.length=k/\∀ i (h:i<k) (hr:i<rs.length),(c[i]?).getD 0∈chP rs[i]
theorem CQ(s:State)(h:s.closed.length=s.mins.length)(c:Bool)(m:Int):vT ⟨s.closed++[c],s.mins++[m]⟩=vT s++[if c=true then 0 else m]:=by
 simp only[vT,List.zip];rw[List.zipWith_append h];simp
theorem zX{rs:List Rail}:∀ k,k<=rs.length->∀ s∈p9 rs k,s.closed.length=k/\s.mins.length=k/\aCI rs k (vT s)
 |0,_,s,h=>by
  simp[p9] at h;subst h;exact⟨rfl,rfl,rfl,fun i h=>by omega⟩
 |k+1,hk,s,h=>by
  have hk1:k<rs.length:=by omega
  simp only[p9,List.getElem?_eq_getElem hk1,List.mem_flatMap,EH,List.mem_map,List.mem_filter] at h;obtain⟨s0,hs0,m,hm,c,⟨_,hc⟩,rfl⟩:=h;obtain⟨h1,h2,h3,h4⟩:=zX k (by omega) s0 hs0;rw[CQ s0 (by omega)];refine⟨by simp[h1],by simp[h2],by simp[h3],fun i hi hr=>?_⟩;by_cases e:i=k
  ·subst e;rw[GE h3];simp only[chP,List.mem_append];simp only[yO,Bool.not_eq_true',Bool.or_eq_false_iff,Bool.and_eq_false_iff,decide_eq_false_iff_not] at hc;cases c
   ·simp only[Bool.not_false,false_or,Bool.true_eq_false] at hc;simp only[Bool.false_eq_true,if_false];exact .inr (by rw[if_neg hc.2];exact hm)
   ·simp only[Bool.true_eq_false,false_or] at hc;simp only[if_true];exact .inl (by rw[if_neg hc.1];simp)
  ·rw[List.getElem?_append_left (by omega)];exact h4 i (by omega) hr
theorem YH{rs:List Rail}(hr:∀ r∈rs,r.mins.lo<=r.mins.hi/\1<=r.mins.lo):∀ k,k<=rs.length->∀ c,aCI rs k c->∃ s∈p9 rs k,vT s=c
 |0,_,c,h=>⟨⟨[],[]⟩,by simp[p9],by have:=h.1;rw[List.length_eq_zero_iff.1 this];rfl⟩
 |k+1,hk,c,h=>by
  have hk1:k<rs.length:=by omega
  obtain⟨hl,hc⟩:=h;obtain⟨d,x,rfl⟩:∃ d x,c=d++[x]:=by
   rcases List.eq_nil_or_concat c with rfl|⟨d,x,rfl⟩
   ·simp at hl
   ·exact⟨d,x,by simp⟩
  have hd:d.length=k:=by simpa using hl
  obtain⟨s,hs,he⟩:=YH hr k (by omega) d ⟨hd,fun i hi hri=>by
   have:=hc i (by omega) hri
   rwa [List.getElem?_append_left (by omega)] at this⟩
  have hsl:=zX k (by omega) s hs;have hx:=hc k (by omega) hk1;rw[GE hd] at hx;simp only[chP,List.mem_append] at hx;have hrk:=hr _ (List.getElem_mem hk1);simp only[p9,List.getElem?_eq_getElem hk1];rcases hx with hx|hx
  ·split at hx
   ·cases hx
   ·rename_i h0;simp only[List.mem_singleton] at hx;subst hx;refine⟨⟨s.closed++[true],s.mins++[rs[k].mins.lo]⟩,?_,by rw[CQ s (by omega),he];simp⟩;simp only[List.mem_flatMap,EH,List.mem_map,List.mem_filter];exact⟨s,hs,rs[k].mins.lo,qU.2 ⟨Int.le_refl _,hrk.1⟩,true,⟨by simp,by simp[yO,h0]⟩,rfl⟩
  ·split at hx
   ·cases hx
   ·rename_i h1;refine⟨⟨s.closed++[false],s.mins++[x]⟩,?_,by rw[CQ s (by omega),he];simp⟩;simp only[List.mem_flatMap,EH,List.mem_map,List.mem_filter];exact⟨s,hs,x,hx,false,⟨by simp,by simp[yO,h1]⟩,rfl⟩
theorem mE:∀ (rs:List Rail) (l c:List Int),c∈cC rs l↔∃ t,c=l++t/\aCI rs rs.length t
 |[],l,c=>by
  simp only[cC,List.mem_singleton];constructor
  ·rintro rfl;exact⟨[],by simp,rfl,fun i h=>by simp at h⟩
  ·rintro⟨t,rfl,ht,_⟩;simp at ht;simp[ht]
 |r::rs,l,c=>by
  simp only[cC,List.mem_flatMap];constructor
  ·rintro⟨n,hn,hc⟩;obtain⟨t,rfl,ht,hx⟩:=(mE rs _ c).1 hc;refine⟨n::t,by simp,by simp[ht],fun i h hr=>?_⟩;cases i with
   |zero=>exact hn
   |succ i=>exact hx i (by simpa using h) (by simpa using hr)
  ·rintro⟨t,rfl,ht,hx⟩;cases t with
   |nil=>simp at ht
   |cons n t =>
    refine⟨n,hx 0 (by simp) (by simp),(mE rs _ _).2 ⟨t,by simp,by simpa using ht,fun i h hr=>?_⟩⟩;exact hx (i+1) (by simpa using h) (by simpa using hr)
theorem qC{rs:List Rail}{l c:List Int}(h:c∈cC rs l):c.length=l.length+rs.length:=by
 obtain⟨t,rfl,ht,_⟩:=(mE rs l c).1 h;simp[ht]
theorem aKG{r:Rail}(h:1<=r.mins.lo):(chP r).Pairwise (·≠·):=by
 have hn:∀ (n:Nat) (a:Int),(aL a n).Pairwise (·≠·):=by
  intro n
  induction n with
  |zero=>intro a;exact List.Pairwise.nil
  |succ n ih =>
   intro a;simp only[aL];refine List.Pairwise.cons (fun x hx=>?_) (ih (a+1));have:=(bI _ _ _).1 hx;omega
 unfold chP;rw[List.pairwise_append];refine⟨by split<;>simp,by split;exact List.Pairwise.nil;exact hn _ _,fun a ha b hb=>?_⟩;split at ha
 ·cases ha
 ·simp only[List.mem_singleton] at ha;subst ha;split at hb
  ·cases hb
  ·have:=qU.1 hb;omega
theorem tA:∀ (rs:List Rail) (l:List Int),(∀ r∈rs,1<=r.mins.lo)->(cC rs l).Pairwise (·≠·)
 |[],l,_=>by simp[cC]
 |r::rs,l,h=>by
  simp only[cC];rw[List.pairwise_flatMap];refine⟨fun n _=>tA rs _ (fun x hx=>h x (by simp[hx])),List.Pairwise.imp ?_ (aKG (h r (by simp)))⟩;intro n m hnm x hx y hy e;obtain⟨t,rfl,_⟩:=(mE _ _ _).1 hx;obtain⟨u,hu,_⟩:=(mE _ _ _).1 hy;have e2:=e.trans hu;rw[List.append_assoc,List.append_assoc] at e2;have:=List.append_cancel_left e2;simp at this;exact hnm this.1
def eH(v:Net)(c:List Int):List Int:=lP v (lL v) (rlI c)
def u9(v:Net)(but c:List Int):Bool:=mQ v but (eH v c)
def TL(v:Net)(but:List Int):List (List Int):=(cC v.rails []).filter (u9 v but)
theorem tM{s:State}(h:s.closed.length=s.mins.length)(v:Net):comesOf v s=eH v (vT s):=by rw[comesOf,eH,SD h]
theorem qW{v:Net}{s:State}(h:s∈lI v):s.closed.length=v.rails.length/\s.mins.length=v.rails.length:=by
 have:=zX v.rails.length (Nat.le_refl _) s h;exact⟨this.1,this.2.1⟩
theorem PB{v:Net}{s:State}(h:s∈lI v):vT s∈cC v.rails []:=by
 have:=zX v.rails.length (Nat.le_refl _) s h;exact (mE _ _ _).2 ⟨vT s,by simp,this.2.2⟩
theorem S6{v:Net}(hv:Vd v){c:List Int}(h:c∈cC v.rails []):∃ s∈lI v,vT s=c:=by
 obtain⟨t,e,ht⟩:=(mE _ _ _).1 h;rw[List.nil_append] at e;subst e;exact YH (fun r hr=>by have:=(hv.ra r hr).mins;omega) v.rails.length (Nat.le_refl _) c ht
theorem A9{v:Net}{bl:List Int}{s:State}(h:s∈truths v bl):vT s∈TL v bl:=by
 obtain⟨h1,h2⟩:=List.mem_filter.1 h;have hl:=qW h1;refine List.mem_filter.2 ⟨PB h1,?_⟩;rw[u9,<-tM (by omega)];exact h2
theorem vX{v:Net}(hv:Vd v){bl:List Int}{c:List Int}(h:c∈TL v bl):∃ s∈truths v bl,vT s=c:=by
 obtain⟨h1,h2⟩:=List.mem_filter.1 h;obtain⟨s,hs,he⟩:=S6 hv h1;have hl:=qW hs;refine⟨s,List.mem_filter.2 ⟨hs,?_⟩,he⟩;rw[tM (by omega),he];exact h2
theorem yB{v:Net}{bl:List Int}{s:State}(h:s∈truths v bl):s.closed.length=v.rails.length/\s.mins.length=v.rails.length:=qW (List.mem_filter.1 h).1
theorem TT{v:Net}(hv:Vd v)(bl:List Int):(TL v bl).isEmpty=(truths v bl).isEmpty:=by
 rw[Bool.eq_iff_iff,List.isEmpty_iff,List.isEmpty_iff,List.eq_nil_iff_forall_not_mem,List.eq_nil_iff_forall_not_mem];constructor
 ·intro h s hs;exact h _ (A9 hs)
 ·intro h c hc;obtain⟨s,hs,_⟩:=vX hv hc;exact h s hs
theorem S7{v:Net}(hv:Vd v)(bl:List Int)(p:State->Bool)(q:List Int->Bool)(h:∀ s∈truths v bl,p s=q (vT s)):(truths v bl).all p=(TL v bl).all q:=by
 rw[Bool.eq_iff_iff,List.all_eq_true,List.all_eq_true];constructor
 ·intro a c hc;obtain⟨s,hs,rfl⟩:=vX hv hc;rw[<-h s hs];exact a s hs
 ·intro a s hs;rw[h s hs];exact a _ (A9 hs)
theorem aEO{v:Net}(hv:Vd v)(bl:List Int)(p:State->Bool)(q:List Int->Bool)(h:∀ s∈truths v bl,p s=q (vT s)):(truths v bl).any p=(TL v bl).any q:=by
 rw[Bool.eq_iff_iff,List.any_eq_true,List.any_eq_true];constructor
 ·rintro⟨s,hs,a⟩;exact⟨_,A9 hs,by rw[<-h s hs];exact a⟩
 ·rintro⟨c,hc,a⟩;obtain⟨s,hs,rfl⟩:=vX hv hc;exact⟨s,hs,by rw[h s hs];exact a⟩
def mU(v:Net):Nat->List (List Int)->List (List (List Int))
 |0,p=>[p]
 |k+1,p=>(eX v (iP v p.length) []).flatMap fun w=>mU v k (p++[w])
theorem JY(v:Net):∀ k,∀ p∈pV v k,p.length=k
 |0,p,h=>by simp[pV] at h;simp[h]
 |k+1,p,h=>by
  simp only[pV,List.mem_flatMap,List.mem_map] at h;obtain⟨a,ha,w,_,rfl⟩:=h;simp[JY v k a ha]
theorem mY{α β:Type}{f g:α->List β}:∀ {l:List α},(∀ x∈l,f x=g x)->l.flatMap f=l.flatMap g
 |[],_=>rfl
 |x::l,h=>by rw[List.flatMap_cons,List.flatMap_cons,h x (by simp),mY fun y hy=>h y (by simp[hy])]
theorem BE{α:Type}:∀ l:List α,(l.flatMap fun x=>[x])=l
 |[]=>rfl
 |x::l=>by rw[List.flatMap_cons,BE l];rfl
theorem IP(v:Net):∀ k j,(pV v j).flatMap (mU v k)=pV v (j+k)
 |0,j=>by
  have:mU v 0=fun x=>[x]:=by funext x;rfl
  rw[this,BE];rfl
 |k+1,j=>by
  rw[show j+(k+1)=(j+1)+k by omega,<-IP v k (j+1)];simp only[pV];rw[List.flatMap_assoc];refine mY fun p hp=>?_
  rw[mU,JY v j p hp,List.flatMap_map]
theorem DE(v:Net):B2 v=mU v v.trams.length []:=by
 have:=IP v v.trams.length 0;simp only[pV,List.flatMap_cons,List.flatMap_nil,List.append_nil,Nat.zero_add] at this;exact this.symm
def jJ(v:Net)(t:Nat)(w:List Int):Nat:=if w=fR (lL v) t then 0 else 1
def mvd(v:Net)(p:List (List Int)):Nat:=(pZ v p).length
theorem QQ{p:List (List Int)}{t:Nat}(h:t<p.length)(w:List Int):fR (p++[w]) t=fR p t:=by simp[fR,List.getElem?_append_left h]
theorem QF(v:Net)(p:List (List Int))(w:List Int):pZ v (p++[w])=pZ v p++(if w=fR (lL v) p.length then [] else [(p.length:Int)]):=by
 simp only[pZ,List.length_append,List.length_cons,List.length_nil,Nat.zero_add,AG,List.filter_append,Int.zero_add]
 congr 1
 ·refine List.filter_congr fun t ht=>?_
  have:=(bI _ _ _).1 ht;rw[QQ (by omega)]
 ·have:fR (p++[w]) p.length=w:=by simp[fR]
  simp only[List.filter_cons,List.filter_nil,Int.toNat_natCast,this];split<;>rename_i h
  ·split
   ·rename_i e;simp[e] at h
   ·rfl
  ·split
   ·rfl
   ·rename_i e;simp[e] at h
theorem F3(v:Net)(p:List (List Int))(w:List Int):mvd v (p++[w])=mvd v p+jJ v p.length w:=by
 rw[mvd,QF,List.length_append,mvd,jJ];split<;>simp
theorem UM(v:Net):∀ k p,∀ P∈mU v k p,mvd v p<=mvd v P
 |0,p,P,h=>by simp[mU] at h;subst h;exact Nat.le_refl _
 |k+1,p,P,h=>by
  simp only[mU,List.mem_flatMap] at h;obtain⟨w,_,hP⟩:=h;have:=UM v k _ P hP;rw[F3] at this;omega
def dfs(v:Net)(q:List (List Int)->Bool):Nat->List (List Int)->Nat->Option (List (List Int))
 |0,p,left=>if (decide (left=0)&&q p)=true then some p else none
 |k+1,p,left=>(eX v (iP v p.length) []).findSome? fun w=>if jJ v p.length w<=left then dfs v q k (p++[w]) (left-jJ v p.length w) else none
theorem I6{α β:Type}(q:β->Bool)(f:α->List β):∀ l:List α,(l.flatMap f).find? q=l.findSome? fun x=>(f x).find? q
 |[]=>rfl
 |x::l=>by
  rw[List.flatMap_cons,List.find?_append,List.findSome?_cons,I6 q f l];cases (f x).find? q<;>rfl
theorem vG{α β:Type}{f g:α->Option β}:∀ {l:List α},(∀ x∈l,f x=g x)->l.findSome? f=l.findSome? g
 |[],_=>rfl
 |x::l,h=>by rw[List.findSome?_cons,List.findSome?_cons,h x (by simp),vG fun y hy=>h y (by simp[hy])]
theorem FI(v:Net)(q:List (List Int)->Bool):∀ k p left,dfs v q k p left=(mU v k p).find? fun P=>(mvd v P==mvd v p+left)&&q P
 |0,p,left=>by
  have h:decide (left=0)=(mvd v p==mvd v p+left):=by
   rw[Bool.eq_iff_iff,decide_eq_true_eq,beq_iff_eq];omega
  simp only[dfs,mU,List.find?_cons,List.find?_nil];rw[<-h];cases (decide (left=0)&&q p)<;>rfl
 |k+1,p,left=>by
  simp only[dfs,mU];rw[I6];refine vG fun w _=>?_
  split
  ·rename_i h;rw[FI v q k,F3,show mvd v p+jJ v p.length w+(left-jJ v p.length w)=mvd v p+left by omega]
  ·rename_i h;symm;rw[List.find?_eq_none];intro P hP;have:=UM v k _ P hP;rw[F3] at this;simp only[Bool.and_eq_true,beq_iff_eq];omega
def zI(v:Net)(q:List (List Int)->Bool):Nat->Nat->Option (List (List Int))
 |0,_=>none
 |k+1,m=>match dfs v q v.trams.length [] m with|some p=>some p|none=>zI v q k (m+1)
theorem T4{v:Net}{l:List State}{q:List (List Int)->Bool}(h:∀ p∈B2 v,m6 v l p=q p):∀ k m,BV v l k m=zI v q k m
 |0,m=>rfl
 |k+1,m=>by
  have e:(B2 v).find? (S1 v l m)=dfs v q v.trams.length [] m:=by
   have hf:∀ (L:List (List (List Int))) (f g:List (List Int)->Bool),(∀ x∈L,f x=g x)->L.find? f=L.find? g:=by
    intro L f g
    induction L with
    |nil=>intro _;rfl
    |cons x L ih =>
     intro hh;rw[List.find?_cons,List.find?_cons,hh x (by simp),ih fun y hy=>hh y (by simp[hy])]
   rw[FI,<-DE];refine hf _ _ _ fun p hp=>?_
   have h0:mvd v []=0:=rfl;rw[S1,h p hp,h0,Nat.zero_add];rfl
  simp only[BV,zI,e];cases dfs v q v.trams.length [] m with
  |none=>exact T4 h k (m+1)
  |some p=>rfl
def MF(v:Net)(ps:List (List Int))(c:List Int):Bool:=(List.range v.trams.length).all fun t=>mH v t (comeAt (lP v ps (rlI c)) t)
def rM(v:Net)(ps:List (List Int)):Bool:=(TL v []).all (MF v ps)
theorem aE7{v:Net}(hv:Vd v)(ps:List (List Int)):m6 v (truths v []) ps=rM v ps:=by
 refine S7 hv [] _ _ fun s hs=>?_
 have hl:=yB hs;rw[W6,MF,SD (by omega)]
theorem aG3{v:Net}(hv:Vd v):vM v (truths v [])=zI v (rM v) (v.trams.length+1) 0:=T4 (fun p _=>aE7 hv p) _ _
theorem GP(v:Net)(but:List Int):∀ k,∀ l∈iW v but k,∀ r∈l,0<=r/\r<v.rails.length
 |0,l,h,r,hr=>by simp[iW] at h;subst h;cases hr
 |k+1,l,h,r,hr=>by
  simp only[iW,List.mem_flatMap,HG,List.mem_map,List.mem_filter,bI] at h;obtain⟨a,ha,x,⟨hx,_⟩,rfl⟩:=h;rcases List.mem_append.1 hr with hr|hr
  ·exact GP v but k a ha r hr
  ·simp only[List.mem_singleton] at hr;subst hr;omega
theorem I0q{v:Net}{s:Int}{but:List Int}:∀ k,∀ l∈jB v s but k,l.length<=k/\∀ r∈l,0<=r/\r<v.rails.length
 |0,l,h=>by simp[jB] at h
 |k+1,l,h=>by
  simp only[jB,List.mem_append,List.mem_filter] at h;rcases h with h|⟨h,_⟩
  ·have:=I0q k l h;exact⟨by omega,this.2⟩
  ·refine⟨?_,GP v but (k+1) l h⟩;have key:∀ k,∀ l∈iW v but k,l.length=k:=by
    intro k
    induction k with
    |zero=>intro l h;simp[iW] at h;simp[h]
    |succ k ih =>
     intro l h;simp only[iW,List.mem_flatMap,HG,List.mem_map] at h;obtain⟨a,ha,r,_,rfl⟩:=h;simp[ih a ha]
   have:=key (k+1) l h;omega
theorem K9{v:Net}{s:Int}{but l:List Int}(h:l∈eX v s but):l.length<=4/\∀ r∈l,0<=r/\r<v.rails.length:=I0q 4 l h
theorem qH(v:Net)(but:List Int)(h5:v.rails.length<=5):∀ k,(iW v but k).length<=5^k
 |0=>by simp[iW]
 |k+1=>by
  have h:=AF (HG v but) 5 (iW v but k) fun l _=>by
   have:=List.length_filter_le (SR v but l) (aL 0 v.rails.length);rw[jS] at this;simp only[HG,List.length_map];omega
  have:=qH v but h5 k;rw[Nat.pow_succ];simp only[iW];exact Nat.le_trans h (Nat.mul_le_mul_right 5 this)
theorem N0{v:Net}(h5:v.rails.length<=5)(s:Int)(but:List Int):(eX v s but).length<=1000:=by
 have c1:=qH v but h5 1;have c2:=qH v but h5 2;have c3:=qH v but h5 3;have c4:=qH v but h5 4;have f:=fun (l:List (List Int))=>List.length_filter_le (jI v s) l
 have f1:=f (iW v but 1);have f2:=f (iW v but 2);have f3:=f (iW v but 3);have f4:=f (iW v but 4);have e:eX v s but=((([]++(iW v but 1).filter (jI v s))++(iW v but 2).filter (jI v s))++(iW v but 3).filter (jI v s))++(iW v but 4).filter (jI v s):=rfl;rw[e];simp only[List.length_append,List.length_nil];have p1:(5:Nat)^1=5:=rfl;have p2:(5:Nat)^2=25:=rfl;have p3:(5:Nat)^3=125:=rfl;have p4:(5:Nat)^4=625:=rfl;omega
theorem BJ{v:Net}:∀ k p,∀ P∈mU v k p,P.length=p.length+k/\∀ w∈P,w∈p\/∃ s,w∈eX v s []
 |0,p,P,h=>by simp[mU] at h;subst h;exact⟨rfl,fun w hw=>.inl hw⟩
 |k+1,p,P,h=>by
  simp only[mU,List.mem_flatMap] at h;obtain⟨w,hw,hP⟩:=h;obtain⟨h1,h2⟩:=BJ k _ P hP;refine⟨by rw[h1];simp;omega,fun x hx=>?_⟩;rcases h2 x hx with q|q
  ·rcases List.mem_append.1 q with q|q
   ·exact .inl q
   ·simp only[List.mem_singleton] at q;subst q;exact .inr ⟨_,hw⟩
  ·exact .inr q
theorem aHD{v:Net}{P:List (List Int)}(h:P∈B2 v):RunOk v P:=by
 rw[DE] at h;obtain⟨h1,h2⟩:=BJ _ _ P h;refine⟨by simpa using h1,fun p hp=>?_,fun p hp=>?_⟩
 ·rcases h2 p hp with q|⟨s,q⟩
  ·cases q
  ·exact (K9 q).1
 ·rcases h2 p hp with q|⟨s,q⟩
  ·cases q
  ·exact (K9 q).2
end Go.Am.Room.Tr
namespace Go.Am.Room.Tr
theorem QW{v:Net}(h5:v.rails.length<=5)(s:Int)(but:List Int){k:Nat}(hk:k<=4):(jB v s but k).length<=1000:=by
 have st:∀ j,(jB v s but j).length<=(jB v s but (j+1)).length:=fun j=>by simp only[jB,List.length_append];omega
 have:=N0 h5 s but;rw[eX] at this;have a0:(jB v s but 0).length<=(jB v s but 1).length:=st 0;have a1:(jB v s but 1).length<=(jB v s but 2).length:=st 1;have a2:(jB v s but 2).length<=(jB v s but 3).length:=st 2;have a3:(jB v s but 3).length<=(jB v s but 4).length:=st 3;have:k=0\/k=1\/k=2\/k=3\/k=4:=by omega
 rcases this with rfl|rfl|rfl|rfl|rfl<;>omega
def F2(x:List (List Int)×Int):AV:=.tuple [aY x.1,.int .i64 x.2]
end Go.Am.Room.Tr
namespace Go.Am.Room.Tr
def d9:=zz @encNet_eq (zz @netCells_eq (zz @encRail_eq (zz @encTram_eq (zz @encSeen_eq (zz @aJ (zz @S_mapRail (zz @S_mapTram (zz @S_mapSeen (zz @bZ (zz @bY (@Nat.not_lt_zero)))))))))))
def eU(s:State):AV:=.agg [.lit (s.closed.map .bool) false none,ints s.mins]
theorem encState_eq(s:State):eU s = .agg [.lit (s.closed.map .bool) false none,ints s.mins]:=by simp only[eU]
theorem uH(s:State):j8 (eU s):=gQ (aT (gG xZ s.closed) (aT (iT _) a9))
instance (s:State):Dat (eU s):=⟨uH s⟩
instance (l:List State):Dats (l.map eU):=⟨bH uH l⟩
theorem S_mapState(σ:St)(m d:Nat)(l:List State):cI σ m d (l.map eU)=some (l.map eU):=iZ (bH uH l) σ m d
def statesAV(l:List State):AV:=.lit (l.map eU) false none
theorem statesAV_eq(l:List State):statesAV l = .lit (l.map eU) false none:=by simp only[statesAV]
theorem HU(σ:St)(m d:Nat)(l:List Bool):cI σ m d (l.map .bool)=some (l.map .bool):=iZ (bH xZ l) σ m d
theorem yW(l:List Bool):aM 1 (l.map .bool)=true:=pD 1 _ l fun x=>aD6 _
theorem vA(l:List State):aM 2 (l.map eU)=true:=pD 2 eU l fun x=>by simp[bV,eU,AV.cells,AV.cell,ints]
def YP(r:Rail)(s:State)(m:Int):List State:=([false,true].filter (yO r.shut)).map fun c=>⟨s.closed++[c],s.mins++[m]⟩
theorem TV(r:Rail)(s:State):EH r s=(aL r.mins.lo (r.mins.hi+1-r.mins.lo).toNat).flatMap (YP r s):=rfl
def YJ:Nat->List Bool
 |0=>[false,true]
 |1=>[true]
 |_=>[]
def R0(r:Rail)(s:State)(m:Int)(c:Nat):List State:=((YJ c).filter (yO r.shut)).map fun c=>⟨s.closed++[c],s.mins++[m]⟩
theorem SH{c:Nat}(h:c<2){b:Bool}(hb:((c:Int)==1)=b):YJ c=b::YJ (c+1):=by
 have:c=0\/c=1:=by omega
 rcases this with rfl|rfl
 ·have:b=false:=by rw[<-hb];rfl
  subst this;rfl
 ·have:b=true:=by rw[<-hb];rfl
  subst this;rfl
theorem nN{a b:Int}(h:a<=b):aL a (b+1-a).toNat=a::aL (a+1) (b+1-(a+1)).toNat:=by
 have:(b+1-a).toNat=(b+1-(a+1)).toNat+1:=by omega
 rw[this,aL]
theorem qX{a b:Int}(h:¬a<=b):aL a (b+1-a).toNat=[]:=by
 have:(b+1-a).toNat=0:=by omega
 rw[this,aL]
theorem CN{rs:List Rail}{k:Nat}(h:k<rs.length):p9 rs (k+1)=(p9 rs k).flatMap (EH rs[k]):=by
 simp only[p9,List.getElem?_eq_getElem h]
theorem HM{rs:List Rail}(hr:∀ r∈rs,r.mins.hi<=r.mins.lo+1):∀ k,(p9 rs k).length<=4^k
 |0=>by simp[p9]
 |k+1=>by
  have ih:=HM hr k;by_cases h:k<rs.length
  ·rw[CN h,Nat.pow_succ];refine Nat.le_trans (AF (EH rs[k]) 4 _ fun s _=>?_) (Nat.mul_le_mul_right 4 ih);rw[TV];have hm:=hr _ (List.getElem_mem h);refine Nat.le_trans (AF (YP rs[k] s) 2 _ fun m _=>?_) ?_
   ·have:=List.length_filter_le (yO rs[k].shut) [false,true];simpa[YP] using this
   ·rw[jS];omega
  ·simp only[p9,List.getElem?_eq_none (Nat.le_of_not_lt h)];exact Nat.le_trans ih (Nat.pow_le_pow_right (by omega) (by omega))
theorem S0(v:Net)(hv:Vd v):cV T 193 [encNet v] (statesAV (lI v)):=by
 refine aR (af:=X7) rfl (by simp[X7]) dd ?_;have hnr:=hv.nra;rw[show lI v=p9 v.rails v.rails.length from rfl];try simp only[↓QA,QB,seval,d9,encState_eq,S_mapState,X7]
 refine bC (S:=Nat) 0 (fun n=>n<=v.rails.length) (fun n=>v.rails.length-n) (fun n=>[(1,.ptr 0 0),(3,statesAV (p9 v.rails n)),(4,.int .i64 n)]) (fun _=>[.cells (netCells v)]) (Nat.zero_le _) (by simp[netCells,ints]) ?_ fun n hn=>?_
 ·try simp only[aB,QE,seval,d9,encState_eq,S_mapState,statesAV_eq]
  simp[p9,eU,ints,clr,clrs]
 ·try simp only[↓QA,QB,seval,d9,encState_eq,S_mapState,aA0,statesAV_eq]
  refine aE (fun h=>?_) fun h=>?_
  ·have hn1:n<v.rails.length:=by simpa using h
   have hwn:IntKind.i64.wrap ((n:Int)+1)=((n+1:Nat):Int):=bD hn1 (by omega);have hwl:∀ j,j<=5->(p9 v.rails j).length<=1024:=fun j hj=>Nat.le_trans (HM (fun r hr=>(hv.ra r hr).mins.2.2.2) j) (Nat.le_trans (Nat.pow_le_pow_right (by omega) hj) (by decide))
   have hsl:=hwl n (by omega);have hsl2:=hwl (n+1) (by omega);have hin:=zX (rs:=v.rails) n hn;have hsu:=CN hn1;have hra:=hv.ra _ (List.getElem_mem hn1);obtain⟨r,hr⟩:∃ r,v.rails[n]=r:=⟨_,rfl⟩;rw[hr] at hsu hra;have hmi:=hra.mins;rw[hsu] at hsl2;obtain⟨W,hW⟩:∃ W,p9 v.rails n=W:=⟨_,rfl⟩;rw[hW] at hsl hsl2 hsu hin;rw[hW];obtain⟨X,hX⟩:∃ X,W.flatMap (EH r)=X:=⟨_,rfl⟩;rw[hX] at hsl2 hsu;try simp only[↓QA,QB,seval,d9,encState_eq,S_mapState,hn1,hr]
   refine jN 6 2 [] rfl ?_;refine bC (S:=Nat×List State×Bool) (0,[],false) (fun a=>a.1<=W.length/\a.2.1++(W.drop a.1).flatMap (EH r)=X) (fun a=>W.length-a.1)
    (fun a=>[(1,.ptr 0 0),(3,statesAV W),(4,.int .i64 n),(5,.ptr 1 0),(6,.lit (a.2.1.map eU) false (some 2)),(7,.int .i64 a.1)])
    (fun a=>[.cells (netCells v),.cells [.int .i64 r.a,.int .i64 r.b,.int .i64 r.mins.lo,.int .i64 r.mins.hi,.int .i64 r.shut],.tok 2 a.2.1.length a.2.2]) ⟨Nat.zero_le _,by simpa using hX⟩ (by simp[netCells,ints]) ?_ fun a ha=>?_
   ·try simp only[aB,QE,seval,d9,encState_eq,S_mapState,statesAV_eq]
    try simp
   ·obtain⟨k,acc,ex⟩:=a;obtain⟨hk,hacc⟩:=ha;simp only at hk hacc;try simp only[↓QA,QB,seval,d9,encState_eq,S_mapState,ZZ,statesAV_eq]
    refine aE (fun h2=>?_) fun h2=>?_
    ·have hk1:k<W.length:=by simpa using h2
     have hwk:=bD hk1 (by omega);obtain⟨s,hs⟩:∃ s,W[k]=s:=⟨_,rfl⟩;have hcl:=hin _ (List.getElem_mem hk1);rw[hs] at hcl;obtain⟨hl1,hl2,_⟩:=hcl;rw[List.drop_eq_getElem_cons hk1,hs,List.flatMap_cons,TV] at hacc;obtain⟨F,hF⟩:∃ F,(W.drop (k+1)).flatMap (EH r)=F:=⟨_,rfl⟩;rw[hF] at hacc;try simp only[↓QA,QB,seval,d9,encState_eq,S_mapState]
     refine bC (S:=Int×List State×Bool×St) (r.mins.lo,acc,ex,[]) (fun a=>r.mins.lo<=a.1/\a.1<=r.mins.hi+1/\a.2.1++((aL a.1 (r.mins.hi+1-a.1).toNat).flatMap (YP r s)++F)=X) (fun a=>(r.mins.hi+1-a.1).toNat)
      (fun a=>[(1,.ptr 0 0),(3,statesAV W),(4,.int .i64 n),(5,.ptr 1 0),(6,.lit (a.2.1.map eU) false (some 2)),(7,.int .i64 k),(8,.int .i64 a.1)])
      (fun a=>.cells (netCells v)::.cells [.int .i64 r.a,.int .i64 r.b,.int .i64 r.mins.lo,.int .i64 r.mins.hi,.int .i64 r.shut]::.tok 2 a.2.1.length a.2.2.1::a.2.2.2) ⟨Int.le_refl _,by simp only;omega,hacc⟩ (by simp[netCells]) ?_ fun a ha=>?_
     ·try simp only[aB,QE,seval,d9,encState_eq,S_mapState,statesAV_eq]
      try simp
     ·obtain⟨m,acc,ex,τ⟩:=a;obtain⟨hm0,hm1,hacc⟩:=ha;simp only at hm0 hm1 hacc;try simp only[↓QA,QB,seval,d9,encState_eq,S_mapState,Z7,statesAV_eq]
      refine aE (fun h3=>?_) fun h3=>?_
      ·have hm2:m<=r.mins.hi:=by simpa using h3
       have hwm:IntKind.i64.wrap (m+1)=m+1:=bM ⟨by omega,by omega⟩;rw[nN hm2,List.flatMap_cons,List.append_assoc] at hacc;obtain⟨G,hG⟩:∃ G,(aL (m+1) (r.mins.hi+1-(m+1)).toNat).flatMap (YP r s)++F=G:=⟨_,rfl⟩;rw[hG] at hacc;try simp only[↓QA,QB,seval,d9,encState_eq,S_mapState]
       refine bC (S:=Nat×List State×Bool) (0,acc,ex) (fun a=>a.1<=2/\a.2.1++(R0 r s m a.1++G)=X) (fun a=>2-a.1)
        (fun a=>[(1,.ptr 0 0),(3,statesAV W),(4,.int .i64 n),(5,.ptr 1 0),(6,.lit (a.2.1.map eU) false (some 2)),(7,.int .i64 k),(8,.int .i64 m),(9,.int .i64 a.1)])
        (fun a=>.cells (netCells v)::.cells [.int .i64 r.a,.int .i64 r.b,.int .i64 r.mins.lo,.int .i64 r.mins.hi,.int .i64 r.shut]::.tok 2 a.2.1.length a.2.2::τ) ⟨by simp,hacc⟩ (by simp[netCells]) ?_ fun a ha=>?_
       ·try simp only[aB,QE,seval,d9,encState_eq,S_mapState,statesAV_eq]
        try simp
       ·obtain⟨c,acc,ex⟩:=a;obtain⟨hc0,hacc⟩:=ha;simp only at hc0 hacc;try simp only[↓QA,QB,seval,d9,encState_eq,S_mapState,YZ,statesAV_eq]
        refine aE (fun h4=>?_) fun h4=>?_
        ·have hc2:c<2:=by
          have h0:(c:Int)<2:=by simpa using h4
          omega
         have hwc:=bD hc2 (by omega);obtain⟨b,hb⟩:∃ b,((c:Int)==1)=b:=⟨_,rfl⟩;rw[R0,SH hc2 hb,List.filter_cons] at hacc;have hcan:yO r.shut b = !(b&&(r.shut==0)||!b&&(r.shut==1)):=by
          have e0:(r.shut==0)=decide (r.shut=0):=by rw[Bool.eq_iff_iff];simp
          have e1:(r.shut==1)=decide (r.shut=1):=by rw[Bool.eq_iff_iff];simp
          rw[yO,e0,e1]
         have hal:acc.length<=1024:=by
          have:=congrArg List.length hacc;simp only[List.length_append] at this;omega
         have b0:∀ (σ:St),dK 1 1 σ (.lit [] true none) (.lit (s.closed.map .bool) false none)=some ((pY 1 σ (s.closed.map .bool)).1,(pY 1 σ (s.closed.map .bool)).2):=fun σ=>E9 ⟨rfl,yW _,by simp[room];omega,by simp[room];omega⟩
         have b1:∀ (σ:St),dK 1 1 (pY 1 σ (s.closed.map .bool)).2 (pY 1 σ (s.closed.map .bool)).1 (.lit [.bool b] true none)=some (.lit (s.closed.map .bool++[.bool b]) false (some σ.length),σ++[.tok 1 (s.closed.length+1) true]):=fun σ=>by
          rw[yA ⟨yW _,by simp[aM,AV.cells,AV.cell],by simp[room];omega,by simp[room];omega⟩ (by simp)];simp
         have a0:∀ (σ:St),dK 1 8 σ (.lit [] true none) (.lit (s.mins.map (.int .i64)) false none)=some ((pY 1 σ (s.mins.map (.int .i64))).1,(pY 1 σ (s.mins.map (.int .i64))).2):=fun σ=>E9 ⟨rfl,jW _,by simp[room];omega,by simp[room];omega⟩
         have a1:∀ (σ:St),dK 1 8 (pY 1 σ (s.mins.map (.int .i64))).2 (pY 1 σ (s.mins.map (.int .i64))).1 (.lit [.int .i64 m] true none)=some (.lit (s.mins.map (.int .i64)++[.int .i64 m]) false (some σ.length),σ++[.tok 1 (s.mins.length+1) true]):=fun σ=>by
          rw[yA ⟨jW _,by simp[aM,AV.cells,AV.cell],by simp[room];omega,by simp[room];omega⟩ (by simp)];simp
         have a2:=fun (b0 b1:ABlk) (τ:St) (t u:Nat)=>kC (σ:=b0::b1::.tok 2 acc.length ex::τ) (t:=2) (ex:=ex) (sz:=2) (b:=48) (xs:=acc.map eU) (ys:=[.agg [.lit (s.closed.map .bool++[.bool b]) false (some t),.lit (s.mins.map (.int .i64)++[.int .i64 m]) false (some u)]]) (f:=true) (tk:=none) ⟨vA acc,by simp[aM,bV,AV.cells,AV.cell],by simp[room];omega,by simp[room];omega⟩ (by simp) acc.length (by simp) rfl
         have yes:yO r.shut b=true->(acc++[(⟨s.closed++[b],s.mins++[m]⟩:State)])++(R0 r s m (c+1)++G)=X:=fun q=>by
          rw[q] at hacc;rw[<-hacc];simp[R0]
         have no:yO r.shut b=false->acc++(R0 r s m (c+1)++G)=X:=fun q=>by
          rw[q] at hacc;rw[<-hacc];simp[R0]
         try simp only[↓QA,QB,seval,d9,encState_eq,S_mapState,hb]
         cases b
         ·cases q1:(r.shut==1)
          ·have hy:=yes (by rw[hcan,q1];simp);try simp only[↓QA,QB,seval,d9,encState_eq,S_mapState,q1]
           refine rO [.cells [.lit [] true none,.lit [] true none]] rfl ?_;try simp only[↓QA,QB,seval,d9,encState_eq,S_mapState,hk1,hs,ints,b0,b1,a0,a1,a2]
           refine⟨(c+1,acc++[⟨s.closed++[false],s.mins++[m]⟩],true),⟨by simp only;omega,hy⟩,by simp only;omega,?_⟩;try simp only[aB,QE,seval,d9,encState_eq,S_mapState,hwc,statesAV_eq,ints,HU,List.map_append,List.map_cons,List.map_nil]
           try simp[aF]
          ·have hy:=no (by rw[hcan,q1];simp);try simp only[↓QA,QB,seval,d9,encState_eq,S_mapState,q1]
           refine⟨(c+1,acc,ex),⟨by simp only;omega,hy⟩,by simp only;omega,?_⟩;try simp only[aB,QE,seval,d9,encState_eq,S_mapState,hwc,statesAV_eq,ints]
           try simp[aF]
         ·cases q1:(r.shut==0)
          ·have hy:=yes (by rw[hcan,q1];simp);try simp only[↓QA,QB,seval,d9,encState_eq,S_mapState,q1]
           refine rO [.cells [.lit [] true none,.lit [] true none]] rfl ?_;try simp only[↓QA,QB,seval,d9,encState_eq,S_mapState,hk1,hs,ints,b0,b1,a0,a1,a2]
           refine⟨(c+1,acc++[⟨s.closed++[true],s.mins++[m]⟩],true),⟨by simp only;omega,hy⟩,by simp only;omega,?_⟩;try simp only[aB,QE,seval,d9,encState_eq,S_mapState,hwc,statesAV_eq,ints,HU,List.map_append,List.map_cons,List.map_nil]
           try simp[aF]
          ·have hy:=no (by rw[hcan,q1];simp);try simp only[↓QA,QB,seval,d9,encState_eq,S_mapState,q1]
           refine⟨(c+1,acc,ex),⟨by simp only;omega,hy⟩,by simp only;omega,?_⟩;try simp only[aB,QE,seval,d9,encState_eq,S_mapState,hwc,statesAV_eq,ints]
           try simp[aF]
        ·have hc2:c=2:=by
          have h0:¬(c:Int)<2:=by simpa using h4
          omega
         subst hc2;have he:R0 r s m 2=[]:=rfl;rw[he,List.nil_append,<-hG] at hacc;try simp only[↓QA,QB,seval,d9,encState_eq,S_mapState,hwm]
         refine⟨(m+1,acc,ex,τ),⟨by simp only;omega,by simp only;omega,hacc⟩,by simp only;omega,?_⟩;try simp only[aB,QE,seval,d9,encState_eq,S_mapState,hwm,statesAV_eq,ints]
         try simp[aF]
      ·have hm2:¬m<=r.mins.hi:=by simpa using h3
       rw[qX hm2] at hacc;simp only[List.flatMap_nil,List.nil_append] at hacc;try simp only[↓QA,QB,seval,d9,encState_eq,S_mapState,hwk]
       refine⟨(k+1,acc,ex),⟨by simp only;omega,by rw[hF];exact hacc⟩,by simp only;omega,?_⟩;try simp only[aB,QE,seval,d9,encState_eq,S_mapState,hwk,statesAV_eq,ints]
       try simp[aF]
    ·have hk1:k=W.length:=by simp at h2;omega
     rw[hk1,List.drop_length] at hacc;simp only[List.flatMap_nil,List.append_nil] at hacc;subst hacc;try simp only[↓QA,QB,seval,d9,encState_eq,S_mapState,hwn]
     refine⟨n+1,by omega,by omega,?_⟩;try simp only[aB,QE,seval,d9,encState_eq,S_mapState,hwn,hsu,statesAV_eq,ints]
     try simp[aF]
  ·have hn1:n=v.rails.length:=by simp at h;omega
   subst hn1;try simp only[↓QA,QB,seval,d9,encState_eq,S_mapState,statesAV_eq]
   try try simp only[QS,QC,seval,d9,encState_eq,S_mapState]
end Go.Am.Room.Tr
