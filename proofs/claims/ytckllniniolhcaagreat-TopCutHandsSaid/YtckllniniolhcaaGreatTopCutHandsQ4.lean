/- A part of the proof of TopCutHands: an abstract machine, or what functions come to on it. -/
import Derived.Test.YtckllniniolhcaaGreatTopCutHandsQ3
open Nat (reduceLT reduceEqDiff reduceAdd reduceLeDiff reduceMul)
set_option linter.unusedVariables false
set_option linter.unusedSimpArgs false
set_option linter.defProp false
set_option maxRecDepth 8000
namespace Go.Am.Room.Ha
def mK:=zz @encGd_eq (zz @encBn_eq (zz @encCt_eq (zz @aR (zz @S_mapGd (zz @S_mapBn (zz @S_mapCt (zz @List.length_append.{0} (zz @rQ (zz @rP (zz @rO (zz @rM (zz @rN (zz @Nat.mul_one (zz @Int.toNat_natCast (zz @kY (zz @kQ (zz @tQ (zz @t9 (zz @eM (zz @fV (zz @fU (zz @fT (zz @lV (@O3))))))))))))))))))))))))
theorem six:[SK.i,.i,.i,.i,.i,.i]=List.replicate 6 .i:=rfl
structure HFam {Y:Type} (Z:Y->St) (l:HLot) (m p q N:Nat):Prop where
 lat:LAt Z l m p N
 atq:∀ z τ,aM (Z z++τ) q=some [.ptr p 0]
namespace HFam
variable {Y:Type} {Z:Y->St} {l:HLot} {m p q N:Nat}
theorem len(h:HFam Z l m p q N)(z:Y):(Z z).length=N:=h.lat.len z
theorem atp(h:HFam Z l m p q N)(z:Y)(τ:St):aM (Z z++τ) p=some (lb l m):=h.lat.atp z τ
theorem base(h:HFam Z l m p q N)(z:Y)(τ:St)(k:Nat):aM (Z z++τ) (N+k)=aM τ k:=h.lat.base z τ k
theorem base0(h:HFam Z l m p q N)(z:Y)(τ:St):aM (Z z++τ) N=aM τ 0:=h.lat.base0 z τ
theorem bset(h:HFam Z l m p q N)(z:Y)(τ:St)(k:Nat)(y:ABlk):(Z z++τ).set (N+k) y=Z z++τ.set k y:=h.lat.bset z τ k y
theorem bset0(h:HFam Z l m p q N)(z:Y)(τ:St)(y:ABlk):(Z z++τ).set N y=Z z++τ.set 0 y:=h.lat.bset0 z τ y
end HFam
def lQ(q N:Nat):AV:=.func 375 [] [.ptr q 0,.ptr (N+2) 0,.ptr (N+3) 0,.ptr (N+1) 0,.ptr N 0,.ptr (N+4) 0]
theorem iA(q N:Nat):lQ q N = .func 375 [] [.ptr q 0,.ptr (N+2) 0,.ptr (N+3) 0,.ptr (N+1) 0,.ptr N 0,.ptr (N+4) 0]:=by simp only[lQ]
def jP(id p q N:Nat)(A la:Nat->Int):St:=[.cells [.yield id],.cells [.func 374 [.ptr p 0] []],.cells (bP 6 A),.cells (bP 6 la),.cells [lQ q N]]
theorem eD(id p q N:Nat)(A la:Nat->Int)(τ:St):jP id p q N A la++τ = .cells [.yield id]::.cells [.func 374 [.ptr p 0] []]::.cells (bP 6 A)::.cells (bP 6 la)::.cells [lQ q N]::τ:=by simp[jP]
def Agr(c:HLot)(l:List Int)(A:Nat->Int):Prop:=(∀ j,j<l.length->A j=gF l j)/\∀ j,c.bunches.length<=j->A j=0
theorem SU{c:HLot}{l:List Int}{A:Nat->Int}(h:Agr c l A)(hl:l.length<c.bunches.length)(n:Int):Agr c (l++[n]) (jD A l.length n):=by
 refine⟨fun j hj=>?_,fun j hj=>?_⟩
 ·simp only[jD];by_cases e:j=l.length
  ·subst e;simp[gF]
  ·have:j<l.length:=by simp at hj;omega
   rw[if_neg e,h.1 j this];simp[gF,List.getElem?_append_left this]
 ·simp only[jD];rw[if_neg (by omega)];exact h.2 j hj
theorem YM{c:HLot}{l:List Int}{n:Int}{A:Nat->Int}(h:Agr c (l++[n]) A):Agr c l A:=by
 refine⟨fun j hj=>?_,h.2⟩;rw[h.1 j (by simp;omega)];simp[gF,List.getElem?_append_left hj]
theorem aB8{c:HLot}{l:List Int}{A:Nat->Int}(h:Agr c l A)(hl:l.length=c.bunches.length):bP 6 A=bP 6 (gF l):=by
 refine NO fun j _=>?_
 by_cases hj:j<l.length
 ·exact h.1 j hj
 ·rw[h.2 j (by omega),aDP (by omega)]
def pE{Y:Type}(Z ZD:Y->St)(c:HLot)(id p q N:Nat)(l:List Int)(τ:St)(r:((Nat->Int)×Y)×Bool)(o:Out):Prop :=
 o.v = .bool r.2/\∃ A τ',o.σ=j3 Z ZD (r.1.2,r.2)++(jP id p q N A r.1.1++(τ++τ'))/\(r.2=true->Agr c l A)
def WQ{Y:Type}(Z:Y->St)(c:HLot)(f:List Int->Y->Y×Bool)(id p q N:Nat)(l:List Int)(lo H:Int)(rs:List (List Int))(τ:St)(R:((Nat->Int)×Y)×Bool)(k:Nat)(e:Env)(σ:St):Prop :=
 Env.get e 0 = .int .i64 l.length/\Env.get e 2 = .ptr (N+2) 0/\Env.get e 6 = .ptr (N+4) 0/\∃ n la z A τ1,Env.get e 9 = .ptr (N+(τ.length+1+1+1+1+1)) 0/\Env.get e 10 = .int .i64 n/\lo<=n/\n<=H+1/\k=(H+1-n).toNat/\Agr c l A /\
   σ=Z z++(jP id p q N A la++(τ++(.cells [.int .i64 lo,.int .i64 H]::τ1)))/\bK (vK c f) ((aW n k).flatMap fun n=>lv rs (l++[n])) (la,z)=R
theorem P8{Y:Type}{Z ZD:Y->St}{c:HLot}{m p q N id:Nat}(hR:HFam Z c m p q N)(f:List Int->Y->Y×Bool)(hy:mN Z ZD id (fun t=>[.agg (bP 6 (gF t))]) (WOk c) f)(hv:Vd c)(l:List Int)(la:Nat->Int)(z:Y)(A:Nat->Int)(τ:St)(hl:l.length=c.bunches.length)(hA:Agr c l A)(hbd:∀ x∈l,1<=x/\x<=12):
  Run T (.callv (lQ q N) [.int .i64 l.length] (Z z++(jP id p q N A la++τ))) (pE Z ZD c id p q N l τ (vK c f l (la,z))):=by
 have hnl:=hv.nbn;have hke:=aB8 hA hl;have hsoA:=aGQ c (p:=l) (by omega);have hse:=fun τ=>aF3 (hR.lat.app τ) hv z (gF l) fun i=>gF_bd hbd i
 have hcall:∀ x τ,Run T (.callv (.yield id) [.agg (bP 6 (gF l))] (Z x++τ)) fun o=>o.v = .bool (f l x).2/\∃ τ',o.σ=j3 Z ZD (f l x)++(τ++τ'):=hy l ⟨hl,hbd⟩
 have hE:((l.length:Int)==(c.bunches.length:Int))=true:=by rw[hl];simp
 have hfin:∀ (z:Y) (la:Nat->Int) (τ:St),Z z++(.cells [.yield id]::.cells [.func 374 [.ptr p 0] []]::.cells (bP 6 (gF l))::.cells (bP 6 la)::.cells [lQ q N]::τ)=Z z++(jP id p q N A la++τ):=fun z la τ=>by rw[eD,hke]
 have heq:=HA 6 (gF l) la;have hdq:(List.range 6).all (fun i=>gF l i==la i)=rF l la:=rfl;rw[hdq] at heq;have hon:vK c f l (la,z)=if (decide (0<c.bunches.length)&&rF l la)=true then ((la,z),true) else if uH c l=true then ((gF l,(f l z).1),(f l z).2) else ((la,z),true):=rfl
 have hlz:decide (0<(l.length:Int))=decide (0<c.bunches.length):=by rw[hl,Bool.eq_iff_iff];simp
 obtain⟨R,hRR⟩:∃ R,vK c f l (la,z)=R:=⟨_,rfl⟩;rw[hRR] at hon ⊢;rw[hsoA] at hse;rw[eD,hke];simp only[iA] at hfin ⊢;obtain⟨E,hEq⟩:∃ E,rF l la=E:=⟨_,rfl⟩;obtain⟨B,hB⟩:∃ B,uH c l=B:=⟨_,rfl⟩;obtain⟨P,hP⟩:∃ P,decide (0<c.bunches.length)=P:=⟨_,rfl⟩;rw[hP] at hlz;rw[hEq] at heq;rw[hB] at hse;rw[hP,hEq,hB] at hon;refine .callf (.call (af:=a375) rfl (by simp[a375]) (eP (K:=fun j e σ'=>(j=none\/j=some .ret)/\pE Z ZD c id p q N l τ R ⟨none,[],σ',Env.get e 8⟩) ?_ fun o ho=>ho) fun w hw=>⟨hw.1,_,rfl,.inl hw.2⟩);have yes:(P&&E)=true->∀ e:Env,pE Z ZD c id p q N l τ R ⟨none,[],Z z++(.cells [.yield id]::.cells [.func 374 [.ptr p 0] []]::.cells (bP 6 (gF l))::.cells (bP 6 la)::.cells [lQ q N]::τ),.bool true⟩:=fun h e=>by
  rw[if_pos h] at hon;rw[hon];refine⟨rfl,A,[],?_,fun _=>hA⟩;simp only[j3,if_true,List.append_nil];simp only[iA];exact hfin _ _ _
 have no:(P&&E)=false->B=false->pE Z ZD c id p q N l τ R ⟨none,[],Z z++(.cells [.yield id]::.cells [.func 374 [.ptr p 0] []]::.cells (bP 6 (gF l))::.cells (bP 6 la)::.cells [lQ q N]::τ),.bool true⟩:=fun h h2=>by
  rw[if_neg (by rw[h];simp),if_neg (by rw[h2];simp)] at hon;rw[hon];refine⟨rfl,A,[],?_,fun _=>hA⟩;simp only[j3,if_true,List.append_nil];simp only[iA];exact hfin _ _ _
 have go:(P&&E)=false->B=true->∀ w:Out,w.v = .bool (f l z).2->(∃ τ',w.σ=j3 Z ZD (f l z)++((.cells [.yield id]::.cells [.func 374 [.ptr p 0] []]::.cells (bP 6 (gF l))::.cells (bP 6 (gF l))::.cells [lQ q N]::τ)++τ'))->pE Z ZD c id p q N l τ R ⟨none,[],w.σ,w.v⟩:=fun h h2 w hw1 hw2=>by
  rw[if_neg (by rw[h];simp),if_pos h2] at hon;rw[hon];obtain⟨τ',hw2⟩:=hw2;refine⟨hw1,A,τ',?_,fun _=>hA⟩;rw[hw2,eD,hke];simp
 simp only[iA] at yes no go;cases P
 ·(repeat (first|simp only[↓QA,QB,reduceLT,reduceIte,reduceEqDiff,reduceAdd,reduceLeDiff,reduceMul,Nat.reduceBEq,mK,hR.base,hR.base0,hR.bset,hR.bset0,hR.atp,hR.atq,six,a375,hE,hlz]|refine rd0 rfl ?_))
  (first|refine aT (hse _) ?_|refine iU (hse _) ?_)
  cases B
  ·(repeat (first|simp only[↓QA,QB,reduceLT,reduceIte,reduceEqDiff,reduceAdd,reduceLeDiff,reduceMul,Nat.reduceBEq,mK,hR.base,hR.base0,hR.bset,hR.bset0,hR.atp,hR.atq,six]|refine rd0 rfl ?_))
   exact no rfl rfl
  ·(repeat (first|simp only[↓QA,QB,reduceLT,reduceIte,reduceEqDiff,reduceAdd,reduceLeDiff,reduceMul,Nat.reduceBEq,mK,hR.base,hR.base0,hR.bset,hR.bset0,hR.atp,hR.atq,six]|refine rd0 rfl ?_))
   refine .mono (hcall z _) fun w hw=>?_
   (repeat (first|simp only[↓QA,QB,reduceLT,reduceIte,reduceEqDiff,reduceAdd,reduceLeDiff,reduceMul,Nat.reduceBEq,mK,hR.base,hR.base0,hR.bset,hR.bset0,hR.atp,hR.atq,six]|refine rd0 rfl ?_))
   exact go rfl rfl w hw.1 hw.2
 ·cases E
  ·(repeat (first|simp only[↓QA,QB,reduceLT,reduceIte,reduceEqDiff,reduceAdd,reduceLeDiff,reduceMul,Nat.reduceBEq,mK,hR.base,hR.base0,hR.bset,hR.bset0,hR.atp,hR.atq,six,a375,hE,hlz,heq]|refine rd0 rfl ?_))
   (first|refine aT (hse _) ?_|refine iU (hse _) ?_)
   cases B
   ·(repeat (first|simp only[↓QA,QB,reduceLT,reduceIte,reduceEqDiff,reduceAdd,reduceLeDiff,reduceMul,Nat.reduceBEq,mK,hR.base,hR.base0,hR.bset,hR.bset0,hR.atp,hR.atq,six]|refine rd0 rfl ?_))
    exact no rfl rfl
   ·(repeat (first|simp only[↓QA,QB,reduceLT,reduceIte,reduceEqDiff,reduceAdd,reduceLeDiff,reduceMul,Nat.reduceBEq,mK,hR.base,hR.base0,hR.bset,hR.bset0,hR.atp,hR.atq,six]|refine rd0 rfl ?_))
    refine .mono (hcall z _) fun w hw=>?_
    (repeat (first|simp only[↓QA,QB,reduceLT,reduceIte,reduceEqDiff,reduceAdd,reduceLeDiff,reduceMul,Nat.reduceBEq,mK,hR.base,hR.base0,hR.bset,hR.bset0,hR.atp,hR.atq,six]|refine rd0 rfl ?_))
    exact go rfl rfl w hw.1 hw.2
  ·(repeat (first|simp only[↓QA,QB,reduceLT,reduceIte,reduceEqDiff,reduceAdd,reduceLeDiff,reduceMul,Nat.reduceBEq,mK,hR.base,hR.base0,hR.bset,hR.bset0,hR.atp,hR.atq,six,a375,hE,hlz,heq]|refine rd0 rfl ?_))
   exact yes rfl []
end Go.Am.Room.Ha
namespace Go.Am.Room.Ha
def eS:=zz @encGd_eq (zz @encBn_eq (zz @encCt_eq (zz @aR (zz @S_mapGd (zz @S_mapBn (zz @S_mapCt (zz @List.length_append.{0} (zz @rQ (zz @rP (zz @rO (zz @rM (zz @rN (zz @Nat.mul_one (zz @Int.toNat_natCast (zz @kY (zz @kQ (zz @tQ (zz @t9 (zz @eM (zz @fV (zz @fU (zz @fT (zz @lV (zz @O3 (@six)))))))))))))))))))))))))
theorem V5{n H:Int}(h:n<=H):aW n (H+1-n).toNat=n::aW (n+1) (H+1-(n+1)).toNat:=by
 rw[show (H+1-n).toNat=(H+1-(n+1)).toNat+1 by omega];rfl
theorem ZO{n H:Int}(h:¬n<=H):aW n (H+1-n).toNat=[]:=by
 rw[show (H+1-n).toNat=0 by omega];rfl
theorem sY{Y:Type}{Z ZD:Y->St}{c:HLot}{m p q N id:Nat}(hR:HFam Z c m p q N)(f:List Int->Y->Y×Bool)(hy:mN Z ZD id (fun t=>[.agg (bP 6 (gF t))]) (WOk c) f)(hv:Vd c):∀ (rs:List (List Int)) (l:List Int) (la:Nat->Int) (z:Y) (A:Nat->Int) (τ:St),rs=(gis c).drop l.length->l.length<=c.bunches.length->Agr c l A->(∀ x∈l,1<=x/\x<=12) ->
  Run T (.callv (lQ q N) [.int .i64 l.length] (Z z++(jP id p q N A la++τ))) (pE Z ZD c id p q N l τ (bK (vK c f) (lv rs l) (la,z)))
 |[],l,la,z,A,τ,hrs,hl,hA,hbd=>by
  have hl2:l.length=c.bunches.length:=by
   have:=congrArg List.length hrs;simp[A6] at this;omega
  have e:bK (vK c f) (lv [] l) (la,z)=vK c f l (la,z):=D7 _ _ _;rw[e];exact P8 hR f hy hv l la z A τ hl2 hA hbd
 |xs::rs,l,la,z,A,τ,hrs,hl,hA,hbd=>by
  have hlt:l.length<c.bunches.length:=by
   have:=congrArg List.length hrs;simp[A6] at this;omega
  have hnl:=hv.nbn;rw[JL hlt] at hrs;have hxs:=(List.cons.inj hrs).1;have hrs2:=(List.cons.inj hrs).2;rw[EI hlt] at hxs;obtain⟨hlb,_⟩:=hv.bn _ (List.getElem_mem hlt);obtain⟨x,hx⟩:∃ x,c.bunches[l.length]=x:=⟨_,rfl⟩;rw[hx] at hxs hlb;obtain⟨L,hL⟩:∃ L,x.hands.lo=L:=⟨_,rfl⟩;obtain⟨H,hH⟩:∃ H,x.hands.hi=H:=⟨_,rfl⟩;rw[hL,hH] at hxs hlb;have hE:((l.length:Int)==(c.bunches.length:Int))=false:=by simp;omega
  have il:(0:Int)<=(l.length:Int)/\(l.length:Int)<((6:Nat):Int):=⟨by omega,by omega⟩;have c5:l.length<=5:=by omega
  have hwd:IntKind.i64.wrap ((l.length:Int)+1)=((l.length+1:Nat):Int):=bJ hlt (by omega)
  have ih:=fun (n:Int) (hn:L<=n/\n<=H) (la:Nat->Int) (z:Y) (A:Nat->Int) (hA:Agr c l A) (τ:St)=>sY hR f hy hv rs (l++[n]) la z (jD A l.length n) τ (by rw[hrs2];simp) (by simp;omega) (SU hA hlt n) (fun y hy=>by
   rcases List.mem_append.1 hy with h|h
   ·exact hbd y h
   ·have:y=n:=by simpa using h
    omega)
  obtain⟨R,hRR⟩:∃ R,bK (vK c f) (lv (xs::rs) l) (la,z)=R:=⟨_,rfl⟩;rw[hRR];simp only[lv,hxs] at hRR;simp only[iA];refine .callf (.call (af:=a375) rfl (by simp[a375]) (eP (K:=fun j e σ'=>(j=none\/j=some .ret)/\pE Z ZD c id p q N l τ R ⟨none,[],σ',Env.get e 8⟩) ?_ fun o ho=>ho) fun w hw=>⟨hw.1,_,rfl,.inl hw.2⟩);rw[eD];have loop:∀ (e:Env) (K:KJ) (τ0:St),Env.get e 0 = .int .i64 l.length->Env.get e 2 = .ptr (N+2) 0->Env.get e 6 = .ptr (N+4) 0->Env.get e 9 = .ptr (N+(τ.length+1+1+1+1+1)) 0->Env.get e 10 = .int .i64 L->τ0=τ++[.cells [.int .i64 L,.int .i64 H]] ->
    (∀ j e' σ',pE Z ZD c id p q N l τ R ⟨none,[],σ',.bool R.2⟩->(j=some .ret/\Env.get e' 8 = .bool R.2\/j=some (.exit 0)/\R.2=true)->K j e' σ') ->
    rK (K:=⟨K⟩) T (.loop MW) e (Z z++(jP id p q N A la++τ0)):=by
   intro e K τ0 e0 e2 e6 e9 e10 hτ0 hK;refine XC (WQ Z c f id p q N l L H rs τ R) ?_ (H+1-L).toNat _ _ ?_
   ·rintro k e σ ⟨e0,e2,e6,n,la,z,A,τ1,e9,e10,hn0,hn1,hk,hA,rfl,hq⟩;subst hk;have hst:=wJ 6 A n (i:=l.length) (by omega);rw[eD]
    (repeat (first|simp only[↓QA,QB,reduceLT,reduceIte,reduceEqDiff,reduceAdd,reduceLeDiff,reduceMul,Nat.reduceBEq,eS,hR.base,hR.base0,hR.bset,hR.bset0,hR.atp,hR.atq,MW,e0,e2,e6,e9,e10]|refine rd0 rfl ?_))
    refine aF (fun h=>?_) fun h=>?_
    ·have hn2:n<=H:=by simpa using h
     have hwn:IntKind.i64.wrap (n+1)=n+1:=bL ⟨by omega,by omega⟩;rw[V5 hn2,List.flatMap_cons,yC] at hq;have hcl:=ih n ⟨hn0,hn2⟩ la z A hA (τ++(.cells [.int .i64 L,.int .i64 H]::τ1));simp only[eD,iA,List.length_append,List.length_cons,List.length_nil,Nat.zero_add] at hcl;obtain⟨r,hr⟩:∃ r,bK (vK c f) (lv rs (l++[n])) (la,z)=r:=⟨_,rfl⟩;rw[hr] at hq hcl;simp only[iA]
     (repeat (first|simp only[↓QA,QB,reduceLT,reduceIte,reduceEqDiff,reduceAdd,reduceLeDiff,reduceMul,Nat.reduceBEq,eS,hR.base,hR.base0,hR.bset,hR.bset0,hR.atp,hR.atq,e0,e2,e6,e9,e10,il,c5,Nat.zero_add,hst,hwd]|refine rd0 rfl ?_))
     refine .mono hcl fun w hw=>?_
     obtain⟨hw1,A',τ',hw2,hw3⟩:=hw;rw[hw1,hw2];cases hr2:r.2
     ·rw[hr2] at hq;simp only[Bool.false_eq_true,if_false] at hq
      (repeat (first|simp only[↓QA,QB,reduceLT,reduceIte,reduceEqDiff,reduceAdd,reduceLeDiff,reduceMul,Nat.reduceBEq,eS,hR.base,hR.base0,hR.bset,hR.bset0,hR.atp,hR.atq,e0,e2,e6,e9,e10]|refine rd0 rfl ?_))
      have hR2:R.2=false:=by rw[<-hq]
      refine hK _ _ _ ⟨rfl,A',.cells [.int .i64 L,.int .i64 H]::(τ1++τ'),?_,fun h=>?_⟩ (.inl ⟨rfl,?_⟩)
      ·rw[<-hq];try simp[j3]
      ·simp[hR2] at h
      ·try simp only[aD,QE,reduceLT,reduceIte,reduceEqDiff,reduceAdd,reduceLeDiff,reduceMul,Nat.reduceBEq,eS,hR.base,hR.base0,hR.bset,hR.bset0,hR.atp,hR.atq,hR2]
     ·rw[hr2] at hq;simp only[if_true] at hq;have hA':=YM (hw3 hr2);simp only[j3,if_true];rw[eD];simp only[List.append_assoc,List.cons_append]
      (repeat (first|simp only[↓QA,QB,reduceLT,reduceIte,reduceEqDiff,reduceAdd,reduceLeDiff,reduceMul,Nat.reduceBEq,eS,hR.base,hR.base0,hR.bset,hR.bset0,hR.atp,hR.atq,e0,e2,e6,e9,e10,hwn]|refine rd0 rfl ?_))
      refine⟨(H+1-(n+1)).toNat,by omega,?_,?_,?_,n+1,r.1.1,r.1.2,A',τ1++τ',?_,?_,by omega,by omega,rfl,hA',?_,hq⟩
      ·try simp only[aD,QE,reduceLT,reduceIte,reduceEqDiff,reduceAdd,reduceLeDiff,reduceMul,Nat.reduceBEq,eS,hR.base,hR.base0,hR.bset,hR.bset0,hR.atp,hR.atq,e0]
      ·try simp only[aD,QE,reduceLT,reduceIte,reduceEqDiff,reduceAdd,reduceLeDiff,reduceMul,Nat.reduceBEq,eS,hR.base,hR.base0,hR.bset,hR.bset0,hR.atp,hR.atq,e2]
      ·try simp only[aD,QE,reduceLT,reduceIte,reduceEqDiff,reduceAdd,reduceLeDiff,reduceMul,Nat.reduceBEq,eS,hR.base,hR.base0,hR.bset,hR.bset0,hR.atp,hR.atq,e6]
      ·try simp only[aD,QE,reduceLT,reduceIte,reduceEqDiff,reduceAdd,reduceLeDiff,reduceMul,Nat.reduceBEq,eS,hR.base,hR.base0,hR.bset,hR.bset0,hR.atp,hR.atq,e9]
      ·try simp only[aD,QE,reduceLT,reduceIte,reduceEqDiff,reduceAdd,reduceLeDiff,reduceMul,Nat.reduceBEq,eS,hR.base,hR.base0,hR.bset,hR.bset0,hR.atp,hR.atq]
      ·rw[eD]
    ·have hn2:¬n<=H:=by simpa using h
     rw[ZO hn2] at hq;simp only[List.flatMap_nil,bK] at hq
     (repeat (first|simp only[↓QA,QB,reduceLT,reduceIte,reduceEqDiff,reduceAdd,reduceLeDiff,reduceMul,Nat.reduceBEq,eS,hR.base,hR.base0,hR.bset,hR.bset0,hR.atp,hR.atq,e0,e2,e6,e9,e10]|refine rd0 rfl ?_))
     have hR2:R.2=true:=by rw[<-hq]
     refine hK _ _ _ ⟨rfl,A,.cells [.int .i64 L,.int .i64 H]::τ1,?_,fun h=>hA⟩ (.inr ⟨rfl,hR2⟩);rw[<-hq];simp[j3,jP,lQ]
   ·refine⟨e0,e2,e6,L,la,z,A,[],e9,e10,Int.le_refl _,by omega,rfl,hA,?_,hRR⟩;rw[hτ0]
  have hln:=hR.len z
  (repeat (first|simp only[↓QA,QB,reduceLT,reduceIte,reduceEqDiff,reduceAdd,reduceLeDiff,reduceMul,Nat.reduceBEq,eS,hR.base,hR.base0,hR.bset,hR.bset0,hR.atp,hR.atq,a375,hE,hlt,hx,hln,hL,hH]|refine rd0 rfl ?_))
  have lp:=loop;simp only[eD] at lp;refine lp _ _ _ ?_ ?_ ?_ ?_ ?_ ?_ fun j e' σ' hj hk=>?_
  ·try simp only[aD,QE,reduceLT,reduceIte,reduceEqDiff,reduceAdd,reduceLeDiff,reduceMul,Nat.reduceBEq,eS,hR.base,hR.base0,hR.bset,hR.bset0,hR.atp,hR.atq]
  ·try simp only[aD,QE,reduceLT,reduceIte,reduceEqDiff,reduceAdd,reduceLeDiff,reduceMul,Nat.reduceBEq,eS,hR.base,hR.base0,hR.bset,hR.bset0,hR.atp,hR.atq]
  ·try simp only[aD,QE,reduceLT,reduceIte,reduceEqDiff,reduceAdd,reduceLeDiff,reduceMul,Nat.reduceBEq,eS,hR.base,hR.base0,hR.bset,hR.bset0,hR.atp,hR.atq]
  ·try simp only[aD,QE,reduceLT,reduceIte,reduceEqDiff,reduceAdd,reduceLeDiff,reduceMul,Nat.reduceBEq,eS,hR.base,hR.base0,hR.bset,hR.bset0,hR.atp,hR.atq]
  ·try simp only[aD,QE,reduceLT,reduceIte,reduceEqDiff,reduceAdd,reduceLeDiff,reduceMul,Nat.reduceBEq,eS,hR.base,hR.base0,hR.bset,hR.bset0,hR.atp,hR.atq]
  ·rfl
  ·rcases hk with⟨rfl,hk⟩|⟨rfl,hk⟩
   ·(repeat (first|simp only[↓QA,QB,reduceLT,reduceIte,reduceEqDiff,reduceAdd,reduceLeDiff,reduceMul,Nat.reduceBEq,eS,hR.base,hR.base0,hR.bset,hR.bset0,hR.atp,hR.atq]|refine rd0 rfl ?_))
    rw[hk];exact hj
   ·(repeat (first|simp only[↓QA,QB,reduceLT,reduceIte,reduceEqDiff,reduceAdd,reduceLeDiff,reduceMul,Nat.reduceBEq,eS,hR.base,hR.base0,hR.bset,hR.bset0,hR.atp,hR.atq]|refine rd0 rfl ?_))
    rw[hk] at hj;exact hj
theorem PW{Y:Type}{Z ZD:Y->St}{c:HLot}{m p q N id:Nat}(hR:HFam Z c m p q N)(f:List Int->Y->Y×Bool)(hy:mN Z ZD id (fun t=>[.agg (bP 6 (gF t))]) (WOk c) f)(hv:Vd c)(z:Y):
  Run T (.call 373 [.yield id,.ptr q 0] (Z z)) fun o=>∃ τ',o.σ=j3 Z ZD (bK f (waysOf c) z)++τ':=by
 have hl:=hR.len z;obtain⟨ho1,ho2⟩:=SH hv f z;have hcl:=sY hR f hy hv (gis c) [] (fun _=>0) z (fun _=>0) [] (by simp) (by simp) ⟨fun j hj=>by simp at hj,fun j hj=>rfl⟩ (fun y hy=>by simp at hy);rw[aFE] at hcl;obtain⟨R,hRR⟩:∃ R,bK (vK c f) (iO c) (fun _=>0,z)=R:=⟨_,rfl⟩;rw[hRR] at ho1 ho2 hcl;have he:(R.1.2,R.2)=bK f (waysOf c) z:=Prod.ext ho1 ho2;simp only[eD,iA,List.length_nil,SN] at hcl;refine .call (af:=a373) rfl (by simp[a373]) (eP (K:=fun j e σ'=>(j=none\/j=some .ret)/\∃ τ',σ'=j3 Z ZD (bK f (waysOf c) z)++τ') ?_ fun o ho=>ho) fun o ho=>⟨ho.1,_,rfl,.inl ho.2⟩
 try simp only[↓QA,QB,seval,eS,hR.base,hR.base0,hR.bset,hR.bset0,hR.atp,hR.atq,a373,hl]
 refine .mono hcl fun w hw=>?_
 obtain⟨hw1,A',τ',hw2,hw3⟩:=hw;rw[hw1,hw2];try simp only[↓QA,QB,seval,eS,hR.base,hR.base0,hR.bset,hR.bset0,hR.atp,hR.atq]
 exact⟨_,by rw[he]⟩
end Go.Am.Room.Ha
namespace Go.Am.Room.Ha
def eF:=zz @encGd_eq (zz @encBn_eq (zz @encCt_eq (zz @aR (zz @S_mapGd (zz @S_mapBn (zz @S_mapCt (zz @List.length_append.{0} (zz @rQ (zz @rP (zz @rO (zz @rM (zz @rN (zz @Nat.mul_one (zz @Int.toNat_natCast (zz @eJ (zz @Nat.add_lt_add_iff_left (@Nat.lt_add_right_iff_pos)))))))))))))))))
theorem OM(z v:AV):OQ false z (some (some v))=some v:=rfl
theorem N9(z:AV):OQ false z (some none)=some z:=rfl
def P2(h s:Int)(g:Gd):Bool:=decide (g.hands<=h)&&decide (s<=g.scars)
def AE(c:HLot)(h s:Int):Int:=Fa.idxOf (P2 h s) c.grades 0
theorem T5{α:Type}(p:α->Bool):∀ (l:List α) (k:Nat),-1<=Fa.idxOf p l k/\Fa.idxOf p l k<=k+l.length
 |[],k=>by simp[Fa.idxOf]
 |x::xs,k=>by
  have:=T5 p xs (k+1);simp only[Fa.idxOf,List.length_cons];split<;>omega
theorem OA{c:HLot}(hv:Vd c)(h s:Int):-1<=AE c h s/\AE c h s<=4:=by
 have:=T5 (P2 h s) c.grades 0;have:=hv.ngr;unfold AE;omega
def vT(c:HLot)(h lo:Int):Nat->Nat
 |0=>0
 |n+1=>vT c h lo n|||2^(AE c h (lo+n)+1).toNat
theorem GR{c:HLot}(hv:Vd c)(h lo:Int):∀ n,vT c h lo n<64
 |0=>by simp[vT]
 |n+1=>by
  have hb:=OA hv h (lo+n);have h2:2^(AE c h (lo+n)+1).toNat<2^6:=Nat.pow_lt_pow_right (by omega) (by omega);exact Nat.or_lt_two_pow (n:=6) (GR hv h lo n) h2
abbrev Kh:=Int×Int
def zA(w:Kh):AV:=.agg [.int .i64 w.1,.int .i64 w.2]
theorem BS(w:Kh):zA w = .agg [.int .i64 w.1,.int .i64 w.2]:=by simp only[zA]
theorem OO(w:Kh):jB (zA w):=gL (aV (cF _ _) (aV (cF _ _) bA))
instance (w:Kh):Dat (zA w):=⟨OO w⟩
def uW(c:HLot)(w:Kh):Nat:=match c.bunches[w.1.toNat]? with|some b=>vT c w.2 b.scars.lo (b.scars.hi+1-b.scars.lo).toNat|none=>0
def XO(c:HLot)(w:Kh):AV:=.int .i64 (uW c w)
theorem F5(c:HLot)(w:Kh):XO c w = .int .i64 (uW c w):=by simp only[XO]
theorem NV(c:HLot):KeyIs (.agg [.i,.i]) zA (XO c) where
 eq:=fun ⟨a1,a2⟩ ⟨b1,b2⟩=>by
  simp only[iG,zA,MN,US,U6,MO]
  congr 1
  rw[Bool.eq_iff_iff];simp[Prod.mk.injEq]
 dk:=OO
 dv:=fun w=>cF _ _
abbrev khs(c:HLot):List Kh->List (AV×AV):=rG zA (XO c)
theorem aAH{c:HLot}(hv:Vd c)(w:Kh):uW c w<64:=by
 unfold uW;split
 ·exact GR hv _ _ _
 ·omega
theorem UJ{c:HLot}(hv:Vd c){a:Nat}(ha:a<c.bunches.length)(h:Int):0<uW c (a,h):=by
 obtain⟨_,_,s1,s2,s3⟩:=hv.bn _ (List.getElem_mem ha);have hge:uW c (a,h)=vT c h c.bunches[a].scars.lo (c.bunches[a].scars.hi+1-c.bunches[a].scars.lo).toNat:=by simp[uW,ha]
 obtain⟨n,hn⟩:∃ n,(c.bunches[a].scars.hi+1-c.bunches[a].scars.lo).toNat=n+1:=⟨(c.bunches[a].scars.hi-c.bunches[a].scars.lo).toNat,by omega⟩;rw[hge,hn];have h1:0<2^(AE c h (c.bunches[a].scars.lo+n)+1).toNat:=Nat.pow_pos (by omega);have h2:2^(AE c h (c.bunches[a].scars.lo+n)+1).toNat<=vT c h c.bunches[a].scars.lo n|||2^(AE c h (c.bunches[a].scars.lo+n)+1).toNat:=Nat.right_le_or;have h3:vT c h c.bunches[a].scars.lo (n+1)=vT c h c.bunches[a].scars.lo n|||2^(AE c h (c.bunches[a].scars.lo+n)+1).toNat:=rfl;omega
theorem aHC{S:List Kh->St}{c:HLot}{p m N:Nat}(hR:MemAt S (lb c m) (khs c) p m N)(M:List Kh)(b h v:Int)(s:ABlk)(τ:St)(g:Gd):
  eK T (.func 377 [] [.ptr N 0,.ptr (N+(τ.length+1+1)) 0]) [encGd g] (S M++(.cells [.int .i64 b,.int .i64 h]::s::(τ++[.cells [.int .i64 v]]))) (.bool (P2 h v g)):=by
 refine cM (af:=a377) rfl (by simp[a377]) ?_;unfold P2;cases h1:decide (g.hands<=h)
 ·try simp only[↓QA,QB,seval,eF,hR.len,hR.base,hR.base0,hR.bset,hR.bset0,hR.at1,hR.at0,a377,h1]
  refine cZ [.cells (encGd g).cells] (by simp[encGd,AV.cells]) ?_;try simp only[QS,QC,seval,eF,hR.len,hR.base,hR.base0,hR.bset,hR.bset0,hR.at1,hR.at0,Bool.false_and]
 ·try simp only[↓QA,QB,seval,eF,hR.len,hR.base,hR.base0,hR.bset,hR.bset0,hR.at1,hR.at0,a377,h1]
  refine cZ [.cells (encGd g).cells] (by simp[encGd,AV.cells]) ?_;try simp only[QS,QC,seval,eF,hR.len,hR.base,hR.base0,hR.bset,hR.bset0,hR.at1,hR.at0,Bool.true_and]
def GrI(S:List Kh->St)(c:HLot)(p N:Nat)(M:List Kh)(b h:Int)(s:Span)(n k:Nat)(e:Env)(σ:St):Prop :=
 Env.get e 0 = .ptr p 0/\Env.get e 3 = .ptr N 0/\Env.get e 7 = .ptr (N+1) 0/\∃ τ j,Env.get e 8 = .ptr (N+(List.length τ+1+1)) 0/\Env.get e 6 = .int .i64 (vT c h s.lo j)/\j<=n/\k=n-j/\σ=S M++(.cells [.int .i64 b,.int .i64 h]::.cells [.int .i64 s.lo,.int .i64 s.hi]::(τ++[.cells [.int .i64 (s.lo+(j:Nat))]]))
set_option maxHeartbeats 1000000 in
theorem JR{S:List Kh->St}{c:HLot}{p m N:Nat}(hR:MemAt S (lb c m) (khs c) p m N)(hv:Vd c)(M:List Kh)(a:Nat)(h:Int)(ha:a<c.bunches.length):
  AA T (.func 241 [] []) [.ptr p 0,zA (a,h)] (S M) (XO c (a,h)) (S (nO M (a,h))):=by
 have hnb:=hv.nbn;have hng:=hv.ngr;have hpl:=hR.pl;obtain⟨_,_,s1,s2,s3⟩:=hv.bn _ (List.getElem_mem ha);have hl1:=fun τ=>aBZ (NV c) hR M τ (a,h)
 have hgl:=aAH hv (a,h);have hgp:=UJ hv ha h;have hge:uW c (a,h)=vT c h c.bunches[a].scars.lo (c.bunches[a].scars.hi+1-c.bunches[a].scars.lo).toNat:=by simp[uW,ha]
 refine E7 hR (af:=a241) rfl (by simp[a241]) ?_;simp only[BS,F5] at hl1 ⊢;by_cases hm:((a:Int),h)∈M
 ·have hst:nO M ((a:Int),h)=M:=by simp[nO,hm]
  rw[hst];simp only[hm,if_true] at hl1;obtain⟨G,hG⟩:∃ G,uW c ((a:Int),h)=G:=⟨_,rfl⟩;rw[hG] at hl1 hgp;rw[hG];have hgt:decide ((0:Int)<(G:Int))=true:=by simp;omega
  (repeat (first|simp only[↓QA,QB,seval,eF,hR.len,hR.base,hR.base0,hR.bset,hR.bset0,hR.at1,hR.at0,a241,hl1,OM,N9,hgt]|refine rd0 rfl ?_))
  refine⟨_,_,rfl,rfl,?_⟩;try simp only[QS,QC,seval,eF,hR.len,hR.base,hR.base0,hR.bset,hR.bset0,hR.at1,hR.at0]
 ·have hst:nO M ((a:Int),h)=M++[((a:Int),h)]:=by simp[nO,hm]
  have hput:=fun τ=>aGI (NV c) hR M τ (a,h) hm
  simp only[BS,F5] at hput;rw[hst];simp only[hm,if_false] at hl1;rw[hge] at hput;simp only[hge];obtain⟨x,hx⟩:∃ x,c.bunches[a]=x:=⟨_,rfl⟩;rw[hx] at s1 s2 s3 hput;rw[hx];obtain⟨n,hn⟩:∃ n,(x.scars.hi+1-x.scars.lo).toNat=n:=⟨_,rfl⟩;rw[hn] at hput;rw[hn]
  (repeat (first|simp only[↓QA,QB,seval,eF,hR.len,hR.base,hR.base0,hR.bset,hR.bset0,hR.at1,hR.at0,a241,hl1,OM,N9,show decide ((0:Int)<0)=false from rfl]|refine rd0 rfl ?_))
  refine IR [.cells [.int .i64 0,.int .i64 0]] rfl ?_
  (repeat (first|simp only[↓QA,QB,seval,eF,hR.len,hR.base,hR.base0,hR.bset,hR.bset0,hR.at1,hR.at0,ha,hx]|refine rd0 rfl ?_))
  refine XC (GrI S c p N M a h x.scars n) ?_ n _ _ ?_
  ·rintro k e σ ⟨e0,e3,e7,τ,j,e8,e6,hj,hk,rfl⟩;subst hk;obtain⟨y,hy⟩:∃ y,x.scars.lo+(j:Int)=y:=⟨_,rfl⟩;have hy1:x.scars.lo+((j+1:Nat):Int)=y+1:=by omega
   have hgs:vT c h x.scars.lo (j+1)=vT c h x.scars.lo j|||2^(AE c h y+1).toNat:=by rw[<-hy];rfl
   have hgb:=OA hv h y;have hgj:=GR hv h x.scars.lo j;rw[hy]
   (repeat (first|simp only[↓QA,QB,seval,eF,hR.len,hR.base,hR.base0,hR.bset,hR.bset0,hR.at1,hR.at0,XK,e0,e3,e7,e8,e6]|refine rd0 rfl ?_))
   refine aF (fun hd=>?_) fun hd=>?_
   ·have hd1:y<=x.scars.hi:=by simpa using hd
    have hix:=JD (S M++(.cells [.int .i64 (a:Int),.int .i64 h]::.cells [.int .i64 x.scars.lo,.int .i64 x.scars.hi]::(τ++[.cells [.int .i64 y]]))) (.func 377 [] [.ptr N 0,.ptr (N+(τ.length+1+1)) 0]) c.grades (P2 h y) (by omega) (fun τ'=>by simp[b8,snap,snaps,clr,clrs,hR.len];try omega) fun g _=>aHC hR M a h y _ τ g
    have hgd:Fa.idxOf (P2 h y) c.grades 0=AE c h y:=rfl;rw[hgd] at hix;obtain⟨D,hD⟩:∃ D,AE c h y=D:=⟨_,rfl⟩;rw[hD] at hix hgb hgs;obtain⟨K,hK⟩:∃ K,(D+1).toNat=K:=⟨_,rfl⟩;rw[hK] at hgs;have hKw:IntKind.i64.wrap (D+1)=(K:Int):=by rw[bL ⟨by omega,by omega⟩];omega
    have hp:=yO (i:=K) (by omega);have vs:=yM K (by omega);have vo:=WG (vT c h x.scars.lo j) (2^K) (by omega) (by omega);rw[<-hgs] at vo;have hwy:IntKind.i64.wrap (y+1)=y+1:=bL ⟨by omega,by omega⟩
    (repeat (first|simp only[↓QA,QB,seval,eF,hR.len,hR.base,hR.base0,hR.bset,hR.bset0,hR.at1,hR.at0,e0,e3,e7,e8,e6]|refine rd0 rfl ?_))
    refine aT hix ?_
    (repeat (first|simp only[↓QA,QB,seval,eF,hR.len,hR.base,hR.base0,hR.bset,hR.bset0,hR.at1,hR.at0,e0,e3,e7,e8,e6,hKw,vs,vo,hwy]|refine rd0 rfl ?_))
    refine⟨n-(j+1),by omega,?_,?_,?_,τ++[.cells [.int .i64 y]],j+1,?_,?_,by omega,rfl,?_⟩
    ·try simp only[aD,QE,seval,eF,hR.len,hR.base,hR.base0,hR.bset,hR.bset0,hR.at1,hR.at0,e0]
    ·try simp only[aD,QE,seval,eF,hR.len,hR.base,hR.base0,hR.bset,hR.bset0,hR.at1,hR.at0,e3]
    ·try simp only[aD,QE,seval,eF,hR.len,hR.base,hR.base0,hR.bset,hR.bset0,hR.at1,hR.at0,e7]
    ·try simp only[aD,QE,seval,eF,hR.len,hR.base,hR.base0,hR.bset,hR.bset0,hR.at1,hR.at0]
     try simp
    ·try simp only[aD,QE,seval,eF,hR.len,hR.base,hR.base0,hR.bset,hR.bset0,hR.at1,hR.at0]
    ·rw[hy1];simp
   ·have hd1:¬y<=x.scars.hi:=by simpa using hd
    have hjn:j=n:=by omega
    subst hjn
    (repeat (first|simp only[↓QA,QB,seval,eF,hR.len,hR.base,hR.base0,hR.bset,hR.bset0,hR.at1,hR.at0,e0,e3,e7,e8,e6,hput]|refine rd0 rfl ?_))
    refine⟨_,_,rfl,rfl,?_⟩;try simp only[QS,QC,seval,eF,hR.len,hR.base,hR.base0,hR.bset,hR.bset0,hR.at1,hR.at0]
  ·refine⟨?_,?_,?_,[],0,?_,?_,Nat.zero_le _,rfl,?_⟩
   ·try simp only[aD,QE,seval,eF,hR.len,hR.base,hR.base0,hR.bset,hR.bset0,hR.at1,hR.at0]
   ·try simp only[aD,QE,seval,eF,hR.len,hR.base,hR.base0,hR.bset,hR.bset0,hR.at1,hR.at0]
   ·try simp only[aD,QE,seval,eF,hR.len,hR.base,hR.base0,hR.bset,hR.bset0,hR.at1,hR.at0]
   ·try simp only[aD,QE,seval,eF,hR.len,hR.base,hR.base0,hR.bset,hR.bset0,hR.at1,hR.at0]
    try simp
   ·try simp only[aD,QE,seval,eF,hR.len,hR.base,hR.base0,hR.bset,hR.bset0,hR.at1,hR.at0,vT]
    try simp[vT]
   ·simp
end Go.Am.Room.Ha
namespace Go.Am.Room
theorem P0{X:Type}(Z ZD:X->St)(n:Nat)(hZ:∀ x,(Z x).length=n)(hZD:∀ x,(ZD x).length=n)(J:AJump)(e:Env)(k:Nat)(ps:List Nat)(a bb:ACode)(g:FuncId)(caps:List AV)(ek:Env.get e k = .func g [] caps)(r:X×Bool)(x:X)(hrun:Run T (.call g (.yield n::caps) (Z x++[.loop .ready none e ps a bb])) fun o=>∃ τ',o.σ=j3 (fun x=>Z x++[.loop .ready none e ps a bb]) (fun x=>ZD x++[.loop .done (some J) e ps a bb]) r++τ')(K:KJ)(hT:∀ τ,r.2=true->K none e (Z r.1++(.dead::τ)))(hD:∀ τ,r.2=false->K (some J) e (ZD r.1++(.dead::τ))):
  rK (K:=⟨K⟩) T (.rangeFunc (.t k) ps a bb) e (Z x):=by
 have hout:∀ (A:St) (lp:ABlk) (τ':St),A.length=n->(A++[lp]++τ')[n]? = some lp/\(A++[lp]++τ').set n .dead=A++(.dead::τ'):=by
  intro A lp τ' hA;subst hA;constructor
  ·simp
  ·simp
 refine K4 (by rw[O7,ek]) (by
  rw[hZ]
  exact hrun) fun o ho=>?_
 obtain⟨τ',hσ⟩:=ho;rw[hZ,hσ];cases hr2:r.2
 ·have hD':=hD τ' hr2;obtain⟨g1,g2⟩:=hout (ZD r.1) (.loop .done (some J) e ps a bb) τ' (hZD _);simp only[j3,hr2,Bool.false_eq_true,if_false];rw[g1,g2];exact⟨_,_,_,_,_,_,rfl,by simp[hZ],hD'⟩
 ·have hT':=hT τ' hr2;obtain⟨g1,g2⟩:=hout (Z r.1) (.loop .ready none e ps a bb) τ' (hZ _);simp only[j3,hr2,if_true];rw[g1,g2];exact⟨_,_,_,_,_,_,rfl,by simp[hZ],hT'⟩
theorem CU{X A:Type}(Z ZD:X->St)(n:Nat)(hZ:∀ x,(Z x).length=n)(hZD:∀ x,(ZD x).length=n)(J:AJump)(e:Env)(ps:List Nat)(args:A->List AV)(hps:∀ t,ps.length=(args t).length)(a bb:ACode){P:A->Prop}{f:A->X->X×Bool}(h:∀ t,P t->∀ x τ,wp T a (j5 e ps (args t)) (Z x++(.loop .ready none e ps a bb::τ)) (fun j e' σ'=>j=none/\∃ τ1,σ'=Z x++(.loop .ready none e ps a bb::(τ++τ1)) /\
   wp T bb e' (Z x++(.loop .busy none e ps a bb::(τ++τ1))) (fun j e'' σ''=>((f t x).2=true/\j=none/\∃ τ',σ''=Z (f t x).1++(.loop .busy none e ps a bb::(τ++τ'))) \/
    ((f t x).2=false/\j=some J/\∃ τ',σ''=ZD (f t x).1++(.loop .busy none e ps a bb::(τ++τ')))))):
  mN (fun x=>Z x++[.loop .ready none e ps a bb]) (fun x=>ZD x++[.loop .done (some J) e ps a bb]) n args P f:=by
 intro t ht x τ;have hget:∀ (A:St) (lp:ABlk) (υ:St),A.length=n->(A++(lp::υ))[n]? = some lp:=by
  intro A lp υ hA;subst hA;simp
 have hset:∀ (A:St) (lp l2:ABlk) (υ:St),A.length=n->(A++(lp::υ)).set n l2=A++(l2::υ):=by
  intro A lp l2 υ hA;subst hA;simp
 obtain⟨r,hr⟩:∃ r,f t x=r:=⟨_,rfl⟩;have h:=h t ht x τ;rw[hr] at h ⊢;have hst:(fun x=>Z x++[ABlk.loop .ready none e ps a bb]) x++τ=Z x++(.loop .ready none e ps a bb::τ):=by simp
 rw[hst];refine .round (env:=e) (ps:=ps) (a:=a) (b:=bb)
  (R:=fun o=>o.j=none/\∃ τ1,o.σ=Z x++(.loop .ready none e ps a bb::(τ++τ1))/\wp T bb o.env (Z x++(.loop .busy none e ps a bb::(τ++τ1))) (fun j e'' σ''=>(r.2=true/\j=none/\∃ τ',σ''=Z r.1++(.loop .busy none e ps a bb::(τ++τ'))) \/
    (r.2=false/\j=some J/\∃ τ',σ''=ZD r.1++(.loop .busy none e ps a bb::(τ++τ')))))
  (S:=fun o=>(r.2=true/\o.j=none/\∃ τ',o.σ=Z r.1++(.loop .busy none e ps a bb::(τ++τ')))\/(r.2=false/\o.j=some J/\∃ τ',o.σ=ZD r.1++(.loop .busy none e ps a bb::(τ++τ')))) (hget _ _ _ (hZ _)) (by rw[hps t]) (eP h fun o ho=>ho) ?_ ?_ ?_
 ·rintro o ⟨hj,τ1,hσ,_⟩;exact⟨hj,by rw[hσ];exact hget _ _ _ (hZ _)⟩
 ·rintro o ⟨_,τ1,hσ,hw⟩;rw[hσ,hset _ _ _ _ (hZ _)];exact eP hw fun o ho=>ho
 ·rintro o (⟨hr2,hj,τ',hσ⟩|⟨hr2,hj,τ',hσ⟩)
  ·rw[hσ,hj,hget _ _ _ (hZ _),hset _ _ _ _ (hZ _)];refine⟨rfl,by rw[hr2];rfl,τ',?_⟩;simp[j3,hr2]
  ·rw[hσ,hj,hget _ _ _ (hZD _),hset _ _ _ _ (hZD _)];refine⟨rfl,by rw[hr2];rfl,τ',?_⟩;simp[j3,hr2]
end Go.Am.Room
namespace Go.Am.Room.Ha
def mL:=zz @encHLot_eq (zz @lotCells_eq (zz @encGd_eq (zz @encBn_eq (zz @encCt_eq (zz @aR (zz @S_mapGd (zz @S_mapBn (zz @S_mapCt (zz @List.length_append.{0} (zz @rQ (zz @rP (zz @rO (zz @rM (zz @rN (zz @Nat.mul_one (zz @Int.toNat_natCast (zz @kY (zz @kQ (zz @tQ (zz @t9 (zz @eJ (zz @Nat.add_lt_add_iff_left (@Nat.lt_add_right_iff_pos)))))))))))))))))))))))
section
variable {Y:Type}
def Z0(S U:Y->St)(p:Nat)(x:Y):St:=S x++(U x++[.cells [.ptr p 0]])
variable {S U:Y->St} {c:HLot} {m p N n:Nat}
theorem u4(hR:LAt S c m p N)(hU:∀ y,(U y).length=n)(x:Y):(Z0 S U p x).length=N+n+1:=by
 simp[Z0,hR.len,hU];omega
theorem aHK(hR:LAt S c m p N)(hU:∀ y,(U y).length=n)(lp:ABlk):HFam (fun x=>Z0 S U p x++[lp]) c m p (N+n) (N+n+1+1) where
 lat:=⟨fun x=>by rw[List.length_append,u4 hR hU];rfl,fun z τ=>by
  have:=hR.atp z (U z++(.cells [.ptr p 0]::lp::τ));have e:Z0 S U p z++[lp]++τ=S z++(U z++(.cells [.ptr p 0]::lp::τ)):=by simp[Z0]
  rw[e]
  exact this,by have:=hR.pl;omega⟩
 atq:=fun z τ=>by
  have e:Z0 S U p z++[lp]++τ=(S z++U z)++(.cells [.ptr p 0]::lp::τ):=by simp[Z0]
  have h1:N+n=(S z++U z).length:=by simp[hR.len,hU]
  rw[e,h1,HD];rfl
theorem DF(hR:LAt S c m p N)(hU:∀ y,(U y).length=n)(hv:Vd c)(f:List Int->Y->Y×Bool)(J:AJump)(e:Env)(k:Nat)(ps:List Nat)(a bb:ACode)(ek:Env.get e k = .func 373 [] [.ptr (N+n) 0])(x:Y)(hy:mN (fun x=>Z0 S U p x++[.loop .ready none e ps a bb]) (fun x=>Z0 S U p x++[.loop .done (some J) e ps a bb]) (N+n+1) (fun t=>[.agg (bP 6 (gF t))]) (WOk c) f)(K:KJ)(hT:∀ τ,(bK f (waysOf c) x).2=true->K none e (Z0 S U p (bK f (waysOf c) x).1++(.dead::τ)))(hD:∀ τ,(bK f (waysOf c) x).2=false->K (some J) e (Z0 S U p (bK f (waysOf c) x).1++(.dead::τ))):
  rK (K:=⟨K⟩) T (.rangeFunc (.t k) ps a bb) e (Z0 S U p x):=by
 refine P0 (Z0 S U p) (Z0 S U p) (N+n+1) (u4 hR hU) (u4 hR hU) J e k ps a bb _ _ ek (bK f (waysOf c) x) x ?_ K hT hD;exact PW (aHK hR hU _) f hy hv x
end
def VN(_:List Int)(_:Bool):Bool×Bool:=(true,false)
theorem V8:∀ az:List (List Int),bK VN az false=(!az.isEmpty,az.isEmpty)
 |[]=>rfl
 |_::_=>rfl
theorem Y6{Y:Type}{S:Y->St}{c:HLot}{m p N:Nat}(hR:LAt S c m p N)(hv:Vd c)(y:Y):eK T (.func 251 [] []) [.ptr p 0] (S y) (.bool (!(waysOf c).isEmpty)):=by
 refine cM (af:=a251) rfl (by simp[a251]) ?_;have hst:=V8 (waysOf c);have hR2:LAt (fun _:Bool=>S y) c m p N:=⟨fun _=>hR.len y,fun _ τ=>hR.atp y τ,hR.pl⟩;try simp only[↓QA,QB,seval,mL,hR.len,hR.base,hR.base0,hR.bset,hR.bset0,hR.atp,a251]
 refine H4 rfl (by simp[a240]) ?_;try simp only[↓QA,QB,seval,mL,hR.len,hR.base,hR.base0,hR.bset,hR.bset0,hR.atp,a240]
 have hz:S y++[.cells [.bool false],.cells [.ptr p 0]]=Z0 (fun _:Bool=>S y) (fun b=>[.cells [.bool b]]) p false:=by simp[Z0]
 rw[hz];refine DF (n:=1) hR2 (fun _=>rfl) hv VN .ret _ 4 [5] _ _ ?_ _ ?_ _ ?_ ?_
 ·try simp only[aD,QE,seval,mL,hR.len,hR.base,hR.base0,hR.bset,hR.bset0,hR.atp]
 ·refine CU _ _ _ (u4 (n:=1) hR2 (fun _=>rfl)) (u4 (n:=1) hR2 (fun _=>rfl)) _ _ [5] _ (fun _=>rfl) _ _ ?_;intro t _ x τ1;simp only[j5];try simp only[↓QA,QB,seval,mL,hR.len,hR.base,hR.base0,hR.bset,hR.bset0,hR.atp]
  refine⟨[],by rw[List.append_nil],?_⟩;simp only[Z0];generalize ABlk.loop .busy none _ _ _ _=lp;try simp only[↓QA,QB,seval,mL,hR.len,hR.base,hR.base0,hR.bset,hR.bset0,hR.atp,WW]
  exact .inr ⟨rfl,[],by simp[VN]⟩
 ·intro τ1 h2;rw[hst] at h2;simp only at h2;rw[hst,h2];simp only[Z0,Bool.not_true];try simp only[↓QA,QB,seval,mL,hR.len,hR.base,hR.base0,hR.bset,hR.bset0,hR.atp]
  refine cZ _ rfl ?_;try simp only[QS,QC,seval,mL,hR.len,hR.base,hR.base0,hR.bset,hR.bset0,hR.atp]
 ·intro τ1 h2;rw[hst] at h2;simp only at h2;rw[hst,h2];simp only[Z0,Bool.not_false];try simp only[↓QA,QB,seval,mL,hR.len,hR.base,hR.base0,hR.bset,hR.bset0,hR.atp]
  refine cZ _ rfl ?_;try simp only[QS,QC,seval,mL,hR.len,hR.base,hR.base0,hR.bset,hR.bset0,hR.atp]
end Go.Am.Room.Ha
namespace Go.Am.Room
theorem DH:∀ (l:List Int) (s:Span),s.lo<=s.hi->(l.foldl m8 s).lo<=s.lo/\s.hi<=(l.foldl m8 s).hi/\(∀ x∈l,(l.foldl m8 s).lo<=x/\x<=(l.foldl m8 s).hi)/\((l.foldl m8 s).lo=s.lo\/(l.foldl m8 s).lo∈l)/\((l.foldl m8 s).hi=s.hi\/(l.foldl m8 s).hi∈l)
 |[],s,h=>⟨Int.le_refl _,Int.le_refl _,fun x hx=>by simp at hx,.inl rfl,.inl rfl⟩
 |y::l,s,h=>by
  have hj:(m8 s y).lo<=(m8 s y).hi:=by simp only[m8];omega
  obtain⟨a,b,c,d,e⟩:=DH l (m8 s y) hj;simp only[List.foldl_cons];have h1:(m8 s y).lo<=s.lo/\(m8 s y).lo<=y/\((m8 s y).lo=s.lo\/(m8 s y).lo=y):=by simp only[m8];omega
  have h2:s.hi<=(m8 s y).hi/\y<=(m8 s y).hi/\((m8 s y).hi=s.hi\/(m8 s y).hi=y):=by simp only[m8];omega
  refine⟨by omega,by omega,fun x hx=>?_,?_,?_⟩
  ·rcases List.mem_cons.1 hx with rfl|hx
   ·omega
   ·exact c x hx
  ·rcases d with d|d
   ·rcases h1.2.2 with h|h
    ·left;omega
    ·right;rw[d,h];simp
   ·right;simp[d]
  ·rcases e with e|e
   ·rcases h2.2.2 with h|h
    ·left;omega
    ·right;rw[e,h];simp
   ·right;simp[e]
theorem vH{l:List Int}(h:l≠[]):(rE l).lo∈l/\(rE l).hi∈l/\∀ x∈l,(rE l).lo<=x/\x<=(rE l).hi:=by
 cases l with
 |nil=>exact absurd rfl h
 |cons x l =>
  obtain⟨a,b,c,d,e⟩:=DH l ⟨x,x⟩ (Int.le_refl _);simp only[rE];refine⟨?_,?_,fun y hy=>?_⟩
  ·rcases d with d|d
   ·rw[d];simp
   ·simp[d]
  ·rcases e with e|e
   ·rw[e];simp
   ·simp[e]
  ·rcases List.mem_cons.1 hy with rfl|hy
   ·exact⟨a,b⟩
   ·exact c y hy
theorem CQ{α:Type}{p:α->Bool}{l:List α}:(l.filter p).length=l.length↔∀ x∈l,p x=true:=by
 rw[List.length_filter_eq_length_iff]
theorem K9{α:Type}{p:α->Bool}{l:List α}:lD (l.filter p).length l.length=1↔∀ x∈l,p x=true:=by
 rw[<-CQ];unfold lD;split
 ·rename_i h;simp[h]
 ·rename_i h;split
  ·simp[h]
  ·simp[h]
theorem JC{α:Type}{p:α->Bool}{l:List α}:lD (l.filter p).length l.length=2↔l≠[]/\∀ x∈l,p x=false:=by
 unfold lD;split
 ·rename_i h;simp only[show ¬(1:Int)=2 by omega,false_iff];rintro⟨h1,h2⟩;rw[CQ] at h;cases l with
  |nil=>exact h1 rfl
  |cons x l =>
   have a:=h x (by simp);have b:=h2 x (by simp);rw[a] at b;cases b
 ·rename_i h;split
  ·rename_i h0;simp only[true_iff];refine⟨fun e=>?_,fun x hx=>?_⟩
   ·subst e;simp at h
   ·have:=List.eq_nil_of_length_eq_zero h0;rw[List.filter_eq_nil_iff] at this;simpa using this x hx
  ·rename_i h0;simp only[show ¬(0:Int)=2 by omega,false_iff];rintro⟨h1,h2⟩;apply h0;rw[List.length_eq_zero_iff,List.filter_eq_nil_iff];intro x hx;simp[h2 x hx]
theorem DX(a b:Nat):lD a b=0\/lD a b=1\/lD a b=2:=by
 unfold lD;split
 ·simp
 ·split<;>simp
end Go.Am.Room
namespace Go.Am.Room.Ha
def kE:=zz @encHLot_eq (zz @lotCells_eq (zz @encGd_eq (zz @encBn_eq (zz @encCt_eq (zz @aR (zz @S_mapGd (zz @S_mapBn (zz @S_mapCt (zz @List.length_append.{0} (zz @eJ (zz @Nat.add_lt_add_iff_left (zz @Nat.lt_add_right_iff_pos (zz @Nat.mul_one (@Int.toNat_natCast))))))))))))))
def yX(i j:Nat):AV:=.func 253 [] [.ptr i 0,.ptr j 0]
theorem tT(i j:Nat):yX i j = .func 253 [] [.ptr i 0,.ptr j 0]:=by simp only[yX]
theorem QM(σ:St)(n b:Int):AA T (.func 115 [] []) [.int .i64 n,.int .i64 b] σ (yX (σ.length+1) σ.length) (σ++[.cells [.int .i64 n],.cells [.int .i64 b]]):=by
 refine .callf (.call (af:=a115) rfl (by simp[a115]) (eP (K:=fun j e σ1=>(j=none\/j=some .ret)/\Env.get e 4=yX (σ.length+1) σ.length/\σ1=σ++[.cells [.int .i64 n],.cells [.int .i64 b]]) ?_ fun o ho=>ho) fun o ho=>?_)
 ·simp only[tT];try simp only[↓QA,QB,seval,kE,a115,List.length_append]
  try simp
 ·exact⟨ho.1,_,rfl,.inl ⟨ho.2.1,ho.2.2⟩⟩
theorem RC(σ τ:St)(n b:Int)(hb:0<=n/\n<=b-1)(hw:0<=b/\b<1000):eK T (yX (σ.length+1) σ.length) [] (σ++([.cells [.int .i64 n],.cells [.int .i64 b]]++τ)) (.int .i64 0):=by
 simp only[tT];refine cM (af:=a253) rfl (by simp[a253]) ?_;have hwb:IntKind.i64.wrap (b-1)=b-1:=bL ⟨by omega,by omega⟩;have b1:=cH.2 hb;try simp only[↓QA,QB,seval,kE,a253,lW,HD,hwb]
 (refine bE (Fa.off_ok 0 (b-1) [n] (by simp)) (by simp[clr,clrs,aG]) (by simp[okV,okVs]) ?_;try simp only[↓QA,QB,seval,kE,Fa.beyond1,b1])
 refine cZ [] (by first|rfl|simp) ?_;try simp only[QS,QC,seval,kE]
def DW(σ:St)(c:HLot)(A:List Kh):St:=σ++[.cells (lotCells c),.cells (lotCells c),.map (khs c A),.cells (lb c (σ.length+2))]
theorem UC(σ:St)(c:HLot):MemAt (DW σ c) (lb c (σ.length+2)) (khs c) (σ.length+3) (σ.length+2) (σ.length+4) :=
 ⟨fun M=>by simp[DW],fun M=>by simp[DW,lW,aDX,aCK],fun M=>by rw[DW,sO];rfl,fun M M'=>by rw[DW,DW,pA];rfl,fun A k=>aHG (NV c) A k,by omega,by omega⟩
theorem aG2{c:HLot}{S:List Kh->St}{m p N:Nat}(h:MemAt S (lb c m) (khs c) p m N):LAt S c m p N:=⟨h.len,h.at1,h.pl⟩
def HL(σ:St)(c:HLot):St:=σ++[.cells (lotCells c),.map [],.cells (lb c (σ.length+1))]
theorem TS(σ:St)(c:HLot):AA T (.func 250 [] []) [encHLot c,.int .i64 0] σ (.ptr (σ.length+2) 0) (HL σ c):=by
 refine .callf (.call (af:=a250) rfl (by simp[a250]) (eP (K:=fun j e σ1=>(j=none\/j=some .ret)/\Env.get e 4 = .ptr (σ.length+2) 0/\σ1=HL σ c) ?_ fun o ho=>ho) fun o ho=>?_)
 ·try simp only[↓QA,QB,seval,kE,a250,List.length_append,HL,lb]
  try simp[lb,lotCells,aG]
 ·exact⟨ho.1,_,rfl,.inl ⟨ho.2.1,ho.2.2⟩⟩
theorem tU(σ:St)(c:HLot)(hf:Fits c)(hv:Vd c)(hne:waysOf c≠[])(fv:AV)(ho:∀ τ,eK T fv [] (σ++τ) (.int .i64 0)):AA T (.func 114 [] []) [encHLot c,fv] σ (.tuple [.ptr (σ.length+3) 0,.int .i64 0]) (DW σ c []):=by
 refine .callf (.call (af:=a114) rfl (by simp[a114]) (eP (K:=fun j e σ1=>(j=none\/j=some .ret)/\Env.get e 4 = .ptr (σ.length+3) 0/\Env.get e 5 = .int .i64 0/\σ1=DW σ c []) ?_ fun o ho=>ho) fun o ho=>?_)
 ·have hlk:=TS (σ++[.cells (lotCells c)]) c;have hso:=Y6 (aG2 (UC σ c)) hv [];have hwe:(waysOf c).isEmpty=false:=by
   cases h:waysOf c
   ·exact absurd h hne
   ·rfl
  rw[hwe] at hso;have e0:khs c []=[]:=rfl;simp only[DW,HL,e0] at hso hlk ⊢;try simp only[↓QA,QB,seval,kE,List.append_assoc] at hso hlk
  try simp only[↓QA,QB,seval,kE,a114]
  (refine aE (SE c hf hv) rfl dd ?_;try simp only[↓QA,QB,seval,kE,enc3,show ((0:Int)==0)=true from rfl])
  refine aT (ho _) ?_;try simp only[↓QA,QB,seval,kE,show ((0:Int)==0)=true from rfl]
  refine jH hlk ?_;try simp only[↓QA,QB,seval,kE]
  refine aT hso ?_;try simp only[↓QA,QB,seval,kE,Bool.not_false,Bool.not_true]
  try simp
 ·refine⟨ho.1,_,?_,.inl ⟨rfl,ho.2.2.2⟩⟩;simp[gD,kJ,a114,ho.2.1,ho.2.2.1]
end Go.Am.Room.Ha
namespace Go.Am.Room.Ha
def n4:=zz @encHLot_eq (zz @lotCells_eq (zz @encGd_eq (zz @encBn_eq (zz @encCt_eq (zz @aR (zz @S_mapGd (zz @S_mapBn (zz @S_mapCt (zz @List.length_append.{0} (zz @eJ (zz @Nat.add_lt_add_iff_left (zz @Nat.lt_add_right_iff_pos (zz @Nat.mul_one (zz @Int.toNat_natCast (zz @kY (zz @kQ (zz @tQ (zz @t9 (zz @eM (zz @fV (zz @fU (zz @fT (zz @lV (zz @O3 (zz @qU (@uZ))))))))))))))))))))))))))
abbrev Bd:=List Kh×(Int×Int)×Int
def bdF(c:HLot)(a:Nat)(w:List Int)(y:Bd):Bd×Bool:=((nO y.1 ((a:Int),gF w a),(min y.2.1.1 (gF w a),max y.2.1.2 (gF w a)),Go.Am.bits .or .i64 y.2.2 (uW c ((a:Int),gF w a))),true)
def joinAll(l:List Int)(s:Int×Int):Int×Int:=l.foldl (fun s n=>(min s.1 n,max s.2 n)) s
theorem VJ(c:HLot)(a:Nat):∀ (l:List (List Int)) (y:Bd),(bK (bdF c a) l y).2=true/\(bK (bdF c a) l y).1.2.1=joinAll (l.map fun w=>gF w a) y.2.1
 |[],y=>⟨rfl,rfl⟩
 |w::l,y=>by
  have ih:=VJ c a l (bdF c a w y).1;simp only[bK];rw[show (bdF c a w y).2=true from rfl];simp only[if_true];exact⟨ih.1,ih.2⟩
def handsS(c:HLot)(a:Nat):Int×Int:=joinAll ((waysOf c).map fun w=>gF w a) (12,0)
def bdU(p a:Nat)(y:Bd):St:=[.cells [.ptr p 0],.cells [.int .i64 (a:Int)],.cells [.int .i64 y.2.1.1,.int .i64 y.2.1.2],.cells [.int .i64 y.2.2]]
set_option maxHeartbeats 1000000 in
theorem IM{S:List Kh->St}{c:HLot}{p m N:Nat}(hR0:MemAt S (lb c m) (khs c) p m N)(hv:Vd c)(M:List Kh)(a:Nat)(ha:a<c.bunches.length):
  ∃ M' s,AA T (.func 116 [] []) [.ptr p 0,.int .i64 a] (S M) (.tuple [.agg [.int .i64 (handsS c a).1,.int .i64 (handsS c a).2],.int .i64 s]) (S M'):=by
 have hnb:=hv.nbn;obtain⟨q1,q2⟩:=VJ c a (waysOf c) (M,(12,0),0);obtain⟨R,hRR⟩:∃ R,bK (bdF c a) (waysOf c) (M,(12,0),0)=R:=⟨_,rfl⟩;rw[hRR] at q1 q2;have q2:R.1.2.1=handsS c a:=q2;obtain⟨Q,hQ⟩:∃ Q,handsS c a=Q:=⟨_,rfl⟩;rw[hQ] at q2;rw[hQ];have hR:=hR0;have hlat:LAt (fun y:Bd=>S y.1) c m p N:=⟨fun y=>hR.len y.1,fun y τ=>hR.at1 y.1 τ,hR.pl⟩;refine⟨R.1.1,R.1.2.2,E7 hR (af:=a116) rfl (by simp[a116]) ?_⟩
 (repeat (first|simp only[↓QA,QB,reduceLT,reduceIte,reduceEqDiff,reduceAdd,reduceLeDiff,reduceMul,Nat.reduceBEq,n4,hR.len,hR.base,hR.base0,hR.bset,hR.bset0,hR.at1,hR.at0,a116]|refine rd0 rfl ?_))
 refine H4 rfl (by simp[a240]) ?_
 (repeat (first|simp only[↓QA,QB,reduceLT,reduceIte,reduceEqDiff,reduceAdd,reduceLeDiff,reduceMul,Nat.reduceBEq,n4,hR.len,hR.base,hR.base0,hR.bset,hR.bset0,hR.at1,hR.at0,a240]|refine rd0 rfl ?_))
 have hz:S M++[.cells [.ptr p 0],.cells [.int .i64 (a:Int)],.cells [.int .i64 12,.int .i64 0],.cells [.int .i64 0],.cells [.ptr p 0]]=Z0 (fun y:Bd=>S y.1) (bdU p a) p (M,(12,0),0):=by simp[Z0,bdU]
 rw[hz];refine DF (n:=4) hlat (fun _=>rfl) hv (bdF c a) .ret _ 9 [10] _ _ ?_ _ ?_ _ ?_ ?_
 ·try simp only[aD,QE,reduceLT,reduceIte,reduceEqDiff,reduceAdd,reduceLeDiff,reduceMul,Nat.reduceBEq,n4,hR.len,hR.base,hR.base0,hR.bset,hR.bset0,hR.at1,hR.at0,Nat.add_assoc]
 ·refine CU _ _ _ (u4 (n:=4) hlat (fun _=>rfl)) (u4 (n:=4) hlat (fun _=>rfl)) _ _ [10] (fun t=>[.agg (bP 6 (gF t))]) (fun _=>rfl) _ _ ?_;intro w hwo x τ;obtain⟨M,⟨lo,hi⟩,st⟩:=x;have hgr:=fun τ=>JR (hR0.app τ) hv M a (gF w a) ha
  have ia:(0:Int)<=(a:Int)/\(a:Int)<((6:Nat):Int):=⟨by omega,by omega⟩;have a5:a<=5:=by omega
  have hg:=iP 6 (gF w) (i:=a) (by omega);have hf:bdF c a w (M,(lo,hi),st)=((nO M ((a:Int),gF w a),(min lo (gF w a),max hi (gF w a)),Go.Am.bits .or .i64 st (uW c ((a:Int),gF w a))),true):=rfl;rw[hf];have vo:cY .or (.int .i64 st) (.int .i64 (uW c ((a:Int),gF w a):Int))=some (.int .i64 (Go.Am.bits .or .i64 st (uW c ((a:Int),gF w a)))):=rfl;obtain⟨h,hh⟩:∃ h,gF w a=h:=⟨_,rfl⟩;rw[hh] at hgr hg vo;obtain⟨G,hG⟩:∃ G:Int,(uW c ((a:Int),h):Int)=G:=⟨_,rfl⟩;simp only[BS,F5,hG] at hgr vo;obtain⟨V,hV⟩:∃ V,Go.Am.bits .or .i64 st G=V:=⟨_,rfl⟩;rw[hV] at vo;simp only[hh,hG,hV,j5,Z0,bdU];have hR:=hR0
  (repeat (first|simp only[↓QA,QB,reduceLT,reduceIte,reduceEqDiff,reduceAdd,reduceLeDiff,reduceMul,Nat.reduceBEq,n4,hR.len,hR.base,hR.base0,hR.bset,hR.bset0,hR.at1,hR.at0]|refine rd0 rfl ?_))
  refine⟨[.cells (bP 6 (gF w))],rfl,?_⟩;generalize ABlk.loop .busy none _ _ _ _=lp;have hR:=hR0
  (repeat (first|simp only[↓QA,QB,reduceLT,reduceIte,reduceEqDiff,reduceAdd,reduceLeDiff,reduceMul,Nat.reduceBEq,n4,hR.len,hR.base,hR.base0,hR.bset,hR.bset0,hR.at1,hR.at0,VF,ia,a5,hg]|refine rd0 rfl ?_))
  refine iC (hgr _) ?_
  (repeat (first|simp only[↓QA,QB,reduceLT,reduceIte,reduceEqDiff,reduceAdd,reduceLeDiff,reduceMul,Nat.reduceBEq,n4,hR.len,hR.base,hR.base0,hR.bset,hR.bset0,hR.at1,hR.at0,vo,ia,a5,hg]|refine rd0 rfl ?_))
  exact .inl ⟨[.cells (bP 6 (gF w))],by simp⟩
 ·intro τ h2;rw[hRR];obtain⟨⟨M',⟨r1,r2⟩,r3⟩,r4⟩:=R;simp only at q1 q2;have hR:=hR0;simp only[Z0,bdU]
  (repeat (first|simp only[↓QA,QB,reduceLT,reduceIte,reduceEqDiff,reduceAdd,reduceLeDiff,reduceMul,Nat.reduceBEq,n4,hR.len,hR.base,hR.base0,hR.bset,hR.bset0,hR.at1,hR.at0]|refine rd0 rfl ?_))
  refine⟨_,_,rfl,rfl,?_⟩;rw[<-q2];try simp only[QS,QC,reduceLT,reduceIte,reduceEqDiff,reduceAdd,reduceLeDiff,reduceMul,Nat.reduceBEq,n4,hR.len,hR.base,hR.base0,hR.bset,hR.bset0,hR.at1,hR.at0]
 ·intro τ h2;rw[hRR,q1] at h2;cases h2
end Go.Am.Room.Ha
namespace Go.Am.Room.Ha
def wY:=zz @encHLot_eq (zz @lotCells_eq (zz @encGd_eq (zz @encBn_eq (zz @encCt_eq (zz @aR (zz @S_mapGd (zz @S_mapBn (zz @S_mapCt (zz @List.length_append.{0} (zz @eJ (zz @Nat.mul_one (@Int.toNat_natCast))))))))))))
set_option maxHeartbeats 1000000 in
theorem phands_ok(c:HLot)(hf:Fits c)(hv:Vd c)(hne:waysOf c≠[])(a:Nat)(ha:a<c.bunches.length):cE T 25 [encHLot c,.int .i64 a] (.tuple [.agg [.int .i64 (handsS c a).1,.int .i64 (handsS c a).2],.int .i64 0]):=by
 refine aZ (af:=a25) rfl (by simp[a25]) dd ?_;have hnb:=hv.nbn;have hix:=fun σ=>QM σ a c.bunches.length
 have hi1:=fun σ τ=>RC σ τ a c.bunches.length ⟨by omega,by omega⟩ ⟨by omega,by omega⟩
 have hen:=tU ([.cells (lotCells c),.cells [.int .i64 0,.int .i64 0]]++[.cells [.int .i64 (a:Int)],.cells [.int .i64 (c.bunches.length:Int)]]) c hf hv hne (yX 3 2) fun τ=>by
  have:=hi1 [.cells (lotCells c),.cells [.int .i64 0,.int .i64 0]] τ;simpa using this
 obtain⟨M',s,hbd⟩:=IM (UC ([.cells (lotCells c),.cells [.int .i64 0,.int .i64 0]]++[.cells [.int .i64 (a:Int)],.cells [.int .i64 (c.bunches.length:Int)]]) c) hv [] a ha;obtain⟨Q,hQ⟩:∃ Q,handsS c a=Q:=⟨_,rfl⟩;rw[hQ] at hbd;rw[hQ];simp only[DW,tT] at hen hbd hix;try simp only[↓QA,QB,seval,wY,List.append_assoc] at hen hbd hix
 (repeat (first|simp only[↓QA,QB,seval,wY,a25]|refine rd0 rfl ?_))
 refine iC (hix _) ?_
 (repeat (first|simp only[↓QA,QB,seval,wY,tT]|refine rd0 rfl ?_))
 refine iC hen ?_
 (repeat (first|simp only[↓QA,QB,seval,wY,show ((0:Int)==0)=true from rfl]|refine rd0 rfl ?_))
 (first|refine jH hbd ?_|refine iC hbd ?_)
 (repeat (first|simp only[↓QA,QB,seval,wY]|refine rd0 rfl ?_))
end Go.Am.Room.Ha
namespace Go.Am.Room.Fa
structure Vd (v:Farm):Prop where
 nra:1<=v.rain.length/\v.rain.length<=7
 ra:∀ s∈v.rain,0<=s.lo/\s.lo<=s.hi/\s.hi<=2
 full:0<=v.full/\v.full<=30
 ripe:0<=v.ripe/\v.ripe<=30
 way:0<=v.way.lo/\v.way.lo<=v.way.hi/\v.way.hi<=9
 npl:v.plots.length<=4
 pl:∀ i (h:i<v.plots.length),kI v i v.plots[i]=0
 nlk:v.looks.length<=4
 lk:∀ x∈v.looks,(0<=x.plot/\x.plot<v.plots.length)/\(0<=x.day/\x.day<=v.rain.length)/\0<=x.points/\x.points<=30
theorem vd_of_check{v:Farm}(h:(check v).2.2=0):Vd v:=by
 unfold check at h;split at h
 ·simp at h
 rename_i c1;split at h
 ·rename_i i e he;exact absurd h (fJ he)
 rename_i f1;unfold fH at h;split at h
 ·simp at h
 rename_i c2;split at h
 case isFalse hn=>exact absurd h hn
 rename_i c0;unfold gU at h;split at h
 ·simp at h
 rename_i c3;split at h
 ·rename_i i e he;exact absurd h (fJ he)
 rename_i f2;unfold lZ at h;split at h
 ·simp at h
 rename_i c4;split at h
 ·rename_i i e he;exact absurd h (fJ he)
 rename_i f3;simp only[not_or,Bool.not_eq_false] at c1 c2;obtain⟨d1,d2,d3⟩:=c2;rw[cH] at c1 d1 d2;refine⟨by omega,?_,d1,d2,mO c0,by omega,fun i hi=>by simpa using mM f2 i hi,by omega,?_⟩
 ·intro x hx;obtain⟨k,hk,rfl⟩:=List.getElem_of_mem hx;exact mO (mM f1 k hk)
 ·intro x hx;obtain⟨k,hk,rfl⟩:=List.getElem_of_mem hx;have:=mM f3 k hk;unfold m7 at this;split at this
  ·omega
  rename_i hi;split at this
  ·omega
  rename_i hj;rw[not_or,Bool.not_eq_false,Bool.not_eq_false,cH,cH] at hj;rw[Bool.not_eq_false,cH] at hi;simp only[eI] at hj;omega
theorem JN{v:Farm}(h:Vd v):check v=(0,0,0):=by
 have h1:=h.nra;have h2:=h.npl;have h3:=h.nlk;have g1:aS sK v.rain 0=none:=sB fun s hs k=>OI (h.ra s hs)
 have g2:aS (kI v) v.plots 0=none:=xB fun k hk=>by simpa using h.pl k hk
 have g3:aS (m7 v) v.looks 0=none:=sB fun x hx k=>by
  have:=h.lk x hx;have a:inR x.plot 0 ((v.plots.length:Int)-1)=true:=cH.2 (by omega);have b:inR x.day 0 (eI v)=true:=cH.2 (by simp only[eI];omega);simp[m7,a,b,cH.2 this.2.2]
 have e4:lZ v=(0,0,0):=by rw[lZ,if_neg (by omega),g3]
 have e3:gU v=(0,0,0):=by rw[gU,if_neg (by omega),g2];exact e4
 have e0:eH v.way 0 9=0:=OI h.way;have e2:fH v=(0,0,0):=by
  rw[fH,if_neg (by simp[cH.2 h.full,cH.2 h.ripe,e0]),if_pos e0];exact e3
 rw[check,if_neg (by simp[cH.2 (show (1:Int)<=v.rain.length/\(v.rain.length:Int)<=7 by omega)]),g1];exact e2
theorem D9{v:Farm}(h:Vd v){i:Nat}(hi:i<v.plots.length):(0<=v.plots[i].flower.lo/\v.plots[i].flower.lo<=v.plots[i].flower.hi/\v.plots[i].flower.hi<=(v.rain.length:Int)-1)/\1<=v.plots[i].hands/\v.plots[i].hands<=99:=by
 have:=h.pl i hi;unfold kI at this;split at this
 ·unfold DJ at this;split at this
  ·omega
  ·rename_i h1;rw[not_or,Bool.not_eq_false,cH] at h1;have:=mO this;simp only[eI] at this;omega
 ·rename_i h0;exact absurd this h0
theorem pG{v:Farm}{p:Nat}(hp:p<v.plots.length):nI v p=v.plots[p].flower:=by simp[nI,hp]
theorem H9{v:Farm}{p:Nat}(hp:p<v.plots.length):A4 v (p:Int)=v.plots[p].hands:=by simp[A4,hp]
theorem kK{s:Span}{n:Int}:n∈lU s↔s.lo<=n/\n<=s.hi:=by
 rw[lU,cX];omega
theorem B8{s:Span}:(lU s).length=(s.hi+1-s.lo).toNat:=jR _ _
theorem O4{s:Span}{l c:List Int}:c∈ext s l↔∃ n,(s.lo<=n/\n<=s.hi)/\c=l++[n]:=by
 simp only[ext,List.mem_map,kK];constructor
 ·rintro⟨n,h,rfl⟩;exact⟨n,h,rfl⟩
 ·rintro⟨n,h,rfl⟩;exact⟨n,h,rfl⟩
theorem j6{rs:List Span}{k:Nat}(h:k<rs.length):dI rs (k+1)=(dI rs k).flatMap (ext rs[k]):=by
 simp only[dI,List.getElem?_eq_getElem h]
theorem lI{rs:List Span}:∀ {k:Nat},k<=rs.length->∀ {c:List Int},c∈dI rs k↔c.length=k/\∀ i (h:i<k) (h2:i<rs.length) ,rs[i].lo<=rl c i/\rl c i<=rs[i].hi
 |0,_,c=>by
  simp only[dI,List.mem_singleton];constructor
  ·rintro rfl;exact⟨rfl,fun i h=>by omega⟩
  ·rintro⟨h,_⟩;exact List.length_eq_zero_iff.1 h
 |k+1,hk,c=>by
  rw[j6 (show k<rs.length by omega),List.mem_flatMap];constructor
  ·rintro⟨l,hl,hc⟩;obtain⟨n,hn,rfl⟩:=O4.1 hc;obtain⟨h1,h2⟩:=(lI (by omega)).1 hl;refine⟨by simp[h1],fun i hi hi2=>?_⟩;by_cases e:i=k
   ·subst e;simp only[rl];rw[List.getElem?_append_right (by omega),h1,Nat.sub_self];exact hn
   ·have:=h2 i (by omega) hi2;simp only[rl] at this ⊢;rw[List.getElem?_append_left (by omega)];exact this
  ·rintro⟨h1,h2⟩;have hd:c≠[]:=by intro e;subst e;simp at h1
   have hsp:=List.dropLast_concat_getLast hd;refine⟨c.dropLast,(lI (by omega)).2 ⟨by simp[h1],fun i hi hi2=>?_⟩,O4.2 ⟨c.getLast hd,?_,hsp.symm⟩⟩
   ·have:=h2 i (by omega) hi2;simp only[rl] at this ⊢;rw[List.getElem?_dropLast,if_pos (by omega)];exact this
   ·have:=h2 k (by omega) (by omega);have hlast:rl c k=c.getLast hd:=by
     simp only[rl];rw[List.getLast_eq_getElem,List.getElem?_eq_getElem (by omega)];simp[h1]
    rw[hlast] at this;exact this
theorem oV{rs:List Span}(h:∀ s∈rs,0<=s.lo/\s.lo<=s.hi/\s.hi<=2):∀ k,(dI rs k).length<=3^k
 |0=>by simp[dI]
 |k+1=>by
  have ih:=oV h k;by_cases hk:k<rs.length
  ·rw[j6 hk,Nat.pow_succ];have:=h _ (List.getElem_mem hk);refine Nat.le_trans (G7 (ext rs[k]) 3 _ fun c _=>?_) (Nat.mul_le_mul_right _ ih);simp only[ext,List.length_map,B8];omega
  ·simp only[dI,List.getElem?_eq_none (Nat.le_of_not_lt hk)];rw[Nat.pow_succ];omega
theorem y9{v:Farm}(h:Vd v):(k8 v).length<=2187:=by
 refine Nat.le_trans (oV h.ra _) ?_;have:=h.nra;exact Nat.le_trans (Nat.pow_le_pow_right (by omega) this.2) (by decide)
structure RainOk (v:Farm) (c:List Int):Prop where
 len:c.length=v.rain.length
 bd:∀ i (h:i<v.rain.length),v.rain[i].lo<=rl c i/\rl c i<=v.rain[i].hi
theorem lP{v:Farm}{c:List Int}:c∈k8 v↔RainOk v c:=by
 rw[k8,lI (Nat.le_refl _)];exact⟨fun ⟨h1,h2⟩=>⟨h1,fun i h=>h2 i h h⟩,fun ⟨h1,h2⟩=>⟨h1,fun i h _=>h2 i h⟩⟩
theorem uF{v:Farm}(hv:Vd v){c:List Int}(h:RainOk v c)(i:Nat):0<=rl c i/\rl c i<=2:=by
 by_cases hi:i<v.rain.length
 ·have h1:=h.bd i hi;have h2:=hv.ra _ (List.getElem_mem hi);omega
 ·rw[rl,List.getElem?_eq_none (by rw[h.len];omega)];simp
theorem C6(r:Nat->Int)(a:Nat):pts r a a=0:=by
 cases a with
 |zero=>rfl
 |succ a=>simp only[pts];rw[if_neg (by omega)]
theorem TD(r:Nat->Int){a d:Nat}(h:d<=a):pts r a d=0:=by
 cases d with
 |zero=>rfl
 |succ d=>simp only[pts];rw[if_neg (by omega)]
theorem KM(r:Nat->Int){a d:Nat}(h:a<=d):pts r a (d+1)=pts r a d+(1+r d):=by simp only[pts];rw[if_pos h]
theorem GS{r:Nat->Int}(hr:∀ i,0<=r i/\r i<=2)(a:Nat):∀ d,0<=pts r a d/\pts r a d<=3*d
 |0=>by simp[pts]
 |d+1=>by
  have ih:=GS hr a d;have:=hr d;simp only[pts];split
  ·omega
  ·omega
theorem u0{v:Farm}{but:List Int}{t:Truth}:t∈aO v but↔RainOk v t.rain/\t.fl=(List.range v.plots.length).map (fun p=>bC v p t.rain but)/\∀ x∈t.fl,x≠[]:=by
 simp only[aO,List.mem_filterMap];constructor
 ·rintro⟨c,hc,h⟩;simp only[gG] at h;split at h
  ·rename_i ha;simp only[Option.some.injEq] at h;subst h;refine⟨lP.1 hc,rfl,fun x hx e=>?_⟩;have:=List.all_eq_true.1 ha x hx;rw[e] at this;simp at this
  ·cases h
 ·rintro⟨h1,h2,h3⟩;refine⟨t.rain,lP.2 h1,?_⟩;obtain⟨rain,fl⟩:=t;simp only at h1 h2 h3 ⊢;simp only[gG,<-h2];rw[if_pos];rw[List.all_eq_true];intro x hx;have:=h3 x hx;cases x with
  |nil=>exact absurd rfl this
  |cons a b=>rfl
theorem MT{v:Farm}(hv:Vd v)(but:List Int):(aO v but).length<=2187:=Nat.le_trans (List.length_filterMap_le _ _) (y9 hv)
structure TOk (v:Farm) (t:Truth):Prop where
 rain:RainOk v t.rain
 len:t.fl.length=v.plots.length
 fl:∀ p,p<v.plots.length->iK t p≠[]/\(iK t p).length<=7/\∀ d∈iK t p,0<=d/\d<v.rain.length
theorem rB{v:Farm}(hv:Vd v){p:Nat}(hp:p<v.plots.length)(rain but:List Int):(bC v p rain but).length<=7/\∀ d∈bC v p rain but,0<=d/\d<v.rain.length:=by
 have h1:=(D9 hv hp).1;have h2:=hv.nra;rw[bC,pG hp];refine⟨Nat.le_trans (List.length_filter_le _ _) (by rw[B8];omega),fun d hd=>?_⟩;have:=kK.1 (List.mem_filter.1 hd).1;omega
theorem BN{v:Farm}(hv:Vd v){but:List Int}{t:Truth}(h:t∈aO v but):TOk v t:=by
 obtain⟨h1,h2,h3⟩:=u0.1 h;refine⟨h1,by rw[h2];simp,fun p hp=>?_⟩;have e:iK t p=bC v p t.rain but:=by simp[iK,h2,hp]
 rw[e];refine⟨h3 _ (by rw[h2];exact List.mem_map.2 ⟨p,by simpa using hp,rfl⟩),rB hv hp _ _⟩
end Go.Am.Room.Fa
set_option maxRecDepth 4000
namespace Go.Am.Room.Fa
def aX:=zz @bR (zz @aH (zz @bS (zz @bQ (zz @aR (zz @cB (zz @cA (@cC)))))))
def enc3(x:Int×Int×Int):AV:=.tuple [.int .i64 x.1,.int .i64 x.2.1,.int .i64 x.2.2]
theorem AY(v:Farm):cE T 68 [encFarm v] (.int .i64 (eI v)):=by
 refine aZ (af:=a68) rfl (by simp[a68]) dd ?_;try simp only[↓QA,QB,seval,aX,a68,eI]
theorem u5{k:Nat}{ns:List ByteArray}{s:ByteArray}{b:ABlk}{ex:Bool}{τ:St}(hk:ns.length=k)(hn:k<16):bW 1 16 (b::.tok 1 k ex::τ) (.lit (ns.map .str) false (some 1)) (.lit [.str s] true none)=some (.lit ((ns++[s]).map .str) false (some 1),b::.tok 1 (k+1) true::τ):=by
 rw[v8 (ex:=ex) ⟨vP 1 _ ns (fun x=>XY _),by simp[aI,AV.cells,AV.cell],by simp[room,hk];omega,by simp[room,hk];omega⟩ (by simp) (by simp[hk])];simp[hk]
theorem y0{v:Farm}{k:Nat}(h:k<v.plots.length):(v.plots.take (k+1)).map Plot.name=(v.plots.take k).map Plot.name++[v.plots[k].name]:=by
 rw[List.take_succ_eq_append_getElem h,List.map_append];rfl
theorem refcheck_ok(v:Farm)(h:Fits v):cE T 10 [encFarm v] (enc3 (check v)):=by
 refine aZ (af:=a10) rfl (by simp[a10]) dd ?_;have hfr:=h.rain;have hfp:=h.plots;have hfl:=h.looks
 (repeat (first|simp only[↓QA,QB,seval,aX,a10]|refine rd0 rfl ?_))
 ((first|refine aE (fK v.rain.length 1 7) rfl dd ?_|refine aN (fK v.rain.length 1 7) rfl dd ?_);(repeat (first|simp only[↓QA,QB,seval,aX]|refine rd0 rfl ?_)))
 cases h1:inR v.rain.length 1 7
 ·(repeat (first|simp only[↓QA,QB,seval,aX]|refine rd0 rfl ?_))
  simp[check,h1,enc3]
 ·have h1':v.rain.length<=7:=by simp[inR] at h1;omega
  have hc:check v=match aS sK v.rain 0 with|some (i,e)=>(1,(i:Int),e)|none=>fH v:=by simp only[check,h1,Bool.true_eq_false,if_false];try rfl
  rw[hc]
  (repeat (first|simp only[↓QA,QB,seval,aX]|refine rd0 rfl ?_))
  refine b9 (S:=Nat) 0 (fun k=>k<=v.rain.length/\aS sK (v.rain.drop k) k=aS sK v.rain 0) (fun k=>v.rain.length-k)
   (fun k=>[(1,.ptr 0 0),(5,.int .i64 k)]) (fun _=>[.cells (aB v)]) ⟨Nat.zero_le _,by simp⟩ (by simp[aB,aG]) ?_ fun k hs=>?_
  ·try simp only[aD,QE,seval,aX]
   try simp
  ·obtain⟨hk,hb⟩:=hs
   (repeat (first|simp only[↓QA,QB,seval,aX,aC7]|refine rd0 rfl ?_))
   refine aF (fun hd=>?_) fun hd=>?_
   ·have hk1:k<v.rain.length:=by simpa using hd
    rw[eU hk1] at hb;have hw:=bJ hk1 hfr;have hre:sK k v.rain[k]=eH v.rain[k] 0 2:=rfl;rw[hre] at hb
    (repeat (first|simp only[↓QA,QB,seval,aX,hk1]|refine rd0 rfl ?_))
    ((first|refine aE (qX v.rain[k] 0 2) rfl dd ?_|refine aN (qX v.rain[k] 0 2) rfl dd ?_);(repeat (first|simp only[↓QA,QB,seval,aX,hk1]|refine rd0 rfl ?_)))
    cases hf:(eH v.rain[k] 0 2==0)
    ·have hf':eH v.rain[k] 0 2≠0:=by simpa using hf
     rw[if_neg hf'] at hb;rw[<-hb]
     (repeat (first|simp only[↓QA,QB,seval,aX,hf]|refine rd0 rfl ?_))
     rfl
    ·have hf':eH v.rain[k] 0 2=0:=by simpa using hf
     rw[if_pos hf'] at hb
     (repeat (first|simp only[↓QA,QB,seval,aX,hf,hw]|refine rd0 rfl ?_))
     refine⟨k+1,⟨by omega,hb⟩,by omega,?_⟩;try simp only[aD,QE,seval,aX,hw]
     try simp[aY]
   ·have hk1:k=v.rain.length:=by simp at hd;omega
    rw[fE hk1] at hb;rw[<-hb]
    (repeat (first|simp only[↓QA,QB,seval,aX]|refine rd0 rfl ?_))
    ((first|refine aE (qX v.way 0 9) rfl dd ?_|refine aN (qX v.way 0 9) rfl dd ?_);(repeat (first|simp only[↓QA,QB,seval,aX]|refine rd0 rfl ?_)))
    ((first|refine aE (fK v.full 0 30) rfl dd ?_|refine aN (fK v.full 0 30) rfl dd ?_);(repeat (first|simp only[↓QA,QB,seval,aX]|refine rd0 rfl ?_)))
    cases h2:inR v.full 0 30
    ·(repeat (first|simp only[↓QA,QB,seval,aX]|refine rd0 rfl ?_))
     simp[fH,h2,enc3]
    ·(repeat (first|simp only[↓QA,QB,seval,aX]|refine rd0 rfl ?_))
     ((first|refine aE (fK v.ripe 0 30) rfl dd ?_|refine aN (fK v.ripe 0 30) rfl dd ?_);(repeat (first|simp only[↓QA,QB,seval,aX]|refine rd0 rfl ?_)))
     cases h3:inR v.ripe 0 30
     ·(repeat (first|simp only[↓QA,QB,seval,aX]|refine rd0 rfl ?_))
      simp[fH,h3,enc3]
     ·(repeat (first|simp only[↓QA,QB,seval,aX]|refine rd0 rfl ?_))
      cases h4:(eH v.way 0 9==7)
      ·have h4':eH v.way 0 9≠7:=by simpa using h4
       (repeat (first|simp only[↓QA,QB,seval,aX,h4]|refine rd0 rfl ?_))
       cases h5:(eH v.way 0 9==0)
       ·have h5':eH v.way 0 9≠0:=by simpa using h5
        (repeat (first|simp only[↓QA,QB,seval,aX,h5]|refine rd0 rfl ?_))
        simp[fH,h2,h3,h4',h5',enc3]
       ·have h5':eH v.way 0 9=0:=by simpa using h5
        have hc:fH v=gU v:=by simp[fH,h2,h3,h5']
        rw[hc]
        (repeat (first|simp only[↓QA,QB,seval,aX,h5]|refine rd0 rfl ?_))
        cases h6:decide ((4:Int)<(v.plots.length:Int))
        case' true =>
         have h6':4<v.plots.length:=by first|(have:=of_decide_eq_false h6;omega)|(have:=of_decide_eq_true h6;omega)
         (repeat (first|simp only[↓QA,QB,seval,aX]|refine rd0 rfl ?_))
         simp[gU,h6',enc3]
        have h6':¬4<v.plots.length:=by first|(have:=of_decide_eq_false h6;omega)|(have:=of_decide_eq_true h6;omega)
        have hc:gU v=match aS (kI v) v.plots 0 with|some (i,e)=>(3,(i:Int),e)|none=>lZ v:=by simp only[gU,h6',if_false];try rfl
        rw[hc];have hwe:IntKind.i64.wrap (eI v-1)=eI v-1:=bL ⟨by simp only[eI];omega,by simp only[eI];omega⟩
        (repeat (first|simp only[↓QA,QB,seval,aX]|refine rd0 rfl ?_))
        refine oJ 8 1 [] rfl ?_;refine b9 (S:=Nat×Bool) (0,false) (fun s=>s.1<=v.plots.length/\aS (kI v) (v.plots.drop s.1) s.1=aS (kI v) v.plots 0) (fun s=>v.plots.length-s.1)
         (fun s=>[(1,.ptr 0 0),(8,.lit (((v.plots.take s.1).map Plot.name).map .str) false (some 1)),(9,.int .i64 s.1)]) (fun s=>[.cells (aB v),.tok 1 s.1 s.2]) ⟨Nat.zero_le _,by simp⟩ (by simp[aB,aG]) ?_ fun s hs=>?_
        ·try simp only[aD,QE,seval,aX]
         try simp
        ·obtain⟨k,ex⟩:=s;obtain⟨hk,hb⟩:=hs;simp only at hk hb;have hlen:((v.plots.take k).map Plot.name).length=k:=by simp[hk]
         (repeat (first|simp only[↓QA,QB,seval,aX,aCM]|refine rd0 rfl ?_))
         refine aF (fun hd=>?_) fun hd=>?_
         ·have hk1:k<v.plots.length:=by simpa using hd
          rw[eU hk1] at hb;have hw:=bJ hk1 hfp;have hap:=fun (τ:St)=>u5 (k:=k) (ns:=(v.plots.take k).map Plot.name) (s:=v.plots[k].name) (b:=.cells (aB v)) (ex:=ex) (τ:=τ) hlen (by omega)
          simp only[aH] at hap;have hset:kI v k v.plots[k]=if fresh v.plots[k].name ((v.plots.take k).map Plot.name)=0 then DJ v v.plots[k] else fresh v.plots[k].name ((v.plots.take k).map Plot.name):=rfl
          have hfre:=CB v.plots[k].name ((v.plots.take k).map Plot.name) (h.names _ (List.getElem_mem hk1)) (by rw[hlen];omega);have htn:=y0 hk1;obtain⟨p,hpe⟩:∃ p,v.plots[k]=p:=⟨_,rfl⟩;rw[hpe] at hset hap hb htn hfre;have hset2:DJ v p=if eH p.flower 0 (eI v-1)=7\/inR p.hands 1 99=false then 7 else eH p.flower 0 (eI v-1):=rfl
          obtain⟨F,hF⟩:∃ F,fresh p.name ((v.plots.take k).map Plot.name)=F:=⟨_,rfl⟩;rw[hF] at hset hfre;obtain⟨E,hE⟩:∃ E,eH p.flower 0 (eI v-1)=E:=⟨_,rfl⟩;have hen:=qX p.flower 0 (eI v-1);rw[hE] at hset2 hen
          (repeat (first|simp only[↓QA,QB,seval,aX,hk1,hpe]|refine rd0 rfl ?_))
          ((first|refine PI (hfre) (by try simp only[QS,QC,seval,aX]) trivial ?_|refine OW (hfre) (by try simp only[QS,QC,seval,aX]) trivial ?_);(repeat (first|simp only[↓QA,QB,seval,aX,hk1,hpe,hap]|refine rd0 rfl ?_)))
          ((first|refine aE (AY v) rfl dd ?_|refine aN (AY v) rfl dd ?_);(repeat (first|simp only[↓QA,QB,seval,aX,hwe]|refine rd0 rfl ?_)))
          ((first|refine aE (hen) rfl dd ?_|refine aN (hen) rfl dd ?_);(repeat (first|simp only[↓QA,QB,seval,aX,hk1,hpe]|refine rd0 rfl ?_)))
          cases hf:(F==0)
          ·have hf':F≠0:=by simpa using hf
           rw[if_neg hf'] at hset;rw[hset,if_neg hf'] at hb;rw[<-hb]
           (repeat (first|simp only[↓QA,QB,seval,aX,hf]|refine rd0 rfl ?_))
           rfl
          ·have hf':F=0:=by simpa using hf
           rw[if_pos hf',hset2] at hset;cases h7:(E==7)
           ·have h7':E≠7:=by simpa using h7
            (repeat (first|simp only[↓QA,QB,seval,aX,hf,h7]|refine rd0 rfl ?_))
            ((first|refine aE (fK p.hands 1 99) rfl dd ?_|refine aN (fK p.hands 1 99) rfl dd ?_);(repeat (first|simp only[↓QA,QB,seval,aX,hf,h7]|refine rd0 rfl ?_)))
            cases h8:inR p.hands 1 99
            ·have:kI v k p=7:=by rw[hset,if_pos (.inr h8)]
             rw[this] at hb
             (repeat (first|simp only[↓QA,QB,seval,aX,hf,h7,show ((7:Int)==0)=false from rfl]|refine rd0 rfl ?_))
             rw[<-hb];rfl
            ·have:kI v k p=E:=by rw[hset,if_neg (by simp[h7',h8])]
             rw[this] at hb;cases h9:(E==0)
             ·have h9':E≠0:=by simpa using h9
              rw[if_neg h9'] at hb
              (repeat (first|simp only[↓QA,QB,seval,aX,hf,h7,h9]|refine rd0 rfl ?_))
              rw[<-hb];rfl
             ·have h9':E=0:=by simpa using h9
              rw[if_pos h9'] at hb
              (repeat (first|simp only[↓QA,QB,seval,aX,hf,h7,h9,hw]|refine rd0 rfl ?_))
              refine⟨(k+1,true),⟨by simp only;omega,hb⟩,by simp only;omega,?_⟩;try simp only[aD,QE,seval,aX,htn,hw]
              try simp[aY]
           ·have h7':E=7:=by simpa using h7
            have:kI v k p=7:=by rw[hset,if_pos (.inl h7')]
            rw[this] at hb
            (repeat (first|simp only[↓QA,QB,seval,aX,hf,h7,show ((7:Int)==0)=false from rfl]|refine rd0 rfl ?_))
            rw[<-hb];rfl
         ·have hk1:k=v.plots.length:=by simp at hd;omega
          rw[fE hk1] at hb;rw[<-hb,hk1]
          (repeat (first|simp only[↓QA,QB,seval,aX]|refine rd0 rfl ?_))
          cases h7:decide ((4:Int)<(v.looks.length:Int))
          case' true =>
           have h7':4<v.looks.length:=by first|(have:=of_decide_eq_false h7;omega)|(have:=of_decide_eq_true h7;omega)
           (repeat (first|simp only[↓QA,QB,seval,aX]|refine rd0 rfl ?_))
           simp[lZ,h7',enc3]
          have h7':¬4<v.looks.length:=by first|(have:=of_decide_eq_false h7;omega)|(have:=of_decide_eq_true h7;omega)
          have hc:lZ v=match aS (m7 v) v.looks 0 with|some (i,e)=>(4,(i:Int),e)|none=>(0,0,0):=by simp only[lZ,h7',if_false];try rfl
          rw[hc];have hwl:IntKind.i64.wrap ((v.plots.length:Int)-1)=(v.plots.length:Int)-1:=bL ⟨by omega,by omega⟩
          (repeat (first|simp only[↓QA,QB,seval,aX]|refine rd0 rfl ?_))
          refine b9 (S:=Nat) 0 (fun k=>k<=v.looks.length/\aS (m7 v) (v.looks.drop k) k=aS (m7 v) v.looks 0) (fun k=>v.looks.length-k)
           (fun k=>[(1,.ptr 0 0),(13,.int .i64 k)]) (fun _=>[.cells (aB v),.tok 1 v.plots.length ex]) ⟨Nat.zero_le _,by simp⟩ (by simp[aB,aG]) ?_ fun m hm=>?_
          ·try simp only[aD,QE,seval,aX]
           try simp
          ·obtain⟨hm,hbm⟩:=hm
           (repeat (first|simp only[↓QA,QB,seval,aX,aCW]|refine rd0 rfl ?_))
           refine aF (fun hd3=>?_) fun hd3=>?_
           ·have hm1:m<v.looks.length:=by simpa using hd3
            rw[eU hm1] at hbm;have hw3:=bJ hm1 hfl;obtain⟨x,hx⟩:∃ x,v.looks[m]=x:=⟨_,rfl⟩;rw[hx] at hbm;have hle:m7 v m x=if inR x.plot 0 ((v.plots.length:Int)-1)=false then 4 else if inR x.day 0 (eI v)=false\/inR x.points 0 30=false then 7 else 0:=rfl
            rw[hle] at hbm
            (repeat (first|simp only[↓QA,QB,seval,aX,hm1,hx,hwl]|refine rd0 rfl ?_))
            ((first|refine aE (fK x.plot 0 ((v.plots.length:Int)-1)) rfl dd ?_|refine aN (fK x.plot 0 ((v.plots.length:Int)-1)) rfl dd ?_);(repeat (first|simp only[↓QA,QB,seval,aX,hm1,hx]|refine rd0 rfl ?_)))
            cases hi:inR x.plot 0 ((v.plots.length:Int)-1)
            ·rw[hi] at hbm
             (repeat (first|simp only[↓QA,QB,seval,aX,hm1]|refine rd0 rfl ?_))
             rw[<-hbm];rfl
            ·rw[hi] at hbm;simp only[Bool.true_eq_false,if_false] at hbm
             (repeat (first|simp only[↓QA,QB,seval,aX,hm1,hx]|refine rd0 rfl ?_))
             ((first|refine aE (AY v) rfl dd ?_|refine aN (AY v) rfl dd ?_);(repeat (first|simp only[↓QA,QB,seval,aX,hm1,hx]|refine rd0 rfl ?_)))
             ((first|refine aE (fK x.day 0 (eI v)) rfl dd ?_|refine aN (fK x.day 0 (eI v)) rfl dd ?_);(repeat (first|simp only[↓QA,QB,seval,aX,hm1,hx]|refine rd0 rfl ?_)))
             cases hi2:inR x.day 0 (eI v)
             ·rw[hi2] at hbm
              (repeat (first|simp only[↓QA,QB,seval,aX,hm1]|refine rd0 rfl ?_))
              rw[<-hbm];simp[enc3]
             ·rw[hi2] at hbm
              (repeat (first|simp only[↓QA,QB,seval,aX,hm1,hx]|refine rd0 rfl ?_))
              ((first|refine aE (fK x.points 0 30) rfl dd ?_|refine aN (fK x.points 0 30) rfl dd ?_);(repeat (first|simp only[↓QA,QB,seval,aX,hm1,hx]|refine rd0 rfl ?_)))
              cases hi3:inR x.points 0 30
              ·rw[hi3] at hbm
               (repeat (first|simp only[↓QA,QB,seval,aX,hm1]|refine rd0 rfl ?_))
               rw[<-hbm];simp[enc3]
              ·rw[hi3] at hbm
               (repeat (first|simp only[↓QA,QB,seval,aX,hm1,hw3]|refine rd0 rfl ?_))
               refine⟨m+1,⟨by omega,by rw[<-hbm];rfl⟩,by omega,?_⟩;try simp only[aD,QE,seval,aX,hw3]
               try simp
           ·have hm1:m=v.looks.length:=by simp at hd3;omega
            rw[fE hm1] at hbm;rw[<-hbm]
            (repeat (first|simp only[↓QA,QB,seval,aX]|refine rd0 rfl ?_))
            rfl
      ·have h4':eH v.way 0 9=7:=by simpa using h4
       (repeat (first|simp only[↓QA,QB,seval,aX,h4]|refine rd0 rfl ?_))
       simp[fH,h4',enc3]
end Go.Am.Room.Fa
namespace Go.Am.Room.Fa
def dO:=zz @bR (zz @aH (zz @bS (zz @bQ (zz @aR (zz @cB (zz @cA (@cC)))))))
theorem VH{l:List Int}{k:Nat}(h:k<l.length):rl l k=l[k]:=by simp[rl,h]
theorem Q4(l:List Int)(a d:Nat)(hl:∀ i,0<=rl l i/\rl l i<=2)(hd:d<=l.length)(hd7:l.length<=7):cE T 18 [aG l,.int .i64 a,.int .i64 d] (.int .i64 (pts (rl l) a d)):=by
 refine aZ (af:=a18) rfl (by simp[a18]) dd ?_;try simp only[↓QA,QB,seval,dO,a18]
 by_cases ha:a<=d
 ·refine b9 (S:=Nat) a (fun k=>a<=k/\k<=d) (fun k=>d-k) (fun k=>[(0,aG l),(2,.int .i64 d),(7,.int .i64 (pts (rl l) a k)),(8,.int .i64 k)]) (fun _=>[]) ⟨Nat.le_refl _,ha⟩ rfl ?_ fun k hk=>?_
  ·try simp only[aD,QE,seval,dO]
   simp[C6]
  ·obtain⟨h1,h2⟩:=hk;try simp only[↓QA,QB,seval,dO,XB]
   refine aF (fun h=>?_) fun h=>?_
   ·have hk1:k<d:=by simpa using h
    have hk2:k<l.length:=by omega
    have hw:=bJ hk1 (by omega);have hb:=GS hl a k;have hs:=KM (rl l) h1;have he:=VH hk2;have hr:=hl k;obtain⟨P,hP⟩:∃ P,pts (rl l) a k=P:=⟨_,rfl⟩;obtain⟨R,hR⟩:∃ R,rl l k=R:=⟨_,rfl⟩;rw[hP] at hb hs;rw[hR] at he hs hr;have w1:IntKind.i64.wrap (P+1)=P+1:=bL ⟨by omega,by omega⟩;have w2:IntKind.i64.wrap (P+1+R)=P+1+R:=bL ⟨by omega,by omega⟩;have hs2:pts (rl l) a (k+1)=P+1+R:=by omega
    rw[hP];try simp only[↓QA,QB,seval,dO,hk2,<-he,w1,w2]
    refine⟨k+1,⟨by omega,by omega⟩,by omega,?_⟩;try simp only[aD,QE,seval,dO,hw,hs2]
   ·have hk1:k=d:=by simp at h;omega
    subst hk1;try simp only[↓QA,QB,seval,dO]
 ·have hlt:decide ((a:Int)<(d:Int))=false:=by simp;omega
  rw[TD (rl l) (by omega)];refine b9 (S:=Unit) () (fun _=>True) (fun _=>0) (fun _=>[(0,aG l),(2,.int .i64 d),(7,.int .i64 0),(8,.int .i64 a)]) (fun _=>[]) trivial rfl ?_ fun _ _=>?_
  ·try simp only[aD,QE,seval,dO]
   try simp
  ·try simp only[↓QA,QB,seval,dO,XB,hlt]
theorem tL{a b:Int}(h:a<=b):aW a (b+1-a).toNat=a::aW (a+1) (b+1-(a+1)).toNat:=by
 have:(b+1-a).toNat=(b+1-(a+1)).toNat+1:=by omega
 rw[this,aW]
theorem v9{a b:Int}(h:¬a<=b):aW a (b+1-a).toNat=[]:=by
 have:(b+1-a).toNat=0:=by omega
 rw[this,aW]
theorem L4{rs:List Span}:∀ k,k<=rs.length->∀ c∈dI rs k,c.length=k:=fun k hk c hc=>((lI hk).1 hc).1
theorem HU(v:Farm)(hv:Vd v):cE T 90 [encFarm v] (bD (k8 v)):=by
 refine aZ (af:=a90) rfl (by simp[a90]) dd ?_;have hno:=hv.nra;rw[show k8 v=dI v.rain v.rain.length from rfl];try simp only[↓QA,QB,seval,dO,a90]
 refine b9 (S:=Nat) 0 (fun n=>n<=v.rain.length) (fun n=>v.rain.length-n) (fun n=>[(1,.ptr 0 0),(3,bD (dI v.rain n)),(4,.int .i64 n)]) (fun _=>[.cells (aB v)]) (Nat.zero_le _) (by simp[aB,aG]) ?_ fun n hn=>?_
 ·try simp only[aD,QE,seval,dO]
  simp[bD,aG,dI,clr,clrs]
 ·try simp only[↓QA,QB,seval,dO,aDF,bD]
  refine aF (fun h=>?_) fun h=>?_
  ·have hn1:n<v.rain.length:=by simpa using h
   have hwn:IntKind.i64.wrap ((n:Int)+1)=((n+1:Nat):Int):=bJ hn1 (by omega);have hwl:∀ j,j<=7->(dI v.rain j).length<=2187:=fun j hj=>Nat.le_trans (oV hv.ra j) (Nat.le_trans (Nat.pow_le_pow_right (by omega) hj) (by decide))
   have hsl:=hwl n (by omega);have hsl2:=hwl (n+1) (by omega);have hin:=L4 (rs:=v.rain) n hn;have hsu:=j6 hn1;have hra:=hv.ra _ (List.getElem_mem hn1);obtain⟨s,hs⟩:∃ s,v.rain[n]=s:=⟨_,rfl⟩;rw[hs] at hsu hra;rw[hsu] at hsl2;obtain⟨W,hW⟩:∃ W,dI v.rain n=W:=⟨_,rfl⟩;rw[hW] at hsl hsl2 hsu hin;rw[hW];obtain⟨X,hX⟩:∃ X,W.flatMap (ext s)=X:=⟨_,rfl⟩;rw[hX] at hsl2 hsu;try simp only[↓QA,QB,seval,dO]
   refine oJ 5 1 [] rfl ?_;refine b9 (S:=Nat×List (List Int)×Bool) (0,[],false) (fun a=>a.1<=W.length/\a.2.1++(W.drop a.1).flatMap (ext s)=X) (fun a=>W.length-a.1)
    (fun a=>[(1,.ptr 0 0),(3,bD W),(4,.int .i64 n),(5,.lit (a.2.1.map aG) false (some 1)),(6,.int .i64 a.1)])
    (fun a=>[.cells (aB v),.tok 1 a.2.1.length a.2.2]) ⟨Nat.zero_le _,by simpa using hX⟩ (by simp[aB,aG]) ?_ fun a ha=>?_
   ·try simp only[aD,QE,seval,dO,bD,aG]
    try simp
   ·obtain⟨k,acc,ex⟩:=a;obtain⟨hk,hacc⟩:=ha;simp only at hk hacc;try simp only[↓QA,QB,seval,dO,aCL,bD]
    refine aF (fun h2=>?_) fun h2=>?_
    ·have hk1:k<W.length:=by simpa using h2
     have hwk:=bJ hk1 (by omega);obtain⟨c,hc⟩:∃ c,W[k]=c:=⟨_,rfl⟩;have hcl:=hin _ (List.getElem_mem hk1);rw[hc] at hcl;rw[List.drop_eq_getElem_cons hk1,hc,List.flatMap_cons,ext,lU] at hacc;try simp only[↓QA,QB,seval,dO,hn1,hs]
     have hlo:=hra.1;have hhi:=hra.2.2;refine b9 (S:=Int×List (List Int)×Bool×St) (s.lo,acc,ex,[]) (fun a=>s.lo<=a.1/\a.1<=s.hi+1/\a.2.1++((aW a.1 (s.hi+1-a.1).toNat).map (fun n=>c++[n])++(W.drop (k+1)).flatMap (ext s))=X) (fun a=>(s.hi+1-a.1).toNat)
      (fun a=>[(1,.ptr 0 0),(3,bD W),(4,.int .i64 n),(5,.lit (a.2.1.map aG) false (some 1)),(6,.int .i64 k),(7,.int .i64 a.1)])
      (fun a=>.cells (aB v)::.tok 1 a.2.1.length a.2.2.1::a.2.2.2) ⟨Int.le_refl _,by omega,by simpa using hacc⟩ (by simp[aB]) ?_ fun a ha=>?_
     ·try simp only[aD,QE,seval,dO,bD,aG]
      try simp
     ·obtain⟨m,acc,ex,τ⟩:=a;obtain⟨hm0,hm1,hacc⟩:=ha;simp only at hm0 hm1 hacc;try simp only[↓QA,QB,seval,dO,aD3,bD,hn1,hs]
      refine aF (fun h3=>?_) fun h3=>?_
      ·have hm2:m<=s.hi:=by simpa using h3
       have hwm:IntKind.i64.wrap (m+1)=m+1:=bL ⟨by omega,by omega⟩;rw[tL hm2] at hacc;have hal:acc.length<=2187:=by
        have:=congrArg List.length hacc;simp only[List.length_append] at this;omega
       have a0:∀ (σ:St),bW 1 8 σ (.lit [] true none) (.lit (c.map (.int .i64)) false none)=some ((pI 1 σ (c.map (.int .i64))).1,(pI 1 σ (c.map (.int .i64))).2):=fun σ=>GQ ⟨rfl,mG c,by simp[room];omega,by simp[room];omega⟩
       have a1:∀ (σ:St),bW 1 8 (pI 1 σ (c.map (.int .i64))).2 (pI 1 σ (c.map (.int .i64))).1 (.lit [.int .i64 m] true none)=some (.lit (c.map (.int .i64)++[.int .i64 m]) false (some σ.length),σ++[.tok 1 (c.length+1) true]):=fun σ=>by
        rw[xZ ⟨mG c,by simp[aI,AV.cells,AV.cell],by simp[room];omega,by simp[room];omega⟩ (by simp)];simp
       have a2:=fun (b0:ABlk) (τ:St) (t:Nat)=>yZ (σ:=b0::.tok 1 acc.length ex::τ) (t:=1) (ex:=ex) (sz:=1) (b:=24) (xs:=acc.map aG) (ys:=[.lit (c.map (.int .i64)++[.int .i64 m]) false (some t)]) (f:=true) (tk:=none) ⟨lC acc,by simp[aI,AV.cells,AV.cell],by simp[room];omega,by simp[room];omega⟩ (by simp) acc.length (by simp) rfl
       try simp only[↓QA,QB,seval,dO,hk1,hc,aG,a0,a1,a2,hwm]
       refine⟨(m+1,acc++[c++[m]],true,τ),⟨by simp only;omega,by simp only;omega,by rw[<-hacc];simp⟩,by simp only;omega,?_⟩;try simp only[aD,QE,seval,dO,hwm,bD,aG,List.map_append,List.map_cons,List.map_nil]
       try simp[aY]
      ·have hm2:¬m<=s.hi:=by simpa using h3
       rw[v9 hm2] at hacc;simp only[List.map_nil,List.nil_append] at hacc;try simp only[↓QA,QB,seval,dO,hwk]
       refine⟨(k+1,acc,ex),⟨by simp only;omega,hacc⟩,by simp only;omega,?_⟩;try simp only[aD,QE,seval,dO,hwk,bD,aG]
       try simp[aY]
    ·have hk1:k=W.length:=by simp at h2;omega
     rw[hk1,List.drop_length] at hacc;simp only[List.flatMap_nil,List.append_nil] at hacc;subst hacc;try simp only[↓QA,QB,seval,dO,hwn]
     refine⟨n+1,by omega,by omega,?_⟩;try simp only[aD,QE,seval,dO,hwn,hsu,bD,aG]
     try simp[aY]
  ·have hn1:n=v.rain.length:=by simp at h;omega
   subst hn1;try simp only[↓QA,QB,seval,dO,bD]
   try try simp only[QS,QC,seval,dO]
end Go.Am.Room.Fa
namespace Go.Am.Room.Fa
def dN:=zz @bR (zz @aH (zz @bS (zz @bQ (zz @aR (zz @cB (zz @cA (@cC)))))))
def iX(v:Farm)(plot:Int)(rain but:List Int)(d:Int)(n:Nat):Bool:=(List.range n).all fun k=>match v.looks[k]? with|some x=>oW plot but rain d k x|none=>true
theorem rL{v:Farm}{k:Nat}(hk:k<v.looks.length)(plot:Int)(rain but:List Int)(d:Int):iX v plot rain but d (k+1)=(iX v plot rain but d k&&oW plot but rain d k v.looks[k]):=by
 simp[iX,List.range_succ,List.all_append,hk]
theorem JF (v:Farm) (hv:Vd v) (p:Nat) (hp:p<v.plots.length) (rain but:List Int) (hr:∀ i,0≤rl rain i∧rl rain i≤2) (hrl:rain.length=v.rain.length) (hbu:but.length<9223372036854775808) :
    cE T 91 [encFarm v,.int .i64 p,aG rain,aG but] (aG (bC v p rain but)):=by
  refine aZ (af:=a91) rfl (by simp [a91]) dd ?_
  have hno:=hv.nra
  have hnl:=hv.nlk
  have hpl:=(D9 hv hp).1
  obtain ⟨R,hR⟩:∃ R,bC v p rain but=R:=⟨_,rfl⟩
  have hR':=hR
  have hRl:=(rB hv hp rain but).1
  rw [hR] at hRl ⊢
  rw [bC,lU,pG hp] at hR'
  obtain ⟨y,hy⟩:∃ y,v.plots[p]=y:=⟨_,rfl⟩
  rw [hy] at hpl hR'
  obtain ⟨L,hL⟩:∃ L:Nat,y.flower.lo=(L:Int):=⟨y.flower.lo.toNat,by omega⟩
  obtain ⟨H,hH⟩:∃ H:Nat,y.flower.hi=(H:Int):=⟨y.flower.hi.toNat,by omega⟩
  rw [hL,hH] at hR' hpl
  (repeat (first|simp only [↓QA,QB,seval,dN,a91,hp,hy,hL]|refine rd0 rfl ?_))
  refine oJ 9 1 [] rfl ?_
  refine b9 (S:=Nat×List Int×Bool) (L,[],false) (fun a=>L≤a.1∧a.1≤H+1∧a.2.1++(aW (a.1:Int) ((H:Int)+1-a.1).toNat).filter (jI v p rain but)=R) (fun a=>H+1-a.1)
    (fun a=>[(1,.int .i64 p),(2,aG rain),(3,aG but),(4,.ptr 0 0),(9,.lit (a.2.1.map (.int .i64)) false (some 1)),(10,.int .i64 a.1)])
    (fun a=>[.cells (aB v),.tok 1 a.2.1.length a.2.2]) ⟨Nat.le_refl _,by simp only;omega,by simpa using hR'⟩ (by simp [aB,aG]) ?_ fun a ha=>?_
  · try simp only [aD,QE,seval,dN,aG]
    try simp
  · obtain ⟨d,acc,ex⟩:=a
    obtain ⟨hd0,hd1,hacc⟩:=ha
    simp only at hd0 hd1 hacc
    (repeat (first|simp only [↓QA,QB,seval,dN,aDJ,hp,hy,hH]|refine rd0 rfl ?_))
    refine aF (fun h=>?_) fun h=>?_
    · have hd2 : d ≤ H := by have h0 : (d : Int) ≤ (H : Int) := by simpa using h
                             omega
      have hw:=bJ (show d<H+1 by omega) (by omega)
      rw [tL (show (d:Int)≤(H:Int) by omega),List.filter_cons,show (d:Int)+1=((d+1:Nat):Int) by omega] at hacc
      have hal:acc.length≤7:=by
        have:=congrArg List.length hacc
        simp only [List.length_append] at this
        omega
      (repeat (first|simp only [↓QA,QB,seval,dN]|refine rd0 rfl ?_))
      refine b9 (S:=Nat) 0 (fun k=>k≤v.looks.length) (fun k=>v.looks.length-k)
        (fun k=>[(1,.int .i64 p),(2,aG rain),(3,aG but),(4,.ptr 0 0),(9,.lit (acc.map (.int .i64)) false (some 1)),(10,.int .i64 d),(11,.bool (iX v p rain but d k)),(12,.int .i64 k)])
        (fun k=>[.cells (aB v),.tok 1 acc.length ex]) (Nat.zero_le _) (by simp [aB,aG]) ?_ fun k hk=>?_
      · try simp only [aD,QE,seval,dN,aG]
        try simp [iX]
      · (repeat (first|simp only [↓QA,QB,seval,dN,aEF]|refine rd0 rfl ?_))
        refine aF (fun h2=>?_) fun h2=>?_
        · have hk1:k<v.looks.length:=by simpa using h2
          have hwk:=bJ hk1 (by omega)
          have hsu:=rL hk1 p rain but d
          have hlx:=hv.lk _ (List.getElem_mem hk1)
          obtain ⟨x,hx⟩:∃ x,v.looks[k]=x:=⟨_,rfl⟩
          rw [hx] at hsu hlx
          simp only [oW] at hsu
          have hxl:decide (x.plot=(p:Int))=(x.plot==(p:Int)):=by rw [Bool.eq_iff_iff];simp
          rw [hxl] at hsu
          obtain ⟨D,hD⟩:∃ D:Nat,x.day=(D:Int):=⟨x.day.toNat,by omega⟩
          have hpt:=Q4 rain d D hr (by omega) (by omega)
          have hpe:BK rain d x.day=pts (rl rain) d D:=by rw [BK,hD,Int.toNat_natCast,Int.toNat_natCast]
          rw [hpe] at hsu
          obtain ⟨q,hq⟩:∃ q,iX v p rain but d k=q:=⟨_,rfl⟩
          rw [hq] at hsu
          rw [hq]
          (repeat (first|simp only [↓QA,QB,seval,dN,hk1,hx]|refine rd0 rfl ?_))
          cases hl:(x.plot==(p:Int))
          · rw [hl] at hsu
            simp only [Bool.not_false,Bool.true_or,Bool.and_true] at hsu
            (repeat (first|simp only [↓QA,QB,seval,dN,hl,hwk]|refine rd0 rfl ?_))
            refine ⟨k+1,by omega,by omega,?_⟩
            try simp only [aD,QE,seval,dN,hwk,hsu,aG]
            try simp [aY]
          · rw [hl] at hsu
            simp only [Bool.not_true,Bool.false_or] at hsu
            (repeat (first|simp only [↓QA,QB,seval,dN,hl]|refine rd0 rfl ?_))
            ((first|refine aE (NM but (k:Int) hbu) rfl dd ?_|refine aN (NM but (k:Int) hbu) rfl dd ?_);(repeat (first|simp only [↓QA,QB,seval,dN]|refine rd0 rfl ?_)))
            cases hb:but.contains (k:Int)
            · rw [hb,Bool.false_or] at hsu
              (repeat (first|simp only [↓QA,QB,seval,dN]|refine rd0 rfl ?_))
              cases q
              · rw [Bool.false_and] at hsu
                (repeat (first|simp only [↓QA,QB,seval,dN,hwk]|refine rd0 rfl ?_))
                refine ⟨k+1,by omega,by omega,?_⟩
                try simp only [aD,QE,seval,dN,hwk,hsu,aG]
                try simp [aY]
              · rw [Bool.true_and] at hsu
                (repeat (first|simp only [↓QA,QB,seval,dN,hk1,hx,hD]|refine rd0 rfl ?_))
                ((first|refine aE (hpt) rfl dd ?_|refine aN (hpt) rfl dd ?_);(repeat (first|simp only [↓QA,QB,seval,dN,hk1,hx,hwk,hD]|refine rd0 rfl ?_)))
                refine ⟨k+1,by omega,by omega,?_⟩
                try simp only [aD,QE,seval,dN,hwk,hsu,aG]
                try simp [aY]
            · rw [hb,Bool.true_or,Bool.and_true] at hsu
              (repeat (first|simp only [↓QA,QB,seval,dN,hwk]|refine rd0 rfl ?_))
              refine ⟨k+1,by omega,by omega,?_⟩
              try simp only [aD,QE,seval,dN,hwk,hsu,aG]
              try simp [aY]
        · have hk1:k=v.looks.length:=by simp at h2;omega
          subst hk1
          have hto:iX v p rain but d v.looks.length=jI v p rain but d:=rfl
          rw [hto]
          cases hc:jI v p rain but d
          · rw [hc] at hacc
            simp only [Bool.false_eq_true,if_false] at hacc
            (repeat (first|simp only [↓QA,QB,seval,dN,hw]|refine rd0 rfl ?_))
            refine ⟨(d+1,acc,ex),⟨by simp only;omega,by simp only;omega,hacc⟩,by simp only;omega,?_⟩
            try simp only [aD,QE,seval,dN,hw,aG]
            try simp [aY]
          · rw [hc] at hacc
            simp only [if_true] at hacc
            have hap:=fun (b0:ABlk) (τ:St)=>nZ (σ:=b0::.tok 1 acc.length ex::τ) (l:=acc) (a:=(d:Int)) (ex:=ex) (t:=1) (by omega) rfl
            (repeat (first|simp only [↓QA,QB,seval,dN,hw,hap]|refine rd0 rfl ?_))
            refine ⟨(d+1,acc++[(d:Int)],true),⟨by simp only;omega,by simp only;omega,by rw [←hacc];simp⟩,by simp only;omega,?_⟩
            try simp only [aD,QE,seval,dN,hw,tF,aG,List.map_append,List.map_cons,List.map_nil]
            try simp [aY]
    · have hd2:d=H+1:=by
        have h0:¬(d:Int)≤(H:Int):=by simpa using h
        omega
      rw [v9 (show ¬(d:Int)≤(H:Int) by omega)] at hacc
      simp only [List.filter_nil,List.append_nil] at hacc
      subst hacc
      (repeat (first|simp only [↓QA,QB,seval,dN,aG]|refine rd0 rfl ?_))
      try try simp only [QS,QC,seval,dN]
end Go.Am.Room.Fa
namespace Go.Am.Room.Fa
def eR:=zz @bR (zz @aH (zz @bS (zz @bQ (zz @aR (zz @cB (zz @cA (zz @cC (zz @eJ (zz @jZ (@F0))))))))))
def rR(v:Farm)(rain but:List Int)(k:Nat):List (List Int):=(List.range k).map fun (p:Nat)=>bC v p rain but
def n9(v:Farm)(rain but:List Int)(k:Nat):Bool:=(rR v rain but k).all fun x=>!x.isEmpty
theorem EQ(v:Farm)(rain but:List Int)(k:Nat):rR v rain but (k+1)=rR v rain but k++[bC v k rain but]:=by simp[rR,List.range_succ]
theorem CW(v:Farm)(rain but:List Int)(k:Nat):n9 v rain but (k+1)=(n9 v rain but k&&!(bC v k rain but).isEmpty):=by simp[n9,EQ,List.all_append]
theorem TI {v:Farm} {rain but:List Int} {k:Nat} (h:n9 v rain but k=false):∀ j,k≤j→n9 v rain but j=false:=by
  intro j hj
  induction j with
  | zero => have : k = 0 := by omega
            subst this;exact h
  |succ j ih =>
    by_cases hk:k=j+1
    · subst hk;exact h
    · rw [CW,ih (by omega),Bool.false_and]
theorem vY(v:Farm)(but rain:List Int):gG v but rain=if n9 v rain but v.plots.length=true then some ⟨rain,rR v rain but v.plots.length⟩ else none:=rfl
theorem RZ(v:Farm)(hv:Vd v)(but:List Int)(hbu:but.length<9223372036854775808)(W:List (List Int))(bl:List Int)(hbl:bl.length=v.rain.length)(hr:∀ i,0<=rl bl i/\rl bl i<=2)(k:Nat)(hk:k<W.length)(hkb:W[k]=bl)(acc:List Truth)(ex:Bool)(e:Env)(K:KJ)(e1:Env.get e 1=aG but)(e2:Env.get e 2 = .ptr 0 0)(e5:Env.get e 5=bD W)(e6:Env.get e 6 = .lit (acc.map eZ) false (some 1))(e7:Env.get e 7 = .int .i64 k)(e8:Env.get e 8 = .ptr 2 0)(e9:Env.get e 9 = .bool true)(e10:Env.get e 10 = .int .i64 0)(hK:∀ e' xs f tk τ,(∀ t,tk=some t->2<t)->(n9 v bl but v.plots.length=true->xs=(rR v bl but v.plots.length).map aG)->Env.get e' 1=aG but->Env.get e' 2 = .ptr 0 0->Env.get e' 5=bD W->Env.get e' 6 = .lit (acc.map eZ) false (some 1)->Env.get e' 7 = .int .i64 k->Env.get e' 8 = .ptr 2 0->Env.get e' 9 = .bool (n9 v bl but v.plots.length) ->
   K (some (.exit 2)) e' (.cells (aB v)::.tok 2 acc.length ex::.cells [.lit (bl.map (.int .i64)) false none,.lit xs f tk]::τ)):
  rK (K:=⟨K⟩) T (.loop IA) e [.cells (aB v),.tok 2 acc.length ex,.cells [.lit (bl.map (.int .i64)) false none,.lit [] true none]]:=by
 have hno:=hv.npl;refine b9 (S:=Nat×Bool×Option Nat×St) (0,true,none,[]) (fun a=>a.1<=v.plots.length/\∀ t,a.2.2.1=some t->2<t/\t<3+a.2.2.2.length) (fun a=>v.plots.length-a.1)
  (fun a=>[(1,aG but),(2,.ptr 0 0),(5,bD W),(6,.lit (acc.map eZ) false (some 1)),(7,.int .i64 k),(8,.ptr 2 0),(9,.bool (n9 v bl but a.1)),(10,.int .i64 a.1)])
  (fun a=>.cells (aB v)::.tok 2 acc.length ex::.cells [.lit (bl.map (.int .i64)) false none,.lit ((rR v bl but a.1).map aG) a.2.1 a.2.2.1]::a.2.2.2) ⟨Nat.zero_le _,fun t h=>by cases h⟩ rfl ?_ fun a ha=>?_
 ·try simp only[aD,QE,seval,eR,e1,e2,e5,e6,e7,e8,e9,e10]
  try simp[n9,rR]
 ·obtain⟨h,f,tk,τ⟩:=a;obtain⟨hh,htk⟩:=ha;simp only at hh htk;by_cases hh1:h<v.plots.length
  ·have g:decide ((h:Int)<(v.plots.length:Int))=true:=by simp;omega
   have hw:=bJ hh1 (by omega);have hsucc:=EQ v bl but h;have hall:=CW v bl but h;cases hc:n9 v bl but h
   ·have hfull:=TI hc v.plots.length hh
    (repeat (first|simp only[↓QA,QB,seval,eR,IA,g]|refine rd0 rfl ?_))
    have hk0:=hK;rw[aH,hfull] at hk0;refine hk0 _ _ f tk τ (fun t ht=>(htk t ht).1) (fun h=>by cases h) ?_ ?_ ?_ ?_ ?_ ?_ ?_;all_goals try simp only[aD,QE,seval,eR]
   ·rw[hc,Bool.true_and] at hall;have hll:=(rB hv hh1 bl but).1;have hst:=JF v hv h hh1 bl but hr hbl hbu;obtain⟨l,hl⟩:∃ l,bC v h bl but=l:=⟨_,rfl⟩;rw[hl] at hst hsucc hall hll;have hlenp:decide ((0:Int)<(l.length:Int)) = !l.isEmpty:=by cases l<;>simp
    obtain⟨xs,hxs⟩:∃ xs,(rR v bl but h).map aG=xs:=⟨_,rfl⟩;have hxl:xs.length<=4:=by rw[<-hxs];simp[rR];omega
    have hxa:aI 1 xs=true:=by rw[<-hxs];exact lC _
    have a0:∀ (σ:St),bW 1 24 σ (.lit [] true none) (.lit xs f tk)=some ((pI 1 σ xs).1,(pI 1 σ xs).2):=fun σ=>GQ ⟨rfl,hxa,by simp[room];omega,by simp[room];omega⟩
    have a1:∀ (σ:St),bW 1 24 (pI 1 σ xs).2 (pI 1 σ xs).1 (.lit [.lit (l.map (.int .i64)) false none] true none)=some (.lit (xs++[.lit (l.map (.int .i64)) false none]) false (some σ.length),σ++[.tok 1 (xs.length+1) true]):=fun σ=>by
     rw[xZ ⟨hxa,by simp[aI,AV.cells,AV.cell],by simp[room];omega,by simp[room];omega⟩ (by simp)];simp
    simp only[hxs]
    (repeat (first|simp only[↓QA,QB,seval,eR,IA,g,hk,hkb,bD,aG]|refine rd0 rfl ?_))
    ((first|refine aE (hst) rfl dd ?_|refine aN (hst) rfl dd ?_);(repeat (first|simp only[↓QA,QB,seval,eR,hlenp,a0,a1,hk,hkb,bD,aG]|refine rd0 rfl ?_)))
    refine⟨(h+1,false,some (τ.length+1+1+1),τ++[.tok 1 (xs.length+1) true]),⟨by simp only;omega,fun t ht=>by simp only[Option.some.injEq] at ht;subst ht;simp only[List.length_append,List.length_cons,List.length_nil];omega⟩,by simp only;omega,?_⟩;rw[hsucc,hall,List.map_append,hxs];try simp only[aD,QE,seval,eR,hw,List.map_append,List.map_cons,List.map_nil,List.length_append,bD,aG]
    try simp[aY,okVs,okV]
    exact⟨sV (cL (cF .i64) bl) _,wS (sV (by rw[<-hxs];exact cL iY _) _) (sV (aV (iY l) bA) _)⟩
  ·have g:decide ((h:Int)<(v.plots.length:Int))=false:=by simp;omega
   obtain rfl:h=v.plots.length:=by omega
   (repeat (first|simp only[↓QA,QB,seval,eR,IA,g]|refine rd0 rfl ?_))
   have hk0:=hK;rw[aH] at hk0;refine hk0 _ _ f tk τ (fun t ht=>(htk t ht).1) (fun _=>rfl) ?_ ?_ ?_ ?_ ?_ ?_ ?_;all_goals try simp only[aD,QE,seval,eR]
theorem AC(l:List Truth):aI 2 (l.map eZ)=true:=vP 2 eZ l fun x=>by simp[cG,eZ,AV.cells,AV.cell,aG,bD]
theorem BU(v:Farm)(hv:Vd v)(but:List Int)(hbu:but.length<9223372036854775808):cE T 14 [encFarm v,aG but] (pV (aO v but)):=by
 refine aZ (af:=a14) rfl (by simp[a14]) dd ?_;have hwl:=y9 hv;have hwm:=fun c=>(lP (v:=v) (c:=c)).1
 obtain⟨R,hR⟩:∃ R,aO v but=R:=⟨_,rfl⟩;have hRl:=MT hv but;have hR':[]++((k8 v).drop 0).filterMap (gG v but)=R:=hR;rw[hR] at hRl ⊢;have hrw:=HU v hv;obtain⟨W,hW⟩:∃ W,k8 v=W:=⟨_,rfl⟩;rw[hW] at hwl hR' hrw;simp only[hW] at hwm;try simp only[↓QA,QB,seval,eR,a14]
 (refine aE (hrw) rfl dd ?_;try simp only[↓QA,QB,seval,eR])
 refine oJ 6 2 [] rfl ?_;refine b9 (S:=Nat×List Truth×Bool) (0,[],false) (fun a=>a.1<=W.length/\a.2.1++(W.drop a.1).filterMap (gG v but)=R) (fun a=>W.length-a.1)
  (fun a=>[(1,aG but),(2,.ptr 0 0),(5,bD W),(6,.lit (a.2.1.map eZ) false (some 1)),(7,.int .i64 a.1)])
  (fun a=>[.cells (aB v),.tok 2 a.2.1.length a.2.2]) ⟨Nat.zero_le _,hR'⟩ (by simp[aB,aG]) ?_ fun a ha=>?_
 ·try simp only[aD,QE,seval,eR]
  try simp
 ·obtain⟨k,acc,ex⟩:=a;obtain⟨hk,hacc⟩:=ha;simp only at hk hacc;try simp only[↓QA,QB,seval,eR,aCV,bD]
  refine aF (fun hd=>?_) fun hd=>?_
  ·have hk1:k<W.length:=by simpa using hd
   have hw:=bJ hk1 (by omega);have hro:=hwm _ (List.getElem_mem hk1);obtain⟨bl,hbl⟩:∃ bl,W[k]=bl:=⟨_,rfl⟩;rw[hbl] at hro;rw[List.drop_eq_getElem_cons hk1,hbl,List.filterMap_cons] at hacc;have hal:acc.length<=2187:=by
    have:=congrArg List.length hacc;simp only[List.length_append] at this;omega
   have hin:=RZ v hv but hbu W bl hro.len (uF hv hro) k hk1 hbl acc ex;rw[aH] at hin;have hap:=fun (y:AV) (hy:aI 2 [y]=true) (τ:St)=>yZ (σ:=.cells (aB v)::.tok 2 acc.length ex::τ) (t:=1) (ex:=ex) (sz:=2) (b:=48) (xs:=acc.map eZ) (ys:=[y]) (f:=true) (tk:=none) ⟨AC acc,hy,by simp[room];omega,by simp[room];omega⟩ (by simp) acc.length (by simp) rfl
   rw[aH] at hap;have hap2:=fun (l:List AV) (f:Bool) (tk:Option Nat)=>hap (.agg [.lit (bl.map (.int .i64)) false none,.lit l f tk]) rfl
   try simp only[↓QA,QB,seval,eR,hk1,hbl,aG,bD]
   refine hin _ _ ?_ ?_ ?_ ?_ ?_ ?_ ?_ ?_ ?_;all_goals try try simp only[aD,QE,seval,eR,bD,aG]
   intro e' xs f tk τ htk hxs q1 q2 q5 q6 q7 q8 q9;cases hall:n9 v bl but v.plots.length
   ·rw[vY,hall] at hacc;rw[hall] at q9;try simp only[↓QA,QB,seval,eR,q1,q2,q5,q6,q7,q8,q9,aG,bD]
    refine⟨(k+1,acc,ex),⟨by simp only;omega,by simpa using hacc⟩,by simp only;omega,?_⟩;try simp only[aD,QE,seval,eR,q1,q2,q5,q6,q7,q8,q9,hw,aG,bD]
    try simp[aY]
   ·rw[vY,hall] at hacc;rw[hall] at q9;rw[hxs hall];try simp only[↓QA,QB,seval,eR,q1,q2,q5,q6,q7,q8,q9,aG,bD,hap2]
    refine⟨(k+1,acc++[⟨bl,rR v bl but v.plots.length⟩],true),⟨by simp only;omega,by simpa using hacc⟩,by simp only;omega,?_⟩;cases tk with
    |none =>
     try simp only[aD,QE,seval,eR,q1,q2,q5,q6,q7,q8,q9,hw,aG,bD,List.map_append,List.map_cons,List.map_nil,List.length_append,lS,Bool.and_false]
     try simp[aY]
    |some t =>
     have h2:=htk t rfl;try simp only[aD,QE,seval,eR,q1,q2,q5,q6,q7,q8,q9,hw,aG,bD,List.map_append,List.map_cons,List.map_nil,List.length_append,lS,Bool.and_false,Nat.not_lt.2 (Nat.le_of_lt h2)]
     try simp[aY]
  ·have hk1:k=W.length:=by simp at hd;omega
   rw[hk1,List.drop_length] at hacc;simp only[List.filterMap_nil,List.append_nil] at hacc;subst hacc;try simp only[↓QA,QB,seval,eR,pV]
   try try simp only[QS,QC,seval,eR]
end Go.Am.Room.Fa
namespace Go.Am.Room.Fa
def wP(x:Span×Int):AV:=.tuple [cT x.1,.int .i64 x.2]
def wO(x:List Int×Int):AV:=.tuple [aG x.1,.int .i64 x.2]
def rZ(x:Int×Int):AV:=.tuple [.int .i64 x.1,.int .i64 x.2]
def mA(x:List Int×List Int×Int):AV:=.tuple [aG x.1,aG x.2.1,.int .i64 x.2.2]
theorem BO(v:Farm):clrs [encFarm v,.lit [] true none]=[encFarm v,aG []]:=by simp[clrs,(pX v).2,clr,aG]
theorem sE(v:Farm):okVs 0 [encFarm v,.lit [] true none]:=⟨(pX v).1,by simp[okV,okVs],trivial⟩
theorem pN{v:Farm}{n:Int}(h:yN v n=0):Vd v/\0<=n/\n<v.plots.length:=by
 unfold yN at h;split at h
 ·rename_i h0;split at h
  ·rename_i h1;have:=cH.1 h1;exact⟨vd_of_check h0,by omega,by omega⟩
  ·omega
 ·rename_i h0;exact absurd h h0
theorem pP{n most e:Int}(h:m9 n most e=0):e=0/\0<=n/\n<=most:=by
 unfold m9 at h;split at h
 ·rename_i h0;split at h
  ·rename_i h1;exact⟨h0,cH.1 h1⟩
  ·omega
 ·rename_i h0;exact absurd h h0
theorem iV{v:Farm}{e:Int}(h:dJ v e=0):e=0/\aO v []≠[]:=by
 unfold dJ at h;split at h
 ·rename_i h0;split at h
  ·omega
  ·rename_i h1;exact⟨h0,by simpa using h1⟩
 ·rename_i h0;exact absurd h h0
def uI(t:Truth)(d:Nat)(h:Int):Int:=BK t.rain h d
end Go.Am.Room.Fa
namespace Go.Am.Room.Fa
theorem HH{v:Farm}(hv:Vd v){t:Truth}(ht:TOk v t){d:Nat}(hd:d<=v.rain.length)(h:Int):0<=uI t d h/\uI t d h<=21:=by
 have hb:=GS (uF hv ht.rain) h.toNat d;have:=hv.nra;simp only[uI,BK,Int.toNat_natCast];omega
theorem FH{v:Farm}(hv:Vd v){l:List Truth}(hl:∀ t∈l,TOk v t){d:Nat}(hd:d<=v.rain.length)(p:Nat):∀ n∈dC l p d,0<=n/\n<=21:=by
 intro n hn;simp only[dC,List.mem_flatMap,List.mem_map] at hn;obtain⟨t,ht,h,_,rfl⟩:=hn;exact HH hv (hl t ht) hd h
theorem yE{v:Farm}{l:List Truth}(hl:∀ t∈l,TOk v t)(hne:l≠[]){p:Nat}(hp:p<v.plots.length)(d:Nat):dC l p d≠[]:=by
 cases l with
 |nil=>exact absurd rfl hne
 |cons t l =>
  have:=((hl t (by simp)).fl p hp).1;cases hf:iK t p with
  |nil=>exact absurd hf this
  |cons a b=>simp[dC,hf]
theorem B4{v:Farm}(hv:Vd v){l:List Truth}(hl:∀ t∈l,TOk v t)(hne:l≠[]){p d:Nat}(hp:p<v.plots.length)(hd:d<=v.rain.length):0<=(jV l p d).lo/\(jV l p d).lo<=(jV l p d).hi/\(jV l p d).hi<=21:=by
 have hs:=vH (yE hl hne hp d);have h1:=FH hv hl hd p _ hs.1;have h2:=FH hv hl hd p _ hs.2.1;have h3:=hs.2.2 _ hs.1;simp only[jV];omega
end Go.Am.Room.Fa
namespace Go.Am.Room.Fa
def aJ:=zz @bR (zz @aH (zz @bS (zz @bQ (zz @aR (zz @cB (zz @cA (@cC)))))))
theorem BW(s:Span)(lo hi:Int):cE T 346 [cT s,.int .i64 lo,.int .i64 hi] (.int .i64 (eH s lo hi)):=by
 refine aZ (af:=a346) rfl (by simp[a346]) dd ?_;try simp only[↓QA,QB,seval,aJ,a346]
 (refine bE (gN lo hi [s.lo,s.hi] (by simp)) (by simp[clr,clrs,aG]) (by simp[okV,okVs]) ?_;try simp only[↓QA,QB,seval,aJ,beyond2])
 cases h1:(!inR s.lo lo hi||!inR s.hi lo hi)
 ·try simp only[↓QA,QB,seval,aJ]
  cases h2:decide (s.hi<s.lo)
  ·have h2':¬s.hi<s.lo:=by simpa using h2
   try simp only[↓QA,QB,seval,aJ,h2]
   simp[eH,h1,h2']
  ·have h2':s.hi<s.lo:=by simpa using h2
   try simp only[↓QA,QB,seval,aJ,h2]
   simp[eH,h1,h2']
 ·try simp only[↓QA,QB,seval,aJ]
  simp[eH,h1]
theorem WX(σ:St)(f:AV)(l:List Plot)(p:Plot->Bool)(hl:l.length<9223372036854775808)(hk:n7 σ f)(h:∀ x∈l,eK T f [bY x] σ (.bool (p x))):eK T (.func 466 [] []) [.lit (l.map bY) false none,f] σ (.int .i64 (idxOf p l 0)):=by
 refine cM (af:=a466) rfl (by simp[a466]) ?_;have hk0:=hk.nil;try simp only[↓QA,QB,seval,aJ,a466]
 refine b9 (S:=Nat) 0 (fun k=>k<=l.length/\idxOf p (l.drop k) k=idxOf p l 0) (fun k=>l.length-k) (fun k=>[(0,.lit (l.map bY) false none),(1,f),(7,.int .i64 l.length),(8,.int .i64 k)]) (fun _=>σ) ⟨Nat.zero_le _,by simp⟩ rfl ?_ fun k hk1=>?_
 ·try simp only[aD,QE,seval,aJ]
  try simp
 ·obtain⟨hkl,hi⟩:=hk1;try simp only[↓QA,QB,seval,aJ,V7]
  refine aF (fun hd=>?_) fun hd=>?_
  ·have hlt:k<l.length:=by simpa using hd
   rw[List.drop_eq_getElem_cons hlt] at hi;simp only[idxOf] at hi;have hw:=bJ hlt hl;try simp only[↓QA,QB,seval,aJ,hlt]
   refine aT (h l[k] (List.getElem_mem hlt)) ?_;try simp only[↓QA,QB,seval,aJ]
   cases hp:p l[k]
   ·try simp only[↓QA,QB,seval,aJ,hw]
    refine⟨k+1,⟨by omega,by rw[<-hi,hp];rfl⟩,by omega,?_⟩;try simp only[aD,QE,seval,aJ,hw,hk0,Nat.le_refl,cB]
   ·try simp only[↓QA,QB,seval,aJ]
    refine cZ [] (by first|rfl|simp) ?_;rw[<-hi,hp];try simp only[QS,QC,seval,aJ]
  ·have hlt:k=l.length:=by simp at hd;omega
   try simp only[↓QA,QB,seval,aJ]
   refine cZ [] (by first|rfl|simp) ?_;rw[<-hi,hlt,List.drop_length];try simp only[QS,QC,seval,aJ,idxOf]
theorem JI(σ:St)(f:AV)(l:List Plot)(p:Plot->Bool)(hl:l.length<9223372036854775808)(hk:n7 σ f)(h:∀ x∈l,eK T f [bY x] σ (.bool (p x))):eK T (.func 349 [] []) [.lit (l.map bY) false none,f] σ (.bool (l.any p)):=by
 refine cM (af:=a349) rfl (by simp[a349]) ?_;try simp only[↓QA,QB,seval,aJ,a349]
 refine aT (WX σ f l p hl hk h) ?_;try simp only[↓QA,QB,seval,aJ]
 refine cZ [] (by first|rfl|simp) ?_;rw[<-idxOf_any p l 0];try simp only[QS,QC,seval,aJ]
def mY{α:Type}(of:Nat->α->Int)(l:List α):Int×Int:=match aS of l 0 with|some (i,e)=>(i,e)|none=>(0,0)
theorem GK(σ:St)(f:AV)(l:List Span)(of:Nat->Span->Int)(hl:l.length<9223372036854775808)(hk:n7 σ f)(h:∀ i (hi:i<l.length),eK T f [.int .i64 i,cT l[i]] (σ++[.cells (cT l[i]).cells]) (.int .i64 (of i l[i]))):eK T (.func 344 [] []) [.lit (l.map cT) false none,f] σ (vX (mY of l)):=by
 refine cM (af:=a344) rfl (by simp[a344]) ?_;have hk0:=hk.nil;have hk2:∀ τ,b8 (σ++τ) σ.length 20 f=some f:=hk;try simp only[↓QA,QB,seval,aJ,a344]
 refine b9 (S:=Nat) 0 (fun k=>k<=l.length/\aS of (l.drop k) k=aS of l 0) (fun k=>l.length-k) (fun k=>[(1,f),(9,.lit (l.map cT) false none),(10,.int .i64 l.length),(11,.int .i64 k)]) (fun _=>σ) ⟨Nat.zero_le _,by simp⟩ rfl ?_ fun k hk1=>?_
 ·try simp only[aD,QE,seval,aJ]
  try simp
 ·obtain⟨hkl,hi⟩:=hk1;try simp only[↓QA,QB,seval,aJ,TU]
  refine aF (fun hd=>?_) fun hd=>?_
  ·have hlt:k<l.length:=by simpa using hd
   have hs:=h k hlt;rw[eU hlt] at hi;have hw:=bJ hlt hl;try simp only[↓QA,QB,seval,aJ,hlt] at hs
   try simp only[↓QA,QB,seval,aJ,hlt]
   refine aT hs ?_;try simp only[↓QA,QB,seval,aJ]
   cases hp:(of k l[k]==0)
   ·have hp':of k l[k]≠0:=by simpa using hp
    rw[if_neg hp'] at hi;try simp only[↓QA,QB,seval,aJ,hp]
    refine cZ _ rfl ?_;try simp only[QS,QC,seval,aJ,vX,mY,<-hi,reduceCtorEq]
   ·have hp':of k l[k]=0:=by simpa using hp
    rw[if_pos hp'] at hi;try simp only[↓QA,QB,seval,aJ,hp,hw]
    refine⟨k+1,⟨by omega,hi⟩,by omega,?_⟩;try simp only[aD,QE,seval,aJ,hw,hk0,hk2,Nat.le_refl,cC]
  ·have hlt:k=l.length:=by simp at hd;omega
   rw[fE hlt] at hi;try simp only[↓QA,QB,seval,aJ]
   refine cZ [] (by first|rfl|simp) ?_;try simp only[QS,QC,seval,aJ,vX,mY,<-hi,reduceCtorEq]
theorem G5(σ:St)(f:AV)(l:List Plot)(of:Nat->Plot->Int)(hl:l.length<9223372036854775808)(hk:n7 σ f)(h:∀ i (hi:i<l.length),eK T f [.int .i64 i,bY l[i]] (σ++[.cells (bY l[i]).cells]) (.int .i64 (of i l[i]))):eK T (.func 347 [] []) [.lit (l.map bY) false none,f] σ (vX (mY of l)):=by
 refine cM (af:=a347) rfl (by simp[a347]) ?_;have hk0:=hk.nil;have hk2:∀ τ,b8 (σ++τ) σ.length 20 f=some f:=hk;try simp only[↓QA,QB,seval,aJ,a347]
 refine b9 (S:=Nat) 0 (fun k=>k<=l.length/\aS of (l.drop k) k=aS of l 0) (fun k=>l.length-k) (fun k=>[(1,f),(9,.lit (l.map bY) false none),(10,.int .i64 l.length),(11,.int .i64 k)]) (fun _=>σ) ⟨Nat.zero_le _,by simp⟩ rfl ?_ fun k hk1=>?_
 ·try simp only[aD,QE,seval,aJ]
  try simp
 ·obtain⟨hkl,hi⟩:=hk1;try simp only[↓QA,QB,seval,aJ,UQ]
  refine aF (fun hd=>?_) fun hd=>?_
  ·have hlt:k<l.length:=by simpa using hd
   have hs:=h k hlt;rw[eU hlt] at hi;have hw:=bJ hlt hl;try simp only[↓QA,QB,seval,aJ,hlt] at hs
   try simp only[↓QA,QB,seval,aJ,hlt]
   refine aT hs ?_;try simp only[↓QA,QB,seval,aJ]
   cases hp:(of k l[k]==0)
   ·have hp':of k l[k]≠0:=by simpa using hp
    rw[if_neg hp'] at hi;try simp only[↓QA,QB,seval,aJ,hp]
    refine cZ _ rfl ?_;try simp only[QS,QC,seval,aJ,vX,mY,<-hi,reduceCtorEq]
   ·have hp':of k l[k]=0:=by simpa using hp
    rw[if_pos hp'] at hi;try simp only[↓QA,QB,seval,aJ,hp,hw]
    refine⟨k+1,⟨by omega,hi⟩,by omega,?_⟩;try simp only[aD,QE,seval,aJ,hw,hk0,hk2,Nat.le_refl,cB]
  ·have hlt:k=l.length:=by simp at hd;omega
   rw[fE hlt] at hi;try simp only[↓QA,QB,seval,aJ]
   refine cZ [] (by first|rfl|simp) ?_;try simp only[QS,QC,seval,aJ,vX,mY,<-hi,reduceCtorEq]
theorem F6(σ:St)(f:AV)(l:List Look)(of:Nat->Look->Int)(hl:l.length<9223372036854775808)(hk:n7 σ f)(h:∀ i (hi:i<l.length),eK T f [.int .i64 i,dP l[i]] (σ++[.cells (dP l[i]).cells]) (.int .i64 (of i l[i]))):eK T (.func 351 [] []) [.lit (l.map dP) false none,f] σ (vX (mY of l)):=by
 refine cM (af:=a351) rfl (by simp[a351]) ?_;have hk0:=hk.nil;have hk2:∀ τ,b8 (σ++τ) σ.length 20 f=some f:=hk;try simp only[↓QA,QB,seval,aJ,a351]
 refine b9 (S:=Nat) 0 (fun k=>k<=l.length/\aS of (l.drop k) k=aS of l 0) (fun k=>l.length-k) (fun k=>[(1,f),(9,.lit (l.map dP) false none),(10,.int .i64 l.length),(11,.int .i64 k)]) (fun _=>σ) ⟨Nat.zero_le _,by simp⟩ rfl ?_ fun k hk1=>?_
 ·try simp only[aD,QE,seval,aJ]
  try simp
 ·obtain⟨hkl,hi⟩:=hk1;try simp only[↓QA,QB,seval,aJ,W4]
  refine aF (fun hd=>?_) fun hd=>?_
  ·have hlt:k<l.length:=by simpa using hd
   have hs:=h k hlt;rw[eU hlt] at hi;have hw:=bJ hlt hl;try simp only[↓QA,QB,seval,aJ,hlt] at hs
   try simp only[↓QA,QB,seval,aJ,hlt]
   refine aT hs ?_;try simp only[↓QA,QB,seval,aJ]
   cases hp:(of k l[k]==0)
   ·have hp':of k l[k]≠0:=by simpa using hp
    rw[if_neg hp'] at hi;try simp only[↓QA,QB,seval,aJ,hp]
    refine cZ _ rfl ?_;try simp only[QS,QC,seval,aJ,vX,mY,<-hi,reduceCtorEq]
   ·have hp':of k l[k]=0:=by simpa using hp
    rw[if_pos hp'] at hi;try simp only[↓QA,QB,seval,aJ,hp,hw]
    refine⟨k+1,⟨by omega,hi⟩,by omega,?_⟩;try simp only[aD,QE,seval,aJ,hw,hk0,hk2,Nat.le_refl,cA]
  ·have hlt:k=l.length:=by simp at hd;omega
   rw[fE hlt] at hi;try simp only[↓QA,QB,seval,aJ]
   refine cZ [] (by first|rfl|simp) ?_;try simp only[QS,QC,seval,aJ,vX,mY,<-hi,reduceCtorEq]
theorem GP(i:Int)(s:Span)(σ:St):eK T (.func 345 [] []) [.int .i64 i,cT s] σ (.int .i64 (sK 0 s)):=by
 refine cM (af:=a345) rfl (by simp[a345]) ?_;try simp only[↓QA,QB,seval,aJ,a345]
 (refine aE (BW s 0 2) rfl dd ?_;try simp only[↓QA,QB,seval,aJ])
 refine cZ [.cells [.int .i64 s.lo,.int .i64 s.hi]] (by first|rfl|simp) ?_;try simp only[QS,QC,seval,aJ,sK]
theorem X4(s x:Plot)(b:ABlk)(τ:St):eK T (.func 350 [] [.ptr (τ.length+1) 0]) [bY x] (b::(τ++[.cells (bY s).cells])) (.bool (decide (x.name=s.name))):=by
 refine cM (af:=a350) rfl (by simp[a350]) ?_;try simp only[↓QA,QB,seval,aJ,a350,AU,List.length_append]
 refine cZ [.cells [.str x.name,.int .i64 x.flower.lo,.int .i64 x.flower.hi,.int .i64 x.hands]] (by first|rfl|simp) ?_;try simp only[QS,QC,seval,aJ]
theorem FY(v:Farm)(h:Fits v)(i:Nat)(hi:i<v.plots.length)(τ:St):eK T (.func 348 [] [.ptr 0 0]) [.int .i64 i,bY v.plots[i]] (.cells (aB v)::τ) (.int .i64 (kI v i v.plots[i])):=by
 refine cM (af:=a348) rfl (by simp[a348]) ?_;have hfr:=h.rain;have hsz:=h.names _ (List.getElem_mem hi);have hts:(v.plots.take i).length<9223372036854775808:=by have:=h.plots;simp;omega
 obtain⟨s,hs⟩:∃ s,v.plots[i]=s:=⟨_,rfl⟩;have hk:kI v i s=if fresh s.name ((v.plots.take i).map Plot.name)=0 then (if eH s.flower 0 (eI v-1)=7\/inR s.hands 1 99=false then 7 else eH s.flower 0 (eI v-1)) else fresh s.name ((v.plots.take i).map Plot.name):=rfl
 rw[hs] at hsz ⊢;obtain⟨E,hE⟩:∃ E,kI v i s=E:=⟨_,rfl⟩;rw[hE] at hk ⊢;have hwe:IntKind.i64.wrap ((v.rain.length:Int)-1)=eI v-1:=bL ⟨by omega,by omega⟩;have hen:=BW s.flower 0 (eI v-1);obtain⟨F,hF⟩:∃ F,eH s.flower 0 (eI v-1)=F:=⟨_,rfl⟩;rw[hF] at hk hen;have fin:∀ (n:Int) (e:Env) (b:List AV),n=E->DK (some (.int .i64 n)) (.cells (aB v)::τ) (.cells (aB v)::(τ++[.cells b])) (.int .i64 E):=fun n e b hv=>by
  refine cZ [.cells b] (by first|rfl|simp) ?_;rw[hv];try simp only[QS,QC,seval,aJ]
 simp only[aH] at fin;try simp only[↓QA,QB,seval,aJ,a348,hwe]
 (refine aE (hen) rfl dd ?_;try simp only[↓QA,QB,seval,aJ])
 (refine aE (handname_ok s.name hsz) rfl dd ?_;try simp only[↓QA,QB,seval,aJ])
 cases h1:mW s.name
 ·try simp only[↓QA,QB,seval,aJ]
  exact fin _ [] _ (by rw[hk];simp[fresh,h1])
 ·have hc:=JI (.cells (aB v)::(τ++[.cells (bY s).cells])) (.func 350 [] [.ptr (τ.length+1) 0]) (v.plots.take i) (fun x=>decide (x.name=s.name)) hts (fun υ=>by try simp only[QS,QC,seval,aJ,List.length_append];simp) fun x _=>X4 s x _ τ
  try simp only[↓QA,QB,seval,aJ] at hc
  try simp only[↓QA,QB,seval,aJ,VZ (enc:=bY) (l:=v.plots) (Nat.le_of_lt hi)]
  refine aT hc ?_;rw[any_nameOf];cases h2:decide (jA s.name ((v.plots.take i).map Plot.name)≠((v.plots.take i).map Plot.name).length)
  ·have h2':jA s.name ((v.plots.take i).map Plot.name)=((v.plots.take i).map Plot.name).length:=by simpa using h2
   have hf:fresh s.name ((v.plots.take i).map Plot.name)=0:=by simp only[fresh,h1,h2'];simp
   rw[hf] at hk;simp only[if_true] at hk;try simp only[↓QA,QB,seval,aJ]
   (refine bE (gN 1 99 [s.hands] (by simp)) (by simp[clr,clrs,aG]) (by simp[okV,okVs]) ?_;try simp only[↓QA,QB,seval,aJ,beyond1])
   cases h3:inR s.hands 1 99
   ·try simp only[↓QA,QB,seval,aJ]
    exact fin _ [] _ (by rw[hk,if_pos (.inr h3)])
   ·try simp only[↓QA,QB,seval,aJ]
    refine fin _ [] _ ?_;rw[hk];by_cases h4:F=7
    ·simp[h4]
    ·simp[h4,h3]
  ·have h2':jA s.name ((v.plots.take i).map Plot.name)≠((v.plots.take i).map Plot.name).length:=by simpa using h2
   have hf:fresh s.name ((v.plots.take i).map Plot.name)=5:=by simp only[fresh,h1,h2',if_false];simp
   rw[hf] at hk;try simp only[↓QA,QB,seval,aJ]
   exact fin _ [] _ (by rw[hk];simp)
theorem GW(v:Farm)(h:Fits v)(i:Int)(x:Look):eK T (.func 352 [] [.ptr 0 0]) [.int .i64 i,dP x] [.cells (aB v),.cells (dP x).cells] (.int .i64 (m7 v 0 x)):=by
 refine cM (af:=a352) rfl (by simp[a352]) ?_;have hfp:=h.plots;have hw:IntKind.i64.wrap ((v.plots.length:Int)-1)=(v.plots.length:Int)-1:=bL ⟨by omega,by omega⟩;have he:eI v=(v.rain.length:Int):=rfl;try simp only[↓QA,QB,seval,aJ,a352,hw]
 (refine bE (gN 0 ((v.plots.length:Int)-1) [x.plot] (by simp)) (by simp[clr,clrs,aG]) (by simp[okV,okVs]) ?_;try simp only[↓QA,QB,seval,aJ,beyond1])
 cases h1:inR x.plot 0 ((v.plots.length:Int)-1)
 ·try simp only[↓QA,QB,seval,aJ]
  refine cZ _ rfl ?_;try simp only[QS,QC,seval,aJ,m7,h1]
 ·try simp only[↓QA,QB,seval,aJ]
  (refine bE (gN 0 (v.rain.length:Int) [x.day] (by simp)) (by simp[clr,clrs,aG]) (by simp[okV,okVs]) ?_;try simp only[↓QA,QB,seval,aJ,beyond1])
  cases h2:inR x.day 0 (v.rain.length:Int)
  ·try simp only[↓QA,QB,seval,aJ]
   refine cZ _ rfl ?_;try simp only[QS,QC,seval,aJ,m7,h1,he,h2]
   try simp
  ·try simp only[↓QA,QB,seval,aJ]
   (refine bE (gN 0 30 [x.points] (by simp)) (by simp[clr,clrs,aG]) (by simp[okV,okVs]) ?_;try simp only[↓QA,QB,seval,aJ,beyond1])
   cases h3:inR x.points 0 30;all_goals
    try simp only[↓QA,QB,seval,aJ]
    refine cZ _ rfl ?_;try simp only[QS,QC,seval,aJ,m7,h1,he,h2,h3]
    try simp
end Go.Am.Room.Fa
namespace Go.Am.Room
theorem w6{n s:Nat}{x:Int}:x∈lst n s↔(0<=x/\x<n)/\s.testBit x.toNat=true:=by
 simp only[lst,List.mem_filter,cX,uE];constructor
 ·rintro⟨h1,h2⟩;exact⟨by omega,h2⟩
 ·rintro⟨h1,h2⟩;exact⟨by omega,h2⟩
theorem aB7{n s i:Nat}(h:i<n):(lst n s).contains (i:Int)=s.testBit i:=by
 rw[Bool.eq_iff_iff,List.contains_iff_mem,w6];simp only[Int.toNat_natCast];constructor
 ·rintro⟨_,h2⟩;exact h2
 ·intro h2;exact⟨⟨by omega,by omega⟩,h2⟩
theorem aAJ(a:Nat):((a:Int)==0)=decide (a=0):=by rw[Bool.eq_iff_iff];simp
structure ButIs (b:Nat) (bl:List Int):Prop where
 lt:b<9223372036854775808
 bit:∀ i:Nat,i<5->(((b/2^i%2:Nat):Int)==0) = !bl.contains (i:Int)
theorem aNZ:ButIs 0 []:=⟨by omega,fun i hi=>by simp⟩
theorem Z8{n set:Nat}(hn:n<=5)(hs:set<2^n):ButIs set (lst n set):=by
 have hp:2^n<=2^5:=Nat.pow_le_pow_right (by omega) hn;refine⟨by omega,fun i hi=>?_⟩;have e:(((set/2^i%2:Nat):Int)==0) = !set.testBit i:=by
  rw[uE,aAJ,Bool.eq_iff_iff];simp
 rw[e];by_cases h:i<n
 ·rw[aB7 h]
 ·have h1:set.testBit i=false:=Nat.testBit_lt_two_pow (Nat.lt_of_lt_of_le hs (Nat.pow_le_pow_right (by omega) (by omega)));have h2:(lst n set).contains (i:Int)=false:=by
   rw[Bool.eq_false_iff];intro hc;rw[List.contains_iff_mem,w6] at hc;omega
  rw[h1,h2]
end Go.Am.Room
namespace Go.Am.Room.Fa
def dL:=zz @Int.toNat_natCast (@List.length_append.{0})
theorem I5(n:Int):cE T 386 [.int .i64 n] (.bool false):=by
 refine aZ (af:=a386) rfl (by simp[a386]) dd ?_;try simp only[↓QA,QB,seval,dL,a386]
 try simp
def C2(a b:Int):Int:=if a<b then -1 else if b<a then 1 else 0
theorem aFV(a b:Int):cE T 254 [.int .i64 a,.int .i64 b] (.int .i64 (C2 a b)):=by
 refine aZ (af:=a254) rfl (by simp[a254]) dd ?_;try simp only[↓QA,QB,seval,dL,a254]
 (refine aE (I5 a) rfl dd ?_;try simp only[↓QA,QB,seval,dL])
 (refine aE (I5 b) rfl dd ?_;try simp only[↓QA,QB,seval,dL])
 cases h1:decide (a<b)
 ·have h1':¬a<b:=by simpa using h1
  try simp only[↓QA,QB,seval,dL]
  cases h2:decide (b<a)
  ·have h2':¬b<a:=by simpa using h2
   try simp only[↓QA,QB,seval,dL]
   simp[C2,h1',h2']
  ·have h2':b<a:=by simpa using h2
   try simp only[↓QA,QB,seval,dL]
   simp[C2,h1',h2']
 ·have h1':a<b:=by simpa using h1
  try simp only[↓QA,QB,seval,dL]
  simp[C2,h1']
def AD:List Int->List Int->Int
 |[],[]=>0
 |[],_::_=>-1
 |_::_,[]=>1
 |a::az,b::bs=>if C2 a b=0 then AD az bs else C2 a b
theorem E5:∀ a b:List Int,decide (0<AD a b)=less b a
 |[],[]=>rfl
 |[],b::bs=>rfl
 |a::az,[]=>rfl
 |a::az,b::bs=>by
  have ih:=E5 az bs;simp only[AD,less,C2];by_cases h1:a<b
  ·simp[h1,show ¬b=a by omega];omega
  ·by_cases h2:b<a
   ·simp[h1,h2,show ¬b=a by omega]
   ·have:b=a:=by omega
    subst this;simp[ih]
theorem F7(a b:List Int)(ha:a.length<9223372036854775808)(hb:b.length<9223372036854775808):cE T 118 [aG a,aG b] (.int .i64 (AD a b)):=by
 refine aZ (af:=a118) rfl (by simp[a118]) dd ?_;try simp only[↓QA,QB,seval,dL,a118]
 refine b9 (S:=Nat) 0 (fun k=>k<=a.length/\k<=b.length/\AD (a.drop k) (b.drop k)=AD a b) (fun k=>a.length-k) (fun k=>[(0,aG a),(1,aG b),(9,aG a),(10,.int .i64 a.length),(11,.int .i64 k)]) (fun _=>[]) ⟨by simp,by simp,by simp⟩ rfl ?_ fun k hk=>?_
 ·try simp only[aD,QE,seval,dL]
  try simp
 ·obtain⟨hk,hkb,hq⟩:=hk;try simp only[↓QA,QB,seval,dL,UF]
  refine aF (fun h=>?_) fun h=>?_
  ·have hk1:k<a.length:=by simpa using h
   have hw:=bJ hk1 ha;rw[List.drop_eq_getElem_cons hk1] at hq;try simp only[↓QA,QB,seval,dL,hk1]
   refine aF (fun h2=>?_) fun h2=>?_
   ·have hk2:k=b.length:=by simp at h2;omega
    have hd:b.drop k=[]:=by rw[hk2,List.drop_length]
    rw[hd] at hq;simp only[AD] at hq;try simp only[↓QA,QB,seval,dL,hk1,<-hq]
   ·have hk2:k<b.length:=by simp at h2;omega
    rw[List.drop_eq_getElem_cons hk2] at hq;simp only[AD] at hq;try simp only[↓QA,QB,seval,dL,hk1,hk2]
    (refine aE (aFV a[k] b[k]) rfl dd ?_;try simp only[↓QA,QB,seval,dL,hk1,hk2])
    cases h3:(C2 a[k] b[k]==0)
    ·have h3':C2 a[k] b[k]≠0:=by simpa using h3
     rw[if_neg h3'] at hq;try simp only[↓QA,QB,seval,dL,h3,hk1,hk2,hq]
    ·have h3':C2 a[k] b[k]=0:=by simpa using h3
     rw[if_pos h3'] at hq;try simp only[↓QA,QB,seval,dL,h3,hk1,hk2]
     refine⟨k+1,⟨by omega,by omega,hq⟩,by omega,?_⟩;try simp only[aD,QE,seval,dL,hw]
  ·have hk1:k=a.length:=by simp at h;omega
   rw[hk1,List.drop_length] at hq;try simp only[↓QA,QB,seval,dL]
   refine aF (fun h2=>?_) fun h2=>?_
   ·have hk2:a.length<b.length:=by simpa using h2
    rw[List.drop_eq_getElem_cons hk2] at hq;try simp only[↓QA,QB,seval,dL,<-hq,AD]
   ·have hk2:a.length=b.length:=by simp at h2;omega
    rw[hk2,List.drop_length] at hq;try simp only[↓QA,QB,seval,dL,<-hq,AD]
end Go.Am.Room.Fa
namespace Go.Am.Room.Fa
def bU:=zz @bR (zz @aH (zz @bS (zz @bQ (zz @aR (zz @cB (zz @cA (zz @cC (zz @eJ (@List.length_append.{0})))))))))
theorem K0(v:Farm)(h:Fits v):cE T 223 [encFarm v] (enc3 (check v)):=by
 refine aZ (af:=a223) rfl (by simp[a223]) dd ?_;try simp only[↓QA,QB,seval,bU,a223]
 (refine bE (gN 1 7 [(v.rain.length:Int)] (by simp)) (by simp[clr,clrs,aG]) (by simp[okV,okVs]) ?_;try simp only[↓QA,QB,seval,bU,beyond1])
 cases h1:inR (v.rain.length:Int) 1 7
 ·try simp only[↓QA,QB,seval,bU]
  simp[check,h1,enc3]
 ·have hc:check v=match aS sK v.rain 0 with|some (i,e)=>(1,(i:Int),e)|none=>fH v:=by simp only[check,h1,Bool.true_eq_false,if_false];try rfl
  rw[hc];have hf:=GK [.cells (aB v)] (.func 345 [] []) v.rain sK h.rain (fun τ=>by try simp only[QS,QC,seval,bU]) fun i hi=>GP i _ _
  try simp only[↓QA,QB,seval,bU] at hf
  try simp only[↓QA,QB,seval,bU]
  refine aT hf ?_;cases hb:aS sK v.rain 0 with
  |some p =>
   obtain⟨i,e⟩:=p;have he:=fJ hb;have hg:(e==0)=false:=by simpa using he
   try simp only[↓QA,QB,seval,bU,mY,hb,vX,hg,enc3]
  |none =>
   try simp only[↓QA,QB,seval,bU,mY,hb,vX]
   (refine aE (BW v.way 0 9) rfl dd ?_;try simp only[↓QA,QB,seval,bU])
   (refine bE (gN 0 30 [v.full,v.ripe] (by simp)) (by simp[clr,clrs,aG]) (by simp[okV,okVs]) ?_;try simp only[↓QA,QB,seval,bU,beyond2])
   cases h2:(!inR v.full 0 30||!inR v.ripe 0 30)
   ·have h2':¬(inR v.full 0 30=false\/inR v.ripe 0 30=false):=by
     intro h;rcases h with h|h<;>rw[h] at h2<;>simp at h2
    cases h5:(eH v.way 0 9==0)
    ·have h5':eH v.way 0 9≠0:=by simpa using h5
     try simp only[↓QA,QB,seval,bU,h5]
     by_cases h4:eH v.way 0 9=7
     ·simp[fH,h4,enc3]
     ·have:¬(inR v.full 0 30=false\/inR v.ripe 0 30=false\/eH v.way 0 9=7):=by
       rintro (h|h|h)
       ·exact h2' (.inl h)
       ·exact h2' (.inr h)
       ·exact h4 h
      simp[fH,this,h5',enc3]
    ·have h5':eH v.way 0 9=0:=by simpa using h5
     have hc:fH v=gU v:=by
      have:¬(inR v.full 0 30=false\/inR v.ripe 0 30=false\/eH v.way 0 9=7):=by
       rintro (h|h|h)
       ·exact h2' (.inl h)
       ·exact h2' (.inr h)
       ·omega
      rw[fH,if_neg this,if_pos h5']
     rw[hc];try simp only[↓QA,QB,seval,bU,h5]
     cases h6:decide ((4:Int)<(v.plots.length:Int))
     case' true =>
      have h6':4<v.plots.length:=by first|(have:=of_decide_eq_false h6;omega)|(have:=of_decide_eq_true h6;omega)
      try simp only[↓QA,QB,seval,bU,h6]
      simp[gU,h6',enc3]
     have h6':¬4<v.plots.length:=by first|(have:=of_decide_eq_false h6;omega)|(have:=of_decide_eq_true h6;omega)
     have hc:gU v=match aS (kI v) v.plots 0 with|some (i,e)=>(3,(i:Int),e)|none=>lZ v:=by simp only[gU,h6',if_false];try rfl
     rw[hc];have hf:=G5 [.cells (aB v)] (.func 348 [] [.ptr 0 0]) v.plots (kI v) h.plots (fun τ=>by try simp only[QS,QC,seval,bU]) fun i hi=>FY v h i hi _
     try simp only[↓QA,QB,seval,bU] at hf
     try simp only[↓QA,QB,seval,bU,h6]
     refine aT hf ?_;cases hb:aS (kI v) v.plots 0 with
     |some p =>
      obtain⟨i,e⟩:=p;have he:=fJ hb;have hg:(e==0)=false:=by simpa using he
      try simp only[↓QA,QB,seval,bU,mY,hb,vX,hg,enc3]
     |none =>
      try simp only[↓QA,QB,seval,bU,mY,hb,vX]
      cases h7:decide ((4:Int)<(v.looks.length:Int))
      case' true =>
       have h7':4<v.looks.length:=by first|(have:=of_decide_eq_false h7;omega)|(have:=of_decide_eq_true h7;omega)
       try simp only[↓QA,QB,seval,bU,h7]
       simp[lZ,h7',enc3]
      have h7':¬4<v.looks.length:=by first|(have:=of_decide_eq_false h7;omega)|(have:=of_decide_eq_true h7;omega)
      have hc:lZ v=match aS (m7 v) v.looks 0 with|some (i,e)=>(4,(i:Int),e)|none=>(0,0,0):=by simp only[lZ,h7',if_false];try rfl
      rw[hc];have hf:=F6 [.cells (aB v)] (.func 352 [] [.ptr 0 0]) v.looks (m7 v) h.looks (fun τ=>by try simp only[QS,QC,seval,bU]) fun i hi=>GW v h i _
      try simp only[↓QA,QB,seval,bU] at hf
      try simp only[↓QA,QB,seval,bU,h7]
      refine aT hf ?_;cases hb:aS (m7 v) v.looks 0 with
      |some p =>
       obtain⟨i,e⟩:=p;have he:=fJ hb;have hg:(e==0)=false:=by simpa using he
       try simp only[↓QA,QB,seval,bU,mY,hb,vX,hg,enc3]
      |none =>
       try simp only[↓QA,QB,seval,bU,mY,hb,vX,enc3]
   ·have h2':inR v.full 0 30=false\/inR v.ripe 0 30=false:=by
     cases a:inR v.full 0 30
     ·exact .inl rfl
     ·cases b:inR v.ripe 0 30
      ·exact .inr rfl
      ·rw[a,b] at h2;simp at h2
    have:inR v.full 0 30=false\/inR v.ripe 0 30=false\/eH v.way 0 9=7:=by
     rcases h2' with h|h
     ·exact .inl h
     ·exact .inr (.inl h)
    try simp only[↓QA,QB,seval,bU]
    simp[fH,this,enc3]
theorem kU(s n:Nat)(hs:s<9223372036854775808)(hn:n<=60):cE T 117 [.int .i64 s,.int .i64 n] (aG (lst n s)):=by
 refine aZ (af:=a117) rfl (by simp[a117]) dd ?_;try simp only[↓QA,QB,seval,bU,a117]
 obtain⟨R,hRR⟩:∃ R,lst n s=R:=⟨_,rfl⟩;have hRR':[]++(aW ((0:Nat):Int) (n-0)).filter (fun i=>decide (s/2^i.toNat%2=1))=R:=hRR;rw[hRR];refine oJ 4 1 [] rfl ?_;refine b9 (S:=Nat×List Int×Bool) (0,[],false) (fun x=>x.1<=n/\x.2.1.length<=x.1/\x.2.1++(aW (x.1:Int) (n-x.1)).filter (fun i=>decide (s/2^i.toNat%2=1))=R) (fun x=>n-x.1)
  (fun x=>[(0,.int .i64 s),(4,.lit (x.2.1.map (.int .i64)) false (some 0)),(6,.int .i64 n),(7,.int .i64 x.1)]) (fun x=>[.tok 1 x.2.1.length x.2.2]) ⟨by simp,by simp,hRR'⟩ rfl ?_ fun x hx=>?_
 ·try simp only[aD,QE,seval,bU]
  try simp
 ·obtain⟨k,acc,ex⟩:=x;obtain⟨hk,hal,hacc⟩:=hx;simp only at hk hal hacc;try simp only[↓QA,QB,seval,bU,SX]
  refine aF (fun h=>?_) fun h=>?_
  ·have hk1:k<n:=by simpa using h
   have hw:=bJ hk1 (by omega);rw[show n-k=(n-(k+1))+1 by omega] at hacc;simp only[aW,List.filter_cons,Int.toNat_natCast] at hacc;rw[show ((k:Int)+1)=((k+1:Nat):Int) by omega] at hacc;have vs:=OR s k (by omega);have va:=GA (s/2^k) (Nat.lt_of_le_of_lt (Nat.div_le_self _ _) hs);have hbit:(((s/2^k%2:Nat):Int)==1)=decide (s/2^k%2=1):=by
    generalize s/2^k%2=q;rw[Bool.eq_iff_iff,beq_iff_eq,decide_eq_true_eq];omega
   try simp only[↓QA,QB,seval,bU,vs,va,hbit]
   cases hb:decide (s/2^k%2=1)
   ·simp only[hb,Bool.false_eq_true,if_false] at hacc;try simp only[↓QA,QB,seval,bU,hw]
    refine⟨(k+1,acc,ex),⟨by simp only;omega,by simp only;omega,by simpa using hacc⟩,by simp only;omega,?_⟩;try simp only[aD,QE,seval,bU,hw,tF]
    try simp[aY]
   ·simp only[hb,if_true] at hacc;have hap:=fun (τ:St)=>nZ (σ:=.tok 1 acc.length ex::τ) (l:=acc) (a:=(k:Int)) (ex:=ex) (t:=0) (by omega) rfl
    try simp only[↓QA,QB,seval,bU,hw,hap]
    refine⟨(k+1,acc++[(k:Int)],true),⟨by simp only;omega,by simp only[List.length_append,List.length_cons,List.length_nil];omega,by
     rw[<-hacc];simp⟩,by simp only;omega,?_⟩
    try simp only[aD,QE,seval,bU,hw,tF,List.map_append,List.map_cons,List.map_nil]
    try simp[aY]
  ·have hk1:k=n:=by simp at h;omega
   rw[hk1] at hacc;simp only[Nat.sub_self,aW,List.filter_nil,List.append_nil] at hacc;try simp only[↓QA,QB,seval,bU,hacc,aG]
def n5(must never:Bool):Int:=if must then 1 else if never then 2 else 0
theorem A0(must never:Bool):cE T 444 [.bool must,.bool never] (.int .i64 (n5 must never)):=by
 refine aZ (af:=a444) rfl (by simp[a444]) dd ?_;cases must
 ·cases never;all_goals try simp only[↓QA,QB,seval,bU,a444,n5,Bool.false_eq_true]
 ·try simp only[↓QA,QB,seval,bU,a444,n5]
theorem aCD:cE T 222 [] (.int .i64 0):=by
 refine aZ (af:=a222) rfl (by simp[a222]) bA ?_;try simp only[↓QA,QB,seval,bU,a222]
end Go.Am.Room.Fa
namespace Go.Am.Room.Fa
def qM:=zz @bR (zz @aH (zz @bS (zz @bQ (zz @aR (zz @cB (zz @cA (zz @cC (zz @eJ (zz @jZ (zz @List.length_append.{0} (zz @eM (zz @fV (zz @fU (zz @lV (zz @fT (zz @qU (zz @Nat.mul_one (@Int.toNat_natCast))))))))))))))))))
theorem DL(n sz id off:Nat)(k k':IntKind)(lo hi:Int):A1 n sz (.ptr id off) (some (.int k lo)) (some (.int k' hi))=if 0<=lo/\lo<=hi/\hi<=n then some (.ref id (off+lo.toNat*sz) (hi.toNat-lo.toNat) sz) else none:=by simp only[A1,m4,eQ]
theorem aA2(r:Nat->Int)(a d:Nat):pts r (min a d) d=pts r a d:=by
 by_cases h:a<=d
 ·rw[Nat.min_eq_left h]
 ·rw[Nat.min_eq_right (by omega),C6,TD r (by omega)]
theorem KT(x:AV)(r:Nat->Int)(a d:Nat)(hr:∀ i,0<=r i/\r i<=2)(hd:d<=7)(σ:St):
  wp T a234.body (dW 0 [x,.agg (bP 7 r),.int .i64 a,.int .i64 d]) σ (D5 a234.results σ (.int .i64 (pts r a d))):=by
 rw[<-aA2];have hm:min (a:Int) (d:Int)=((min a d:Nat):Int):=by omega
 obtain⟨A,hA⟩:∃ A,min a d=A:=⟨_,rfl⟩;rw[hA] at hm ⊢;have hAd:A<=d:=by omega
 have c1:(0:Int)<=(A:Int)/\(A:Int)<=(d:Int)/\(d:Int)<=((7:Nat):Int):=⟨by omega,by omega,by omega⟩;try simp only[↓QA,QB,reduceLT,reduceIte,reduceEqDiff,reduceAdd,reduceLeDiff,reduceMul,Nat.reduceBEq,qM,DL,a234,hm,c1]
 refine b9 (S:=Nat) 0 (fun k=>k<=d-A) (fun k=>d-A-k) (fun k=>[(8,.int .i64 (pts r A (A+k))),(15,.ref σ.length (0+A) (d-A) 1),(16,.int .i64 ((d-A:Nat):Int)),(17,.int .i64 k)]) (fun _=>σ++[.cells (bP 7 r)]) (Nat.zero_le _) (by simp) ?_ fun k hk=>?_
 ·try simp only[aD,QE,reduceLT,reduceIte,reduceEqDiff,reduceAdd,reduceLeDiff,reduceMul,Nat.reduceBEq,qM,DL,Nat.add_zero,C6]
  try simp
 ·try simp only[↓QA,QB,reduceLT,reduceIte,reduceEqDiff,reduceAdd,reduceLeDiff,reduceMul,Nat.reduceBEq,qM,DL,W7]
  refine aF (fun h=>?_) fun h=>?_
  ·have hk1:k<d-A:=by
    have h0:(k:Int)<((d-A:Nat):Int):=by simpa using h
    omega
   have hw:=bJ hk1 (by omega);have hi7:A+k<7:=by omega
   have hget:=iP 7 r hi7;have c2:(0:Int)<=(k:Int)/\(k:Int)<((d-A:Nat):Int)/\1=1:=⟨by omega,by omega,rfl⟩;have hb:=GS hr A (A+k);have hs:=KM r (show A<=A+k by omega);have hrk:=hr (A+k);obtain⟨P,hP⟩:∃ P,pts r A (A+k)=P:=⟨_,rfl⟩;obtain⟨R,hR⟩:∃ R,r (A+k)=R:=⟨_,rfl⟩;rw[hP] at hb hs;rw[hR] at hs hrk hget;have w1:IntKind.i64.wrap (1+R)=1+R:=bL ⟨by omega,by omega⟩;have w2:IntKind.i64.wrap (P+(1+R))=P+(1+R):=bL ⟨by omega,by omega⟩;rw[hP];try simp only[↓QA,QB,reduceLT,reduceIte,reduceEqDiff,reduceAdd,reduceLeDiff,reduceMul,Nat.reduceBEq,qM,DL,c2,Nat.zero_add,hget,w1,w2,hw]
   refine⟨k+1,by omega,by omega,?_⟩;try simp only[aD,QE,reduceLT,reduceIte,reduceEqDiff,reduceAdd,reduceLeDiff,reduceMul,Nat.reduceBEq,qM,DL,hw,show A+(k+1)=A+k+1 by omega,hs,Nat.zero_add,fO (Nat.lt_succ_self σ.length)]
   try simp[aY,n6]
  ·have hk1:k=d-A:=by
    have h0:¬(k:Int)<((d-A:Nat):Int):=by simpa using h
    omega
   subst hk1;rw[show A+(d-A)=d by omega];try simp only[↓QA,QB,reduceLT,reduceIte,reduceEqDiff,reduceAdd,reduceLeDiff,reduceMul,Nat.reduceBEq,qM,DL]
   refine cZ [.cells (bP 7 r)] (by first|rfl|simp) ?_;try simp only[QS,QC,reduceLT,reduceIte,reduceEqDiff,reduceAdd,reduceLeDiff,reduceMul,Nat.reduceBEq,qM,DL]
theorem EO(x:AV)(r:Nat->Int)(a d:Nat)(hr:∀ i,0<=r i/\r i<=2)(hd:d<=7)(σ:St):eK T (.func 234 [] []) [x,.agg (bP 7 r),.int .i64 a,.int .i64 d] σ (.int .i64 (pts r a d)) :=
 cM (af:=a234) rfl (by simp[a234]) (KT x r a d hr hd σ)
theorem NU(x:AV)(r:Nat->Int)(a d:Nat)(hr:∀ i,0<=r i/\r i<=2)(hd:d<=7)(σ:St):eK T (.func 234 [x] []) [.agg (bP 7 r),.int .i64 a,.int .i64 d] σ (.int .i64 (pts r a d)) :=
 cM (af:=a234) rfl (by simp[a234]) (KT x r a d hr hd σ)
def eW(ds:List Int):Nat:=ds.foldl (fun s d=>s|||2^d.toNat) 0
theorem WU(ds:List Int)(d:Int):eW (ds++[d])=eW ds|||2^d.toNat:=by simp[eW]
theorem ER:∀ (ds:List Int) (s:Nat),(∀ d∈ds,0<=d)->∀ i:Nat,(ds.foldl (fun s d=>s|||2^d.toNat) s).testBit i=(s.testBit i||ds.contains (i:Int))
 |[],s,_,i=>by simp
 |d::ds,s,h,i=>by
  rw[List.foldl_cons,ER ds _ (fun x hx=>h x (by simp[hx])) i,Nat.testBit_or,Nat.testBit_two_pow,List.contains_cons,Bool.or_assoc]
  congr 2
  have:=h d (by simp);rw[Bool.eq_iff_iff,decide_eq_true_eq,beq_iff_eq];omega
theorem wZ{ds:List Int}(h:∀ d∈ds,0<=d)(i:Nat):(eW ds).testBit i=ds.contains (i:Int):=by
 rw[eW,ER ds 0 h i];simp
theorem AZ{ds:List Int}{n:Nat}(h:∀ d∈ds,0<=d/\d<n):eW ds<2^n:=by
 refine Nat.lt_pow_two_of_testBit _ fun i hi=>?_
 rw[wZ (fun d hd=>(h d hd).1),Bool.eq_false_iff];intro hc;rw[List.contains_iff_mem] at hc;have:=h _ hc;omega
theorem RG{ds:List Int}(h:∀ d∈ds,0<=d):eW ds=0↔ds=[]:=by
 constructor
 ·intro h0;cases ds with
  |nil=>rfl
  |cons d ds =>
   exfalso;have hd:=h d (by simp);have h1:=wZ h d.toNat
   rw[h0,Nat.zero_testBit,show ((d.toNat:Nat):Int)=d by omega] at h1;simp at h1
 ·rintro rfl;rfl
theorem oE:∀ (n:Nat) (a lo:Int) (k:Nat),a<=lo->lo+k<=a+n->(aW a n).filter (fun x=>decide (lo<=x)&&decide (x<lo+k))=aW lo k
 |0,a,lo,k,h1,h2=>by
  have:k=0:=by omega
  subst this;rfl
 |n+1,a,lo,k,h1,h2=>by
  simp only[aW,List.filter_cons];by_cases h:a=lo
  ·subst h;cases k with
   |zero =>
    have hz:(decide (a<=a)&&decide (a<a+((0:Nat):Int)))=false:=by simp
    rw[hz];simp only[Bool.false_eq_true,if_false,aW];rw[List.filter_eq_nil_iff];intro x hx;have:=(cX _ _ _).1 hx;rw[Bool.and_eq_true,decide_eq_true_eq,decide_eq_true_eq];omega
   |succ k =>
    have hz:(decide (a<=a)&&decide (a<a+((k+1:Nat):Int)))=true:=by
     rw[Bool.and_eq_true,decide_eq_true_eq,decide_eq_true_eq];omega
    rw[hz];simp only[if_true,aW]
    congr 1
    rw[<-oE n (a+1) (a+1) k (Int.le_refl _) (by omega)];refine List.filter_congr fun x hx=>?_
    have:=(cX _ _ _).1 hx;rw[Bool.eq_iff_iff];simp;omega
  ·have hz:(decide (lo<=a)&&decide (a<lo+(k:Int)))=false:=by simp;omega
   rw[hz];simp only[Bool.false_eq_true,if_false];exact oE n (a+1) lo k (by omega) (by omega)
theorem TY{lo:Int}{k n:Nat}(ok:Int->Bool)(h0:0<=lo)(h1:lo+k<=n):lst n (eW ((aW lo k).filter ok))=(aW lo k).filter ok:=by
 have hn:∀ d∈(aW lo k).filter ok,0<=d:=fun d hd=>by
  have:=(cX _ _ _).1 (List.mem_filter.1 hd).1;omega
 rw[lst];have e:(aW 0 n).filter (fun i=>decide (eW ((aW lo k).filter ok)/2^i.toNat%2=1))=((aW 0 n).filter (fun x=>decide (lo<=x)&&decide (x<lo+k))).filter ok:=by
  rw[List.filter_filter];refine List.filter_congr fun x hx=>?_
  have hx0:=(cX _ _ _).1 hx;rw[<-uE,wZ hn,show ((x.toNat:Nat):Int)=x by omega,Bool.eq_iff_iff,List.contains_iff_mem,List.mem_filter,cX];simp;constructor
  ·rintro⟨⟨a,b⟩,c⟩;exact⟨c,a,b⟩
  ·rintro⟨c,a,b⟩;exact⟨⟨a,b⟩,c⟩
 rw[e,oE n 0 lo k h0 (by omega)]
theorem K6{v:Farm}(hv:Vd v){p:Nat}(hp:p<v.plots.length)(rain but:List Int):lst v.rain.length (eW (bC v p rain but))=bC v p rain but:=by
 have:=(D9 hv hp).1;rw[bC,pG hp,lU];exact TY _ this.1 (by omega)
def fP:List Span->List Int->List (List Int)
 |[],l=>[l]
 |s::rs,l=>(lU s).flatMap fun n=>fP rs (l++[n])
theorem IJ{rs:List Span}:∀ k,k<=rs.length->(dI rs k).flatMap (fP (rs.drop k))=fP rs []
 |0,_=>by simp[dI]
 |k+1,h=>by
  have hk:k<rs.length:=by omega
  rw[<-IJ k (by omega),j6 hk,List.flatMap_assoc]
  congr 1
  funext l;rw[List.drop_eq_getElem_cons hk,fP,ext,List.flatMap_map]
theorem zU{α:Type}:∀ l:List α,(l.flatMap fun x=>[x])=l
 |[]=>rfl
 |x::l=>by rw[List.flatMap_cons,zU l];rfl
theorem D0(v:Farm):fP v.rain []=k8 v:=by
 rw[<-IJ v.rain.length (Nat.le_refl _),List.drop_length];exact zU _
theorem y5:∀ (rs:List Span) (l c:List Int),c∈fP rs l->∃ t,c=l++t
 |[],l,c,h=>by simp only[fP,List.mem_singleton] at h;exact⟨[],by simp[h]⟩
 |s::rs,l,c,h=>by
  simp only[fP,List.mem_flatMap] at h;obtain⟨n,_,hc⟩:=h;obtain⟨t,rfl⟩:=y5 rs _ c hc;exact⟨n::t,by simp⟩
theorem BF:∀ (n:Nat) (a:Int),(aW a n).Pairwise (·≠·)
 |0,a=>List.Pairwise.nil
 |n+1,a=>by
  simp only[aW];refine List.Pairwise.cons (fun x hx=>?_) (BF n (a+1));have:=(cX _ _ _).1 hx;omega
theorem C4:∀ (rs:List Span) (l:List Int),(fP rs l).Pairwise (·≠·)
 |[],l=>by simp[fP]
 |s::rs,l=>by
  simp only[fP];rw[List.pairwise_flatMap];refine⟨fun n _=>C4 rs _,List.Pairwise.imp ?_ (BF _ _)⟩;intro n m hnm x hx y hy e;obtain⟨t,rfl⟩:=y5 _ _ _ hx;obtain⟨u,hu⟩:=y5 _ _ _ hy;have e2:=e.trans hu;rw[List.append_assoc,List.append_assoc] at e2;have:=List.append_cancel_left e2;simp at this;exact hnm this.1
def jU{A X:Type}[DecidableEq A](f:A->X->X×Bool)(a:A)(s:Option A×X):(Option A×X)×Bool:=if s.1=some a then (s,true) else ((some a,(f a s.2).1),(f a s.2).2)
theorem CE{A X:Type}[DecidableEq A](f:A->X->X×Bool):∀ (l:List A) (o:Option A) (x:X),l.Pairwise (·≠·)->(∀ a∈l,o≠some a)->(bK (jU f) l (o,x)).1.2=(bK f l x).1/\(bK (jU f) l (o,x)).2=(bK f l x).2
 |[],o,x,_,_=>⟨rfl,rfl⟩
 |a::l,o,x,h,ho=>by
  have h0:=ho a (by simp);obtain⟨h1,h2⟩:=List.pairwise_cons.1 h;have ih:=CE f l (some a) (f a x).1 h2 fun b hb e=>h1 b hb (by simpa using e)
  simp only[bK,jU,h0,if_false];split
  ·exact ih
  ·exact⟨rfl,rfl⟩
end Go.Am.Room.Fa
namespace Go.Am.Room.Fa
def dA:=zz @bR (zz @aH (zz @bS (zz @bQ (zz @aR (zz @cB (zz @cA (zz @cC (zz @eJ (zz @jZ (zz @List.length_append.{0} (zz @eM (zz @fV (zz @fU (zz @lV (zz @fT (zz @qU (zz @Nat.mul_one (@Int.toNat_natCast))))))))))))))))))
def db(v:Farm)(b m:Nat):List AV:=aB v++[.int .i64 b,.map m]
theorem gT(v:Farm)(b m:Nat):(db v b m)[0]? = some (.lit (v.rain.map cT) false none):=by simp[db,aB]
theorem gZ(v:Farm)(b m:Nat):(db v b m)[1]? = some (.int .i64 v.full):=by simp[db,aB]
theorem hJ(v:Farm)(b m:Nat):(db v b m)[2]? = some (.int .i64 v.ripe):=by simp[db,aB]
theorem gR(v:Farm)(b m:Nat):(db v b m)[3]? = some (.int .i64 v.way.lo):=by simp[db,aB]
theorem gS(v:Farm)(b m:Nat):(db v b m)[4]? = some (.int .i64 v.way.hi):=by simp[db,aB]
theorem gW(v:Farm)(b m:Nat):(db v b m)[5]? = some (.lit (v.plots.map bY) false none):=by simp[db,aB]
theorem gY(v:Farm)(b m:Nat):(db v b m)[6]? = some (.lit (v.looks.map dP) false none):=by simp[db,aB]
theorem gV(v:Farm)(b m:Nat):(db v b m)[7]? = some (.int .i64 b):=by simp[db,aB]
theorem gX(v:Farm)(b m:Nat):(db v b m)[8]? = some (.map m):=by simp[db,aB]
theorem aJE(v:Farm)(b:Nat){m k:Nat}(h:m<k):okVs k (db v b m):=by
 have:=okVs_up (m:=k) _ (pX v).1;refine wS this ?_;simp[okVs,okV,h]
def gP(v:Farm)(c bl:List Int)(k:Nat)(q:Nat):Int:=if q<k then (eW (bC v q c bl):Int) else 0
def uK(v:Farm)(c bl:List Int):Nat->Nat->Nat×Bool
 |0,p=>(p,true)
 |n+1,p=>if (bC v p c bl).isEmpty then (p,false) else uK v c bl n (p+1)
theorem HV(v:Farm)(c bl:List Int):∀ n p,(uK v c bl n p).2=((List.range n).all fun i=>!(bC v (p+i) c bl).isEmpty)/\((uK v c bl n p).2=true->(uK v c bl n p).1=p+n)
 |0,p=>⟨rfl,fun _=>rfl⟩
 |n+1,p=>by
  obtain⟨h1,h2⟩:=HV v c bl n (p+1);have hr:(List.range (n+1)).all (fun i=>!(bC v (p+i) c bl).isEmpty)=(!(bC v p c bl).isEmpty&&(List.range n).all fun i=>!(bC v (p+1+i) c bl).isEmpty):=by
   rw[List.range_succ_eq_map,List.all_cons,List.all_map];have e:((fun i=>!(bC v (p+i) c bl).isEmpty)∘Nat.succ)=fun i=>!(bC v (p+1+i) c bl).isEmpty:=by
    funext i;simp only[Function.comp,show p+Nat.succ i=p+1+i by omega]
   rw[e];rfl
  simp only[uK];split
  ·rename_i h;rw[hr,h];exact⟨rfl,fun h=>by cases h⟩
  ·rename_i h;rw[hr,Bool.not_eq_true] at *;rw[h,h1];refine⟨rfl,fun h=>?_⟩;rw[h2 (by rw[h1];exact h)];omega
theorem MU{v:Farm}{c bl:List Int}{k:Nat}:jD (gP v c bl k) k (eW (bC v k c bl))=gP v c bl (k+1):=by
 funext i;simp only[jD,gP];by_cases h:i=k
 ·subst h;simp
 ·simp only[h,if_false];by_cases h2:i<k
  ·rw[if_pos h2,if_pos (by omega)]
  ·rw[if_neg h2,if_neg (by omega)]
theorem BQ{v:Farm}{c bl:List Int}{k:Nat}:jD (gP v c bl k) k 0=gP v c bl k:=by
 funext i;simp only[jD];by_cases h:i=k
 ·subst h;simp[gP]
 ·simp only[h,if_false]
theorem yQ(f:Nat->Int)(k:Nat)(a b:Int):jD (jD f k a) k b=jD f k b:=by
 funext i;simp only[jD];split<;>rfl
theorem M7{v:Farm}{p:Int}{c bl:List Int}{d:Int}{k:Nat}(hk:k<v.looks.length)(h:oW p bl c d k v.looks[k]=false):jI v p c bl d=false:=by
 simp only[jI];rw[Bool.eq_false_iff];intro ha;have:=List.all_eq_true.1 ha k (by simpa using hk);rw[List.getElem?_eq_getElem hk] at this;simp only at this;rw[h] at this;cases this
theorem GN(v:Farm)(hv:Vd v)(b m p:Nat)(bl c:List Int)(hb:ButIs b bl)(hc:RainOk v c)(σ:St)(hp:aM σ p=some (db v b m)):
  eK T (.func 354 [] []) [.ptr p 0,.agg (bP 7 (rl c))] σ (.tuple [.agg (bP 4 (gP v c bl (uK v c bl v.plots.length 0).1)),.bool (uK v c bl v.plots.length 0).2]):=by
 refine cM (af:=a354) rfl (by simp[a354]) ?_;have hno:=hv.npl;have hnr:=hv.nra;have hnl:=hv.nlk;have hpl:=w5 hp;have h0:=fun τ=>pR hp τ
 have hbd:=uF hv hc;have hp2:p<σ.length+2:=by omega
 have hp3:p<σ.length+3:=by omega
 obtain⟨R,hR⟩:∃ R,uK v c bl v.plots.length 0=R:=⟨_,rfl⟩;rw[hR];have hz:[AV.int .i64 0,.int .i64 0,.int .i64 0,.int .i64 0]=bP 4 (gP v c bl 0):=by simp[bP,gP,List.range_succ]
 obtain⟨N,hN⟩:∃ N,σ.length=N:=⟨_,rfl⟩
 (repeat (first|simp only[↓QA,QB,reduceLT,reduceIte,reduceEqDiff,reduceAdd,reduceLeDiff,reduceMul,Nat.reduceBEq,dA,gT,gZ,hJ,gR,gS,gW,gY,gV,gX,a354,h0,hz]|refine rd0 rfl ?_))
 refine b9 (S:=Nat) 0 (fun k=>k<=v.plots.length/\uK v c bl (v.plots.length-k) k=R) (fun k=>v.plots.length-k)
  (fun k=>[(0,.ptr p 0),(3,.ptr σ.length 0),(4,.ptr (σ.length+1) 0),(6,.func 234 [.ptr p 0] []),(19,.lit (v.plots.map bY) false none),(20,.int .i64 v.plots.length),(21,.int .i64 k)])
  (fun k=>σ++[.cells (bP 7 (rl c)),.cells (bP 4 (gP v c bl k))]) ⟨Nat.zero_le _,by simpa using hR⟩ (by simp) ?_ fun k hk=>?_
 ·try simp only[aD,QE,reduceLT,reduceIte,reduceEqDiff,reduceAdd,reduceLeDiff,reduceMul,Nat.reduceBEq,dA,gT,gZ,hJ,gR,gS,gW,gY,gV,gX,hp2,hp3]
  try simp
 ·obtain⟨hk,hq⟩:=hk
  (repeat (first|simp only[↓QA,QB,reduceLT,reduceIte,reduceEqDiff,reduceAdd,reduceLeDiff,reduceMul,Nat.reduceBEq,dA,gT,gZ,hJ,gR,gS,gW,gY,gV,gX,VD]|refine rd0 rfl ?_))
  refine aF (fun hd=>?_) fun hd=>?_
  ·have hk1:k<v.plots.length:=by simpa using hd
   have hw:=bJ hk1 (by omega);have hplk:=(D9 hv hk1).1;have hfb:=rB hv hk1 c bl;have hfe:bC v k c bl=(aW v.plots[k].flower.lo (v.plots[k].flower.hi+1-v.plots[k].flower.lo).toNat).filter (jI v k c bl):=by rw[bC,pG hk1];rfl
   rw[show v.plots.length-k=(v.plots.length-(k+1))+1 by omega] at hq;simp only[uK] at hq;obtain⟨y,hy⟩:∃ y,v.plots[k]=y:=⟨_,rfl⟩;rw[hy] at hplk hfe;obtain⟨F,hF⟩:∃ F,bC v k c bl=F:=⟨_,rfl⟩;have hnx:=@MU v c bl k;rw[hF] at hq hfe hfb hnx;obtain⟨L,hL⟩:∃ L:Nat,y.flower.lo=(L:Int):=⟨y.flower.lo.toNat,by omega⟩;obtain⟨H,hH⟩:∃ H:Nat,y.flower.hi=(H:Int):=⟨y.flower.hi.toNat,by omega⟩;rw[hL,hH] at hfe hplk;have i4:(0:Int)<=(k:Int)/\(k:Int)<((4:Nat):Int):=⟨by omega,by omega⟩;have c4:k+1<=4:=by omega
   have hk4:k<4:=by omega
   (repeat (first|simp only[↓QA,QB,reduceLT,reduceIte,reduceEqDiff,reduceAdd,reduceLeDiff,reduceMul,Nat.reduceBEq,dA,gT,gZ,hJ,gR,gS,gW,gY,gV,gX,hk1,hy]|refine rd0 rfl ?_))
   refine b9 (S:=Nat×List Int) (L,[]) (fun a=>L<=a.1/\a.1<=H+1/\a.2++(aW (a.1:Int) ((H:Int)+1-a.1).toNat).filter (jI v k c bl)=F) (fun a=>H+1-a.1)
    (fun a=>[(0,.ptr p 0),(3,.ptr σ.length 0),(4,.ptr (σ.length+1) 0),(6,.func 234 [.ptr p 0] []),(7,.int .i64 k),(8,.ptr (σ.length+2) 0),(9,.int .i64 a.1),(19,.lit (v.plots.map bY) false none),(20,.int .i64 v.plots.length),(21,.int .i64 k)])
    (fun a=>σ++[.cells (bP 7 (rl c)),.cells (bP 4 (jD (gP v c bl k) k (eW a.2))),.cells [.str y.name,.int .i64 y.flower.lo,.int .i64 y.flower.hi,.int .i64 y.hands]]) ⟨Nat.le_refl _,by simp only;omega,by rw[hfe];rfl⟩ ?_ ?_ fun a ha=>?_
   ·have:(eW []:Int)=0:=rfl;simp only[this,BQ]
   ·try simp only[aD,QE,reduceLT,reduceIte,reduceEqDiff,reduceAdd,reduceLeDiff,reduceMul,Nat.reduceBEq,dA,gT,gZ,hJ,gR,gS,gW,gY,gV,gX,hp2,hp3,hL]
    try simp
   ·obtain⟨d,acc⟩:=a;obtain⟨hd0,hd1,hacc⟩:=ha;simp only at hd0 hd1 hacc;have hadF:∀ x∈acc,0<=x/\x<v.rain.length:=fun x hx=>hfb.2 x (by rw[<-hacc];simp[hx])
    (repeat (first|simp only[↓QA,QB,reduceLT,reduceIte,reduceEqDiff,reduceAdd,reduceLeDiff,reduceMul,Nat.reduceBEq,dA,gT,gZ,hJ,gR,gS,gW,gY,gV,gX,UZ]|refine rd0 rfl ?_))
    refine aF (fun h=>?_) fun h=>?_
    ·have hd2:d<=H:=by
      have h0:(d:Int)<=y.flower.hi:=by simpa using h
      omega
     have hwd:=bJ (show d<H+1 by omega) (by omega);rw[tL (show (d:Int)<=(H:Int) by omega),List.filter_cons,show (d:Int)+1=((d+1:Nat):Int) by omega] at hacc
     (repeat (first|simp only[↓QA,QB,reduceLT,reduceIte,reduceEqDiff,reduceAdd,reduceLeDiff,reduceMul,Nat.reduceBEq,dA,gT,gZ,hJ,gR,gS,gW,gY,gV,gX,h0]|refine rd0 rfl ?_))
     refine b9 (S:=Nat) 0 (fun i=>i<=v.looks.length/\iX v k c bl d i=true) (fun i=>v.looks.length-i)
      (fun i=>[(0,.ptr p 0),(3,.ptr σ.length 0),(4,.ptr (σ.length+1) 0),(6,.func 234 [.ptr p 0] []),(7,.int .i64 k),(8,.ptr (σ.length+2) 0),(9,.int .i64 d),(19,.lit (v.plots.map bY) false none),(20,.int .i64 v.plots.length),(21,.int .i64 k),(40,.lit (v.looks.map dP) false none),(41,.int .i64 v.looks.length),(42,.int .i64 i)])
      (fun i=>σ++[.cells (bP 7 (rl c)),.cells (bP 4 (jD (gP v c bl k) k (eW acc))),.cells [.str y.name,.int .i64 y.flower.lo,.int .i64 y.flower.hi,.int .i64 y.hands]]) ⟨Nat.zero_le _,rfl⟩ (by simp) ?_ fun i hi=>?_
     ·try simp only[aD,QE,reduceLT,reduceIte,reduceEqDiff,reduceAdd,reduceLeDiff,reduceMul,Nat.reduceBEq,dA,gT,gZ,hJ,gR,gS,gW,gY,gV,gX,hp2,hp3]
      try simp
     ·obtain⟨hi,hup⟩:=hi
      (repeat (first|simp only[↓QA,QB,reduceLT,reduceIte,reduceEqDiff,reduceAdd,reduceLeDiff,reduceMul,Nat.reduceBEq,dA,gT,gZ,hJ,gR,gS,gW,gY,gV,gX,XH]|refine rd0 rfl ?_))
      refine aF (fun h2=>?_) fun h2=>?_
      ·have hi1:i<v.looks.length:=by simpa using h2
       have hwi:=bJ hi1 (by omega);have hsu:=rL hi1 k c bl d;have hfa:=@M7 v k c bl d i hi1;have hlx:=hv.lk _ (List.getElem_mem hi1);rw[hup,Bool.true_and] at hsu;obtain⟨x,hx⟩:∃ x,v.looks[i]=x:=⟨_,rfl⟩;rw[hx] at hsu hlx hfa;have hlo:oW k bl c d i x=(!(x.plot==(k:Int))||bl.contains (i:Int)||BK c d x.day==x.points):=by
        simp only[oW]
        congr 3
       obtain⟨D,hD⟩:∃ D:Nat,x.day=(D:Int):=⟨x.day.toNat,by omega⟩;have hpe:BK c d x.day=pts (rl c) d D:=by rw[BK,hD,Int.toNat_natCast,Int.toNat_natCast]
       rw[hpe] at hlo;have hfu:=fun τ=>NU (.ptr p 0) (rl c) d D hbd (by omega) τ
       obtain⟨Z,hZ⟩:∃ Z,pts (rl c) d D=Z:=⟨_,rfl⟩;rw[hZ] at hlo;simp only[hZ] at hfu;have vs:=OR b i (by omega);have va:=GA (b/2^i) (Nat.lt_of_le_of_lt (Nat.div_le_self _ _) hb.lt);have hbi:=hb.bit i (by omega)
       (repeat (first|simp only[↓QA,QB,reduceLT,reduceIte,reduceEqDiff,reduceAdd,reduceLeDiff,reduceMul,Nat.reduceBEq,dA,gT,gZ,hJ,gR,gS,gW,gY,gV,gX,hi1,hx]|refine rd0 rfl ?_))
       refine IR [.cells [.int .i64 0,.int .i64 0,.int .i64 0]] rfl ?_
       (repeat (first|simp only[↓QA,QB,reduceLT,reduceIte,reduceEqDiff,reduceAdd,reduceLeDiff,reduceMul,Nat.reduceBEq,dA,gT,gZ,hJ,gR,gS,gW,gY,gV,gX,hD]|refine rd0 rfl ?_))
       refine iU (hfu _) ?_
       (repeat (first|simp only[↓QA,QB,reduceLT,reduceIte,reduceEqDiff,reduceAdd,reduceLeDiff,reduceMul,Nat.reduceBEq,dA,gT,gZ,hJ,gR,gS,gW,gY,gV,gX,hD]|refine rd0 rfl ?_))
       cases hl:(x.plot==(k:Int))
       ·have hlk:oW k bl c d i x=true:=by rw[hlo,hl];rfl
        rw[hlk] at hsu
        (repeat (first|simp only[↓QA,QB,reduceLT,reduceIte,reduceEqDiff,reduceAdd,reduceLeDiff,reduceMul,Nat.reduceBEq,dA,gT,gZ,hJ,gR,gS,gW,gY,gV,gX,hl,hwi]|refine rd0 rfl ?_))
        refine⟨i+1,⟨by omega,hsu⟩,by omega,?_⟩;try simp only[aD,QE,reduceLT,reduceIte,reduceEqDiff,reduceAdd,reduceLeDiff,reduceMul,Nat.reduceBEq,dA,gT,gZ,hJ,gR,gS,gW,gY,gV,gX,hp2,hp3,hwi]
        try simp[aY,okVs,okV]
       ·cases hbc:bl.contains (i:Int)
        ·rw[hbc,Bool.not_false] at hbi;rw[hl,hbc] at hlo;simp only[Bool.not_true,Bool.false_or] at hlo;have hxz:(x.points==Z)=(Z==x.points):=by rw[Bool.eq_iff_iff,beq_iff_eq,beq_iff_eq];exact eq_comm
         (repeat (first|simp only[↓QA,QB,reduceLT,reduceIte,reduceEqDiff,reduceAdd,reduceLeDiff,reduceMul,Nat.reduceBEq,dA,gT,gZ,hJ,gR,gS,gW,gY,gV,gX,hl,h0,vs,va,hbi,hxz]|refine rd0 rfl ?_))
         cases hzx:(Z==x.points)
         ·rw[hzx] at hlo;rw[hfa hlo] at hacc;simp only[Bool.false_eq_true,if_false] at hacc
          (repeat (first|simp only[↓QA,QB,reduceLT,reduceIte,reduceEqDiff,reduceAdd,reduceLeDiff,reduceMul,Nat.reduceBEq,dA,gT,gZ,hJ,gR,gS,gW,gY,gV,gX,hwd]|refine rd0 rfl ?_))
          refine⟨(d+1,acc),⟨by simp only;omega,by simp only;omega,hacc⟩,by simp only;omega,?_⟩;try simp only[aD,QE,reduceLT,reduceIte,reduceEqDiff,reduceAdd,reduceLeDiff,reduceMul,Nat.reduceBEq,dA,gT,gZ,hJ,gR,gS,gW,gY,gV,gX,hp2,hp3,hwd]
          try simp[aY,okVs,okV]
         ·rw[hzx] at hlo;rw[hlo] at hsu
          (repeat (first|simp only[↓QA,QB,reduceLT,reduceIte,reduceEqDiff,reduceAdd,reduceLeDiff,reduceMul,Nat.reduceBEq,dA,gT,gZ,hJ,gR,gS,gW,gY,gV,gX,hwi]|refine rd0 rfl ?_))
          refine⟨i+1,⟨by omega,hsu⟩,by omega,?_⟩;try simp only[aD,QE,reduceLT,reduceIte,reduceEqDiff,reduceAdd,reduceLeDiff,reduceMul,Nat.reduceBEq,dA,gT,gZ,hJ,gR,gS,gW,gY,gV,gX,hp2,hp3,hwi]
          try simp[aY,okVs,okV]
        ·rw[hbc,Bool.not_true] at hbi;have hlk:oW k bl c d i x=true:=by rw[hlo,hl,hbc];rfl
         rw[hlk] at hsu
         (repeat (first|simp only[↓QA,QB,reduceLT,reduceIte,reduceEqDiff,reduceAdd,reduceLeDiff,reduceMul,Nat.reduceBEq,dA,gT,gZ,hJ,gR,gS,gW,gY,gV,gX,hl,h0,vs,va,hbi,hwi]|refine rd0 rfl ?_))
         refine⟨i+1,⟨by omega,hsu⟩,by omega,?_⟩;try simp only[aD,QE,reduceLT,reduceIte,reduceEqDiff,reduceAdd,reduceLeDiff,reduceMul,Nat.reduceBEq,dA,gT,gZ,hJ,gR,gS,gW,gY,gV,gX,hp2,hp3,hwi]
         try simp[aY,okVs,okV]
      ·have hi1:i=v.looks.length:=by simp at h2;omega
       rw[hi1] at hup;have hok:jI v k c bl d=true:=hup;rw[hok] at hacc;simp only[if_true] at hacc;have hsl:eW acc<2^7:=AZ fun x hx=>by have:=hadF x hx;omega
       have h2d:2^d<=2^7:=Nat.pow_le_pow_right (by omega) (by omega);have vsh:=yM d (by omega);have vor:=WG (eW acc) (2^d) (by omega) (by omega);have hge:=iP 4 (jD (gP v c bl k) k (eW acc)) hk4;have hup2:jD (gP v c bl k) k (eW acc) k=(eW acc:Int):=by simp[jD]
       rw[hup2] at hge;have hst:=wJ 4 (jD (gP v c bl k) k (eW acc)) ((eW acc|||2^d:Nat):Int) hk4;rw[yQ] at hst;have hsa:eW (acc++[(d:Int)])=eW acc|||2^d:=by rw[WU,Int.toNat_natCast]
       (repeat (first|simp only[↓QA,QB,reduceLT,reduceIte,reduceEqDiff,reduceAdd,reduceLeDiff,reduceMul,Nat.reduceBEq,dA,gT,gZ,hJ,gR,gS,gW,gY,gV,gX,i4,c4,Nat.zero_add,hge,vsh,vor,hst,hwd]|refine rd0 rfl ?_))
       refine⟨(d+1,acc++[(d:Int)]),⟨by simp only;omega,by simp only;omega,by rw[<-hacc];simp⟩,by simp only;omega,?_⟩;try simp only[aD,QE,reduceLT,reduceIte,reduceEqDiff,reduceAdd,reduceLeDiff,reduceMul,Nat.reduceBEq,dA,gT,gZ,hJ,gR,gS,gW,gY,gV,gX,hp2,hp3,hwd,hsa]
       try simp[aY,okVs,okV,n6]
    ·have hd2:d=H+1:=by
      have h0:¬(d:Int)<=y.flower.hi:=by simpa using h
      omega
     rw[v9 (show ¬(d:Int)<=(H:Int) by omega)] at hacc;simp only[List.filter_nil,List.append_nil] at hacc;subst hacc;have hge:=iP 4 (jD (gP v c bl k) k (eW acc)) hk4;have hup2:jD (gP v c bl k) k (eW acc) k=(eW acc:Int):=by simp[jD]
     rw[hup2] at hge;have hsz:=RG (fun x hx=>(hadF x hx).1);cases hz0:((eW acc:Int)==0)
     ·have hz0':eW acc≠0:=by intro e;rw[e] at hz0;cases hz0
      have hne:acc≠[]:=fun e=>hz0' (hsz.2 e)
      have hie:acc.isEmpty=false:=by cases acc with
       |nil=>exact absurd rfl hne
       |cons a b=>rfl
      rw[hie] at hq;simp only[Bool.false_eq_true,if_false] at hq
      (repeat (first|simp only[↓QA,QB,reduceLT,reduceIte,reduceEqDiff,reduceAdd,reduceLeDiff,reduceMul,Nat.reduceBEq,dA,gT,gZ,hJ,gR,gS,gW,gY,gV,gX,i4,Nat.zero_add,hge,hz0,hw]|refine rd0 rfl ?_))
      refine⟨k+1,⟨by omega,hq⟩,by omega,?_⟩;try simp only[aD,QE,reduceLT,reduceIte,reduceEqDiff,reduceAdd,reduceLeDiff,reduceMul,Nat.reduceBEq,dA,gT,gZ,hJ,gR,gS,gW,gY,gV,gX,hp2,hp3,hw,hnx]
      try simp[aY,okVs,okV,n6]
     ·have hz0':eW acc=0:=by
       have:(eW acc:Int)=0:=by simpa using hz0
       omega
      have hne:acc=[]:=hsz.1 hz0';rw[hne] at hq;simp only[List.isEmpty_nil,if_true] at hq;subst hq;have hzz:jD (gP v c bl k) k (eW acc)=gP v c bl k:=by rw[hz0'];exact BQ
      simp only[hzz] at hge
      (repeat (first|simp only[↓QA,QB,reduceLT,reduceIte,reduceEqDiff,reduceAdd,reduceLeDiff,reduceMul,Nat.reduceBEq,dA,gT,gZ,hJ,gR,gS,gW,gY,gV,gX,i4,Nat.zero_add,hge,hz0,hzz]|refine rd0 rfl ?_))
      refine cZ [.cells (bP 7 (rl c)),.cells (bP 4 (gP v c bl k)),.cells [.str y.name,.int .i64 y.flower.lo,.int .i64 y.flower.hi,.int .i64 y.hands]] (by first|rfl|simp) ?_;try simp only[QS,QC,reduceLT,reduceIte,reduceEqDiff,reduceAdd,reduceLeDiff,reduceMul,Nat.reduceBEq,dA,gT,gZ,hJ,gR,gS,gW,gY,gV,gX]
  ·have hk1:k=v.plots.length:=by simp at hd;omega
   subst hk1;rw[Nat.sub_self] at hq;simp only[uK] at hq;subst hq
   (repeat (first|simp only[↓QA,QB,reduceLT,reduceIte,reduceEqDiff,reduceAdd,reduceLeDiff,reduceMul,Nat.reduceBEq,dA,gT,gZ,hJ,gR,gS,gW,gY,gV,gX]|refine rd0 rfl ?_))
   refine cZ [.cells (bP 7 (rl c)),.cells (bP 4 (gP v c bl v.plots.length))] (by first|rfl|simp) ?_;try simp only[QS,QC,reduceLT,reduceIte,reduceEqDiff,reduceAdd,reduceLeDiff,reduceMul,Nat.reduceBEq,dA,gT,gZ,hJ,gR,gS,gW,gY,gV,gX]
end Go.Am.Room.Fa
set_option maxRecDepth 8000
namespace Go.Am.Room.Fa
def eA:=zz @aR (zz @cC (zz @List.length_append.{0} (zz @eM (zz @fV (zz @fU (zz @lV (zz @fT (zz @Nat.mul_one (zz @Int.toNat_natCast (zz @gT (zz @gZ (zz @hJ (zz @gR (zz @gS (zz @gW (zz @gY (zz @gV (zz @gX (zz @kY (zz @kQ (zz @tQ (@t9))))))))))))))))))))))
theorem MG(l:List Int)(n:Int):rl (l++[n])=jD (rl l) l.length n:=by
 funext i;simp only[rl,jD];by_cases h:i=l.length
 ·subst h;simp
 ·rw[if_neg h];by_cases h2:i<l.length
  ·rw[List.getElem?_append_left h2]
  ·rw[List.getElem?_eq_none (by simp;omega),List.getElem?_eq_none (by omega)]
theorem PJ(l:List Int):jD (rl l) l.length 0=rl l:=by
 funext i;simp only[jD];split
 ·rename_i h;subst h;simp[rl]
 ·rfl
theorem VT{a b:List Int}(h1:a.length=b.length)(h2:a.length<=7):((List.range 7).all fun i=>rl a i==rl b i)=decide (b=a):=by
 rw[Bool.eq_iff_iff,List.all_eq_true,decide_eq_true_eq];constructor
 ·intro h;refine List.ext_getElem h1.symm fun i hi1 hi2=>?_
  have:=h i (by simp;omega);rw[beq_iff_eq,VH (by omega),VH (by omega)] at this;exact this.symm
 ·rintro rfl i _;simp
theorem CD{A X:Type}[DecidableEq A](f:A->X->X×Bool):∀ (az:List A) (o:Option A) (x:X) (u:A),(bK (jU f) az (o,x)).1.1=some u->o=some u\/u∈az
 |[],o,x,u,h=>.inl h
 |a::az,o,x,u,h=>by
  simp only[bK,jU] at h;by_cases ho:o=some a
  ·simp only[ho,if_true] at h;rcases CD f az (some a) x u h with h|h
   ·exact .inl (ho.trans h)
   ·exact .inr (by simp[h])
  ·simp only[ho,if_false] at h;split at h
   ·rcases CD f az (some a) _ u h with h|h
    ·simp at h;exact .inr (by simp[h])
    ·exact .inr (by simp[h])
   ·simp at h;exact .inr (by simp[h])
theorem yD:∀ (rs:List Span) (l c:List Int),c∈fP rs l->c.length=l.length+rs.length
 |[],l,c,h=>by simp only[fP,List.mem_singleton] at h;simp[h]
 |s::rs,l,c,h=>by
  simp only[fP,List.mem_flatMap] at h;obtain⟨n,_,hc⟩:=h;have:=yD rs _ c hc;simp at this ⊢;omega
def iT:List SK:=List.replicate 7 .i
theorem cN:[SK.i,.i,.i,.i,.i,.i,.i]=List.replicate 7 .i:=rfl
structure WFam {X:Type} (Z:X->St) (v:Farm) (b m p q N:Nat):Prop where
 len:∀ x,(Z x).length=N
 atp:∀ x τ,aM (Z x++τ) p=some (db v b m)
 atq:∀ x τ,aM (Z x++τ) q=some [.ptr p 0]
namespace WFam
variable {X:Type} {Z:X->St} {v:Farm} {b m p q N:Nat}
theorem base(h:WFam Z v b m p q N)(x:X)(τ:St)(k:Nat):aM (Z x++τ) (N+k)=aM τ k:=by rw[<-h.len x];exact lW _ _ _
theorem base0(h:WFam Z v b m p q N)(x:X)(τ:St):aM (Z x++τ) N=aM τ 0:=h.base x τ 0
theorem bset(h:WFam Z v b m p q N)(x:X)(τ:St)(k:Nat)(y:ABlk):(Z x++τ).set (N+k) y=Z x++τ.set k y:=by rw[<-h.len x];exact pA _ _ _ _
theorem bset0(h:WFam Z v b m p q N)(x:X)(τ:St)(y:ABlk):(Z x++τ).set N y=Z x++τ.set 0 y:=h.bset x τ 0 y
end WFam
def lQ(q N:Nat):AV:=.func 468 [] [.ptr q 0,.ptr (N+3) 0,.ptr (N+1) 0,.ptr (N+2) 0,.ptr N 0,.ptr (N+4) 0]
theorem iA(q N:Nat):lQ q N = .func 468 [] [.ptr q 0,.ptr (N+3) 0,.ptr (N+1) 0,.ptr (N+2) 0,.ptr N 0,.ptr (N+4) 0]:=by simp only[lQ]
def jP(id q N:Nat)(o:Option (List Int))(A:Nat->Int):St:=[.cells [.yield id],.cells (bP 7 A),.cells (bP 7 (rl (o.getD []))),.cells [.bool o.isNone],.cells [lQ q N]]
theorem eD(id q N:Nat)(o:Option (List Int))(A:Nat->Int)(τ:St):jP id q N o A++τ = .cells [.yield id]::.cells (bP 7 A)::.cells (bP 7 (rl (o.getD [])))::.cells [.bool o.isNone]::.cells [lQ q N]::τ:=by simp[jP]
def pE{X:Type}(Z ZD:X->St)(id q N:Nat)(l:List Int)(r:(Option (List Int)×X)×Bool)(o:Out):Prop :=
 o.v = .bool r.2/\∃ A τ',o.σ=j3 Z ZD (r.1.2,r.2)++(jP id q N r.1.1 A++τ')/\(r.2=true->A=rl l)
def WQ{X:Type}(Z:X->St)(f:List Int->X->X×Bool)(v:Farm)(q id N:Nat)(l:List Int)(s:Span)(rs:List Span)(R:(Option (List Int)×X)×Bool)(k:Nat)(e:Env)(σ:St):Prop :=
 Env.get e 0 = .int .i64 l.length/\Env.get e 1 = .ptr q 0/\Env.get e 3 = .ptr (N+1) 0/\Env.get e 6 = .ptr (N+4) 0/\∃ n o x c τ,Env.get e 9 = .int .i64 n/\s.lo<=n/\n<=s.hi+1/\k=(s.hi+1-n).toNat/\(∀ u,o=some u->u.length=v.rain.length) /\
   σ=Z x++(jP id q N o (jD (rl l) l.length c)++τ)/\bK (jU f) ((aW n k).flatMap fun n=>fP rs (l++[n])) (o,x)=R
theorem sY{X:Type}{Z ZD:X->St}{v:Farm}{b m p q id N:Nat}(hR:WFam Z v b m p q N)(f:List Int->X->X×Bool)(hy:mN Z ZD id (fun t=>[.agg (bP 7 (rl t))]) (RainOk v) f)(hv:Vd v):
  ∀ (rs:List Span) (l:List Int) (o:Option (List Int)) (x:X) (τ:St),rs=v.rain.drop l.length->l.length<=v.rain.length->(∀ i (h:i<v.rain.length),i<l.length->v.rain[i].lo<=rl l i/\rl l i<=v.rain[i].hi)->(∀ u,o=some u->u.length=v.rain.length) ->
   Run T (.callv (lQ q N) [.int .i64 l.length] (Z x++(jP id q N o (rl l)++τ))) (pE Z ZD id q N l (bK (jU f) (fP rs l) (o,x)))
 |[],l,o,x,τ,hrs,hl,hbd,ho=>by
  have hl2:l.length=v.rain.length:=by
   have:=congrArg List.length hrs;simp at this;omega
  have hro:RainOk v l:=⟨hl2,fun i h=>hbd i h (by omega)⟩;have hnr:=hv.nra;simp only[fP,D7,iA];refine .callf (.call (af:=a468) rfl (by simp[a468]) (eP (K:=fun j e σ'=>(j=none\/j=some .ret)/\pE Z ZD id q N l (jU f l (o,x)) ⟨none,[],σ',Env.get e 8⟩) ?_ fun o ho=>ho) fun w hw=>⟨hw.1,_,rfl,.inl hw.2⟩);have hE:((l.length:Int)==(v.rain.length:Int))=true:=by rw[hl2];simp
  rw[eD];cases o with
  |none =>
   have hon:jU f l (none,x)=((some l,(f l x).1),(f l x).2):=by simp[jU]
   rw[hon];have hcall:=hy l hro x;obtain⟨r,hr⟩:∃ r,f l x=r:=⟨_,rfl⟩;rw[hr] at hcall ⊢
   (repeat (first|simp only[↓QA,QB,reduceLT,reduceIte,reduceEqDiff,reduceAdd,reduceLeDiff,reduceMul,Nat.reduceBEq,eA,hR.base,hR.base0,hR.bset,hR.bset0,hR.atp,hR.atq,iT,cN,a468,hE,Option.isNone_none,Option.getD_none]|refine rd0 rfl ?_))
   refine .mono (hcall _) fun w hw=>?_
   obtain⟨hw1,τ',hw2⟩:=hw;rw[hw1,hw2]
   (repeat (first|simp only[↓QA,QB,reduceLT,reduceIte,reduceEqDiff,reduceAdd,reduceLeDiff,reduceMul,Nat.reduceBEq,eA,hR.base,hR.base0,hR.bset,hR.bset0,hR.atp,hR.atq,iT,cN]|refine rd0 rfl ?_))
   exact⟨rfl,rl l,τ++τ',by simp[jP],fun _=>rfl⟩
  |some u =>
   have hul:=ho u rfl;have heq:bF (List.replicate 7 .i) (bP 7 (rl l)) (bP 7 (rl u))=some (decide (u=l)):=by
    rw[HA,VT (by omega) (by omega)]
   by_cases hu:u=l
   ·subst hu;have hon:jU f u (some u,x)=((some u,x),true):=by simp[jU]
    rw[hon];have hdt:decide (u=u)=true:=by simp
    rw[hdt] at heq
    (repeat (first|simp only[↓QA,QB,reduceLT,reduceIte,reduceEqDiff,reduceAdd,reduceLeDiff,reduceMul,Nat.reduceBEq,eA,hR.base,hR.base0,hR.bset,hR.bset0,hR.atp,hR.atq,iT,cN,a468,hE,heq,Option.isNone_some,Option.getD_some]|refine rd0 rfl ?_))
    exact⟨rfl,rl u,τ,by simp[jP,j3],fun _=>rfl⟩
   ·have hon:jU f l (some u,x)=((some l,(f l x).1),(f l x).2):=by simp[jU,hu]
    rw[hon];have hdt:decide (u=l)=false:=by simpa using hu
    rw[hdt] at heq;have hcall:=hy l hro x;obtain⟨r,hr⟩:∃ r,f l x=r:=⟨_,rfl⟩;rw[hr] at hcall ⊢
    (repeat (first|simp only[↓QA,QB,reduceLT,reduceIte,reduceEqDiff,reduceAdd,reduceLeDiff,reduceMul,Nat.reduceBEq,eA,hR.base,hR.base0,hR.bset,hR.bset0,hR.atp,hR.atq,iT,cN,a468,hE,heq,Option.isNone_some,Option.getD_some]|refine rd0 rfl ?_))
    refine .mono (hcall _) fun w hw=>?_
    obtain⟨hw1,τ',hw2⟩:=hw;rw[hw1,hw2]
    (repeat (first|simp only[↓QA,QB,reduceLT,reduceIte,reduceEqDiff,reduceAdd,reduceLeDiff,reduceMul,Nat.reduceBEq,eA,hR.base,hR.base0,hR.bset,hR.bset0,hR.atp,hR.atq,iT,cN]|refine rd0 rfl ?_))
    exact⟨rfl,rl l,τ++τ',by simp[jP],fun _=>rfl⟩
 |s::rs,l,o,x,τ,hrs,hl,hbd,ho=>by
  have hlt:l.length<v.rain.length:=by
   have:=congrArg List.length hrs;simp at this;omega
  have hdr:=List.drop_eq_getElem_cons hlt;rw[<-hrs] at hdr;have hs:v.rain[l.length]=s:=by have:=(List.cons.inj hdr).1;exact this.symm
  have hrs2:rs=v.rain.drop (l.length+1):=(List.cons.inj hdr).2;have hra:=hv.ra _ (List.getElem_mem hlt);rw[hs] at hra;have hnr:=hv.nra;have hE:((l.length:Int)==(v.rain.length:Int))=false:=by simp;omega
  have hlen7:l.length<7:=by omega
  have i7:(0:Int)<=(l.length:Int)/\(l.length:Int)<((7:Nat):Int):=⟨by omega,by omega⟩;have c7:l.length+1<=7:=by omega
  have hwd:IntKind.i64.wrap ((l.length:Int)+1)=((l.length+1:Nat):Int):=bJ hlt (by omega)
  have ih:=fun (n:Int) (hn:s.lo<=n/\n<=s.hi) (o:Option (List Int)) (x:X) (τ:St) (ho:∀ u,o=some u->u.length=v.rain.length)=>sY hR f hy hv rs (l++[n]) o x τ (by rw[hrs2];simp) (by simp;omega) (fun i h hi=>by
   rw[MG];simp only[jD];by_cases e:i=l.length
   ·subst e;rw[if_pos rfl,hs];exact hn
   ·rw[if_neg e]
    exact hbd i h (by simp at hi;omega)) ho
  obtain⟨R,hRR⟩:∃ R,bK (jU f) (fP (s::rs) l) (o,x)=R:=⟨_,rfl⟩;rw[hRR];simp only[fP,lU] at hRR;simp only[iA];refine .callf (.call (af:=a468) rfl (by simp[a468]) (eP (K:=fun j e σ'=>(j=none\/j=some .ret)/\pE Z ZD id q N l R ⟨none,[],σ',Env.get e 8⟩) ?_ fun o ho=>ho) fun w hw=>⟨hw.1,_,rfl,.inl hw.2⟩);rw[eD]
  (repeat (first|simp only[↓QA,QB,reduceLT,reduceIte,reduceEqDiff,reduceAdd,reduceLeDiff,reduceMul,Nat.reduceBEq,eA,hR.base,hR.base0,hR.bset,hR.bset0,hR.atp,hR.atq,iT,cN,a468,hE,hlt,hs]|refine rd0 rfl ?_))
  refine XC (WQ Z f v q id N l s rs R) ?_ (s.hi+1-s.lo).toNat _ _ ?_
  ·rintro k e σ ⟨e0,e1,e3,e6,n,o,x,c,τ,e9,hn0,hn1,hk,ho,rfl,hq⟩;subst hk;have hst:=wJ 7 (jD (rl l) l.length c) n hlen7;rw[yQ,<-MG l n] at hst;have hst0:=wJ 7 (jD (rl l) l.length c) 0 hlen7;rw[yQ,PJ] at hst0;rw[eD]
   (repeat (first|simp only[↓QA,QB,reduceLT,reduceIte,reduceEqDiff,reduceAdd,reduceLeDiff,reduceMul,Nat.reduceBEq,eA,hR.base,hR.base0,hR.bset,hR.bset0,hR.atp,hR.atq,iT,cN,YB,e0,e1,e3,e6,e9,hlt,hs]|refine rd0 rfl ?_))
   refine aF (fun h=>?_) fun h=>?_
   ·have hn2:n<=s.hi:=by simpa using h
    have hwn:IntKind.i64.wrap (n+1)=n+1:=bL ⟨by omega,by omega⟩;rw[tL hn2,List.flatMap_cons,yC] at hq;have hc:=ih n ⟨hn0,hn2⟩ o x τ ho;simp only[eD,List.length_append,List.length_cons,List.length_nil,Nat.zero_add] at hc;obtain⟨r,hr⟩:∃ r,bK (jU f) (fP rs (l++[n])) (o,x)=r:=⟨_,rfl⟩;rw[hr] at hq hc
    (repeat (first|simp only[↓QA,QB,reduceLT,reduceIte,reduceEqDiff,reduceAdd,reduceLeDiff,reduceMul,Nat.reduceBEq,eA,hR.base,hR.base0,hR.bset,hR.bset0,hR.atp,hR.atq,iT,cN,e0,e1,e3,e6,e9,i7,c7,Nat.zero_add,hst,hwd]|refine rd0 rfl ?_))
    refine .mono hc fun w hw=>?_
    obtain⟨hw1,A,τ',hw2,hw3⟩:=hw;rw[hw1,hw2];cases hr2:r.2
    ·rw[hr2] at hq;simp only[Bool.false_eq_true,if_false] at hq
     (repeat (first|simp only[↓QA,QB,reduceLT,reduceIte,reduceEqDiff,reduceAdd,reduceLeDiff,reduceMul,Nat.reduceBEq,eA,hR.base,hR.base0,hR.bset,hR.bset0,hR.atp,hR.atq,iT,cN,e0,e1,e3,e6,e9]|refine rd0 rfl ?_))
     rw[<-hq];exact⟨rfl,A,τ',by simp[j3],fun h=>by cases h⟩
    ·rw[hr2] at hq;simp only[if_true] at hq;have hA:=hw3 hr2;rw[hA];simp only[j3,if_true];rw[eD];have hlr:l.length+1+rs.length=v.rain.length:=by rw[hrs2];simp;omega
     (repeat (first|simp only[↓QA,QB,reduceLT,reduceIte,reduceEqDiff,reduceAdd,reduceLeDiff,reduceMul,Nat.reduceBEq,eA,hR.base,hR.base0,hR.bset,hR.bset0,hR.atp,hR.atq,iT,cN,e0,e1,e3,e6,e9,hwn]|refine rd0 rfl ?_))
     refine⟨(s.hi+1-(n+1)).toNat,by omega,?_,?_,?_,?_,n+1,r.1.1,r.1.2,n,τ',?_,by omega,by omega,rfl,fun u hu=>?_,?_,hq⟩
     ·try simp only[aD,QE,reduceLT,reduceIte,reduceEqDiff,reduceAdd,reduceLeDiff,reduceMul,Nat.reduceBEq,eA,hR.base,hR.base0,hR.bset,hR.bset0,hR.atp,hR.atq,iT,cN,e0]
     ·try simp only[aD,QE,reduceLT,reduceIte,reduceEqDiff,reduceAdd,reduceLeDiff,reduceMul,Nat.reduceBEq,eA,hR.base,hR.base0,hR.bset,hR.bset0,hR.atp,hR.atq,iT,cN,e1]
     ·try simp only[aD,QE,reduceLT,reduceIte,reduceEqDiff,reduceAdd,reduceLeDiff,reduceMul,Nat.reduceBEq,eA,hR.base,hR.base0,hR.bset,hR.bset0,hR.atp,hR.atq,iT,cN,e3]
     ·try simp only[aD,QE,reduceLT,reduceIte,reduceEqDiff,reduceAdd,reduceLeDiff,reduceMul,Nat.reduceBEq,eA,hR.base,hR.base0,hR.bset,hR.bset0,hR.atp,hR.atq,iT,cN,e6]
     ·try simp only[aD,QE,reduceLT,reduceIte,reduceEqDiff,reduceAdd,reduceLeDiff,reduceMul,Nat.reduceBEq,eA,hR.base,hR.base0,hR.bset,hR.bset0,hR.atp,hR.atq,iT,cN]
     ·rw[<-hr] at hu;rcases CD f _ o x u hu with h|h
      ·exact ho u h
      ·have:=yD _ _ _ h;simp at this;omega
     ·rw[eD,MG]
   ·have hn2:¬n<=s.hi:=by simpa using h
    rw[v9 hn2,List.flatMap_nil] at hq;simp only[bK] at hq
    (repeat (first|simp only[↓QA,QB,reduceLT,reduceIte,reduceEqDiff,reduceAdd,reduceLeDiff,reduceMul,Nat.reduceBEq,eA,hR.base,hR.base0,hR.bset,hR.bset0,hR.atp,hR.atq,iT,cN,e0,e1,e3,e6,e9,i7,c7,Nat.zero_add,hst0]|refine rd0 rfl ?_))
    rw[<-hq];exact⟨rfl,rl l,τ,by simp[j3,jP],fun _=>rfl⟩
  ·refine⟨?_,?_,?_,?_,s.lo,o,x,0,τ,?_,Int.le_refl _,by omega,rfl,ho,?_,hRR⟩
   ·try simp only[aD,QE,reduceLT,reduceIte,reduceEqDiff,reduceAdd,reduceLeDiff,reduceMul,Nat.reduceBEq,eA,hR.base,hR.base0,hR.bset,hR.bset0,hR.atp,hR.atq,iT,cN]
   ·try simp only[aD,QE,reduceLT,reduceIte,reduceEqDiff,reduceAdd,reduceLeDiff,reduceMul,Nat.reduceBEq,eA,hR.base,hR.base0,hR.bset,hR.bset0,hR.atp,hR.atq,iT,cN]
   ·try simp only[aD,QE,reduceLT,reduceIte,reduceEqDiff,reduceAdd,reduceLeDiff,reduceMul,Nat.reduceBEq,eA,hR.base,hR.base0,hR.bset,hR.bset0,hR.atp,hR.atq,iT,cN]
   ·try simp only[aD,QE,reduceLT,reduceIte,reduceEqDiff,reduceAdd,reduceLeDiff,reduceMul,Nat.reduceBEq,eA,hR.base,hR.base0,hR.bset,hR.bset0,hR.atp,hR.atq,iT,cN]
   ·try simp only[aD,QE,reduceLT,reduceIte,reduceEqDiff,reduceAdd,reduceLeDiff,reduceMul,Nat.reduceBEq,eA,hR.base,hR.base0,hR.bset,hR.bset0,hR.atp,hR.atq,iT,cN]
   ·rw[eD,PJ]
theorem GH{X:Type}{Z ZD:X->St}{v:Farm}{b m p q id N:Nat}(hR:WFam Z v b m p q N)(f:List Int->X->X×Bool)(hy:mN Z ZD id (fun t=>[.agg (bP 7 (rl t))]) (RainOk v) f)(hv:Vd v)(x:X):
  Run T (.call 467 [.yield id,.ptr q 0] (Z x)) fun o=>∃ τ',o.σ=j3 Z ZD (bK f (fP v.rain []) x)++τ':=by
 have hn:=sY hR f hy hv v.rain [] none x [] (by simp) (by simp) (fun i h hi=>by simp at hi) (fun u hu=>by cases hu);have hl:=hR.len x;have hz:[AV.int .i64 0,.int .i64 0,.int .i64 0,.int .i64 0,.int .i64 0,.int .i64 0,.int .i64 0]=bP 7 (rl []):=by simp[bP,rl,List.range_succ]
 obtain⟨ho1,ho2⟩:=CE f (fP v.rain []) none x (C4 _ _) (fun a _ h=>by cases h);have hend:∀ w,pE Z ZD id q N [] (bK (jU f) (fP v.rain []) (none,x)) w->∃ τ',w.σ=j3 Z ZD (bK f (fP v.rain []) x)++τ':=by
  rintro w ⟨_,A,τ',h2,_⟩;refine⟨jP id q N (bK (jU f) (fP v.rain []) (none,x)).1.1 A++τ',?_⟩;rw[h2,show ((bK (jU f) (fP v.rain []) (none,x)).1.2,(bK (jU f) (fP v.rain []) (none,x)).2)=bK f (fP v.rain []) x from Prod.ext ho1 ho2]
 rw[eD,iA] at hn;simp only[List.length_nil,Option.getD_none,Option.isNone_none] at hn;refine .call (af:=a467) rfl (by simp[a467]) (eP (K:=fun j e σ'=>(j=none\/j=some .ret)/\∃ τ',σ'=j3 Z ZD (bK f (fP v.rain []) x)++τ') ?_ fun o ho=>ho) fun o ho=>⟨ho.1,_,rfl,.inl ho.2⟩
 try simp only[↓QA,QB,seval,eA,hR.base,hR.base0,hR.bset,hR.bset0,hR.atp,hR.atq,iT,cN,a467,hl,hz]
 refine .mono hn fun w hw=>?_
 have:=hend w hw;try simp only[↓QA,QB,seval,eA,hR.base,hR.base0,hR.bset,hR.bset0,hR.atp,hR.atq,iT,cN]
 exact this
end Go.Am.Room.Fa
namespace Go.Am.Room.Fa
def eqT(t u:Truth):Bool:=(List.range 7).all fun i=>rl t.rain i==rl u.rain i
def AI(t:Truth):List Truth->List Truth
 |[]=>[t]
 |u::us=>if eqT t u=true then t::us else u::AI t us
def sG(t:Truth):AV:=.agg (bP 7 (rl t.rain))
def wE(t:Truth):AV:=.agg (bP 4 (fun q=>(eW (iK t q):Int)))
def kvT(t:Truth):AV×AV:=(sG t,wE t)
theorem WK(t u:Truth):iG (.agg (List.replicate 7 .i)) (sG t) (sG u)=some (eqT t u):=by
 have:=HA 7 (rl t.rain) (rl u.rain);simp only[sG,iG,this,eqT]
theorem DI(t:Truth):∀ ts:List Truth,kW (.agg (List.replicate 7 .i)) (sG t) (wE t) (ts.map kvT)=some ((AI t ts).map kvT)
 |[]=>rfl
 |u::us=>by
  have ih:=DI t us;simp only[List.map_cons,kW,kvT,WK,AI] at ih ⊢;cases h:eqT t u
  ·simp only[Bool.false_eq_true,if_false,List.map_cons,kvT];simp only[ih,Option.map_some]
  ·simp only[if_true,List.map_cons,kvT]
theorem IG{t:Truth}:∀ {ts:List Truth},(∀ u∈ts,eqT t u=false)->AI t ts=ts++[t]
 |[],_=>rfl
 |u::us,h=>by
  simp only[AI,h u (by simp),Bool.false_eq_true,if_false,List.cons_append];rw[IG fun w hw=>h w (by simp[hw])]
def AF(v:Farm)(bl c:List Int)(ts:List Truth):List Truth:=match gG v bl c with|some t=>AI t ts|none=>ts
theorem GG{v:Farm}{bl c:List Int}{t:Truth}(h:gG v bl c=some t):t.rain=c:=by
 simp only[gG] at h;split at h
 ·simp only[Option.some.injEq] at h;subst h;rfl
 ·cases h
theorem F4{v:Farm}{bl:List Int}{G:Nat}(hG:G<=7):∀ (cs:List (List Int)) (acc:List Truth),cs.Pairwise (·≠·)->(∀ c∈cs,c.length=G)->(∀ u∈acc,u.rain.length=G/\u.rain∉cs) ->
  cs.foldl (fun ts c=>AF v bl c ts) acc=acc++cs.filterMap (gG v bl)
 |[],acc,_,_,_=>by simp
 |c::cs,acc,hp,hl,ha=>by
  obtain⟨h1,h2⟩:=List.pairwise_cons.1 hp;rw[List.foldl_cons,List.filterMap_cons];cases ht:gG v bl c with
  |none =>
   simp only[AF,ht];exact F4 hG cs acc h2 (fun c hc=>hl c (by simp[hc])) fun u hu=>⟨(ha u hu).1,fun h=>(ha u hu).2 (by simp[h])⟩
  |some t =>
   have hr:=GG ht;have hcl:=hl c (by simp);have hnew:AI t acc=acc++[t]:=IG fun u hu=>by
    obtain⟨q1,q2⟩:=ha u hu;rw[eqT,VT (by rw[hr,hcl,q1]) (by rw[hr,hcl];exact hG),hr];simp only[decide_eq_false_iff_not];intro e;exact q2 (by simp[e])
   have e:AF v bl c acc=acc++[t]:=by simp only[AF,ht,hnew]
   rw[e,F4 hG cs (acc++[t]) h2 (fun c hc=>hl c (by simp[hc])) fun u hu=>?_]
   ·simp
   ·rcases List.mem_append.1 hu with hu|hu
    ·exact⟨(ha u hu).1,fun h=>(ha u hu).2 (by simp[h])⟩
    ·simp only[List.mem_singleton] at hu;subst hu;rw[hr];exact⟨hcl,fun h=>h1 c h rfl⟩
theorem KX{v:Farm}(hv:Vd v)(bl:List Int):(fP v.rain []).foldl (fun ts c=>AF v bl c ts) []=aO v bl:=by
 rw[F4 (G:=v.rain.length) hv.nra.2 _ _ (C4 _ _) (fun c hc=>by have:=yD _ _ _ hc;simpa using this) (by simp),D0];rfl
theorem U8(t:Truth):jB (sG t):=gL (mZ 7 _)
theorem V3(t:Truth):jB (wE t):=gL (mZ 4 _)
theorem YD(ts:List Truth)(k:Nat):aY k (.map (ts.map kvT)):=by
 simp only[aY];intro q hq;obtain⟨t,_,rfl⟩:=List.mem_map.1 hq;exact⟨AX (U8 t) k,AX (V3 t) k⟩
theorem Y8(σ τ:St)(F:ABlk)(ts:List Truth)(t:Truth):qE (.agg (List.replicate 7 .i)) (σ++(F::.map (ts.map kvT)::τ)) (.map (σ.length+1)) (sG t) (wE t)=some (σ++(F::.map ((AI t ts).map kvT)::τ)):=by
 have h1:(σ++(F::.map (ts.map kvT)::τ))[σ.length+1]? = some (.map (ts.map kvT)):=by rw[sO];rfl
 have h2:(σ++(F::.map (ts.map kvT)::τ)).set (σ.length+1) (.map ((AI t ts).map kvT))=σ++(F::.map ((AI t ts).map kvT)::τ):=by rw[pA];rfl
 simp only[qE,WK,h1,DI,Option.map_some,h2,Option.isSome_some];simp
theorem R3(v:Farm)(c bl:List Int):(fun q=>(eW (iK ⟨c,rR v c bl v.plots.length⟩ q):Int))=gP v c bl v.plots.length:=by
 funext q;simp only[iK,rR,gP];by_cases h:q<v.plots.length
 ·simp[h]
 ·simp[h,eW]
theorem M8(v:Farm)(c bl:List Int):((uK v c bl v.plots.length 0).2=true->gG v bl c=some ⟨c,rR v c bl v.plots.length⟩/\(uK v c bl v.plots.length 0).1=v.plots.length)/\((uK v c bl v.plots.length 0).2=false->gG v bl c=none):=by
 obtain⟨h1,h2⟩:=HV v c bl v.plots.length 0;have e:n9 v c bl v.plots.length=(uK v c bl v.plots.length 0).2:=by
  rw[h1,n9,rR,List.all_map]
  congr 1
  funext i;simp
 rw[vY,e];constructor
 ·intro h;rw[if_pos h];exact⟨rfl,by rw[h2 h];omega⟩
 ·intro h;rw[h];rfl
end Go.Am.Room.Fa
namespace Go.Am.Room.Fa
def xF:=zz @bR (zz @aH (zz @bS (zz @bQ (zz @aR (zz @cB (zz @cA (zz @cC (zz @List.length_append.{0} (zz @eM (zz @fV (zz @fU (zz @lV (zz @fT (zz @Nat.mul_one (zz @Int.toNat_natCast (zz @gT (zz @gZ (zz @hJ (zz @gR (zz @gS (zz @gW (zz @gY (zz @gV (zz @gX (zz @tQ (zz @t9 (@cN)))))))))))))))))))))))))))
def eB(σ:St)(v:Farm)(b:Nat)(ts:List Truth):St:=σ++[.cells (aB v),.map (ts.map kvT),.cells (db v b (σ.length+1))]
theorem nJ(σ:St)(v:Farm)(b:Nat)(ts:List Truth)(τ:St):eB σ v b ts++τ=σ++(.cells (aB v)::.map (ts.map kvT)::.cells (db v b (σ.length+1))::τ):=by simp[eB]
theorem H1(σ:St)(v:Farm)(b:Nat):ObjAt (eB σ v b) (db v b (σ.length+1)) (σ.length+2) (σ.length+3) :=
 ⟨fun ts=>by simp[eB],fun ts=>by rw[eB,lW];rfl,by omega⟩
theorem G9(σ:St)(p:Nat):AA T (.func 353 [] []) [.ptr p 0] σ (.func 467 [] [.ptr σ.length 0]) (σ++[.cells [.ptr p 0]]):=by
 refine .callf (.call (af:=a353) rfl (by simp[a353]) (eP (K:=fun j e σ1=>(j=none\/j=some .ret)/\Env.get e 2 = .func 467 [] [.ptr σ.length 0]/\σ1=σ++[.cells [.ptr p 0]]) ?_ fun o ho=>ho) fun o ho=>?_)
 ·try simp only[↓QA,QB,seval,xF,a353]
  try simp
 ·exact⟨ho.1,_,rfl,.inl ⟨ho.2.1,ho.2.2⟩⟩
theorem IL(σ:St)(v:Farm)(b:Nat)(bl:List Int)(hv:Vd v)(hb:ButIs b bl)(e:Env)(e5:Env.get e 5 = .ptr (σ.length+3) 0):
  mN (fun ts=>eB σ v b ts++([.cells [.ptr (σ.length+2) 0]]++[.cells [.ptr (σ.length+2) 0],.loop .ready none e [16] (.reg [⟨(some 6),.alloc [(.int .i64 0),(.int .i64 0),(.int .i64 0),(.int .i64 0),(.int .i64 0),(.int .i64 0),(.int .i64 0)],none⟩,⟨none,.store 7 (.t 6) (.t 16),none⟩]) yK]))
   (fun ts=>eB σ v b ts++([.cells [.ptr (σ.length+2) 0]]++[.cells [.ptr (σ.length+2) 0],.loop .done (some .ret) e [16] (.reg [⟨(some 6),.alloc [(.int .i64 0),(.int .i64 0),(.int .i64 0),(.int .i64 0),(.int .i64 0),(.int .i64 0),(.int .i64 0)],none⟩,⟨none,.store 7 (.t 6) (.t 16),none⟩]) yK]))
   (σ.length+3+1+1) (fun t=>[.agg (bP 7 (rl t))]) (RainOk v) (fun c ts=>(AF v bl c ts,true)):=by
 refine LG (H1 σ v b) (fun _=>[.cells [.ptr (σ.length+2) 0]]) (fun _=>[.cells [.ptr (σ.length+2) 0]]) 1 (fun _=>rfl) (fun _=>rfl) .ret e [16] (fun t=>[.agg (bP 7 (rl t))]) (fun _=>rfl) _ _ ?_;intro c hc ts τ;simp only[j5,Env.put];rw[nJ]
 (repeat (first|simp only[↓QA,QB,reduceLT,reduceIte,reduceEqDiff,reduceAdd,reduceLeDiff,reduceMul,Nat.reduceBEq,xF]|refine rd0 rfl ?_))
 refine⟨[.cells (bP 7 (rl c))],by simp[eB,aH],?_⟩;rw[nJ];obtain⟨hg1,hg2⟩:=M8 v c bl;have hfl:=fun σ' hp=>GN v hv b (σ.length+1) (σ.length+2) bl c hb hc σ' hp
 obtain⟨r,hr⟩:∃ r,uK v c bl v.plots.length 0=r:=⟨_,rfl⟩;rw[hr] at hg1 hg2;simp only[hr] at hfl;have hp:∀ (a0 a1:ABlk) (τ:St),aM (σ++(a0::a1::.cells (db v b (σ.length+1))::τ)) (σ.length+2)=some (db v b (σ.length+1)):=fun a0 a1 τ=>by rw[lW];rfl
 (repeat (first|simp only[↓QA,QB,reduceLT,reduceIte,reduceEqDiff,reduceAdd,reduceLeDiff,reduceMul,Nat.reduceBEq,xF,yK,e5]|refine rd0 rfl ?_))
 refine aT (hfl _ (hp _ _ _)) ?_;cases hr2:r.2
 ·have ht:=hg2 hr2;have ha:AF v bl c ts=ts:=by simp only[AF,ht]
  (repeat (first|simp only[↓QA,QB,reduceLT,reduceIte,reduceEqDiff,reduceAdd,reduceLeDiff,reduceMul,Nat.reduceBEq,xF]|refine rd0 rfl ?_))
  refine .inl ⟨[.cells (bP 7 (rl c)),.cells (bP 4 (gP v c bl r.1))],?_⟩;rw[ha];simp[eB,aH]
 ·obtain⟨ht,hr1⟩:=hg1 hr2;have ha:AF v bl c ts=AI ⟨c,rR v c bl v.plots.length⟩ ts:=by simp only[AF,ht]
  have hpm:∀ (F:ABlk) (τ:St),qE (.agg (List.replicate 7 .i)) (σ++(F::.map (ts.map kvT)::τ)) (.map (σ.length+1)) (.agg (bP 7 (rl c))) (.agg (bP 4 (gP v c bl v.plots.length)))=some (σ++(F::.map ((AI ⟨c,rR v c bl v.plots.length⟩ ts).map kvT)::τ)):=fun F τ=>by
   have:=Y8 σ τ F ts ⟨c,rR v c bl v.plots.length⟩;simp only[wE,R3,sG] at this;exact this
  rw[hr1]
  (repeat (first|simp only[↓QA,QB,reduceLT,reduceIte,reduceEqDiff,reduceAdd,reduceLeDiff,reduceMul,Nat.reduceBEq,xF,e5,hpm]|refine rd0 rfl ?_))
  refine .inl ⟨[.cells (bP 7 (rl c)),.cells (bP 4 (gP v c bl v.plots.length))],?_⟩;rw[ha];simp[eB,aH]
end Go.Am.Room.Fa
namespace Go.Am.Room.Fa
def xL:=zz @bR (zz @aH (zz @bS (zz @bQ (zz @aR (zz @cB (zz @cA (zz @cC (zz @List.length_append.{0} (zz @Nat.mul_one (@Int.toNat_natCast))))))))))
theorem MB(σ:St)(v:Farm)(b:Nat)(bl:List Int)(hv:Vd v)(hb:ButIs b bl)(e:Env)(e5:Env.get e 5 = .ptr (σ.length+3) 0)(e15:Env.get e 15 = .func 467 [] [.ptr (σ.length+3+1) 0])(K:KJ)(σ0:St)(hσ:σ0=eB σ v b []++([.cells [.ptr (σ.length+2) 0]]++[.cells [.ptr (σ.length+2) 0]]))(hT:∀ τ,K none e (eB σ v b (aO v bl)++(.cells [.ptr (σ.length+2) 0]::τ))):
  rK (K:=⟨K⟩) T (.rangeFunc (.t 15) [16] (.reg [⟨(some 6),.alloc [(.int .i64 0),(.int .i64 0),(.int .i64 0),(.int .i64 0),(.int .i64 0),(.int .i64 0),(.int .i64 0)],none⟩,⟨none,.store 7 (.t 6) (.t 16),none⟩]) yK) e σ0:=by
 subst hσ;have hy:=IL σ v b bl hv hb e e5;have hW:WFam (fun ts=>eB σ v b ts++([.cells [.ptr (σ.length+2) 0]]++[.cells [.ptr (σ.length+2) 0],.loop .ready none e [16] (.reg [⟨(some 6),.alloc [(.int .i64 0),(.int .i64 0),(.int .i64 0),(.int .i64 0),(.int .i64 0),(.int .i64 0),(.int .i64 0)],none⟩,⟨none,.store 7 (.t 6) (.t 16),none⟩]) yK])) v b (σ.length+1) (σ.length+2) (σ.length+3+1) (σ.length+3+1+2):=by
  refine⟨fun ts=>by simp[eB],fun ts τ=>?_,fun ts τ=>?_⟩
  ·rw[List.append_assoc,nJ,lW];rfl
  ·rw[List.append_assoc,nJ,show σ.length+3+1=σ.length+4 from rfl,lW];rfl
 have hrun:=GH hW (fun c ts=>(AF v bl c ts,true)) hy hv [];have hit:bK (fun c ts=>(AF v bl c ts,true)) (fP v.rain []) []=(aO v bl,true):=by
  rw[KU (fun _ _=>rfl)];simp only;rw[KX hv]
 rw[hit] at hrun;exact RF (H1 σ v b) (fun _=>[.cells [.ptr (σ.length+2) 0]]) (fun _=>[.cells [.ptr (σ.length+2) 0]]) 1 (fun _=>rfl) (fun _=>rfl) .ret e 15 [16] _ _ _ e15 (aO v bl,true) [] hrun K (fun τ _=>hT _) (fun τ h=>by cases h)
theorem FA(σ:St)(v:Farm)(b:Nat)(bl:List Int)(hv:Vd v)(hb:ButIs b bl):AA T (.func 224 [] []) [encFarm v,.int .i64 b] σ (.ptr (σ.length+2) 0) (eB σ v b (aO v bl)):=by
 have hlen:∀ ts,(eB σ v b ts).length=σ.length+3:=fun ts=>by simp[eB]
 refine .callf (.call (af:=a224) rfl (by simp[a224]) (Run.trim (R:=fun o=>o.j=some .ret/\Env.get o.env 4 = .ptr (σ.length+2) 0/\∃ τ,o.σ=eB σ v b (aO v bl)++τ)
   (Q:=fun o=>o.j=some .ret/\Env.get o.env 4 = .ptr (σ.length+2) 0/\o.σ=eB σ v b (aO v bl)) (eP (K:=fun j e σ1=>j=some .ret/\Env.get e 4 = .ptr (σ.length+2) 0/\∃ τ,σ1=eB σ v b (aO v bl)++τ) ?_ fun o ho=>ho) fun o ho=>?_) fun o ho=>?_)
 ·try simp only[↓QA,QB,seval,xL,a224]
  refine jH (G9 _ _) ?_;try simp only[↓QA,QB,seval,xL]
  refine MB σ v b bl hv hb _ ?_ ?_ _ _ ?_ fun τ=>?_
  ·try simp only[aD,QE,seval,xL]
  ·try simp only[aD,QE,seval,xL]
   try simp
  ·simp[eB,db,aH]
  ·rw[nJ];try simp only[↓QA,QB,seval,xL]
   exact⟨.cells [.ptr (σ.length+2) 0]::τ,by simp[eB,aH]⟩
 ·obtain⟨hj,h4,τ,hs⟩:=ho;refine⟨[(4,.ptr (σ.length+2) 0)],σ.length+3,⟨by omega,by rw[hs];simp[hlen],fun q hq=>?_,fun i hi=>?_⟩,hj,by simp[Env.get],?_⟩
  ·simp only[List.mem_singleton] at hq;subst hq;exact⟨h4.symm,by simp[okV]⟩
  ·rw[hs];by_cases h:i<σ.length
   ·refine .inl ⟨h,.inl ?_⟩;rw[nJ,List.getElem?_append_left h]
   ·refine .inr ?_;obtain⟨k,rfl⟩:∃ k,i=σ.length+k:=⟨i-σ.length,by omega⟩;rw[nJ,sO];have hk:k<3:=by omega
    match k,hk with
    |0,_=>exact⟨_,rfl,okVs_up _ (pX v).1⟩
    |1,_=>exact⟨_,rfl,YD _ _⟩
    |2,_=>exact⟨_,rfl,aJE v b (by omega)⟩
  ·simp only;rw[hs,<-hlen (aO v bl),List.take_left]
 ·exact⟨.inr ho.1,_,rfl,.inl ⟨ho.2.1,ho.2.2⟩⟩
end Go.Am.Room.Fa
namespace Go.Am.Room.Fa
def dM:=zz @bR (zz @aH (zz @bS (zz @bQ (zz @aR (zz @cB (zz @cA (zz @cC (zz @List.length_append.{0} (zz @Nat.mul_one (zz @Int.toNat_natCast (zz @eJ (zz @jZ (zz @gT (zz @gZ (zz @hJ (zz @gR (zz @gS (zz @gW (zz @gY (zz @gV (@gX)))))))))))))))))))))
def jK:List Int->Int
 |a::m::rest=>if inR a 0 m then jK rest else 7
 |_=>0
def RT(ns:List Int):AV:=.lit (ns.map (.int .i64)) true none
theorem tH(ns:List Int):RT ns = .lit (ns.map (.int .i64)) true none:=by simp only[RT]
theorem qW(ns:List Int)(σ:St):AA T (.func 93 [] []) [RT ns] σ (.func 233 [] [.ptr σ.length 0]) (σ++[.cells [RT ns]]):=by
 refine .callf (.call (af:=a93) rfl (by simp[a93]) (eP (K:=fun j e σ1=>(j=none\/j=some .ret)/\Env.get e 2 = .func 233 [] [.ptr σ.length 0]/\σ1=σ++[.cells [RT ns]]) ?_ fun o ho=>ho) fun o ho=>⟨ho.1,_,rfl,.inl ⟨ho.2.1,ho.2.2⟩⟩);try simp only[↓QA,QB,seval,dM,a93,tH]
 try simp
theorem nY(ns:List Int)(hn:ns.length<=100)(q:Nat)(σ:St)(hq:aM σ q=some [RT ns]):eK T (.func 233 [] [.ptr q 0]) [] σ (.int .i64 (jK ns)):=by
 refine cM (af:=a233) rfl (by simp[a233]) ?_;obtain⟨R,hR⟩:∃ R,jK ns=R:=⟨_,rfl⟩;have hql:=w5 hq;rw[hR];rw[tH] at hq
 (repeat (first|simp only[↓QA,QB,seval,dM,a233]|refine rd0 rfl ?_))
 refine b9 (S:=Nat) 0 (fun i=>jK (ns.drop i)=R/\i<=ns.length) (fun i=>ns.length-i) (fun i=>[(0,.ptr q 0),(2,.int .i64 i)]) (fun _=>σ) ⟨by simpa using hR,Nat.zero_le _⟩ rfl ?_ fun i hi=>?_
 ·try simp only[aD,QE,seval,dM]
  try simp
 ·obtain⟨hi,hil⟩:=hi;have hw1:IntKind.i64.wrap ((i:Int)+1)=((i+1:Nat):Int):=by rw[bL ⟨by omega,by omega⟩];omega
  have hw2:IntKind.i64.wrap ((i:Int)+2)=((i+2:Nat):Int):=by rw[bL ⟨by omega,by omega⟩];omega
  (repeat (first|simp only[↓QA,QB,seval,dM,WA,hq,hw1]|refine rd0 rfl ?_))
  refine aF (fun h=>?_) fun h=>?_
  ·have hi2:i+1<ns.length:=by
    have h0:((i+1:Nat):Int)<(ns.length:Int):=by simpa using h
    omega
   have hi1:i<ns.length:=by omega
   rw[List.drop_eq_getElem_cons hi1,List.drop_eq_getElem_cons hi2,jK] at hi
   (repeat (first|simp only[↓QA,QB,seval,dM,hq,hw1,hi1,hi2]|refine rd0 rfl ?_))
   ((first|refine bE (gN 0 ns[i+1] [ns[i]] (by simp)) (by simp[clr,clrs,aG]) (by simp[okV,okVs]) ?_|refine fZ (gN 0 ns[i+1] [ns[i]] (by simp)) (by simp[clr,clrs,aG]) (by simp[okV,okVs]) ?_);(repeat (first|simp only[↓QA,QB,seval,dM,beyond1,hq,hw1,hi1,hi2]|refine rd0 rfl ?_)))
   cases hb:inR ns[i] 0 ns[i+1]
   ·rw[hb] at hi;simp only[Bool.false_eq_true,if_false] at hi;subst hi
    (repeat (first|simp only[↓QA,QB,seval,dM]|refine rd0 rfl ?_))
    refine cZ [] (by first|rfl|simp) ?_;try simp only[QS,QC,seval,dM]
   ·rw[hb] at hi;simp only[if_true] at hi
    (repeat (first|simp only[↓QA,QB,seval,dM,hw2]|refine rd0 rfl ?_))
    refine⟨i+2,⟨hi,by omega⟩,by omega,?_⟩;try simp only[aD,QE,seval,dM,hw2,hql]
    try simp
  ·have hi2:¬i+1<ns.length:=by
    have h0:¬((i+1:Nat):Int)<(ns.length:Int):=by simpa using h
    omega
   have hz:jK (ns.drop i)=0:=by
    rcases Nat.lt_or_ge i ns.length with hlt|hge
    ·rw[List.drop_eq_getElem_cons hlt,List.drop_eq_nil_of_le (by omega)];rfl
    ·rw[List.drop_eq_nil_of_le hge];rfl
   rw[hz] at hi;subst hi
   (repeat (first|simp only[↓QA,QB,seval,dM]|refine rd0 rfl ?_))
   refine cZ [] (by first|rfl|simp) ?_;try simp only[QS,QC,seval,dM]
def qZ:Int:=-1099511627776
def iF(v:Farm)(plot eo:Int):Int:=if (check v).2.2=0 then (if plot≠qZ/\inR plot 0 ((v.plots.length:Int)-1)=false then 4 else eo) else (check v).2.2
theorem IZ(σ τ:St)(v:Farm)(b:Nat)(ts:List Truth)(m:Nat)(hm:m=σ.length+1):gO 2 (σ++(.cells (aB v)::.map (ts.map kvT)::τ)) (.map m)=some ts.length:=by
 subst hm;have:(σ++(ABlk.cells (aB v)::.map (ts.map kvT)::τ))[σ.length+1]? = some (.map (ts.map kvT)):=by rw[sO];rfl
 simp only[gO,this,List.length_map]
def aES(E:Int)(σ σ':St)(a b:AV)(σ1:St):Prop:=(E≠0/\a = .nilPtr/\b = .int .i64 E/\∃ τ,σ1=σ++τ)\/(E=0/\a = .ptr (σ.length+3) 0/\b = .int .i64 0/\σ1=σ')
theorem tU(v:Farm)(hf:Fits v)(plot eo:Int)(F:AV)(σ:St)(hF:∀ τ,eK T F [] (σ++τ) (.int .i64 eo)):
  Run T (.callv (.func 92 [] []) [encFarm v,.int .i64 plot,F] σ) fun o =>
   (dJ v (iF v plot eo)≠0/\o.v = .tuple [.nilPtr,.int .i64 (dJ v (iF v plot eo))]/\o.σ=σ) \/
   (dJ v (iF v plot eo)=0/\o.v = .tuple [.ptr (σ.length+3) 0,.int .i64 0]/\o.σ=eB (σ++[.cells (aB v)]) v 0 (aO v [])):=by
 have hfp:=hf.plots;obtain⟨E,hE⟩:∃ E,dJ v (iF v plot eo)=E:=⟨_,rfl⟩;rw[hE];refine .callf (.call (af:=a92) rfl (by simp[a92]) (eP (K:=fun j e σ1=>(j=none\/j=some .ret)/\aES E σ (eB (σ++[.cells (aB v)]) v 0 (aO v [])) (Env.get e 6) (Env.get e 7) σ1) ?_ fun o ho=>ho) fun o ho=>?_)
 ·have hws:IntKind.i64.wrap ((v.plots.length:Int)-1)=(v.plots.length:Int)-1:=bL ⟨by omega,by omega⟩;try simp only[↓QA,QB,seval,dM,a92]
  (refine aE (K0 v hf) rfl dd ?_;try simp only[↓QA,QB,seval,dM,enc3])
  cases h0:((check v).2.2==0)
  ·have h0':(check v).2.2≠0:=by simpa using h0
   have:E=(check v).2.2:=by rw[<-hE,iF,if_neg h0',dJ,if_neg h0']
   try simp only[↓QA,QB,seval,dM,h0]
   exact .inl ⟨by rw[this];exact h0',rfl,by rw[this],_,rfl⟩
  ·have h0':(check v).2.2=0:=by simpa using h0
   have hv:=vd_of_check h0';try simp only[↓QA,QB,seval,dM,h0]
   by_cases hb:plot≠qZ/\inR plot 0 ((v.plots.length:Int)-1)=false
   ·have:E=4:=by rw[<-hE,iF,if_pos h0',if_pos hb];rfl
    have h1:(plot==-1099511627776)=false:=by have:=hb.1;simpa[qZ] using this
    try simp only[↓QA,QB,seval,dM,h1,hws]
    (refine bE (gN 0 ((v.plots.length:Int)-1) [plot] (by simp)) (by simp[clr,clrs,aG]) (by simp[okV,okVs]) ?_;try simp only[↓QA,QB,seval,dM,beyond1,hb.2,h1])
    exact .inl ⟨by omega,rfl,by rw[this],_,rfl⟩
   have ha:iF v plot eo=eo:=by rw[iF,if_pos h0',if_neg hb]
   cases h1:(plot==-1099511627776)
   case' true =>
    try simp only[↓QA,QB,seval,dM,h1]
   case' false =>
    have h1':plot≠qZ:=by simpa[qZ] using h1
    have h2:inR plot 0 ((v.plots.length:Int)-1)=true:=by
     cases h:inR plot 0 ((v.plots.length:Int)-1)
     ·exact absurd ⟨h1',h⟩ hb
     ·rfl
    try simp only[↓QA,QB,seval,dM,h1,hws]
    (refine bE (gN 0 ((v.plots.length:Int)-1) [plot] (by simp)) (by simp[clr,clrs,aG]) (by simp[okV,okVs]) ?_;try simp only[↓QA,QB,seval,dM,beyond1,h2,h1])
   all_goals
    rw[ha] at hE;refine aT (hF _) ?_;cases h3:(eo==0)
    ·have h3':eo≠0:=by simpa using h3
     have:E=eo:=by rw[<-hE,dJ,if_neg h3']
     try simp only[↓QA,QB,seval,dM,h3]
     exact .inl ⟨by rw[this];exact h3',rfl,by rw[this],_,rfl⟩
    ·have h3':eo=0:=by simpa using h3
     subst h3';have hlk:=fun σ'=>FA σ' v 0 [] hv aNZ
     try simp only[↓QA,QB,seval,dM,h3]
     refine jH (hlk _) ?_;rw[eB];have hn1:σ.length+1+2=σ.length+3:=rfl;have hn2:σ.length+1+1=σ.length+2:=rfl;have hll:=IZ (σ++[.cells (aB v)]) [.cells (db v 0 (σ.length+1+1))] v 0 (aO v []) (σ.length+1+1) (by simp);simp only[aH,List.append_assoc,List.cons_append,List.nil_append,hn2] at hll;cases hg:(((aO v []).length:Int)==0)
     ·have hne:(aO v []).isEmpty=false:=by
       cases h:aO v [] with
       |nil=>rw[h] at hg;cases hg
       |cons a b=>rfl
      have:E=0:=by rw[<-hE,dJ,if_pos rfl,hne];rfl
      try simp only[↓QA,QB,seval,dM,hn1,hn2,hll,hg]
      exact .inr ⟨this,rfl,rfl,by simp[eB,aH]⟩
     ·have hne:(aO v []).isEmpty=true:=by
       cases h:aO v [] with
       |nil=>rfl
       |cons a b=>rw[h] at hg;simp at hg;omega
      have:E=8:=by rw[<-hE,dJ,if_pos rfl,hne];rfl
      try simp only[↓QA,QB,seval,dM,hn1,hn2,hll,hg]
      exact .inl ⟨by omega,rfl,by rw[this],_,rfl⟩
 ·obtain⟨hj,hq⟩:=ho;rcases hq with⟨h1,h2,h3,τ,h4⟩|⟨h1,h2,h3,h4⟩
  ·refine⟨hj,.tuple [.nilPtr,.int .i64 E],?_,?_⟩
   ·show some (AV.tuple [_,_])=_
    rw[h2,h3]
   ·refine .inr ⟨20,.tuple [.nilPtr,.int .i64 E],.tuple [.nilPtr,.int .i64 E],by simp[snap,snaps],.inl rfl,fun i hi=>.inl ?_,by rw[h4];simp,.inl ⟨h1,rfl,by simp[h4]⟩⟩;rw[h4,List.getElem?_append_left hi]
  ·refine⟨hj,.tuple [.ptr (σ.length+3) 0,.int .i64 0],?_,.inl (.inr ⟨h1,rfl,h4⟩)⟩;show some (AV.tuple [_,_])=_
   rw[h2,h3]
end Go.Am.Room.Fa
namespace Go.Am.Room
def tR(σ:St):AV->Option (AV×St)
 |.map id=>match σ[id]? with|some (.map es)=>some (.ptr σ.length 0,σ++[.miter id es.length (List.range es.length) none])|_=>none
 |_=>none
def uT(σ:St):AV->Option AV
 |.ptr id 0 =>
  match σ[id]? with
  |some (.miter m n _ (some i)) =>
   match σ[m]? with
   |some (.map es)=>if es.length=n then (es[i]?).map fun p=>.tuple [p.1,p.2] else none
   |_=>none
  |_=>none
 |_=>none
theorem xM(x:AOpd)(e:Env)(σ:St):aop (.mrange x) e σ=tR σ (x.ev e):=by
 simp only[aop,tR];cases x.ev e<;>rfl
theorem xG(x:AOpd)(d:Option Nat)(os:List AOper)(e:Env)(σ:St)(K:Env->St->Prop):aL T (⟨d,.mrange x,none⟩::os) e σ K=bO (K:=⟨fun v σ'=>aL T os (Env.put e d v) σ' K⟩) (aop (.mrange x) e σ):=by simp only[aL,fR,bO]
theorem v5{σ:St}{m:Nat}{es:List (AV×AV)}(h:σ[m]? = some (.map es)):tR σ (.map m)=some (.ptr σ.length 0,σ++[.miter m es.length (List.range es.length) none]):=by simp only[tR,h]
theorem A7(x:AOpd)(e:Env)(σ:St):aop (.entry x) e σ=(uT σ (x.ev e)).map (·,σ):=by
 simp only[aop,uT];cases x.ev e<;>try rfl
 rename_i id off;cases off with
 |succ o=>rfl
 |zero =>
  simp only;cases σ[id]? with
  |none=>rfl
  |some b =>
   cases b<;>try rfl
   rename_i m n left last;cases last with
   |none=>rfl
   |some i =>
    simp only;cases σ[m]? with
    |none=>rfl
    |some b =>
     cases b<;>try rfl
     rename_i es;simp only;by_cases h:es.length=n
     ·simp only[h,if_true];cases es[i]?<;>rfl
     ·simp only[h,if_false];rfl
theorem AT(x:AOpd)(d:Option Nat)(os:List AOper)(e:Env)(σ:St)(K:Env->St->Prop):aL T (⟨d,.entry x,none⟩::os) e σ K=bO (K:=⟨fun v σ'=>aL T os (Env.put e d v) σ' K⟩) (aop (.entry x) e σ):=by simp only[aL,fR,bO]
theorem HM{σ:St}{id m n i:Nat}{left:List Nat}{es:List (AV×AV)}{k v:AV}(h1:σ[id]? = some (.miter m n left (some i)))(h2:σ[m]? = some (.map es))(h3:es.length=n)(h4:es[i]? = some (k,v)):uT σ (.ptr id 0)=some (.tuple [k,v]):=by
 simp only[uT,h1,h2,h3,h4,if_true,Option.map_some]
section
variable {S A:Type} (ts:List A) (kv:A->AV×AV) (m N:Nat) (P:List A->S->Prop) (IE:S->Env) (B:S->St)
def JX(t:A)(done:List A)(s:S)(left:List Nat)(i:Nat)(K:KJ):KJ :=
 B9 (S:=Bool×S) (fun a=>a.1=false/\P (t::done) a.2) (fun a=>if a.1=true then 1 else 0) (fun a=>IE a.2) (fun a=>B a.2++[.miter m ts.length left (some i)]) (true,s) K
def aIQ(d d2 x j:Nat)(body:ACode):ACode:=.seq (.reg [⟨some d,.mnext (.t x),none⟩,⟨some d2,.ext (.t d) 0,none⟩]) (.seq (.cond (.t d2) .skip (.jump (.exit j))) body)
theorem aPE{d d2 x j:Nat}{body:ACode}{K:KJ}(hN:∀ s,(B s).length=N)(hm:∀ s,(B s)[m]? = some (.map (ts.map kv)))(hx:∀ s,Env.get (IE s) x = .ptr N 0)(step:∀ done s t i left,P done s->t∈ts->ts[i]? = some t->wp T body ((d2,.bool true)::(d,.tuple [.bool true,(kv t).1,(kv t).2])::IE s) (B s++[.miter m ts.length left (some i)]) (JX ts m P IE B t done s left i K))(fin:∀ done s left last,P done s->(∀ t,t∈done↔t∈ts)->K (some (.exit j)) ((d2,.bool false)::(d,.tuple [.bool false])::IE s) (B s++[.miter m ts.length left last])):
  ∀ n left last done s,left.length=n->(∀ t∈done,t∈ts)->(∀ i t,ts[i]? = some t->i∈left\/t∈done)->P done s ->
   LN T (.loop (aIQ d d2 x j body)) (IE s) (B s++[.miter m ts.length left last]) K:=by
 intro n
 induction n using Nat.strongRecOn with
 |_ n ih =>
  intro left last done s hl hdone hcov hP;have hml:m<N:=by
   have:=hm s;rw[<-hN s];by_cases h:m<(B s).length
   ·exact h
   ·rw[List.getElem?_eq_none (by omega)] at this;cases this
  have hmap:∀ (b:ABlk),(B s++[b])[m]? = some (.map (ts.map kv)):=fun b=>by
   rw[List.getElem?_append_left (by rw[hN];exact hml)];exact hm s
  have hit:∀ (b:ABlk),(B s++[b])[N]? = some b:=fun b=>by
   rw[List.getElem?_append_right (by rw[hN];exact Nat.le_refl _),hN,Nat.sub_self];rfl
  have hset:∀ (b c:ABlk),(B s++[b]).set N c=B s++[c]:=fun b c=>by
   rw[List.set_append_right _ _ (by rw[hN];exact Nat.le_refl _),hN,Nat.sub_self];rfl
  have hgx:AOpd.ev (IE s) (.t x) = .ptr N 0:=by rw[O7];exact hx s
  have h1:Run T (.code (aIQ d d2 x j body) (IE s) (B s++[.miter m ts.length left last])) fun o =>
    (o.j=none/\∃ i t s',i∈left/\ts[i]? = some t/\P (t::done) s'/\o.env=IE s'/\o.σ=B s'++[.miter m ts.length (left.filter (·≠i)) (some i)])\/(o.j≠none/\K o.j o.env o.σ):=by
   refine .seq (R:=fun o=>o.j=none/\((left=[]/\o.env=(d2,.bool false)::(d,.tuple [.bool false])::IE s/\o.σ=B s++[.miter m ts.length left last]) \/
     ∃ i t,i∈left/\ts[i]? = some t/\o.env=(d2,.bool true)::(d,.tuple [.bool true,(kv t).1,(kv t).2])::IE s/\o.σ=B s++[.miter m ts.length (left.filter (·≠i)) (some i)]))
    (.reg (.stepm (x:=.t x) rfl rfl hgx (hit _) (hmap _) (by simp) (fun h0=>?_) fun i k v hi hk=>?_)) (fun o ho _=>?_) (fun o ho hj=>absurd ho.1 hj)
   ·refine .step (v:=.bool false) (σ':=B s++[.miter m ts.length left last]) rfl (by simp[aop,AOpd.ev,Env.put,Env.get]) (.nil ⟨rfl,.inl ⟨h0,rfl,rfl⟩⟩)
   ·rw[hset];rw[List.getElem?_map] at hk;cases ht:ts[i]? with
    |none=>rw[ht] at hk;cases hk
    |some t =>
     rw[ht] at hk;simp only[Option.map_some,Option.some.injEq] at hk;refine .step (v:=.bool true) (σ':=B s++[.miter m ts.length (left.filter (·≠i)) (some i)]) rfl (by simp[aop,AOpd.ev,Env.put,Env.get]) (.nil ⟨rfl,.inr ⟨i,t,hi,ht,?_,rfl⟩⟩);rw[hk];rfl
   ·obtain⟨hj,⟨h0,he,hs⟩|⟨i,t,hi,ht,he,hs⟩⟩:=ho
    ·rw[he,hs];refine .seq (R:=fun o=>o.j=some (.exit j)/\K o.j o.env o.σ) (.cond false (by simp[AOpd.ev,Env.get]) (.jump ⟨rfl,?_⟩)) (fun o ho hn=>by rw[ho.1] at hn;cases hn) fun o ho hj=>.inr ⟨hj,ho.2⟩
     refine fin done s left last hP fun t=>⟨hdone t,fun htm=>?_⟩
     obtain⟨i,hi,rfl⟩:=List.getElem_of_mem htm;rcases hcov i ts[i] (List.getElem?_eq_getElem hi) with h|h
     ·rw[h0] at h;cases h
     ·exact h
    ·rw[he,hs];refine .seq (R:=fun o=>o.j=none/\o.env=(d2,.bool true)::(d,.tuple [.bool true,(kv t).1,(kv t).2])::IE s/\o.σ=B s++[.miter m ts.length (left.filter (·≠i)) (some i)]) (.cond true (by simp[AOpd.ev,Env.get]) (.skip ⟨rfl,rfl,rfl⟩)) (fun o ho _=>?_) fun o ho hj=>absurd ho.1 hj
     rw[ho.2.1,ho.2.2];have hst:=step done s t i (left.filter (·≠i)) hP (List.mem_of_getElem? ht) ht;refine .trim2 (eP hst fun o ho=>ho) fun o ho=>?_
     cases hj:o.j with
     |none =>
      rw[hj,JX,LO] at ho;obtain⟨⟨b,s'⟩,⟨h1,h2⟩,_,h3⟩:=ho;exact .inr ⟨_,_,HO h3,.inl ⟨rfl,i,t,s',hi,ht,h2,rfl,rfl⟩⟩
     |some j =>
      rw[hj,JX,YF] at ho;exact .inl (.inr ⟨by simp,ho⟩)
  refine .loop h1 (fun o ho hj=>?_) fun o ho hj=>?_
  ·rcases ho with⟨_,i,t,s',hi,ht,hP',q3,q4⟩|⟨q1,_⟩
   ·rw[q3,q4];refine ih (left.filter (·≠i)).length ?_ _ _ (t::done) s' rfl ?_ ?_ hP'
    ·rw[<-hl];refine List.length_filter_lt_length_iff_exists.2 ⟨i,hi,by simp⟩
    ·intro u hu;rcases List.mem_cons.1 hu with rfl|hu
     ·exact List.mem_of_getElem? ht
     ·exact hdone u hu
    ·intro k u hk;by_cases e:k=i
     ·subst e;rw[ht] at hk;cases hk;exact .inr (by simp)
     ·rcases hcov k u hk with h|h
      ·exact .inl (by rw[List.mem_filter];exact⟨h,by simpa using e⟩)
      ·exact .inr (List.mem_cons_of_mem _ h)
   ·exact absurd hj q1
  ·rcases ho with⟨q,_⟩|⟨_,q⟩
   ·exact absurd q hj
   ·exact q
theorem aBP{d d2 x j:Nat}{body:ACode}{e:Env}{σ:St}{K:KJ}(s0:S)(hN:∀ s,(B s).length=N)(hm:∀ s,(B s)[m]? = some (.map (ts.map kv)))(hx:∀ s,Env.get (IE s) x = .ptr N 0)(hP:P [] s0)(hσ:σ=B s0++[.miter m ts.length (List.range ts.length) none])(hE:EqW e (IE s0))(step:∀ done s t i left,P done s->t∈ts->ts[i]? = some t->wp T body ((d2,.bool true)::(d,.tuple [.bool true,(kv t).1,(kv t).2])::IE s) (B s++[.miter m ts.length left (some i)]) (JX ts m P IE B t done s left i K))(fin:∀ done s left last,P done s->(∀ t,t∈done↔t∈ts)->K (some (.exit j)) ((d2,.bool false)::(d,.tuple [.bool false])::IE s) (B s++[.miter m ts.length left last])):
  rK (K:=⟨K⟩) T (.loop (aIQ d d2 x j body)) e σ:=by
 subst hσ;refine .weak (BB hE) (aPE ts kv m N P IE B hN hm hx step fin _ _ _ [] s0 rfl (by simp) (fun i t ht=>.inl ?_) hP);rw[List.mem_range];by_cases h:i<ts.length
 ·exact h
 ·rw[List.getElem?_eq_none (by omega)] at ht;cases ht
end
end Go.Am.Room
namespace Go.Am.Room.Fa
def i9:=zz @bR (zz @aH (zz @bS (zz @bQ (zz @aR (zz @cB (zz @cA (zz @cC (zz @List.length_append.{0} (zz @Nat.mul_one (zz @Int.toNat_natCast (zz @eJ (zz @jZ (zz @gT (zz @gZ (zz @hJ (zz @gR (zz @gS (zz @gW (zz @gY (zz @gV (zz @gX (zz @xM (zz @xG (zz @A7 (zz @AT (zz @eM (zz @fV (zz @fU (zz @lV (zz @fT (zz @qU (@uZ))))))))))))))))))))))))))))))))
def yY(z s:Span)(l:List Int):Prop:=(l=[]->s=z)/\(l≠[]->s.lo∈l/\s.hi∈l/\∀ x∈l,s.lo<=x/\x<=s.hi)
def mm(s:Span)(x:Int):Span:=⟨min s.lo x,max s.hi x⟩
theorem O6{z s:Span}{l:List Int}{x:Int}(h:yY z s l)(hx:x<=z.lo/\z.hi<=x):yY z (mm s x) (x::l):=by
 refine⟨fun h=>(by cases h),fun _=>?_⟩;by_cases hl:l=[]
 ·have:=h.1 hl;subst this;subst hl;have e1:min s.lo x=x:=by omega
  have e2:max s.hi x=x:=by omega
  simp only[mm,e1,e2];refine⟨by simp,by simp,fun y hy=>?_⟩;simp at hy;omega
 ·obtain⟨a,b,c⟩:=h.2 hl;simp only[mm];refine⟨?_,?_,fun y hy=>?_⟩
  ·by_cases h1:s.lo<=x
   ·rw[show min s.lo x=s.lo by omega];exact List.mem_cons_of_mem _ a
   ·rw[show min s.lo x=x by omega];simp
  ·by_cases h1:x<=s.hi
   ·rw[show max s.hi x=s.hi by omega];exact List.mem_cons_of_mem _ b
   ·rw[show max s.hi x=x by omega];simp
  ·rcases List.mem_cons.1 hy with rfl|hy
   ·omega
   ·have:=c y hy;omega
theorem xQ{z s:Span}{l k:List Int}(h:yY z s l)(hk:∀ x,x∈l↔x∈k):yY z s k:=by
 have hn:l=[]↔k=[]:=by
  constructor
  ·intro e;cases k with
   |nil=>rfl
   |cons a b=>have:=(hk a).2 (by simp);rw[e] at this;cases this
  ·intro e;cases l with
   |nil=>rfl
   |cons a b=>have:=(hk a).1 (by simp);rw[e] at this;cases this
 refine⟨fun e=>h.1 (hn.2 e),fun e=>?_⟩;obtain⟨a,b,c⟩:=h.2 fun e2=>e (hn.1 e2)
 exact⟨(hk _).1 a,(hk _).1 b,fun x hx=>c x ((hk x).2 hx)⟩
theorem O5{z s:Span}{l:List Int}(h:yY z s l)(hl:l≠[]):s=rE l:=by
 obtain⟨a,b,c⟩:=h.2 hl;obtain⟨d,e,f⟩:=vH hl;have h1:=c _ d;have h2:=c _ e;have h3:=f _ a;have h4:=f _ b;cases s;cases hs:rE l;rw[hs] at h1 h2 h3 h4;simp only at h1 h2 h3 h4
 congr<;>omega
theorem X1(z:Span):yY z z []:=⟨fun _=>rfl,fun h=>absurd rfl h⟩
structure KOk (v:Farm) (t:Truth):Prop where
 tok:TOk v t
 lst:∀ p,p<v.plots.length->lst v.rain.length (eW (iK t p))=iK t p
theorem CO{v:Farm}(hv:Vd v){but:List Int}{t:Truth}(h:t∈aO v but):KOk v t:=by
 refine⟨BN hv h,fun p hp=>?_⟩;have e:iK t p=bC v p t.rain but:=by simp[iK,(u0.1 h).2.1,hp]
 rw[e];exact K6 hv hp _ _
structure KnownAt (σ:St) (v:Farm) (b m p:Nat) (ts:List Truth):Prop where
 obj:aM σ p=some (db v b m)
 map:σ[m]? = some (.map (ts.map kvT))
theorem KnownAt.pl{σ:St}{v:Farm}{b m p:Nat}{ts:List Truth}(h:KnownAt σ v b m p ts):p<σ.length:=w5 h.obj
theorem KnownAt.ml{σ:St}{v:Farm}{b m p:Nat}{ts:List Truth}(h:KnownAt σ v b m p ts):m<σ.length:=by
 by_cases hm:m<σ.length
 ·exact hm
 ·have:=h.map;rw[List.getElem?_eq_none (by omega)] at this;cases this
theorem KnownAt.map1{σ:St}{v:Farm}{b m p:Nat}{ts:List Truth}(h:KnownAt σ v b m p ts)(τ:St):(σ++τ)[m]? = some (.map (ts.map kvT)):=by rw[List.getElem?_append_left h.ml];exact h.map
theorem zR{σ:St}{v:Farm}{b m p:Nat}{ts:List Truth}(h:KnownAt σ v b m p ts){t:Truth}{i:Nat}(ht:ts[i]? = some t)(left:List Nat)(a:ABlk)(τ:St):
  uT (σ++(a::.miter m ts.length left (some i)::τ)) (.ptr (σ.length+1) 0)=some (.tuple [sG t,wE t]):=by
 refine HM (es:=ts.map kvT) (by rw[sO];rfl) (h.map1 _) (by simp) ?_;rw[List.getElem?_map,ht];rfl
theorem qS(v:Farm)(hv:Vd v)(ts:List Truth)(hts:∀ t∈ts,KOk v t)(hne:ts≠[])(b m p:Nat)(σ:St)(hK:KnownAt σ v b m p ts)(P d:Nat)(hP:P<v.plots.length)(hd:d<=v.rain.length):
  eK T (.func 94 [] []) [.ptr p 0,.int .i64 P,.int .i64 d] σ (cT (jV ts P d)):=by
 refine cM (af:=a94) rfl (by simp[a94]) ?_;have hnr:=hv.nra;have hnp:=hv.npl;have hpl:=hK.pl;have hml:=hK.ml;have h0:=fun τ=>pR hK.obj τ
 have hmr:=fun τ=>v5 (hK.map1 τ)
 simp only[List.length_map] at hmr;have hp2:p<σ.length+2:=by omega
 have hm2:m<σ.length+2:=by omega
 have i4:(0:Int)<=(P:Int)/\(P:Int)<((4:Nat):Int):=⟨by omega,by omega⟩
 (repeat (first|simp only[↓QA,QB,reduceLT,reduceIte,reduceEqDiff,reduceAdd,reduceLeDiff,reduceMul,Nat.reduceBEq,i9,a94,h0,hmr]|refine rd0 rfl ?_))
 refine aBP (S:=Span) ts kvT m (σ.length+1) (fun done s=>yY ⟨31,-1⟩ s (dC done P d)) (fun _=>[(0,.ptr p 0),(1,.int .i64 P),(2,.int .i64 d),(6,.ptr σ.length 0),(17,.ptr (σ.length+1) 0)])
  (fun s=>σ++[.cells [.int .i64 s.lo,.int .i64 s.hi]]) ⟨31,-1⟩ (fun s=>by simp) (fun s=>hK.map1 _) (fun s=>by simp[Env.get]) (X1 _) (by simp) ?_ (fun done s t i left hs ht hti=>?_) fun done s left last hs hdone=>?_
 ·try simp only[aD,QE,reduceLT,reduceIte,reduceEqDiff,reduceAdd,reduceLeDiff,reduceMul,Nat.reduceBEq,i9]
  try simp
 ·have hent:=zR hK hti left;unfold JX;obtain⟨htk,hlst⟩:=hts t ht;have hfl:=htk.fl P hP;have hlst:=hlst P hP;have hsb:eW (iK t P)<2^7:=AZ fun x hx=>by have:=hfl.2.2 x hx;omega
  have hge:=iP 4 (fun q=>(eW (iK t q):Int)) (show P<4 by omega);have hnum:=kU (eW (iK t P)) v.rain.length (by omega) (by omega);rw[hlst] at hnum;have hfull:=fun (H:Nat) (τ:St)=>EO (.ptr p 0) (rl t.rain) H d (uF hv htk.rain) (by omega) τ
  have hst:∀ x,x∈dC (t::done) P d↔x∈(iK t P).map (uI t d)\/x∈dC done P d:=fun x=>by
   rw[dC,List.flatMap_cons,List.mem_append];rfl
  obtain⟨F,hF⟩:∃ F,iK t P=F:=⟨_,rfl⟩;rw[hF] at hfl hnum hst;simp only[hF] at hge;obtain⟨bb,hbb⟩:∃ bb:Nat,eW F=bb:=⟨_,rfl⟩;rw[hbb] at hnum;simp only[hbb] at hge
  (repeat (first|simp only[↓QA,QB,reduceLT,reduceIte,reduceEqDiff,reduceAdd,reduceLeDiff,reduceMul,Nat.reduceBEq,i9,hent,h0,kvT,sG,wE,i4,Nat.zero_add,hge]|refine rd0 rfl ?_))
  ((first|refine aE (hnum) rfl dd ?_|refine aN (hnum) rfl dd ?_);(repeat (first|simp only[↓QA,QB,reduceLT,reduceIte,reduceEqDiff,reduceAdd,reduceLeDiff,reduceMul,Nat.reduceBEq,i9,hent,h0,kvT,sG,wE,i4,Nat.zero_add,hge,aG]|refine rd0 rfl ?_)))
  refine b9 (S:=Nat×Span) (0,s) (fun a=>a.1<=F.length/\yY ⟨31,-1⟩ a.2 ((F.take a.1).map (uI t d)++dC done P d)) (fun a=>F.length-a.1)
   (fun a=>[(0,.ptr p 0),(1,.int .i64 P),(2,.int .i64 d),(6,.ptr σ.length 0),(7,.ptr (σ.length+2) 0),(17,.ptr (σ.length+1) 0),(32,aG F),(33,.int .i64 F.length),(34,.int .i64 a.1)])
   (fun a=>σ++[.cells [.int .i64 a.2.lo,.int .i64 a.2.hi],.miter m ts.length left (some i),.cells (bP 7 (rl t.rain)),.cells (bP 4 (fun q=>(eW (iK t q):Int)))]) ⟨Nat.zero_le _,by simpa using hs⟩ (by simp) ?_ fun a ha=>?_
  ·try simp only[aD,QE,reduceLT,reduceIte,reduceEqDiff,reduceAdd,reduceLeDiff,reduceMul,Nat.reduceBEq,i9,aG]
   try simp
  ·obtain⟨k,s⟩:=a;obtain⟨hk,hmm⟩:=ha;simp only at hk hmm
   (repeat (first|simp only[↓QA,QB,reduceLT,reduceIte,reduceEqDiff,reduceAdd,reduceLeDiff,reduceMul,Nat.reduceBEq,i9,aCP,aG]|refine rd0 rfl ?_))
   refine aF (fun h=>?_) fun h=>?_
   ·have hk1:k<F.length:=by simpa using h
    have hwk:=bJ hk1 (by omega);have hm:=hfl.2.2 _ (List.getElem_mem hk1);obtain⟨H,hH⟩:∃ H:Nat,F[k]=(H:Int):=⟨F[k].toNat,by omega⟩;have hfu:=hfull H;have hx:pts (rl t.rain) H d=uI t d H:=by simp[uI,BK]
    have hxb:=HH hv htk hd (H:Int);rw[hx] at hfu;obtain⟨x,hxe⟩:∃ x,uI t d H=x:=⟨_,rfl⟩;rw[hxe] at hxb;simp only[hxe] at hfu;have hnx:yY ⟨31,-1⟩ (mm s x) ((F.take (k+1)).map (uI t d)++dC done P d):=by
     refine xQ (O6 hmm (by simp only;omega)) fun y=>?_
     rw[List.take_succ_eq_append_getElem hk1,List.map_append,List.map_cons,List.map_nil,hH,hxe];simp only[List.mem_cons,List.mem_append,List.not_mem_nil,or_false];constructor
     ·rintro (h|h|h)
      ·exact .inl (.inr h)
      ·exact .inl (.inl h)
      ·exact .inr h
     ·rintro ((h|h)|h)
      ·exact .inr (.inl h)
      ·exact .inl h
      ·exact .inr (.inr h)
    (repeat (first|simp only[↓QA,QB,reduceLT,reduceIte,reduceEqDiff,reduceAdd,reduceLeDiff,reduceMul,Nat.reduceBEq,i9,hk1,hH,aG]|refine rd0 rfl ?_))
    refine aT (hfu _) ?_
    (repeat (first|simp only[↓QA,QB,reduceLT,reduceIte,reduceEqDiff,reduceAdd,reduceLeDiff,reduceMul,Nat.reduceBEq,i9,hwk]|refine rd0 rfl ?_))
    refine⟨(k+1,mm s x),⟨by simp only;omega,hnx⟩,by simp only;omega,?_⟩;try simp only[aD,QE,reduceLT,reduceIte,reduceEqDiff,reduceAdd,reduceLeDiff,reduceMul,Nat.reduceBEq,i9,hwk,aG,mm,hp2]
    try simp[aY,okVs,okV,n6]
    try omega
   ·have hk1:k=F.length:=by simp at h;omega
    rw[hk1,List.take_length] at hmm
    (repeat (first|simp only[↓QA,QB,reduceLT,reduceIte,reduceEqDiff,reduceAdd,reduceLeDiff,reduceMul,Nat.reduceBEq,i9]|refine rd0 rfl ?_))
    refine⟨(false,s),⟨rfl,xQ hmm fun x=>?_⟩,by simp,?_⟩
    ·rw[hst,List.mem_append]
    ·try simp only[aD,QE,reduceLT,reduceIte,reduceEqDiff,reduceAdd,reduceLeDiff,reduceMul,Nat.reduceBEq,i9,hp2]
     try simp[aY,okVs,okV]
     try omega
 ·have hsp:jV ts P d=s:=by
   have hc:yY ⟨31,-1⟩ s (dC ts P d):=xQ hs fun x=>by simp only[dC,List.mem_flatMap,hdone]
   exact (O5 hc (yE (fun t ht=>(hts t ht).tok) hne hP d)).symm
  rw[hsp]
  (repeat (first|simp only[↓QA,QB,reduceLT,reduceIte,reduceEqDiff,reduceAdd,reduceLeDiff,reduceMul,Nat.reduceBEq,i9]|refine rd0 rfl ?_))
  refine cZ [.cells [.int .i64 s.lo,.int .i64 s.hi],.miter m ts.length left last] (by first|rfl|simp) ?_;try simp only[QS,QC,reduceLT,reduceIte,reduceEqDiff,reduceAdd,reduceLeDiff,reduceMul,Nat.reduceBEq,i9]
end Go.Am.Room.Fa
namespace Go.Am.Room.Fa
def gA:=zz @bR (zz @aH (zz @bS (zz @bQ (zz @aR (zz @cB (zz @cA (zz @cC (zz @List.length_append.{0} (zz @Nat.mul_one (zz @Int.toNat_natCast (zz @eJ (zz @jZ (zz @gT (zz @gZ (zz @hJ (zz @gR (zz @gS (zz @gW (zz @gY (zz @gV (zz @gX (zz @xM (zz @xG (zz @A7 (zz @AT (zz @eM (zz @fV (zz @fU (zz @lV (zz @fT (zz @qU (@uZ))))))))))))))))))))))))))))))))
theorem kT{v:Farm}(hf:Fits v){plot eo:Int}{F:AV}{σ:St}(hF:∀ τ,eK T F [] (σ++τ) (.int .i64 eo)){E:Int}(hE:dJ v (iF v plot eo)=E)(h0:E≠0):eK T (.func 92 [] []) [encFarm v,.int .i64 plot,F] σ (.tuple [.nilPtr,.int .i64 E]):=by
 subst hE;refine .mono (tU v hf plot eo F σ hF) fun o ho=>?_
 rcases ho with h|h
 ·exact h.2
 ·exact absurd h.1 h0
theorem nL{v:Farm}(hf:Fits v){plot eo:Int}{F:AV}{σ:St}(hF:∀ τ,eK T F [] (σ++τ) (.int .i64 eo))(hE:dJ v (iF v plot eo)=0):AA T (.func 92 [] []) [encFarm v,.int .i64 plot,F] σ (.tuple [.ptr (σ.length+3) 0,.int .i64 0]) (eB (σ++[.cells (aB v)]) v 0 (aO v [])):=by
 refine .mono (tU v hf plot eo F σ hF) fun o ho=>?_
 rcases ho with h|h
 ·exact absurd hE h.1
 ·exact h.2
theorem aBG(n k:Int)(hk:k<9223372036854775807):inR (max n (-1099511627775)) 0 k=inR n 0 k:=by
 rw[Bool.eq_iff_iff,cH,cH];omega
theorem JO(v:Farm)(hf:Fits v)(n:Int)(eo:Int):iF v (max n (-1099511627775)) eo=if (check v).2.2=0 then (if inR n 0 ((v.plots.length:Int)-1) then eo else 4) else (check v).2.2:=by
 have hfp:=hf.plots;have hn:max n (-1099511627775)≠qZ:=by unfold qZ;omega
 rw[iF,aBG n _ (by omega)]
 congr 1
 cases inR n 0 ((v.plots.length:Int)-1)
 ·simp[hn]
 ·simp
theorem aFS(d G:Int):jK [d,G]=if inR d 0 G then 0 else 7:=rfl
theorem D3(v:Farm)(hf:Fits v)(n d:Int):dJ v (iF v (max n (-1099511627775)) (jK [d,(v.rain.length:Int)]))=lL v n d:=by
 rw[lL]
 congr 1
 rw[JO v hf,aFS,m9,yN];by_cases h:(check v).2.2=0
 ·simp only[h,if_true];by_cases h2:inR n 0 ((v.plots.length:Int)-1)=true
  ·rw[if_pos h2,if_pos h2];rfl
  ·rw[if_neg h2,if_neg h2];rfl
 ·simp[h]
theorem BY(v:Farm)(hf:Fits v)(n:Int):dJ v (iF v (max n (-1099511627775)) 0)=kA v n:=by
 rw[kA]
 congr 1
 rw[JO v hf,yN]
theorem BA(v:Farm)(eo:Int):iF v (-1099511627776) eo=if (check v).2.2=0 then eo else (check v).2.2:=by
 simp[iF,qZ]
theorem WN(v:Farm)(d:Int):dJ v (iF v (-1099511627776) (jK [d,(v.rain.length:Int)-1]))=xC v d:=by
 rw[xC,BA];rfl
theorem RA(v:Farm)(d h:Int):dJ v (iF v (-1099511627776) (jK [d,(v.rain.length:Int),h,400]))=mX v d h:=by
 rw[mX]
 congr 1
 rw[BA];have:jK [d,(v.rain.length:Int),h,400]=if inR d 0 (v.rain.length:Int) then (if inR h 0 400 then 0 else 7) else 7:=rfl
 rw[this,m9,m9];by_cases hc:(check v).2.2=0
 ·simp only[hc,if_true,eI];by_cases h2:inR d 0 (v.rain.length:Int)=true
  ·simp[h2]
  ·simp[h2]
 ·simp[hc]
theorem uB(v:Farm)(n d:Int)(hf:Fits v):cE T 15 [encFarm v,.int .i64 n,.int .i64 d] (wP (qR v n d)):=by
 refine aZ (af:=a15) rfl (by simp[a15]) dd ?_;obtain⟨E,hE⟩:∃ E,lL v n d=E:=⟨_,rfl⟩;have hask:=D3 v hf n d;rw[hE] at hask;have hun:=fun σ=>qW [d,(v.rain.length:Int)] σ
 have hu1:=fun (q:Nat) (σ:St) hq=>nY [d,(v.rain.length:Int)] (by simp) q σ hq
 simp only[tH,List.map_cons,List.map_nil] at hun hu1
 (repeat (first|simp only[↓QA,QB,seval,gA,a15]|refine rd0 rfl ?_))
 refine iC (hun _) ?_
 (repeat (first|simp only[↓QA,QB,seval,gA]|refine rd0 rfl ?_))
 by_cases h0':E=0
 ·subst h0';have hE2:=hE;obtain⟨hw,hne⟩:=iV hE2;obtain⟨ha,hd0,hd1⟩:=pP hw;obtain⟨hv,hn0,hn1⟩:=pN ha;have hm:qR v n d=(jV (aO v []) n.toNat d.toNat,0):=by rw[qR,hE,if_pos rfl]
  rw[hm];simp only[eI] at hd1;obtain⟨N,rfl⟩:∃ N:Nat,n=N:=⟨n.toNat,by omega⟩;obtain⟨D,rfl⟩:∃ D:Nat,d=D:=⟨d.toNat,by omega⟩;rw[Int.toNat_natCast,Int.toNat_natCast];have hen:=nL hf (plot:=max (N:Int) (-1099511627775)) (eo:=jK [(D:Int),(v.rain.length:Int)]) (F:=.func 233 [] [.ptr 2 0]) (σ:=[.cells (aB v),.cells [.int .i64 0,.int .i64 0],.cells [.lit [.int .i64 D,.int .i64 v.rain.length] true none]]) (fun τ=>hu1 _ _ rfl) hask;have hgr:=qS v hv (aO v []) (fun t ht=>CO hv ht) hne 0 5 6 (eB ([.cells (aB v),.cells [.int .i64 0,.int .i64 0],.cells [.lit [.int .i64 D,.int .i64 v.rain.length] true none]]++[.cells (aB v)]) v 0 (aO v [])) ⟨rfl,rfl⟩ N D (by omega) (by omega);try simp only[↓QA,QB,seval,gA,eB,List.cons_append,List.nil_append,List.length_cons,List.length_nil] at hen
  try simp only[↓QA,QB,seval,gA,eB,List.cons_append,List.nil_append,List.length_cons,List.length_nil] at hgr
  refine iC hen ?_
  (repeat (first|simp only[↓QA,QB,seval,gA]|refine rd0 rfl ?_))
  refine aT hgr ?_
  (repeat (first|simp only[↓QA,QB,seval,gA,wP]|refine rd0 rfl ?_))
 ·have hm:qR v n d=(⟨0,0⟩,E):=by rw[qR,hE,if_neg h0']
  have hg:(E==0)=false:=by simpa using h0'
  rw[hm];refine iU (kT hf (fun τ=>hu1 _ _ rfl) hask h0') ?_
  (repeat (first|simp only[↓QA,QB,seval,gA,hg,wP]|refine rd0 rfl ?_))
theorem B5(v:Farm)(d:Int)(hf:Fits v):cE T 76 [encFarm v,.int .i64 d] (wP (pD v d)):=by
 refine aZ (af:=a76) rfl (by simp[a76]) dd ?_;have hfr:=hf.rain;have hwe:IntKind.i64.wrap ((v.rain.length:Int)-1)=(v.rain.length:Int)-1:=bL ⟨by omega,by omega⟩;obtain⟨E,hE⟩:∃ E,xC v d=E:=⟨_,rfl⟩;have hask:=WN v d;rw[hE] at hask;obtain⟨G1,hG1⟩:∃ G1,(v.rain.length:Int)-1=G1:=⟨_,rfl⟩;rw[hG1] at hask hwe;have hun:=fun σ=>qW [d,G1] σ
 have hu1:=fun (q:Nat) (σ:St) hq=>nY [d,G1] (by simp) q σ hq
 simp only[tH,List.map_cons,List.map_nil] at hun hu1
 (repeat (first|simp only[↓QA,QB,reduceLT,reduceIte,reduceEqDiff,reduceAdd,reduceLeDiff,reduceMul,Nat.reduceBEq,gA,a76,hG1,hwe]|refine rd0 rfl ?_))
 refine iC (hun _) ?_
 (repeat (first|simp only[↓QA,QB,reduceLT,reduceIte,reduceEqDiff,reduceAdd,reduceLeDiff,reduceMul,Nat.reduceBEq,gA]|refine rd0 rfl ?_))
 by_cases h0':E=0
 ·subst h0';have hE2:=hE;obtain⟨hw,hne⟩:=iV hE2;obtain⟨ha,hd0,hd1⟩:=pP hw;have hv:=vd_of_check ha;have hnr:=hv.nra;have hm:pD v d=(rE (kC (aO v []) d.toNat),0):=by rw[pD,hE,if_pos rfl]
  rw[hm];simp only[eI] at hd1;obtain⟨D,rfl⟩:∃ D:Nat,d=D:=⟨d.toNat,by omega⟩;rw[Int.toNat_natCast];have hen:=nL hf (plot:=-1099511627776) (eo:=jK [(D:Int),G1]) (F:=.func 233 [] [.ptr 2 0]) (σ:=[.cells (aB v),.cells [.int .i64 0,.int .i64 0],.cells [.lit [.int .i64 D,.int .i64 G1] true none]]) (fun τ=>hu1 _ _ rfl) hask;try simp only[↓QA,QB,reduceLT,reduceIte,reduceEqDiff,reduceAdd,reduceLeDiff,reduceMul,Nat.reduceBEq,gA,eB,List.cons_append,List.nil_append,List.length_cons,List.length_nil] at hen
  refine iC hen ?_;have htsk:∀ t∈aO v [],TOk v t:=fun t ht=>BN hv ht
  obtain⟨ts,hts⟩:∃ ts,aO v []=ts:=⟨_,rfl⟩;rw[hts] at hne ⊢;simp only[hts] at htsk;obtain⟨σ,hσ⟩:∃ σ:St,[ABlk.cells (aB v),.cells [.int .i64 0,.int .i64 0],.cells [.lit [.int .i64 D,.int .i64 G1] true none],.cells (aB v),.cells (aB v),.map (ts.map kvT),.cells (db v 0 5)]=σ:=⟨_,rfl⟩;have hmr:tR [ABlk.cells (aB v),.cells [.int .i64 2,.int .i64 0],.cells [.lit [.int .i64 D,.int .i64 G1] true none],.cells (aB v),.cells (aB v),.map (ts.map kvT),.cells (db v 0 5)] (.map 5)=some (.ptr 7 0,[ABlk.cells (aB v),.cells [.int .i64 2,.int .i64 0],.cells [.lit [.int .i64 D,.int .i64 G1] true none],.cells (aB v),.cells (aB v),.map (ts.map kvT),.cells (db v 0 5),.miter 5 ts.length (List.range ts.length) none]):=by
   have:=v5 (σ:=[ABlk.cells (aB v),.cells [.int .i64 2,.int .i64 0],.cells [.lit [.int .i64 D,.int .i64 G1] true none],.cells (aB v),.cells (aB v),.map (ts.map kvT),.cells (db v 0 5)]) (m:=5) (es:=ts.map kvT) rfl;simpa using this
  simp only[aH] at hmr
  (repeat (first|simp only[↓QA,QB,reduceLT,reduceIte,reduceEqDiff,reduceAdd,reduceLeDiff,reduceMul,Nat.reduceBEq,gA,hmr]|refine rd0 rfl ?_))
  refine aBP (S:=Span) ts kvT 5 7 (fun done s=>yY ⟨2,0⟩ s (kC done D)) (fun _=>[(1,.int .i64 D),(4,.ptr 1 0),(29,.ptr 7 0)])
   (fun s=>[.cells (aB v),.cells [.int .i64 s.lo,.int .i64 s.hi],.cells [.lit [.int .i64 D,.int .i64 G1] true none],.cells (aB v),.cells (aB v),.map (ts.map kvT),.cells (db v 0 5)]) ⟨2,0⟩ (fun s=>rfl) (fun s=>rfl) (fun s=>by simp[Env.get]) (X1 _) (by simp[aH]) ?_ (fun done s t i left hs ht hti=>?_) fun done s left last hs hdone=>?_
  ·try simp only[aD,QE,reduceLT,reduceIte,reduceEqDiff,reduceAdd,reduceLeDiff,reduceMul,Nat.reduceBEq,gA]
   try simp
  ·have htk:=htsk t ht;have hent:∀ τ,uT (.cells (aB v)::.cells [.int .i64 s.lo,.int .i64 s.hi]::.cells [.lit [.int .i64 D,.int .i64 G1] true none]::.cells (aB v)::.cells (aB v)::.map (ts.map kvT)::.cells (db v 0 5)::.miter 5 ts.length left (some i)::τ) (.ptr 7 0)=some (.tuple [sG t,wE t]):=fun τ=>by
    refine HM (es:=ts.map kvT) rfl rfl (by simp) ?_;rw[List.getElem?_map,hti];rfl
   simp only[aH] at hent;unfold JX;have hge:=iP 7 (rl t.rain) (show D<7 by omega);have hrb:=uF hv htk.rain D;obtain⟨x,hx⟩:∃ x,rl t.rain D=x:=⟨_,rfl⟩;rw[hx] at hge hrb;have i7:(0:Int)<=(D:Int)/\(D:Int)<((7:Nat):Int):=⟨by omega,by omega⟩;have hnx:yY ⟨2,0⟩ (mm s x) (kC (t::done) D):=by
    rw[kC,List.map_cons,hx];exact O6 hs (by simp only;omega)
   (repeat (first|simp only[↓QA,QB,reduceLT,reduceIte,reduceEqDiff,reduceAdd,reduceLeDiff,reduceMul,Nat.reduceBEq,gA,hent,kvT,sG,wE,i7,Nat.zero_add,hge,List.cons_append,List.nil_append]|refine rd0 rfl ?_))
   refine⟨(false,mm s x),⟨rfl,hnx⟩,by simp,?_⟩;try simp only[aD,QE,reduceLT,reduceIte,reduceEqDiff,reduceAdd,reduceLeDiff,reduceMul,Nat.reduceBEq,gA,mm,List.cons_append,List.nil_append]
   try simp[aY,okVs,okV]
  ·have hsp:rE (kC ts D)=s:=by
    have hc:yY ⟨2,0⟩ s (kC ts D):=xQ hs fun x=>by simp only[kC,List.mem_map,hdone]
    refine (O5 hc ?_).symm;cases ts with
    |nil=>exact absurd rfl hne
    |cons a b=>simp[kC]
   rw[hsp]
   (repeat (first|simp only[↓QA,QB,reduceLT,reduceIte,reduceEqDiff,reduceAdd,reduceLeDiff,reduceMul,Nat.reduceBEq,gA,wP]|refine rd0 rfl ?_))
   try try simp only[QS,QC,reduceLT,reduceIte,reduceEqDiff,reduceAdd,reduceLeDiff,reduceMul,Nat.reduceBEq,gA]
 ·have hm:pD v d=(⟨0,0⟩,E):=by rw[pD,hE,if_neg h0']
  have hg:(E==0)=false:=by simpa using h0'
  rw[hm];refine iU (kT hf (fun τ=>hu1 _ _ rfl) hask h0') ?_
  (repeat (first|simp only[↓QA,QB,reduceLT,reduceIte,reduceEqDiff,reduceAdd,reduceLeDiff,reduceMul,Nat.reduceBEq,gA,hg,wP]|refine rd0 rfl ?_))
end Go.Am.Room.Fa
namespace Go.Am.Room.Fa
def lH:=zz @bR (zz @aH (zz @bS (zz @bQ (zz @aR (zz @cB (zz @cA (zz @cC (zz @List.length_append.{0} (zz @Nat.mul_one (zz @Int.toNat_natCast (zz @eJ (zz @jZ (zz @gT (zz @gZ (zz @hJ (zz @gR (zz @gS (zz @gW (zz @gY (zz @gV (zz @gX (zz @xM (zz @xG (zz @A7 (zz @AT (zz @eM (zz @fV (zz @fU (zz @lV (zz @fT (zz @qU (@uZ))))))))))))))))))))))))))))))))
theorem mP(σ:St):eK T (.func 222 [] []) [] σ (.int .i64 0):=Q8 aCD rfl trivial
theorem R8(t:Truth)(l:List Truth)(p:Nat)(d:Int):CZ (t::l) p d=((iK t p).contains d||CZ l p d):=by simp[CZ]
theorem NA{l k:List Truth}(h:∀ t,t∈l↔t∈k)(p:Nat)(d:Int):CZ l p d=CZ k p d:=by
 rw[Bool.eq_iff_iff,CZ,CZ,List.any_eq_true,List.any_eq_true];constructor
 ·rintro⟨t,a,b⟩;exact⟨t,(h t).1 a,b⟩
 ·rintro⟨t,a,b⟩;exact⟨t,(h t).2 a,b⟩
theorem xH(v:Farm)(n:Int)(hf:Fits v):cE T 77 [encFarm v,.int .i64 n] (wO (kM v n)):=by
 refine aZ (af:=a77) rfl (by simp[a77]) dd ?_;obtain⟨E,hE⟩:∃ E,kA v n=E:=⟨_,rfl⟩;have hask:=BY v hf n;rw[hE] at hask;try simp only[↓QA,QB,reduceLT,reduceIte,reduceEqDiff,reduceAdd,reduceLeDiff,reduceMul,Nat.reduceBEq,lH,a77]
 by_cases h0':E=0
 ·subst h0';have hE2:=hE;obtain⟨hw,hne⟩:=iV hE2;obtain⟨hv,hn0,hn1⟩:=pN hw;have hnr:=hv.nra;have hnp:=hv.npl;have hm:kM v n=(nC v (aO v []) n.toNat,0):=by rw[kM,hE,if_pos rfl]
  rw[hm];obtain⟨N,rfl⟩:∃ N:Nat,n=N:=⟨n.toNat,by omega⟩;rw[Int.toNat_natCast];have hen:=nL hf (plot:=max (N:Int) (-1099511627775)) (eo:=0) (F:=.func 222 [] []) (σ:=[.cells (aB v)]) (fun τ=>mP _) hask;try simp only[↓QA,QB,reduceLT,reduceIte,reduceEqDiff,reduceAdd,reduceLeDiff,reduceMul,Nat.reduceBEq,lH,eB,List.cons_append,List.nil_append,List.length_cons,List.length_nil] at hen
  refine jH hen ?_;have htsk:∀ t∈aO v [],TOk v t:=fun t ht=>BN hv ht
  obtain⟨ts,hts⟩:∃ ts,aO v []=ts:=⟨_,rfl⟩;rw[hts] at hne ⊢;simp only[hts] at htsk;have hmr:tR [ABlk.cells (aB v),.cells (aB v),.cells (aB v),.map (ts.map kvT),.cells (db v 0 3)] (.map 3)=some (.ptr 5 0,[ABlk.cells (aB v),.cells (aB v),.cells (aB v),.map (ts.map kvT),.cells (db v 0 3),.miter 3 ts.length (List.range ts.length) none]):=by
   have:=v5 (σ:=[ABlk.cells (aB v),.cells (aB v),.cells (aB v),.map (ts.map kvT),.cells (db v 0 3)]) (m:=3) (es:=ts.map kvT) rfl;simpa using this
  simp only[aH] at hmr;try simp only[↓QA,QB,reduceLT,reduceIte,reduceEqDiff,reduceAdd,reduceLeDiff,reduceMul,Nat.reduceBEq,lH,hmr]
  refine aBP (S:=Nat) ts kvT 3 5 (fun done s=>s<2^7/\∀ i:Nat,s.testBit i=CZ done N (i:Int)) (fun s=>[(1,.int .i64 N),(2,.ptr 0 0),(8,.int .i64 s),(25,.ptr 5 0)])
   (fun s=>[.cells (aB v),.cells (aB v),.cells (aB v),.map (ts.map kvT),.cells (db v 0 3)]) 0 (fun s=>rfl) (fun s=>rfl) (fun s=>by simp[Env.get]) ⟨by omega,fun i=>by simp[CZ]⟩ (by simp[aH]) ?_ (fun done s t i left hs ht hti=>?_) fun done s left last hs hdone=>?_
  ·try simp only[aD,QE,reduceLT,reduceIte,reduceEqDiff,reduceAdd,reduceLeDiff,reduceMul,Nat.reduceBEq,lH]
   try simp
  ·obtain⟨hs1,hs2⟩:=hs;have htk:=htsk t ht;have hfl:=htk.fl N (by omega);have hent:∀ τ,uT (.cells (aB v)::.cells (aB v)::.cells (aB v)::.map (ts.map kvT)::.cells (db v 0 3)::.miter 3 ts.length left (some i)::τ) (.ptr 5 0)=some (.tuple [sG t,wE t]):=fun τ=>by
    refine HM (es:=ts.map kvT) rfl rfl (by simp) ?_;rw[List.getElem?_map,hti];rfl
   simp only[aH] at hent;unfold JX;have hge:=iP 4 (fun q=>(eW (iK t q):Int)) (show N<4 by omega);have hsb:eW (iK t N)<2^7:=AZ fun x hx=>by have:=hfl.2.2 x hx;omega
   have hbit:=fun i=>wZ (fun x hx=>(hfl.2.2 x hx).1) i
   have vor:=WG s (eW (iK t N)) (by omega) (by omega);have i4:(0:Int)<=(N:Int)/\(N:Int)<((4:Nat):Int):=⟨by omega,by omega⟩;have hnx:s|||eW (iK t N)<2^7/\∀ i:Nat,(s|||eW (iK t N)).testBit i=CZ (t::done) N (i:Int):=by
    refine⟨Nat.or_lt_two_pow hs1 hsb,fun i=>?_⟩;rw[Nat.testBit_or,hs2,hbit,R8,Bool.or_comm]
   try simp only[↓QA,QB,reduceLT,reduceIte,reduceEqDiff,reduceAdd,reduceLeDiff,reduceMul,Nat.reduceBEq,lH,hent,kvT,sG,wE,i4,Nat.zero_add,hge,vor,List.cons_append,List.nil_append]
   refine⟨(false,s|||eW (iK t N)),⟨rfl,hnx⟩,by simp,?_⟩;try simp only[aD,QE,reduceLT,reduceIte,reduceEqDiff,reduceAdd,reduceLeDiff,reduceMul,Nat.reduceBEq,lH,List.cons_append,List.nil_append]
   try simp[aY,okVs,okV]
  ·obtain⟨hs1,hs2⟩:=hs;have hsp:lst v.rain.length s=nC v ts N:=by
    rw[lst,nC];refine List.filter_congr fun x hx=>?_
    have hx0:=(cX _ _ _).1 hx;rw[<-uE,hs2,show ((x.toNat:Nat):Int)=x by omega,NA hdone]
   have hnum:=kU s v.rain.length (by omega) (by omega);rw[hsp] at hnum;obtain⟨F,hF⟩:∃ F,nC v ts N=F:=⟨_,rfl⟩;rw[hF] at hnum ⊢;try simp only[↓QA,QB,reduceLT,reduceIte,reduceEqDiff,reduceAdd,reduceLeDiff,reduceMul,Nat.reduceBEq,lH,wO]
   (refine aE (hnum) rfl dd ?_;try simp only[↓QA,QB,reduceLT,reduceIte,reduceEqDiff,reduceAdd,reduceLeDiff,reduceMul,Nat.reduceBEq,lH,wO])
   try try simp only[QS,QC,reduceLT,reduceIte,reduceEqDiff,reduceAdd,reduceLeDiff,reduceMul,Nat.reduceBEq,lH]
 ·have hm:kM v n=([],E):=by rw[kM,hE,if_neg h0']
  have hg:(E==0)=false:=by simpa using h0'
  rw[hm];refine aT (kT hf (fun τ=>mP _) hask h0') ?_;try simp only[↓QA,QB,reduceLT,reduceIte,reduceEqDiff,reduceAdd,reduceLeDiff,reduceMul,Nat.reduceBEq,lH,hg,wO]
  try rfl
def aM5(v:Farm)(s:Span)(some:Bool):Int :=
 if n5 (decide (v.full<=s.lo)) (decide (s.hi<v.full))=2 then 2 else if n5 (decide (s.hi+v.way.hi<=v.ripe)) (decide (v.ripe<s.lo+v.way.lo))=2 then 2
 else if n5 (decide (v.full<=s.lo)) (decide (s.hi<v.full))=1/\n5 (decide (s.hi+v.way.hi<=v.ripe)) (decide (v.ripe<s.lo+v.way.lo))=1 then 1 else if some then 0 else 2
def sW(v:Farm)(n:Int):Bool:=decide (v.full<=n)&&decide (n+v.way.lo<=v.ripe)
theorem UT{v:Farm}(hv:Vd v){ts:List Truth}(hts:∀ t∈ts,TOk v t)(hne:ts≠[]){P d:Nat}(hP:P<v.plots.length)(hd:d<=v.rain.length):
  eN v ts P d=aM5 v (jV ts P d) ((dC ts P d).any (sW v)):=by
 have hfn:=yE hts hne hP d;obtain⟨h1,h2,h3⟩:=vH hfn;have hwy:=hv.way;have hgne:k6 v ts P d≠[]:=by
  rw[k6];cases hfi:dC ts P d with
  |nil=>exact absurd hfi hfn
  |cons a b =>
   have:lU v.way≠[]:=List.ne_nil_of_mem (kK.2 ⟨Int.le_refl _,hwy.2.1⟩);simp[AP,this]
 have hall:eN v ts P d=1↔∀ n∈dC ts P d,∀ w,v.way.lo<=w->w<=v.way.hi->v.full<=n/\n+w<=v.ripe:=by
  rw[eN,K9];simp only[k6,AP,List.mem_flatMap,List.mem_map,kK];constructor
  ·intro h n hn w hw0 hw1;have:=h (vG v n w) ⟨n,hn,w,⟨hw0,hw1⟩,rfl⟩;simpa[vG] using this
  ·rintro h _ ⟨n,hn,w,⟨hw0,hw1⟩,rfl⟩;have:=h n hn w hw0 hw1;simpa[vG] using this
 have hnone:eN v ts P d=2↔∀ n∈dC ts P d,∀ w,v.way.lo<=w->w<=v.way.hi->¬(v.full<=n/\n+w<=v.ripe):=by
  rw[eN,JC];simp only[k6,AP,List.mem_flatMap,List.mem_map,kK];constructor
  ·rintro⟨_,h⟩ n hn w hw0 hw1 hc;have:=h (vG v n w) ⟨n,hn,w,⟨hw0,hw1⟩,rfl⟩;simp[vG,hc.1,hc.2] at this
  ·intro h;refine⟨hgne,?_⟩;rintro _ ⟨n,hn,w,⟨hw0,hw1⟩,rfl⟩;have:=h n hn w hw0 hw1;rw[id,Bool.eq_false_iff];intro hc;simp[vG] at hc;exact this hc
 have hcases:=DX ((k6 v ts P d).filter id).length (k6 v ts P d).length;have hg:eN v ts P d=lD ((k6 v ts P d).filter id).length (k6 v ts P d).length:=rfl;rw[<-hg] at hcases;have hany:(dC ts P d).any (sW v)=true↔∃ n∈dC ts P d,v.full<=n/\n+v.way.lo<=v.ripe:=by
  simp[List.any_eq_true,sW]
 have hS:rE (dC ts P d)=jV ts P d:=rfl;rw[hS] at h1 h2 h3;obtain⟨s,hs⟩:∃ s,jV ts P d=s:=⟨_,rfl⟩;rw[hs] at h1 h2 h3 ⊢;simp only[aM5,n5];by_cases a1:v.full<=s.lo
 ·by_cases a2:s.hi+v.way.hi<=v.ripe
  ·have:eN v ts P d=1:=hall.2 fun n hn w hw0 hw1=>by have:=h3 n hn;omega
   simp[a1,a2,this]
  ·by_cases a3:v.ripe<s.lo+v.way.lo
   ·have:eN v ts P d=2:=hnone.2 fun n hn w hw0 hw1=>by have:=h3 n hn;omega
    simp[a1,a2,a3,this]
   ·have hn1:eN v ts P d≠1:=fun e=>by have:=hall.1 e _ h2 _ (hwy.2.1) (Int.le_refl _);omega
    have hn2:eN v ts P d≠2:=fun e=>hnone.1 e _ h1 _ (Int.le_refl _) hwy.2.1 ⟨a1,by omega⟩
    have h0:eN v ts P d=0:=by rcases hcases with h|h|h<;>first|exact h|exact absurd h hn1|exact absurd h hn2
    have:(dC ts P d).any (sW v)=true:=hany.2 ⟨_,h1,a1,by omega⟩;simp[a1,a2,a3,h0,this]
 ·by_cases a4:s.hi<v.full
  ·have:eN v ts P d=2:=hnone.2 fun n hn w hw0 hw1=>by have:=h3 n hn;omega
   simp[a1,a4,this]
  ·have hn1:eN v ts P d≠1:=fun e=>by have:=hall.1 e _ h1 _ (Int.le_refl _) hwy.2.1;omega
   by_cases hc:(dC ts P d).any (sW v)=true
   ·obtain⟨n,hn,c1,c2⟩:=hany.1 hc;have hn2:eN v ts P d≠2:=fun e=>hnone.1 e n hn _ (Int.le_refl _) hwy.2.1 ⟨c1,c2⟩
    have h0:eN v ts P d=0:=by rcases hcases with h|h|h<;>first|exact h|exact absurd h hn1|exact absurd h hn2
    have hnn:=h3 n hn;have a3:¬v.ripe<s.lo+v.way.lo:=by omega
    by_cases a2:s.hi+v.way.hi<=v.ripe
    ·simp[a1,a4,a2,h0,hc]
    ·simp[a1,a4,a2,a3,h0,hc]
   ·have h2':eN v ts P d=2:=hnone.2 fun n hn w hw0 hw1 hcc=>hc (hany.2 ⟨n,hn,hcc.1,by omega⟩)
    have hcf:(dC ts P d).any (sW v)=false:=by simpa using hc
    rw[h2',hcf];by_cases a2:s.hi+v.way.hi<=v.ripe
    ·simp[a1,a4,a2]
    ·by_cases a3:v.ripe<s.lo+v.way.lo
     ·simp[a1,a4,a2,a3]
     ·simp[a1,a4,a2,a3]
end Go.Am.Room.Fa
namespace Go.Am.Room.Fa
def bN:=zz @bR (zz @aH (zz @bS (zz @bQ (zz @aR (zz @cB (zz @cA (zz @cC (zz @List.length_append.{0} (zz @Nat.mul_one (zz @Int.toNat_natCast (zz @eJ (zz @jZ (zz @gT (zz @gZ (zz @hJ (zz @gR (zz @gS (zz @gW (zz @gY (zz @gV (zz @gX (zz @xM (zz @xG (zz @A7 (zz @AT (zz @eM (zz @fV (zz @fU (zz @lV (zz @fT (zz @qU (@uZ))))))))))))))))))))))))))))))))
def qL:List Nat:=[443,445]
def lG(i:Nat):AV:=.agg [.func i [] []]
theorem CM(i:Nat):lG i = .agg [.func i [] []]:=by simp only[lG]
theorem RB(i:Nat):jB (lG i):=⟨by simp[lG,okV,okVs],by simp[lG,clr,clrs]⟩
theorem ES(σ:St)(m d:Nat)(l:List Nat):bZ σ m d (l.map lG)=some (l.map lG):=i8 (cL RB l) σ m d
theorem VL:cE T 331 [] (.lit (qL.map lG) false none):=by
 refine aZ (af:=a331) rfl (by simp[a331]) bA ?_;try simp only[↓QA,QB,seval,bN,a331,qL,CM,List.map_cons,List.map_nil]
 try simp[b8,bZ,snap,snaps,clr,clrs]
def VM(v:Farm)(s:Span):Int:=n5 (decide (v.full<=s.lo)) (decide (s.hi<v.full))
def WI(v:Farm)(s:Span):Int:=n5 (decide (s.hi+v.way.hi<=v.ripe)) (decide (v.ripe<s.lo+v.way.lo))
theorem LU(v:Farm)(b m p:Nat)(s:Span)(σ:St)(hp:aM σ p=some (db v b m)):eK T (.func 443 [] []) [.ptr p 0,cT s] σ (.int .i64 (VM v s)):=by
 refine cM (af:=a443) rfl (by simp[a443]) ?_;have h0:=fun τ=>pR hp τ
 (repeat (first|simp only[↓QA,QB,seval,bN,a443,h0]|refine rd0 rfl ?_))
 ((first|refine aE (A0 (decide (v.full<=s.lo)) (decide (s.hi<v.full))) rfl dd ?_|refine aN (A0 (decide (v.full<=s.lo)) (decide (s.hi<v.full))) rfl dd ?_);(repeat (first|simp only[↓QA,QB,seval,bN,h0]|refine rd0 rfl ?_)))
 refine cZ [.cells [.int .i64 s.lo,.int .i64 s.hi]] (by first|rfl|simp) ?_;try simp only[QS,QC,seval,bN,VM]
theorem LY(v:Farm)(hv:Vd v)(b m p:Nat)(s:Span)(hs:0<=s.lo/\s.lo<=s.hi/\s.hi<=21)(σ:St)(hp:aM σ p=some (db v b m)):eK T (.func 445 [] []) [.ptr p 0,cT s] σ (.int .i64 (WI v s)):=by
 refine cM (af:=a445) rfl (by simp[a445]) ?_;have h0:=fun τ=>pR hp τ
 have hwy:=hv.way;have w1:IntKind.i64.wrap (s.hi+v.way.hi)=s.hi+v.way.hi:=bL ⟨by omega,by omega⟩;have w2:IntKind.i64.wrap (s.lo+v.way.lo)=s.lo+v.way.lo:=bL ⟨by omega,by omega⟩
 (repeat (first|simp only[↓QA,QB,seval,bN,a445,h0,w1,w2]|refine rd0 rfl ?_))
 ((first|refine aE (A0 (decide (s.hi+v.way.hi<=v.ripe)) (decide (v.ripe<s.lo+v.way.lo))) rfl dd ?_|refine aN (A0 (decide (s.hi+v.way.hi<=v.ripe)) (decide (v.ripe<s.lo+v.way.lo))) rfl dd ?_);(repeat (first|simp only[↓QA,QB,seval,bN,h0]|refine rd0 rfl ?_)))
 refine cZ [.cells [.int .i64 s.lo,.int .i64 s.hi]] (by first|rfl|simp) ?_;try simp only[QS,QC,seval,bN,WI]
theorem zF(a b:Bool):n5 a b=0\/n5 a b=1\/n5 a b=2:=by cases a<;>cases b<;>simp[n5]
set_option maxHeartbeats 1000000 in
theorem J1(v:Farm)(hv:Vd v)(ts:List Truth)(hts:∀ t∈ts,KOk v t)(hne:ts≠[])(b m p:Nat)(σ:St)(hK:KnownAt σ v b m p ts)(P d:Nat)(hP:P<v.plots.length)(hd:d<=v.rain.length):
  eK T (.func 204 [] []) [.ptr p 0,.int .i64 P,.int .i64 d] σ (.int .i64 (eN v ts P d)):=by
 refine cM (af:=a204) rfl (by simp[a204]) ?_;have hnr:=hv.nra;have hnp:=hv.npl;have hwy:=hv.way;have hpl:=hK.pl;have hml:=hK.ml;have h0:=fun τ=>pR hK.obj τ
 have hmr:=fun τ=>v5 (hK.map1 τ)
 simp only[List.length_map] at hmr;have hp1:p<σ.length+1:=by omega
 have hp2:p<σ.length+2:=by omega
 have hm2:m<σ.length+2:=by omega
 have i4:(0:Int)<=(P:Int)/\(P:Int)<((4:Nat):Int):=⟨by omega,by omega⟩;have hgr:=qS v hv ts hts hne b m p σ hK P d hP hd;have hgood:=UT hv (fun t ht=>(hts t ht).tok) hne hP hd;have hsb:=B4 hv (fun t ht=>(hts t ht).tok) hne hP hd;obtain⟨s,hs⟩:∃ s,jV ts P d=s:=⟨_,rfl⟩;rw[hs] at hgr hgood hsb;obtain⟨G,hG⟩:∃ G,eN v ts P d=G:=⟨_,rfl⟩;rw[hG] at hgood ⊢;have hr1:=fun τ=>LU v b m p s (σ++τ) (h0 τ)
 have hr2:=fun τ=>LY v hv b m p s hsb (σ++τ) (h0 τ)
 obtain⟨K1,hK1⟩:∃ K1,VM v s=K1:=⟨_,rfl⟩;obtain⟨K2,hK2⟩:∃ K2,WI v s=K2:=⟨_,rfl⟩;have c1:K1=0\/K1=1\/K1=2:=by rw[<-hK1];exact zF _ _
 have c2:K2=0\/K2=1\/K2=2:=by rw[<-hK2];exact zF _ _
 have hgd:G=if K1=2 then 2 else if K2=2 then 2 else if K1=1/\K2=1 then 1 else if (dC ts P d).any (sW v) then 0 else 2:=by
  rw[hgood,<-hK1,<-hK2];rfl
 simp only[hK1] at hr1;simp only[hK2] at hr2;have hrl:(qL.map lG).length=2:=rfl;have hrl2:qL.length=2:=rfl
 (repeat (first|simp only[↓QA,QB,reduceLT,reduceIte,reduceEqDiff,reduceAdd,reduceLeDiff,reduceMul,Nat.reduceBEq,bN,a204]|refine rd0 rfl ?_))
 refine aT hgr ?_
 (repeat (first|simp only[↓QA,QB,reduceLT,reduceIte,reduceEqDiff,reduceAdd,reduceLeDiff,reduceMul,Nat.reduceBEq,bN]|refine rd0 rfl ?_))
 refine aE VL rfl bA ?_
 (repeat (first|simp only[↓QA,QB,reduceLT,reduceIte,reduceEqDiff,reduceAdd,reduceLeDiff,reduceMul,Nat.reduceBEq,bN,hrl,hrl2]|refine rd0 rfl ?_))
 refine b9 (S:=Nat×Bool) (0,true) (fun a=>a.1<=2/\(a.1=0->a.2=true)/\(1<=a.1->K1≠2)/\(a.1=1->a.2=(K1==1))/\(2<=a.1->K2≠2/\a.2=((K1==1)&&(K2==1)))) (fun a=>2-a.1)
  (fun a=>[(0,.ptr p 0),(1,.int .i64 P),(2,.int .i64 d),(7,.ptr σ.length 0),(8,.bool a.2),(20,.lit (qL.map lG) false none),(21,.int .i64 2),(22,.int .i64 a.1)])
  (fun a=>σ++[.cells [.int .i64 s.lo,.int .i64 s.hi]]) ⟨by omega,fun _=>rfl,fun h=>absurd h (by simp),fun h=>by simp at h,fun h=>absurd h (by simp)⟩ (by simp) ?_ fun a ha=>?_
 ·try simp only[aD,QE,reduceLT,reduceIte,reduceEqDiff,reduceAdd,reduceLeDiff,reduceMul,Nat.reduceBEq,bN]
  try simp
 ·obtain⟨k,bb⟩:=a;obtain⟨hk,q0,q1,q2,q3⟩:=ha;simp only at hk q0 q1 q2 q3
  (repeat (first|simp only[↓QA,QB,reduceLT,reduceIte,reduceEqDiff,reduceAdd,reduceLeDiff,reduceMul,Nat.reduceBEq,bN,TL]|refine rd0 rfl ?_))
  refine aF (fun h=>?_) fun h=>?_
  ·have hk2:k=0\/k=1:=by
    have h0:(k:Int)<2:=by simpa using h
    omega
   have hw:=bJ (show k<2 by omega) (by omega);have hlk:k<qL.length:=by rw[hrl2];omega
   obtain⟨id,hid,X,hcall,hX⟩:∃ id,qL[k]=id/\∃ X,(∀ τ,eK T (.func id [] []) [.ptr p 0,cT s] (σ++τ) (.int .i64 X))/\((k=0/\X=K1)\/(k=1/\X=K2)):=by
    rcases hk2 with rfl|rfl
    ·exact⟨_,rfl,K1,hr1,.inl ⟨rfl,rfl⟩⟩
    ·exact⟨_,rfl,K2,hr2,.inr ⟨rfl,rfl⟩⟩
   have hcl:cG 1 (.agg [.func id [] []])=true:=by simp[cG,AV.cells,AV.cell]
   (repeat (first|simp only[↓QA,QB,reduceLT,reduceIte,reduceEqDiff,reduceAdd,reduceLeDiff,reduceMul,Nat.reduceBEq,bN,hlk,hid,hcl,CM]|refine rd0 rfl ?_))
   refine aT (hcall _) ?_;cases hx2:(X==2)
   ·have hx2':X≠2:=by simpa using hx2
    cases hx0:(X==0)
    ·have hx0':X≠0:=by simpa using hx0
     (repeat (first|simp only[↓QA,QB,reduceLT,reduceIte,reduceEqDiff,reduceAdd,reduceLeDiff,reduceMul,Nat.reduceBEq,bN,hx2,hx0,hw]|refine rd0 rfl ?_))
     refine⟨(k+1,bb),⟨by simp only;omega,fun h=>by simp at h,?_,?_,?_⟩,by simp only;omega,?_⟩
     ·intro _;rcases hX with⟨e1,e2⟩|⟨e1,e2⟩
      ·rw[<-e2];exact hx2'
      ·exact q1 (by omega)
     ·intro e;simp only at e;have e0:k=0:=by omega
      have hb:=q0 e0;rcases hX with⟨e1,e2⟩|⟨e1,e2⟩
      ·simp only[hb];have:K1=1:=by omega
       simp[this]
      ·omega
     ·intro e;simp only at e;rcases hX with⟨e1,e2⟩|⟨e1,e2⟩
      ·omega
      ·refine⟨by rw[<-e2];exact hx2',?_⟩;simp only[q2 e1];have:K2=1:=by omega
       simp[this]
     ·try simp only[aD,QE,reduceLT,reduceIte,reduceEqDiff,reduceAdd,reduceLeDiff,reduceMul,Nat.reduceBEq,bN,hw,hp1,ES]
      try simp[aY,okVs,okV]
    ·have hx0':X=0:=by simpa using hx0
     (repeat (first|simp only[↓QA,QB,reduceLT,reduceIte,reduceEqDiff,reduceAdd,reduceLeDiff,reduceMul,Nat.reduceBEq,bN,hx2,hx0,hw]|refine rd0 rfl ?_))
     refine⟨(k+1,false),⟨by simp only;omega,fun h=>by simp at h,?_,?_,?_⟩,by simp only;omega,?_⟩
     ·intro _;rcases hX with⟨e1,e2⟩|⟨e1,e2⟩
      ·rw[<-e2];exact hx2'
      ·exact q1 (by omega)
     ·intro e;simp only at e;rcases hX with⟨e1,e2⟩|⟨e1,e2⟩
      ·have:K1=0:=by omega
       simp[this]
      ·omega
     ·intro e;simp only at e;rcases hX with⟨e1,e2⟩|⟨e1,e2⟩
      ·omega
      ·refine⟨by rw[<-e2];exact hx2',?_⟩;have:K2=0:=by omega
       simp[this]
     ·try simp only[aD,QE,reduceLT,reduceIte,reduceEqDiff,reduceAdd,reduceLeDiff,reduceMul,Nat.reduceBEq,bN,hw,hp1,ES]
      try simp[aY,okVs,okV]
   ·have hx2':X=2:=by simpa using hx2
    have hG2:G=2:=by
     rcases hX with⟨e1,e2⟩|⟨e1,e2⟩
     ·rw[hgd,if_pos (by omega)]
     ·rw[hgd];split
      ·rfl
      ·rw[if_pos (by omega)]
    rw[hG2]
    (repeat (first|simp only[↓QA,QB,reduceLT,reduceIte,reduceEqDiff,reduceAdd,reduceLeDiff,reduceMul,Nat.reduceBEq,bN,hx2]|refine rd0 rfl ?_))
    refine cZ [.cells [.int .i64 s.lo,.int .i64 s.hi],.cells [.func id [] []]] (by first|rfl|simp) ?_;try simp only[QS,QC,reduceLT,reduceIte,reduceEqDiff,reduceAdd,reduceLeDiff,reduceMul,Nat.reduceBEq,bN]
  ·have hk2:k=2:=by
    have h0:¬(k:Int)<2:=by simpa using h
    omega
   obtain⟨q4,q5⟩:=q3 (by omega);have q6:=q1 (by omega);clear q0 q1 q2 q3;cases bb
   ·have h11:¬(K1=1/\K2=1):=by
     rintro⟨e1,e2⟩;rw[e1,e2] at q5;simp at q5
    rw[if_neg q6,if_neg q4,if_neg h11] at hgd
    (repeat (first|simp only[↓QA,QB,reduceLT,reduceIte,reduceEqDiff,reduceAdd,reduceLeDiff,reduceMul,Nat.reduceBEq,bN,h0,hmr]|refine rd0 rfl ?_))
    refine aBP (S:=Unit) ts kvT m (σ.length+1) (fun done _=>∀ n∈dC done P d,sW v n=false) (fun _=>[(0,.ptr p 0),(1,.int .i64 P),(2,.int .i64 d),(41,.ptr (σ.length+1) 0)])
     (fun _=>σ++[.cells [.int .i64 s.lo,.int .i64 s.hi]]) () (fun s=>by simp) (fun s=>hK.map1 _) (fun s=>by simp[Env.get]) (fun n hn=>by simp[dC] at hn) (by simp) ?_ (fun done _ t i left hcan ht hti=>?_) fun done _ left last hcan hdone=>?_
    ·try simp only[aD,QE,reduceLT,reduceIte,reduceEqDiff,reduceAdd,reduceLeDiff,reduceMul,Nat.reduceBEq,bN]
     try simp
    ·have hent:=zR hK hti left;unfold JX;obtain⟨htk,hlst⟩:=hts t ht;have hfl:=htk.fl P hP;have hlst:=hlst P hP;have hsb2:eW (iK t P)<2^7:=AZ fun x hx=>by have:=hfl.2.2 x hx;omega
     have hge:=iP 4 (fun q=>(eW (iK t q):Int)) (show P<4 by omega);have hnum:=kU (eW (iK t P)) v.rain.length (by omega) (by omega);rw[hlst] at hnum;have hfull:=fun (H:Nat) (τ:St)=>EO (.ptr p 0) (rl t.rain) H d (uF hv htk.rain) (by omega) τ
     have hmem:∀ x∈iK t P,(∃ y∈dC ts P d,y=uI t d x):=fun x hx=>⟨_,by simp only[dC,List.mem_flatMap,List.mem_map];exact⟨t,ht,x,hx,rfl⟩,rfl⟩
     have hst:∀ x,x∈dC (t::done) P d->x∈(iK t P).map (uI t d)\/x∈dC done P d:=fun x=>by
      rw[dC,List.flatMap_cons,List.mem_append];exact id
     obtain⟨F,hF⟩:∃ F,iK t P=F:=⟨_,rfl⟩;rw[hF] at hfl hnum hst hmem;simp only[hF] at hge;obtain⟨bb,hbb⟩:∃ bb:Nat,eW F=bb:=⟨_,rfl⟩;rw[hbb] at hnum;simp only[hbb] at hge
     (repeat (first|simp only[↓QA,QB,reduceLT,reduceIte,reduceEqDiff,reduceAdd,reduceLeDiff,reduceMul,Nat.reduceBEq,bN,hent,h0,kvT,sG,wE,i4,Nat.zero_add,hge]|refine rd0 rfl ?_))
     ((first|refine aE (hnum) rfl dd ?_|refine aN (hnum) rfl dd ?_);(repeat (first|simp only[↓QA,QB,reduceLT,reduceIte,reduceEqDiff,reduceAdd,reduceLeDiff,reduceMul,Nat.reduceBEq,bN,hent,h0,kvT,sG,wE,i4,Nat.zero_add,hge,aG]|refine rd0 rfl ?_)))
     refine b9 (S:=Nat) 0 (fun k=>k<=F.length/\∀ x∈(F.take k).map (uI t d),sW v x=false) (fun k=>F.length-k)
      (fun k=>[(0,.ptr p 0),(1,.int .i64 P),(2,.int .i64 d),(11,.ptr (σ.length+2) 0),(41,.ptr (σ.length+1) 0),(56,aG F),(57,.int .i64 F.length),(58,.int .i64 k)])
      (fun k=>σ++[.cells [.int .i64 s.lo,.int .i64 s.hi],.miter m ts.length left (some i),.cells (bP 7 (rl t.rain)),.cells (bP 4 (fun q=>(eW (iK t q):Int)))]) ⟨Nat.zero_le _,by simp⟩ (by simp) ?_ fun k hk=>?_
     ·try simp only[aD,QE,reduceLT,reduceIte,reduceEqDiff,reduceAdd,reduceLeDiff,reduceMul,Nat.reduceBEq,bN,aG]
      try simp
     ·obtain⟨hk,hmm⟩:=hk
      (repeat (first|simp only[↓QA,QB,reduceLT,reduceIte,reduceEqDiff,reduceAdd,reduceLeDiff,reduceMul,Nat.reduceBEq,bN,V0,aG]|refine rd0 rfl ?_))
      refine aF (fun h=>?_) fun h=>?_
      ·have hk1:k<F.length:=by simpa using h
       have hwk:=bJ hk1 (by omega);have hm:=hfl.2.2 _ (List.getElem_mem hk1);have hme:=hmem _ (List.getElem_mem hk1);obtain⟨H,hH⟩:∃ H:Nat,F[k]=(H:Int):=⟨F[k].toNat,by omega⟩;rw[hH] at hme;have hfu:=hfull H;have hx:pts (rl t.rain) H d=uI t d H:=by simp[uI,BK]
       have hxb:=HH hv htk hd (H:Int);rw[hx] at hfu;obtain⟨x,hxe⟩:∃ x,uI t d H=x:=⟨_,rfl⟩;rw[hxe] at hxb hme;simp only[hxe] at hfu;have hnx:sW v x=false->∀ y∈(F.take (k+1)).map (uI t d),sW v y=false:=fun hc y hy=>by
        rw[List.take_succ_eq_append_getElem hk1,List.map_append,List.map_cons,List.map_nil,hH,hxe] at hy;rcases List.mem_append.1 hy with hy|hy
        ·exact hmm y hy
        ·simp at hy;rw[hy];exact hc
       have hwx:IntKind.i64.wrap (x+v.way.lo)=x+v.way.lo:=bL ⟨by omega,by omega⟩;have hcb:sW v x=(decide (v.full<=x)&&decide (x+v.way.lo<=v.ripe)):=rfl
       (repeat (first|simp only[↓QA,QB,reduceLT,reduceIte,reduceEqDiff,reduceAdd,reduceLeDiff,reduceMul,Nat.reduceBEq,bN,hk1,hH,aG]|refine rd0 rfl ?_))
       refine aT (hfu _) ?_
       (repeat (first|simp only[↓QA,QB,reduceLT,reduceIte,reduceEqDiff,reduceAdd,reduceLeDiff,reduceMul,Nat.reduceBEq,bN,h0]|refine rd0 rfl ?_))
       cases h5:decide (v.full<=x)
       ·have hc:sW v x=false:=by rw[hcb,h5];rfl
        (repeat (first|simp only[↓QA,QB,reduceLT,reduceIte,reduceEqDiff,reduceAdd,reduceLeDiff,reduceMul,Nat.reduceBEq,bN,h5,h0,hwk]|refine rd0 rfl ?_))
        refine⟨k+1,⟨by omega,hnx hc⟩,by omega,?_⟩;try simp only[aD,QE,reduceLT,reduceIte,reduceEqDiff,reduceAdd,reduceLeDiff,reduceMul,Nat.reduceBEq,bN,hwk,aG,hp2]
        try simp[aY,okVs,okV,n6]
        try omega
       ·cases h6:decide (x+v.way.lo<=v.ripe)
        ·have hc:sW v x=false:=by rw[hcb,h5,h6];rfl
         (repeat (first|simp only[↓QA,QB,reduceLT,reduceIte,reduceEqDiff,reduceAdd,reduceLeDiff,reduceMul,Nat.reduceBEq,bN,h5,h0,hwx,h6,hwk]|refine rd0 rfl ?_))
         refine⟨k+1,⟨by omega,hnx hc⟩,by omega,?_⟩;try simp only[aD,QE,reduceLT,reduceIte,reduceEqDiff,reduceAdd,reduceLeDiff,reduceMul,Nat.reduceBEq,bN,hwk,aG,hp2]
         try simp[aY,okVs,okV,n6]
         try omega
        ·have hc:sW v x=true:=by rw[hcb,h5,h6];rfl
         have hany:(dC ts P d).any (sW v)=true:=by
          obtain⟨y,hy,rfl⟩:=hme;exact List.any_eq_true.2 ⟨_,hy,hc⟩
         have hG0:G=0:=by rw[hgd,hany];rfl
         rw[hG0]
         (repeat (first|simp only[↓QA,QB,reduceLT,reduceIte,reduceEqDiff,reduceAdd,reduceLeDiff,reduceMul,Nat.reduceBEq,bN,h5,h0,hwx,h6]|refine rd0 rfl ?_))
         refine cZ [.cells [.int .i64 s.lo,.int .i64 s.hi],.miter m ts.length left (some i),.cells (bP 7 (rl t.rain)),.cells (bP 4 (fun q=>(eW (iK t q):Int)))] (by first|rfl|simp) ?_;try simp only[QS,QC,reduceLT,reduceIte,reduceEqDiff,reduceAdd,reduceLeDiff,reduceMul,Nat.reduceBEq,bN]
      ·have hk1:k=F.length:=by simp at h;omega
       rw[hk1,List.take_length] at hmm
       (repeat (first|simp only[↓QA,QB,reduceLT,reduceIte,reduceEqDiff,reduceAdd,reduceLeDiff,reduceMul,Nat.reduceBEq,bN]|refine rd0 rfl ?_))
       refine⟨(false,()),⟨rfl,fun x hx=>?_⟩,by simp,?_⟩
       ·rcases hst x hx with h|h
        ·exact hmm x h
        ·exact hcan x h
       ·try simp only[aD,QE,reduceLT,reduceIte,reduceEqDiff,reduceAdd,reduceLeDiff,reduceMul,Nat.reduceBEq,bN,hp2]
        try simp[aY,okVs,okV]
        try omega
    ·have hany:(dC ts P d).any (sW v)=false:=by
      rw[Bool.eq_false_iff];intro hc;obtain⟨n,hn,hcn⟩:=List.any_eq_true.1 hc;have:n∈dC done P d:=by simp only[dC,List.mem_flatMap,hdone] at hn ⊢;exact hn
      rw[hcan n this] at hcn;cases hcn
     have hG2:G=2:=by rw[hgd,hany];rfl
     rw[hG2]
     (repeat (first|simp only[↓QA,QB,reduceLT,reduceIte,reduceEqDiff,reduceAdd,reduceLeDiff,reduceMul,Nat.reduceBEq,bN]|refine rd0 rfl ?_))
     refine cZ [.cells [.int .i64 s.lo,.int .i64 s.hi],.miter m ts.length left last] (by first|rfl|simp) ?_;try simp only[QS,QC,reduceLT,reduceIte,reduceEqDiff,reduceAdd,reduceLeDiff,reduceMul,Nat.reduceBEq,bN]
   ·have h11:K1=1/\K2=1:=by
     have:=q5.symm;simpa using this
    have hG1:G=1:=by rw[hgd,if_neg q6,if_neg q4,if_pos h11]
    rw[hG1]
    (repeat (first|simp only[↓QA,QB,reduceLT,reduceIte,reduceEqDiff,reduceAdd,reduceLeDiff,reduceMul,Nat.reduceBEq,bN]|refine rd0 rfl ?_))
    refine cZ [.cells [.int .i64 s.lo,.int .i64 s.hi]] (by first|rfl|simp) ?_;try simp only[QS,QC,reduceLT,reduceIte,reduceEqDiff,reduceAdd,reduceLeDiff,reduceMul,Nat.reduceBEq,bN]
end Go.Am.Room.Fa
namespace Go.Am.Room.Fa
def bX:=zz @bR (zz @aH (zz @bS (zz @bQ (zz @aR (zz @cB (zz @cA (zz @cC (zz @List.length_append.{0} (zz @Nat.mul_one (zz @Int.toNat_natCast (zz @eJ (zz @jZ (zz @gT (zz @gZ (zz @hJ (zz @gR (zz @gS (zz @gW (zz @gY (zz @gV (zz @gX (zz @qU (@uZ)))))))))))))))))))))))
theorem AK(v:Farm)(n d:Int)(hf:Fits v):cE T 59 [encFarm v,.int .i64 n,.int .i64 d] (rZ (DE v n d)):=by
 refine aZ (af:=a59) rfl (by simp[a59]) dd ?_;obtain⟨E,hE⟩:∃ E,lL v n d=E:=⟨_,rfl⟩;have hask:=D3 v hf n d;rw[hE] at hask;have hun:=fun σ=>qW [d,(v.rain.length:Int)] σ
 have hu1:=fun (q:Nat) (σ:St) hq=>nY [d,(v.rain.length:Int)] (by simp) q σ hq
 simp only[tH,List.map_cons,List.map_nil] at hun hu1
 (repeat (first|simp only[↓QA,QB,seval,bX,a59]|refine rd0 rfl ?_))
 refine iC (hun _) ?_
 (repeat (first|simp only[↓QA,QB,seval,bX]|refine rd0 rfl ?_))
 by_cases h0':E=0
 ·subst h0';have hE2:=hE;obtain⟨hw,hne⟩:=iV hE2;obtain⟨ha,hd0,hd1⟩:=pP hw;obtain⟨hv,hn0,hn1⟩:=pN ha;have hm:DE v n d=(eN v (aO v []) n.toNat d.toNat,0):=by rw[DE,hE,if_pos rfl]
  rw[hm];simp only[eI] at hd1;obtain⟨N,rfl⟩:∃ N:Nat,n=N:=⟨n.toNat,by omega⟩;obtain⟨D,rfl⟩:∃ D:Nat,d=D:=⟨d.toNat,by omega⟩;rw[Int.toNat_natCast,Int.toNat_natCast];have hen:=nL hf (plot:=max (N:Int) (-1099511627775)) (eo:=jK [(D:Int),(v.rain.length:Int)]) (F:=.func 233 [] [.ptr 1 0]) (σ:=[.cells (aB v),.cells [.lit [.int .i64 D,.int .i64 v.rain.length] true none]]) (fun τ=>hu1 _ _ rfl) hask;have hgr:=J1 v hv (aO v []) (fun t ht=>CO hv ht) hne 0 4 5 (eB ([.cells (aB v),.cells [.lit [.int .i64 D,.int .i64 v.rain.length] true none]]++[.cells (aB v)]) v 0 (aO v [])) ⟨rfl,rfl⟩ N D (by omega) (by omega);try simp only[↓QA,QB,seval,bX,eB,List.cons_append,List.nil_append,List.length_cons,List.length_nil] at hen
  try simp only[↓QA,QB,seval,bX,eB,List.cons_append,List.nil_append,List.length_cons,List.length_nil] at hgr
  refine iC hen ?_
  (repeat (first|simp only[↓QA,QB,seval,bX]|refine rd0 rfl ?_))
  refine aT hgr ?_
  (repeat (first|simp only[↓QA,QB,seval,bX,rZ]|refine rd0 rfl ?_))
 ·have hm:DE v n d=(0,E):=by rw[DE,hE,if_neg h0']
  have hg:(E==0)=false:=by simpa using h0'
  rw[hm];refine iU (kT hf (fun τ=>hu1 _ _ rfl) hask h0') ?_
  (repeat (first|simp only[↓QA,QB,seval,bX,hg,rZ]|refine rd0 rfl ?_))
theorem IP(v:Farm)(n:Int)(hf:Fits v):cE T 74 [encFarm v,.int .i64 n] (mA (xW v n)):=by
 refine aZ (af:=a74) rfl (by simp[a74]) dd ?_;obtain⟨E,hE⟩:∃ E,kA v n=E:=⟨_,rfl⟩;have hask:=BY v hf n;rw[hE] at hask;try simp only[↓QA,QB,seval,bX,a74]
 by_cases h0':E=0
 ·subst h0';have hE2:=hE;obtain⟨hw,hne⟩:=iV hE2;obtain⟨hv,hn0,hn1⟩:=pN hw;have hnr:=hv.nra;have hm:xW v n=(CH v (aO v []) n.toNat,F9 v (aO v []) n.toNat,0):=by rw[xW,hE,if_pos rfl]
  rw[hm];obtain⟨N,rfl⟩:∃ N:Nat,n=N:=⟨n.toNat,by omega⟩;rw[Int.toNat_natCast];have hen:=nL hf (plot:=max (N:Int) (-1099511627775)) (eo:=0) (F:=.func 222 [] []) (σ:=[.cells (aB v)]) (fun τ=>mP _) hask;have hgo:=fun (D:Nat) (hD:D<=v.rain.length) (τ:St)=>J1 v hv (aO v []) (fun t ht=>CO hv ht) hne 0 3 4 ([.cells (aB v),.cells (aB v),.cells (aB v),.map ((aO v []).map kvT),.cells (db v 0 3)]++τ) ⟨rfl,rfl⟩ N D (by omega) hD
  try simp only[↓QA,QB,seval,bX,eB,List.cons_append,List.nil_append,List.length_cons,List.length_nil] at hen
  refine jH hen ?_;obtain⟨ts,hts⟩:∃ ts,aO v []=ts:=⟨_,rfl⟩;rw[hts] at hne ⊢;simp only[hts,aH,List.cons_append,List.nil_append] at hgo;obtain⟨G,hG⟩:∃ G,v.rain.length=G:=⟨_,rfl⟩;obtain⟨R1,hR1⟩:∃ R,CH v ts N=R:=⟨_,rfl⟩;obtain⟨R2,hR2⟩:∃ R,F9 v ts N=R:=⟨_,rfl⟩;obtain⟨p1,hp1⟩:∃ p:Int->Bool,(fun d=>eN v ts N d.toNat==1)=p:=⟨_,rfl⟩;obtain⟨p2,hp2⟩:∃ p:Int->Bool,(fun d=>!(eN v ts N d.toNat==2))=p:=⟨_,rfl⟩;have hR1':(aW 0 (G+1)).filter p1=R1:=by rw[<-hR1,<-hG,<-hp1];rfl
  have hR2':(aW 0 (G+1)).filter p2=R2:=by rw[<-hR2,<-hG,<-hp2];rfl
  have hl1:R1.length<=8:=by rw[<-hR1'];exact Nat.le_trans (List.length_filter_le _ _) (by rw[jR];omega)
  have hl2:R2.length<=8:=by rw[<-hR2'];exact Nat.le_trans (List.length_filter_le _ _) (by rw[jR];omega)
  rw[hR1,hR2];rw[hG] at hgo;have hwG:IntKind.i64.wrap ((G:Int)+1)=((G+1:Nat):Int):=by rw[bL ⟨by omega,by omega⟩];omega
  try simp only[↓QA,QB,seval,bX,hG,hwG]
  refine oJ 4 1 [] rfl ?_;refine oJ 5 1 [] rfl ?_;refine b9 (S:=Nat×List Int×Bool×List Int×Bool) (0,[],false,[],false) (fun a=>a.1<=G+1/\a.2.1++(aW (a.1:Int) (G+1-a.1)).filter p1=R1/\a.2.2.2.1++(aW (a.1:Int) (G+1-a.1)).filter p2=R2) (fun a=>G+1-a.1)
   (fun a=>[(1,.int .i64 N),(4,.lit (a.2.1.map (.int .i64)) false (some 5)),(5,.lit (a.2.2.2.1.map (.int .i64)) false (some 6)),(7,.ptr 4 0),(23,.int .i64 ((G+1:Nat):Int)),(24,.int .i64 a.1)])
   (fun a=>[.cells (aB v),.cells (aB v),.cells (aB v),.map (ts.map kvT),.cells (db v 0 3),.tok 1 a.2.1.length a.2.2.1,.tok 1 a.2.2.2.1.length a.2.2.2.2]) ⟨Nat.zero_le _,by simpa using hR1',by simpa using hR2'⟩ (by simp[aH]) ?_ fun a ha=>?_
  ·try simp only[aD,QE,seval,bX]
   try simp
  ·obtain⟨d,ac1,ex1,ac2,ex2⟩:=a;obtain⟨hd,hc1,hc2⟩:=ha;simp only at hd hc1 hc2;try simp only[↓QA,QB,seval,bX,aD1]
   refine aF (fun h=>?_) fun h=>?_
   ·have hd1:d<G+1:=by
     have h0:(d:Int)<((G+1:Nat):Int):=by simpa using h
     omega
    have hw:=bJ hd1 (by omega);rw[show G+1-d=(G+1-(d+1))+1 by omega] at hc1 hc2;simp only[aW,List.filter_cons] at hc1 hc2;rw[show ((d:Int)+1)=((d+1:Nat):Int) by omega] at hc1 hc2;have ha1:ac1.length<=8:=by
     have:=congrArg List.length hc1;simp only[List.length_append] at this;omega
    have ha2:ac2.length<=8:=by
     have:=congrArg List.length hc2;simp only[List.length_append] at this;omega
    have hgd:=hgo d (by omega);have e1:p1 (d:Int)=(eN v ts N d==1):=by rw[<-hp1];simp only[Int.toNat_natCast]
    have e2:p2 (d:Int) = !(eN v ts N d==2):=by rw[<-hp2];simp only[Int.toNat_natCast]
    obtain⟨g,hg⟩:∃ g,eN v ts N d=g:=⟨_,rfl⟩;rw[hg] at e1 e2;simp only[hg] at hgd;rw[e1] at hc1;rw[e2] at hc2;have hap1:=fun (b0 b1 b2 b3 b4:ABlk) (τ:St)=>nZ (σ:=b0::b1::b2::b3::b4::.tok 1 ac1.length ex1::τ) (l:=ac1) (a:=(d:Int)) (ex:=ex1) (t:=5) (by omega) rfl
    have hap2:=fun (b0 b1 b2 b3 b4 b5:ABlk) (τ:St)=>nZ (σ:=b0::b1::b2::b3::b4::b5::.tok 1 ac2.length ex2::τ) (l:=ac2) (a:=(d:Int)) (ex:=ex2) (t:=6) (by omega) rfl
    try simp only[↓QA,QB,seval,bX]
    refine aT (hgd _) ?_;cases h1:(g==1)
    ·rw[h1] at hc1;simp only[Bool.false_eq_true,if_false] at hc1;cases h2:(g==2)
     ·rw[h2] at hc2;simp only[Bool.not_false,if_true] at hc2;try simp only[↓QA,QB,seval,bX,h1,h2,hap2,hw]
      refine⟨(d+1,ac1,ex1,ac2++[(d:Int)],true),⟨by simp only;omega,hc1,by rw[<-hc2];simp⟩,by simp only;omega,?_⟩;try simp only[aD,QE,seval,bX,hw,tF,List.map_append,List.map_cons,List.map_nil]
      try simp[aY]
     ·rw[h2] at hc2;simp only[Bool.not_true,Bool.false_eq_true,if_false] at hc2;try simp only[↓QA,QB,seval,bX,h1,h2,hw]
      refine⟨(d+1,ac1,ex1,ac2,ex2),⟨by simp only;omega,hc1,hc2⟩,by simp only;omega,?_⟩;try simp only[aD,QE,seval,bX,hw]
      try simp[aY]
    ·rw[h1] at hc1;simp only[if_true] at hc1;have hg1:g=1:=by simpa using h1
     have h2:(g==2)=false:=by rw[hg1];rfl
     rw[h2] at hc2;simp only[Bool.not_false,if_true] at hc2;try simp only[↓QA,QB,seval,bX,h1,hap1]
     try simp only[↓QA,QB,seval,bX,h2,hap2,hw]
     refine⟨(d+1,ac1++[(d:Int)],true,ac2++[(d:Int)],true),⟨by simp only;omega,by rw[<-hc1];simp,by rw[<-hc2];simp⟩,by simp only;omega,?_⟩;try simp only[aD,QE,seval,bX,hw,tF,List.map_append,List.map_cons,List.map_nil]
     try simp[aY]
   ·have hd1:d=G+1:=by
     have h0:¬(d:Int)<((G+1:Nat):Int):=by simpa using h
     omega
    rw[hd1,Nat.sub_self] at hc1 hc2;simp only[aW,List.filter_nil,List.append_nil] at hc1 hc2;subst hc1;subst hc2;try simp only[↓QA,QB,seval,bX,mA]
    try try simp only[QS,QC,seval,bX]
 ·have hm:xW v n=([],[],E):=by rw[xW,hE,if_neg h0']
  have hg:(E==0)=false:=by simpa using h0'
  rw[hm];refine aT (kT hf (fun τ=>mP _) hask h0') ?_;try simp only[↓QA,QB,seval,bX,hg,mA]
  try rfl
theorem QN(q:Nat->Bool)(k:Nat):nN q (k+1)=if q k=true then (k:Int) else nN q k:=rfl
theorem ED(q:Nat->Bool):∀ k,-1<=nN q k/\nN q k<k
 |0=>by simp[nN]
 |k+1=>by
  have:=ED q k;simp only[nN];split<;>omega
theorem v3(v:Farm)(n:Int)(hf:Fits v):cE T 75 [encFarm v,.int .i64 n] (rZ (uS v n)):=by
 refine aZ (af:=a75) rfl (by simp[a75]) dd ?_;obtain⟨E,hE⟩:∃ E,kA v n=E:=⟨_,rfl⟩;have hask:=BY v hf n;rw[hE] at hask
 (repeat (first|simp only[↓QA,QB,seval,bX,a75]|refine rd0 rfl ?_))
 by_cases h0':E=0
 ·subst h0';have hE2:=hE;obtain⟨hw,hne⟩:=iV hE2;obtain⟨hv,hn0,hn1⟩:=pN hw;have hnr:=hv.nra;have hwy:=hv.way;have hm:uS v n=if CL v (aO v []) n.toNat = -1 then (0,9) else (CL v (aO v []) n.toNat,0):=by rw[uS,hE,if_pos rfl]
  rw[hm];obtain⟨N,rfl⟩:∃ N:Nat,n=N:=⟨n.toNat,by omega⟩;rw[Int.toNat_natCast];have hen:=nL hf (plot:=max (N:Int) (-1099511627775)) (eo:=0) (F:=.func 222 [] []) (σ:=[.cells (aB v)]) (fun τ=>mP _) hask;have hgo:=fun (D:Nat) (hD:D<=v.rain.length) (τ:St)=>qS v hv (aO v []) (fun t ht=>CO hv ht) hne 0 3 4 ([.cells (aB v),.cells (aB v),.cells (aB v),.map ((aO v []).map kvT),.cells (db v 0 3)]++τ) ⟨rfl,rfl⟩ N D (by omega) hD
  have hsb:=fun (D:Nat) (hD:D<=v.rain.length)=>B4 hv (fun t ht=>BN hv (but:=[]) ht) hne (show N<v.plots.length by omega) hD
  try simp only[↓QA,QB,seval,bX,eB,List.cons_append,List.nil_append,List.length_cons,List.length_nil] at hen
  refine jH hen ?_;obtain⟨ts,hts⟩:∃ ts,aO v []=ts:=⟨_,rfl⟩;rw[hts] at hne ⊢;simp only[hts,aH,List.cons_append,List.nil_append] at hgo;simp only[hts] at hsb;obtain⟨G,hG⟩:∃ G,v.rain.length=G:=⟨_,rfl⟩;obtain⟨L,hL⟩:∃ L,CL v ts N=L:=⟨_,rfl⟩;have hL':nN (lX v ts N) (G+1)=L:=by rw[<-hL,<-hG];rfl
  have hLb:=ED (lX v ts N) (G+1);rw[hL'] at hLb;rw[hL];rw[hG] at hgo hsb;have hwG:IntKind.i64.wrap ((G:Int)+1)=((G+1:Nat):Int):=by rw[bL ⟨by omega,by omega⟩];omega
  (repeat (first|simp only[↓QA,QB,seval,bX,hG,hwG]|refine rd0 rfl ?_))
  refine b9 (S:=Nat) 0 (fun k=>k<=G+1) (fun k=>G+1-k)
   (fun k=>[(1,.int .i64 N),(2,.ptr 0 0),(6,.ptr 4 0),(8,.int .i64 (nN (lX v ts N) k)),(23,.int .i64 ((G+1:Nat):Int)),(24,.int .i64 k)])
   (fun _=>[.cells (aB v),.cells (aB v),.cells (aB v),.map (ts.map kvT),.cells (db v 0 3)]) (Nat.zero_le _) (by simp[aH]) ?_ fun d hd=>?_
  ·try simp only[aD,QE,seval,bX]
   try simp[nN]
  ·(repeat (first|simp only[↓QA,QB,seval,bX,aEC]|refine rd0 rfl ?_))
   refine aF (fun h=>?_) fun h=>?_
   ·have hd1:d<G+1:=by
     have h0:(d:Int)<((G+1:Nat):Int):=by simpa using h
     omega
    have hw:=bJ hd1 (by omega);have hgd:=hgo d (by omega);have hb:=hsb d (by omega);have hup:=QN (lX v ts N) d;have hge:lX v ts N d=decide ((jV ts N d).hi+v.way.hi<=v.ripe):=rfl;rw[hge] at hup;obtain⟨s,hs⟩:∃ s,jV ts N d=s:=⟨_,rfl⟩;simp only[hs] at hgd hb hup;have hwx:IntKind.i64.wrap (s.hi+v.way.hi)=s.hi+v.way.hi:=bL ⟨by omega,by omega⟩
    (repeat (first|simp only[↓QA,QB,seval,bX]|refine rd0 rfl ?_))
    refine iU (hgd _) ?_;cases h5:decide (s.hi+v.way.hi<=v.ripe)
    ·rw[h5] at hup;simp only[Bool.false_eq_true,if_false] at hup
     (repeat (first|simp only[↓QA,QB,seval,bX,hwx,h5,hw]|refine rd0 rfl ?_))
     refine⟨d+1,by omega,by omega,?_⟩;try simp only[aD,QE,seval,bX,hw,hup]
     try simp[aY]
    ·rw[h5] at hup;simp only[if_true] at hup
     (repeat (first|simp only[↓QA,QB,seval,bX,hwx,h5,hw]|refine rd0 rfl ?_))
     refine⟨d+1,by omega,by omega,?_⟩;try simp only[aD,QE,seval,bX,hw,hup]
     try simp[aY]
   ·have hd1:d=G+1:=by
     have h0:¬(d:Int)<((G+1:Nat):Int):=by simpa using h
     omega
    subst hd1;rw[hL'];by_cases h9:L = -1
    ·subst h9;rw[if_pos rfl]
     (repeat (first|simp only[↓QA,QB,seval,bX,show decide ((-1:Int)<0)=true from rfl,rZ]|refine rd0 rfl ?_))
    ·have hlt:decide (L<0)=false:=by simp;omega
     rw[if_neg h9]
     (repeat (first|simp only[↓QA,QB,seval,bX,hlt,rZ]|refine rd0 rfl ?_))
 ·have hm:uS v n=(0,E):=by rw[uS,hE,if_neg h0']
  have hg:(E==0)=false:=by simpa using h0'
  rw[hm];refine aT (kT hf (fun τ=>mP _) hask h0') ?_
  (repeat (first|simp only[↓QA,QB,seval,bX,hg,rZ]|refine rd0 rfl ?_))
def vO(q:List Int->Bool)(sh:List Int->Nat)(L:List (List Int)):Option (List Int)->Prop
 |none=>∀ c∈L,q c=false
 |some b=>b∈L/\q b=true/\∀ c∈L,q c=true->sh b<sh c\/(sh b=sh c/\(c=b\/cU b c=true))
def HQ(q:List Int->Bool)(sh:List Int->Nat)(o:Option (List Int))(c:List Int):Option (List Int) :=
 if q c then (match o with|none=>some c|some b=>if sh c<sh b then some c else some b) else o
def nP(q:List Int->Bool)(sh:List Int->Nat)(o:Option (List Int))(c:List Int):Option (List Int) :=
 if q c then (match o with|none=>some c|some b=>if sh c<sh b\/(sh c=sh b/\cU c b=true) then some c else some b) else o
theorem BM(q:List Int->Bool)(sh:List Int->Nat):∀ (L2 L1:List (List Int)) (o:Option (List Int)),(L1++L2).Pairwise (fun a b=>cU a b=true)->vO q sh L1 o->vO q sh (L1++L2) (L2.foldl (HQ q sh) o)
 |[],L1,o,_,h=>by simpa using h
 |c::L2,L1,o,hp,h=>by
  have e:L1++c::L2=(L1++[c])++L2:=by simp
  rw[e] at hp ⊢;rw[List.foldl_cons];refine BM q sh L2 (L1++[c]) _ hp ?_;have hlast:∀ a∈L1,cU a c=true:=fun a ha=>(List.pairwise_append.1 (List.pairwise_append.1 hp).1).2.2 a ha c (by simp)
  cases hq:q c
  ·simp only[HQ,hq,Bool.false_eq_true,if_false];cases o with
   |none =>
    intro d hd;rcases List.mem_append.1 hd with hd|hd
    ·exact h d hd
    ·simp at hd;rw[hd];exact hq
   |some b =>
    refine⟨List.mem_append_left _ h.1,h.2.1,fun d hd hqd=>?_⟩;rcases List.mem_append.1 hd with hd|hd
    ·exact h.2.2 d hd hqd
    ·simp at hd;rw[hd,hq] at hqd;cases hqd
  ·simp only[HQ,hq,if_true];cases o with
   |none =>
    refine⟨by simp,hq,fun d hd hqd=>?_⟩;rcases List.mem_append.1 hd with hd|hd
    ·rw[h d hd] at hqd;cases hqd
    ·simp at hd;exact .inr ⟨by rw[hd],.inl hd⟩
   |some b =>
    simp only;split
    ·rename_i hlt;refine⟨by simp,hq,fun d hd hqd=>?_⟩;rcases List.mem_append.1 hd with hd|hd
     ·rcases h.2.2 d hd hqd with h3|⟨h3,_⟩
      ·exact .inl (by omega)
      ·exact .inl (by omega)
     ·simp at hd;exact .inr ⟨by rw[hd],.inl hd⟩
    ·rename_i hlt;refine⟨List.mem_append_left _ h.1,h.2.1,fun d hd hqd=>?_⟩;rcases List.mem_append.1 hd with hd|hd
     ·exact h.2.2 d hd hqd
     ·simp at hd;subst hd;by_cases he:sh b=sh d
      ·exact .inr ⟨he,.inr (hlast b h.1)⟩
      ·exact .inl (by omega)
theorem HT(q:List Int->Bool)(sh:List Int->Nat):∀ (L2 L1:List (List Int)) (o:Option (List Int)),vO q sh L1 o->vO q sh (L1++L2) (L2.foldl (nP q sh) o)
 |[],L1,o,h=>by simpa using h
 |c::L2,L1,o,h=>by
  have e:L1++c::L2=(L1++[c])++L2:=by simp
  rw[e,List.foldl_cons];refine HT q sh L2 (L1++[c]) _ ?_;cases hq:q c
  ·simp only[nP,hq,Bool.false_eq_true,if_false];cases o with
   |none =>
    intro d hd;rcases List.mem_append.1 hd with hd|hd
    ·exact h d hd
    ·simp at hd;rw[hd];exact hq
   |some b =>
    refine⟨List.mem_append_left _ h.1,h.2.1,fun d hd hqd=>?_⟩;rcases List.mem_append.1 hd with hd|hd
    ·exact h.2.2 d hd hqd
    ·simp at hd;rw[hd,hq] at hqd;cases hqd
  ·simp only[nP,hq,if_true];cases o with
   |none =>
    refine⟨by simp,hq,fun d hd hqd=>?_⟩;rcases List.mem_append.1 hd with hd|hd
    ·rw[h d hd] at hqd;cases hqd
    ·simp at hd;exact .inr ⟨by rw[hd],.inl hd⟩
   |some b =>
    simp only;split
    ·rename_i hlt;refine⟨by simp,hq,fun d hd hqd=>?_⟩;rcases List.mem_append.1 hd with hd|hd
     ·rcases h.2.2 d hd hqd with h3|⟨h3,h4⟩
      ·rcases hlt with hl|⟨hl,_⟩
       ·exact .inl (by omega)
       ·exact .inl (by omega)
      ·rcases hlt with hl|⟨hl,hf⟩
       ·exact .inl (by omega)
       ·refine .inr ⟨by omega,.inr ?_⟩;rcases h4 with h4|h4
        ·rw[h4];exact hf
        ·exact lO hf h4
     ·simp at hd;exact .inr ⟨by rw[hd],.inl hd⟩
    ·rename_i hlt;refine⟨List.mem_append_left _ h.1,h.2.1,fun d hd hqd=>?_⟩;rcases List.mem_append.1 hd with hd|hd
     ·exact h.2.2 d hd hqd
     ·simp at hd;subst hd;rw[not_or] at hlt;by_cases he:sh b=sh d
      ·refine .inr ⟨he,?_⟩;have hnf:cU d b=false:=by
        cases hf:cU d b
        ·rfl
        ·exact absurd ⟨he.symm,hf⟩ hlt.2
       by_cases hbf:cU b d=true
       ·exact .inr hbf
       ·exact .inl (yU hnf (by simpa using hbf))
      ·exact .inl (by omega)
theorem TO{q:List Int->Bool}{sh:List Int->Nat}{L K:List (List Int)}(hLK:∀ c,c∈L↔c∈K){a b:Option (List Int)}(ha:vO q sh L a)(hb:vO q sh K b):a=b:=by
 cases a with
 |none =>
  cases b with
  |none=>rfl
  |some b=>have:=ha b ((hLK b).2 hb.1);rw[hb.2.1] at this;cases this
 |some a =>
  cases b with
  |none=>have:=hb a ((hLK a).1 ha.1);rw[ha.2.1] at this;cases this
  |some b =>
   have h1:=ha.2.2 b ((hLK b).2 hb.1) hb.2.1;have h2:=hb.2.2 a ((hLK a).1 ha.1) ha.2.1;rcases h1 with h1|⟨h1,h3⟩
   ·rcases h2 with h2|⟨h2,_⟩<;>omega
   ·rcases h2 with h2|⟨h2,h4⟩
    ·omega
    ·rcases h3 with h3|h3
     ·rw[h3]
     ·rcases h4 with h4|h4
      ·rw[h4]
      ·have:=lO h3 h4;rw[mT] at this;cases this
theorem kL{n:Nat}:∀ {k m:Nat} {c:List Int},c∈vV n k m↔∃ i,m<=i/\i<m+k/\c∈cW n i
 |0,m,c=>by simp[vV];intro i a b;omega
 |k+1,m,c=>by
  rw[vV,List.mem_append,kL (k:=k)];constructor
  ·rintro (h|⟨i,a,b,h⟩)
   ·exact⟨m,Nat.le_refl _,by omega,h⟩
   ·exact⟨i,by omega,by omega,h⟩
  ·rintro⟨i,a,b,h⟩;by_cases e:i=m
   ·subst e;exact .inl h
   ·exact .inr ⟨i,by omega,by omega,h⟩
theorem oU{n:Nat}(hn:n<=6):∀ (k m:Nat),m+k<=7->(vV n k m).Pairwise fun a b=>cU a b=true
 |0,m,_=>List.Pairwise.nil
 |k+1,m,h=>by
  rw[vV,List.pairwise_append];refine⟨?_,oU hn k (m+1) (by omega),fun a ha b hb=>?_⟩
  ·have:=sX ⟨n,by omega⟩ ⟨m,by omega⟩;simp only at this;refine (List.pairwise_iff_forall_sublist.2 fun {a b} hab=>?_);have h1:=(List.pairwise_iff_forall_sublist.1 this) hab;have ha:=(fG n m a (hab.subset (by simp))).1;have hb:=(fG n m b (hab.subset (by simp))).1;simp[cU,ha,hb,h1]
  ·obtain⟨i,hi,_,hbi⟩:=kL.1 hb;have h1:=(fG n m a ha).1;have h2:=(fG n i b hbi).1;have:a.length<b.length:=by omega
   rw[cU,if_neg (by omega)];simpa using this
def uG(n:Nat):List (List Int):=(List.range (2^n)).map (lst n)
theorem XX{n:Nat}(hn:n<=6)(c:List Int):c∈fN n↔c∈uG n:=by
 rw[fN,kL,uG,List.mem_map];constructor
 ·rintro⟨i,_,hi,hc⟩;obtain⟨s,hs,he⟩:=N1 ⟨n,by omega⟩ ⟨i,by omega⟩ c hc;exact⟨s.val,by simpa using hs,he⟩
 ·rintro⟨s,hs,rfl⟩;have hs2:s<2^n:=by simpa using hs
  have hp:2^n<=2^6:=Nat.pow_le_pow_right (by omega) hn;have:=YE ⟨n,by omega⟩ ⟨s,by omega⟩ hs2;exact⟨(lst n s).length,Nat.zero_le _,by have:=AO n s;omega,this⟩
theorem UO{q:List Int->Bool}{sh:List Int->Nat}{n:Nat}(hn:n<=6):(fN n).foldl (HQ q sh) none=(uG n).foldl (nP q sh) none:=by
 have h1:=BM q sh (fN n) [] none (by rw[List.nil_append];exact oU hn (n+1) 0 (by omega)) (fun c hc=>by cases hc);have h2:=HT q sh (uG n) [] none (fun c hc=>by cases hc);exact TO (XX hn) h1 h2
theorem C8(v:Farm)(l:List Truth)(d:Nat)(hands:Int):EH v l d hands=HQ (fun c=>jE v l c d hands) (fun c=>(aU v l c d).length):=by
 funext o c;rfl
theorem L6{v:Farm}(hv:Vd v):k8 v≠[]:=by
 have:RainOk v (v.rain.map fun s=>s.lo):=⟨by simp,fun i h=>by
  have h2:=hv.ra _ (List.getElem_mem h);have e:rl (v.rain.map fun s=>s.lo) i=v.rain[i].lo:=by simp[rl,h]
  rw[e]
  omega⟩
 exact List.ne_nil_of_mem (lP.2 this)
theorem W0{v:Farm}(hv:Vd v){but:List Int}(h:∀ k,k<v.looks.length->but.contains (k:Int)=true):sD v but=true:=by
 obtain⟨c,hc⟩:=List.exists_mem_of_ne_nil _ (L6 hv);have ht:(⟨c,(List.range v.plots.length).map (fun p=>bC v p c but)⟩:Truth)∈aO v but:=by
  refine u0.2 ⟨lP.1 hc,rfl,fun x hx e=>?_⟩;simp only[List.mem_map,List.mem_range] at hx;obtain⟨p,hp,rfl⟩:=hx;have hpl:=(D9 hv hp).1;have:v.plots[p].flower.lo∈bC v p c but:=by
   rw[bC,pG hp,List.mem_filter,kK];refine⟨by omega,?_⟩;rw[jI,List.all_eq_true];intro k hk;have hk2:k<v.looks.length:=by simpa using hk
   rw[List.getElem?_eq_getElem hk2];simp only[oW,h k hk2,Bool.or_true,Bool.true_or]
  rw[e] at this;cases this
 rw[sD];cases hh:aO v but with
 |nil=>rw[hh] at ht;cases ht
 |cons a b=>rfl
theorem P7{v:Farm}(hv:Vd v):∀ c∈cW v.looks.length v.looks.length,sD v c=true:=fun c hc=>by
 have hl:=hv.nlk;exact W0 hv fun k hk=>FQ ⟨v.looks.length,by omega⟩ c hc ⟨k,by omega⟩ hk
theorem sR(f:List Int->Bool)(n:Nat):∀ k m,dU f n (k+1) m=(dU f n k m).or ((cW n (m+k)).find? f)
 |0,m=>by simp only[dU,Nat.add_zero];cases (cW n m).find? f<;>rfl
 |k+1,m=>by
  rw[dU,sR f n k (m+1)];rw[show dU f n (k+1) m=(match (cW n m).find? f with|some l=>some l|none=>dU f n k (m+1)) from rfl];rw[show m+1+k=m+(k+1) by omega];cases (cW n m).find? f<;>rfl
theorem J9{v:Farm}(hv:Vd v):dU (sD v) v.looks.length (v.looks.length+1) 0=some (DC v):=by
 have hl:=hv.nlk;have h1:=JJ ⟨v.looks.length,by omega⟩;simp only at h1;obtain⟨w,hw⟩:=List.length_eq_one_iff.1 h1;have hs:=P7 hv w (by rw[hw];simp);rw[sR,DC,Nat.zero_add,hw];cases dU (sD v) v.looks.length v.looks.length 0 with
 |some l=>rfl
 |none=>simp[hs]
theorem ML(n:Nat):[]∈cW n 0:=by simp[cW]
end Go.Am.Room.Fa
namespace Go.Am.Room.Fa
def bV:=zz @bR (zz @aH (zz @bS (zz @bQ (zz @aR (zz @cB (zz @cA (zz @cC (zz @List.length_append.{0} (zz @Nat.mul_one (zz @Int.toNat_natCast (zz @eJ (zz @jZ (zz @gT (zz @gZ (zz @hJ (zz @gR (zz @gS (zz @gW (zz @gY (zz @gV (zz @gX (@tF))))))))))))))))))))))
theorem EF(v:Farm)(hf:Fits v):cE T 78 [encFarm v] (wO (AJ v)):=by
 refine aZ (af:=a78) rfl (by simp[a78]) dd ?_;try simp only[↓QA,QB,seval,bV,a78]
 (refine aE (K0 v hf) rfl dd ?_;try simp only[↓QA,QB,seval,bV,enc3])
 cases h0:((check v).2.2==0)
 ·have h0':(check v).2.2≠0:=by simpa using h0
  have hwo:AJ v=([],(check v).2.2):=if_neg h0';rw[hwo];try simp only[↓QA,QB,seval,bV,h0,wO]
  try rfl
 ·have h0':(check v).2.2=0:=by simpa using h0
  have hwo:AJ v=(DC v,0):=if_pos h0';have hv:=vd_of_check h0';have hnl:=hv.nlk;have hwf:=J9 hv;rw[<-aH5 _ _ (by omega)] at hwf;rw[hwo];obtain⟨W,hW⟩:∃ W,DC v=W:=⟨_,rfl⟩;rw[hW] at hwf ⊢;obtain⟨n,hn⟩:∃ n,v.looks.length=n:=⟨_,rfl⟩;rw[hn] at hwf hnl;have hp:2^n<=2^4:=Nat.pow_le_pow_right (by omega) hnl;have hshl:=yM n (by omega);obtain⟨P,hP⟩:∃ P,2^n=P:=⟨_,rfl⟩;have hbl:∀ s,s<P->ButIs s (lst n s):=fun s hs=>Z8 (by omega) (by omega)
  rw[hP] at hp hshl hwf;obtain⟨q,hq⟩:∃ q,sD v=q:=⟨_,rfl⟩;have hqd:∀ l,decide ((0:Int)<((aO v l).length:Int))=q l:=fun l=>by
   rw[<-hq,sD];cases aO v l<;>simp
  rw[hq] at hwf;try simp only[↓QA,QB,seval,bV,h0,hn,hshl]
  refine b9 (S:=Nat×Option (List Int)) (0,none) (fun x=>x.1<=P/\mC q n (P-x.1) x.1 x.2=some W/\(x.2.getD []).length<=n) (fun x=>P-x.1)
   (fun x=>[(1,.ptr 0 0),(2,aG (x.2.getD [])),(4,.bool x.2.isSome),(19,.int .i64 P),(20,.int .i64 x.1)])
   (fun x=>[.cells (aB v)]) ⟨by simp,by simpa using hwf,by simp⟩ (by simp[aB,aG]) ?_ fun x hx=>?_
  ·try simp only[aD,QE,seval,bV,aG,Option.getD_none,Option.isSome_none]
   try simp[clr,clrs]
  ·obtain⟨s,o⟩:=x;obtain⟨hs,hfo,hol⟩:=hx;simp only at hs hfo hol;try simp only[↓QA,QB,seval,bV,aDY]
   refine aF (fun h=>?_) fun h=>?_
   ·have hs1:s<P:=by simpa using h
    have hw:=bJ hs1 (by omega);have hll:=AO n s;have hlk:=FA [.cells (aB v)] v s (lst n s) hv (hbl s hs1);have hlo:=kU s n (by omega) (by omega);have hlen:=IZ [.cells (aB v)] [.cells (db v s 2)] v s (aO v (lst n s)) 2 rfl;rw[show P-s=(P-(s+1))+1 by omega] at hfo;simp only[mC] at hfo;obtain⟨L,hL⟩:∃ L,lst n s=L:=⟨_,rfl⟩;rw[hL] at hfo hll hlk hlo hlen;have hqL:=hqd L;try simp only[↓QA,QB,seval,bV,eB,List.cons_append,List.nil_append,List.length_cons,List.length_nil] at hlk hlen
    try simp only[↓QA,QB,seval,bV,hn,Option.getD_some]
    (refine aE (hlo) rfl dd ?_;try simp only[↓QA,QB,seval,bV])
    cases o with
    |none =>
     have hst:i6 q none L=if q L=true then some L else none:=rfl
     try simp only[↓QA,QB,seval,bV,Option.isSome_none,Option.getD_none]
     refine jH hlk ?_;try simp only[↓QA,QB,seval,bV,hlen,hqL]
     cases hsm:q L
     ·rw[hsm] at hst;simp only[Bool.false_eq_true,if_false] at hst;rw[hst] at hfo;try simp only[↓QA,QB,seval,bV,hw]
      refine⟨(s+1,none),⟨by simp only;omega,hfo,by simp⟩,by simp only;omega,?_⟩;try simp only[aD,QE,seval,bV,hw,Option.isSome_none,Option.getD_none]
      try simp[aG,aY]
     ·rw[hsm] at hst;simp only[if_true] at hst;rw[hst] at hfo;try simp only[↓QA,QB,seval,bV,hw]
      refine⟨(s+1,some L),⟨by simp only;omega,hfo,by simpa using hll⟩,by simp only;omega,?_⟩;try simp only[aD,QE,seval,bV,hw,Option.isSome_some,Option.getD_some]
      try simp[aG,aY]
    |some b =>
     simp only[Option.getD_some] at hol;simp only[Option.isSome_some,EZ];try simp only[↓QA,QB,seval,bV,Option.isSome_some,Option.getD_some]
     have fin:∀ (hfw:cU b L=false),i6 q (some b) L=if q L=true then some L else some b:=fun hfw=>by simp only[i6,hfw];rfl
     cases h1:decide ((b.length:Int)<(L.length:Int))
     ·have h1':¬b.length<L.length:=by simpa using h1
      try simp only[↓QA,QB,seval,bV,Option.getD_some,h1]
      cases h2:((L.length:Int)==(b.length:Int))
      ·have h2':¬b.length=L.length:=by intro h;rw[h] at h2;simp at h2
       have hst:=fin (by simp[cU,h1',h2']);try simp only[↓QA,QB,seval,bV,h2]
       refine jH hlk ?_;try simp only[↓QA,QB,seval,bV,hlen,hqL]
       cases hsm:q L
       ·rw[hsm] at hst;simp only[Bool.false_eq_true,if_false] at hst;rw[hst] at hfo;try simp only[↓QA,QB,seval,bV,hw]
        refine⟨(s+1,some b),⟨by simp only;omega,hfo,by simpa using hol⟩,by simp only;omega,?_⟩;try simp only[aD,QE,seval,bV,hw,Option.isSome_some,Option.getD_some]
        try simp[aG,aY]
       ·rw[hsm] at hst;simp only[if_true] at hst;rw[hst] at hfo;try simp only[↓QA,QB,seval,bV,hw]
        refine⟨(s+1,some L),⟨by simp only;omega,hfo,by simpa using hll⟩,by simp only;omega,?_⟩;try simp only[aD,QE,seval,bV,hw,Option.isSome_some,Option.getD_some]
        try simp[aG,aY]
      ·have h2':b.length=L.length:=by simp at h2;omega
       try simp only[↓QA,QB,seval,bV,Option.getD_some,h2]
       (refine aE (F7 L b (by omega) (by omega)) rfl dd ?_;try simp only[↓QA,QB,seval,bV,E5,Option.getD_some])
       cases h3:less b L
       ·have hst:=fin (by simp[cU,h2',h3]);try simp only[↓QA,QB,seval,bV,h3]
        refine jH hlk ?_;try simp only[↓QA,QB,seval,bV,hlen,hqL]
        cases hsm:q L
        ·rw[hsm] at hst;simp only[Bool.false_eq_true,if_false] at hst;rw[hst] at hfo;try simp only[↓QA,QB,seval,bV,hw]
         refine⟨(s+1,some b),⟨by simp only;omega,hfo,by simpa using hol⟩,by simp only;omega,?_⟩;try simp only[aD,QE,seval,bV,hw,Option.isSome_some,Option.getD_some]
         try simp[aG,aY]
        ·rw[hsm] at hst;simp only[if_true] at hst;rw[hst] at hfo;try simp only[↓QA,QB,seval,bV,hw]
         refine⟨(s+1,some L),⟨by simp only;omega,hfo,by simpa using hll⟩,by simp only;omega,?_⟩;try simp only[aD,QE,seval,bV,hw,Option.isSome_some,Option.getD_some]
         try simp[aG,aY]
       ·have hfw:cU b L=true:=by simp[cU,h2',h3]
        have hst:i6 q (some b) L=some b:=by simp only[i6,hfw,if_true]
        rw[hst] at hfo;try simp only[↓QA,QB,seval,bV,h3,hw]
        refine⟨(s+1,some b),⟨by simp only;omega,hfo,by simpa using hol⟩,by simp only;omega,?_⟩;try simp only[aD,QE,seval,bV,hw,Option.isSome_some,Option.getD_some]
        try simp[aG,aY]
     ·have h1':b.length<L.length:=by simpa using h1
      have h2':¬b.length=L.length:=by omega
      have hfw:cU b L=true:=by simp[cU,h1',h2']
      have hst:i6 q (some b) L=some b:=by simp only[i6,hfw,if_true]
      rw[hst] at hfo;try simp only[↓QA,QB,seval,bV,h1,hw]
      refine⟨(s+1,some b),⟨by simp only;omega,hfo,by simpa using hol⟩,by simp only;omega,?_⟩;try simp only[aD,QE,seval,bV,hw,Option.isSome_some,Option.getD_some]
      try simp[aG,aY]
   ·have hs1:s=P:=by simp at h;omega
    rw[hs1,Nat.sub_self] at hfo;simp only[mC] at hfo;subst hfo;try simp only[↓QA,QB,seval,bV,wO,Option.getD_some]
    try try simp only[QS,QC,seval,bV]
end Go.Am.Room.Fa
namespace Go.Am.Room
variable {α:Type}
def fL(c:α->List AV):List α->List AV
 |[]=>[]
 |y::l=>c y++fL c l
structure Cells (enc:α->AV) (c:α->List AV) (sz:Nat):Prop where
 agg:∀ x,enc x = .agg (c x)
 len:∀ x,(c x).length=sz
 one:sz≠1/\sz≠0
 cell:∀ x,(c x).all (·.cell)=true
 data:∀ x,jB (enc x)
variable {enc:α->AV} {c:α->List AV} {sz:Nat}
theorem pL(h:Cells enc c sz):∀ l,(fL c l).length=l.length*sz
 |[]=>by simp[fL]
 |y::l=>by simp only[fL,List.length_append,h.len,List.length_cons,pL h l,Nat.add_mul];omega
theorem y6(h:Cells enc c sz):∀ l:List α,(l.map enc).flatMap AV.cells=fL c l
 |[]=>rfl
 |y::l=>by rw[List.map_cons,List.flatMap_cons,y6 h l,h.agg];rfl
theorem JZ(h:Cells enc c sz):∀ (l:List α) (k:Nat) (hk:k<l.length),((fL c l).drop (k*sz)).take sz=c l[k]
 |[],k,hk=>by simp at hk
 |y::l,0,hk=>by
  simp only[fL,Nat.zero_mul,List.drop_zero,List.getElem_cons_zero];rw[<-h.len y,List.take_left]
 |y::l,k+1,hk=>by
  have:=JZ h l k (by simpa using hk);have e:(k+1)*sz=(c y).length+k*sz:=by rw[h.len,Nat.add_mul];omega
  simp only[fL,e,List.getElem_cons_succ];rw[List.drop_append,List.drop_eq_nil_of_le (by omega),List.nil_append,Nat.add_sub_cancel_left];exact this
theorem FD(h:Cells enc c sz):∀ (l:List α) (k:Nat) (z:α),k<l.length->(fL c l).take (k*sz)++c z++(fL c l).drop (k*sz+sz)=fL c (l.set k z)
 |[],k,z,hk=>by simp at hk
 |y::l,0,z,hk=>by
  simp only[fL,Nat.zero_mul,List.take_zero,List.nil_append,Nat.zero_add,List.set_cons_zero];rw[<-h.len y,List.drop_left]
 |y::l,k+1,z,hk=>by
  have:=FD h l k z (by simpa using hk);have e:(k+1)*sz=(c y).length+k*sz:=by rw[h.len,Nat.add_mul];omega
  have e2:(k+1)*sz+sz=(c y).length+(k*sz+sz):=by omega
  simp only[fL,List.set_cons_succ];rw[e,show (c y).length+k*sz+sz=(c y).length+(k*sz+sz) by omega,List.take_append,List.drop_append,List.drop_eq_nil_of_le (by omega),List.take_of_length_le (by omega),Nat.add_sub_cancel_left,Nat.add_sub_cancel_left,List.nil_append,<-this];simp only[List.append_assoc]
theorem BD(h:Cells enc c sz):∀ l:List α,rT sz l.length (fL c l)=l.map enc
 |[]=>rfl
 |y::l=>by
  have h1:=h.one.1;simp only[List.length_cons,rT,fL,List.map_cons,h1,false_and,if_false];rw[<-h.len y,List.take_left,List.drop_left,h.len y,BD h l,h.agg]
theorem yP(h:Cells enc c sz)(l:List α):aI sz (l.map enc)=true:=vP sz enc l fun y=>by
 rw[h.agg];simp only[cG,AV.cells,h.len,beq_self_eq_true,Bool.true_and];exact h.cell y
theorem H0(h:Cells enc c sz){σ:St}{m id d:Nat}{l:List α}(hm:¬id<m)(hl:aM σ id=some (fL c l)):snap σ m (d+1) (.ref id 0 l.length sz)=some (.lit (l.map enc) false none):=by
 have hv:jJ σ (.ref id 0 l.length sz)=some (l.map enc):=by
  simp only[jJ,hl,pL h,Nat.zero_add,Nat.le_refl,if_true,List.drop_zero,BD h]
 have h0:=h.one.2;have h1:decide (0<sz)=true:=by simp;omega
 have hs:snaps σ m d (l.map enc)=some (l.map enc):=snaps_ok0 σ m d _ (cL h.data l).1;simp only[snap,hm,if_false,hv,yP h,h1,Bool.and_self,if_true,hs]
theorem JP(h:Cells enc c sz){b:Nat}{σ:St}{l:List α}(h0:l≠[])(hl:l.length*b<=room)(hl2:l.length<=room):j8 sz b σ (.lit [] true none) (.lit (l.map enc) false none)=some (.ref σ.length 0 l.length sz,σ++[.cells (fL c l)]):=by
 have h1:l.length≠0:=fun e=>h0 (List.length_eq_zero_iff.1 e)
 simp only[j8,jJ,List.length_map,h1,if_false,List.length_nil,Nat.zero_add,List.nil_append,y6 h];simp[rI,yP h,hl,hl2]
theorem vE(h:Cells enc c sz)(m:Nat)(hc:∀ x,okVs m (c x)):∀ l,okVs m (fL c l)
 |[]=>trivial
 |y::l=>wS (hc y) (vE h m hc l)
end Go.Am.Room
namespace Go.Am.Room.Fa
theorem K3:∀ a b:List Int,decide (AD a b<0)=less a b
 |[],[]=>rfl
 |[],b::bs=>rfl
 |a::az,[]=>rfl
 |a::az,b::bs=>by
  have ih:=K3 az bs;simp only[AD,less,C2];by_cases h1:a<b
  ·simp[h1,show ¬a=b by omega]
  ·by_cases h2:b<a
   ·simp[h1,h2,show ¬a=b by omega]<;>omega
   ·have:a=b:=by omega
    subst this;simp[ih]
def kD(x:Plot):List AV:=[.str x.name,.int .i64 x.flower.lo,.int .i64 x.flower.hi,.int .i64 x.hands]
theorem iW:Cells bY kD 4:=⟨fun x=>by simp only[bY,kD],fun x=>rfl,by decide,fun x=>rfl,pQ⟩
theorem FI(m:Nat)(x:Plot):okVs m (kD x):=⟨trivial,trivial,trivial,trivial,trivial⟩
def KK:List AV:=[.str ⟨#[]⟩,.int .i64 0,.int .i64 0,.int .i64 0]
theorem MV(b0 b1 b2 b3 b4 b5:ABlk)(l:List Plot):qP 4 [b0,b1,b2,b3,b4,b5,.cells (List.replicate l.length KK).flatten] (.ref 6 0 l.length 4) (.lit (l.map bY) false none)=some (.int .i64 l.length,[b0,b1,b2,b3,b4,b5,.cells (fL kD l)]):=by
 have h1:aI 4 (l.map bY)=true:=yP iW l;have h2:(l.map bY).take l.length=l.map bY:=List.take_of_length_le (by simp);have h3:=pL iW l;have h4:((List.replicate l.length KK).flatten).length=l.length*4:=by simp[KK]
 have h5:eG (List.replicate l.length KK).flatten 0 (fL kD l)=some (fL kD l):=by
  simp only[eG];rw[if_pos (by omega),List.drop_of_length_le (by omega)];simp
 have h6:=y6 iW l;simp[qP,jJ,rI,h1,aM,h2,h5,h6]
theorem C1:∀ (l:List Plot) (k:Nat) (hk:k<l.length),(fL kD l)[k*4+3]? = some (.int .i64 l[k].hands)
 |[],k,hk=>by simp at hk
 |y::l,0,hk=>rfl
 |y::l,k+1,hk=>by
  have:=C1 l k (by simpa using hk);have e:(k+1)*4+3=(kD y).length+(k*4+3):=by simp only[kD,List.length_cons,List.length_nil];omega
  simp only[fL,List.getElem_cons_succ];rw[e,List.getElem?_append_right (by omega),Nat.add_sub_cancel_left];exact this
def vR(n:Nat)(p:Nat->Bool)(g:Nat):Prop:=g<2^n/\∀ i,g.testBit i=(decide (i<n)&&p i)
theorem E2{k:Nat}{p:Nat->Bool}{g:Nat}(h:vR k p g):(p k=true->vR (k+1) p (g|||2^k))/\(p k=false->vR (k+1) p g):=by
 obtain⟨h1,h2⟩:=h;have hlt:2^k<2^(k+1):=Nat.pow_lt_pow_right (by omega) (by omega);constructor
 ·intro hp;refine⟨Nat.or_lt_two_pow (by omega) hlt,fun i=>?_⟩;rw[Nat.testBit_or,h2,Nat.testBit_two_pow];by_cases e:k=i
  ·subst e;simp[hp]
  ·rw[Bool.eq_iff_iff];simp[e];intro _;omega
 ·intro hp;refine⟨by omega,fun i=>?_⟩;rw[h2];by_cases e:i=k
  ·subst e;simp[hp]
  ·rw[Bool.eq_iff_iff];simp;intro _;omega
theorem T0{n s g:Nat}{p:Nat->Bool}(hs:s<2^n)(hn:n<=60)(hg:vR n p g):(HB s g=0)↔∀ x∈lst n s,p x.toNat=true:=by
 have hp:=yO hn;have hb:=fun i=>XR (b:=g) (by have:=hg.1;omega) s i (by omega)
 constructor
 ·intro h x hx;obtain⟨h1,h2⟩:=w6.1 hx;have:=hb x.toNat
  rw[h,Nat.zero_testBit,h2,hg.2] at this;simp at this;exact this.2
 ·intro h;refine Nat.eq_of_testBit_eq fun i=>?_
  rw[hb,Nat.zero_testBit,hg.2];cases hsi:s.testBit i
  ·rfl
  ·by_cases hi:i<n
   ·have:=h (i:Int) (w6.2 ⟨by omega,by simpa using hsi⟩);rw[Int.toNat_natCast] at this;simp[hi,this]
   ·rw[Nat.testBit_lt_two_pow (Nat.lt_of_lt_of_le hs (Nat.pow_le_pow_right (by omega) (by omega)))] at hsi;cases hsi
theorem aBE{n s g:Nat}{p:Nat->Bool}(hg:vR n p g):lst n (s &&& g)=(lst n s).filter fun x=>p x.toNat:=by
 simp only[lst];rw[List.filter_filter];refine List.filter_congr fun x hx=>?_
 have hx0:=(cX _ _ _).1 hx;rw[<-uE,<-uE,Nat.testBit_and,hg.2];have:decide (x.toNat<n)=true:=by simp;omega
 rw[this,Bool.true_and,Bool.and_comm]
end Go.Am.Room.Fa
