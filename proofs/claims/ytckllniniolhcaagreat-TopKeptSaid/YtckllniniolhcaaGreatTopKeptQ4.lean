/- A part of the proof of TopKept: an abstract machine, or what functions come to on it. -/
import Derived.Test.YtckllniniolhcaaGreatTopKeptQ3
open Nat (reduceLT reduceEqDiff reduceAdd reduceLeDiff reduceMul)
set_option linter.unusedVariables false
set_option linter.unusedSimpArgs false
set_option linter.defProp false
set_option maxRecDepth 8000
namespace Go.Am.Room.Tu
def vS:=zz @gH (zz @fJ (zz @aK (zz @gJ (zz @fB (zz @fA (zz @List.length_append.{0} (zz @KP (zz @JX (zz @KK (zz @JR (zz @MB (zz @IX (zz @KY (zz @Nat.mul_one (zz @Int.toNat_natCast (zz @jK (zz @jQ (zz @jD (zz @jA (zz @pK (zz @mZ (zz @mU (zz @mY (zz @wB (zz @gZ (zz @hJ (zz @cH (zz @bH (zz @dY (zz @dX (zz @iA (@iB))))))))))))))))))))))))))))))))
theorem m9:[SK.i,.i,.i,.i,.i,.i,.i,.i]=List.replicate 8 .i:=rfl
theorem aIR(a b:Ky):bI (List.replicate 8 .i) (bL a) (bL b)=some (decide (a=b)):=by
 have:=(IQ ⟨[],0,[],[],[]⟩).eq a b;simpa[iX,mV] using this
structure TFam {Y:Type} (Z:Y×List Ky->St) (c:Car) (m p q qh:Nat) (hd:Int) (N:Nat):Prop where
 mem:∀ y,MemAt (fun M=>Z (y,M)) (tb c m) (kEs c) p m N
 atq:∀ z τ,aE (Z z++τ) q=some [.ptr p 0]
 ath:∀ z τ,aE (Z z++τ) qh=some [.int .i64 hd]
namespace TFam
variable {Y:Type} {Z:Y×List Ky->St} {c:Car} {m p q qh N:Nat} {hd:Int}
theorem len(h:TFam Z c m p q qh hd N)(z:Y×List Ky):(Z z).length=N:=(h.mem z.1).len z.2
theorem atp(h:TFam Z c m p q qh hd N)(z:Y×List Ky)(τ:St):aE (Z z++τ) p=some (tb c m):=(h.mem z.1).at1 z.2 τ
theorem base(h:TFam Z c m p q qh hd N)(z:Y×List Ky)(τ:St)(k:Nat):aE (Z z++τ) (N+k)=aE τ k:=by rw[<-h.len z];exact mA _ _ _
theorem base0(h:TFam Z c m p q qh hd N)(z:Y×List Ky)(τ:St):aE (Z z++τ) N=aE τ 0:=h.base z τ 0
theorem bset(h:TFam Z c m p q qh hd N)(z:Y×List Ky)(τ:St)(k:Nat)(y:ABlk):(Z z++τ).set (N+k) y=Z z++τ.set k y:=by rw[<-h.len z];exact lF _ _ _ _
theorem bset0(h:TFam Z c m p q qh hd N)(z:Y×List Ky)(τ:St)(y:ABlk):(Z z++τ).set N y=Z z++τ.set 0 y:=h.bset z τ 0 y
theorem times(h:TFam Z c m p q qh hd N)(hv:Vd c)(z:Y×List Ky)(τ:St)(w:Ky)(hw:KyOk w):
  mH T (.func 273 [] []) [.ptr p 0,mV w] (Z z++τ) (HE c w) (Z (z.1,bA z.2 w)++τ):=CO ((h.mem z.1).app τ) hv z.2 w hw
theorem seen(h:TFam Z c m p q qh hd N)(hv:Vd c)(z:Y×List Ky)(τ:St)(t:Nat->Int):
  gB T (.func 407 [.ptr p 0] []) [.int .i64 hd,.agg (hrs t)] (Z z++τ) (.bool (IK c hd t)):=ZN ((h.mem z.1).app τ) hv z.2 hd t
end TFam
def yH(q qh N:Nat):AV:=.func 408 [] [.ptr q 0,.ptr (N+2) 0,.ptr (N+3) 0,.ptr (N+1) 0,.ptr qh 0,.ptr N 0,.ptr (N+4) 0]
theorem qM(q qh N:Nat):yH q qh N = .func 408 [] [.ptr q 0,.ptr (N+2) 0,.ptr (N+3) 0,.ptr (N+1) 0,.ptr qh 0,.ptr N 0,.ptr (N+4) 0]:=by simp only[yH]
def tF(c:Car)(hd:Int)(id p q qh N:Nat)(wm:Int)(A:Nat->Int)(la:Ky):St:=[.cells [.yield id],.cells [.func 407 [.ptr p 0] []],.cells (bL (sC hd wm A (lU c hd))),.cells (bL la),.cells [yH q qh N]]
theorem gN(c:Car)(hd:Int)(id p q qh N:Nat)(wm:Int)(A:Nat->Int)(la:Ky)(τ:St):tF c hd id p q qh N wm A la++τ = .cells [.yield id]::.cells [.func 407 [.ptr p 0] []]::.cells (bL (sC hd wm A (lU c hd)))::.cells (bL la)::.cells [yH q qh N]::τ:=by simp[tF]
def Agr(c:Car)(l:List Int)(A:Nat->Int):Prop:=(∀ j,j<l.length->A j=gF l j)/\∀ j,c.lots.length<=j->A j=0
theorem XJ{c:Car}{l:List Int}{A:Nat->Int}(h:Agr c l A)(hl:l.length<c.lots.length)(n:Int):Agr c (l++[n]) (nE A l.length n):=by
 refine⟨fun j hj=>?_,fun j hj=>?_⟩
 ·simp only[nE];by_cases e:j=l.length
  ·subst e;simp[gF]
  ·have:j<l.length:=by simp at hj;omega
   rw[if_neg e,h.1 j this];simp[gF,List.getElem?_append_left this]
 ·simp only[nE];rw[if_neg (by omega)];exact h.2 j hj
theorem aA9{c:Car}{l:List Int}{n:Int}{A:Nat->Int}(h:Agr c (l++[n]) A):Agr c l A:=by
 refine⟨fun j hj=>?_,h.2⟩;rw[h.1 j (by simp;omega)];simp[gF,List.getElem?_append_left hj]
theorem aBW{c:Car}{l:List Int}{A:Nat->Int}(h:Agr c l A)(hl:l.length=c.lots.length)(hd wm:Int)(th:Nat):sC hd wm A th=sC hd wm (gF l) th:=by
 have:∀ j,A j=gF l j:=fun j=>by
  by_cases hj:j<l.length
  ·exact h.1 j hj
  ·rw[h.2 j (by omega)];simp[gF,List.getElem?_eq_none (show l.length<=j by omega)]
 simp only[sC,this]
theorem aI2(hd wm:Int)(A:Nat->Int)(th:Nat)(n:Int){k:Nat}(hk:k<5):(bL (sC hd wm A th)).take (2+k)++[AV.int .i64 n]++(bL (sC hd wm A th)).drop (2+k+1)=bL (sC hd wm (nE A k n) th):=by
 have:k=0\/k=1\/k=2\/k=3\/k=4:=by omega
 rcases this with rfl|rfl|rfl|rfl|rfl<;>rfl
def LH{Y:Type}(Z ZD:Y×List Ky->St)(c:Car)(hd:Int)(id p q qh N:Nat)(wm:Int)(l:List Int)(τ:St)(r:(Ky×(Y×List Ky))×Bool)(o:Out):Prop :=
 o.v = .bool r.2/\∃ A τ',o.σ=sF Z ZD (r.1.2,r.2)++(tF c hd id p q qh N wm A r.1.1++(τ++τ'))/\(r.2=true->Agr c l A)
def aLH{Y:Type}(Z:Y×List Ky->St)(c:Car)(hd:Int)(f:Way->Y×List Ky->(Y×List Ky)×Bool)(id p q qh N:Nat)(wm:Int)(l:List Int)(x:Lot)(H:Int)(rs:List (List Int))(τ:St)(R:(Ky×(Y×List Ky))×Bool)(k:Nat)(e:Env)(σ:St):Prop :=
 Env.get e 0 = .int .i64 l.length/\Env.get e 2 = .ptr (N+2) 0/\Env.get e 7 = .ptr (N+4) 0/\∃ n la z A τ1,Env.get e 10 = .ptr (N+(τ.length+1+1+1+1+1)) 0/\Env.get e 11 = .int .i64 n/\x.green.lo<=n/\n<=H+1/\k=(H+1-n).toNat/\Agr c l A /\
   σ=Z z++(tF c hd id p q qh N wm A la++(τ++(.cells [.int .i64 x.green.lo,.int .i64 H]::τ1)))/\aV (stepF c hd f) (((aS n k).flatMap fun n=>lv rs (l++[n])).map (Way.mk wm)) (la,z)=R
theorem RC{Y:Type}{Z ZD:Y×List Ky->St}{c:Car}{m p q qh N id:Nat}{hd:Int}(hR:TFam Z c m p q qh hd N)(f:Way->Y×List Ky->(Y×List Ky)×Bool)(wm:Int)(hy:yB Z ZD id (fun t=>[mV (kyW c hd t)]) (WayOk c) f)(hv:Vd c)(hwm:0<=wm/\wm<=6)(l:List Int)(la:Ky)(z:Y×List Ky)(A:Nat->Int)(τ:St)(hl:l.length=c.lots.length)(hA:Agr c l A)(hbd:∀ x∈l,0<=x/\x<=40):
  Run T (.callv (yH q qh N) [.int .i64 l.length] (Z z++(tF c hd id p q qh N wm A la++τ))) (LH Z ZD c hd id p q qh N wm l τ (stepF c hd f ⟨wm,l⟩ (la,z))):=by
 have hnl:=hv.nlt;have hwo:WayOk c ⟨wm,l⟩:=⟨hwm,hl,hbd⟩;have hko:=aAP hv (hd:=hd) hwo;have hkt:=PE (c:=c) (hd:=hd) (w:=⟨wm,l⟩) (by simp only;omega);have hke:sC hd wm A (lU c hd)=kyW c hd ⟨wm,l⟩:=aBW hA hl _ _ _;have hseen:IK c hd (kyT c (kyW c hd ⟨wm,l⟩))=rD c hd ⟨wm,l⟩:=by rw[hkt];rfl
 have hti:=fun τ=>hR.times hv z τ _ hko
 have hse:=fun z τ=>hR.seen hv z τ (kyT c (kyW c hd ⟨wm,l⟩))
 have hcall:∀ x τ,Run T (.callv (.yield id) [mV (kyW c hd ⟨wm,l⟩)] (Z x++τ)) fun o=>o.v = .bool (f ⟨wm,l⟩ x).2/\∃ τ',o.σ=sF Z ZD (f ⟨wm,l⟩ x)++(τ++τ'):=hy ⟨wm,l⟩ hwo
 have hE:((l.length:Int)==(c.lots.length:Int))=true:=by rw[hl];simp
 have hfin:∀ (z:Y×List Ky) (la:Ky) (τ:St),Z z++(.cells [.yield id]::.cells [.func 407 [.ptr p 0] []]::.cells (bL (kyW c hd ⟨wm,l⟩))::.cells (bL la)::.cells [yH q qh N]::τ)=Z z++(tF c hd id p q qh N wm A la++τ):=fun z la τ=>by rw[gN,hke]
 have heq:=aIR (kyW c hd ⟨wm,l⟩) la;have hon:stepF c hd f ⟨wm,l⟩ (la,z)=if kyW c hd ⟨wm,l⟩=la then ((la,z),true) else if rD c hd ⟨wm,l⟩=true then ((kyW c hd ⟨wm,l⟩,(f ⟨wm,l⟩ (z.1,bA z.2 (kyW c hd ⟨wm,l⟩))).1),(f ⟨wm,l⟩ (z.1,bA z.2 (kyW c hd ⟨wm,l⟩))).2) else ((la,(z.1,bA z.2 (kyW c hd ⟨wm,l⟩))),true):=rfl
 obtain⟨R,hRR⟩:∃ R,stepF c hd f ⟨wm,l⟩ (la,z)=R:=⟨_,rfl⟩;rw[hRR] at hon ⊢;rw[hseen] at hse;rw[gN,hke];simp only[qM] at hfin ⊢;obtain⟨W,hW⟩:∃ W,kyW c hd ⟨wm,l⟩=W:=⟨_,rfl⟩;obtain⟨B,hB⟩:∃ B,rD c hd ⟨wm,l⟩=B:=⟨_,rfl⟩;rw[hW] at hti hse heq hon hfin hcall ⊢;rw[hB] at hse hon;simp only[qK,yI] at hti hcall;refine .callf (.call (af:=IR) rfl (by simp[IR]) (eG (K:=fun j e σ'=>(j=none\/j=some .ret)/\LH Z ZD c hd id p q qh N wm l τ R ⟨none,[],σ',Env.get e 9⟩) ?_ fun o ho=>ho) fun w hw=>⟨hw.1,_,rfl,.inl hw.2⟩);by_cases hu:W=la
 ·rw[if_pos hu] at hon;have hdt:decide (W=la)=true:=by simpa using hu
  rw[hdt] at heq
  (repeat (first|simp only[↓QA,QB,reduceLT,reduceIte,reduceEqDiff,reduceAdd,reduceLeDiff,reduceMul,Nat.reduceBEq,vS,hR.base,hR.base0,hR.bset,hR.bset0,hR.atp,hR.atq,hR.ath,m9,IR,hE,heq]|refine rd0 rfl ?_))
  rw[hon];refine⟨rfl,A,[],?_,fun _=>hA⟩;simp only[sF,if_true,List.append_nil];exact hfin _ _ _
 rw[if_neg hu] at hon;have hdt:decide (W=la)=false:=by simpa using hu
 rw[hdt] at heq
 (repeat (first|simp only[↓QA,QB,reduceLT,reduceIte,reduceEqDiff,reduceAdd,reduceLeDiff,reduceMul,Nat.reduceBEq,vS,hR.base,hR.base0,hR.bset,hR.bset0,hR.atp,hR.atq,hR.ath,m9,IR,hE,heq]|refine rd0 rfl ?_))
 refine oT (hti _) ?_
 (repeat (first|simp only[↓QA,QB,reduceLT,reduceIte,reduceEqDiff,reduceAdd,reduceLeDiff,reduceMul,Nat.reduceBEq,vS,hR.base,hR.base0,hR.bset,hR.bset0,hR.atp,hR.atq,hR.ath,m9]|refine rd0 rfl ?_))
 refine CT (hse _ _) ?_;cases B
 ·rw[if_neg (by simp)] at hon
  (repeat (first|simp only[↓QA,QB,reduceLT,reduceIte,reduceEqDiff,reduceAdd,reduceLeDiff,reduceMul,Nat.reduceBEq,vS,hR.base,hR.base0,hR.bset,hR.bset0,hR.atp,hR.atq,hR.ath,m9]|refine rd0 rfl ?_))
  rw[hon];refine⟨rfl,A,[],?_,fun _=>hA⟩;simp only[sF,if_true,List.append_nil];exact hfin _ _ _
 ·rw[if_pos rfl] at hon
  (repeat (first|simp only[↓QA,QB,reduceLT,reduceIte,reduceEqDiff,reduceAdd,reduceLeDiff,reduceMul,Nat.reduceBEq,vS,hR.base,hR.base0,hR.bset,hR.bset0,hR.atp,hR.atq,hR.ath,m9]|refine rd0 rfl ?_))
  have hc:=hcall (z.1,bA z.2 W);obtain⟨r,hr⟩:∃ r,f ⟨wm,l⟩ (z.1,bA z.2 W)=r:=⟨_,rfl⟩;rw[hr] at hc hon;refine .mono (hc _) fun w hw=>?_
  obtain⟨hw1,τ',hw2⟩:=hw;rw[hw1,hw2]
  (repeat (first|simp only[↓QA,QB,reduceLT,reduceIte,reduceEqDiff,reduceAdd,reduceLeDiff,reduceMul,Nat.reduceBEq,vS,hR.base,hR.base0,hR.bset,hR.bset0,hR.atp,hR.atq,hR.ath,m9]|refine rd0 rfl ?_))
  rw[hon];refine⟨rfl,A,τ',?_,fun _=>hA⟩;simp only;rw[gN,hke,hW];simp[yH]
end Go.Am.Room.Tu
namespace Go.Am.Room.Tu
def fO:=zz @gH (zz @fJ (zz @aK (zz @gJ (zz @fB (zz @fA (zz @List.length_append.{0} (zz @KP (zz @JX (zz @KK (zz @JR (zz @MB (zz @IX (zz @KY (zz @Nat.mul_one (zz @Int.toNat_natCast (zz @jK (zz @jQ (zz @jD (zz @jA (zz @pK (zz @mZ (zz @mU (zz @mY (zz @wB (zz @gZ (zz @hJ (zz @cH (zz @bH (zz @dY (zz @dX (zz @iA (zz @iB (@m9)))))))))))))))))))))))))))))))))
theorem aGT(hd wm:Int)(A:Nat->Int)(th:Nat):(sC hd wm A th).2.2.2=th:=by simp only[sC]
theorem JM{n H:Int}(h:n<=H):aS n (H+1-n).toNat=n::aS (n+1) (H+1-(n+1)).toNat:=by
 rw[show (H+1-n).toNat=(H+1-(n+1)).toNat+1 by omega];rfl
theorem PF{n H:Int}(h:¬n<=H):aS n (H+1-n).toNat=[]:=by
 rw[show (H+1-n).toNat=0 by omega];rfl
theorem MG{c:Car}{n:Nat}(h:n<c.lots.length)(hd:Int):greenIn c hd n=aS c.lots[n].green.lo (X8 c.lots[n] hd+1-c.lots[n].green.lo).toNat:=by
 rw[OI h];unfold X8;split
 ·rfl
 ·congr 1;omega
theorem KZ{Y:Type}{Z ZD:Y×List Ky->St}{c:Car}{m p q qh N id:Nat}{hd:Int}(hR:TFam Z c m p q qh hd N)(f:Way->Y×List Ky->(Y×List Ky)×Bool)(wm:Int)(hy:yB Z ZD id (fun t=>[mV (kyW c hd t)]) (WayOk c) f)(hv:Vd c)(hwm:0<=wm/\wm<=6):∀ (rs:List (List Int)) (l:List Int) (la:Ky) (z:Y×List Ky) (A:Nat->Int) (τ:St),rs=(gis c hd).drop l.length->l.length<=c.lots.length->Agr c l A->(∀ x∈l,0<=x/\x<=40) ->
  Run T (.callv (yH q qh N) [.int .i64 l.length] (Z z++(tF c hd id p q qh N wm A la++τ))) (LH Z ZD c hd id p q qh N wm l τ (aV (stepF c hd f) ((lv rs l).map (Way.mk wm)) (la,z)))
 |[],l,la,z,A,τ,hrs,hl,hA,hbd=>by
  have hl2:l.length=c.lots.length:=by
   have:=congrArg List.length hrs;simp[BZ] at this;omega
  have e:aV (stepF c hd f) ((lv [] l).map (Way.mk wm)) (la,z)=stepF c hd f ⟨wm,l⟩ (la,z):=AD _ _ _;rw[e];exact RC hR f wm hy hv hwm l la z A τ hl2 hA hbd
 |xs::rs,l,la,z,A,τ,hrs,hl,hA,hbd=>by
  have hlt:l.length<c.lots.length:=by
   have:=congrArg List.length hrs;simp[BZ] at this;omega
  have hnl:=hv.nlt;rw[LX hlt] at hrs;have hxs:=(List.cons.inj hrs).1;have hrs2:=(List.cons.inj hrs).2;rw[MG hlt] at hxs;have hlb:=(hv.lt _ (List.getElem_mem hlt)).2.2;have hbit:=GO c hd l.length;rw[G7 hlt] at hbit;have hsl:=K0 hv hd;obtain⟨x,hx⟩:∃ x,c.lots[l.length]=x:=⟨_,rfl⟩;rw[hx] at hxs hlb hbit;obtain⟨H,hH⟩:∃ H,X8 x hd=H:=⟨_,rfl⟩;rw[hH] at hxs;have hHb:x.green.lo<=H/\H<=40:=by rw[<-hH];unfold X8;split<;>omega
  have hE:((l.length:Int)==(c.lots.length:Int))=false:=by simp;omega
  have il:(0:Int)<=(l.length:Int)/\(l.length:Int)<((5:Nat):Int):=⟨by omega,by omega⟩;have c5:2+l.length+1<=8:=by omega
  have hwd:IntKind.i64.wrap ((l.length:Int)+1)=((l.length+1:Nat):Int):=dB hlt (by omega);have vs:=IY (lU c hd) l.length (by omega);have va:=DJ (lU c hd/2^l.length) (Nat.lt_of_le_of_lt (Nat.div_le_self _ _) (by omega));have hbt:(((lU c hd/2^l.length%2:Nat):Int)==0) = !decide (x.hold=hd):=by
   rw[<-hbit,nI];rcases Nat.mod_two_eq_zero_or_one (lU c hd/2^l.length) with h|h<;>simp[h]
  have ih:=fun (n:Int) (hn:x.green.lo<=n/\n<=H) (la:Ky) (z:Y×List Ky) (A:Nat->Int) (hA:Agr c l A) (τ:St)=>KZ hR f wm hy hv hwm rs (l++[n]) la z (nE A l.length n) τ (by rw[hrs2];simp) (by simp;omega) (XJ hA hlt n) (fun y hy=>by
   rcases List.mem_append.1 hy with h|h
   ·exact hbd y h
   ·have:y=n:=by simpa using h
    omega)
  obtain⟨R,hRR⟩:∃ R,aV (stepF c hd f) ((lv (xs::rs) l).map (Way.mk wm)) (la,z)=R:=⟨_,rfl⟩;rw[hRR];simp only[lv,hxs] at hRR;simp only[qM];refine .callf (.call (af:=IR) rfl (by simp[IR]) (eG (K:=fun j e σ'=>(j=none\/j=some .ret)/\LH Z ZD c hd id p q qh N wm l τ R ⟨none,[],σ',Env.get e 9⟩) ?_ fun o ho=>ho) fun w hw=>⟨hw.1,_,rfl,.inl hw.2⟩);rw[gN];have loop:∀ (e:Env) (K:KJ) (τ0:St),Env.get e 0 = .int .i64 l.length->Env.get e 2 = .ptr (N+2) 0->Env.get e 7 = .ptr (N+4) 0->Env.get e 10 = .ptr (N+(τ.length+1+1+1+1+1)) 0->Env.get e 11 = .int .i64 x.green.lo->τ0=τ++[.cells [.int .i64 x.green.lo,.int .i64 H]] ->
    (∀ j e' σ',LH Z ZD c hd id p q qh N wm l τ R ⟨none,[],σ',.bool R.2⟩->(j=some .ret/\Env.get e' 9 = .bool R.2\/j=some (.exit 0)/\R.2=true)->K j e' σ') ->
    rK (K:=⟨K⟩) T (.loop NT) e (Z z++(tF c hd id p q qh N wm A la++τ0)):=by
   intro e K τ0 e0 e2 e7 e10 e11 hτ0 hK;refine L9 (aLH Z c hd f id p q qh N wm l x H rs τ R) ?_ (H+1-x.green.lo).toNat _ _ ?_
   ·rintro k e σ ⟨e0,e2,e7,n,la,z,A,τ1,e10,e11,hn0,hn1,hk,hA,rfl,hq⟩;subst hk;have hst:=aI2 hd wm A (lU c hd) n (k:=l.length) (by omega);rw[gN]
    (repeat (first|simp only[↓QA,QB,reduceLT,reduceIte,reduceEqDiff,reduceAdd,reduceLeDiff,reduceMul,Nat.reduceBEq,fO,hR.base,hR.base0,hR.bset,hR.bset0,hR.atp,hR.atq,hR.ath,NT,e0,e2,e7,e10,e11]|refine rd0 rfl ?_))
    refine aJ (fun h=>?_) fun h=>?_
    ·have hn2:n<=H:=by simpa using h
     have hwn:IntKind.i64.wrap (n+1)=n+1:=bD ⟨by omega,by omega⟩;rw[JM hn2,List.flatMap_cons,List.map_append,nM] at hq;have hcl:=ih n ⟨hn0,hn2⟩ la z A hA (τ++(.cells [.int .i64 x.green.lo,.int .i64 H]::τ1));simp only[gN,qM,List.length_append,List.length_cons,List.length_nil,Nat.zero_add] at hcl;obtain⟨r,hr⟩:∃ r,aV (stepF c hd f) ((lv rs (l++[n])).map (Way.mk wm)) (la,z)=r:=⟨_,rfl⟩;rw[hr] at hq hcl;simp only[qM]
     (repeat (first|simp only[↓QA,QB,reduceLT,reduceIte,reduceEqDiff,reduceAdd,reduceLeDiff,reduceMul,Nat.reduceBEq,fO,hR.base,hR.base0,hR.bset,hR.bset0,hR.atp,hR.atq,hR.ath,e0,e2,e7,e10,e11,il,c5,Nat.zero_add,hst,hwd]|refine rd0 rfl ?_))
     refine .mono hcl fun w hw=>?_
     obtain⟨hw1,A',τ',hw2,hw3⟩:=hw;rw[hw1,hw2];cases hr2:r.2
     ·rw[hr2] at hq;simp only[Bool.false_eq_true,if_false] at hq
      (repeat (first|simp only[↓QA,QB,reduceLT,reduceIte,reduceEqDiff,reduceAdd,reduceLeDiff,reduceMul,Nat.reduceBEq,fO,hR.base,hR.base0,hR.bset,hR.bset0,hR.atp,hR.atq,hR.ath,e0,e2,e7,e10,e11]|refine rd0 rfl ?_))
      have hR2:R.2=false:=by rw[<-hq]
      refine hK _ _ _ ⟨rfl,A',.cells [.int .i64 x.green.lo,.int .i64 H]::(τ1++τ'),?_,fun h=>?_⟩ (.inl ⟨rfl,?_⟩)
      ·rw[<-hq];try simp[sF]
      ·simp[hR2] at h
      ·try simp only[aB,QE,reduceLT,reduceIte,reduceEqDiff,reduceAdd,reduceLeDiff,reduceMul,Nat.reduceBEq,fO,hR.base,hR.base0,hR.bset,hR.bset0,hR.atp,hR.atq,hR.ath,hR2]
     ·rw[hr2] at hq;simp only[if_true] at hq;have hA':=aA9 (hw3 hr2);simp only[sF,if_true];rw[gN];simp only[List.append_assoc,List.cons_append]
      (repeat (first|simp only[↓QA,QB,reduceLT,reduceIte,reduceEqDiff,reduceAdd,reduceLeDiff,reduceMul,Nat.reduceBEq,fO,hR.base,hR.base0,hR.bset,hR.bset0,hR.atp,hR.atq,hR.ath,e0,e2,e7,e10,e11,hwn]|refine rd0 rfl ?_))
      refine⟨(H+1-(n+1)).toNat,by omega,?_,?_,?_,n+1,r.1.1,r.1.2,A',τ1++τ',?_,?_,by omega,by omega,rfl,hA',?_,hq⟩
      ·try simp only[aB,QE,reduceLT,reduceIte,reduceEqDiff,reduceAdd,reduceLeDiff,reduceMul,Nat.reduceBEq,fO,hR.base,hR.base0,hR.bset,hR.bset0,hR.atp,hR.atq,hR.ath,e0]
      ·try simp only[aB,QE,reduceLT,reduceIte,reduceEqDiff,reduceAdd,reduceLeDiff,reduceMul,Nat.reduceBEq,fO,hR.base,hR.base0,hR.bset,hR.bset0,hR.atp,hR.atq,hR.ath,e2]
      ·try simp only[aB,QE,reduceLT,reduceIte,reduceEqDiff,reduceAdd,reduceLeDiff,reduceMul,Nat.reduceBEq,fO,hR.base,hR.base0,hR.bset,hR.bset0,hR.atp,hR.atq,hR.ath,e7]
      ·try simp only[aB,QE,reduceLT,reduceIte,reduceEqDiff,reduceAdd,reduceLeDiff,reduceMul,Nat.reduceBEq,fO,hR.base,hR.base0,hR.bset,hR.bset0,hR.atp,hR.atq,hR.ath,e10]
      ·try simp only[aB,QE,reduceLT,reduceIte,reduceEqDiff,reduceAdd,reduceLeDiff,reduceMul,Nat.reduceBEq,fO,hR.base,hR.base0,hR.bset,hR.bset0,hR.atp,hR.atq,hR.ath]
      ·rw[gN]
    ·have hn2:¬n<=H:=by simpa using h
     rw[PF hn2] at hq;simp only[List.flatMap_nil,List.map_nil,aV] at hq
     (repeat (first|simp only[↓QA,QB,reduceLT,reduceIte,reduceEqDiff,reduceAdd,reduceLeDiff,reduceMul,Nat.reduceBEq,fO,hR.base,hR.base0,hR.bset,hR.bset0,hR.atp,hR.atq,hR.ath,e0,e2,e7,e10,e11]|refine rd0 rfl ?_))
     have hR2:R.2=true:=by rw[<-hq]
     refine hK _ _ _ ⟨rfl,A,.cells [.int .i64 x.green.lo,.int .i64 H]::τ1,?_,fun h=>hA⟩ (.inr ⟨rfl,hR2⟩);rw[<-hq];simp[sF,tF,yH]
   ·refine⟨e0,e2,e7,x.green.lo,la,z,A,[],e10,e11,Int.le_refl _,by omega,rfl,hA,?_,hRR⟩;rw[hτ0]
  have hln:=hR.len z;cases h1:decide (x.hold=hd);all_goals
   rw[h1] at hbt;have hHe:(if decide (x.hold=hd)=true then x.green.hi else x.green.lo)=H:=by rw[<-hH];simp[X8]
   rw[h1] at hHe
   (repeat (first|simp only[↓QA,QB,reduceLT,reduceIte,reduceEqDiff,reduceAdd,reduceLeDiff,reduceMul,Nat.reduceBEq,fO,hR.base,hR.base0,hR.bset,hR.bset0,hR.atp,hR.atq,hR.ath,IR,hE,hlt,hx,hln,aGT,vs,va,hbt]|refine rd0 rfl ?_))
   have lp:=loop;simp only[gN] at lp;refine lp _ _ _ ?_ ?_ ?_ ?_ ?_ ?_ fun j e' σ' hj hk=>?_
   ·try simp only[aB,QE,reduceLT,reduceIte,reduceEqDiff,reduceAdd,reduceLeDiff,reduceMul,Nat.reduceBEq,fO,hR.base,hR.base0,hR.bset,hR.bset0,hR.atp,hR.atq,hR.ath]
   ·try simp only[aB,QE,reduceLT,reduceIte,reduceEqDiff,reduceAdd,reduceLeDiff,reduceMul,Nat.reduceBEq,fO,hR.base,hR.base0,hR.bset,hR.bset0,hR.atp,hR.atq,hR.ath]
   ·try simp only[aB,QE,reduceLT,reduceIte,reduceEqDiff,reduceAdd,reduceLeDiff,reduceMul,Nat.reduceBEq,fO,hR.base,hR.base0,hR.bset,hR.bset0,hR.atp,hR.atq,hR.ath]
   ·try simp only[aB,QE,reduceLT,reduceIte,reduceEqDiff,reduceAdd,reduceLeDiff,reduceMul,Nat.reduceBEq,fO,hR.base,hR.base0,hR.bset,hR.bset0,hR.atp,hR.atq,hR.ath]
   ·try simp only[aB,QE,reduceLT,reduceIte,reduceEqDiff,reduceAdd,reduceLeDiff,reduceMul,Nat.reduceBEq,fO,hR.base,hR.base0,hR.bset,hR.bset0,hR.atp,hR.atq,hR.ath]
   ·rw[<-hHe];try rfl
   ·rcases hk with⟨rfl,hk⟩|⟨rfl,hk⟩
    ·(repeat (first|simp only[↓QA,QB,reduceLT,reduceIte,reduceEqDiff,reduceAdd,reduceLeDiff,reduceMul,Nat.reduceBEq,fO,hR.base,hR.base0,hR.bset,hR.bset0,hR.atp,hR.atq,hR.ath]|refine rd0 rfl ?_))
     rw[hk];exact hj
    ·(repeat (first|simp only[↓QA,QB,reduceLT,reduceIte,reduceEqDiff,reduceAdd,reduceLeDiff,reduceMul,Nat.reduceBEq,fO,hR.base,hR.base0,hR.bset,hR.bset0,hR.atp,hR.atq,hR.ath]|refine rd0 rfl ?_))
     rw[hk] at hj;exact hj
end Go.Am.Room.Tu
namespace Go.Am.Room.Tu
def iD:=zz @gH (zz @fJ (zz @aK (zz @gJ (zz @fB (zz @fA (zz @List.length_append.{0} (zz @KP (zz @JX (zz @KK (zz @JR (zz @MB (zz @IX (zz @KY (zz @Nat.mul_one (zz @Int.toNat_natCast (zz @jK (zz @jQ (zz @jD (zz @jA (zz @pK (zz @mZ (zz @mU (zz @mY (zz @wB (zz @gZ (zz @hJ (zz @cH (zz @bH (zz @dY (zz @dX (zz @iA (zz @iB (zz @m9 (@aGT))))))))))))))))))))))))))))))))))
theorem nB(hd wm:Int)(A:Nat->Int)(th:Nat):(sC hd wm A th).2.1=wm:=by simp only[sC]
theorem P9(hd wm:Int)(A:Nat->Int)(th:Nat)(n:Int):(bL (sC hd wm A th)).take 1++[AV.int .i64 n]++(bL (sC hd wm A th)).drop 2=bL (sC hd n A th):=rfl
theorem TFam.of{Y:Type}{Z:Y×List Ky->St}{c:Car}{m p q qh N:Nat}{hd:Int}(h:TFam Z c m p q qh hd N)(hv:Vd c)(z:Y×List Ky)(τ:St):
  gB T (.func 277 [] []) [.ptr p 0,.int .i64 hd] (Z z++τ) (.int .i64 (lU c hd)):=aH2 ((h.mem z.1).app τ) hv z.2 hd
def aSM{Y:Type}(Z:Y×List Ky->St)(c:Car)(hd:Int)(f:Way->Y×List Ky->(Y×List Ky)×Bool)(id p q qh N:Nat)(s:Span)(R:(Ky×(Y×List Ky))×Bool)(k:Nat)(e:Env)(σ:St):Prop :=
 Env.get e 1 = .ptr q 0/\Env.get e 2 = .ptr qh 0/\Env.get e 5 = .ptr (N+2) 0/\Env.get e 7 = .ptr (N+4) 0/\∃ wm la z A τ,s.lo<=wm/\wm<=s.hi+1/\k=(s.hi+1-wm).toNat/\Agr c [] A /\
   σ=Z z++(tF c hd id p q qh N wm A la++τ)/\aV (stepF c hd f) ((aS wm k).flatMap fun w=>(kE c hd).map (Way.mk w)) (la,z)=R
theorem uO{Y:Type}{Z ZD:Y×List Ky->St}{c:Car}{m p q qh N id hd:Nat}(hR:TFam Z c m p q qh hd N)(f:Way->Y×List Ky->(Y×List Ky)×Bool)(hy:yB Z ZD id (fun t=>[mV (kyW c hd t)]) (WayOk c) f)(hv:Vd c)(hhd:hd<c.holds.length)(z:Y×List Ky):
  Run T (.call 406 [.yield id,.ptr q 0,.ptr qh 0] (Z z)) fun o=>∃ τ',o.σ=sF Z ZD (aV (stepG c hd f) (allOf c hd) z)++τ':=by
 have hnh:=hv.nhd;obtain⟨⟨s1,s2,s3⟩,s4⟩:=hv.hd _ (List.getElem_mem hhd);have hof:=fun τ=>hR.of hv z τ
 have hl:=hR.len z;obtain⟨ho1,ho2⟩:=wP c hd f (allOf c hd) ky0 z (SE hv hhd) (aIQ c hd _);have hall:allOf c hd=(uM c hd).flatMap fun w=>(kE c hd).map (Way.mk w):=rfl
 have hwa:uM c hd=aS c.holds[hd].lo (c.holds[hd].hi+1-c.holds[hd].lo).toNat:=by simp[uM,hhd]
 obtain⟨s,hs⟩:∃ s,c.holds[hd]=s:=⟨_,rfl⟩;rw[hs] at s1 s2 s3 s4 hwa;obtain⟨R,hRR⟩:∃ R,aV (stepF c hd f) (allOf c hd) (ky0,z)=R:=⟨_,rfl⟩;rw[hRR] at ho1 ho2;rw[hall,hwa] at hRR;have hend:∀ (σ:St) (A:Nat->Int) (wm:Int) (τ':St),σ=sF Z ZD (R.1.2,R.2)++(tF c hd id p q qh N wm A R.1.1++τ')->∃ τ',σ=sF Z ZD (aV (stepG c hd f) (allOf c hd) z)++τ':=by
  intro σ A wm τ' h;refine⟨tF c hd id p q qh N wm A R.1.1++τ',?_⟩;rw[h,show (R.1.2,R.2)=aV (stepG c hd f) (allOf c hd) z from Prod.ext ho1 ho2]
 refine .call (af:=UL) rfl (by simp[UL]) (eG (K:=fun j e σ'=>(j=none\/j=some .ret)/\∃ τ',σ'=sF Z ZD (aV (stepG c hd f) (allOf c hd) z)++τ') ?_ fun o ho=>ho) fun o ho=>⟨ho.1,_,rfl,.inl ho.2⟩
 (repeat (first|simp only[↓QA,QB,seval,iD,hR.base,hR.base0,hR.bset,hR.bset0,hR.atp,hR.atq,hR.ath,nB,UL,hl]|refine rd0 rfl ?_))
 refine uH [.cells [.int .i64 0,.int .i64 0,.int .i64 0,.int .i64 0,.int .i64 0,.int .i64 0,.int .i64 0,.int .i64 0]] rfl ?_
 (repeat (first|simp only[↓QA,QB,seval,iD,hR.base,hR.base0,hR.bset,hR.bset0,hR.atp,hR.atq,hR.ath,nB,hl]|refine rd0 rfl ?_))
 refine CT (hof _) ?_
 (repeat (first|simp only[↓QA,QB,seval,iD,hR.base,hR.base0,hR.bset,hR.bset0,hR.atp,hR.atq,hR.ath,nB,hl,hhd,hs]|refine rd0 rfl ?_))
 refine L9 (aSM Z c hd f id p q qh N s R) ?_ (s.hi+1-s.lo).toNat _ _ ?_
 ·rintro k e σ ⟨e1,e2,e5,e7,wm,la,z,A,τ,hn0,hn1,hk,hA,rfl,hq⟩;subst hk;have hst:=P9 hd wm A (lU c hd) (wm+1);have hwn:IntKind.i64.wrap (wm+1)=wm+1:=bD ⟨by omega,by omega⟩;rw[gN]
  (repeat (first|simp only[↓QA,QB,seval,iD,hR.base,hR.base0,hR.bset,hR.bset0,hR.atp,hR.atq,hR.ath,nB,aAA,e1,e2,e5,e7,hhd,hs]|refine rd0 rfl ?_))
  refine aJ (fun h=>?_) fun h=>?_
  ·have hn2:wm<=s.hi:=by simpa using h
   rw[JM hn2,List.flatMap_cons,nM] at hq;have hcl:=KZ hR f wm hy hv ⟨by omega,by omega⟩ (gis c hd) [] la z A τ (by simp) (by simp) hA (fun y hy=>by simp at hy);rw[aK4] at hcl;simp only[gN,qM,List.length_nil] at hcl;obtain⟨r,hr⟩:∃ r,aV (stepF c hd f) ((kE c hd).map (Way.mk wm)) (la,z)=r:=⟨_,rfl⟩;rw[hr] at hq hcl;simp only[qM]
   (repeat (first|simp only[↓QA,QB,seval,iD,hR.base,hR.base0,hR.bset,hR.bset0,hR.atp,hR.atq,hR.ath,nB,e1,e2,e5,e7]|refine rd0 rfl ?_))
   refine .mono hcl fun w hw=>?_
   obtain⟨hw1,A',τ',hw2,hw3⟩:=hw;rw[hw1,hw2];cases hr2:r.2
   ·rw[hr2] at hq;simp only[Bool.false_eq_true,if_false] at hq
    (repeat (first|simp only[↓QA,QB,seval,iD,hR.base,hR.base0,hR.bset,hR.bset0,hR.atp,hR.atq,hR.ath,nB,e1,e2,e5,e7]|refine rd0 rfl ?_))
    refine hend _ A' wm (τ++τ') ?_;rw[<-hq]
   ·rw[hr2] at hq;simp only[if_true] at hq;have hA':=hw3 hr2;have hst':=P9 hd wm A' (lU c hd) (wm+1);simp only[sF,if_true];rw[gN]
    (repeat (first|simp only[↓QA,QB,seval,iD,hR.base,hR.base0,hR.bset,hR.bset0,hR.atp,hR.atq,hR.ath,nB,e1,e2,e5,e7,hwn,hst']|refine rd0 rfl ?_))
    refine⟨(s.hi+1-(wm+1)).toNat,by omega,?_,?_,?_,?_,wm+1,r.1.1,r.1.2,A',τ++τ',by omega,by omega,rfl,hA',?_,hq⟩
    ·try simp only[aB,QE,seval,iD,hR.base,hR.base0,hR.bset,hR.bset0,hR.atp,hR.atq,hR.ath,nB,e1]
    ·try simp only[aB,QE,seval,iD,hR.base,hR.base0,hR.bset,hR.bset0,hR.atp,hR.atq,hR.ath,nB,e2]
    ·try simp only[aB,QE,seval,iD,hR.base,hR.base0,hR.bset,hR.bset0,hR.atp,hR.atq,hR.ath,nB,e5]
    ·try simp only[aB,QE,seval,iD,hR.base,hR.base0,hR.bset,hR.bset0,hR.atp,hR.atq,hR.ath,nB,e7]
    ·rw[gN]
  ·have hn2:¬wm<=s.hi:=by simpa using h
   rw[PF hn2] at hq;simp only[List.flatMap_nil,aV] at hq
   (repeat (first|simp only[↓QA,QB,seval,iD,hR.base,hR.base0,hR.bset,hR.bset0,hR.atp,hR.atq,hR.ath,nB,e1,e2,e5,e7]|refine rd0 rfl ?_))
   refine hend _ A wm τ ?_;rw[<-hq];simp only[sF,if_true];rw[gN]
 ·refine⟨?_,?_,?_,?_,s.lo,ky0,z,fun _=>0,[],Int.le_refl _,by omega,rfl,⟨fun j hj=>by simp at hj,fun j hj=>rfl⟩,?_,hRR⟩
  ·try simp only[aB,QE,seval,iD,hR.base,hR.base0,hR.bset,hR.bset0,hR.atp,hR.atq,hR.ath,nB]
  ·try simp only[aB,QE,seval,iD,hR.base,hR.base0,hR.bset,hR.bset0,hR.atp,hR.atq,hR.ath,nB]
  ·try simp only[aB,QE,seval,iD,hR.base,hR.base0,hR.bset,hR.bset0,hR.atp,hR.atq,hR.ath,nB]
  ·try simp only[aB,QE,seval,iD,hR.base,hR.base0,hR.bset,hR.bset0,hR.atp,hR.atq,hR.ath,nB]
  ·rfl
theorem RN{X:Type}(Z ZD:X->St)(n:Nat)(hZ:∀ x,(Z x).length=n)(hZD:∀ x,(ZD x).length=n)(J:AJump)(e:Env)(k:Nat)(ps:List Nat)(a bb:ACode)(g:FuncId)(caps:List AV)(ek:Env.get e k = .func g [] caps)(r:X×Bool)(x:X)(hrun:Run T (.call g (.yield n::caps) (Z x++[.loop .ready none e ps a bb])) fun o=>∃ τ',o.σ=sF (fun x=>Z x++[.loop .ready none e ps a bb]) (fun x=>ZD x++[.loop .done (some J) e ps a bb]) r++τ')(K:KJ)(hT:∀ τ,r.2=true->K none e (Z r.1++(.dead::τ)))(hD:∀ τ,r.2=false->K (some J) e (ZD r.1++(.dead::τ))):
  rK (K:=⟨K⟩) T (.rangeFunc (.t k) ps a bb) e (Z x):=by
 have hout:∀ (A:St) (lp:ABlk) (τ':St),A.length=n->(A++[lp]++τ')[n]? = some lp/\(A++[lp]++τ').set n .dead=A++(.dead::τ'):=by
  intro A lp τ' hA;subst hA;constructor
  ·simp
  ·simp
 refine D8 (by rw[UO,ek]) (by
  rw[hZ]
  exact hrun) fun o ho=>?_
 obtain⟨τ',hσ⟩:=ho;rw[hZ,hσ];cases hr2:r.2
 ·have hD':=hD τ' hr2;obtain⟨g1,g2⟩:=hout (ZD r.1) (.loop .done (some J) e ps a bb) τ' (hZD _);simp only[sF,hr2,Bool.false_eq_true,if_false];rw[g1,g2];exact⟨_,_,_,_,_,_,rfl,by simp[hZ],hD'⟩
 ·have hT':=hT τ' hr2;obtain⟨g1,g2⟩:=hout (Z r.1) (.loop .ready none e ps a bb) τ' (hZ _);simp only[sF,hr2,if_true];rw[g1,g2];exact⟨_,_,_,_,_,_,rfl,by simp[hZ],hT'⟩
theorem C1{X A:Type}(Z ZD:X->St)(n:Nat)(hZ:∀ x,(Z x).length=n)(hZD:∀ x,(ZD x).length=n)(J:AJump)(e:Env)(ps:List Nat)(args:A->List AV)(hps:∀ t,ps.length=(args t).length)(a bb:ACode){P:A->Prop}{f:A->X->X×Bool}(h:∀ t,P t->∀ x τ,wp T a (iS e ps (args t)) (Z x++(.loop .ready none e ps a bb::τ)) (fun j e' σ'=>j=none/\∃ τ1,σ'=Z x++(.loop .ready none e ps a bb::(τ++τ1)) /\
   wp T bb e' (Z x++(.loop .busy none e ps a bb::(τ++τ1))) (fun j e'' σ''=>((f t x).2=true/\j=none/\∃ τ',σ''=Z (f t x).1++(.loop .busy none e ps a bb::(τ++τ'))) \/
    ((f t x).2=false/\j=some J/\∃ τ',σ''=ZD (f t x).1++(.loop .busy none e ps a bb::(τ++τ')))))):
  yB (fun x=>Z x++[.loop .ready none e ps a bb]) (fun x=>ZD x++[.loop .done (some J) e ps a bb]) n args P f:=by
 intro t ht x τ;have hget:∀ (A:St) (lp:ABlk) (υ:St),A.length=n->(A++(lp::υ))[n]? = some lp:=by
  intro A lp υ hA;subst hA;simp
 have hset:∀ (A:St) (lp l2:ABlk) (υ:St),A.length=n->(A++(lp::υ)).set n l2=A++(l2::υ):=by
  intro A lp l2 υ hA;subst hA;simp
 obtain⟨r,hr⟩:∃ r,f t x=r:=⟨_,rfl⟩;have h:=h t ht x τ;rw[hr] at h ⊢;have hst:(fun x=>Z x++[ABlk.loop .ready none e ps a bb]) x++τ=Z x++(.loop .ready none e ps a bb::τ):=by simp
 rw[hst];refine .round (env:=e) (ps:=ps) (a:=a) (b:=bb)
  (R:=fun o=>o.j=none/\∃ τ1,o.σ=Z x++(.loop .ready none e ps a bb::(τ++τ1))/\wp T bb o.env (Z x++(.loop .busy none e ps a bb::(τ++τ1))) (fun j e'' σ''=>(r.2=true/\j=none/\∃ τ',σ''=Z r.1++(.loop .busy none e ps a bb::(τ++τ'))) \/
    (r.2=false/\j=some J/\∃ τ',σ''=ZD r.1++(.loop .busy none e ps a bb::(τ++τ')))))
  (S:=fun o=>(r.2=true/\o.j=none/\∃ τ',o.σ=Z r.1++(.loop .busy none e ps a bb::(τ++τ')))\/(r.2=false/\o.j=some J/\∃ τ',o.σ=ZD r.1++(.loop .busy none e ps a bb::(τ++τ')))) (hget _ _ _ (hZ _)) (by rw[hps t]) (eG h fun o ho=>ho) ?_ ?_ ?_
 ·rintro o ⟨hj,τ1,hσ,_⟩;exact⟨hj,by rw[hσ];exact hget _ _ _ (hZ _)⟩
 ·rintro o ⟨_,τ1,hσ,hw⟩;rw[hσ,hset _ _ _ _ (hZ _)];exact eG hw fun o ho=>ho
 ·rintro o (⟨hr2,hj,τ',hσ⟩|⟨hr2,hj,τ',hσ⟩)
  ·rw[hσ,hj,hget _ _ _ (hZ _),hset _ _ _ _ (hZ _)];refine⟨rfl,by rw[hr2];rfl,τ',?_⟩;simp[sF,hr2]
  ·rw[hσ,hj,hget _ _ _ (hZD _),hset _ _ _ _ (hZD _)];refine⟨rfl,by rw[hr2];rfl,τ',?_⟩;simp[sF,hr2]
end Go.Am.Room.Tu
namespace Go.Am.Room.Tu
def gA:=zz @gH (zz @fJ (zz @aK (zz @gJ (zz @fB (zz @fA (zz @List.length_append.{0} (zz @KP (zz @JX (zz @KK (zz @JR (zz @MB (zz @IX (zz @KY (zz @Nat.mul_one (zz @Int.toNat_natCast (zz @jK (zz @jQ (zz @jD (@jA)))))))))))))))))))
section
variable {Y:Type}
def Z0(S:Y->List Ky->St)(U:Y->St)(p:Nat)(hd:Int)(x:Y×List Ky):St:=S x.1 x.2++(U x.1++[.cells [.ptr p 0],.cells [.int .i64 hd]])
variable {S:Y->List Ky->St} {U:Y->St} {c:Car} {m p N n:Nat} {hd:Int}
theorem C8(hR:∀ y,MemAt (S y) (tb c m) (kEs c) p m N)(hU:∀ y,(U y).length=n)(x:Y×List Ky):(Z0 S U p hd x).length=N+n+2:=by
 simp[Z0,(hR x.1).len,hU];omega
theorem aI3(hR:∀ y,MemAt (S y) (tb c m) (kEs c) p m N)(hU:∀ y,(U y).length=n)(lp:ABlk):TFam (fun x=>Z0 S U p hd x++[lp]) c m p (N+n) (N+n+1) hd (N+n+2+1) where
 mem:=fun y=>by
  have:=(hR y).app (U y++[.cells [.ptr p 0],.cells [.int .i64 hd],lp]);rw[List.length_append,hU] at this;have e:(fun M=>Z0 S U p hd (y,M)++[lp])=fun A=>S y A++(U y++[.cells [.ptr p 0],.cells [.int .i64 hd],lp]):=by
   funext A;simp[Z0]
  rw[e];exact this
 atq:=fun z τ=>by
  have e:Z0 S U p hd z++[lp]++τ=(S z.1 z.2++U z.1)++(.cells [.ptr p 0]::.cells [.int .i64 hd]::lp::τ):=by simp[Z0]
  have h1:N+n=(S z.1 z.2++U z.1).length:=by simp[(hR z.1).len,hU]
  rw[e,h1,GU];rfl
 ath:=fun z τ=>by
  have e:Z0 S U p hd z++[lp]++τ=(S z.1 z.2++U z.1)++(.cells [.ptr p 0]::.cells [.int .i64 hd]::lp::τ):=by simp[Z0]
  have h1:N+n+1=(S z.1 z.2++U z.1).length+1:=by simp[(hR z.1).len,hU]
  rw[e,h1,mA];rfl
theorem gM(hR:∀ y,MemAt (S y) (tb c m) (kEs c) p m N)(hU:∀ y,(U y).length=n)(hv:Vd c){h:Nat}(hh:hd=(h:Int))(hhd:h<c.holds.length)(f:Way->Y×List Ky->(Y×List Ky)×Bool)(J:AJump)(e:Env)(k:Nat)(ps:List Nat)(a bb:ACode)(ek:Env.get e k = .func 406 [] [.ptr (N+n) 0,.ptr (N+n+1) 0])(x:Y×List Ky)(hy:yB (fun x=>Z0 S U p hd x++[.loop .ready none e ps a bb]) (fun x=>Z0 S U p hd x++[.loop .done (some J) e ps a bb]) (N+n+2) (fun t=>[mV (kyW c hd t)]) (WayOk c) f)(K:KJ)(hT:∀ τ,(aV (stepG c hd f) (allOf c h) x).2=true->K none e (Z0 S U p hd (aV (stepG c hd f) (allOf c h) x).1++(.dead::τ)))(hD:∀ τ,(aV (stepG c hd f) (allOf c h) x).2=false->K (some J) e (Z0 S U p hd (aV (stepG c hd f) (allOf c h) x).1++(.dead::τ))):
  rK (K:=⟨K⟩) T (.rangeFunc (.t k) ps a bb) e (Z0 S U p hd x):=by
 subst hh;refine RN (Z0 S U p h) (Z0 S U p h) (N+n+2) (C8 hR hU) (C8 hR hU) J e k ps a bb _ _ ek (aV (stepG c h f) (allOf c h) x) x ?_ K hT hD;exact uO (aI3 hR hU _) f hy hv hhd x
end
def pQ(_:Way)(z:Unit×List Ky):(Unit×List Ky)×Bool:=(z,false)
theorem K8(c:Car)(hd:Int):∀ (az:List Way) (z:Unit×List Ky),(aV (stepG c hd pQ) az z).2=(az.filter (rD c hd)).isEmpty
 |[],z=>rfl
 |a::az,z=>by
  simp only[aV,stepG,pQ,List.filter_cons];by_cases hs:rD c hd a=true
  ·simp[hs]
  ·simp only[hs,if_false,if_true];exact K8 c hd az _
def pE(c:Car):List Nat->List Ky->Bool×List Ky
 |[],M=>(true,M)
 |h::hs,M=>if (aV (stepG c h pQ) (allOf c h) ((),M)).2=true then (false,(aV (stepG c h pQ) (allOf c h) ((),M)).1.2) else pE c hs (aV (stepG c h pQ) (allOf c h) ((),M)).1.2
theorem CX(c:Car):∀ (hs:List Nat) (M:List Ky),(pE c hs M).1=hs.all fun h=>!(waysOf c h).isEmpty
 |[],M=>rfl
 |h::hs,M=>by
  have e:(aV (stepG c h pQ) (allOf c h) ((),M)).2=(waysOf c h).isEmpty:=K8 c h _ _;simp only[pE,List.all_cons,e];cases (waysOf c h).isEmpty
  ·simp[CX c hs]
  ·simp
def GG(c:Car)(M:List Ky):List Ky:=(pE c (List.range c.holds.length) M).2
theorem aDY(c:Car)(M:List Ky):pE c (List.range c.holds.length) M=(someB c,GG c M):=Prod.ext (CX c _ M) rfl
theorem N7{n j:Nat}(h:j<n):(List.range n).drop j=j::(List.range n).drop (j+1):=by
 rw[List.drop_eq_getElem_cons (by simpa using h)];simp
def aLR(S:List Ky->St)(c:Car)(p:Nat)(R:Bool×List Ky)(k:Nat)(e:Env)(σ:St):Prop :=
 Env.get e 0 = .ptr p 0/\Env.get e 9 = .int .i64 c.holds.length/\∃ j M τ,Env.get e 10 = .int .i64 (j:Nat)/\j<=c.holds.length/\k=c.holds.length-j/\σ=S M++τ/\pE c ((List.range c.holds.length).drop j) M=R
theorem vP{S:List Ky->St}{c:Car}{p m N:Nat}(hR:MemAt S (tb c m) (kEs c) p m N)(hv:Vd c)(M:List Ky):
  mH T (.func 284 [] []) [.ptr p 0] (S M) (.bool (someB c)) (S (GG c M)):=by
 have hnh:=hv.nhd;have hall:=aDY c M;obtain⟨B,hB⟩:∃ B,someB c=B:=⟨_,rfl⟩;obtain⟨M',hM'⟩:∃ M',GG c M=M':=⟨_,rfl⟩;rw[hB,hM'] at hall;rw[hB,hM'];refine nO hR (af:=W5) rfl (by simp[W5]) ?_;try simp only[↓QA,QB,seval,gA,hR.len,hR.base,hR.base0,hR.bset,hR.bset0,hR.at1,hR.at0,W5]
 refine L9 (aLR S c p (B,M')) ?_ c.holds.length _ _ ?_
 ·rintro k e σ ⟨e0,e9,j,M,τ,e10,hj,hk,rfl,hq⟩;subst hk;try simp only[↓QA,QB,seval,gA,hR.len,hR.base,hR.base0,hR.bset,hR.bset0,hR.at1,hR.at0,VN,e0,e9,e10]
  refine aJ (fun h=>?_) fun h=>?_
  ·have hj1:j<c.holds.length:=by simpa using h
   have hw:=dB hj1 (by omega);rw[N7 hj1] at hq;simp only[pE] at hq;try simp only[↓QA,QB,seval,gA,hR.len,hR.base,hR.base0,hR.bset,hR.bset0,hR.at1,hR.at0,e0,e9,e10]
   refine m6 rfl (by simp[RO]) ?_;try simp only[↓QA,QB,seval,gA,hR.len,hR.base,hR.base0,hR.bset,hR.bset0,hR.at1,hR.at0,RO]
   have hz:∀ M,S M++(τ++[.cells [.ptr p 0],.cells [.int .i64 (j:Int)]])=Z0 (fun (_:Unit) A=>S A++τ) (fun _=>[]) p j ((),M):=fun M=>by simp[Z0]
   rw[hz];refine gM (n:=0) (N:=N+τ.length) (fun _=>hR.app τ) (fun _=>rfl) hv rfl hj1 pQ (.exit 1) _ 15 [16] _ _ ?_ _ ?_ _ ?_ ?_
   ·try simp only[aB,QE,seval,gA,hR.len,hR.base,hR.base0,hR.bset,hR.bset0,hR.at1,hR.at0,Nat.add_zero,Nat.add_assoc]
   ·refine C1 _ _ _ (C8 (n:=0) (fun _=>hR.app τ) (fun _=>rfl)) (C8 (n:=0) (fun _=>hR.app τ) (fun _=>rfl)) _ _ [16] _ (fun _=>rfl) _ _ ?_;intro t _ x τ1;simp only[iS];try simp only[↓QA,QB,seval,gA,hR.len,hR.base,hR.base0,hR.bset,hR.bset0,hR.at1,hR.at0]
    refine⟨[],by rw[List.append_nil],?_⟩;try simp only[↓QA,QB,seval,gA,hR.len,hR.base,hR.base0,hR.bset,hR.bset0,hR.at1,hR.at0,XE]
    exact .inr ⟨rfl,[],by simp[pQ]⟩
   ·intro τ1 h2;rw[h2] at hq;simp only[if_true] at hq;simp only[Z0];have h1:=congrArg Prod.fst hq;have h3:=congrArg Prod.snd hq;simp only at h1 h3;subst h1;rw[h3];try simp only[↓QA,QB,seval,gA,hR.len,hR.base,hR.base0,hR.bset,hR.bset0,hR.at1,hR.at0,e0,e9,e10]
    exact⟨_,_,rfl,rfl,by try simp only[QS,QC,seval,gA,hR.len,hR.base,hR.base0,hR.bset,hR.bset0,hR.at1,hR.at0]⟩
   ·intro τ1 h2;rw[h2] at hq;simp only[Bool.false_eq_true,if_false] at hq;simp only[Z0];try simp only[↓QA,QB,seval,gA,hR.len,hR.base,hR.base0,hR.bset,hR.bset0,hR.at1,hR.at0,e0,e9,e10,hw]
    refine⟨c.holds.length-(j+1),by omega,?_,?_,j+1,_,τ++([.cells [.ptr p 0],.cells [.int .i64 (j:Int)]]++.dead::τ1),?_,by omega,rfl,?_,hq⟩
    ·try simp only[aB,QE,seval,gA,hR.len,hR.base,hR.base0,hR.bset,hR.bset0,hR.at1,hR.at0,e0]
    ·try simp only[aB,QE,seval,gA,hR.len,hR.base,hR.base0,hR.bset,hR.bset0,hR.at1,hR.at0,e9]
    ·try simp only[aB,QE,seval,gA,hR.len,hR.base,hR.base0,hR.bset,hR.bset0,hR.at1,hR.at0]
    ·simp
  ·have hj1:j=c.holds.length:=by simp at h;omega
   rw[hj1,List.drop_eq_nil_of_le (by simp)] at hq;simp only[pE] at hq;injection hq with h1 h3
   subst h1;subst h3;try simp only[↓QA,QB,seval,gA,hR.len,hR.base,hR.base0,hR.bset,hR.bset0,hR.at1,hR.at0,e0,e9,e10]
   exact⟨_,_,rfl,rfl,by try simp only[QS,QC,seval,gA,hR.len,hR.base,hR.base0,hR.bset,hR.bset0,hR.at1,hR.at0]⟩
 ·refine⟨?_,?_,0,M,[],?_,Nat.zero_le _,rfl,by simp,hall⟩
  ·try simp only[aB,QE,seval,gA,hR.len,hR.base,hR.base0,hR.bset,hR.bset0,hR.at1,hR.at0]
  ·try simp only[aB,QE,seval,gA,hR.len,hR.base,hR.base0,hR.bset,hR.bset0,hR.at1,hR.at0]
  ·try simp only[aB,QE,seval,gA,hR.len,hR.base,hR.base0,hR.bset,hR.bset0,hR.at1,hR.at0]
   try simp
end Go.Am.Room.Tu
namespace Go.Am.Room.Tu
def gR:=zz @nS (zz @mX (zz @gH (zz @fJ (zz @aK (zz @gJ (zz @fB (zz @fA (zz @List.length_append.{0} (zz @dA (zz @Nat.add_lt_add_iff_left (zz @Nat.lt_add_right_iff_pos (zz @Nat.mul_one (@Int.toNat_natCast)))))))))))))
theorem UG(b n:Int)(hb:0<=b/\b<9223372036854775808):cZ T 144 [.int .i64 b,ints [n]] (.agg [.bool (!inR n 0 (b-1)),.int .i64 4]):=by
 refine aX (af:=UK) rfl (by simp[UK]) dd ?_;have hw:IntKind.i64.wrap (b-1)=b-1:=bD ⟨by omega,by omega⟩;try simp only[↓QA,QB,seval,gR,UK,hw]
 (refine aC (kQ 0 (b-1) [n] (by simp)) rfl dd ?_;try simp only[↓QA,QB,seval,gR,BI])
theorem N9(c:Car)(A:List Ky)(k:Nat):aU k (.map (kEs c A)):=aIC (IQ c) A k
def j7(σ:St)(c:Car)(A:List Ky):St:=σ++[.cells (aY c),.cells (aY c),.map (kEs c A),.cells (tb c (σ.length+2))]
theorem aJW(σ:St)(c:Car):MemAt (j7 σ c) (tb c (σ.length+2)) (kEs c) (σ.length+3) (σ.length+2) (σ.length+4) :=
 ⟨fun M=>by simp[j7],fun M=>by simp[j7,mA,O1,P2],fun M=>by rw[j7,sA];rfl,fun M M'=>by rw[j7,j7,lF];rfl,fun A k=>N9 c A k,by omega,by omega⟩
def pZ(σ:St)(c:Car):St:=σ++[.cells (aY c),.map [],.cells (tb c (σ.length+1))]
theorem xY(σ:St)(c:Car):mH T (.func 275 [] []) [i9 c,.int .i64 0] σ (.ptr (σ.length+2) 0) (pZ σ c):=by
 refine .callf (.call (af:=T7) rfl (by simp[T7]) (eG (K:=fun j e σ1=>(j=none\/j=some .ret)/\Env.get e 4 = .ptr (σ.length+2) 0/\σ1=pZ σ c) ?_ fun o ho=>ho) fun o ho=>?_)
 ·try simp only[↓QA,QB,seval,gR,T7,List.length_append,pZ,tb]
  try simp[tb,aY,ints]
 ·refine⟨ho.1,_,?_,.inl ⟨ho.2.1,ho.2.2⟩⟩;rfl
def fQ(c:Car)(n:Int)(k:Nat):AV:=if lotErr c n=0 then .tuple [.ptr (k+3) 0,.int .i64 0] else .tuple [.nilPtr,.int .i64 (lotErr c n)]
def jH(σ:St)(c:Car)(n:Int):St:=if lotErr c n=0 then j7 σ c (GG c []) else σ
theorem k8(σ:St)(c:Car)(n:Int)(hf:Fits c):mH T (.func 143 [] []) [i9 c,.lit [.agg [.bool (!inR n 0 ((c.lots.length:Int)-1)),.int .i64 4]] true none] σ (fQ c n σ.length) (jH σ c n):=by
 refine .callf (.call (af:=MR) rfl (by simp[MR]) (eG (K:=fun j e σ1=>(j=none\/j=some .ret)/\(if lotErr c n=0 then Env.get e 4 = .ptr (σ.length+3) 0/\Env.get e 5 = .int .i64 0/\σ1=j7 σ c (GG c []) else Env.get e 4 = .nilPtr/\Env.get e 5 = .int .i64 (lotErr c n)/\∃ τ,σ1=σ++τ)) ?_ fun o ho=>ho) fun o ho=>?_)
 ·obtain⟨E,hE⟩:∃ E,lotErr c n=E:=⟨_,rfl⟩;have hE2:(if errAsk c n=0 then (if someB c then (0:Int) else 8) else errAsk c n)=E:=hE;rw[hE]
  (repeat (first|simp only[↓QA,QB,reduceLT,reduceIte,reduceEqDiff,reduceAdd,reduceLeDiff,reduceMul,Nat.reduceBEq,gR,MR]|refine rd0 rfl ?_))
  ((first|refine aC (tZ c hf) rfl dd ?_|refine aF (tZ c hf) rfl dd ?_);(repeat (first|simp only[↓QA,QB,reduceLT,reduceIte,reduceEqDiff,reduceAdd,reduceLeDiff,reduceMul,Nat.reduceBEq,gR,enc3]|refine rd0 rfl ?_)))
  cases h0:((check c).2.2==0)
  ·have h0':(check c).2.2≠0:=by simpa using h0
   have he:E=(check c).2.2:=by rw[<-hE2];simp[errAsk,h0']
   (repeat (first|simp only[↓QA,QB,reduceLT,reduceIte,reduceEqDiff,reduceAdd,reduceLeDiff,reduceMul,Nat.reduceBEq,gR,h0]|refine rd0 rfl ?_))
   rw[he,if_neg h0'];simp
  ·have h0':(check c).2.2=0:=by simpa using h0
   have hv:=vd_of_check h0';obtain⟨B,hB⟩:∃ B,inR n 0 ((c.lots.length:Int)-1)=B:=⟨_,rfl⟩;rw[hB]
   (repeat (first|simp only[↓QA,QB,reduceLT,reduceIte,reduceEqDiff,reduceAdd,reduceLeDiff,reduceMul,Nat.reduceBEq,gR,h0]|refine rd0 rfl ?_))
   refine dQ (S:=Nat×Bool) (0,true) (fun k=>k.1<=1/\(k.1=1->B=true)) (fun k=>1-k.1)
    (fun k=>[(2,.ptr σ.length 0),(4,.nilPtr),(5,.int .i64 0),(21,.lit [.agg [.bool !B,.int .i64 4]] k.2 none),(22,.int .i64 1),(23,.int .i64 k.1)])
    (fun _=>σ++[.cells (aY c)]) ⟨by omega,fun h=>by cases h⟩ (by simp[aY,ints]) ?_ fun k hk=>?_
   ·try simp only[aB,QE,reduceLT,reduceIte,reduceEqDiff,reduceAdd,reduceLeDiff,reduceMul,Nat.reduceBEq,gR]
    try simp
   obtain⟨k,fl⟩:=k;obtain⟨hk,hkB⟩:=hk;simp only at hk hkB
   (repeat (first|simp only[↓QA,QB,reduceLT,reduceIte,reduceEqDiff,reduceAdd,reduceLeDiff,reduceMul,Nat.reduceBEq,gR,aBB]|refine rd0 rfl ?_))
   refine aJ (fun h=>?_) fun h=>?_
   ·have hk1:k=0:=by simp at h;omega
    subst hk1;have hix:∀ (b:Bool) tk,L6 2 [.agg [.bool b,.int .i64 4]] 0 tk=some (.lptr [.agg [.bool b,.int .i64 4]] 0 0 tk):=fun b tk=>by simp[L6,AV.cells]
    cases B
    ·have he:E=4:=by rw[<-hE2];simp[errAsk,h0',hB]
     subst he
     (repeat (first|simp only[↓QA,QB,reduceLT,reduceIte,reduceEqDiff,reduceAdd,reduceLeDiff,reduceMul,Nat.reduceBEq,gR,Int.natCast_zero,hix]|refine rd0 rfl ?_))
     simp
    ·(repeat (first|simp only[↓QA,QB,reduceLT,reduceIte,reduceEqDiff,reduceAdd,reduceLeDiff,reduceMul,Nat.reduceBEq,gR,Int.natCast_zero,hix]|refine rd0 rfl ?_))
     refine⟨(1,false),by simp,by simp,?_⟩;try simp only[aB,QE,reduceLT,reduceIte,reduceEqDiff,reduceAdd,reduceLeDiff,reduceMul,Nat.reduceBEq,gR,show IntKind.i64.wrap (0+1)=((1:Nat):Int) from rfl]
     try simp[aU,okVs,okV]
   ·have hk1:k=1:=by simp at h;omega
    have hBt:=hkB hk1;subst hk1;subst hBt;have hEk:(if someB c then (0:Int) else 8)=E:=by rw[<-hE2];simp[errAsk,h0',hB]
    have hlk:=xY (σ++[.cells (aY c)]) c;have hso:=vP (aJW σ c) hv [];have e0:kEs c []=[]:=rfl;simp only[j7,pZ,e0] at hso hlk;try simp only[↓QA,QB,reduceLT,reduceIte,reduceEqDiff,reduceAdd,reduceLeDiff,reduceMul,Nat.reduceBEq,gR,List.append_assoc] at hso hlk
    (repeat (first|simp only[↓QA,QB,reduceLT,reduceIte,reduceEqDiff,reduceAdd,reduceLeDiff,reduceMul,Nat.reduceBEq,gR]|refine rd0 rfl ?_))
    refine bR hlk ?_
    (repeat (first|simp only[↓QA,QB,reduceLT,reduceIte,reduceEqDiff,reduceAdd,reduceLeDiff,reduceMul,Nat.reduceBEq,gR]|refine rd0 rfl ?_))
    refine bR hso ?_;cases hs:someB c
    ·rw[hs] at hEk;have he:E=8:=by rw[<-hEk];simp
     subst he
     (repeat (first|simp only[↓QA,QB,reduceLT,reduceIte,reduceEqDiff,reduceAdd,reduceLeDiff,reduceMul,Nat.reduceBEq,gR]|refine rd0 rfl ?_))
     simp
    ·rw[hs] at hEk;have he:E=0:=by rw[<-hEk];simp
     subst he
     (repeat (first|simp only[↓QA,QB,reduceLT,reduceIte,reduceEqDiff,reduceAdd,reduceLeDiff,reduceMul,Nat.reduceBEq,gR]|refine rd0 rfl ?_))
     simp[j7,aY,ints]
 ·obtain⟨hj,ho⟩:=ho;by_cases he:lotErr c n=0
  ·rw[if_pos he] at ho;refine⟨hj,fQ c n σ.length,?_,.inl ⟨rfl,?_⟩⟩
   ·simp[eQ,jU,MR,ho.1,ho.2.1,fQ,he]
   ·rw[ho.2.2,jH,if_pos he]
  ·rw[if_neg he] at ho;obtain⟨h4,h5,τ,hσ⟩:=ho;refine⟨hj,fQ c n σ.length,?_,.inr ⟨20,fQ c n σ.length,fQ c n σ.length,?_,.inl rfl,fun i hi=>.inl (by rw[hσ];exact List.getElem?_append_left hi),by rw[hσ];simp,rfl,by rw[hσ];simp[jH,he]⟩⟩
   ·simp[eQ,jU,MR,h4,h5,fQ,he]
   ·simp[fQ,he,snap,snaps]
end Go.Am.Room.Tu
namespace Go.Am.Room.Tu
def jG:=zz @gH (zz @fJ (zz @aK (zz @gJ (zz @fB (zz @fA (zz @List.length_append.{0} (zz @KP (zz @JX (zz @KK (zz @JR (zz @MB (zz @IX (zz @KY (zz @Nat.mul_one (zz @Int.toNat_natCast (zz @jK (zz @jQ (zz @jD (zz @jA (zz @pK (zz @mZ (zz @mU (zz @mY (zz @wB (zz @gZ (zz @hJ (zz @cH (zz @bH (zz @dY (zz @dX (zz @iA (@iB))))))))))))))))))))))))))))))))
theorem CK{Y M:Type}{S:Y->M->St}{obj:List AV}{es:M->List (AV×AV)}{p m N:Nat}(hR:∀ y,MemAt (S y) obj es p m N)(hK:∀ x A y B k i,N<=k->i<N->cE (S x A) (S y B) k i){f:FuncId}{first cap args:List AV}{af:AFunc}{v:AV}{x y:Y}{A B:M}(hf:T f=some af)(hn:(first++args++cap).length<=af.ntmps)(h:wp T af.body (eP 0 (first++args++cap)) (S x A) (fun j e σ1=>(j=none\/j=some .ret)/\∃ v0 τ,eQ af.results e σ1=some v0/\σ1=S y B++τ/\bN σ1 N 20 v0=some v)):mH T (.func f first cap) args (S x A) v (S y B):=by
 refine .callf (.call hf hn (eG h fun o ho=>ho) fun o ho=>?_);obtain⟨hj,v0,τ,hres,hσ,h4⟩:=ho;refine⟨hj,v0,hres,?_⟩;unfold bN at h4;have l1:=(hR x).len A;have l2:=(hR y).len B;cases hs:snap o.σ N 20 v0 with
 |none=>rw[hs] at h4;cases h4
 |some v1 =>
  rw[hs] at h4;simp at h4;refine .inr ⟨20,v1,v,by rw[l1];exact hs,.inr h4.symm,fun i hi=>?_,?_,rfl,?_⟩
  ·rw[l1] at hi ⊢;have:=hK x A y B N i (Nat.le_refl _) hi;have e:o.σ[i]? = (S y B)[i]?:=by rw[hσ];exact List.getElem?_append_left (by omega)
   simp only[cE,e] at this ⊢;exact this
  ·rw[hσ,List.length_append,l1,l2];omega
  ·rw[hσ,l1,<-l2,List.take_left]
section
variable {Y:Type}
def NC(c:Car)(hd:Int)(qB:Way->Bool)(g:Way->Y->Y)(w:Way)(z:(Y×Int×Int)×List Ky):((Y×Int×Int)×List Ky)×Bool :=
 (((g w z.1.1,if qB w=true then IntKind.i64.wrap (z.1.2.1+1) else z.1.2.1,IntKind.i64.wrap (z.1.2.2+1)),bA z.2 (kyW c hd w)),true)
theorem CD(c:Car)(hd:Int)(qB:Way->Bool)(g:Way->Y->Y):∀ (az:List Way) (y:Y) (yes all:Nat) (M:List Ky),yes+az.length<100000->all+az.length<100000 ->
  (aV (stepG c hd (NC c hd qB g)) az ((y,((yes:Nat):Int),((all:Nat):Int)),M)).2=true /\
  (aV (stepG c hd (NC c hd qB g)) az ((y,((yes:Nat):Int),((all:Nat):Int)),M)).1.1=((az.filter (rD c hd)).foldl (fun y w=>g w y) y,((yes+((az.filter (rD c hd)).filter qB).length:Nat):Int),((all+(az.filter (rD c hd)).length:Nat):Int))
 |[],y,yes,all,M,_,_=>⟨rfl,rfl⟩
 |a::az,y,yes,all,M,h1,h2=>by
  simp only[List.length_cons] at h1 h2;simp only[aV,stepG,List.filter_cons];by_cases hs:rD c hd a=true
  ·have w2:IntKind.i64.wrap ((all:Int)+1)=((all+1:Nat):Int):=by rw[Int.natCast_add];exact bD ⟨by omega,by omega⟩
   have w1:IntKind.i64.wrap ((yes:Int)+1)=((yes+1:Nat):Int):=by rw[Int.natCast_add];exact bD ⟨by omega,by omega⟩
   simp only[hs,if_true,NC,w1,w2];by_cases hq:qB a=true
   ·have ih:=CD c hd qB g az (g a y) (yes+1) (all+1) (bA (bA M (kyW c hd a)) (kyW c hd a)) (by omega) (by omega);simp only[hq,if_true,List.foldl_cons,List.filter_cons,List.length_cons];refine⟨ih.1,?_⟩;rw[ih.2];refine Prod.ext rfl (Prod.ext ?_ ?_)
    ·simp only;omega
    ·simp only;omega
   ·have ih:=CD c hd qB g az (g a y) yes (all+1) (bA (bA M (kyW c hd a)) (kyW c hd a)) (by omega) (by omega);simp only[hq,Bool.false_eq_true,if_false,List.foldl_cons,List.filter_cons,List.length_cons];refine⟨ih.1,?_⟩;rw[ih.2];refine Prod.ext rfl (Prod.ext rfl ?_);simp only;omega
  ·simp only[hs,if_false,if_true];exact CD c hd qB g az y yes all _ (by omega) (by omega)
def aBI(p:Nat)(fv:AV)(y:Y×Int×Int):St:=[.cells [.ptr p 0],.cells [fv],.cells [.int .i64 y.2.1],.cells [.int .i64 y.2.2]]
def SG(S:Y->List Ky->St)(y:Y×Int×Int):List Ky->St:=S y.1
def QOk(S:Y->List Ky->St)(c:Car)(hd:Int)(fv:AV)(qB:Way->Bool)(g:Way->Y->Y):Prop :=
 ∀ w,WayOk c w->∀ y M τ,mH T fv [mV (kyW c hd w),HE c (kyW c hd w)] (S y M++τ) (.bool (qB w)) (S (g w y) M++τ)
theorem VX{S:Y->List Ky->St}{c:Car}{p m N:Nat}(hQ:∀ y,MemAt (S y) (tb c m) (kEs c) p m N)(hK:∀ x A y B k i,N<=k->i<N->cE (S x A) (S y B) k i)(hv:Vd c)(h:Nat)(hhd:h<c.holds.length)(fn:FuncId)(caps:List AV)(qB:Way->Bool)(g:Way->Y->Y)(hq:QOk S c h (.func fn [] caps) qB g)(y:Y)(M:List Ky):
  ∃ M',mH T (.func 145 [] []) [.ptr p 0,.int .i64 h,.agg [.func fn [] caps]] (S y M) (.int .i64 (eF (((waysOf c h).filter qB).length) (waysOf c h).length)) (S ((waysOf c h).foldl (fun y w=>g w y) y) M'):=by
 have hal:=aB7 hv hhd;obtain⟨a1,a2⟩:=CD c h qB g (allOf c h) y 0 0 M (by omega) (by omega);have hwo:(allOf c h).filter (rD c h)=waysOf c h:=rfl;rw[hwo] at a2;have hwl:(waysOf c h).length<=1024:=Nat.le_trans (List.length_filter_le _ _) hal;have hyl:((waysOf c h).filter qB).length<=(waysOf c h).length:=List.length_filter_le _ _;obtain⟨R,hRR⟩:∃ R,aV (stepG c h (NC c h qB g)) (allOf c h) ((y,((0:Nat):Int),((0:Nat):Int)),M)=R:=⟨_,rfl⟩;rw[hRR] at a1 a2;obtain⟨y',hy'⟩:∃ y',(waysOf c h).foldl (fun y w=>g w y) y=y':=⟨_,rfl⟩;obtain⟨n1,hn1⟩:∃ n1,((waysOf c h).filter qB).length=n1:=⟨_,rfl⟩;obtain⟨n2,hn2⟩:∃ n2,(waysOf c h).length=n2:=⟨_,rfl⟩;rw[hy',hn1,hn2,Nat.zero_add,Nat.zero_add] at a2;rw[hn1,hn2] at hyl;rw[hy',hn1,hn2];have hRR:aV (stepG c h (NC c h qB g)) (allOf c h) ((y,(0:Int),(0:Int)),M)=R:=hRR;refine⟨R.1.2,CK hQ hK (af:=UX) rfl (by simp[UX]) ?_⟩;have hR:=hQ y
 (repeat (first|simp only[↓QA,QB,seval,jG,hR.len,hR.base,hR.base0,hR.bset,hR.bset0,hR.at1,hR.at0,UX]|refine rd0 rfl ?_))
 refine m6 rfl (by simp[RO]) ?_
 (repeat (first|simp only[↓QA,QB,seval,jG,hR.len,hR.base,hR.base0,hR.bset,hR.bset0,hR.at1,hR.at0,RO]|refine rd0 rfl ?_))
 have hz:∀ (y:Y) (n1 n2:Int) M,S y M++[.cells [.ptr p 0],.cells [.func fn [] caps],.cells [.int .i64 n1],.cells [.int .i64 n2],.cells [.ptr p 0],.cells [.int .i64 (h:Int)]]=Z0 (SG S) (aBI p (.func fn [] caps)) p h ((y,n1,n2),M):=fun y n1 n2 M=>by simp[Z0,SG,aBI]
 rw[hz];refine gM (n:=4) (S:=SG S) (fun y=>hQ y.1) (fun _=>rfl) hv rfl hhd (NC c h qB g) .ret _ 12 [13] _ _ rfl _ ?_ _ ?_ ?_
 ·have hlen:=C8 (S:=SG S) (U:=aBI p (.func fn [] caps)) (p:=p) (hd:=(h:Int)) (n:=4) (fun y=>hQ y.1) (fun _=>rfl);refine C1 _ _ _ hlen hlen _ _ [13] (fun t=>[mV (kyW c h t)]) (fun _=>rfl) _ _ ?_;intro w hwo x τ;obtain⟨⟨y,n1,n2⟩,M⟩:=x;have hR:=hQ y;have hko:=aAP hv (hd:=(h:Int)) hwo;have hti:=fun τ=>CO (hR.app τ) hv M (kyW c h w) hko
  have hqq:=hq w hwo y (bA M (kyW c h w));have hf:NC c h qB g w ((y,n1,n2),M)=(((g w y,if qB w=true then IntKind.i64.wrap (n1+1) else n1,IntKind.i64.wrap (n2+1)),bA M (kyW c h w)),true):=rfl;rw[hf];obtain⟨W,hW⟩:∃ W,kyW c h w=W:=⟨_,rfl⟩;obtain⟨B,hB⟩:∃ B,qB w=B:=⟨_,rfl⟩;rw[hW] at hti hqq;rw[hB] at hqq;simp only[hW,hB,iS,Z0,SG,aBI,qK];simp only[qK,yI] at hti hqq
  (repeat (first|simp only[↓QA,QB,seval,jG,hR.len,hR.base,hR.base0,hR.bset,hR.bset0,hR.at1,hR.at0]|refine rd0 rfl ?_))
  refine⟨[.cells (bL W)],rfl,?_⟩;generalize ABlk.loop .busy none _ _ _ _=lp;have hR:=hQ y
  (repeat (first|simp only[↓QA,QB,seval,jG,hR.len,hR.base,hR.base0,hR.bset,hR.bset0,hR.at1,hR.at0,aAM]|refine rd0 rfl ?_))
  refine oT (hti _) ?_
  (repeat (first|simp only[↓QA,QB,seval,jG,hR.len,hR.base,hR.base0,hR.bset,hR.bset0,hR.at1,hR.at0]|refine rd0 rfl ?_))
  refine oT (hqq _) ?_;have hO:=hQ y;have hR:=hQ (g w y);cases B
  ·(repeat (first|simp only[↓QA,QB,seval,jG,hR.len,hR.base,hR.base0,hR.bset,hR.bset0,hR.at1,hR.at0,hO.len,hO.base,hO.base0,hO.bset,hO.bset0,hO.at1,hO.at0]|refine rd0 rfl ?_))
   exact .inl ⟨[.cells (bL W)],by simp⟩
  ·(repeat (first|simp only[↓QA,QB,seval,jG,hR.len,hR.base,hR.base0,hR.bset,hR.bset0,hR.at1,hR.at0,hO.len,hO.base,hO.base0,hO.bset,hO.bset0,hO.at1,hO.at0]|refine rd0 rfl ?_))
   exact .inl ⟨[.cells (bL W)],by simp⟩
 ·intro τ h2;rw[hRR];obtain⟨⟨⟨r1,r2⟩,M'⟩,r3⟩:=R;simp only at a1 a2;injection a2 with a2 a3
  subst a2;have hR:=hQ r1;simp only[a3,Z0,SG,aBI]
  (repeat (first|simp only[↓QA,QB,seval,jG,hR.len,hR.base,hR.base0,hR.bset,hR.bset0,hR.at1,hR.at0]|refine rd0 rfl ?_))
  by_cases e1:n1=n2
  ·have hb:((n1:Int)==(n2:Int))=true:=by simp[e1]
   (repeat (first|simp only[↓QA,QB,seval,jG,hR.len,hR.base,hR.base0,hR.bset,hR.bset0,hR.at1,hR.at0,hb]|refine rd0 rfl ?_))
   exact⟨_,_,rfl,rfl,by try simp only[QS,QC,seval,jG,hR.len,hR.base,hR.base0,hR.bset,hR.bset0,hR.at1,hR.at0,eF,e1]⟩
  ·have hb:((n1:Int)==(n2:Int))=false:=by simp;omega
   by_cases e2:n1=0
   ·have hb2:((n1:Int)==0)=true:=by simp[e2]
    have hst:eF n1 n2=2:=by rw[eF,if_neg e1,if_pos e2]
    (repeat (first|simp only[↓QA,QB,seval,jG,hR.len,hR.base,hR.base0,hR.bset,hR.bset0,hR.at1,hR.at0,hb,hb2]|refine rd0 rfl ?_))
    exact⟨_,_,rfl,rfl,by try simp only[QS,QC,seval,jG,hR.len,hR.base,hR.base0,hR.bset,hR.bset0,hR.at1,hR.at0,hst]⟩
   ·have hb2:((n1:Int)==0)=false:=by simp;omega
    (repeat (first|simp only[↓QA,QB,seval,jG,hR.len,hR.base,hR.base0,hR.bset,hR.bset0,hR.at1,hR.at0,hb,hb2]|refine rd0 rfl ?_))
    exact⟨_,_,rfl,rfl,by try simp only[QS,QC,seval,jG,hR.len,hR.base,hR.base0,hR.bset,hR.bset0,hR.at1,hR.at0,eF,e1,e2]⟩
 ·intro τ h2;rw[hRR,a1] at h2;cases h2
end
end Go.Am.Room.Tu
namespace Go.Am.Room.Tu
def jB:=zz @nS (zz @mX (zz @gH (zz @fJ (zz @aK (zz @gJ (zz @fB (zz @fA (zz @List.length_append.{0} (zz @dA (zz @Nat.mul_one (zz @Int.toNat_natCast (zz @pK (zz @mZ (zz @mU (zz @mY (zz @wB (zz @gZ (zz @hJ (zz @cH (zz @bH (zz @dY (zz @dX (zz @iA (@iB))))))))))))))))))))))))
abbrev TSt:=Int×Int×Bool
def pO(nv:Int)(y:TSt)(h:Int):TSt:=if h=nv then y else if y.2.2=true then (h,h,false) else (min y.1 h,max y.2.1 h,false)
theorem IC(nv:Int):∀ (l:List Int) (lo hi:Int),l.foldl (pO nv) (lo,hi,false)=(((l.filter fun h=>decide (h≠nv)).foldl kF ⟨lo,hi⟩).lo,((l.filter fun h=>decide (h≠nv)).foldl kF ⟨lo,hi⟩).hi,false)
 |[],lo,hi=>rfl
 |h::l,lo,hi=>by
  by_cases e:h=nv
  ·simp only[List.foldl_cons,List.filter_cons,pO,e,if_true];simpa using IC nv l lo hi
  ·simp only[List.foldl_cons,List.filter_cons,pO,e,if_false,ne_eq,not_false_eq_true,decide_true,if_true,Bool.false_eq_true];exact IC nv l _ _
theorem FQ(nv:Int):∀ l:List Int,(l.foldl (pO nv) (0,0,true)).1=(kH (l.filter fun h=>decide (h≠nv))).lo/\(l.foldl (pO nv) (0,0,true)).2.1=(kH (l.filter fun h=>decide (h≠nv))).hi
 |[]=>⟨rfl,rfl⟩
 |h::l=>by
  by_cases e:h=nv
  ·simp only[List.foldl_cons,List.filter_cons,pO,e,if_true];simpa using FQ nv l
  ·simp only[List.foldl_cons,List.filter_cons,pO,e,if_false,ne_eq,not_false_eq_true,decide_true,if_true];rw[IC];exact⟨rfl,rfl⟩
theorem MD{c:Car}{i h:Nat}(hh:nH c i=(h:Int)):((waysOf c h).foldl (fun y w=>pO (never c) y (wayTime c h w i)) (0,0,true)).1=(kH (hoursOf c i)).lo/\((waysOf c h).foldl (fun y w=>pO (never c) y (wayTime c h w i)) (0,0,true)).2.1=(kH (hoursOf c i)).hi /\
  ((waysOf c h).filter fun w=>decide (wayTime c h w i≠never c)).length=(hoursOf c i).length/\(waysOf c h).length=(hoursAll c i).length:=by
 have e:hoursAll c i=(waysOf c h).map fun w=>wayTime c h w i:=by rw[hoursAll,hh,Int.toNat_natCast]
 have e2:(waysOf c h).foldl (fun y w=>pO (never c) y (wayTime c h w i)) (0,0,true)=(hoursAll c i).foldl (pO (never c)) (0,0,true):=by rw[e,List.foldl_map]
 obtain⟨h1,h2⟩:=FQ (never c) (hoursAll c i);rw[e2];refine⟨h1,h2,?_,by rw[e,List.length_map]⟩;rw[hoursOf,e,List.filter_map,List.length_map];rfl
def tK(c:Car)(n:Nat)(y:TSt)(M:List Ky):St:=[.cells (aY c),.cells [.int .i64 n],.cells [.int .i64 y.1,.int .i64 y.2.1],.cells [.ptr 7 0],.cells (aY c),.cells (aY c),.map (kEs c M),.cells (tb c 6),.cells [.bool y.2.2]]
theorem w5(c:Car)(n:Nat)(y:TSt):MemAt (tK c n y) (tb c 6) (kEs c) 7 6 9 :=
 ⟨fun _=>rfl,fun _=>rfl,fun _=>rfl,fun _ _=>rfl,fun A k=>N9 c A k,by omega,by omega⟩
theorem AY(c:Car)(n:Nat)(x:TSt)(A:List Ky)(y:TSt)(B:List Ky)(k i:Nat)(hk:9<=k)(hi:i<9):cE (tK c n x A) (tK c n y B) k i:=by
 have:i=0\/i=1\/i=2\/i=3\/i=4\/i=5\/i=6\/i=7\/i=8:=by omega
 rcases this with rfl|rfl|rfl|rfl|rfl|rfl|rfl|rfl|rfl
 ·exact .inl rfl
 ·exact .inl rfl
 ·exact .inr (.inl ⟨_,rfl,by simp[aU,okVs,okV]⟩)
 ·exact .inl rfl
 ·exact .inl rfl
 ·exact .inl rfl
 ·exact .inr (.inl ⟨_,rfl,N9 c B k⟩)
 ·exact .inl rfl
 ·exact .inr (.inl ⟨_,rfl,by simp[aU,okVs,okV]⟩)
theorem WZ{Y M:Type}{S:Y->M->St}{N:Nat}(hl:∀ y A,(S y A).length=N)(hK:∀ x A y B k i,N<=k->i<N->cE (S x A) (S y B) k i)(τ:St):∀ x A y B k i,N+τ.length<=k->i<N+τ.length->cE (S x A++τ) (S y B++τ) k i:=by
 intro x A y B k i hk hi;by_cases h:i<N
 ·have:=hK x A y B k i (by omega) h;have e1:(S x A++τ)[i]? = (S x A)[i]?:=List.getElem?_append_left (by rw[hl];exact h);have e2:(S y B++τ)[i]? = (S y B)[i]?:=List.getElem?_append_left (by rw[hl];exact h);simp only[cE,e1,e2] at this ⊢;exact this
 ·refine .inl ?_;rw[List.getElem?_append_right (by rw[hl];omega),List.getElem?_append_right (by rw[hl];omega),hl,hl]
theorem RM(c:Car)(hv:Vd c)(hd:Int)(n:Nat)(hn:n<c.lots.length):QOk (tK c n) c hd (.func 146 [] [.ptr 1 0,.ptr 3 0,.ptr 8 0,.ptr 2 0]) (fun w=>decide (wayTime c hd w n≠never c)) (fun w y=>pO (never c) y (wayTime c hd w n)):=by
 intro w hw y M τ;have hnl:=hv.nlt;have hkt:=PE (c:=c) (hd:=hd) (w:=w) (by rw[hw.len];omega);have hnev:=fun τ=>F4 ((w5 c n y).app τ) hv M
 have in5:(0:Int)<=(n:Int)/\(n:Int)<((5:Nat):Int):=⟨by omega,by omega⟩;have c4:n<=4:=by omega
 obtain⟨F,hF⟩:∃ F,kyT c (kyW c hd w)=F:=⟨_,rfl⟩;obtain⟨h,hh⟩:∃ h,wayTime c hd w n=h:=⟨_,rfl⟩;obtain⟨nv,hnv⟩:∃ nv,never c=nv:=⟨_,rfl⟩;have hFn:F n=h:=by rw[<-hF,hkt,hh]
 have hg:=y9 F (i:=n) (by omega);rw[hFn] at hg;rw[hnv] at hnev;simp only[hh,hnv,qK,yI,hF];obtain⟨Q,hQ⟩:∃ Q,pO nv y h=Q:=⟨_,rfl⟩;rw[hQ];refine CK (S:=fun y M=>tK c n y M++τ) (fun y=>(w5 c n y).app τ) (WZ (S:=tK c n) (N:=9) (fun y A=>rfl) (AY c n) τ) (af:=Y8) rfl (by simp[Y8]) ?_;obtain⟨lo,hi,f⟩:=y;have hQ2:Q=if h=nv then (lo,hi,f) else if f=true then (h,h,false) else (min lo h,max hi h,false):=hQ.symm
 simp only[tK,List.cons_append,List.nil_append] at hnev ⊢
 (repeat (first|simp only[↓QA,QB,reduceLT,reduceIte,reduceEqDiff,reduceAdd,reduceLeDiff,reduceMul,Nat.reduceBEq,jB,Y8,in5,c4,hg]|refine rd0 rfl ?_))
 refine bJ (hnev _) ?_;cases h1:(h==nv)
 case' true =>
  have h1':h=nv:=by simpa using h1
  rw[if_pos h1'] at hQ2;subst hQ2
  (repeat (first|simp only[↓QA,QB,reduceLT,reduceIte,reduceEqDiff,reduceAdd,reduceLeDiff,reduceMul,Nat.reduceBEq,jB,h1]|refine rd0 rfl ?_))
  refine⟨_,[.cells (bL (kyW c hd w)),.cells (hrs F)],rfl,rfl,?_⟩;try simp only[QS,QC,reduceLT,reduceIte,reduceEqDiff,reduceAdd,reduceLeDiff,reduceMul,Nat.reduceBEq,jB,show decide (h≠nv)=false by simp[h1']]
 have h1':¬h=nv:=by simpa using h1
 rw[if_neg h1'] at hQ2;cases f
 ·simp only[Bool.false_eq_true,if_false] at hQ2;subst hQ2
  (repeat (first|simp only[↓QA,QB,reduceLT,reduceIte,reduceEqDiff,reduceAdd,reduceLeDiff,reduceMul,Nat.reduceBEq,jB,h1]|refine rd0 rfl ?_))
  refine⟨_,[.cells (bL (kyW c hd w)),.cells (hrs F)],rfl,rfl,?_⟩;try simp only[QS,QC,reduceLT,reduceIte,reduceEqDiff,reduceAdd,reduceLeDiff,reduceMul,Nat.reduceBEq,jB,show decide (h≠nv)=true by simp[h1']]
 ·simp only[if_true] at hQ2;subst hQ2
  (repeat (first|simp only[↓QA,QB,reduceLT,reduceIte,reduceEqDiff,reduceAdd,reduceLeDiff,reduceMul,Nat.reduceBEq,jB,h1,Int.min_self,Int.max_self]|refine rd0 rfl ?_))
  refine⟨_,[.cells (bL (kyW c hd w)),.cells (hrs F)],rfl,rfl,?_⟩;try simp only[QS,QC,reduceLT,reduceIte,reduceEqDiff,reduceAdd,reduceLeDiff,reduceMul,Nat.reduceBEq,jB,show decide (h≠nv)=true by simp[h1']]
def pT(x:Span×Int×Int):AV:=.tuple [eM x.1,.int .i64 x.2.1,.int .i64 x.2.2]
theorem OD(c:Car)(n:Int)(h:lotErr c n≠0):turnsOf c n=(⟨0,0⟩,0,lotErr c n):=by rw[turnsOf,if_neg h]
theorem RS{c:Car}{n:Int}(h:lotErr c n=0):Vd c/\(0<=n/\n<c.lots.length)/\someB c=true:=by
 unfold lotErr at h;split at h
 ·rename_i h1;split at h
  ·rename_i h2;unfold errAsk at h1;split at h1
   ·rename_i h3;split at h1
    ·rename_i h4;rw[cG] at h4;exact⟨vd_of_check h3,by omega,h2⟩
    ·omega
   ·rename_i h3;exact absurd h1 h3
  ·omega
 ·rename_i h1;exact absurd h h1
theorem pturns_ok(c:Car)(n:Int)(hf:Fits c):cZ T 35 [i9 c,.int .i64 n] (pT (turnsOf c n)):=by
 refine aX (af:=a35) rfl (by simp[a35]) dd ?_;have hlt:=hf.lots;have hno:=UG (c.lots.length:Int) n ⟨by omega,by omega⟩;have hen:=fun σ=>k8 σ c n hf
 simp only[nS,mX] at hen
 (repeat (first|simp only[↓QA,QB,seval,jB,a35]|refine rd0 rfl ?_))
 refine uH [.cells [.nilPtr]] rfl ?_
 (repeat (first|simp only[↓QA,QB,seval,jB]|refine rd0 rfl ?_))
 refine iT hno (by simp[clrs,clr,ints]) (by simp[okVs,okV]) ?_
 (repeat (first|simp only[↓QA,QB,seval,jB]|refine rd0 rfl ?_))
 refine oT (hen _) ?_;simp only[fQ,jH];by_cases h0:lotErr c n=0
 ·obtain⟨hv,⟨hn0,hn1⟩,hsb⟩:=RS h0;obtain⟨i,rfl⟩:∃ i:Nat,n=i:=⟨n.toNat,by omega⟩;have hi:i<c.lots.length:=by omega
  have hlh:=aA6 hv hi;obtain⟨h,hh⟩:∃ h:Nat,nH c i=h:=⟨(nH c i).toNat,by omega⟩;have hhd:h<c.holds.length:=by omega
  obtain⟨f1,f2,f3,f4⟩:=MD hh;obtain⟨M',hask⟩:=VX (w5 c i) (AY c i) hv h hhd 146 [.ptr 1 0,.ptr 3 0,.ptr 8 0,.ptr 2 0] _ _ (RM c hv h i hi) (0,0,true) (GG c []);rw[f3,f4] at hask;obtain⟨Q,hQ⟩:∃ Q,(waysOf c h).foldl (fun y w=>pO (never c) y (wayTime c h w i)) (0,0,true)=Q:=⟨_,rfl⟩;rw[hQ] at f1 f2 hask;have hm:turnsOf c i=(⟨Q.1,Q.2.1⟩,eF (hoursOf c i).length (hoursAll c i).length,0):=by rw[turnsOf,if_pos h0,Int.toNat_natCast,f1,f2]
  have hxh:c.lots[i].hold=(h:Int):=by rw[<-hh];simp[nH,hi]
  obtain⟨x,hx⟩:∃ x,c.lots[i]=x:=⟨_,rfl⟩;rw[hx] at hxh;rw[if_pos h0,if_pos h0,hm];simp only[tK] at hask;simp only[j7];try simp only[↓QA,QB,seval,jB] at hask
  (repeat (first|simp only[↓QA,QB,seval,jB,show ((0:Int)==0)=true from rfl,hi,hx,hxh]|refine rd0 rfl ?_))
  refine oT hask ?_
  (repeat (first|simp only[↓QA,QB,seval,jB,pT,hi,hx,hxh]|refine rd0 rfl ?_))
 ·rw[if_neg h0,if_neg h0,OD c n h0];have hne:(lotErr c n==0)=false:=by simpa using h0
  (repeat (first|simp only[↓QA,QB,seval,jB,hne,pT]|refine rd0 rfl ?_))
end Go.Am.Room.Tu
noncomputable section
namespace Go.Am.Ex
inductive N16 (α:Type) where
 |mk (a0 a1 a2 a3 a4 a5 a6 a7 a8 a9 aa ab ac ad ae af:α)
inductive Dg where
 |d0
 |d1
 |d2
 |d3
 |d4
 |d5
 |d6
 |d7
 |d8
 |d9
 |da
 |db
 |dc
 |dd
 |de
 |df
def Dg.nat:Dg->Nat
 |.d0=>0
 |.d1=>1
 |.d2=>2
 |.d3=>3
 |.d4=>4
 |.d5=>5
 |.d6=>6
 |.d7=>7
 |.d8=>8
 |.d9=>9
 |.da=>10
 |.db=>11
 |.dc=>12
 |.dd=>13
 |.de=>14
 |.df=>15
instance:DecidableEq Dg:=fun a b=>decidable_of_iff (a.nat=b.nat) ⟨fun h=>by cases a<;>cases b<;>first|rfl|(exact absurd h (by decide)),fun h=>by rw[h]⟩
namespace N16
variable {α:Type}
def g0(b:N16 α):α:=N16.rec (fun a0 a1 a2 a3 a4 a5 a6 a7 a8 a9 aa ab ac ad ae af=>a0) b
def p0(v:α)(b:N16 α):N16 α:=N16.rec (fun a0 a1 a2 a3 a4 a5 a6 a7 a8 a9 aa ab ac ad ae af=>.mk v a1 a2 a3 a4 a5 a6 a7 a8 a9 aa ab ac ad ae af) b
def g1(b:N16 α):α:=N16.rec (fun a0 a1 a2 a3 a4 a5 a6 a7 a8 a9 aa ab ac ad ae af=>a1) b
def p1(v:α)(b:N16 α):N16 α:=N16.rec (fun a0 a1 a2 a3 a4 a5 a6 a7 a8 a9 aa ab ac ad ae af=>.mk a0 v a2 a3 a4 a5 a6 a7 a8 a9 aa ab ac ad ae af) b
def g2(b:N16 α):α:=N16.rec (fun a0 a1 a2 a3 a4 a5 a6 a7 a8 a9 aa ab ac ad ae af=>a2) b
def p2(v:α)(b:N16 α):N16 α:=N16.rec (fun a0 a1 a2 a3 a4 a5 a6 a7 a8 a9 aa ab ac ad ae af=>.mk a0 a1 v a3 a4 a5 a6 a7 a8 a9 aa ab ac ad ae af) b
def g3(b:N16 α):α:=N16.rec (fun a0 a1 a2 a3 a4 a5 a6 a7 a8 a9 aa ab ac ad ae af=>a3) b
def p3(v:α)(b:N16 α):N16 α:=N16.rec (fun a0 a1 a2 a3 a4 a5 a6 a7 a8 a9 aa ab ac ad ae af=>.mk a0 a1 a2 v a4 a5 a6 a7 a8 a9 aa ab ac ad ae af) b
def g4(b:N16 α):α:=N16.rec (fun a0 a1 a2 a3 a4 a5 a6 a7 a8 a9 aa ab ac ad ae af=>a4) b
def p4(v:α)(b:N16 α):N16 α:=N16.rec (fun a0 a1 a2 a3 a4 a5 a6 a7 a8 a9 aa ab ac ad ae af=>.mk a0 a1 a2 a3 v a5 a6 a7 a8 a9 aa ab ac ad ae af) b
def g5(b:N16 α):α:=N16.rec (fun a0 a1 a2 a3 a4 a5 a6 a7 a8 a9 aa ab ac ad ae af=>a5) b
def p5(v:α)(b:N16 α):N16 α:=N16.rec (fun a0 a1 a2 a3 a4 a5 a6 a7 a8 a9 aa ab ac ad ae af=>.mk a0 a1 a2 a3 a4 v a6 a7 a8 a9 aa ab ac ad ae af) b
def g6(b:N16 α):α:=N16.rec (fun a0 a1 a2 a3 a4 a5 a6 a7 a8 a9 aa ab ac ad ae af=>a6) b
def p6(v:α)(b:N16 α):N16 α:=N16.rec (fun a0 a1 a2 a3 a4 a5 a6 a7 a8 a9 aa ab ac ad ae af=>.mk a0 a1 a2 a3 a4 a5 v a7 a8 a9 aa ab ac ad ae af) b
def g7(b:N16 α):α:=N16.rec (fun a0 a1 a2 a3 a4 a5 a6 a7 a8 a9 aa ab ac ad ae af=>a7) b
def p7(v:α)(b:N16 α):N16 α:=N16.rec (fun a0 a1 a2 a3 a4 a5 a6 a7 a8 a9 aa ab ac ad ae af=>.mk a0 a1 a2 a3 a4 a5 a6 v a8 a9 aa ab ac ad ae af) b
def g8(b:N16 α):α:=N16.rec (fun a0 a1 a2 a3 a4 a5 a6 a7 a8 a9 aa ab ac ad ae af=>a8) b
def p8(v:α)(b:N16 α):N16 α:=N16.rec (fun a0 a1 a2 a3 a4 a5 a6 a7 a8 a9 aa ab ac ad ae af=>.mk a0 a1 a2 a3 a4 a5 a6 a7 v a9 aa ab ac ad ae af) b
def g9(b:N16 α):α:=N16.rec (fun a0 a1 a2 a3 a4 a5 a6 a7 a8 a9 aa ab ac ad ae af=>a9) b
def p9(v:α)(b:N16 α):N16 α:=N16.rec (fun a0 a1 a2 a3 a4 a5 a6 a7 a8 a9 aa ab ac ad ae af=>.mk a0 a1 a2 a3 a4 a5 a6 a7 a8 v aa ab ac ad ae af) b
def ga(b:N16 α):α:=N16.rec (fun a0 a1 a2 a3 a4 a5 a6 a7 a8 a9 aa ab ac ad ae af=>aa) b
def pa(v:α)(b:N16 α):N16 α:=N16.rec (fun a0 a1 a2 a3 a4 a5 a6 a7 a8 a9 aa ab ac ad ae af=>.mk a0 a1 a2 a3 a4 a5 a6 a7 a8 a9 v ab ac ad ae af) b
def gb(b:N16 α):α:=N16.rec (fun a0 a1 a2 a3 a4 a5 a6 a7 a8 a9 aa ab ac ad ae af=>ab) b
def pb(v:α)(b:N16 α):N16 α:=N16.rec (fun a0 a1 a2 a3 a4 a5 a6 a7 a8 a9 aa ab ac ad ae af=>.mk a0 a1 a2 a3 a4 a5 a6 a7 a8 a9 aa v ac ad ae af) b
def gc(b:N16 α):α:=N16.rec (fun a0 a1 a2 a3 a4 a5 a6 a7 a8 a9 aa ab ac ad ae af=>ac) b
def pc(v:α)(b:N16 α):N16 α:=N16.rec (fun a0 a1 a2 a3 a4 a5 a6 a7 a8 a9 aa ab ac ad ae af=>.mk a0 a1 a2 a3 a4 a5 a6 a7 a8 a9 aa ab v ad ae af) b
def gd(b:N16 α):α:=N16.rec (fun a0 a1 a2 a3 a4 a5 a6 a7 a8 a9 aa ab ac ad ae af=>ad) b
def pd(v:α)(b:N16 α):N16 α:=N16.rec (fun a0 a1 a2 a3 a4 a5 a6 a7 a8 a9 aa ab ac ad ae af=>.mk a0 a1 a2 a3 a4 a5 a6 a7 a8 a9 aa ab ac v ae af) b
def ge(b:N16 α):α:=N16.rec (fun a0 a1 a2 a3 a4 a5 a6 a7 a8 a9 aa ab ac ad ae af=>ae) b
def pe(v:α)(b:N16 α):N16 α:=N16.rec (fun a0 a1 a2 a3 a4 a5 a6 a7 a8 a9 aa ab ac ad ae af=>.mk a0 a1 a2 a3 a4 a5 a6 a7 a8 a9 aa ab ac ad v af) b
def gf(b:N16 α):α:=N16.rec (fun a0 a1 a2 a3 a4 a5 a6 a7 a8 a9 aa ab ac ad ae af=>af) b
def pf(v:α)(b:N16 α):N16 α:=N16.rec (fun a0 a1 a2 a3 a4 a5 a6 a7 a8 a9 aa ab ac ad ae af=>.mk a0 a1 a2 a3 a4 a5 a6 a7 a8 a9 aa ab ac ad ae v) b
def sel(d:Dg):N16 α->α:=Dg.rec g0 g1 g2 g3 g4 g5 g6 g7 g8 g9 ga gb gc gd ge gf d
def put(d:Dg):α->N16 α->N16 α:=Dg.rec p0 p1 p2 p3 p4 p5 p6 p7 p8 p9 pa pb pc pd pe pf d
theorem sel_put(d d':Dg)(v:α)(b:N16 α):sel d' (put d v b)=if d=d' then v else sel d' b:=by
 cases b;cases d<;>cases d'<;>rfl
def all(v:α):N16 α:=.mk v v v v v v v v v v v v v v v v
theorem sel_all(d:Dg)(v:α):sel d (all v)=v:=by cases d<;>rfl
end N16
def dig(n:Nat):Dg:=cond (Nat.beq n 0) .d0 (cond (Nat.beq n 1) .d1 (cond (Nat.beq n 2) .d2 (cond (Nat.beq n 3) .d3 (cond (Nat.beq n 4) .d4 (cond (Nat.beq n 5) .d5 (cond (Nat.beq n 6) .d6 (cond (Nat.beq n 7) .d7 (cond (Nat.beq n 8) .d8 (cond (Nat.beq n 9) .d9 (cond (Nat.beq n 10) .da (cond (Nat.beq n 11) .db (cond (Nat.beq n 12) .dc (cond (Nat.beq n 13) .dd (cond (Nat.beq n 14) .de (cond (Nat.beq n 15) .df (.d0))))))))))))))))
theorem PW:∀ n,n<16->(dig n).nat=n:=by decide
theorem y5{n m:Nat}(hn:n<16)(hm:m<16)(h:dig n=dig m):n=m:=by rw[<-PW n hn,<-PW m hm,h]
abbrev Tre:=N16 (N16 AV)
def Tre.none:Tre:=.all (.all .undef)
def Tre.get(e:Tre)(t:Nat):AV:=cond (Nat.ble t 255) (N16.sel (dig (Nat.mod t 16)) (N16.sel (dig (Nat.div t 16)) e)) .undef
def Tre.put(e:Tre)(t:Nat)(v:AV):Tre:=N16.put (dig (Nat.div t 16)) (N16.put (dig (Nat.mod t 16)) v (N16.sel (dig (Nat.div t 16)) e)) e
theorem Tre.get_none(t:Nat):Tre.get .none t = .undef:=by
 unfold Tre.get Tre.none;cases Nat.ble t 255<;>simp[N16.sel_all]
theorem Tre.get_put(e:Tre)(t:Nat)(v:AV)(ht:Nat.ble t 255=true)(s:Nat):Tre.get (Tre.put e t v) s=if t=s then v else Tre.get e s:=by
 have h1:t<=255:=Nat.le_of_ble_eq_true ht;unfold Tre.get Tre.put;cases hs:Nat.ble s 255 with
 |false =>
  have:t≠s:=fun h=>by rw[h,hs] at ht;cases ht
  rw[if_neg this];rfl
 |true =>
  have h2:s<=255:=Nat.le_of_ble_eq_true hs;simp only[cond_true,N16.sel_put];by_cases hd:dig (Nat.div t 16)=dig (Nat.div s 16)
  ·have e1:t/16=s/16:=y5 (by omega) (by omega) hd;rw[if_pos hd,N16.sel_put];by_cases hm:dig (Nat.mod t 16)=dig (Nat.mod s 16)
   ·have e2:t%16=s%16:=y5 (Nat.mod_lt _ (by omega)) (Nat.mod_lt _ (by omega)) hm;rw[if_pos hm,if_pos (by omega)]
   ·rw[if_neg hm,if_neg (fun h=>hm (by rw[h])),hd]
  ·rw[if_neg hd,if_neg (fun h=>hd (by rw[h]))]
def lX(env:Env)(e:Tre):Prop:=∀ t,Env.get env t=Tre.get e t
theorem lX.put{env:Env}{e:Tre}(h:lX env e)(t:Nat)(v:AV)(ht:Nat.ble t 255=true):lX (Env.put env (some t) v) (Tre.put e t v):=by
 intro s;rw[Tre.get_put e t v ht];simp only[Env.put,Env.get];split
 ·rfl
 ·exact h s
def nth{α:Type}(l:List α):Nat->Option α:=List.rec (motive:=fun _=>Nat->Option α) (fun _=>none) (fun x _ ih n=>Nat.rec (some x) (fun m _=>ih m) n) l
theorem zZ{α:Type}:∀ (l:List α) (n:Nat),nth l n=l[n]?
 |[],n=>by simp[nth]
 |x::l,0=>by rw[List.getElem?_cons_zero];rfl
 |x::l,n+1=>by rw[List.getElem?_cons_succ,<-zZ l n];rfl
def aIE{α:Type}(x:α)(l:List α):Nat->List α:=List.rec (motive:=fun _=>Nat->List α) (fun _=>[]) (fun y ys ih n=>Nat.rec (x::ys) (fun m _=>y::ih m) n) l
theorem QK{α:Type}(x:α):∀ (l:List α) (n:Nat),aIE x l n=l.set n x
 |[],n=>by simp[aIE]
 |y::l,0=>by rw[List.set_cons_zero];rfl
 |y::l,n+1=>by rw[List.set_cons_succ,<-QK x l n];rfl
def oX{α:Type}(l:List α):Nat:=List.rec 0 (fun _ _ ih=>Nat.add ih 1) l
theorem jE{α:Type}:∀ l:List α,oX l=l.length
 |[]=>rfl
 |x::l=>by rw[List.length_cons,<-jE l];rfl
def snoc{α:Type}(x:α)(l:List α):List α:=List.rec [x] (fun y _ ih=>y::ih) l
theorem P7{α:Type}(x:α):∀ l:List α,snoc x l=l++[x]
 |[]=>rfl
 |y::l=>by rw[List.cons_append,<-P7 x l];rfl
def NV{α:Type}(l k:List α):List α:=List.rec k (fun y _ ih=>y::ih) l
theorem sX{α:Type}(k:List α):∀ l:List α,NV l k=l++k
 |[]=>rfl
 |y::l=>by rw[List.cons_append,<-sX k l];rfl
def aOO{α β:Type}(f:α->β)(l:List α):List β:=List.rec [] (fun y _ ih=>f y::ih) l
theorem PU{α β:Type}(f:α->β):∀ l:List α,aOO f l=l.map f
 |[]=>rfl
 |y::l=>by rw[List.map_cons,<-PU f l];rfl
def O5{α:Type}(l:List α):Nat->List α:=List.rec (motive:=fun _=>Nat->List α) (fun _=>[]) (fun y ys ih n=>Nat.rec (y::ys) (fun m _=>ih m) n) l
theorem EH{α:Type}:∀ (l:List α) (n:Nat),O5 l n=l.drop n
 |[],n=>by simp[O5]
 |y::l,0=>by rw[List.drop_zero];rfl
 |y::l,n+1=>by rw[List.drop_succ_cons,<-EH l n];rfl
def XC{α:Type}(l:List α):Nat->List α:=List.rec (motive:=fun _=>Nat->List α) (fun _=>[]) (fun y _ ih n=>Nat.rec [] (fun m _=>y::ih m) n) l
theorem J3{α:Type}:∀ (l:List α) (n:Nat),XC l n=l.take n
 |[],n=>by simp[XC]
 |y::l,0=>by rw[List.take_zero];rfl
 |y::l,n+1=>by rw[List.take_succ_cons,<-J3 l n];rfl
def NA{α:Type}(f:α->Bool)(l:List α):Bool:=List.rec true (fun y _ ih=>cond (f y) ih false) l
theorem I0q{α:Type}(f:α->Bool):∀ l:List α,NA f l=l.all f
 |[]=>rfl
 |y::l=>by rw[List.all_cons,<-I0q f l];simp only[NA];cases f y<;>rfl
section
variable {R:Type}
def aPD(v:AV):(IntKind->Int->R)->R->R:=AV.rec (motive_1:=fun _=>(IntKind->Int->R)->R->R) (motive_2:=fun _=>PUnit) (fun _ d=>d) (fun k n K d=>K k n) (fun _ _ d=>d) (fun _ _ d=>d) (fun _ _ _ _ _ _ d=>d) (fun _ d=>d) (fun _ _ d=>d) (fun _ _ _ d=>d) (fun _ d=>d) (fun _ _ _ _ _ _ d=>d) (fun _ _ _ _ _ d=>d) (fun _ _ _ _ _ d=>d) (fun _ _ d=>d) (fun _ d=>d) (fun _ _ _ d=>d) (fun _ _ _ d=>d) ⟨⟩ (fun _ _ _ _=>⟨⟩) v
theorem aDU(v:AV)(K:IntKind->Int->R)(d:R):aPD v K d=match v with|.int k n=>K k n|_=>d:=by cases v<;>rfl
def GP(v:AV):(Bool->R)->R->R:=AV.rec (motive_1:=fun _=>(Bool->R)->R->R) (motive_2:=fun _=>PUnit) (fun _ d=>d) (fun _ _ _ d=>d) (fun b K d=>K b) (fun _ _ d=>d) (fun _ _ _ _ _ _ d=>d) (fun _ d=>d) (fun _ _ d=>d) (fun _ _ _ d=>d) (fun _ d=>d) (fun _ _ _ _ _ _ d=>d) (fun _ _ _ _ _ d=>d) (fun _ _ _ _ _ d=>d) (fun _ _ d=>d) (fun _ d=>d) (fun _ _ _ d=>d) (fun _ _ _ d=>d) ⟨⟩ (fun _ _ _ _=>⟨⟩) v
theorem xX(v:AV)(K:Bool->R)(d:R):GP v K d=match v with|.bool b=>K b|_=>d:=by cases v<;>rfl
def PX(v:AV):(FuncId->List AV->List AV->R)->R->R:=AV.rec (motive_1:=fun _=>(FuncId->List AV->List AV->R)->R->R) (motive_2:=fun _=>PUnit) (fun _ d=>d) (fun _ _ _ d=>d) (fun _ _ d=>d) (fun _ _ d=>d) (fun f a c _ _ K d=>K f a c) (fun _ d=>d) (fun _ _ d=>d) (fun _ _ _ d=>d) (fun _ d=>d) (fun _ _ _ _ _ _ d=>d) (fun _ _ _ _ _ d=>d) (fun _ _ _ _ _ d=>d) (fun _ _ d=>d) (fun _ d=>d) (fun _ _ _ d=>d) (fun _ _ _ d=>d) ⟨⟩ (fun _ _ _ _=>⟨⟩) v
theorem DV(v:AV)(K:FuncId->List AV->List AV->R)(d:R):PX v K d=match v with|.func f a c=>K f a c|_=>d:=by cases v<;>rfl
def MY(v:AV):(Nat->R)->R->R:=AV.rec (motive_1:=fun _=>(Nat->R)->R->R) (motive_2:=fun _=>PUnit) (fun _ d=>d) (fun _ _ _ d=>d) (fun _ _ d=>d) (fun _ _ d=>d) (fun _ _ _ _ _ _ d=>d) (fun _ d=>d) (fun i K d=>K i) (fun _ _ _ d=>d) (fun _ d=>d) (fun _ _ _ _ _ _ d=>d) (fun _ _ _ _ _ d=>d) (fun _ _ _ _ _ d=>d) (fun _ _ d=>d) (fun _ d=>d) (fun _ _ _ d=>d) (fun _ _ _ d=>d) ⟨⟩ (fun _ _ _ _=>⟨⟩) v
theorem GA(v:AV)(K:Nat->R)(d:R):MY v K d=match v with|.yield i=>K i|_=>d:=by cases v<;>rfl
def VP(v:AV):(Nat->Nat->R)->R->R:=AV.rec (motive_1:=fun _=>(Nat->Nat->R)->R->R) (motive_2:=fun _=>PUnit) (fun _ d=>d) (fun _ _ _ d=>d) (fun _ _ d=>d) (fun _ _ d=>d) (fun _ _ _ _ _ _ d=>d) (fun _ d=>d) (fun _ _ d=>d) (fun i o K d=>K i o) (fun _ d=>d) (fun _ _ _ _ _ _ d=>d) (fun _ _ _ _ _ d=>d) (fun _ _ _ _ _ d=>d) (fun _ _ d=>d) (fun _ d=>d) (fun _ _ _ d=>d) (fun _ _ _ d=>d) ⟨⟩ (fun _ _ _ _=>⟨⟩) v
theorem CB(v:AV)(K:Nat->Nat->R)(d:R):VP v K d=match v with|.ptr i o=>K i o|_=>d:=by cases v<;>rfl
def QO(v:AV):(List AV->Nat->Nat->Option Nat->R)->R->R:=AV.rec (motive_1:=fun _=>(List AV->Nat->Nat->Option Nat->R)->R->R) (motive_2:=fun _=>PUnit) (fun _ d=>d) (fun _ _ _ d=>d) (fun _ _ d=>d) (fun _ _ d=>d) (fun _ _ _ _ _ _ d=>d) (fun _ d=>d) (fun _ _ d=>d) (fun _ _ _ d=>d) (fun _ d=>d) (fun xs i o tk _ K d=>K xs i o tk) (fun _ _ _ _ _ d=>d) (fun _ _ _ _ _ d=>d) (fun _ _ d=>d) (fun _ d=>d) (fun _ _ _ d=>d) (fun _ _ _ d=>d) ⟨⟩ (fun _ _ _ _=>⟨⟩) v
theorem DT(v:AV)(K:List AV->Nat->Nat->Option Nat->R)(d:R):QO v K d=match v with|.lptr xs i o tk=>K xs i o tk|_=>d:=by cases v<;>rfl
def zB(v:AV):(List AV->Bool->Option Nat->R)->R->R:=AV.rec (motive_1:=fun _=>(List AV->Bool->Option Nat->R)->R->R) (motive_2:=fun _=>PUnit) (fun _ d=>d) (fun _ _ _ d=>d) (fun _ _ d=>d) (fun _ _ d=>d) (fun _ _ _ _ _ _ d=>d) (fun _ d=>d) (fun _ _ d=>d) (fun _ _ _ d=>d) (fun _ d=>d) (fun _ _ _ _ _ _ d=>d) (fun xs fl tk _ K d=>K xs fl tk) (fun _ _ _ _ _ d=>d) (fun _ _ d=>d) (fun _ d=>d) (fun _ _ _ d=>d) (fun _ _ _ d=>d) ⟨⟩ (fun _ _ _ _=>⟨⟩) v
theorem xG(v:AV)(K:List AV->Bool->Option Nat->R)(d:R):zB v K d=match v with|.lit xs fl tk=>K xs fl tk|_=>d:=by cases v<;>rfl
def UQ(v:AV):(Nat->Nat->Nat->Nat->R)->R->R:=AV.rec (motive_1:=fun _=>(Nat->Nat->Nat->Nat->R)->R->R) (motive_2:=fun _=>PUnit) (fun _ d=>d) (fun _ _ _ d=>d) (fun _ _ d=>d) (fun _ _ d=>d) (fun _ _ _ _ _ _ d=>d) (fun _ d=>d) (fun _ _ d=>d) (fun _ _ _ d=>d) (fun _ d=>d) (fun _ _ _ _ _ _ d=>d) (fun _ _ _ _ _ d=>d) (fun i o l z K d=>K i o l z) (fun _ _ d=>d) (fun _ d=>d) (fun _ _ _ d=>d) (fun _ _ _ d=>d) ⟨⟩ (fun _ _ _ _=>⟨⟩) v
theorem HS(v:AV)(K:Nat->Nat->Nat->Nat->R)(d:R):UQ v K d=match v with|.ref i o l z=>K i o l z|_=>d:=by cases v<;>rfl
def aHG(v:AV):(List AV->R)->R->R:=AV.rec (motive_1:=fun _=>(List AV->R)->R->R) (motive_2:=fun _=>PUnit) (fun _ d=>d) (fun _ _ _ d=>d) (fun _ _ d=>d) (fun _ _ d=>d) (fun _ _ _ _ _ _ d=>d) (fun _ d=>d) (fun _ _ d=>d) (fun _ _ _ d=>d) (fun _ d=>d) (fun _ _ _ _ _ _ d=>d) (fun _ _ _ _ _ d=>d) (fun _ _ _ _ _ d=>d) (fun _ _ d=>d) (fun _ d=>d) (fun cs _ K d=>K cs) (fun _ _ _ d=>d) ⟨⟩ (fun _ _ _ _=>⟨⟩) v
theorem aEP(v:AV)(K:List AV->R)(d:R):aHG v K d=match v with|.agg cs=>K cs|_=>d:=by cases v<;>rfl
def MS(v:AV):(List AV->R)->R->R:=AV.rec (motive_1:=fun _=>(List AV->R)->R->R) (motive_2:=fun _=>PUnit) (fun _ d=>d) (fun _ _ _ d=>d) (fun _ _ d=>d) (fun _ _ d=>d) (fun _ _ _ _ _ _ d=>d) (fun _ d=>d) (fun _ _ d=>d) (fun _ _ _ d=>d) (fun _ d=>d) (fun _ _ _ _ _ _ d=>d) (fun _ _ _ _ _ d=>d) (fun _ _ _ _ _ d=>d) (fun _ _ d=>d) (fun _ d=>d) (fun _ _ _ d=>d) (fun vs _ K d=>K vs) ⟨⟩ (fun _ _ _ _=>⟨⟩) v
theorem F6(v:AV)(K:List AV->R)(d:R):MS v K d=match v with|.tuple vs=>K vs|_=>d:=by cases v<;>rfl
def lR(b:ABlk):(List AV->R)->R->R:=ABlk.rec (motive:=fun _=>(List AV->R)->R->R) (fun cs K d=>K cs) (fun _ _ d=>d) (fun _ _ _ _ d=>d) (fun _ _ _ d=>d) (fun _ _ _ _ _ d=>d) (fun _ _ _ _ _ _ _ d=>d) (fun _ d=>d) b
theorem zA(b:ABlk)(K:List AV->R)(d:R):lR b K d=match b with|.cells cs=>K cs|_=>d:=by cases b<;>rfl
def FM(b:ABlk):(LS->Option AJump->Env->List Nat->ACode->ACode->R)->R->R:=ABlk.rec (motive:=fun _=>(LS->Option AJump->Env->List Nat->ACode->ACode->R)->R->R) (fun _ _ d=>d) (fun _ _ d=>d) (fun _ _ _ _ d=>d) (fun _ _ _ d=>d) (fun _ _ _ _ _ d=>d) (fun s p e q a b K d=>K s p e q a b) (fun _ d=>d) b
theorem J4(b:ABlk)(K:LS->Option AJump->Env->List Nat->ACode->ACode->R)(d:R):FM b K d=match b with|.loop s p e q a b=>K s p e q a b|_=>d:=by cases b<;>rfl
def OY(k:IntKind):Bool:=IntKind.rec false false false true false false false false k
theorem WA{k:IntKind}(h:OY k=true):k = .i64:=by cases k<;>first|rfl|(cases h;done)
def aK1(n:Int):(Nat->R)->R->R:=Int.rec (motive:=fun _=>(Nat->R)->R->R) (fun m K d=>K m) (fun _ _ d=>d) n
theorem aBT(n:Int)(K:Nat->R)(d:R):(∃ m:Nat,n=m/\aK1 n K d=K m)\/aK1 n K d=d:=by
 cases n with
 |ofNat m=>exact .inl ⟨m,rfl,rfl⟩
 |negSucc m=>exact .inr rfl
end
def eS{α R:Type}(d:R)(x:Option α)(K:α->R):R:=Option.rec d (fun y=>K y) x
theorem cW{α R:Type}(d:R)(x:Option α)(K:α->R):eS d x K=match x with|some y=>K y|none=>d:=by cases x<;>rfl
def nW{R:Type}(n:Nat)(K:Nat->R):R:=Nat.rec (K 0) (fun m _=>K (Nat.succ m)) n
theorem kT{R:Type}(n:Nat)(K:Nat->R):nW n K=K n:=by cases n<;>rfl
def odv(x:AOpd):Tre->AV:=AOpd.rec (fun t e=>Tre.get e t) (fun v _=>v) x
theorem iH{env:Env}{e:Tre}(h:lX env e)(x:AOpd):odv x e=x.ev env:=by
 cases x with
 |t n=>exact (h n).symm
 |c v=>rfl
def SR(xs:List AOpd)(e:Tre):List AV:=List.rec [] (fun x _ ih=>odv x e::ih) xs
theorem xN{env:Env}{e:Tre}(h:lX env e):∀ xs:List AOpd,SR xs e=xs.map (·.ev env)
 |[]=>rfl
 |x::xs=>by rw[List.map_cons,<-xN h xs,<-iH h];rfl
def J2(e:Tre)(ts:List Nat):Env:=List.rec [] (fun t _ ih=>(t,Tre.get e t)::ih) ts
theorem AF{env:Env}{e:Tre}(h:lX env e):∀ (ts:List Nat) (t:Nat),t∈ts->Env.get (J2 e ts) t=Env.get env t
 |s::ts,t,ht=>by
  have e1:J2 e (s::ts)=(s,Tre.get e s)::J2 e ts:=rfl;rw[e1,Env.get];split
  ·rename_i hs;subst hs;exact (h _).symm
  ·rename_i hs;refine AF h ts t ?_;rcases List.mem_cons.1 ht with rfl|ht
   ·exact absurd rfl hs
   ·exact ht
inductive SS where
 |mk (n:Nat) (t:N16 (N16 (N16 (Option ABlk))))
def SS.len(s:SS):Nat:=SS.rec (fun n _=>n) s
def SS.tree(s:SS):N16 (N16 (N16 (Option ABlk))):=SS.rec (fun _ t=>t) s
def DI(t:N16 (N16 (N16 (Option ABlk))))(i:Nat):Option ABlk:=N16.sel (dig (Nat.mod i 16)) (N16.sel (dig (Nat.mod (Nat.div i 16) 16)) (N16.sel (dig (Nat.div i 256)) t))
def NN(t:N16 (N16 (N16 (Option ABlk))))(i:Nat)(b:Option ABlk):N16 (N16 (N16 (Option ABlk))) :=
 N16.put (dig (Nat.div i 256)) (N16.put (dig (Nat.mod (Nat.div i 16) 16)) (N16.put (dig (Nat.mod i 16)) b (N16.sel (dig (Nat.mod (Nat.div i 16) 16)) (N16.sel (dig (Nat.div i 256)) t))) (N16.sel (dig (Nat.div i 256)) t)) t
theorem F0(t:N16 (N16 (N16 (Option ABlk)))){i j:Nat}(b:Option ABlk)(hi:i<=4095)(hj:j<=4095):DI (NN t i b) j=if i=j then b else DI t j:=by
 unfold DI NN;rw[N16.sel_put];by_cases h1:dig (Nat.div i 256)=dig (Nat.div j 256)
 ·have e1:i/256=j/256:=y5 (by omega) (by omega) h1;rw[if_pos h1,N16.sel_put];by_cases h2:dig (Nat.mod (Nat.div i 16) 16)=dig (Nat.mod (Nat.div j 16) 16)
  ·have e2:i/16%16=j/16%16:=y5 (Nat.mod_lt _ (by omega)) (Nat.mod_lt _ (by omega)) h2;rw[if_pos h2,N16.sel_put];by_cases h3:dig (Nat.mod i 16)=dig (Nat.mod j 16)
   ·have e3:i%16=j%16:=y5 (Nat.mod_lt _ (by omega)) (Nat.mod_lt _ (by omega)) h3;rw[if_pos h3,if_pos (by omega)]
   ·rw[if_neg h3,if_neg (fun h=>h3 (by rw[h])),h2,h1]
  ·rw[if_neg h2,if_neg (fun h=>h2 (by rw[h])),h1]
 ·rw[if_neg h1,if_neg (fun h=>h1 (by rw[h]))]
def SS.get(s:SS)(i:Nat):Option ABlk:=cond (Nat.ble i 4095) (DI s.tree i) none
def SS.set(s:SS)(i:Nat)(b:ABlk):SS:=SS.rec (fun n t=>.mk n (NN t i (some b))) s
def SS.new:SS:=.mk 0 (.all (.all (.all none)))
def DQ{R:Type}(d:R)(s:SS)(b:ABlk)(K:SS->R):R:=SS.rec (fun n t=>cond (Nat.ble n 4095) (nW (Nat.add n 1) fun m=>K (.mk m (NN t n (some b)))) d) s
def dG(σ:St)(s:SS):Prop:=σ.length=s.len/\∀ i,σ[i]? = s.get i
theorem dG.new:dG [] SS.new:=⟨rfl,fun i=>by
 simp only[SS.get,SS.new,SS.tree,DI,N16.sel_all]
 cases Nat.ble i 4095<;>rfl⟩
theorem dG.small{σ:St}{s:SS}(h:dG σ s){i:Nat}{b:ABlk}(hb:σ[i]? = some b):i<=4095:=by
 rw[h.2 i,SS.get] at hb;cases hi:Nat.ble i 4095 with
 |true=>exact Nat.le_of_ble_eq_true hi
 |false=>rw[hi] at hb;cases hb
theorem dG.set{σ:St}{s:SS}(h:dG σ s){i:Nat}{b0:ABlk}(hb:σ[i]? = some b0)(b:ABlk):dG (σ.set i b) (s.set i b):=by
 have hi:=h.small hb;have hl:=(List.getElem?_eq_some_iff.1 hb).1;obtain⟨n,t⟩:=s;refine⟨by rw[List.length_set];exact h.1,fun j=>?_⟩;have hj:=h.2 j;show _=cond (Nat.ble j 4095) (DI (NN t i (some b)) j) none
 cases hjb:Nat.ble j 4095 with
 |true =>
  rw[cond_true,F0 t (some b) hi (Nat.le_of_ble_eq_true hjb)];by_cases e:i=j
  ·subst e;rw[if_pos rfl,List.getElem?_set_self hl]
  ·rw[if_neg e,List.getElem?_set_ne e,hj];show cond (Nat.ble j 4095) (DI t j) none=_
   rw[hjb];rfl
 |false =>
  have e:i≠j:=fun e=>by subst e;rw[Nat.ble_eq_true_of_le hi] at hjb;cases hjb
  rw[List.getElem?_set_ne e,hj];show cond (Nat.ble j 4095) (DI t j) none=_
  rw[hjb];rfl
theorem uE{σ:St}{s:SS}{α:Type}{b:ABlk}{K:SS->Option α}{r:α}(h:dG σ s)(hr:DQ none s b K=some r):∃ s',dG (σ++[b]) s'/\K s'=some r:=by
 obtain⟨n,t⟩:=s;have hr':cond (Nat.ble n 4095) (nW (Nat.add n 1) fun m=>K (.mk m (NN t n (some b)))) none=some r:=hr;cases hn:Nat.ble n 4095 with
 |false=>rw[hn] at hr';cases hr'
 |true =>
  rw[hn,cond_true,kT] at hr';refine⟨_,⟨?_,fun j=>?_⟩,hr'⟩
  ·rw[List.length_append];have:=h.1;show σ.length+1=n+1;rw[this];rfl
  ·have hl:σ.length=n:=h.1;have hj:=h.2 j;show _=cond (Nat.ble j 4095) (DI (NN t n (some b)) j) none
   cases hjb:Nat.ble j 4095 with
   |true =>
    rw[cond_true,F0 t (some b) (Nat.le_of_ble_eq_true hn) (Nat.le_of_ble_eq_true hjb)];have hj':σ[j]? = DI t j:=by rw[hj];show cond (Nat.ble j 4095) (DI t j) none=_;rw[hjb];rfl
    by_cases e:n=j
    ·subst e;rw[if_pos rfl,List.getElem?_append_right (by omega)];simp[hl]
    ·rw[if_neg e,<-hj'];rcases Nat.lt_or_ge j n with q|q
     ·rw[List.getElem?_append_left (by omega)]
     ·rw[List.getElem?_append_right (by omega),List.getElem?_eq_none (by simp;omega),List.getElem?_eq_none (by omega)]
   |false =>
    have hn':=Nat.le_of_ble_eq_true hn;have hj4:4095<j:=by
     rcases Nat.lt_or_ge 4095 j with q|q
     ·exact q
     ·rw[Nat.ble_eq_true_of_le q] at hjb;cases hjb
    rw[List.getElem?_eq_none (by simp;omega)];rfl
def Q4(s:SS)(n:Nat):Nat->List ABlk:=Nat.rec (motive:=fun _=>Nat->List ABlk) (fun _=>[]) (fun _ ih i=>eS [] (s.get i) fun b=>b::ih (Nat.add i 1)) n
def RJ(s:SS):St:=Q4 s s.len 0
theorem LE{σ:St}{s:SS}(h:dG σ s):∀ (k i:Nat),i+k=σ.length->Q4 s k i=σ.drop i
 |0,i,hi=>by rw[List.drop_eq_nil_of_le (by omega)];rfl
 |k+1,i,hi=>by
  have e:Q4 s (k+1) i=eS [] (s.get i) fun b=>b::Q4 s k (i+1):=rfl
  rw[e,<-h.2 i,List.getElem?_eq_getElem (by omega),cW];simp only;rw[LE h k (i+1) (by omega)];exact (List.drop_eq_getElem_cons (by omega)).symm
theorem CH{σ:St}{s:SS}(h:dG σ s):RJ s=σ:=by
 unfold RJ;rw[LE h _ 0 (by rw[Nat.zero_add];exact h.1.symm)];rfl
def LA{α:Type}(σ:List ABlk):SS->(SS->Option α)->Option α:=List.rec (motive:=fun _=>SS->(SS->Option α)->Option α) (fun s K=>K s) (fun b _ ih s K=>DQ none s b fun s=>ih s K) σ
theorem xT{α:Type}{K:SS->Option α}{r:α}:∀ {τ σ:St} {s:SS},dG σ s->LA τ s K=some r->∃ s',dG (σ++τ) s'/\K s'=some r
 |[],σ,s,h,hr=>⟨s,by rw[List.append_nil];exact h,hr⟩
 |b::τ,σ,s,h,hr=>by
  have hr':DQ none s b (fun s=>LA τ s K)=some r:=hr;obtain⟨s',h1,h2⟩:=uE h hr';obtain⟨s2,h3,h4⟩:=xT h1 h2;exact⟨s2,by rw[List.append_assoc] at h3;exact h3,h4⟩
abbrev RR:=Option (AV×SS)
abbrev KV:=AV->SS->RR
def bv(r:Option AV)(s:SS)(K:KV):RR:=Option.rec none (fun v=>K v s) r
theorem mO(v:AV)(s:SS)(K:KV):bv (some v) s K=K v s:=rfl
theorem aNQ{o:Option AV}{s:SS}{K:KV}{r:AV×SS}(h:bv o s K=some r):∃ v,o=some v/\K v s=some r:=by
 cases o with
 |none=>cases h
 |some v=>exact⟨v,rfl,h⟩
def bnd(r:RR)(K:KV):RR:=Option.rec none (fun p=>Prod.rec (fun v s=>K v s) p) r
theorem N5{r:RR}{K:KV}{x:AV×SS}(h:bnd r K=some x):∃ v s,r=some (v,s)/\K v s=some x:=by
 cases r with
 |none=>cases h
 |some p=>exact⟨p.1,p.2,rfl,h⟩
def bnO{R:Type}(r:Option (AV×St))(K:AV->St->Option R):Option R:=Option.rec none (fun p=>Prod.rec (fun v s=>K v s) p) r
theorem aIX{R:Type}{r:Option (AV×St)}{K:AV->St->Option R}{x:R}(h:bnO r K=some x):∃ v s,r=some (v,s)/\K v s=some x:=by
 cases r with
 |none=>cases h
 |some p=>exact⟨p.1,p.2,rfl,h⟩
def Did(q:AOp)(env:Env)(σ:St)(K:KV)(r:AV×SS):Prop:=∃ v σ' s',aop q env σ=some (v,σ')/\dG σ' s'/\K v s'=some r
theorem FV{q:AOp}{env:Env}{σ s:St}{v:AV}(hq:aop q env σ=some (v,s))(h1:q.acts=false)(h2:q.allocs=false):s=σ:=by
 cases q<;>simp only[AOp.acts,AOp.allocs] at h1 h2<;>first|(cases h1;done)|(cases h2;done)|skip
 all_goals
  simp only[aop] at hq
  repeat' split at hq
  all_goals first|(cases hq;done)|(cases hq;rfl)
def SL(q:AOp)(e:Tre)(s:SS)(K:KV):RR:=bnO (aop q (J2 e q.tmps) (RJ s)) fun v σ'=>cond (cond q.acts true q.allocs) (LA σ' SS.new fun s'=>K v s') (K v s)
theorem vT{env:Env}{e:Tre}{σ:St}{s:SS}(h:lX env e)(hs:dG σ s){q:AOp}{K:KV}{r:AV×SS}(hr:SL q e s K=some r):Did q env σ K r:=by
 unfold SL at hr;rw[u0 (fun t ht=>AF h _ t ht),CH hs] at hr;obtain⟨v,σ',h1,h2⟩:=aIX hr;cases ha:q.acts with
 |true =>
  rw[ha] at h2;obtain⟨s',h3,h4⟩:=xT dG.new h2;exact⟨v,σ',s',h1,h3,h4⟩
 |false =>
  cases hb:q.allocs with
  |true =>
   rw[ha,hb] at h2;obtain⟨s',h3,h4⟩:=xT dG.new h2;exact⟨v,σ',s',h1,h3,h4⟩
  |false =>
   rw[ha,hb] at h2;have:=FV h1 ha hb;subst this;exact⟨v,σ',s,h1,hs,h2⟩
def pX(v:AV):List AV:=aHG v (fun cs=>cs) [v]
theorem rA(v:AV):pX v=v.cells:=by cases v<;>rfl
def OP(v:AV):Bool:=AV.rec (motive_1:=fun _=>Bool) (motive_2:=fun _=>PUnit) false (fun _ _=>true) (fun _=>true) (fun _=>true) (fun _ _ _ _ _=>true) true (fun _=>true) (fun _ _=>true) true (fun _ _ _ _ _=>true) (fun _ _ _ _=>true) (fun _ _ _ _=>true) (fun _=>true) true (fun _ _=>false) (fun _ _=>false) ⟨⟩ (fun _ _ _ _=>⟨⟩) v
theorem S4(v:AV):OP v=v.cell:=by cases v<;>rfl
theorem aMJ(m n:Nat):(m==n)=Nat.beq m n:=by
 cases h:Nat.beq m n with
 |true=>simpa using Nat.eq_of_beq_eq_true h
 |false=>simpa using Nat.ne_of_beq_eq_false h
def HU(n:Nat)(v:AV):Bool:=cond (Nat.beq (oX (pX v)) n) (NA OP (pX v)) false
theorem HR(n:Nat)(v:AV):HU n v=(v.cells.length==n&&v.cells.all (·.cell)):=by
 unfold HU;rw[jE,rA,I0q];have e:OP=(·.cell):=funext S4;rw[e];cases h:Nat.beq v.cells.length n with
 |true=>have:(v.cells.length==n)=true:=(aMJ _ _).trans h;rw[this];rfl
 |false=>have:(v.cells.length==n)=false:=(aMJ _ _).trans h;rw[this];rfl
def uY(sh:Option Nat):List AV->Nat->(AV->RR)->RR :=
 Option.rec (motive:=fun _=>List AV->Nat->(AV->RR)->RR) (fun cs off K=>eS none (nth cs off) K)
  (fun n cs off K=>cond (Nat.ble (Nat.add off n) (oX cs)) (cond (Nat.beq n (oX cs)) (K (.agg cs)) (K (.agg (XC (O5 cs off) n)))) none) sh
theorem wG(sh:Option Nat)(cs:List AV)(off:Nat)(K:AV->RR):uY sh cs off K=match eI sh cs off with|some v=>K v|none=>none:=by
 cases sh with
 |none=>unfold uY eI;simp only[cW,zZ];cases cs[off]?<;>rfl
 |some n =>
  unfold uY eI;simp only[jE,J3,EH];cases h:Nat.ble (Nat.add off n) cs.length with
  |true =>
   have h1:off+n<=cs.length:=Nat.le_of_ble_eq_true h;rw[if_pos h1];cases h2:Nat.beq n cs.length with
   |true =>
    have h3:n=cs.length:=Nat.eq_of_beq_eq_true h2;have h4:off=0:=by omega
    subst h4;subst h3;simp
   |false=>rfl
  |false =>
   have h1:¬off+n<=cs.length:=fun h'=>by rw[show Nat.ble (Nat.add off n) cs.length=true from Nat.ble_eq_true_of_le h'] at h;cases h
   rw[if_neg h1];rfl
def Z1(sh:Option Nat)(s:SS)(v:AV)(K:KV):RR :=
 VP v (fun id off=>eS none (s.get id) fun b=>lR b (fun cs=>uY sh cs off fun w=>K w s) none)
  (QO v (fun xs i off _=>eS none (nth xs i) fun x=>uY sh (pX x) off fun w=>K w s) none)
theorem W0(sh:Option Nat){σ:St}{s:SS}(hs:dG σ s)(v:AV)(K:KV):Z1 sh s v K=bv (kD sh σ v) s K:=by
 unfold Z1;cases v<;>simp only[CB,DT,kD,aE,cW,zZ,<-hs.2]<;>try rfl
 case ptr id off =>
  cases h:σ[id]? with
  |none=>rfl
  |some b =>
   simp only[zA];cases b<;>try rfl
   rename_i cs;simp only[wG];cases eI sh cs off<;>rfl
 case lptr xs i off tk =>
  cases h:xs[i]? with
  |none=>rfl
  |some x =>
   simp only[wG,rA];cases eI sh x.cells off<;>rfl
def zF(cs:List AV)(off:Nat)(v:AV):Option (List AV) :=
 cond (Nat.beq (oX (pX v)) 1) (cond (Nat.ble (Nat.add off 1) (oX cs)) (eS none (nth (pX v) 0) fun x=>some (aIE x cs off)) none) (eK cs off (pX v))
theorem HQ(cs:List AV)(off:Nat)(v:AV):zF cs off v=eK cs off v.cells:=by
 unfold zF;rw[jE,jE,rA];cases h:Nat.beq v.cells.length 1 with
 |false=>rfl
 |true =>
  have h1:v.cells.length=1:=Nat.eq_of_beq_eq_true h;obtain⟨x,hx⟩:∃ x,v.cells=[x]:=List.length_eq_one_iff.1 h1;rw[hx];simp only[cond_true,eK,List.length_cons,List.length_nil,zZ,cW,QK];cases h2:Nat.ble (Nat.add off 1) cs.length with
  |true =>
   have h3:off+1<=cs.length:=Nat.le_of_ble_eq_true h2;rw[if_pos (by simpa using h3)];simp only[cond_true,List.getElem?_cons_zero];rw[List.set_eq_take_append_cons_drop,if_pos (by omega)];simp
  |false =>
   have h3:¬off+1<=cs.length:=fun h'=>by rw[show Nat.ble (Nat.add off 1) cs.length=true from Nat.ble_eq_true_of_le h'] at h2;cases h2
   rw[if_neg (by simpa using h3)];rfl
def MJ(n:Nat)(s:SS)(a v:AV)(K:KV):RR :=
 VP a (fun id off=>cond (HU n v) (eS none (s.get id) fun b=>lR b (fun cs=>eS none (zF cs off v) fun cs'=>K (.tuple []) (s.set id (.cells cs'))) none) none) none
theorem SC{n:Nat}{σ:St}{s:SS}(hs:dG σ s){a v:AV}{K:KV}{r:AV×SS}(hr:MJ n s a v K=some r):∃ σ' s',lS n σ a v=some σ'/\dG σ' s'/\K (.tuple []) s'=some r:=by
 unfold MJ at hr;cases a<;>simp only[CB] at hr<;>try (cases hr;done)
 rename_i id off;simp only[lS,aE];rw[HR] at hr;cases hf:(v.cells.length==n&&v.cells.all (·.cell)) with
 |false=>rw[hf] at hr;cases hr
 |true =>
  rw[hf,cond_true,cW,<-hs.2] at hr;simp only[if_true];cases h:σ[id]? with
  |none=>rw[h] at hr;cases hr
  |some b =>
   rw[h] at hr;simp only[zA] at hr;cases b<;>try (cases hr;done)
   rename_i cs;simp only[HQ,cW] at hr ⊢;cases hc:eK cs off v.cells with
   |none=>rw[hc] at hr;cases hr
   |some cs'=>rw[hc] at hr;exact⟨_,_,rfl,hs.set h _,hr⟩
def big:Nat:=9223372036854775807
theorem dB{m:Nat}(h:Nat.ble m big=true):IntKind.i64.wrap (m:Int)=m:=by
 have h1:m<=9223372036854775807:=Nat.le_of_ble_eq_true h;unfold IntKind.wrap;have e1:(2^IntKind.i64.bits:Int)=18446744073709551616:=by decide
 have e2:(2^(IntKind.i64.bits-1):Int)=9223372036854775808:=by decide
 rw[e1,e2];have e3:(m:Int)%18446744073709551616=m:=by omega
 simp only[e3];rw[if_neg (by simp;omega)]
def LI(b:Bool)(s:SS)(K:KV):RR:=cond b (K (.bool true) s) (K (.bool false) s)
theorem vI(b:Bool)(s:SS)(K:KV):LI b s K=K (.bool b) s:=by cases b<;>rfl
def JT(n:Nat)(s:SS)(K:KV):RR:=nW n fun n=>K (.int .i64 (.ofNat n)) s
theorem vF(n:Nat)(s:SS)(K:KV):JT n s K=K (.int .i64 n) s:=by unfold JT;rw[kT];rfl
abbrev FB:=Nat->Nat->SS->KV->RR->RR
def aFK:FB:=fun m n s K d=>cond (Nat.ble (Nat.add m n) big) (JT (Nat.add m n) s K) d
def aF2:FB:=fun m n s K d=>cond (Nat.ble n m) (cond (Nat.ble m big) (JT (Nat.sub m n) s K) d) d
def aFJ:FB:=fun m n s K d=>cond (Nat.ble (Nat.mul m n) big) (JT (Nat.mul m n) s K) d
def aGI:FB:=fun m n s K d=>cond (Nat.beq n 0) d (cond (Nat.ble m big) (JT (Nat.div m n) s K) d)
def aFI:FB:=fun m n s K d=>cond (Nat.beq n 0) d (JT (Nat.mod m n) s K)
def aFQ:FB:=fun m n s K d=>LI (Nat.ble (Nat.add m 1) n) s K
def aFW:FB:=fun m n s K d=>LI (Nat.ble m n) s K
def aF4:FB:=fun m n s K d=>LI (Nat.ble (Nat.add n 1) m) s K
def aFO:FB:=fun m n s K d=>LI (Nat.ble n m) s K
def AO:FB:=fun _ _ _ _ d=>d
def BP(op:BinOp):FB:=BinOp.rec aFK aF2 aFJ aGI aFI AO AO AO AO AO AO AO AO aFQ aFW aF4 aFO op
def tL(op:BinOp)(s:SS)(x y:AV)(K:KV):RR:=bv (dD op x y) s K
theorem FG{m n:Nat}(h:Nat.ble m n=false):n<m:=by
 rcases Nat.lt_or_ge n m with h'|h'
 ·exact h'
 ·rw[Nat.ble_eq_true_of_le h'] at h;cases h
theorem B1(m n:Nat):Nat.ble m n=decide ((m:Int)<=n):=by
 cases h:Nat.ble m n with
 |true=>have:=Nat.le_of_ble_eq_true h;simp;omega
 |false=>have:=FG h;simp;omega
theorem aE1(op:BinOp)(m n:Nat)(s:SS)(K:KV):BP op m n s K (tL op s (.int .i64 m) (.int .i64 n) K)=tL op s (.int .i64 m) (.int .i64 n) K:=by
 cases op<;>try rfl
 case add =>
  simp only[BP,aFK];cases h:Nat.ble (Nat.add m n) big with
  |false=>rfl
  |true =>
   simp only[cond_true,vF,tL,dD,fP,if_true,mO];have:IntKind.i64.wrap ((m:Int)+n)=((Nat.add m n:Nat):Int):=by have:=dB h;rw[<-this];congr 1
   rw[this]
 case sub =>
  simp only[BP,aF2];cases h:Nat.ble n m with
  |false=>rfl
  |true =>
   cases h2:Nat.ble m big with
   |false=>rfl
   |true =>
    have h3:=Nat.le_of_ble_eq_true h;have h4:=Nat.le_of_ble_eq_true h2;have h5:Nat.ble (m-n) big=true:=Nat.ble_eq_true_of_le (by omega);simp only[cond_true,vF,tL,dD,fP,if_true,mO];have:IntKind.i64.wrap ((m:Int)-n)=((Nat.sub m n:Nat):Int):=by
     have:=dB h5;rw[show ((Nat.sub m n:Nat):Int)=((m-n:Nat):Int) from rfl,<-this]
     congr 1
     omega
    rw[this]
 case mul =>
  simp only[BP,aFJ];cases h:Nat.ble (Nat.mul m n) big with
  |false=>rfl
  |true =>
   simp only[cond_true,vF,tL,dD,fP,if_true,mO];have:IntKind.i64.wrap ((m:Int)*n)=((Nat.mul m n:Nat):Int):=by have:=dB h;rw[<-this];congr 1
   rw[this]
 case quo =>
  simp only[BP,aGI];cases h:Nat.beq n 0 with
  |true=>rfl
  |false =>
   have h1:n≠0:=Nat.ne_of_beq_eq_false h;cases h2:Nat.ble m big with
   |false=>rfl
   |true =>
    have h4:=Nat.le_of_ble_eq_true h2;have h5:Nat.ble (m/n) big=true:=Nat.ble_eq_true_of_le (Nat.le_trans (Nat.div_le_self _ _) h4);have h6:¬((n:Int)=0):=by omega
    simp only[cond_true,cond_false,vF,tL,dD,fP,if_true,if_neg h6,mO];have:IntKind.i64.wrap ((m:Int).tdiv n)=((Nat.div m n:Nat):Int):=by
     have:=dB h5;rw[show ((Nat.div m n:Nat):Int)=((m/n:Nat):Int) from rfl,<-this]
     congr 1
    rw[this]
 case rem =>
  simp only[BP,aFI];cases h:Nat.beq n 0 with
  |true=>rfl
  |false =>
   have h1:n≠0:=Nat.ne_of_beq_eq_false h;have h6:¬((n:Int)=0):=by omega
   simp only[cond_false,vF,tL,dD,fP,if_true,if_neg h6,mO];rfl
 case lss =>
  simp only[BP,aFQ,vI,B1,tL,dD,fP,if_true,mO];rfl
 case leq =>
  simp only[BP,aFW,vI,B1,tL,dD,fP,if_true,mO]
 case gtr =>
  simp only[BP,aF4,vI,B1,tL,dD,fP,if_true,mO];rfl
 case geq =>
  simp only[BP,aFO,vI,B1,tL,dD,fP,if_true,mO];try rfl
def LU(x:AV):Option Nat:=AV.rec (motive_1:=fun _=>Option Nat) (motive_2:=fun _=>PUnit) none (fun k n=>cond (OY k) (Int.rec (fun m=>some m) (fun _=>none) n) none) (fun _=>none) (fun _=>none) (fun _ _ _ _ _=>none) none (fun _=>none) (fun _ _=>none) none (fun _ _ _ _ _=>none) (fun _ _ _ _=>none) (fun _ _ _ _=>none) (fun _=>none) none (fun _ _=>none) (fun _ _=>none) ⟨⟩ (fun _ _ _ _=>⟨⟩) x
theorem LK{x:AV}{m:Nat}(h:LU x=some m):x = .int .i64 m:=by
 cases x<;>try (cases h;done)
 rename_i k n;have h':cond (OY k) (Int.rec (fun m=>some m) (fun _=>none) n:Option Nat) none=some m:=h;cases hk:OY k with
 |false=>rw[hk] at h';cases h'
 |true =>
  rw[hk] at h';cases WA hk;cases n with
  |ofNat q=>cases h';rfl
  |negSucc q=>cases h'
def aAH(x y:AV)(K:Nat->Nat->RR)(d:RR):RR:=eS d (LU x) fun m=>eS d (LU y) fun n=>K m n
theorem Q5(x y:AV)(K:Nat->Nat->RR)(d:RR):(∃ m n:Nat,x = .int .i64 m/\y = .int .i64 n/\aAH x y K d=K m n)\/aAH x y K d=d:=by
 unfold aAH;cases hx:LU x with
 |none=>right;rfl
 |some m =>
  cases hy:LU y with
  |none=>right;rfl
  |some n=>left;exact⟨m,n,LK hx,LK hy,rfl⟩
def aJB(op:BinOp)(s:SS)(x y:AV)(K:KV):RR:=aAH x y (fun m n=>BP op m n s K (tL op s x y K)) (tL op s x y K)
theorem aFA(op:BinOp)(s:SS)(x y:AV)(K:KV):aJB op s x y K=tL op s x y K:=by
 unfold aJB;rcases Q5 x y (fun m n=>BP op m n s K (tL op s x y K)) (tL op s x y K) with⟨m,n,rfl,rfl,h⟩|h
 ·rw[h];exact aE1 op m n s K
 ·exact h
def KG(sh:EqTy)(neg:Bool)(s:SS)(x y:AV)(K:KV):RR:=bv (match iX sh x y with|some b=>some (.bool (if neg then !b else b))|none=>none) s K
def aJS(sh:EqTy)(neg:Bool)(s:SS)(x y:AV)(K:KV):RR :=
 EqTy.rec (fun k=>SK.rec (aAH x y (fun m n=>LI (cond neg (not (Nat.beq m n)) (Nat.beq m n)) s K) (KG sh neg s x y K)) (KG sh neg s x y K) (KG sh neg s x y K) k) (fun _=>KG sh neg s x y K) sh
theorem Y4(m n:Nat):Nat.beq m n=((m:Int)==n):=by
 cases h:Nat.beq m n with
 |true=>have:=Nat.eq_of_beq_eq_true h;subst this;simp
 |false=>have:=Nat.ne_of_beq_eq_false h;symm;simp;omega
theorem aBP(sh:EqTy)(neg:Bool)(s:SS)(x y:AV)(K:KV):aJS sh neg s x y K=KG sh neg s x y K:=by
 unfold aJS;cases sh with
 |agg ks=>rfl
 |one k =>
  cases k<;>try rfl
  simp only;rcases Q5 x y (fun m n=>LI (cond neg (not (Nat.beq m n)) (Nat.beq m n)) s K) (KG (.one .i) neg s x y K) with⟨m,n,rfl,rfl,h⟩|h
  ·rw[h,vI];simp only[KG,iX,gD,if_true,mO,Y4];cases neg<;>rfl
  ·exact h
def aAJ(s:SS)(y:AV):Option (List AV) :=
 zB y (fun ys _ _=>some ys) (UQ y (fun id off l z=>eS none (s.get id) fun b=>lR b (fun cs=>cond (Nat.ble (Nat.add off (Nat.mul l z)) (oX cs)) (some (sV z l (O5 cs off))) none) none) none)
theorem VR{σ:St}{s:SS}(hs:dG σ s)(y:AV):aAJ s y=lA σ y:=by
 unfold aAJ;cases y<;>simp only[xG,HS,lA];rename_i id off l z;simp only[cW,<-hs.2,aE];cases σ[id]? with
 |none=>rfl
 |some b =>
  simp only[zA];cases b<;>try rfl
  rename_i cs;simp only[jE,EH];cases h:Nat.ble (Nat.add off (Nat.mul l z)) cs.length with
  |true=>have h':off+l*z<=cs.length:=Nat.le_of_ble_eq_true h;rw[if_pos h'];rfl
  |false=>have h':cs.length<off+l*z:=FG h;rw[if_neg (by omega)];rfl
theorem QZ(n:Nat)(xs:List AV):NA (HU n) xs=aI n xs:=by
 have h1:HU n=fun x=>x.cells.length==n&&x.cells.all (·.cell):=funext fun x=>HR n x
 rw[I0q,h1];rfl
def aM4{R:Type}(b:ABlk):(Nat->Nat->R)->R->R:=ABlk.rec (motive:=fun _=>(Nat->Nat->R)->R->R) (fun _ _ d=>d) (fun _ _ d=>d) (fun sz n _ K d=>K sz n) (fun _ _ _ d=>d) (fun _ _ _ _ _ d=>d) (fun _ _ _ _ _ _ _ d=>d) (fun _ d=>d) b
theorem aDK{R:Type}(b:ABlk)(K:Nat->Nat->R)(d:R):aM4 b K d=match b with|.tok sz n _=>K sz n|_=>d:=by cases b<;>rfl
def JJ:Nat:=140737488355328
theorem I0:JJ=room:=by decide
def aFY(sz:Nat)(s:SS)(xs ys:List AV)(full:Bool)(tk:Option Nat)(m:Nat)(K:KV):RR :=
 cond full (nW s.len fun n=>DQ none s (.tok sz m true) fun s'=>K (.lit (NV xs ys) false (some n)) s')
  (eS none tk fun t=>eS none (s.get t) fun b=>aM4 b (fun sz' n=>cond (Nat.beq sz' sz) (cond (Nat.beq n (oX xs)) (K (.lit (NV xs ys) false (some t)) (s.set t (.tok sz m true))) none) none) none)
def GZ(sz bytes:Nat)(s:SS)(x y:AV)(K:KV):RR :=
 zB x (fun xs full tk=>eS none (aAJ s y) fun ys=>cond (Nat.beq (oX ys) 0) (K (.lit xs full tk) s)
  (cond (uT sz y) (cond (NA (HU sz) xs) (cond (NA (HU sz) ys) (nW (Nat.add (oX xs) (oX ys)) fun m=>cond (Nat.ble (Nat.mul m bytes) JJ) (cond (Nat.ble m JJ) (aFY sz s xs ys full tk m K) none) none) none) none) none)) none
theorem NJ{sz bytes:Nat}{σ:St}{s:SS}(hs:dG σ s){x y:AV}{K:KV}{r:AV×SS}(hr:GZ sz bytes s x y K=some r):∃ v σ' s',cI sz bytes σ x y=some (v,σ')/\dG σ' s'/\K v s'=some r:=by
 unfold GZ at hr;rw[xG] at hr;split at hr
 ·rename_i xs full tk;rw[cW,VR hs] at hr;split at hr
  ·rename_i ys hv;simp only[jE,QZ,kT] at hr;have h0:cI sz bytes σ (.lit xs full tk) y=if ys.length=0 then some (.lit xs full tk,σ) else
    if (uT sz y&&aI sz xs&&aI sz ys&&decide ((xs.length+ys.length)*bytes<=room)&&decide (xs.length+ys.length<=room))=true then
     if full=true then some (.lit (xs++ys) false (some σ.length),σ++[.tok sz (xs.length+ys.length) true])
     else match tk with
      |some t=>match σ[t]? with
       |some (.tok sz' n _)=>if sz'=sz/\n=xs.length then some (.lit (xs++ys) false (some t),σ.set t (.tok sz (xs.length+ys.length) true)) else none
       |_=>none
      |none=>none
    else none:=by unfold cI;rw[hv];rfl
   rw[h0];cases hz:Nat.beq ys.length 0 with
   |true=>rw[hz] at hr;rw[if_pos (Nat.eq_of_beq_eq_true hz)];exact⟨_,σ,s,rfl,hs,hr⟩
   |false =>
    rw[hz] at hr;rw[if_neg (Nat.ne_of_beq_eq_false hz)];simp only[cond_false] at hr;cases c1:uT sz y with
    |false=>rw[c1] at hr;cases hr
    |true =>
    cases c2:aI sz xs with
    |false=>rw[c1,c2] at hr;cases hr
    |true =>
    cases c3:aI sz ys with
    |false=>rw[c1,c2,c3] at hr;cases hr
    |true =>
    rw[c1,c2,c3] at hr;simp only[cond_true] at hr;cases c4:Nat.ble (Nat.mul (Nat.add xs.length ys.length) bytes) JJ with
    |false=>rw[c4] at hr;cases hr
    |true =>
    cases c5:Nat.ble (Nat.add xs.length ys.length) JJ with
    |false=>rw[c4,c5] at hr;cases hr
    |true =>
    rw[c4,c5] at hr;simp only[cond_true] at hr;have d4:(xs.length+ys.length)*bytes<=room:=by rw[<-I0];exact Nat.le_of_ble_eq_true c4
    have d5:xs.length+ys.length<=room:=by rw[<-I0];exact Nat.le_of_ble_eq_true c5
    rw[if_pos (by simp[d4,d5])];unfold aFY at hr;cases full with
    |true =>
     simp only[cond_true,kT,sX,if_true] at hr ⊢;obtain⟨s',h1,h2⟩:=uE hs hr;rw[<-hs.1] at h2;exact⟨_,_,s',rfl,h1,h2⟩
    |false =>
     simp only[cond_false,cW,sX,<-hs.2,jE] at hr;rw[if_neg (by simp)];cases tk with
     |none=>cases hr
     |some t =>
      simp only at hr ⊢;cases hb:σ[t]? with
      |none=>rw[hb] at hr;cases hr
      |some b =>
       rw[hb] at hr;simp only[aDK] at hr;cases b<;>try (cases hr;done)
       rename_i sz' n ex;simp only at hr ⊢;cases e1:Nat.beq sz' sz with
       |false=>rw[e1] at hr;cases hr
       |true =>
        cases e2:Nat.beq n xs.length with
        |false=>rw[e1,e2] at hr;cases hr
        |true =>
         rw[e1,e2] at hr;rw[if_pos ⟨Nat.eq_of_beq_eq_true e1,Nat.eq_of_beq_eq_true e2⟩];exact⟨_,_,_,rfl,hs.set hb _,hr⟩
  ·cases hr
 ·cases hr
abbrev CC:=AV->List AV->SS->RR
abbrev Arm:=CC->Tre->SS->KV->RR
def kI(q:AOp):Arm:=fun _ e s K=>SL q e s K
def aLL(x:AOpd):Arm:=fun _ e s K=>K (odv x e) s
def aGJ(c a b:AOpd):Arm:=fun _ e s K=>GP (odv c e) (fun t=>cond t (K (odv a e) s) (K (odv b e) s)) none
def UP(z:List AV):Arm:=fun _ e s K=>nW s.len fun n=>DQ none s (.cells z) fun s'=>K (.ptr n 0) s'
def aLU(n:Nat)(x:AOpd):Arm:=fun _ e s K=>cond (HU n (odv x e)) (nW s.len fun n=>DQ none s (.cells (pX (odv x e))) fun s'=>K (.ptr n 0) s') none
def aHJ(z:List AV)(ps:List (Nat×Nat×AOpd)):Arm:=kI (.build z ps)
def YG(sz:Nat)(xs:List AOpd):Arm:=fun _ e s K=>cond (NA (HU sz) (SR xs e)) (K (.lit (SR xs e) true none) s) none
def aKU(sz:Nat)(xs:List AOpd):Arm:=kI (.mkref sz xs)
def aFX(sh:Option Nat)(x:AOpd):Arm:=fun _ e s K=>Z1 sh s (odv x e) K
def Y9(n:Nat)(a x:AOpd):Arm:=fun _ e s K=>MJ n s (odv a e) (odv x e) K
def FT(x:AOpd):Arm:=fun _ e s K=>VP (odv x e) (fun i o=>K (.ptr i o) s) (QO (odv x e) (fun xs i o t=>K (.lptr xs i o t) s) (PX (odv x e) (fun f a b=>K (.func f a b) s) (MY (odv x e) (fun i=>K (.yield i) s) none)))
def aNZ(op:BinOp)(x y:AOpd):Arm:=fun _ e s K=>aJB op s (odv x e) (odv y e) K
def aLI(sh:EqTy)(neg:Bool)(x y:AOpd):Arm:=fun _ e s K=>aJS sh neg s (odv x e) (odv y e) K
def aPK(x:AOpd):Arm:=fun _ e s K=>GP (odv x e) (fun b=>LI (not b) s K) none
def aTK(x:AOpd):Arm:=kI (.neg x)
def aLS(k:IntKind)(x:AOpd):Arm:=kI (.conv k x)
def aAD(f:FuncId)(a b:List AOpd):Arm:=fun _ e s K=>K (.func f (SR a e) (SR b e)) s
def aH9:Arm:=kI .mkmap
def Y6(z:List AV)(n:Nat)(l c:AOpd):Arm:=kI (.mkslice z n l c)
def aEQ(sz:Nat)(x:AOpd)(l h m:Option AOpd):Arm:=kI (.slicev sz x l h m)
def aED(n sz:Nat)(x:AOpd)(l h:Option AOpd):Arm:=kI (.slicea n sz x l h)
def aAI(x:AOpd)(off:Nat):Arm:=fun _ e s K=>VP (odv x e) (fun i o=>K (.ptr i (Nat.add o off)) s) (QO (odv x e) (fun xs i o t=>K (.lptr xs i (Nat.add o off) t) s) none)
def aAL(x:AOpd)(off:Nat)(sh:Option Nat):Arm:=fun _ e s K=>aHG (odv x e) (fun cs=>uY sh cs off fun w=>K w s) none
def NK(sz:Nat)(x i:AV)(s:SS)(K:KV)(d:RR):RR :=
 aPD i (fun _ n=>aK1 n (fun j=>zB x (fun xs _ t=>eS none (nth xs j) fun y=>cond (Nat.beq (oX (pX y)) sz) (K (.lptr xs j 0 t) s) none)
  (UQ x (fun id off len sz'=>cond (Nat.beq sz' sz) (cond (Nat.ble (Nat.add j 1) len) (nW (Nat.add off (Nat.mul j sz)) fun o=>K (.ptr id o) s) none) none) d)) d) d
def YL(arr:Option Nat)(sz:Nat)(x i:AOpd):Arm :=
 Option.rec (motive:=fun _=>Arm) (fun _ e s K=>NK sz (odv x e) (odv i e) s K (SL (.iaddr none sz x i) e s K)) (fun n=>kI (.iaddr (some n) sz x i)) arr
def aJ2(n sz:Nat)(sh:Option Nat)(x i:AOpd):Arm:=kI (.index n sz sh x i)
def aBU(x i:AOpd):Arm:=kI (.sindex x i)
def aDA(sh:EqTy)(ok:Bool)(z:AV)(m k:AOpd):Arm:=kI (.lookup sh ok z m k)
def aCP(sh:EqTy)(m k v:AOpd):Arm:=kI (.mapset sh m k v)
def aBX(x:AOpd):Arm:=kI (.srange x)
def aI8(x:AOpd):Arm:=kI (.snext x)
def aE9(x:AOpd):Arm:=kI (.mrange x)
def aIP(x:AOpd):Arm:=fun _ _ _ _=>none
def aJN(x:AOpd):Arm:=kI (.entry x)
def aPY(x:AOpd)(i:Nat):Arm:=fun _ e s K=>MS (odv x e) (fun vs=>eS none (nth vs i) fun v=>K v s) none
def aLJ(x:AV)(s:SS)(K:KV)(d:RR):RR:=zB x (fun xs _ _=>JT (oX xs) s K) (UQ x (fun _ _ l _=>K (.int .i64 (.ofNat l)) s) d)
def aM5(k:Nat)(x:AOpd):Arm:=fun _ e s K=>cond (Nat.beq k 1) (aLJ (odv x e) s K (SL (.len k x) e s K)) (SL (.len k x) e s K)
def PC(sz bytes:Nat)(x y:AOpd):Arm:=fun _ e s K=>GZ sz bytes s (odv x e) (odv y e) K
def aG1(sz bytes:Nat)(x y:AOpd):Arm:=kI (.apref sz bytes x y)
def aL8(sz:Nat)(x y:AOpd):Arm:=kI (.copy sz x y)
def aRR(xs:List AOpd):Arm:=kI (.min xs)
def aSR(xs:List AOpd):Arm:=kI (.max xs)
def XH(f:AOpd)(args:List AOpd):Arm:=fun C e s K=>bnd (C (odv f e) (SR args e) s) K
def gY(q:AOp):Arm:=AOp.rec (motive:=fun _=>Arm) aLL aGJ UP aLU aHJ YG aKU aFX Y9 FT aNZ aLI aPK aTK aLS aAD aH9 Y6 aEQ aED aAI aAL YL aJ2 aBU aDA aCP aBX aI8 aE9 aIP aJN aPY aM5 PC aG1 aL8 aRR aSR XH q
theorem SP{sz:Nat}{x i:AOpd}{env:Env}{σ:St}{s:SS}{K:KV}{d:RR}{r:AV×SS}(hs:dG σ s)(hd:d=some r->Did (.iaddr none sz x i) env σ K r)(hr:NK sz (x.ev env) (i.ev env) s K d=some r):Did (.iaddr none sz x i) env σ K r:=by
 unfold NK at hr;unfold Did at hd ⊢;simp only[aop] at hd ⊢;generalize i.ev env=iv at *;generalize x.ev env=xv at *;cases iv<;>try exact hd hr
 rename_i k n;simp only[aDU] at hr
 rcases aBT n (fun j=>zB xv (fun xs _ t=>eS none (nth xs j) fun y=>cond (Nat.beq (oX (pX y)) sz) (K (.lptr xs j 0 t) s) none)
  (UQ xv (fun id off len sz'=>cond (Nat.beq sz' sz) (cond (Nat.ble (Nat.add j 1) len) (nW (Nat.add off (Nat.mul j sz)) fun o=>K (.ptr id o) s) none) none) d)) d with⟨j,rfl,h⟩|h
 ·rw[h] at hr;cases xv<;>try exact hd hr
  case lit xs fl tk =>
   simp only[xG,cW,zZ,jE,rA] at hr;simp only[eZ,Int.toNat_natCast];cases hx:xs[j]? with
   |none=>rw[hx] at hr;cases hr
   |some y =>
    rw[hx] at hr;simp only at hr ⊢;cases hb:Nat.beq y.cells.length sz with
    |true =>
     rw[hb] at hr;have:y.cells.length=sz:=Nat.eq_of_beq_eq_true hb;rw[if_pos ⟨by omega,this⟩];exact⟨_,σ,s,rfl,hs,hr⟩
    |false=>rw[hb] at hr;cases hr
  case ref id off len sz' =>
   simp only[xG,HS,kT] at hr;simp only[eZ,Int.toNat_natCast];cases hb:Nat.beq sz' sz with
   |true =>
    have e1:sz'=sz:=Nat.eq_of_beq_eq_true hb;cases hl:Nat.ble (Nat.add j 1) len with
    |true =>
     rw[hb,hl] at hr;have e2:j+1<=len:=Nat.le_of_ble_eq_true hl;rw[if_pos ⟨by omega,by omega,e1⟩];exact⟨_,σ,s,rfl,hs,hr⟩
    |false=>rw[hb,hl] at hr;cases hr
   |false=>rw[hb] at hr;cases hr
 ·rw[h] at hr;exact hd hr
theorem did{q:AOp}{env:Env}{σ:St}{s:SS}{K:KV}{r:AV×SS}{o:Option AV}(hs:dG σ s)(ha:aop q env σ=match o with|some v=>some (v,σ)|none=>none)(hr:bv o s K=some r):Did q env σ K r:=by
 obtain⟨v,rfl,h⟩:=aNQ hr;exact⟨v,σ,s,ha,hs,h⟩
theorem t7{C:CC}{q:AOp}{env:Env}{e:Tre}{σ:St}{s:SS}{K:KV}{r:AV×SS}(h:lX env e)(hs:dG σ s)(hq:∀ f args,q≠.call f args)(hr:gY q C e s K=some r):Did q env σ K r:=by
 cases q
 case mov x=>simp only[gY,aLL,iH h] at hr;exact⟨_,σ,s,rfl,hs,hr⟩
 case pick c a b =>
  simp only[gY,aGJ,iH h,xX] at hr;split at hr
  ·rename_i t hc;cases t<;>exact⟨_,σ,s,by simp only[aop,hc],hs,hr⟩
  ·cases hr
 case alloc z =>
  simp only[gY,UP,kT] at hr;obtain⟨s',h1,h2⟩:=uE hs hr;rw[<-hs.1] at h2;exact⟨_,_,s',rfl,h1,h2⟩
 case box n x =>
  simp only[gY,aLU,iH h,kT,HR,rA] at hr;cases hc:((x.ev env).cells.length==n&&(x.ev env).cells.all (·.cell)) with
  |false=>rw[hc] at hr;cases hr
  |true =>
   rw[hc] at hr;obtain⟨s',h1,h2⟩:=uE hs hr;rw[<-hs.1] at h2;exact⟨_,_,s',by simp only[aop];rw[if_pos hc],h1,h2⟩
 case mklit sz xs =>
  simp only[gY,YG,xN h,QZ] at hr;cases hc:aI sz (xs.map (·.ev env)) with
  |false=>rw[hc] at hr;cases hr
  |true=>rw[hc] at hr;exact⟨_,σ,s,by simp only[aop];rw[if_pos hc],hs,hr⟩
 case load sh x =>
  simp only[gY,aFX,iH h,W0 sh hs] at hr;exact did hs rfl hr
 case store n a x =>
  simp only[gY,Y9,iH h] at hr;obtain⟨σ',s',h1,h2,h3⟩:=SC hs hr;exact⟨_,σ',s',by simp only[aop,h1],h2,h3⟩
 case nilCheck x =>
  simp only[gY,FT,iH h,CB,DT,DV,GA] at hr;cases hx:x.ev env<;>rw[hx] at hr<;>first|(cases hr;done)|exact⟨_,σ,s,by simp only[aop,hx],hs,hr⟩
 case bin op x y =>
  simp only[gY,aNZ,iH h,aFA,tL] at hr;exact did hs rfl hr
 case eql sh neg x y =>
  simp only[gY,aLI,iH h,aBP,KG] at hr;refine did hs ?_ hr;simp only[aop];cases iX sh (x.ev env) (y.ev env)<;>rfl
 case not x =>
  simp only[gY,aPK,iH h,xX,vI] at hr;cases hx:x.ev env<;>rw[hx] at hr<;>first|(cases hr;done)|exact⟨_,σ,s,by simp only[aop,hx],hs,hr⟩
 case mkfun f a b=>simp only[gY,aAD,xN h] at hr;exact⟨_,σ,s,rfl,hs,hr⟩
 case faddr x off =>
  simp only[gY,aAI,iH h,CB,DT] at hr;cases hx:x.ev env<;>rw[hx] at hr<;>first|(cases hr;done)|exact⟨_,σ,s,by simp only[aop,hx];rfl,hs,hr⟩
 case field x off sh =>
  simp only[gY,aAL,iH h,aEP,wG] at hr;cases hx:x.ev env<;>rw[hx] at hr<;>try (cases hr;done)
  rename_i cs;simp only at hr;cases hc:eI sh cs off with
  |none=>rw[hc] at hr;cases hr
  |some v=>rw[hc] at hr;exact⟨v,σ,s,by simp only[aop,hx,hc],hs,hr⟩
 case iaddr arr sz x i =>
  cases arr with
  |none=>simp only[gY,YL,iH h] at hr;exact SP hs (fun hd=>vT h hs hd) hr
  |some n=>exact vT h hs hr
 case ext x i =>
  simp only[gY,aPY,iH h,F6,cW,zZ] at hr;cases hx:x.ev env<;>rw[hx] at hr<;>try (cases hr;done)
  rename_i vs;simp only at hr;cases hc:vs[i]? with
  |none=>rw[hc] at hr;cases hr
  |some v=>rw[hc] at hr;exact⟨v,σ,s,by simp only[aop,hx,hc],hs,hr⟩
 case len k x =>
  simp only[gY,aM5,iH h] at hr;cases hk:Nat.beq k 1 with
  |false=>rw[hk] at hr;exact vT h hs hr
  |true =>
   have:=Nat.eq_of_beq_eq_true hk;subst this;simp only[hk,cond_true,aLJ,xG,HS,vF,jE] at hr;cases hx:x.ev env<;>rw[hx] at hr<;>first|exact vT h hs hr|exact⟨_,σ,s,by first|(simp only[aop,hx,jR];done)|(simp only[aop,hx,jR];rfl),hs,hr⟩
 case append sz bytes x y =>
  simp only[gY,PC,iH h] at hr;exact NJ hs hr
 case mnext x=>cases hr
 case call f args=>exact absurd rfl (hq _ _)
 case mkmap=>exact vT (q:=.mkmap) h hs hr
 all_goals exact vT h hs hr
abbrev KE:=Tre->SS->RR
def xR(d:Option Nat)(v:AV)(e:Tre)(K:Tre->RR):RR:=Option.rec (K e) (fun t=>cond (Nat.ble t 255) (K (Tre.put e t v)) none) d
theorem mM{d:Option Nat}{v:AV}{e:Tre}{K:Tre->RR}{r:AV×SS}{env:Env}(h:lX env e)(hr:xR d v e K=some r):∃ e',lX (Env.put env d v) e'/\K e'=some r:=by
 cases d with
 |none=>exact⟨e,h,hr⟩
 |some t =>
  simp only[xR] at hr;cases ht:Nat.ble t 255 with
  |false=>rw[ht] at hr;cases hr
  |true=>rw[ht] at hr;exact⟨_,h.put t v ht,hr⟩
def GV(v:AV)(w:Bool)(A B:Unit->RR):RR:=GP v (fun b=>cond b (cond w (A ()) (B ())) (cond w (B ()) (A ()))) (MS v (fun vs=>List.rec (B ()) (fun _ _ _=>none) vs) none)
def aGR(v:AV)(w:Bool):Option Bool:=match v with|.bool b=>some (b==w)|.tuple []=>some false|_=>none
theorem TC{v:AV}{w:Bool}{A B:Unit->RR}{r:AV×SS}(h:GV v w A B=some r):
  (aGR v w=some true/\A ()=some r)\/(aGR v w=some false/\B ()=some r):=by
 unfold GV at h;simp only[xX,F6] at h;cases v<;>try (cases h;done)
 case bool b=>simp only at h;cases b<;>cases w<;>first|exact .inl ⟨rfl,h⟩|exact .inr ⟨rfl,h⟩
 case tuple vs =>
  simp only at h;cases vs with
  |nil=>exact .inr ⟨rfl,h⟩
  |cons x xs=>exact absurd h (by simp)
def L4(g:Option (Nat×Bool))(e:Tre)(A B:Unit->RR):RR:=Option.rec (A ()) (fun p=>Prod.rec (fun t w=>GV (Tre.get e t) w A B) p) g
theorem JV{o:AOper}{env:Env}{e:Tre}{A B:Unit->RR}{r:AV×SS}(h:lX env e)(hr:L4 o.guard e A B=some r):
  (o.wanted env=some true/\A ()=some r)\/(o.wanted env=some false/\B ()=some r):=by
 obtain⟨dst,q,g⟩:=o;cases g with
 |none=>exact .inl ⟨rfl,hr⟩
 |some p =>
  obtain⟨t,w⟩:=p;have:=TC (show GV (Tre.get e t) w A B=some r from hr);rw[<-h t] at this;exact this
def aL6(C:CC)(o:AOper)(e:Tre)(s:SS)(K:KE):RR :=
 AOper.rec (fun dst q g=>L4 g e (fun _=>gY q C e s fun v s'=>xR dst v e fun e'=>K e' s') (fun _=>xR dst (.tuple []) e fun e'=>K e' s)) o
def aDG(C:CC)(os:List AOper):Tre->SS->KE->RR:=List.rec (motive:=fun _=>Tre->SS->KE->RR) (fun e s K=>K e s) (fun o _ ih e s K=>aL6 C o e s fun e s=>ih e s K) os
variable {T:FuncId->Option AFunc}
abbrev RD:=Nat->SS->Bool
def chk(r:RR):Bool:=Option.rec false (fun _=>true) r
def aD7(C:CC)(q:AOp)(lo hi:Nat)(e:Tre)(v:AV):RD:=fun j s =>
 cond (cond (Nat.ble lo j) (Nat.ble j hi) false) (chk (gY q C e s fun w _=>cond (eqVF 100000 w v) (some (.undef,SS.new)) none)) true
def V3(rd:RD)(hist:List SS):Nat->Bool:=List.rec (motive:=fun _=>Nat->Bool) (fun _=>true) (fun s _ ih j=>cond (rd j s) (ih (Nat.add j 1)) false) hist
theorem P4(rd:RD):∀ (hist:List SS) (k:Nat),V3 rd hist k=true->∀ j s,hist[j]? = some s->rd (k+j) s=true
 |[],k,_,j,s,h=>by simp at h
 |t::hist,k,h,j,s,hs=>by
  have h':cond (rd k t) (V3 rd hist (k+1)) false=true:=h;cases hr:rd k t with
  |false=>rw[hr] at h';cases h'
  |true =>
   rw[hr] at h';cases j with
   |zero=>simp at hs;subst hs;exact hr
   |succ j=>have:=P4 rd hist (k+1) h' j s (by simpa using hs);rw[show k+(j+1)=k+1+j from by omega];exact this
def EB(rds:List RD)(hist:List SS):Bool:=List.rec true (fun rd _ ih=>cond (V3 rd hist 0) ih false) rds
def aMC(rd:RD)(r:ARead):Prop:=∀ j σ s,dG σ s->r.lo<=j->j<=r.hi->rd j s=true->aop r.op r.env σ=some (r.v,σ)
def zV(hist:List St)(hs:List SS):Prop:=hist.length=hs.length/\∀ (j:Nat) (σ:St),hist[j]? = some σ->∃ s,hs[j]? = some s/\dG σ s
theorem zV.snoc{hist:List St}{hs:List SS}(h:zV hist hs){σ:St}{s:SS}(hl:dG σ s):zV (hist++[σ]) (Ex.snoc s hs):=by
 rw[P7];refine⟨by simp[h.1],fun j τ hj=>?_⟩;rcases Nat.lt_or_ge j hist.length with q|q
 ·rw[List.getElem?_append_left q] at hj;rw[List.getElem?_append_left (by rw[<-h.1];exact q)];exact h.2 j τ hj
 ·rw[List.getElem?_append_right q] at hj;have e:j=hist.length:=by
   rcases Nat.lt_or_ge (j-hist.length) 1 with q'|q'
   ·omega
   ·rw[List.getElem?_eq_none (by simpa using q')] at hj;cases hj
  subst e;simp only[Nat.sub_self,List.getElem?_cons_zero,Option.some.injEq] at hj;subst hj;rw[h.1,List.getElem?_append_right (Nat.le_refl _)];exact⟨s,by simp,hl⟩
def UN:List RD->List ARead->Prop
 |[],[]=>True
 |rd::rds,r::rs=>aMC rd r/\UN rds rs
 |_,_=>False
theorem FJ{hist:List St}{hs:List SS}(hh:zV hist hs):∀ {rds:List RD} {rs:List ARead},UN rds rs->EB rds hs=true->∀ r∈rs,ARead.ok r hist
 |[],[],_,_,r,hm=>by cases hm
 |rd::rds,r0::rs,h,hk,r,hm=>by
  have hk':cond (V3 rd hs 0) (EB rds hs) false=true:=hk;cases h0:V3 rd hs 0 with
  |false=>rw[h0] at hk';cases hk'
  |true =>
   rw[h0] at hk';rcases List.mem_cons.1 hm with rfl|hm
   ·intro j σ h1 h2 h3;obtain⟨s,h4,h5⟩:=hh.2 j σ h3;have:=P4 rd hs 0 h0 j s h4;rw[Nat.zero_add] at this;exact h.1 j σ s h5 h1 h2 this
   ·exact FJ hh h.2 hk' r hm
 |[],_::_,h,_,_,_=>h.elim
 |_::_,[],h,_,_,_=>h.elim
theorem aDD{C:CC}{q:AOp}{lo hi:Nat}{env:Env}{e:Tre}{v:AV}(h:lX env e)(hq:q.reads=true):aMC (aD7 C q lo hi e v) ⟨lo,hi,q,env,v⟩:=by
 intro j σ s hs h1 h2 h3;simp only[aD7] at h3;rw[show Nat.ble lo j=true from Nat.ble_eq_true_of_le h1,show Nat.ble j hi=true from Nat.ble_eq_true_of_le h2] at h3;simp only[cond_true] at h3;cases hx:gY q C e s (fun w _=>cond (eqVF 100000 w v) (some (.undef,SS.new)) none) with
 |none=>rw[hx] at h3;cases h3
 |some r =>
  obtain⟨w,σ',s',d1,d2,d3⟩:=t7 h hs (fun f args e=>by subst e;cases hq) hx;cases he:eqVF 100000 w v with
  |false=>have d4:cond (eqVF 100000 w v) (some (AV.undef,SS.new)) none=some r:=d3;rw[he] at d4;cases d4
  |true=>rw[d1,eqVF_ok _ _ _ he,FU hq d1]
abbrev KD:=Tre->SS->Nat->List SS->List RD->RR
def W7(C:CC)(dst:Option Nat)(q:AOp)(lo hi:Nat)(e:Tre)(s:SS)(next:Nat)(hist:List SS)(rds:List RD)(K:KD):RR :=
 cond q.allocs (xR dst (.ptr next 0) e fun e'=>K e' s (Nat.add next 1) hist rds)
  (cond q.acts (gY q C e s fun v s'=>xR dst v e fun e'=>K e' s' next (snoc s' hist) rds)
   (cond q.reads (gY q C e s fun v _=>xR dst v e fun e'=>K e' s next hist (aD7 C q lo hi e v::rds))
    (gY q C e s fun v _=>xR dst v e fun e'=>K e' s next hist rds)))
def KO(C:CC)(ds:List ADOper):Tre->SS->Nat->List SS->List RD->KE->RR :=
 List.rec (motive:=fun _=>Tre->SS->Nat->List SS->List RD->KE->RR) (fun e s _ hist rds K=>cond (EB rds hist) (K e s) none)
  (fun d _ ih e s next hist rds K=>ADOper.rec (fun o lo hi=>AOper.rec (fun dst q g=>L4 g e (fun _=>W7 C dst q lo hi e s next hist rds fun e s next hist rds=>ih e s next hist rds K)
  (fun _=>xR dst (.tuple []) e fun e'=>ih e' s (cond q.allocs (Nat.add next 1) next) (cond q.acts (snoc s hist) hist) rds K)) o) d) ds
theorem JQ{σ σ':St}{l:Nat}(h:KeepS σ σ' l):KeepS σ σ' 0:=h.weak (Nat.zero_le _)
theorem qC{σ σ1 σ2:St}(h:KeepS σ σ1 0)(k:KeepS σ1 σ2 0):KeepS σ σ2 0:=JQ (h.trans k)
def xP(T:FuncId->Option AFunc)(C:CC):Prop:=∀ f args σ s v s',dG σ s->C f args s=some (v,s')->∃ σ',dG σ' s'/\KeepS σ σ' 0/\Run T (.callv f args σ) fun r=>r.v=v/\r.σ=σ'
theorem BX{C:CC}(hC:xP T C):∀ {os:List AOper} {env:Env} {e:Tre} {σ:St} {s:SS} {K:KE} {r:AV×SS},lX env e->dG σ s->aDG C os e s K=some r ->
  ∃ env' e' σ' s',KeepS σ σ' 0/\Run T (.ops os env σ) (fun o=>o=⟨none,env',σ',.undef⟩)/\lX env' e'/\dG σ' s'/\K e' s'=some r
 |[],env,e,σ,s,K,r,h,hs,hr=>⟨env,e,σ,s,.refl _ _,.nil rfl,h,hs,hr⟩
 |o::os,env,e,σ,s,K,r,h,hs,hr=>by
  obtain⟨dst,q,g⟩:=o;have hr':L4 g e (fun _=>gY q C e s fun v s'=>xR dst v e fun e'=>aDG C os e' s' K) (fun _=>xR dst (.tuple []) e fun e'=>aDG C os e' s K)=some r:=hr;rcases JV (o:=⟨dst,q,g⟩) h hr' with⟨hw,h1⟩|⟨hw,h1⟩
  ·by_cases hc:∃ f args,q = .call f args
   ·obtain⟨f,args,rfl⟩:=hc;simp only[gY,XH,iH h,xN h] at h1;obtain⟨v,s1,h2,h3⟩:=N5 h1;obtain⟨σ1,q1,k1,r1⟩:=hC _ _ _ _ _ _ hs h2;obtain⟨e',he',h4⟩:=mM h h3;obtain⟨env2,e2,σ2,s2,k2,r2,l2,y2,x2⟩:=BX hC he' q1 h4;exact⟨env2,e2,σ2,s2,qC k1 k2,.stepc hw rfl r1 (fun r' hr'=>by rw[hr'.1,hr'.2];exact r2),l2,y2,x2⟩
   ·obtain⟨v,σ1,s1,h2,q1,h3⟩:=t7 h hs (fun f args e=>hc ⟨f,args,e⟩) h1;obtain⟨e',he',h4⟩:=mM h h3;obtain⟨env2,e2,σ2,s2,k2,r2,l2,y2,x2⟩:=BX hC he' q1 h4;exact⟨env2,e2,σ2,s2,qC (JQ (LD h2)) k2,.step hw h2 r2,l2,y2,x2⟩
  ·obtain⟨e',he',h4⟩:=mM h h1;obtain⟨env2,e2,σ2,s2,k2,r2,l2,y2,x2⟩:=BX hC he' hs h4;exact⟨env2,e2,σ2,s2,k2,.off hw r2,l2,y2,x2⟩
theorem oQ{C:CC}(hC:xP T C):∀ {ds:List ADOper} {env:Env} {e:Tre} {σ:St} {s:SS} {next:Nat} {hist:List St} {hss:List SS} {rds:List RD} {rs:List ARead} {K:KE} {r:AV×SS},lX env e->dG σ s->zV hist hss->UN rds rs ->
  KO C ds e s next hss rds K=some r->∃ env' e' σ' s',KeepS σ σ' 0/\Run T (.dops ds env σ next hist rs) (fun o=>o=⟨none,env',σ',.undef⟩)/\lX env' e'/\dG σ' s'/\K e' s'=some r
 |[],env,e,σ,s,next,hist,hss,rds,rs,K,r,h,hs,hh,hrd,hr=>by
  have hr':cond (EB rds hss) (K e s) none=some r:=hr;cases hk:EB rds hss with
  |false=>rw[hk] at hr';cases hr'
  |true=>rw[hk] at hr';exact⟨env,e,σ,s,.refl _ _,.dnil (FJ hh hrd hk) rfl,h,hs,hr'⟩
 |d::ds,env,e,σ,s,next,hist,hss,rds,rs,K,r,h,hs,hh,hrd,hr=>by
  obtain⟨⟨dst,q,g⟩,lo,hi⟩:=d;have hr':L4 g e (fun _=>W7 C dst q lo hi e s next hss rds fun e s next hist rds=>KO C ds e s next hist rds K)
   (fun _=>xR dst (.tuple []) e fun e'=>KO C ds e' s (cond q.allocs (Nat.add next 1) next) (cond q.acts (snoc s hss) hss) rds K)=some r:=hr
  rcases JV (o:=⟨dst,q,g⟩) h hr' with⟨hw,h1⟩|⟨hw,h1⟩
  ·unfold W7 at h1;cases hal:q.allocs with
   |true =>
    rw[hal] at h1;simp only[cond_true] at h1;obtain⟨e',he',h4⟩:=mM h h1;obtain⟨env2,e2,σ2,s2,k2,r2,l2,y2,x2⟩:=oQ hC he' hs hh hrd h4;cases q<;>first|(cases hal;done)|skip
    exact⟨env2,e2,σ2,s2,k2,.dalloc hw rfl r2,l2,y2,x2⟩
   |false =>
    rw[hal] at h1;cases hac:q.acts with
    |true =>
     rw[hac] at h1;simp only[cond_true,cond_false] at h1;by_cases hc:∃ f args,q = .call f args
     ·obtain⟨f,args,rfl⟩:=hc;simp only[gY,XH,iH h,xN h] at h1;obtain⟨v,s1,h2,h3⟩:=N5 h1;obtain⟨σ1,q1,k1,r1⟩:=hC _ _ _ _ _ _ hs h2;obtain⟨e',he',h4⟩:=mM h h3;obtain⟨env2,e2,σ2,s2,k2,r2,l2,y2,x2⟩:=oQ hC he' q1 (hh.snoc q1) hrd h4;exact⟨env2,e2,σ2,s2,qC k1 k2,.dcall hw rfl r1 r2,l2,y2,x2⟩
     ·obtain⟨v,σ1,s1,h2,q1,h3⟩:=t7 h hs (fun f args e=>hc ⟨f,args,e⟩) h1;obtain⟨e',he',h4⟩:=mM h h3;obtain⟨env2,e2,σ2,s2,k2,r2,l2,y2,x2⟩:=oQ hC he' q1 (hh.snoc q1) hrd h4;exact⟨env2,e2,σ2,s2,qC (JQ (LD h2)) k2,.dact hw hac h2 r2,l2,y2,x2⟩
    |false =>
     rw[hac] at h1;have hnc:∀ f args,q≠.call f args:=fun f args e=>by subst e;cases hac
     cases hre:q.reads with
     |true =>
      rw[hre] at h1;simp only[cond_true,cond_false] at h1;obtain⟨v,σ1,s1,h2,q1,h3⟩:=t7 h hs hnc h1;obtain⟨e',he',h4⟩:=mM h h3;have hs1:=FU hre h2;subst hs1;obtain⟨env2,e2,σ2,s2,k2,r2,l2,y2,x2⟩:=oQ hC he' hs hh (rds:=aD7 C q lo hi e v::rds) (rs:=⟨lo,hi,q,env,v⟩::rs) ⟨aDD h hre,hrd⟩ h4;exact⟨env2,e2,σ2,s2,k2,.dread hw hre h2 r2,l2,y2,x2⟩
     |false =>
      rw[hre] at h1;simp only[cond_false] at h1;obtain⟨v,σ1,s1,h2,q1,h3⟩:=t7 h hs hnc h1;obtain⟨e',he',h4⟩:=mM h h3;have hs1:=FV h2 hac hal;subst hs1;obtain⟨env2,e2,σ2,s2,k2,r2,l2,y2,x2⟩:=oQ hC he' hs hh hrd h4;exact⟨env2,e2,σ2,s2,k2,.dpure hw (by rw[hac,hal,hre];rfl) h2 r2,l2,y2,x2⟩
  ·obtain⟨e',he',h4⟩:=mM h h1;have e1:(cond q.allocs (Nat.add next 1) next)=if q.allocs then next+1 else next:=by cases q.allocs<;>rfl
   have hh':zV (if q.acts then hist++[σ] else hist) (cond q.acts (snoc s hss) hss):=by
    cases q.acts with
    |true=>exact hh.snoc hs
    |false=>exact hh
   rw[e1] at h4;obtain⟨env2,e2,σ2,s2,k2,r2,l2,y2,x2⟩:=oQ hC he' hs hh' hrd h4;exact⟨env2,e2,σ2,s2,k2,.doff hw r2,l2,y2,x2⟩
def IG(v:AV):Bool:=AV.rec (motive_1:=fun _=>Bool) (motive_2:=fun _=>PUnit) true (fun _ _=>false) (fun _=>false) (fun _=>false) (fun _ _ _ _ _=>false) false (fun _=>false) (fun _ _=>false) false (fun _ _ _ _ _=>false) (fun _ _ _ _=>false) (fun _ _ _ _=>false) (fun _=>false) false (fun _ _=>false) (fun _ _=>false) ⟨⟩ (fun _ _ _ _=>⟨⟩) v
def EM(e:Tre)(n:Nat):Env:=Nat.rec [] (fun t ih=>cond (IG (Tre.get e t)) ih ((t,Tre.get e t)::ih)) n
theorem CP(e:Tre)(t:Nat):∀ n,Env.get (EM e n) t=if t<n then Tre.get e t else .undef
 |0=>rfl
 |n+1=>by
  have ih:=CP e t n;have e1:EM e (n+1)=cond (IG (Tre.get e n)) (EM e n) ((n,Tre.get e n)::EM e n):=rfl;rw[e1];cases hu:IG (Tre.get e n) with
  |true =>
   have hv:Tre.get e n = .undef:=by
    cases hg:Tre.get e n<;>first|rfl|(rw[hg] at hu;cases hu)
   simp only[cond_true,ih];by_cases h1:t<n
   ·rw[if_pos h1,if_pos (by omega)]
   ·rw[if_neg h1];by_cases h2:t=n
    ·subst h2;rw[if_pos (by omega),hv]
    ·rw[if_neg (by omega)]
  |false =>
   simp only[cond_false,Env.get,ih];by_cases h2:n=t
   ·subst h2;rw[if_pos rfl,if_pos (by omega)]
   ·rw[if_neg h2];by_cases h1:t<n
    ·rw[if_pos h1,if_pos (by omega)]
    ·rw[if_neg h1,if_neg (by omega)]
def PH(e:Tre):Env:=EM e 256
theorem wH(e:Tre):lX (PH e) e:=fun t=>by
 unfold PH;rw[CP];split
 ·rfl
 ·rename_i h;unfold Tre.get;cases hb:Nat.ble t 255 with
  |true=>have:=Nat.le_of_ble_eq_true hb;omega
  |false=>rfl
def GS(env:Env):Bool:=List.rec true (fun p _ ih=>cond (Nat.ble p.1 255) ih false) env
def aGF(env:Env):Tre:=List.rec Tre.none (fun p _ ih=>Tre.put ih p.1 p.2) env
theorem EC:∀ {env:Env},GS env=true->lX env (aGF env)
 |[],_=>fun t=>(Tre.get_none t).symm
 |(k,v)::env,h=>by
  have h':cond (Nat.ble k 255) (GS env) false=true:=h;cases hk:Nat.ble k 255 with
  |false=>rw[hk] at h';cases h'
  |true=>rw[hk] at h';exact (EC h').put k v hk
def nU(args:List AV):Nat->Tre:=List.rec (motive:=fun _=>Nat->Tre) (fun _=>Tre.none) (fun v _ ih k=>Tre.put (ih (Nat.add k 1)) k v) args
theorem tM:∀ {args:List AV} {k:Nat},k+args.length<=256->lX (eP k args) (nU args k)
 |[],k,_=>fun t=>(Tre.get_none t).symm
 |v::args,k,h=>by
  have h1:k+1+args.length<=256:=by simp only[List.length_cons] at h;omega
  exact (tM h1).put k v (Nat.ble_eq_true_of_le (by simp only[List.length_cons] at h;omega))
def UY(ps:List Nat):List AV->Tre->(Tre->RR)->RR:=List.rec (motive:=fun _=>List AV->Tre->(Tre->RR)->RR) (fun _ e K=>K e) (fun p _ ih args e K=>List.rec (K e) (fun v vs _=>xR (some p) v e fun e'=>ih vs e' K) args) ps
theorem L5:∀ {ps:List Nat} {args:List AV} {env:Env} {e:Tre} {K:Tre->RR} {r:AV×SS},lX env e->UY ps args e K=some r->∃ e',lX (iS env ps args) e'/\K e'=some r
 |[],args,env,e,K,r,h,hr=>⟨e,h,hr⟩
 |p::ps,[],env,e,K,r,h,hr=>⟨e,h,hr⟩
 |p::ps,v::vs,env,e,K,r,h,hr=>by
  have hr':xR (some p) v e (fun e'=>UY ps vs e' K)=some r:=hr;obtain⟨e',he',h1⟩:=mM h hr';simp only[iS];exact L5 he' h1
abbrev KJ2:=Option AJump->Tre->SS->RR
abbrev CF:=FuncId->List AV->SS->RR
abbrev wL:=CC->CF->Tre->SS->KJ2->RR
def aOK:wL:=fun _ _ e s K=>K none e s
def aTW(os:List AOper):wL:=fun C _ e s K=>aDG C os e s (K none)
def aP6(ds:List ADOper):wL:=fun C _ e s K=>LA (dC ds) s fun s1=>KO C ds e s1 s.len [s1] [] (K none)
def W4(A B:KJ2):KJ2:=fun j e s=>Option.rec (A none e s) (fun j=>B (some j) e s) j
def aUF(iha ihb:wL):wL:=fun C F e s K=>iha C F e s (W4 (fun _ e s=>ihb C F e s K) K)
def aMV(c:AOpd)(iha ihb:wL):wL:=fun C F e s K=>GP (odv c e) (fun t=>cond t (iha C F e s K) (ihb C F e s K)) none
def aPS(id:Nat)(K:KJ2):KJ2:=fun j e s=>Option.rec (K none e s) (fun q=>AJump.rec (K (some .ret) e s) (fun i=>cond (Nat.beq i id) (K none e s) (K (some (.exit i)) e s)) q) j
def aIA(id:Nat)(ihb:wL):wL:=fun C F e s K=>ihb C F e s (aPS id K)
def O7(B:Tre->SS->KJ2->RR)(K:KJ2)(n:Nat):Tre->SS->RR:=Nat.rec (motive:=fun _=>Tre->SS->RR) (fun _ _=>none) (fun _ ih e s=>B e s (W4 (fun _ e s=>ih e s) K)) n
def aOE(ihb:wL):wL:=fun C F e s K=>O7 (ihb C F) K 1000000 e s
def lsK(s:LS)(A:RR):RR:=LS.rec A none A s
def OF(f:AOpd)(ps:List Nat)(a b:ACode):wL:=fun _ F e s K =>
 PX (odv f e) (fun g first cap=>nW s.len fun n=>DQ none s (.loop .ready none (PH e) ps a b) fun s0=>bnd (F g (NV (NV first [.yield n]) cap) s0) fun _ s1 =>
  eS none (s1.get n) fun blk=>FM blk (fun st pend _ _ _ _=>lsK st (K pend e (s1.set n .dead))) none) none
def aN8(j:AJump):wL:=fun _ _ e s K=>K (some j) e s
def DE(c:ACode):wL:=ACode.rec (motive:=fun _=>wL) aOK aTW aP6 (fun _ _ iha ihb=>aUF iha ihb) (fun c _ _ iha ihb=>aMV c iha ihb) (fun id _ ihb=>aIA id ihb) (fun _ ihb=>aOE ihb) (fun f ps a b _ _=>OF f ps a b) aN8 (fun _ ihb=>ihb) c
def FOk(T:FuncId->Option AFunc)(F:CF):Prop:=∀ f args σ s v s',dG σ s->F f args s=some (v,s')->∃ σ',dG σ' s'/\KeepS σ σ' 0/\Run T (.call f args σ) fun r=>r.v=v/\r.σ=σ'
def aKC(T:FuncId->Option AFunc)(c:ACode)(env:Env)(σ:St)(K:KJ2)(r:AV×SS):Prop :=
 ∃ j env' e' σ' s',KeepS σ σ' 0/\Run T (.code c env σ) (fun o=>o=⟨j,env',σ',.undef⟩)/\lX env' e'/\dG σ' s'/\K j e' s'=some r
theorem ZR{C:CC}{F:CF}(hC:xP T C)(hF:FOk T F):∀ (c:ACode) {env:Env} {e:Tre} {σ:St} {s:SS} {K:KJ2} {r:AV×SS},lX env e->dG σ s->DE c C F e s K=some r->aKC T c env σ K r:=by
 intro c
 induction c with
 |skip=>intro env e σ s K r h hs hr;exact⟨none,env,e,σ,s,.refl _ _,.skip rfl,h,hs,hr⟩
 |reg os =>
  intro env e σ s K r h hs hr;obtain⟨env2,e2,σ2,s2,k2,r2,l2,y2,x2⟩:=BX hC h hs hr;exact⟨none,env2,e2,σ2,s2,k2,.reg r2,l2,y2,x2⟩
 |dreg ds =>
  intro env e σ s K r h hs hr;have hr':LA (dC ds) s (fun s1=>KO C ds e s1 s.len [s1] [] (K none))=some r:=hr;obtain⟨s1,q1,q2⟩:=xT hs hr';rw[<-hs.1] at q2
  obtain⟨env2,e2,σ2,s2,k2,r2,l2,y2,x2⟩:=oQ hC h q1 (hist:=[σ++dC ds]) ⟨rfl,fun j τ hj=>by
   cases j with
   |zero=>simp only[List.getElem?_cons_zero,Option.some.injEq] at hj;subst hj;exact⟨s1,rfl,q1⟩
   |succ j=>simp at hj⟩ (rds:=[]) (rs:=[]) trivial q2
  exact⟨none,env2,e2,σ2,s2,qC (.app _ _ _) k2,.dreg r2,l2,y2,x2⟩
 |seq a b iha ihb =>
  intro env e σ s K r h hs hr;obtain⟨j,env1,e1,σ1,s1,k1,r1,l1,y1,x1⟩:=iha h hs hr;cases j with
  |none =>
   obtain⟨j,env2,e2,σ2,s2,k2,r2,l2,y2,x2⟩:=ihb l1 y1 x1;exact⟨j,env2,e2,σ2,s2,qC k1 k2,.seq r1 (fun o ho _=>by subst ho;exact r2) fun o ho hj=>by subst ho;exact absurd rfl hj,l2,y2,x2⟩
  |some j=>exact⟨some j,env1,e1,σ1,s1,k1,.seq r1 (fun o ho hj=>by subst ho;cases hj) fun o ho hj=>ho,l1,y1,x1⟩
 |cond x a b iha ihb =>
  intro env e σ s K r h hs hr;have hr':GP (odv x e) (fun t=>cond t (DE a C F e s K) (DE b C F e s K)) none=some r:=hr;rw[xX,iH h] at hr';split at hr'
  ·rename_i t hx;cases t with
   |true =>
    obtain⟨j,env2,e2,σ2,s2,k2,r2,l2,y2,x2⟩:=iha h hs hr';exact⟨j,env2,e2,σ2,s2,k2,.cond true hx r2,l2,y2,x2⟩
   |false =>
    obtain⟨j,env2,e2,σ2,s2,k2,r2,l2,y2,x2⟩:=ihb h hs hr';exact⟨j,env2,e2,σ2,s2,k2,.cond false hx r2,l2,y2,x2⟩
  ·cases hr'
 |block id b ihb =>
  intro env e σ s K r h hs hr;obtain⟨j,env',e',σ',s',k,r1,he',hs',h1⟩:=ihb h hs hr;cases j with
  |none=>exact⟨none,env',e',σ',s',k,.block r1 fun o ho=>by subst ho;simp,he',hs',h1⟩
  |some q =>
   cases q with
   |ret=>exact⟨some .ret,env',e',σ',s',k,.block r1 fun o ho=>by subst ho;simp,he',hs',h1⟩
   |exit i =>
    have h1':cond (Nat.beq i id) (K none e' s') (K (some (.exit i)) e' s')=some r:=h1;cases hi:Nat.beq i id with
    |true =>
     have:=Nat.eq_of_beq_eq_true hi;subst this;rw[hi] at h1';exact⟨none,env',e',σ',s',k,.block r1 fun o ho=>by subst ho;simp,he',hs',h1'⟩
    |false =>
     have:=Nat.ne_of_beq_eq_false hi;rw[hi] at h1';exact⟨some (.exit i),env',e',σ',s',k,.block r1 fun o ho=>by subst ho;simp[this],he',hs',h1'⟩
 |loop b ihb =>
  intro env e σ s K r h hs hr;have key:∀ n {env:Env} {e:Tre} {σ:St} {s:SS},lX env e->dG σ s->O7 (DE b C F) K n e s=some r->aKC T (.loop b) env σ K r:=by
   intro n
   induction n with
   |zero=>intro env e σ s h hs hr;cases hr
   |succ n ih =>
    intro env e σ s h hs hr;obtain⟨j,env1,e1,σ1,s1,k1,r1,l1,y1,x1⟩:=ihb (K:=W4 (fun _ e s=>O7 (DE b C F) K n e s) K) h hs hr;cases j with
    |none =>
     obtain⟨j,env2,e2,σ2,s2,k2,r2,l2,y2,x2⟩:=ih l1 y1 x1;exact⟨j,env2,e2,σ2,s2,qC k1 k2,.loop r1 (fun o ho _=>by subst ho;exact r2) fun o ho hj=>by subst ho;exact absurd rfl hj,l2,y2,x2⟩
    |some j=>exact⟨some j,env1,e1,σ1,s1,k1,.loop r1 (fun o ho hj=>by subst ho;cases hj) fun o ho hj=>ho,l1,y1,x1⟩
  exact key 1000000 h hs (show O7 (DE b C F) K 1000000 e s=some r from hr)
 |rangeFunc f ps a b _ _ =>
  intro env e σ s K r h hs hr;have hr':OF f ps a b C F e s K=some r:=hr;unfold OF at hr';rw[DV,iH (wH e)] at hr';split at hr'
  ·rename_i g first cap hf
   rw[kT] at hr';obtain⟨s0,q0,hr'⟩:=uE hs hr';obtain⟨v,s1,h1,h2⟩:=N5 hr';rw[sX,sX,<-hs.1] at h1;obtain⟨σ1,q1,k1,r1⟩:=hF _ _ _ _ _ _ q0 h1;simp only[<-hs.1,cW,J4,<-q1.2] at h2;split at h2
   ·rename_i blk hb;split at h2
    ·rename_i st pend env' ps' a' b';have hst:st≠.busy:=fun hst=>by subst hst;cases h2
     have h3:K pend e (s1.set σ.length .dead)=some r:=by cases st<;>first|exact h2|exact absurd rfl hst
     refine⟨pend,PH e,e,σ1.set σ.length .dead,s1.set σ.length .dead,⟨?_,fun i hi=>absurd hi (Nat.not_lt_zero _),fun i st2 pe2 env2 ps2 x y hlt q=>?_⟩,.reenv (fun t=>by rw[h t,wH e t]) (.rangeFunc hf r1 fun o ho=>?_),wH e,q1.set hb _,h3⟩
     ·have:=k1.len;simp at this ⊢;omega
     ·rw[List.getElem?_set_ne (by omega)] at q;obtain⟨st',pe',q'⟩:=k1.loops i st2 pe2 env2 ps2 x y (by simp;omega) q;rw[List.getElem?_append_left hlt] at q';exact⟨st',pe',q'⟩
     ·obtain⟨rfl,hσ⟩:=ho;subst hσ;exact⟨st,pend,env',ps',a',b',hb,hst,rfl⟩
    ·cases h2
   ·cases h2
  ·cases hr'
 |jump j=>intro env e σ s K r h hs hr;exact⟨some j,env,e,σ,s,.refl _ _,.jump rfl,h,hs,hr⟩
 |scope b ihb =>
  intro env e σ s K r h hs hr;obtain⟨j,env2,e2,σ2,s2,k2,r2,l2,y2,x2⟩:=ihb h hs hr;exact⟨j,env2,e2,σ2,s2,k2,.scope r2,l2,y2,x2⟩
def aJF:AV->Bool:=AV.rec (motive_1:=fun _=>Bool) (motive_2:=fun _=>Bool) true (fun _ _=>true) (fun _=>true) (fun _=>true) (fun _ _ _ x y=>cond x y false) true (fun _=>false) (fun _ _=>false) true (fun _ _ _ tk x=>Option.rec x (fun _=>false) tk) (fun _ _ tk x=>Option.rec x (fun _=>false) tk) (fun _ _ _ _=>false) (fun _=>false) true (fun _ x=>x) (fun _ x=>x) true (fun _ _ x y=>cond x y false)
def wE:List AV->Bool:=AV.rec_1 (motive_1:=fun _=>Bool) (motive_2:=fun _=>Bool) true (fun _ _=>true) (fun _=>true) (fun _=>true) (fun _ _ _ x y=>cond x y false) true (fun _=>false) (fun _ _=>false) true (fun _ _ _ tk x=>Option.rec x (fun _=>false) tk) (fun _ _ tk x=>Option.rec x (fun _=>false) tk) (fun _ _ _ _=>false) (fun _=>false) true (fun _ x=>x) (fun _ x=>x) true (fun _ _ x y=>cond x y false)
mutual
theorem datA_ok:∀ v:AV,aJF v=true->okV 0 v
 |.undef,_|.int _ _,_|.bool _,_|.str _,_|.nilFunc,_|.nilPtr,_|.nilMap,_=>trivial
 |.func f a b,h=>by
  have h':cond (wE a) (wE b) false=true:=h;cases ha:wE a with
  |false=>rw[ha] at h';cases h'
  |true=>rw[ha] at h';exact⟨datAs_ok a ha,datAs_ok b h'⟩
 |.yield i,h|.ptr i _,h|.ref i _ _ _,h|.map i,h=>by cases h
 |.lptr xs i o tk,h=>by
  cases tk with
  |none=>exact⟨fun t e=>(by cases e),datAs_ok xs h⟩
  |some t=>cases h
 |.lit xs fl tk,h=>by
  cases tk with
  |none=>exact⟨fun t e=>(by cases e),datAs_ok xs h⟩
  |some t=>cases h
 |.agg cs,h=>datAs_ok cs h
 |.tuple cs,h=>datAs_ok cs h
theorem datAs_ok:∀ vs:List AV,wE vs=true->okVs 0 vs
 |[],_=>trivial
 |v::vs,h=>by
  have h':cond (aJF v) (wE vs) false=true:=h;cases ha:aJF v with
  |false=>rw[ha] at h';cases h'
  |true=>rw[ha] at h';exact⟨datA_ok v ha,datAs_ok vs h'⟩
end
def aC3(σ:St)(rf:List AV->Option (List AV))(id off len sz:Nat):Option AV :=
 eS none (lA σ (.ref id off len sz)) fun xs=>cond (decide (0<sz)&&aI sz xs) (eS none (rf xs) fun ys=>some (.lit ys false none)) none
def aI4(σ:St)(rf:List AV->Option (List AV)):AV->Option AV:=AV.rec (motive_1:=fun _=>Option AV) (motive_2:=fun _=>Option (List AV))
 (some .undef) (fun k n=>some (.int k n)) (fun b=>some (.bool b)) (fun s=>some (.str s)) (fun f _ _ x y=>eS none x fun x=>eS none y fun y=>some (.func f x y)) (some .nilFunc) (fun _=>none) (fun _ _=>none) (some .nilPtr)
 (fun _ i o _ x=>eS none x fun x=>some (.lptr x i o none)) (fun _ fl _ x=>eS none x fun x=>some (.lit x fl none)) (fun id off len sz=>aC3 σ rf id off len sz) (fun _=>none) (some .nilMap) (fun _ x=>eS none x fun x=>some (.agg x)) (fun _ x=>eS none x fun x=>some (.tuple x)) (some []) (fun _ _ x y=>eS none x fun x=>eS none y fun y=>some (x::y))
def xV(σ:St)(rf:List AV->Option (List AV)):List AV->Option (List AV):=AV.rec_1 (motive_1:=fun _=>Option AV) (motive_2:=fun _=>Option (List AV))
 (some .undef) (fun k n=>some (.int k n)) (fun b=>some (.bool b)) (fun s=>some (.str s)) (fun f _ _ x y=>eS none x fun x=>eS none y fun y=>some (.func f x y)) (some .nilFunc) (fun _=>none) (fun _ _=>none) (some .nilPtr)
 (fun _ i o _ x=>eS none x fun x=>some (.lptr x i o none)) (fun _ fl _ x=>eS none x fun x=>some (.lit x fl none)) (fun id off len sz=>aC3 σ rf id off len sz) (fun _=>none) (some .nilMap) (fun _ x=>eS none x fun x=>some (.agg x)) (fun _ x=>eS none x fun x=>some (.tuple x)) (some []) (fun _ _ x y=>eS none x fun x=>eS none y fun y=>some (x::y))
def aC8(σ:St)(d:Nat):List AV->Option (List AV):=Nat.rec (fun _=>none) (fun _ ih=>xV σ ih) d
def snp(σ:St)(d:Nat):AV->Option AV:=aI4 σ (aC8 σ d)
mutual
theorem snpV_ok (σ:St) (d:Nat) (rf:List AV->Option (List AV)) (hrf:∀ xs ys,rf xs=some ys->∃ d',d=d'+1/\snaps σ 0 d' xs=some ys):∀ v v':AV,aI4 σ rf v=some v'->snap σ 0 d v=some v'
 |.undef,v',h=>by simp only[snap];exact h
 |.int _ _,v',h=>by simp only[snap];exact h
 |.bool _,v',h=>by simp only[snap];exact h
 |.str _,v',h=>by simp only[snap];exact h
 |.nilFunc,v',h=>by simp only[snap];exact h
 |.nilPtr,v',h=>by simp only[snap];exact h
 |.nilMap,v',h=>by simp only[snap];exact h
 |.func f a b,v',h=>by
  have h':(eS none (xV σ rf a) fun x=>eS none (xV σ rf b) fun y=>some (AV.func f x y))=some v':=h;rw[cW] at h';split at h'
  ·rename_i x hx;rw[cW] at h';split at h'
   ·rename_i y hy;simp only[snap,snpVs_ok σ d rf hrf a _ hx,snpVs_ok σ d rf hrf b _ hy];exact h'
   ·cases h'
  ·cases h'
 |.yield _,v',h=>by cases h
 |.ptr _ _,v',h=>by cases h
 |.map _,v',h=>by cases h
 |.lptr xs i o tk,v',h=>by
  have h':(eS none (xV σ rf xs) fun x=>some (AV.lptr x i o none))=some v':=h;rw[cW] at h';split at h'
  ·rename_i x hx;simp only[snap,snpVs_ok σ d rf hrf xs _ hx];cases tk<;>exact h'
  ·cases h'
 |.lit xs fl tk,v',h=>by
  have h':(eS none (xV σ rf xs) fun x=>some (AV.lit x fl none))=some v':=h;rw[cW] at h';split at h'
  ·rename_i x hx;simp only[snap,snpVs_ok σ d rf hrf xs _ hx];cases tk<;>exact h'
  ·cases h'
 |.ref id off len sz,v',h=>by
  have h':aC3 σ rf id off len sz=some v':=h;unfold aC3 at h';rw[cW] at h';split at h'
  ·rename_i xs hv;cases hc:decide (0<sz)&&aI sz xs with
   |false=>rw[hc] at h';cases h'
   |true =>
    rw[hc,cond_true,cW] at h';split at h'
    ·rename_i ys hy;obtain⟨d',rfl,hs⟩:=hrf _ _ hy;simp only[snap];rw[if_neg (Nat.not_lt_zero _)];simp only[hv,hc,if_true,hs];exact h'
    ·cases h'
  ·cases h'
 |.agg cs,v',h=>by
  have h':(eS none (xV σ rf cs) fun x=>some (AV.agg x))=some v':=h;rw[cW] at h';split at h'
  ·rename_i x hx;simp only[snap,snpVs_ok σ d rf hrf cs _ hx];exact h'
  ·cases h'
 |.tuple cs,v',h=>by
  have h':(eS none (xV σ rf cs) fun x=>some (AV.tuple x))=some v':=h;rw[cW] at h';split at h'
  ·rename_i x hx;simp only[snap,snpVs_ok σ d rf hrf cs _ hx];exact h'
  ·cases h'
theorem snpVs_ok (σ:St) (d:Nat) (rf:List AV->Option (List AV)) (hrf:∀ xs ys,rf xs=some ys->∃ d',d=d'+1/\snaps σ 0 d' xs=some ys):∀ vs vs':List AV,xV σ rf vs=some vs'->snaps σ 0 d vs=some vs'
 |[],vs',h=>by simp only[snaps];exact h
 |v::vs,vs',h=>by
  have h':(eS none (aI4 σ rf v) fun x=>eS none (xV σ rf vs) fun y=>some (x::y))=some vs':=h;rw[cW] at h';split at h'
  ·rename_i x hx;rw[cW] at h';split at h'
   ·rename_i y hy;simp only[snaps,snpV_ok σ d rf hrf v _ hx,snpVs_ok σ d rf hrf vs _ hy];exact h'
   ·cases h'
  ·cases h'
end
theorem QQ(σ:St):∀ (d:Nat) (xs ys:List AV),aC8 σ d xs=some ys->∃ d',d=d'+1/\snaps σ 0 d' xs=some ys
 |0,xs,ys,h=>by cases h
 |d+1,xs,ys,h=>⟨d,rfl,snpVs_ok σ d (aC8 σ d) (QQ σ d) xs ys h⟩
theorem ZC{σ:St}{d:Nat}{v v':AV}(h:snp σ d v=some v'):snap σ 0 d v=some v':=snpV_ok σ d (aC8 σ d) (QQ σ d) v v' h
def PT(r:ARes):Nat:=ARes.rec (fun t=>t) (fun t _=>t) r
theorem uF{env env':Env}{σ:St}:∀ {rs:List ARes},(∀ t∈rs.map PT,Env.get env t=Env.get env' t)->jU env σ rs=jU env' σ rs
 |[],_=>rfl
 |.tmp t::rs,h=>by
  simp only[jU];rw[uF (rs:=rs) fun t ht=>h t (List.mem_cons_of_mem _ ht),h t (by simp[PT])]
 |.cell t sh::rs,h=>by
  simp only[jU];rw[uF (rs:=rs) fun t ht=>h t (List.mem_cons_of_mem _ ht),h t (by simp[PT])]
def aDE(rs:List ARes)(e:Tre)(σ:St):Option AV:=eQ rs (J2 e (aOO PT rs)) σ
theorem H9{env:Env}{e:Tre}(h:lX env e)(rs:List ARes)(σ:St):aDE rs e σ=eQ rs env σ:=by
 unfold aDE eQ;rw[PU,uF fun t ht=>AF h _ t ht]
def aHB(j:Option AJump)(A:RR):RR:=Option.rec A (fun q=>AJump.rec A (fun _=>none) q) j
theorem H1{j:Option AJump}{A:RR}{r:AV×SS}(h:aHB j A=some r):(j=none\/j=some .ret)/\A=some r:=by
 cases j with
 |none=>exact⟨.inl rfl,h⟩
 |some q =>
  cases q with
  |ret=>exact⟨.inr rfl,h⟩
  |exit i=>cases h
def aEV(rs:List ARes):KJ2:=fun j e s=>aHB j (eS none (aDE rs e (RJ s)) fun v=>eS (some (.undef,.mk 1 (.all (.all (.all none))))) (snp (RJ s) 20 v) fun w=>some (w,SS.new))
def aCD(rs:List ARes):KJ2:=fun j e s=>aHB j (eS none (aDE rs e (RJ s)) fun v=>some (v,s))
def aP5(r:RR)(s:SS)(alt:Unit->RR):RR:=Option.rec none (fun p=>Prod.rec (fun v s1=>SS.rec (fun n _=>cond (Nat.beq n 0) (some (v,s)) (alt ())) s1) p) r
abbrev Bdy:=ACode->Tre->SS->KJ2->RR
def goF(q:Bool)(B:Bdy)(args:List AV)(s:SS)(n:Nat)(rs:List ARes)(b:ACode):RR :=
 cond (cond (Nat.ble (oX args) 255) (Nat.ble (oX args) n) false)
  (cond (cond q false (wE args)) (aP5 (B b (nU args 0) SS.new (aEV rs)) s fun _=>B b (nU args 0) s (aCD rs)) (B b (nU args 0) s (aCD rs))) none
def QN(T:FuncId->Option AFunc)(N:FuncId->Bool)(B:Bdy):CF:=fun f args s=>eS none (T f) fun af=>AFunc.rec (fun n rs b=>goF (N f) B args s n rs b) af
def H2(s:LS)(p:Option AJump)(A:RR):RR:=LS.rec (Option.rec A (fun _=>none) p) none none s
def WW(s:LS)(p:Option AJump)(A:RR):RR:=LS.rec none (Option.rec A (fun _=>none) p) none s
def ND(B:Bdy)(id:Nat)(args:List AV)(s:SS):RR :=
 eS none (s.get id) fun blk=>FM blk (fun st pe env ps a b=>H2 st pe (cond (Nat.beq (oX ps) (oX args)) (cond (GS env) (UY ps args (aGF env) fun e1 =>
  B a e1 s fun j e2 s1=>Option.rec (eS none (s1.get id) fun blk1=>FM blk1 (fun st1 pe1 _ _ _ _=>H2 st1 pe1 (B b e2 (s1.set id (.loop .busy none env ps a b)) fun j2 _ s2 =>
   eS none (s2.get id) fun blk2=>FM blk2 (fun st2 pe2 _ _ _ _=>WW st2 pe2 (Option.rec (some (.bool true,s2.set id (.loop .ready none env ps a b))) (fun q=>some (.bool false,s2.set id (.loop .done (some q) env ps a b))) j2)) none)) none) (fun _=>none) j) none) none)) none
def N4(T:FuncId->Option AFunc)(N:FuncId->Bool)(B:Bdy):CC:=fun f args s=>PX f (fun g first cap=>QN T N B g (NV (NV first args) cap) s) (MY f (fun id=>ND B id args s) none)
def XD(T:FuncId->Option AFunc)(N:FuncId->Bool)(k:Nat):Bdy:=Nat.rec (fun _ _ _ _=>none) (fun _ ih c=>DE c (N4 T N ih) (QN T N ih)) k
def BOk(T:FuncId->Option AFunc)(B:Bdy):Prop:=∀ c {env:Env} {e:Tre} {σ:St} {s:SS} {K:KJ2} {r:AV×SS},lX env e->dG σ s->B c e s K=some r->aKC T c env σ K r
theorem JZ{N:FuncId->Bool}{B:Bdy}(hB:BOk T B):FOk T (QN T N B):=by
 intro f args σ s v s' hs h;unfold QN at h;rw[cW] at h;split at h
 ·rename_i af haf;obtain⟨n,rs,b⟩:=af;have h':goF (N f) B args s n rs b=some (v,s'):=h;unfold goF at h';rw[jE] at h';cases h1:Nat.ble args.length 255 with
  |false=>rw[h1] at h';cases h'
  |true =>
   rw[h1] at h';cases h2:Nat.ble args.length n with
   |false=>rw[h2] at h';cases h'
   |true =>
    rw[h2] at h';simp only[cond_true] at h';have hl:args.length<=n:=Nat.le_of_ble_eq_true h2;have hL:lX (eP 0 args) (nU args 0):=tM (by have:=Nat.le_of_ble_eq_true h1;omega);have opn:B b (nU args 0) s (aCD rs)=some (v,s')->∃ σ',dG σ' s'/\KeepS σ σ' 0/\Run T (.call f args σ) fun r=>r.v=v/\r.σ=σ':=by
     intro hb;obtain⟨j,env2,e2,σ2,s2,k2,r2,l2,y2,x2⟩:=hB b hL hs hb;obtain⟨hj,h4⟩:=H1 x2;rw[cW,H9 l2,CH y2] at h4;split at h4
     ·rename_i w hw;cases h4;exact⟨σ2,y2,k2,.call haf hl r2 fun o ho=>by subst ho;exact⟨hj,v,hw,.inl ⟨rfl,rfl⟩⟩⟩
     ·cases h4
    cases hq:cond (N f) false (wE args) with
    |false=>rw[hq] at h';exact opn h'
    |true =>
     rw[hq] at h';have hd:wE args=true:=by
      cases hn:N f with
      |true=>rw[hn] at hq;cases hq
      |false=>rw[hn] at hq;exact hq
     simp only[cond_true] at h';cases hp:B b (nU args 0) SS.new (aEV rs) with
     |none=>rw[hp] at h';cases h'
     |some p =>
      obtain⟨w,s1⟩:=p;obtain⟨n1,t1⟩:=s1;rw[hp] at h';have h3:cond (Nat.beq n1 0) (some (w,s)) (B b (nU args 0) s (aCD rs))=some (v,s'):=h';cases hn:Nat.beq n1 0 with
      |false=>rw[hn] at h3;exact opn h3
      |true =>
       rw[hn] at h3;simp only[cond_true,Option.some.injEq,Prod.mk.injEq] at h3;obtain⟨rfl,rfl⟩:=h3;have hn0:n1=0:=Nat.eq_of_beq_eq_true hn;obtain⟨j,env2,e2,σ2,s2,k2,r2,l2,y2,x2⟩:=hB b hL dG.new hp;obtain⟨hj,h4⟩:=H1 x2;rw[cW,H9 l2,CH y2] at h4;split at h4
       ·rename_i u hu;rw[cW] at h4;split at h4
        ·rename_i u' hu';simp only[Option.some.injEq,Prod.mk.injEq] at h4;obtain⟨rfl,_⟩:=h4;refine⟨σ,hs,.refl _ _,.frame (datAs_ok _ hd) (.inl rfl) (R:=fun o=>o.v=u'/\o.σ=[]) (.call haf hl r2 fun o ho=>?_) fun o ho=>⟨ho.2,ho.1,rfl⟩⟩;subst ho;exact⟨hj,u,hu,.inr ⟨20,u',u',ZC hu',.inl rfl,fun i hi=>absurd hi (Nat.not_lt_zero _),Nat.zero_le _,rfl,rfl⟩⟩
        ·simp only[Option.some.injEq,Prod.mk.injEq,SS.mk.injEq] at h4;omega
       ·cases h4
 ·cases h
theorem ED{s:LS}{p:Option AJump}{A:RR}{r:AV×SS}(h:H2 s p A=some r):s = .ready/\p=none/\A=some r:=by
 cases s<;>cases p<;>first|exact⟨rfl,rfl,h⟩|(cases h;done)
theorem TJ{s:LS}{p:Option AJump}{A:RR}{r:AV×SS}(h:WW s p A=some r):s = .busy/\p=none/\A=some r:=by
 cases s<;>cases p<;>first|exact⟨rfl,rfl,h⟩|(cases h;done)
theorem NI{σ:St}{s:SS}(hs:dG σ s){id:Nat}{r:AV×SS}{K:LS->Option AJump->Env->List Nat->ACode->ACode->RR}(h:(eS none (s.get id) fun blk=>FM blk K none)=some r):
  ∃ st pe env ps a b,σ[id]? = some (.loop st pe env ps a b)/\K st pe env ps a b=some r:=by
 rw[cW,<-hs.2] at h;split at h
 ·rename_i blk hb;rw[J4] at h;split at h
  ·rename_i st pe env ps a b;exact⟨st,pe,env,ps,a,b,hb,h⟩
  ·cases h
 ·cases h
theorem TU{B:Bdy}(hB:BOk T B){id:Nat}{args:List AV}{σ:St}{s:SS}{v:AV}{s':SS}(hs:dG σ s)(h:ND B id args s=some (v,s')):∃ σ',dG σ' s'/\KeepS σ σ' 0/\Run T (.callv (.yield id) args σ) fun r=>r.v=v/\r.σ=σ':=by
 unfold ND at h;obtain⟨st,pe,env,ps,a,b,hl,h⟩:=NI hs h;obtain⟨rfl,rfl,h⟩:=ED h;rw[jE,jE] at h;cases hn:Nat.beq ps.length args.length with
 |false=>rw[hn] at h;cases h
 |true =>
  rw[hn,cond_true] at h;have hn':ps.length=args.length:=Nat.eq_of_beq_eq_true hn;cases hk:GS env with
  |false=>rw[hk] at h;cases h
  |true =>
   rw[hk,cond_true] at h;obtain⟨e1,he1,h⟩:=L5 (EC hk) h;obtain⟨j1,env1,e1',σ1,s1,k1,r1,l1,y1,x1⟩:=hB a he1 hs h;cases j1 with
   |some q=>cases x1
   |none =>
    obtain⟨st1,pe1,env1',ps1,a1,b1,hl1,x1⟩:=NI y1 x1;obtain⟨rfl,rfl,x1⟩:=ED x1;have hid:id<σ.length:=(List.getElem?_eq_some_iff.1 hl).1;obtain⟨st0,pe0,q0⟩:=k1.loops id _ _ _ _ _ _ hid hl1;rw[hl] at q0;cases q0;obtain⟨j2,env2,e2,σ2,s2,k2,r2,l2,y2,x2⟩:=hB b l1 (y1.set hl1 _) x1;obtain⟨st2,pe2,env2',ps2,a2,b2,hl2,x2⟩:=NI y2 x2;obtain⟨rfl,rfl,x2⟩:=TJ x2;have kb:KeepS σ1 (σ1.set id (.loop .busy none env ps a b)) id:=.setLoop hl1;have hid1:id<σ1.length:=(List.getElem?_eq_some_iff.1 hl1).1;obtain⟨st1,pe1,q1⟩:=k2.loops id _ _ _ _ _ _ (by simpa using hid1) hl2;rw[List.getElem?_set_self hid1] at q1;cases q1;have kk:∀ st pe,KeepS σ (σ2.set id (.loop st pe env ps a b)) 0:=fun st pe=>qC (qC (qC k1 (JQ kb)) k2) (JQ (KeepS.setLoop (st:=st) (pe:=pe) hl2))
    have fin:∀ Q:Out->Prop,Q ⟨none,[],σ2.set id (.loop (if j2=none then .ready else .done) j2 env ps a b),.bool (decide (j2=none))⟩->Run T (.callv (.yield id) args σ) Q:=fun Q hq =>
     .round hl hn' r1 (fun o ho=>by subst ho;exact⟨rfl,hl1⟩) (fun o ho=>by subst ho;exact r2) fun o ho=>by subst ho;exact⟨hl2,hq⟩
    cases j2 with
    |none =>
     have x3:some (AV.bool true,s2.set id (.loop .ready none env ps a b))=some (v,s'):=x2;cases x3;exact⟨_,y2.set hl2 _,kk _ _,fin _ ⟨rfl,rfl⟩⟩
    |some q =>
     have x3:some (AV.bool false,s2.set id (.loop .done (some q) env ps a b))=some (v,s'):=x2;cases x3;exact⟨_,y2.set hl2 _,kk _ _,fin _ ⟨rfl,rfl⟩⟩
theorem TT{N:FuncId->Bool}{B:Bdy}(hB:BOk T B):xP T (N4 T N B):=by
 intro f args σ s v s' hs h;unfold N4 at h;rw[DV] at h;split at h
 ·rename_i g first cap
  rw[sX,sX] at h;obtain⟨σ',q,k,r⟩:=JZ hB _ _ _ _ _ _ hs h;exact⟨σ',q,k,.callf r⟩
 ·rw[GA] at h;split at h
  ·exact TU hB hs h
  ·cases h
theorem DM{N:FuncId->Bool}:∀ k,BOk T (XD T N k)
 |0=>fun c env e σ s K r h hs hr=>by cases hr
 |k+1=>fun c env e σ s K r h hs hr=>ZR (TT (DM k)) (JZ (DM k)) c h hs hr
end Go.Am.Ex
noncomputable section
namespace Go.Am
end Go.Am
namespace Go.Am.Ex
variable {T:FuncId->Option AFunc} {N:FuncId->Bool}
def XP(r:RR):Option AV:=Option.rec none (fun p=>Prod.rec (fun v s=>SS.rec (fun n _=>cond (Nat.beq n 0) (some v) none) s) p) r
theorem VA{r:RR}{v:AV}(h:XP r=some v):∃ t,r=some (v,.mk 0 t):=by
 cases r with
 |none=>cases h
 |some p =>
  obtain⟨w,n,t⟩:=p;have h':cond (Nat.beq n 0) (some w) none=some v:=h;cases hn:Nat.beq n 0 with
  |false=>rw[hn] at h';cases h'
  |true =>
   rw[hn] at h';cases h';have:=Nat.eq_of_beq_eq_true hn;subst this;exact⟨t,rfl⟩
def Z9(T:FuncId->Option AFunc)(N:FuncId->Bool)(k:Nat)(f:FuncId)(args:List AV):Option AV :=
 cond (wE args) (eS none (T f) fun af=>AFunc.rec (fun n rs b=>cond (cond (Nat.ble (oX args) 255) (Nat.ble (oX args) n) false) (XP (XD T N k b (nU args 0) SS.new (aEV rs))) none) af) none
theorem aCA{k:Nat}{f:FuncId}{args:List AV}{v w:AV}(h:Z9 T N k f args=some v)(hw:w=v\/w=clr v)(σ:St):Run T (.call f args σ) fun o=>o.v=w/\o.σ=σ:=by
 unfold Z9 at h;cases hd:wE args with
 |false=>rw[hd] at h;cases h
 |true =>
  rw[hd,cond_true,cW] at h;split at h
  ·rename_i af haf;obtain⟨n,rs,b⟩:=af;have h:cond (cond (Nat.ble (oX args) 255) (Nat.ble (oX args) n) false) (XP (XD T N k b (nU args 0) SS.new (aEV rs))) none=some v:=h;rw[jE] at h;cases h1:Nat.ble args.length 255 with
   |false=>rw[h1] at h;cases h
   |true =>
    cases h2:Nat.ble args.length n with
    |false=>rw[h1,h2] at h;cases h
    |true =>
     rw[h1,h2] at h;simp only[cond_true] at h;have hl:args.length<=n:=Nat.le_of_ble_eq_true h2;have hL:lX (eP 0 args) (nU args 0):=tM (by have:=Nat.le_of_ble_eq_true h1;omega);obtain⟨t,hr⟩:=VA h;obtain⟨j,env2,e2,σ2,s2,k2,r2,l2,y2,x2⟩:=DM k b hL dG.new hr;obtain⟨hj,h4⟩:=H1 x2;rw[cW,H9 l2,CH y2] at h4;split at h4
     ·rename_i u hu;rw[cW] at h4;split at h4
      ·rename_i u' hu';simp only[Option.some.injEq,Prod.mk.injEq] at h4;obtain⟨rfl,_⟩:=h4;refine .frame (datAs_ok _ hd) (.inl rfl) (R:=fun o=>o.v=w/\o.σ=[]) (.call haf hl r2 fun o ho=>?_) fun o ho=>⟨ho.2,ho.1,rfl⟩
       subst ho;exact⟨hj,u,hu,.inr ⟨20,u',w,ZC hu',hw,fun i hi=>absurd hi (Nat.not_lt_zero _),Nat.zero_le _,rfl,rfl⟩⟩
      ·simp only[Option.some.injEq,Prod.mk.injEq,SS.mk.injEq] at h4;omega
     ·cases h4
  ·cases h
theorem TE{k:Nat}{f:FuncId}{args:List AV}{v:AV}(h:Z9 T N k f args=some v):cZ T f args (clr v):=fun σ=>aCA h (.inr rfl) σ
end Go.Am.Ex
set_option maxRecDepth 100000
namespace Go.Am.Room.Tu
open Ex
def np(f:FuncId):Bool:=cond (Nat.beq f 143) true (cond (Nat.beq f 288) true (Nat.beq f 275))
theorem EN{k:Nat}{f:FuncId}{args:List AV}{w:AV}(h:(Z9 T np k f args).map clr=some w):cZ T f args w:=by
 cases hr:Z9 T np k f args with
 |none=>rw[hr] at h;cases h
 |some v =>
  rw[hr] at h;injection h with h
  subst h;exact TE hr
theorem aJO:cZ T 131 [.int .i64 (-1)] (i9 (exC [])):=EN (k:=60) (by kernel_rfl)
theorem aKR:cZ T 131 [.int .i64 3] (i9 (exC [⟨0,3,false⟩])):=EN (k:=60) (by kernel_rfl)
theorem aKO:cZ T 131 [.int .i64 4] (i9 (exC [⟨0,4,false⟩])):=EN (k:=60) (by kernel_rfl)
theorem aEF:cZ T 134 [i9 (exC []),.int .i64 1,.int .i64 1] (.tuple [.int .i64 0,.int .i64 2]):=EN (k:=60) (by kernel_rfl)
theorem aNO:cZ T 132 [i9 (exC []),.int .i64 3] (.tuple [ints [1,2],.int .i64 0]):=EN (k:=60) (by kernel_rfl)
theorem aI6:cZ T 133 [i9 (exC []),.int .i64 0] (.tuple [ints [0],.int .i64 0]):=EN (k:=60) (by kernel_rfl)
end Go.Am.Room.Tu
namespace Go.Am.Room.Tu
open Ex
theorem aHW:cZ T 134 [i9 (exC []),.int .i64 0,.int .i64 1] (.tuple [.int .i64 1,.int .i64 0]):=EN (k:=60) (by kernel_rfl)
theorem aTC:cZ T 135 [i9 (exC []),eM ⟨8,8⟩,.int .i64 1,.int .i64 5] (.tuple [ints [1],.int .i64 0]):=EN (k:=60) (by kernel_rfl)
theorem aTP:cZ T 137 [i9 (exC []),.int .i64 0,.int .i64 4] (.tuple [ints [0],.int .i64 0]):=EN (k:=60) (by kernel_rfl)
theorem aHT:cZ T 138 [i9 (exC [⟨0,4,false⟩])] (.tuple [ints [0],.int .i64 0]):=EN (k:=60) (by kernel_rfl)
end Go.Am.Room.Tu
set_option maxRecDepth 8000
namespace Go.Am.Room.Tu
def dR:=zz @aK (zz @gJ (zz @fB (zz @fA (zz @dA (@List.length_append.{0})))))
theorem dF(l:List Seen)(hl:l.length<=4):Fits (exC l):=⟨by simp[exC],by simp[exC],by simp[exC],by simp[exC];omega⟩
theorem FO(c:Car):mQ (aY c):=aD (gE _) (aD (aM _ _) (aD (eC vG _) (aD (eC uP _) (aD (eC qR _) cM))))
instance (c:Car):Dats (aY c):=⟨FO c⟩
theorem iW(c:Car)(σ:St)(m d:Nat):bT σ m d (aY c)=some (aY c):=gQ (FO c) σ m d
theorem cV(c:Car):(aY c).length=5:=rfl
theorem bY(c:Car):(aY c).take 5=aY c:=rfl
theorem bX(c:Car):(aY c).drop 5=[]:=rfl
theorem bZ(c:Car):aZ (aY c)=true:=by simp[aZ,aY,AV.cell]
set_option maxHeartbeats 4000000 in
theorem awake_ok:cZ T 31 [] (.bool true):=by
 refine aX (af:=a31) rfl (by simp[a31]) cM ?_;have t1:=pturns_ok (exC []) 0 (dF _ (by simp));have t2:=pturns_ok (exC []) 1 (dF _ (by simp));have t3:=pturns_ok (exC []) 2 (dF _ (by simp));have t4:=pturns_ok (exC [⟨0,3,false⟩]) 1 (dF _ (by simp));have t5:=pturns_ok (exC [⟨0,4,false⟩]) 0 (dF _ (by simp));rw[x1] at t1;rw[x2] at t2;rw[x3] at t3;rw[x4] at t4;rw[x5] at t5;have c0:=aJO;have c3:=aKR;have c4:=aKO;have s1:=aEF;have s2:=aNO;have s3:=aI6;have s4:=aHW;have s5:=aTC;have s6:=aTP;have s7:=aHT;simp only[nS,pT] at c0 c3 c4 s1 s2 s3 s4 s5 s6 s7 t1 t2 t3 t4 t5
 (repeat (first|simp only[↓QA,QB,seval,dR,iW,cV,bY,bX,bZ,a31]|refine rd0 rfl ?_))
 ((first|refine aC (c0) rfl dd ?_|refine aF (c0) rfl dd ?_);(repeat (first|simp only[↓QA,QB,seval,dR,iW,cV,bY,bX,bZ]|refine rd0 rfl ?_)))
 ((first|refine aC (c3) rfl dd ?_|refine aF (c3) rfl dd ?_);(repeat (first|simp only[↓QA,QB,seval,dR,iW,cV,bY,bX,bZ]|refine rd0 rfl ?_)))
 ((first|refine aC (c4) rfl dd ?_|refine aF (c4) rfl dd ?_);(repeat (first|simp only[↓QA,QB,seval,dR,iW,cV,bY,bX,bZ]|refine rd0 rfl ?_)))
 ((first|refine aC (t1) rfl dd ?_|refine aF (t1) rfl dd ?_);(repeat (first|simp only[↓QA,QB,seval,dR,iW,cV,bY,bX,bZ]|refine rd0 rfl ?_)))
 ((first|refine aC (t2) rfl dd ?_|refine aF (t2) rfl dd ?_);(repeat (first|simp only[↓QA,QB,seval,dR,iW,cV,bY,bX,bZ]|refine rd0 rfl ?_)))
 ((first|refine aC (t3) rfl dd ?_|refine aF (t3) rfl dd ?_);(repeat (first|simp only[↓QA,QB,seval,dR,iW,cV,bY,bX,bZ]|refine rd0 rfl ?_)))
 ((first|refine aC (t4) rfl dd ?_|refine aF (t4) rfl dd ?_);(repeat (first|simp only[↓QA,QB,seval,dR,iW,cV,bY,bX,bZ]|refine rd0 rfl ?_)))
 ((first|refine aC (s2) rfl dd ?_|refine aF (s2) rfl dd ?_);(repeat (first|simp only[↓QA,QB,seval,dR,iW,cV,bY,bX,bZ]|refine rd0 rfl ?_)))
 ((first|refine aC (s3) rfl dd ?_|refine aF (s3) rfl dd ?_);(repeat (first|simp only[↓QA,QB,seval,dR,iW,cV,bY,bX,bZ]|refine rd0 rfl ?_)))
 ((first|refine aC (s4) rfl dd ?_|refine aF (s4) rfl dd ?_);(repeat (first|simp only[↓QA,QB,seval,dR,iW,cV,bY,bX,bZ]|refine rd0 rfl ?_)))
 ((first|refine aC (dW 8 8) rfl dd ?_|refine aF (dW 8 8) rfl dd ?_);(repeat (first|simp only[↓QA,QB,seval,dR,iW,cV,bY,bX,bZ]|refine rd0 rfl ?_)))
 ((first|refine aC (s5) rfl dd ?_|refine aF (s5) rfl dd ?_);(repeat (first|simp only[↓QA,QB,seval,dR,iW,cV,bY,bX,bZ]|refine rd0 rfl ?_)))
 ((first|refine aC (s6) rfl dd ?_|refine aF (s6) rfl dd ?_);(repeat (first|simp only[↓QA,QB,seval,dR,iW,cV,bY,bX,bZ]|refine rd0 rfl ?_)))
 ((first|refine aC (s7) rfl dd ?_|refine aF (s7) rfl dd ?_);(repeat (first|simp only[↓QA,QB,seval,dR,iW,cV,bY,bX,bZ]|refine rd0 rfl ?_)))
 ((first|refine aC (t5) rfl dd ?_|refine aF (t5) rfl dd ?_);(repeat (first|simp only[↓QA,QB,seval,dR,iW,cV,bY,bX,bZ]|refine rd0 rfl ?_)))
 ((first|refine aC (s1) rfl dd ?_|refine aF (s1) rfl dd ?_);(repeat (first|simp only[↓QA,QB,seval,dR,iW,cV,bY,bX,bZ]|refine rd0 rfl ?_)))
 ((first|refine aC (dW 2 4) rfl dd ?_|refine aF (dW 2 4) rfl dd ?_);(repeat (first|simp only[↓QA,QB,seval,dR,iW,cV,bY,bX,bZ]|refine rd0 rfl ?_)))
 ((first|refine aC (dW 4 6) rfl dd ?_|refine aF (dW 4 6) rfl dd ?_);(repeat (first|simp only[↓QA,QB,seval,dR,iW,cV,bY,bX,bZ]|refine rd0 rfl ?_)))
 ((first|refine aC (dW 6 6) rfl dd ?_|refine aF (dW 6 6) rfl dd ?_);(repeat (first|simp only[↓QA,QB,seval,dR,iW,cV,bY,bX,bZ]|refine rd0 rfl ?_)))
 ((first|refine bC (fF [1,2] [1,2] (by simp) (by simp)) (by simp[clr,clrs,ints]) (by simp[okV,okVs]) ?_|refine iT (fF [1,2] [1,2] (by simp) (by simp)) (by simp[clr,clrs,ints]) (by simp[okV,okVs]) ?_);(repeat (first|simp only[↓QA,QB,seval,dR,iW,cV,bY,bX,bZ,eq_self]|refine rd0 rfl ?_)))
 ((first|refine bC (fF [0] [0] (by simp) (by simp)) (by simp[clr,clrs,ints]) (by simp[okV,okVs]) ?_|refine iT (fF [0] [0] (by simp) (by simp)) (by simp[clr,clrs,ints]) (by simp[okV,okVs]) ?_);(repeat (first|simp only[↓QA,QB,seval,dR,iW,cV,bY,bX,bZ,eq_self]|refine rd0 rfl ?_)))
 ((first|refine bC (fF [1] [1] (by simp) (by simp)) (by simp[clr,clrs,ints]) (by simp[okV,okVs]) ?_|refine iT (fF [1] [1] (by simp) (by simp)) (by simp[clr,clrs,ints]) (by simp[okV,okVs]) ?_);(repeat (first|simp only[↓QA,QB,seval,dR,iW,cV,bY,bX,bZ,eq_self]|refine rd0 rfl ?_)))
 ((first|refine bC (fF [0] [0] (by simp) (by simp)) (by simp[clr,clrs,ints]) (by simp[okV,okVs]) ?_|refine iT (fF [0] [0] (by simp) (by simp)) (by simp[clr,clrs,ints]) (by simp[okV,okVs]) ?_);(repeat (first|simp only[↓QA,QB,seval,dR,iW,cV,bY,bX,bZ,eq_self]|refine rd0 rfl ?_)))
 ((first|refine bC (fF [0] [0] (by simp) (by simp)) (by simp[clr,clrs,ints]) (by simp[okV,okVs]) ?_|refine iT (fF [0] [0] (by simp) (by simp)) (by simp[clr,clrs,ints]) (by simp[okV,okVs]) ?_);(repeat (first|simp only[↓QA,QB,seval,dR,iW,cV,bY,bX,bZ,eq_self]|refine rd0 rfl ?_)))
end Go.Am.Room.Tu
namespace Go.Am.Room.Tu
def yJ:=zz @aK (@List.length_append.{0})
theorem number_ok(l:List Int)(n:Nat)(h:Bytes l)(hn:n<9223372036854775808):cZ T 17 [u8s l,.int .i64 n] (.int .i64 (turnOf l n)):=by
 refine aX (af:=a17) rfl (by simp[a17]) (aD (yP l) (aD (aM _ _) cM)) ?_;have hl:=h.2;try simp only[↓QA,QB,seval,yJ,a17,u8s]
 refine aJ (fun h0=>?_) fun h0=>?_
 ·have h0':l.length=0:=by simp at h0;simp[h0]
  try simp only[↓QA,QB,seval,yJ,turnOf,h0']
 ·have h0':l.length≠0:=by intro e;rw[e] at h0;simp at h0
  have hlt:n%l.length<l.length:=Nat.mod_lt _ (by omega);have hb:=h.1 _ (List.getElem_mem hlt);have hm:((n:Int).tmod (l.length:Int))=((n%l.length:Nat):Int):=by rw[Int.tmod_eq_emod_of_nonneg (by omega)];norm_cast
  have hw:IntKind.i64.wrap l[n%l.length]=l[n%l.length]:=bD ⟨by omega,by omega⟩;try simp only[↓QA,QB,seval,yJ,FN _ _ _ (show ((l.length:Nat):Int)≠0 by omega),hm,hlt,hw]
  simp[turnOf,h0',hlt]
def fromOf(s:Span)(n:Int):Int:=s.lo+n.tmod (s.hi-s.lo+1)
theorem from_in{s:Span}{n:Int}(hs:s.lo<=s.hi)(hn:0<=n):s.lo<=fromOf s n/\fromOf s n<=s.hi:=by
 have h1:=Int.tmod_nonneg (s.hi-s.lo+1) hn;have h2:=Int.tmod_lt_of_pos n (show 0<s.hi-s.lo+1 by omega);simp only[fromOf];omega
theorem from_ok(s:Span)(n:Int)(h0:0<=s.lo)(h1:s.lo<=s.hi)(h2:s.hi<1000000)(hn:0<=n)(hn2:n<9223372036854775808):cZ T 19 [eM s,.int .i64 n] (.int .i64 (fromOf s n)):=by
 refine aX (af:=a19) rfl (by simp[a19]) dd ?_;have hin:=from_in h1 hn;have w1:IntKind.i64.wrap (s.hi-s.lo)=s.hi-s.lo:=bD ⟨by omega,by omega⟩;have w2:IntKind.i64.wrap (s.hi-s.lo+1)=s.hi-s.lo+1:=bD ⟨by omega,by omega⟩;have w3:IntKind.i64.wrap (s.lo+n.tmod (s.hi-s.lo+1))=s.lo+n.tmod (s.hi-s.lo+1):=bD ⟨by simp only[fromOf] at hin;omega,by simp only[fromOf] at hin;omega⟩
 (repeat (first|simp only[↓QA,QB,seval,yJ,a19,w1,w2,FN _ _ _ (show (s.hi-s.lo+1:Int)≠0 by omega),w3,fromOf]|refine rd0 rfl ?_))
theorem nat_rem{a:Int}(ha:0<=a){n:Nat}(hn:0<n):∃ j:Nat,a.tmod (n:Int)=(j:Int)/\j<n:=by
 obtain⟨k,rfl⟩:∃ k:Nat,a=k:=⟨a.toNat,by omega⟩;refine⟨k%n,?_,Nat.mod_lt _ hn⟩;rw[Int.tmod_eq_emod_of_nonneg (by omega)];norm_cast
theorem warmth_ok(n:Int)(h:0<=n/\n<=1000):cZ T 34 [.int .i64 n] (.int .i64 (n/14)):=by
 refine aX (af:=a34) rfl (by simp[a34]) dd ?_;have e:n.tdiv 14=n/14:=Int.tdiv_eq_ediv_of_nonneg (by omega);have hw:IntKind.i64.wrap (n/14)=n/14:=bD ⟨by omega,by omega⟩;try simp only[↓QA,QB,seval,yJ,a34,aLY .i64 n 14 (by omega),e,hw]
end Go.Am.Room.Tu
set_option maxRecDepth 4000
namespace Go.Am.Room.Ho
def aR:=zz @encShip_eq (zz @aL (zz @encHold_eq (zz @aW (zz @aK (zz @bF (@bE))))))
def enc3(x:Int×Int×Int):AV:=.tuple [.int .i64 x.1,.int .i64 x.2.1,.int .i64 x.2.2]
theorem vU(s:Ship):cZ T 120 [encShip s] (.int .i64 s.heat.length):=by
 refine aX (af:=aAW) rfl (by simp[aAW]) dd ?_;try simp only[↓QA,QB,seval,aR,aAW]
theorem nT(n:Int):cZ T 119 [.int .i64 n] (.bool (fM n)):=by
 refine aX (af:=W6) rfl (by simp[W6]) dd ?_;try simp only[↓QA,QB,seval,aR,W6]
 (refine aC (kJ n 0 80) rfl dd ?_;try simp only[↓QA,QB,seval,aR,fM])
theorem ZG(h:Hold):cZ T 121 [encHold h] (.int .i64 (dO h)):=by
 refine aX (af:=YC) rfl (by simp[YC]) dd ?_
 (repeat (first|simp only[↓QA,QB,seval,aR,YC]|refine rd0 rfl ?_))
 ((first|refine aC (xL h.start 0 80) rfl dd ?_|refine aF (xL h.start 0 80) rfl dd ?_);(repeat (first|simp only[↓QA,QB,seval,aR]|refine rd0 rfl ?_)))
 ((first|refine aC (xL h.keep 0 80) rfl dd ?_|refine aF (xL h.keep 0 80) rfl dd ?_);(repeat (first|simp only[↓QA,QB,seval,aR]|refine rd0 rfl ?_)))
 cases h1:(j9 h.start 0 80==7)
 ·have h1':j9 h.start 0 80≠7:=by simpa using h1
  (repeat (first|simp only[↓QA,QB,seval,aR,h1]|refine rd0 rfl ?_))
  cases h2:(j9 h.keep 0 80==7)
  ·have h2':j9 h.keep 0 80≠7:=by simpa using h2
   (repeat (first|simp only[↓QA,QB,seval,aR,h2]|refine rd0 rfl ?_))
   ((first|refine aC (kJ h.duct 0 2) rfl dd ?_|refine aF (kJ h.duct 0 2) rfl dd ?_);(repeat (first|simp only[↓QA,QB,seval,aR]|refine rd0 rfl ?_)))
   cases h3:inR h.duct 0 2
   ·(repeat (first|simp only[↓QA,QB,seval,aR]|refine rd0 rfl ?_))
    simp[dO,h3]
   ·(repeat (first|simp only[↓QA,QB,seval,aR]|refine rd0 rfl ?_))
    cases h4:(j9 h.start 0 80==0)
    ·have h4':j9 h.start 0 80≠0:=by simpa using h4
     (repeat (first|simp only[↓QA,QB,seval,aR,h4]|refine rd0 rfl ?_))
     simp[dO,h1',h2',h3,h4']
    ·have h4':j9 h.start 0 80=0:=by simpa using h4
     (repeat (first|simp only[↓QA,QB,seval,aR,h4]|refine rd0 rfl ?_))
     simp[dO,h2',h3,h4']
  ·have h2':j9 h.keep 0 80=7:=by simpa using h2
   (repeat (first|simp only[↓QA,QB,seval,aR,h2]|refine rd0 rfl ?_))
   simp[dO,h2']
 ·have h1':j9 h.start 0 80=7:=by simpa using h1
  (repeat (first|simp only[↓QA,QB,seval,aR,h1]|refine rd0 rfl ?_))
  simp[dO,h1']
theorem refcheck_ok(s:Ship)(h:Fits s):cZ T 28 [encShip s] (enc3 (check s)):=by
 refine aX (af:=a28) rfl (by simp[a28]) dd ?_;have hfh:=h.heat
 have hfo:=h.holds;have hfl:=h.log
 (repeat (first|simp only[↓QA,QB,seval,aR,a28]|refine rd0 rfl ?_))
 ((first|refine aC (nT s.cold) rfl dd ?_|refine aF (nT s.cold) rfl dd ?_);(repeat (first|simp only[↓QA,QB,seval,aR]|refine rd0 rfl ?_)))
 cases h1:fM s.cold
 ·(repeat (first|simp only[↓QA,QB,seval,aR]|refine rd0 rfl ?_))
  simp[check,h1,enc3]
 ·(repeat (first|simp only[↓QA,QB,seval,aR]|refine rd0 rfl ?_))
  ((first|refine aC (kJ s.power 1 9) rfl dd ?_|refine aF (kJ s.power 1 9) rfl dd ?_);(repeat (first|simp only[↓QA,QB,seval,aR]|refine rd0 rfl ?_)))
  cases h2:inR s.power 1 9
  ·(repeat (first|simp only[↓QA,QB,seval,aR]|refine rd0 rfl ?_))
   simp[check,h2,enc3]
  ·(repeat (first|simp only[↓QA,QB,seval,aR]|refine rd0 rfl ?_))
   ((first|refine aC (kJ s.warm 0 5) rfl dd ?_|refine aF (kJ s.warm 0 5) rfl dd ?_);(repeat (first|simp only[↓QA,QB,seval,aR]|refine rd0 rfl ?_)))
   cases h3:inR s.warm 0 5
   ·(repeat (first|simp only[↓QA,QB,seval,aR]|refine rd0 rfl ?_))
    simp[check,h3,enc3]
   ·have hc:check s=fX s:=by simp[check,h1,h2,h3]
    rw[hc]
    (repeat (first|simp only[↓QA,QB,seval,aR]|refine rd0 rfl ?_))
    ((first|refine aC (kJ s.heat.length 1 6) rfl dd ?_|refine aF (kJ s.heat.length 1 6) rfl dd ?_);(repeat (first|simp only[↓QA,QB,seval,aR]|refine rd0 rfl ?_)))
    cases h5:inR s.heat.length 1 6
    ·(repeat (first|simp only[↓QA,QB,seval,aR]|refine rd0 rfl ?_))
     simp[fX,h5,enc3]
    ·have hc:fX s=match aO jV s.heat 0 with|some (i,e)=>(2,(i:Int),e)|none=>gC s:=by simp only[fX,h5,Bool.true_eq_false,if_false];rfl
     rw[hc]
     (repeat (first|simp only[↓QA,QB,seval,aR]|refine rd0 rfl ?_))
     refine dQ (S:=Nat) 0 (fun k=>k<=s.heat.length/\aO jV (s.heat.drop k) k=aO jV s.heat 0) (fun k=>s.heat.length-k)
      (fun k=>[(1,.ptr 0 0),(5,.int .i64 k)]) (fun _=>[.cells (shipCells s)]) ⟨Nat.zero_le _,by simp⟩ (by simp[shipCells,ints]) ?_ fun k hk=>?_
     ·try simp only[aB,QE,seval,aR]
      try simp
     ·obtain⟨hk,hb⟩:=hk
      (repeat (first|simp only[↓QA,QB,seval,aR,aFV]|refine rd0 rfl ?_))
      refine aJ (fun hd=>?_) fun hd=>?_
      ·have hk1:k<s.heat.length:=by simpa using hd
       rw[dP hk1] at hb;have hw:=dB hk1 hfh
       (repeat (first|simp only[↓QA,QB,seval,aR,hk1]|refine rd0 rfl ?_))
       ((first|refine aC (nT s.heat[k]) rfl dd ?_|refine aF (nT s.heat[k]) rfl dd ?_);(repeat (first|simp only[↓QA,QB,seval,aR,hk1]|refine rd0 rfl ?_)))
       have hre:jV k s.heat[k]=if fM s.heat[k] then 0 else 7:=rfl
       rw[hre] at hb;cases hi:fM s.heat[k]
       ·(repeat (first|simp only[↓QA,QB,seval,aR,hk1]|refine rd0 rfl ?_))
        rw[<-hb,hi];rfl
       ·(repeat (first|simp only[↓QA,QB,seval,aR,hk1,hw]|refine rd0 rfl ?_))
        refine⟨k+1,⟨by omega,by rw[<-hb,hi];rfl⟩,by omega,?_⟩;try simp only[aB,QE,seval,aR,hw]
        try simp
      ·have hk1:k=s.heat.length:=by simp at hd;omega
       rw[eN hk1] at hb;rw[<-hb]
       (repeat (first|simp only[↓QA,QB,seval,aR]|refine rd0 rfl ?_))
       ((first|refine aC (vU s) rfl dd ?_|refine aF (vU s) rfl dd ?_);(repeat (first|simp only[↓QA,QB,seval,aR]|refine rd0 rfl ?_)))
       ((first|refine aC (kJ s.frm 0 s.heat.length) rfl dd ?_|refine aF (kJ s.frm 0 s.heat.length) rfl dd ?_);(repeat (first|simp only[↓QA,QB,seval,aR]|refine rd0 rfl ?_)))
       cases h6:inR s.frm 0 s.heat.length
       ·(repeat (first|simp only[↓QA,QB,seval,aR]|refine rd0 rfl ?_))
        simp[gC,h6,enc3]
       ·have hc:gC s=fH s:=by simp[gC,h6]
        rw[hc]
        (repeat (first|simp only[↓QA,QB,seval,aR]|refine rd0 rfl ?_))
        ((first|refine aC (kJ s.holds.length 1 4) rfl dd ?_|refine aF (kJ s.holds.length 1 4) rfl dd ?_);(repeat (first|simp only[↓QA,QB,seval,aR]|refine rd0 rfl ?_)))
        cases h7:inR s.holds.length 1 4
        ·(repeat (first|simp only[↓QA,QB,seval,aR]|refine rd0 rfl ?_))
         simp[fH,h7,enc3]
        ·have hc:fH s=match aO (fun _=>dO) s.holds 0 with|some (i,e)=>(4,(i:Int),e)|none=>fI s:=by simp only[fH,h7,Bool.true_eq_false,if_false];rfl
         rw[hc]
         (repeat (first|simp only[↓QA,QB,seval,aR]|refine rd0 rfl ?_))
         refine dQ (S:=Nat) 0 (fun k=>k<=s.holds.length/\aO (fun _=>dO) (s.holds.drop k) k=aO (fun _=>dO) s.holds 0) (fun k=>s.holds.length-k)
          (fun k=>[(1,.ptr 0 0),(6,.int .i64 k)]) (fun _=>[.cells (shipCells s)]) ⟨Nat.zero_le _,by simp⟩ (by simp[shipCells,ints]) ?_ fun j hj=>?_
         ·try simp only[aB,QE,seval,aR]
          try simp
         ·obtain⟨hj,hbj⟩:=hj
          (repeat (first|simp only[↓QA,QB,seval,aR,aGO]|refine rd0 rfl ?_))
          refine aJ (fun hd2=>?_) fun hd2=>?_
          ·have hj1:j<s.holds.length:=by simpa using hd2
           rw[dP hj1] at hbj;have hw2:=dB hj1 hfo;have hho:=ZG s.holds[j];rw[encHold_eq] at hho
           (repeat (first|simp only[↓QA,QB,seval,aR,hj1]|refine rd0 rfl ?_))
           ((first|refine aC (hho) rfl dd ?_|refine aF (hho) rfl dd ?_);(repeat (first|simp only[↓QA,QB,seval,aR,hj1]|refine rd0 rfl ?_)))
           cases hi:(dO s.holds[j]==0)
           ·have hi':dO s.holds[j]≠0:=by simpa using hi
            rw[if_neg hi'] at hbj;rw[<-hbj]
            (repeat (first|simp only[↓QA,QB,seval,aR,hi,hj1]|refine rd0 rfl ?_))
            rfl
           ·have hi':dO s.holds[j]=0:=by simpa using hi
            rw[if_pos hi'] at hbj
            (repeat (first|simp only[↓QA,QB,seval,aR,hi,hj1,hw2]|refine rd0 rfl ?_))
            refine⟨j+1,⟨by omega,hbj⟩,by omega,?_⟩;try simp only[aB,QE,seval,aR,hw2]
            try simp
          ·have hj1:j=s.holds.length:=by simp at hd2;omega
           rw[eN hj1] at hbj;rw[<-hbj]
           (repeat (first|simp only[↓QA,QB,seval,aR]|refine rd0 rfl ?_))
           cases h8:decide (5<(s.log.length:Int))
           ·have h8':¬5<s.log.length:=by simp at h8;omega
            have hc:fI s=match aO (iQ s) s.log 0 with|some (i,e)=>(5,(i:Int),e)|none=>(0,0,0):=by simp only[fI,h8',if_false];rfl
            rw[hc]
            (repeat (first|simp only[↓QA,QB,seval,aR]|refine rd0 rfl ?_))
            refine dQ (S:=Nat) 0 (fun k=>k<=s.log.length/\aO (iQ s) (s.log.drop k) k=aO (iQ s) s.log 0) (fun k=>s.log.length-k)
             (fun k=>[(1,.ptr 0 0),(8,.int .i64 k)]) (fun _=>[.cells (shipCells s)]) ⟨Nat.zero_le _,by simp⟩ (by simp[shipCells,ints]) ?_ fun i hi=>?_
            ·try simp only[aB,QE,seval,aR]
             try simp
            ·obtain⟨hi,hbi⟩:=hi
             (repeat (first|simp only[↓QA,QB,seval,aR,aGM]|refine rd0 rfl ?_))
             refine aJ (fun hd3=>?_) fun hd3=>?_
             ·have hi1:i<s.log.length:=by simpa using hd3
              rw[dP hi1] at hbi;have hw3:=dB hi1 hfl;have hws:IntKind.i64.wrap ((s.holds.length:Int)-1)=(s.holds.length:Int)-1:=bD ⟨by omega,by omega⟩;have hle:iQ s i s.log[i]=if inR s.log[i].hold 0 ((s.holds.length:Int)-1)=false then 4 else if inR s.log[i].watch 0 s.heat.length&&fM s.log[i].marks then 0 else 7:=rfl
              rw[hle] at hbi
              (repeat (first|simp only[↓QA,QB,seval,aR,hi1,hws]|refine rd0 rfl ?_))
              ((first|refine aC (kJ s.log[i].hold 0 ((s.holds.length:Int)-1)) rfl dd ?_|refine aF (kJ s.log[i].hold 0 ((s.holds.length:Int)-1)) rfl dd ?_);(repeat (first|simp only[↓QA,QB,seval,aR,hi1]|refine rd0 rfl ?_)))
              cases ha:inR s.log[i].hold 0 ((s.holds.length:Int)-1)
              ·(repeat (first|simp only[↓QA,QB,seval,aR,hi1]|refine rd0 rfl ?_))
               rw[<-hbi,ha];rfl
              ·(repeat (first|simp only[↓QA,QB,seval,aR,hi1]|refine rd0 rfl ?_))
               ((first|refine aC (vU s) rfl dd ?_|refine aF (vU s) rfl dd ?_);(repeat (first|simp only[↓QA,QB,seval,aR,hi1]|refine rd0 rfl ?_)))
               ((first|refine aC (kJ s.log[i].watch 0 s.heat.length) rfl dd ?_|refine aF (kJ s.log[i].watch 0 s.heat.length) rfl dd ?_);(repeat (first|simp only[↓QA,QB,seval,aR,hi1]|refine rd0 rfl ?_)))
               cases hb2:inR s.log[i].watch 0 s.heat.length
               ·(repeat (first|simp only[↓QA,QB,seval,aR,hi1]|refine rd0 rfl ?_))
                rw[<-hbi,ha,hb2];rfl
               ·(repeat (first|simp only[↓QA,QB,seval,aR,hi1]|refine rd0 rfl ?_))
                ((first|refine aC (nT s.log[i].marks) rfl dd ?_|refine aF (nT s.log[i].marks) rfl dd ?_);(repeat (first|simp only[↓QA,QB,seval,aR,hi1]|refine rd0 rfl ?_)))
                cases hcm:fM s.log[i].marks
                ·(repeat (first|simp only[↓QA,QB,seval,aR,hi1]|refine rd0 rfl ?_))
                 rw[<-hbi,ha,hb2,hcm];rfl
                ·(repeat (first|simp only[↓QA,QB,seval,aR,hi1,hw3]|refine rd0 rfl ?_))
                 refine⟨i+1,⟨by omega,by rw[<-hbi,ha,hb2,hcm];rfl⟩,by omega,?_⟩;try simp only[aB,QE,seval,aR,hw3]
                 try simp
             ·have hi1:i=s.log.length:=by simp at hd3;omega
              rw[eN hi1] at hbi;rw[<-hbi]
              (repeat (first|simp only[↓QA,QB,seval,aR,enc3]|refine rd0 rfl ?_))
           ·have h8':5<s.log.length:=by simp at h8;omega
            (repeat (first|simp only[↓QA,QB,seval,aR]|refine rd0 rfl ?_))
            simp[fI,h8',enc3]
end Go.Am.Room.Ho
namespace Go.Am.Room.Ho
def aH:=zz @encShip_eq (zz @aL (zz @encHold_eq (zz @aW (zz @aK (zz @bF (@bE))))))
def fW{α:Type}(p:α->Bool):List α->Nat->Int
 |[],_=>-1
 |x::xs,k=>if p x then k else fW p xs (k+1)
theorem rB{α:Type}(p:α->Bool):∀ (l:List α) (k:Nat),decide (0<=fW p l k)=l.any p
 |[],k=>by simp[fW]
 |x::xs,k=>by
  cases h:p x
  ·simp[fW,h,rB p xs (k+1)]
  ·simp[fW,h]
theorem AC(σ:St)(f:AV)(l:List Int)(p:Int->Bool)(hl:l.length<9223372036854775808)(hk:n9 σ f)(h:∀ x∈l,gB T f [.int .i64 x] σ (.bool (p x))):gB T (.func 257 [] []) [ints l,f] σ (.int .i64 (fW p l 0)):=by
 refine dM (af:=EI) rfl (by simp[EI]) ?_;have hk0:=hk.nil;try simp only[↓QA,QB,seval,aH,EI]
 refine dQ (S:=Nat) 0 (fun k=>k<=l.length/\fW p (l.drop k) k=fW p l 0) (fun k=>l.length-k) (fun k=>[(0,ints l),(1,f),(7,.int .i64 l.length),(8,.int .i64 k)]) (fun _=>σ) ⟨Nat.zero_le _,by simp⟩ rfl ?_ fun k hk1=>?_
 ·try simp only[aB,QE,seval,aH]
  try simp
 ·obtain⟨hkl,hi⟩:=hk1;try simp only[↓QA,QB,seval,aH,IP]
  refine aJ (fun hd=>?_) fun hd=>?_
  ·have hlt:k<l.length:=by simpa using hd
   rw[List.drop_eq_getElem_cons hlt] at hi;simp only[fW] at hi;have hw:=dB hlt hl;try simp only[↓QA,QB,seval,aH,hlt]
   refine bJ (h l[k] (List.getElem_mem hlt)) ?_;try simp only[↓QA,QB,seval,aH]
   cases hp:p l[k]
   ·try simp only[↓QA,QB,seval,aH,hw]
    refine⟨k+1,⟨by omega,by rw[<-hi,hp];rfl⟩,by omega,?_⟩;try simp only[aB,QE,seval,aH,hw,hk0,Nat.le_refl]
   ·try simp only[↓QA,QB,seval,aH]
    refine cY [] (by first|rfl|simp) ?_;rw[<-hi,hp];try simp only[QS,QC,seval,aH]
  ·have hlt:k=l.length:=by simp at hd;omega
   try simp only[↓QA,QB,seval,aH]
   refine cY [] (by first|rfl|simp) ?_;rw[<-hi,hlt,List.drop_length];try simp only[QS,QC,seval,aH,fW]
theorem rV(σ:St)(f:AV)(l:List Int)(p:Int->Bool)(hl:l.length<9223372036854775808)(hk:n9 σ f)(h:∀ x∈l,gB T f [.int .i64 x] σ (.bool (p x))):gB T (.func 356 [] []) [ints l,f] σ (.bool (l.any p)):=by
 refine dM (af:=KQ) rfl (by simp[KQ]) ?_;try simp only[↓QA,QB,seval,aH,KQ]
 refine bJ (AC σ f l p hl hk h) ?_;try simp only[↓QA,QB,seval,aH]
 refine cY [] (by first|rfl|simp) ?_;rw[<-rB p l 0];try simp only[QS,QC,seval,aH]
def jX(lo hi n:Int):Bool:=decide (n<lo)||decide (hi<n)
theorem NS(lo hi n:Int):gB T (.func 404 [] [.ptr 0 0,.ptr 1 0]) [.int .i64 n] [.cells [.int .i64 lo],.cells [.int .i64 hi]] (.bool (jX lo hi n)):=by
 refine dM (af:=ZB) rfl (by simp[ZB]) ?_;try simp only[↓QA,QB,seval,aH,ZB]
 refine aJ (fun h=>?_) fun h=>?_
 all_goals
  try simp only[↓QA,QB,seval,aH,h]
  refine cY [] (by first|rfl|simp) ?_;try simp only[QS,QC,seval,aH,jX,h]
  try simp
def lL(lo hi:Int)(ns:List Int):Bool:=ns.any (jX lo hi)
theorem dI(lo hi:Int)(ns:List Int)(hl:ns.length<9223372036854775808):cZ T 285 [.int .i64 lo,.int .i64 hi,ints ns] (.bool (lL lo hi ns)):=by
 refine aX (af:=VB) rfl (by simp[VB]) dd ?_;try simp only[↓QA,QB,seval,aH,VB]
 refine bJ (rV _ _ ns (jX lo hi) hl (fun τ=>?_) fun x _=>NS lo hi x) ?_
 ·try simp only[QS,QC,seval,aH]
 ·try simp only[↓QA,QB,seval,aH,lL]
theorem iC(lo hi n:Int):lL lo hi [n] = !inR n lo hi:=by
 rw[Bool.eq_iff_iff];simp[lL,jX,inR]
theorem aE0(lo hi a b c d:Int):lL lo hi [a,b,c,d]=(!inR a lo hi||!inR b lo hi||!inR c lo hi||!inR d lo hi):=by
 rw[Bool.eq_iff_iff];simp[lL,jX,inR,or_assoc]
def aQ{α:Type}(dH most:Int)(of:Nat->α->Int)(l:List α):Int×Int:=if inR l.length dH most=false then (0,3) else match aO of l 0 with|some (i,e)=>(i,e)|none=>(0,0)
def jI(x:Int×Int):AV:=.tuple [.int .i64 x.1,.int .i64 x.2]
theorem IM(σ:St)(f:AV)(l:List Hold)(dH most:Int)(of:Nat->Hold->Int)(hl:l.length<9223372036854775808)(hk:n9 σ f)(h:∀ i (hi:i<l.length),gB T f [encHold l[i]] (σ++[.cells (encHold l[i]).cells]) (.int .i64 (of i l[i]))):gB T (.func 392 [] []) [.lit (l.map encHold) false none,.int .i64 dH,.int .i64 most,f] σ (jI (aQ dH most of l)):=by
 refine dM (af:=XB) rfl (by simp[XB]) ?_;have hk0:=hk.nil;have hk2:∀ τ,bN (σ++τ) σ.length 20 f=some f:=hk;try simp only[↓QA,QB,seval,aH,XB]
 (refine bC (dI dH most [(l.length:Int)] (by simp)) (by simp[clr,clrs,ints]) (by simp[okV,okVs]) ?_;try simp only[↓QA,QB,seval,aH,iC])
 cases h1:inR l.length dH most
 ·try simp only[↓QA,QB,seval,aH]
  refine cY [] (by first|rfl|simp) ?_;try simp only[QS,QC,seval,aH,jI,aQ,h1]
 ·try simp only[↓QA,QB,seval,aH]
  refine dQ (S:=Nat) 0 (fun k=>k<=l.length/\aO of (l.drop k) k=aO of l 0) (fun k=>l.length-k) (fun k=>[(3,f),(19,.lit (l.map encHold) false none),(20,.int .i64 l.length),(21,.int .i64 k)]) (fun _=>σ) ⟨Nat.zero_le _,by simp⟩ rfl ?_ fun k hk1=>?_
  ·try simp only[aB,QE,seval,aH]
   try simp
  ·obtain⟨hkl,hi⟩:=hk1;try simp only[↓QA,QB,seval,aH,X2]
   refine aJ (fun hd=>?_) fun hd=>?_
   ·have hlt:k<l.length:=by simpa using hd
    have hs:=h k hlt;rw[dP hlt] at hi;have hw:=dB hlt hl;try simp only[↓QA,QB,seval,aH,hlt] at hs
    try simp only[↓QA,QB,seval,aH,hlt]
    refine bJ hs ?_;try simp only[↓QA,QB,seval,aH]
    cases hp:(of k l[k]==0)
    ·have hp':of k l[k]≠0:=by simpa using hp
     rw[if_neg hp'] at hi;try simp only[↓QA,QB,seval,aH,hp]
     refine cY _ rfl ?_;try simp only[QS,QC,seval,aH,jI,aQ,h1,<-hi,reduceCtorEq]
    ·have hp':of k l[k]=0:=by simpa using hp
     rw[if_pos hp'] at hi;try simp only[↓QA,QB,seval,aH,hp,hw]
     refine⟨k+1,⟨by omega,hi⟩,by omega,?_⟩;try simp only[aB,QE,seval,aH,hw,hk0,hk2,Nat.le_refl,bF]
   ·have hlt:k=l.length:=by simp at hd;omega
    rw[eN hlt] at hi;try simp only[↓QA,QB,seval,aH]
    refine cY [] (by first|rfl|simp) ?_;try simp only[QS,QC,seval,aH,jI,aQ,h1,<-hi,reduceCtorEq]
theorem HH(σ:St)(f:AV)(l:List Line)(dH most:Int)(of:Nat->Line->Int)(hl:l.length<9223372036854775808)(hk:n9 σ f)(h:∀ i (hi:i<l.length),gB T f [eL l[i]] (σ++[.cells (eL l[i]).cells]) (.int .i64 (of i l[i]))):gB T (.func 394 [] []) [.lit (l.map eL) false none,.int .i64 dH,.int .i64 most,f] σ (jI (aQ dH most of l)):=by
 refine dM (af:=V0) rfl (by simp[V0]) ?_;have hk0:=hk.nil;have hk2:∀ τ,bN (σ++τ) σ.length 20 f=some f:=hk;try simp only[↓QA,QB,seval,aH,V0]
 (refine bC (dI dH most [(l.length:Int)] (by simp)) (by simp[clr,clrs,ints]) (by simp[okV,okVs]) ?_;try simp only[↓QA,QB,seval,aH,iC])
 cases h1:inR l.length dH most
 ·try simp only[↓QA,QB,seval,aH]
  refine cY [] (by first|rfl|simp) ?_;try simp only[QS,QC,seval,aH,jI,aQ,h1]
 ·try simp only[↓QA,QB,seval,aH]
  refine dQ (S:=Nat) 0 (fun k=>k<=l.length/\aO of (l.drop k) k=aO of l 0) (fun k=>l.length-k) (fun k=>[(3,f),(19,.lit (l.map eL) false none),(20,.int .i64 l.length),(21,.int .i64 k)]) (fun _=>σ) ⟨Nat.zero_le _,by simp⟩ rfl ?_ fun k hk1=>?_
  ·try simp only[aB,QE,seval,aH]
   try simp
  ·obtain⟨hkl,hi⟩:=hk1;try simp only[↓QA,QB,seval,aH,UJ]
   refine aJ (fun hd=>?_) fun hd=>?_
   ·have hlt:k<l.length:=by simpa using hd
    have hs:=h k hlt;rw[dP hlt] at hi;have hw:=dB hlt hl;try simp only[↓QA,QB,seval,aH,hlt] at hs
    try simp only[↓QA,QB,seval,aH,hlt]
    refine bJ hs ?_;try simp only[↓QA,QB,seval,aH]
    cases hp:(of k l[k]==0)
    ·have hp':of k l[k]≠0:=by simpa using hp
     rw[if_neg hp'] at hi;try simp only[↓QA,QB,seval,aH,hp]
     refine cY _ rfl ?_;try simp only[QS,QC,seval,aH,jI,aQ,h1,<-hi,reduceCtorEq]
    ·have hp':of k l[k]=0:=by simpa using hp
     rw[if_pos hp'] at hi;try simp only[↓QA,QB,seval,aH,hp,hw]
     refine⟨k+1,⟨by omega,hi⟩,by omega,?_⟩;try simp only[aB,QE,seval,aH,hw,hk0,hk2,Nat.le_refl,bE]
   ·have hlt:k=l.length:=by simp at hd;omega
    rw[eN hlt] at hi;try simp only[↓QA,QB,seval,aH]
    refine cY [] (by first|rfl|simp) ?_;try simp only[QS,QC,seval,aH,jI,aQ,h1,<-hi,reduceCtorEq]
theorem uX(σ:St)(f:AV)(l:List Int)(dH most:Int)(of:Nat->Int->Int)(hl:l.length<9223372036854775808)(hk:n9 σ f)(h:∀ i (hi:i<l.length),gB T f [.int .i64 l[i]] σ (.int .i64 (of i l[i]))):gB T (.func 390 [] []) [ints l,.int .i64 dH,.int .i64 most,f] σ (jI (aQ dH most of l)):=by
 refine dM (af:=UU) rfl (by simp[UU]) ?_;have hk0:=hk.nil;have hk2:∀ τ,bN (σ++τ) σ.length 20 f=some f:=hk;try simp only[↓QA,QB,seval,aH,UU]
 (refine bC (dI dH most [(l.length:Int)] (by simp)) (by simp[clr,clrs,ints]) (by simp[okV,okVs]) ?_;try simp only[↓QA,QB,seval,aH,iC])
 cases h1:inR l.length dH most
 ·try simp only[↓QA,QB,seval,aH]
  refine cY [] (by first|rfl|simp) ?_;try simp only[QS,QC,seval,aH,jI,aQ,h1]
 ·try simp only[↓QA,QB,seval,aH]
  refine dQ (S:=Nat) 0 (fun k=>k<=l.length/\aO of (l.drop k) k=aO of l 0) (fun k=>l.length-k) (fun k=>[(3,f),(19,ints l),(20,.int .i64 l.length),(21,.int .i64 k)]) (fun _=>σ) ⟨Nat.zero_le _,by simp⟩ rfl ?_ fun k hk1=>?_
  ·try simp only[aB,QE,seval,aH]
   try simp
  ·obtain⟨hkl,hi⟩:=hk1;try simp only[↓QA,QB,seval,aH,VG]
   refine aJ (fun hd=>?_) fun hd=>?_
   ·have hlt:k<l.length:=by simpa using hd
    have hs:=h k hlt;rw[dP hlt] at hi;have hw:=dB hlt hl;try simp only[↓QA,QB,seval,aH,hlt] at hs
    try simp only[↓QA,QB,seval,aH,hlt]
    refine bJ hs ?_;try simp only[↓QA,QB,seval,aH]
    cases hp:(of k l[k]==0)
    ·have hp':of k l[k]≠0:=by simpa using hp
     rw[if_neg hp'] at hi;try simp only[↓QA,QB,seval,aH,hp]
     refine cY [] (by first|rfl|simp) ?_;try simp only[QS,QC,seval,aH,jI,aQ,h1,<-hi,reduceCtorEq]
    ·have hp':of k l[k]=0:=by simpa using hp
     rw[if_pos hp'] at hi;try simp only[↓QA,QB,seval,aH,hp,hw]
     refine⟨k+1,⟨by omega,hi⟩,by omega,?_⟩;try simp only[aB,QE,seval,aH,hw,hk0,hk2,Nat.le_refl,uC]
   ·have hlt:k=l.length:=by simp at hd;omega
    rw[eN hlt] at hi;try simp only[↓QA,QB,seval,aH]
    refine cY [] (by first|rfl|simp) ?_;try simp only[QS,QC,seval,aH,jI,aQ,h1,<-hi,reduceCtorEq]
theorem NR(x:Hold):dO x=if (!inR x.start.lo 0 80||!inR x.start.hi 0 80||!inR x.keep.lo 0 80||!inR x.keep.hi 0 80)=true\/inR x.duct 0 2=false then 7 else if x.start.hi<x.start.lo\/x.keep.hi<x.keep.lo then 2 else 0:=by
 have key:∀ (a b c d e:Bool) (p q:Prop) [Decidable p] [Decidable q] (u v w:Int),u=(if (!a||!b)=true then 7 else if p then 2 else 0)->v=(if (!c||!d)=true then 7 else if q then 2 else 0)->w=(if u=7\/v=7\/e=false then 7 else if u≠0 then u else v) ->
   w=if (!a||!b||!c||!d)=true\/e=false then 7 else if p\/q then 2 else 0:=by
  intro a b c d e p q _ _ u v w hu hv hw;subst hw;subst hu;subst hv;by_cases hp:p<;>by_cases hq:q<;>cases a<;>cases b<;>cases c<;>cases d<;>cases e<;>simp[hp,hq]
 exact key (inR x.start.lo 0 80) (inR x.start.hi 0 80) (inR x.keep.lo 0 80) (inR x.keep.hi 0 80) (inR x.duct 0 2) (x.start.hi<x.start.lo) (x.keep.hi<x.keep.lo) (j9 x.start 0 80) (j9 x.keep 0 80) (dO x) rfl rfl rfl
theorem HA(n:Int)(σ:St):gB T (.func 391 [] []) [.int .i64 n] σ (.int .i64 (jV 0 n)):=by
 refine dM (af:=X3) rfl (by simp[X3]) ?_;try simp only[↓QA,QB,seval,aH,X3]
 (refine bC (dI 0 80 [n] (by simp)) (by simp[clr,clrs,ints]) (by simp[okV,okVs]) ?_;try simp only[↓QA,QB,seval,aH,iC])
 cases h1:inR n 0 80;all_goals
  try simp only[↓QA,QB,seval,aH]
  refine cY [] (by first|rfl|simp) ?_;try simp only[QS,QC,seval,aH,jV,fM,h1,reduceCtorEq]
  try rfl
theorem HD(x:Hold)(σ:St):gB T (.func 393 [] []) [encHold x] σ (.int .i64 (dO x)):=by
 refine dM (af:=VL) rfl (by simp[VL]) ?_;have fin:∀ (v:Int) (cs:List AV),v=dO x->EG (some (.int .i64 v)) σ (σ++[.cells cs]) (.int .i64 (dO x)):=fun v cs hv=>by
  refine cY [.cells cs] rfl ?_;rw[hv];try simp only[QS,QC,seval,aH]
 have he:=NR x;try simp only[↓QA,QB,seval,aH,VL,List.length_append]
 (refine bC (dI 0 80 [x.start.lo,x.start.hi,x.keep.lo,x.keep.hi] (by simp)) (by simp[clr,clrs,ints]) (by simp[okV,okVs]) ?_;try simp only[↓QA,QB,seval,aH,aE0])
 cases h1:(!inR x.start.lo 0 80||!inR x.start.hi 0 80||!inR x.keep.lo 0 80||!inR x.keep.hi 0 80)
 ·rw[h1] at he;try simp only[↓QA,QB,seval,aH,h1]
  (refine bC (dI 0 2 [x.duct] (by simp)) (by simp[clr,clrs,ints]) (by simp[okV,okVs]) ?_;try simp only[↓QA,QB,seval,aH,iC])
  cases h2:inR x.duct 0 2
  ·rw[h2] at he;try simp only[↓QA,QB,seval,aH]
   exact fin _ _ (by rw[he];simp)
  ·rw[h2] at he;try simp only[↓QA,QB,seval,aH]
   cases h3:decide (x.start.hi<x.start.lo)
   ·have h3':¬x.start.hi<x.start.lo:=by simpa using h3
    try simp only[↓QA,QB,seval,aH,h3]
    cases h4:decide (x.keep.hi<x.keep.lo)
    ·have h4':¬x.keep.hi<x.keep.lo:=by simpa using h4
     try simp only[↓QA,QB,seval,aH,h4]
     exact fin _ _ (by rw[he];simp[h3',h4'])
    ·have h4':x.keep.hi<x.keep.lo:=by simpa using h4
     try simp only[↓QA,QB,seval,aH,h4]
     exact fin _ _ (by rw[he];simp[h4'])
   ·have h3':x.start.hi<x.start.lo:=by simpa using h3
    try simp only[↓QA,QB,seval,aH,h3]
    exact fin _ _ (by rw[he];simp[h3'])
 ·rw[h1] at he;try simp only[↓QA,QB,seval,aH,h1]
  exact fin _ _ (by rw[he];simp)
theorem G5(s:Ship)(hf:Fits s)(x:Line):gB T (.func 395 [] [.ptr 0 0]) [eL x] [.cells (shipCells s),.cells (eL x).cells] (.int .i64 (iQ s 0 x)):=by
 refine dM (af:=VT) rfl (by simp[VT]) ?_;have hsz:=hf.holds;have hws:IntKind.i64.wrap ((s.holds.length:Int)-1)=(s.holds.length:Int)-1:=bD ⟨by omega,by omega⟩;try simp only[↓QA,QB,seval,aH,VT,hws]
 (refine bC (dI 0 ((s.holds.length:Int)-1) [x.hold] (by simp)) (by simp[clr,clrs,ints]) (by simp[okV,okVs]) ?_;try simp only[↓QA,QB,seval,aH,iC])
 cases h1:inR x.hold 0 ((s.holds.length:Int)-1)
 ·try simp only[↓QA,QB,seval,aH]
  refine cY _ rfl ?_;try simp only[QS,QC,seval,aH,iQ,fM,h1,reduceCtorEq,Bool.false_and,Bool.false_eq_true]
 ·try simp only[↓QA,QB,seval,aH]
  (refine bC (dI 0 (s.heat.length:Int) [x.watch] (by simp)) (by simp[clr,clrs,ints]) (by simp[okV,okVs]) ?_;try simp only[↓QA,QB,seval,aH,iC])
  cases h2:inR x.watch 0 s.heat.length
  ·try simp only[↓QA,QB,seval,aH]
   refine cY _ rfl ?_;try simp only[QS,QC,seval,aH,iQ,fM,h1,h2,reduceCtorEq,Bool.false_and,Bool.false_eq_true]
  ·try simp only[↓QA,QB,seval,aH]
   (refine bC (dI 0 80 [x.marks] (by simp)) (by simp[clr,clrs,ints]) (by simp[okV,okVs]) ?_;try simp only[↓QA,QB,seval,aH,iC])
   cases h3:inR x.marks 0 80;all_goals
    try simp only[↓QA,QB,seval,aH]
    refine cY _ rfl ?_;try simp only[QS,QC,seval,aH,iQ,fM,h1,h2,h3,reduceCtorEq,Bool.false_and,Bool.false_eq_true]
end Go.Am.Room.Ho
namespace Go.Am.Room.Ho
def cO:=zz @encShip_eq (zz @aL (zz @encHold_eq (zz @aW (zz @aK (zz @bF (@bE))))))
theorem tZ(s:Ship)(h:Fits s):cZ T 264 [encShip s] (enc3 (check s)):=by
 refine aX (af:=ZA) rfl (by simp[ZA]) dd ?_;have hfh:=h.heat
 have hfo:=h.holds;have hfl:=h.log;try simp only[↓QA,QB,seval,cO,ZA]
 (refine bC (dI 0 80 [s.cold] (by simp)) (by simp[clr,clrs,ints]) (by simp[okV,okVs]) ?_;try simp only[↓QA,QB,seval,cO,iC])
 cases h1:inR s.cold 0 80
 ·try simp only[↓QA,QB,seval,cO]
  simp[check,fM,h1,enc3]
 ·try simp only[↓QA,QB,seval,cO]
  (refine bC (dI 1 9 [s.power] (by simp)) (by simp[clr,clrs,ints]) (by simp[okV,okVs]) ?_;try simp only[↓QA,QB,seval,cO,iC])
  cases h2:inR s.power 1 9
  ·try simp only[↓QA,QB,seval,cO]
   simp[check,h2,enc3]
  ·try simp only[↓QA,QB,seval,cO]
   (refine bC (dI 0 5 [s.warm] (by simp)) (by simp[clr,clrs,ints]) (by simp[okV,okVs]) ?_;try simp only[↓QA,QB,seval,cO,iC])
   cases h3:inR s.warm 0 5
   ·try simp only[↓QA,QB,seval,cO]
    simp[check,h3,enc3]
   ·have hc:check s=fX s:=by simp[check,fM,h1,h2,h3]
    rw[hc];try simp only[↓QA,QB,seval,cO]
    have f1:=uX [.cells (shipCells s)] (.func 391 [] []) s.heat 1 6 jV hfh (fun τ=>by try simp only[QS,QC,seval,cO,List.length_append]) fun i hi=>HA s.heat[i] _
    have f2:=IM [.cells (shipCells s)] (.func 393 [] []) s.holds 1 4 (fun _=>dO) hfo (fun τ=>by try simp only[QS,QC,seval,cO,List.length_append]) fun i hi=>HD s.holds[i] _
    have f3:=HH [.cells (shipCells s)] (.func 395 [] [.ptr 0 0]) s.log 0 5 (iQ s) hfl (fun τ=>by try simp only[QS,QC,seval,cO,List.length_append]) fun i hi=>G5 s h s.log[i]
    try simp only[↓QA,QB,seval,cO] at f1 f2 f3
    refine bJ f1 ?_;try simp only[↓QA,QB,seval,cO,jI]
    cases h4:inR s.heat.length 1 6
    ·have e1:aQ 1 6 jV s.heat=(0,3):=by simp only[aQ,h4,if_true]
     have e2:fX s=(2,0,3):=by simp only[fX,h4,if_true]
     rw[e1,e2];try simp only[↓QA,QB,seval,cO,show ((3:Int)==0)=false from rfl,enc3]
    ·cases h5:aO jV s.heat 0 with
     |some p =>
      obtain⟨i,e⟩:=p;have hne:(e==0)=false:=by simpa using cQ h5
      have e1:aQ 1 6 jV s.heat=((i:Int),e):=by simp only[aQ,h4,h5];rfl
      have e2:fX s=(2,(i:Int),e):=by simp only[fX,h4,h5];rfl
      rw[e1,e2];try simp only[↓QA,QB,seval,cO,hne,enc3]
     |none =>
      have e1:aQ 1 6 jV s.heat=(0,0):=by simp only[aQ,h4,h5];rfl
      have e2:fX s=gC s:=by simp only[fX,h4,h5];rfl
      rw[e1,e2];try simp only[↓QA,QB,seval,cO,show ((0:Int)==0)=true from rfl]
      (refine bC (dI 0 (s.heat.length:Int) [s.frm] (by simp)) (by simp[clr,clrs,ints]) (by simp[okV,okVs]) ?_;try simp only[↓QA,QB,seval,cO,iC])
      cases h6:inR s.frm 0 s.heat.length
      ·try simp only[↓QA,QB,seval,cO]
       simp[gC,h6,enc3]
      ·have hc:gC s=fH s:=by simp[gC,h6]
       rw[hc];try simp only[↓QA,QB,seval,cO]
       refine bJ f2 ?_;try simp only[↓QA,QB,seval,cO,jI]
       cases h7:inR s.holds.length 1 4
       ·have e1:aQ 1 4 (fun _=>dO) s.holds=(0,3):=by simp only[aQ,h7,if_true]
        have e2:fH s=(4,0,3):=by simp only[fH,h7,if_true]
        rw[e1,e2];try simp only[↓QA,QB,seval,cO,show ((3:Int)==0)=false from rfl,enc3]
       ·cases h8:aO (fun _=>dO) s.holds 0 with
        |some p =>
         obtain⟨i,e⟩:=p;have hne:(e==0)=false:=by simpa using cQ h8
         have e1:aQ 1 4 (fun _=>dO) s.holds=((i:Int),e):=by simp only[aQ,h7,h8];rfl
         have e2:fH s=(4,(i:Int),e):=by simp only[fH,h7,h8];rfl
         rw[e1,e2];try simp only[↓QA,QB,seval,cO,hne,enc3]
        |none =>
         have e1:aQ 1 4 (fun _=>dO) s.holds=(0,0):=by simp only[aQ,h7,h8];rfl
         have e2:fH s=fI s:=by simp only[fH,h7,h8];rfl
         rw[e1,e2];try simp only[↓QA,QB,seval,cO,show ((0:Int)==0)=true from rfl]
         refine bJ f3 ?_;try simp only[↓QA,QB,seval,cO,jI]
         by_cases h9:5<s.log.length
         ·have hi:inR s.log.length 0 5=false:=by simp[inR];omega
          have e1:aQ 0 5 (iQ s) s.log=(0,3):=by simp only[aQ,hi,if_true]
          have e2:fI s=(5,0,3):=by simp only[fI,h9,if_true]
          rw[e1,e2];try simp only[↓QA,QB,seval,cO,show ((3:Int)==0)=false from rfl,enc3]
         ·have hi:inR s.log.length 0 5=true:=by simp[inR];omega
          cases h10:aO (iQ s) s.log 0 with
          |some p =>
           obtain⟨i,e⟩:=p;have hne:(e==0)=false:=by simpa using cQ h10
           have e1:aQ 0 5 (iQ s) s.log=((i:Int),e):=by simp only[aQ,hi,h10];rfl
           have e2:fI s=(5,(i:Int),e):=by simp only[fI,h9,if_false,h10]
           rw[e1,e2];try simp only[↓QA,QB,seval,cO,hne,enc3]
          |none =>
           have e1:aQ 0 5 (iQ s) s.log=(0,0):=by simp only[aQ,hi,h10];rfl
           have e2:fI s=(0,0,0):=by simp only[fI,h9,if_false,h10]
           rw[e1,e2];try simp only[↓QA,QB,seval,cO,show ((0:Int)==0)=true from rfl,enc3]
theorem pJ(a b n:Int)(h0:-1000000<=a/\a<=1000000)(h1:-1000000<=n/\n<=1000000):cZ T 499 [.int .i64 a,.int .i64 b,.int .i64 n] (.int .i64 (jW a b n)):=by
 refine aX (af:=VW) rfl (by simp[VW]) dd ?_;have w1:IntKind.i64.wrap (a+n)=a+n:=bD ⟨by omega,by omega⟩;have w2:IntKind.i64.wrap (a-n)=a-n:=bD ⟨by omega,by omega⟩;try simp only[↓QA,QB,seval,cO,VW,w1,w2]
 refine aJ (fun h=>?_) fun h=>?_
 all_goals
  have h':=h;simp only[decide_eq_true_eq,decide_eq_false_iff_not] at h';try simp only[↓QA,QB,seval,cO,h,w1,w2]
  simp[jW,h']
def sb(s:Ship)(but cl m:Nat):List AV:=shipCells s++[.int .i64 but,.int .i64 cl,.map m]
theorem aAG(s:Ship)(b c m:Nat):(sb s b c m).length=10:=by simp[sb,shipCells]
theorem BR(s:Ship)(b c m:Nat):(sb s b c m)[0]? = some (.int .i64 s.cold):=by simp[sb,shipCells]
theorem BJ(s:Ship)(b c m:Nat):(sb s b c m)[1]? = some (.int .i64 s.power):=by simp[sb,shipCells]
theorem BF(s:Ship)(b c m:Nat):(sb s b c m)[2]? = some (.int .i64 s.warm):=by simp[sb,shipCells]
theorem BQ(s:Ship)(b c m:Nat):(sb s b c m)[3]? = some (.lit (s.heat.map (.int .i64)) false none):=by simp[sb,shipCells,ints]
theorem BM(s:Ship)(b c m:Nat):(sb s b c m)[4]? = some (.int .i64 s.frm):=by simp[sb,shipCells]
theorem BW(s:Ship)(b c m:Nat):(sb s b c m)[5]? = some (.lit (s.holds.map encHold) false none):=by simp[sb,shipCells]
theorem BV(s:Ship)(b c m:Nat):(sb s b c m)[6]? = some (.lit (s.log.map eL) false none):=by simp[sb,shipCells]
theorem BS(s:Ship)(b c m:Nat):(sb s b c m)[7]? = some (.int .i64 b):=by simp[sb,shipCells]
theorem BL(s:Ship)(b c m:Nat):(sb s b c m)[8]? = some (.int .i64 c):=by simp[sb,shipCells]
theorem BK(s:Ship)(b c m:Nat):(sb s b c m)[9]? = some (.map m):=by simp[sb,shipCells]
theorem aGV(s:Ship)(b c:Nat){m k:Nat}(h:m<k):okVs k (sb s b c m):=by
 have:=okVs_up (m:=k) _ (data_ship s).1;refine EE this ?_;simp[okVs,okV,h]
def pZ(σ:St)(s:Ship)(b:Nat):St:=σ++[.cells (shipCells s),.map [],.cells (sb s b 0 (σ.length+1))]
theorem xY(σ:St)(s:Ship)(b:Nat):mH T (.func 266 [] []) [encShip s,.int .i64 b] σ (.ptr (σ.length+2) 0) (pZ σ s b):=by
 refine .callf (.call (af:=aAB) rfl (by simp[aAB]) (eG (K:=fun j e σ1=>(j=none\/j=some .ret)/\Env.get e 4 = .ptr (σ.length+2) 0/\σ1=pZ σ s b) ?_ fun o ho=>ho) fun o ho=>?_)
 ·try simp only[↓QA,QB,seval,cO,aAB,List.length_append,pZ,sb]
  try simp[sb,shipCells,ints]
 ·refine⟨ho.1,_,?_,.inl ⟨ho.2.1,ho.2.2⟩⟩;rfl
end Go.Am.Room.Ho
namespace Go.Am.Room.Ho
structure Way where
 h:Int
 n:Int
 c:Bool
 deriving DecidableEq
def kA(w:Way):AV:=.agg [.int .i64 w.h,.int .i64 w.n,.bool w.c]
theorem vD(w:Way):kA w = .agg [.int .i64 w.h,.int .i64 w.n,.bool w.c]:=by simp only[kA]
def gT(f:Nat->Int):List AV:=[.int .i64 (f 0),.int .i64 (f 1),.int .i64 (f 2),.int .i64 (f 3),.int .i64 (f 4),.int .i64 (f 5),.int .i64 (f 6)]
def pW(f:Nat->Int):AV:=.agg (gT f)
theorem l0(f:Nat->Int):pW f = .agg (gT f):=by simp only[pW]
theorem KU(f:Nat->Int):jS (pW f):=iG (aD (aM _ _) (aD (aM _ _) (aD (aM _ _) (aD (aM _ _) (aD (aM _ _) (aD (aM _ _) (aD (aM _ _) cM)))))))
instance (f:Nat->Int):Dat (pW f):=⟨KU f⟩
def crs(s:Ship)(w:Way)(i:Nat):Int:=marksAt s w.h.toNat w.n w.c (min i s.heat.length)
def iZ(s:Ship)(w:Way):AV:=pW (crs s w)
theorem qI(s:Ship)(w:Way):iZ s w = .agg (gT (crs s w)):=by simp only[iZ,pW]
abbrev bQ:=List Way
def gV(s:Ship)(M:bQ):List (AV×AV):=M.map fun w=>(kA w,iZ s w)
def bA(M:bQ)(w:Way):bQ:=if w∈M then M else M++[w]
theorem PA(w x:Way):iX (.agg [.i,.i,.b]) (kA w) (kA x)=some (decide (w=x)):=by
 obtain⟨a,b,c⟩:=w;obtain⟨a',b',c'⟩:=x;have key:∀ p q:Bool,p=q->some p=some q:=fun p q h=>by rw[h]
 simp only[iX,kA,GW,HO,QW,aF5,GX];refine key _ _ ?_;rw[Bool.eq_iff_iff];simp[Way.mk.injEq,and_assoc]
theorem QG(s:Ship)(w:Way):∀ M:bQ,findKey (.agg [.i,.i,.b]) (kA w) (gV s M)=some (if w∈M then some (iZ s w) else none)
 |[]=>by simp[gV,findKey]
 |x::M=>by
  have ih:=QG s w M;simp only[gV,List.map_cons,findKey,PA] at ih ⊢;by_cases h:w=x
  ·subst h;simp
  ·simp only[h,decide_false,ih,List.mem_cons,false_or]
theorem ZY(s:Ship)(w:Way):∀ M:bQ,w∉M->lQ (.agg [.i,.i,.b]) (kA w) (iZ s w) (gV s M)=some (gV s (M++[w]))
 |[],_=>by simp[gV,lQ]
 |x::M,h=>by
  have ih:=ZY s w M (fun q=>h (List.mem_cons_of_mem _ q));have hx:w≠x:=fun e=>h (by rw[e];simp)
  simp only[gV,List.map_cons,lQ,PA,List.cons_append] at ih ⊢;simp only[hx,decide_false,ih,Option.map_some]
structure ShipAt (S:bQ->St) (s:Ship) (b c p m N:Nat):Prop where
 len:∀ M,(S M).length=N
 at0:∀ M,aE (S M) p=some (sb s b c m)
 map0:∀ M,(S M)[m]? = some (.map (gV s M))
 mset:∀ M M',(S M).set m (.map (gV s M'))=S M'
 pl:p<N
 ml:m<N
namespace ShipAt
variable {S:bQ->St} {s:Ship} {b c p m N:Nat}
theorem base(h:ShipAt S s b c p m N)(M:bQ)(τ:St)(k:Nat):aE (S M++τ) (N+k)=aE τ k:=by rw[<-h.len M];exact mA _ _ _
theorem base0(h:ShipAt S s b c p m N)(M:bQ)(τ:St):aE (S M++τ) N=aE τ 0:=h.base M τ 0
theorem bset(h:ShipAt S s b c p m N)(M:bQ)(τ:St)(k:Nat)(x:ABlk):(S M++τ).set (N+k) x=S M++τ.set k x:=by rw[<-h.len M];exact lF _ _ _ _
theorem bset0(h:ShipAt S s b c p m N)(M:bQ)(τ:St)(x:ABlk):(S M++τ).set N x=S M++τ.set 0 x:=h.bset M τ 0 x
theorem at1(h:ShipAt S s b c p m N)(M:bQ)(τ:St):aE (S M++τ) p=some (sb s b c m):=by
 have:=h.at0 M;have hl:=h.pl;rw[<-h.len M] at hl;simp only[aE] at this ⊢;rw[List.getElem?_append_left hl];exact this
theorem map1(h:ShipAt S s b c p m N)(M:bQ)(τ:St):(S M++τ)[m]? = some (.map (gV s M)):=by
 have hl:=h.ml;rw[<-h.len M] at hl;rw[List.getElem?_append_left hl];exact h.map0 M
theorem mset1(h:ShipAt S s b c p m N)(M M':bQ)(τ:St):(S M++τ).set m (.map (gV s M'))=S M'++τ:=by
 have hl:=h.ml;rw[<-h.len M] at hl;rw[List.set_append_left _ _ hl,h.mset]
theorem look1(h:ShipAt S s b c p m N)(M:bQ)(τ:St)(w:Way):rP (.agg [.i,.i,.b]) (S M++τ) (.map m) (kA w)=some (if w∈M then some (iZ s w) else none):=by
 simp only[rP,h.map1,QG,PA];simp
theorem put1(h:ShipAt S s b c p m N)(M:bQ)(τ:St)(w:Way)(hw:w∉M):vH (.agg [.i,.i,.b]) (S M++τ) (.map m) (kA w) (iZ s w)=some (S (M++[w])++τ):=by
 simp only[vH,PA,h.map1,ZY s w M hw,Option.map_some,h.mset1];simp
theorem keep(h:ShipAt S s b c p m N)(M M':bQ)(i:Nat)(hi:i≠m):(S M')[i]? = (S M)[i]?:=by
 rw[<-h.mset M M',List.getElem?_set_ne (fun e=>hi e.symm)]
theorem memo_ok(s:Ship)(M:bQ)(k:Nat):aU k (.map (gV s M)):=by
 simp only[aU,gV];intro q hq;obtain⟨w,hw,rfl⟩:=List.mem_map.1 hq;simp[kA,iZ,pW,gT,okV,okVs]
theorem kept(h:ShipAt S s b c p m N){M M':bQ}{σ τ:St}(hσ:σ=S M'++τ):∀ i,i<(S M).length->cE (S M) σ (S M).length i:=by
 intro i hi;rw[hσ];have hl:i<(S M').length:=by rw[h.len] at hi ⊢;exact hi
 by_cases him:i=m
 ·subst him;refine .inr (.inl ⟨.map (gV s M'),?_,memo_ok s M' _⟩);rw[List.getElem?_append_left hl,h.map0]
 ·refine .inl ?_;rw[List.getElem?_append_left hl,h.keep M M' i him]
end ShipAt
theorem YN{P:Nat->Prop}(h0:P 0)(h1:P 1)(h2:P 2)(h3:P 3)(h4:P 4)(h5:P 5)(h6:P 6):∀ d,d<7->P d
 |0,_=>h0|1,_=>h1|2,_=>h2|3,_=>h3|4,_=>h4|5,_=>h5|6,_=>h6
 |d+7,h=>by omega
theorem sL(f:Nat->Int):(gT f).length=7:=rfl
theorem yD(f:Nat->Int):∀ i,i<7->(gT f)[i]? = some (.int .i64 (f i)):=by refine YN ?_ ?_ ?_ ?_ ?_ ?_ ?_<;>rfl
def nE(f:Nat->Int)(i:Nat)(v:Int):Nat->Int:=fun j=>if j=i then v else f j
theorem IB(f:Nat->Int)(v:Int):∀ i,i<7->(gT f).take i++[AV.int .i64 v]++(gT f).drop (i+1)=gT (nE f i v):=by
 refine YN ?_ ?_ ?_ ?_ ?_ ?_ ?_<;>simp[gT,nE]
theorem RX{f g:Nat->Int}(h:∀ i,i<7->f i=g i):gT f=gT g:=by
 simp only[gT,h 0 (by omega),h 1 (by omega),h 2 (by omega),h 3 (by omega),h 4 (by omega),h 5 (by omega),h 6 (by omega)]
theorem n4:gT (fun _=>0)=[.int .i64 0,.int .i64 0,.int .i64 0,.int .i64 0,.int .i64 0,.int .i64 0,.int .i64 0]:=rfl
theorem sG(f:Nat->Int)(m:Nat):okVs m (gT f):=by simp[gT,okVs,okV]
theorem qL(f:Nat->Int):aZ (gT f)=true:=by simp[gT,aZ,AV.cell]
theorem rE(f:Nat->Int):(gT f).take 7=gT f:=rfl
theorem qV(f:Nat->Int):(gT f).drop 7=[]:=rfl
def s8(s:Ship)(w:Way)(i:Nat):Nat->Int:=fun j=>if j<=i then crs s w j else 0
theorem ON(s:Ship)(w:Way)(i:Nat):nE (s8 s w i) (i+1) (crs s w (i+1))=s8 s w (i+1):=by
 funext j;simp only[nE,s8];by_cases h1:j=i+1
 ·simp[h1]
 ·by_cases h2:j<=i
  ·simp[h1,h2,show j<=i+1 by omega]
  ·simp[h1,h2,show ¬j<=i+1 by omega]
end Go.Am.Room.Ho
namespace Go.Am.Room.Ho
def jF:=zz @encShip_eq (zz @aL (zz @encHold_eq (zz @aW (zz @aK (zz @bF (zz @bE (zz @vD (zz @l0 (zz @List.length_append.{0} (zz @BR (zz @BJ (zz @BF (zz @BQ (zz @BM (zz @BW (zz @BV (zz @BS (zz @BL (zz @BK (zz @dA (zz @Nat.add_lt_add_iff_left (zz @Nat.lt_add_right_iff_pos (zz @Nat.mul_one (zz @Int.toNat_natCast (zz @sL (zz @rE (zz @qV (@qL))))))))))))))))))))))))))))
theorem I7{S:bQ->St}{s:Ship}{b c p m N:Nat}(hR:ShipAt S s b c p m N)(hv:Vd s)(M:bQ)(w:Way)(hw:0<=w.h/\w.h<=100)(hn:0<=w.n/\w.n<=80):
  mH T (.func 481 [] []) [.ptr p 0,kA w] (S M) (iZ s w) (S (bA M w)):=by
 have hnh:=hv.nheat
 have hcd:=hv.cold;have hwm:=hv.warm;have hpw:=hv.power;refine .callf (.call (af:=R7) rfl (by simp[R7]) (eG (K:=fun j e σ1=>(j=none\/j=some .ret)/\∃ τ,eQ R7.results e σ1=some (iZ s w)/\σ1=S (bA M w)++τ) ?_ fun o ho=>ho) fun o ho=>?_)
 ·have hl1:=fun τ=>hR.look1 M τ w
  simp only[vD,qI] at hl1 ⊢
  (repeat (first|simp only[↓QA,QB,reduceLT,reduceIte,reduceEqDiff,reduceAdd,reduceLeDiff,reduceMul,Nat.reduceBEq,jF,hR.len,hR.base,hR.base0,hR.bset,hR.bset0,hR.at1,hR.at0,hR.map1,hR.map0,R7]|refine rd0 rfl ?_))
  refine uH [.cells (gT fun _=>0)] rfl ?_;by_cases hm:w∈M
  ·have hst:bA M w=M:=by simp[bA,hm]
   rw[hst];simp only[hm,if_true] at hl1
   (repeat (first|simp only[↓QA,QB,reduceLT,reduceIte,reduceEqDiff,reduceAdd,reduceLeDiff,reduceMul,Nat.reduceBEq,jF,hR.len,hR.base,hR.base0,hR.bset,hR.bset0,hR.at1,hR.at0,hR.map1,hR.map0,hl1,B4,B7,<-n4]|refine rd0 rfl ?_))
   exact⟨_,rfl⟩
  ·have hst:bA M w=M++[w]:=by simp[bA,hm]
   have hput:=fun τ=>hR.put1 M τ w hm
   simp only[vD,qI] at hput;rw[hst];simp only[hm,if_false] at hl1;have hset0:=IB (fun _=>0) w.n 0 (by omega);have hbeg:nE (fun _=>0) 0 w.n=s8 s w 0:=by
    funext j;simp only[nE,s8];by_cases hj:j=0
    ·subst hj;simp[crs,marksAt]
    ·simp[hj]
   rw[hbeg] at hset0;have i0:(0:Int)<=0/\(0:Int)<((7:Nat):Int):=⟨by omega,by omega⟩
   (repeat (first|simp only[↓QA,QB,reduceLT,reduceIte,reduceEqDiff,reduceAdd,reduceLeDiff,reduceMul,Nat.reduceBEq,jF,hR.len,hR.base,hR.base0,hR.bset,hR.bset0,hR.at1,hR.at0,hR.map1,hR.map0,hl1,B4,B7,<-n4,hset0,i0,Int.toNat_zero]|refine rd0 rfl ?_))
   refine dQ (S:=Nat) 0 (fun i=>i<=6) (fun i=>6-i)
    (fun i=>[(0,.ptr p 0),(3,.ptr N 0),(4,.ptr (N+1) 0),(7,.ptr (N+3) 0),(23,.int .i64 i)])
    (fun i=>S M++[.cells [.int .i64 w.h,.int .i64 w.n,.bool w.c],.cells (gT fun _=>0),.cells (gT fun _=>0),.cells (gT (s8 s w i))]) (Nat.zero_le _) rfl ?_ fun i hi=>?_
   ·try simp only[aB,QE,reduceLT,reduceIte,reduceEqDiff,reduceAdd,reduceLeDiff,reduceMul,Nat.reduceBEq,jF,hR.len,hR.base,hR.base0,hR.bset,hR.bset0,hR.at1,hR.at0,hR.map1,hR.map0]
    try simp
   ·(repeat (first|simp only[↓QA,QB,reduceLT,reduceIte,reduceEqDiff,reduceAdd,reduceLeDiff,reduceMul,Nat.reduceBEq,jF,hR.len,hR.base,hR.base0,hR.bset,hR.bset0,hR.at1,hR.at0,hR.map1,hR.map0,aAY]|refine rd0 rfl ?_))
    refine aJ (fun h=>?_) fun h=>?_
    ·have hi1:i<6:=by simp at h;omega
     have hwi:IntKind.i64.wrap ((i:Int)+1)=((i+1:Nat):Int):=dB hi1 (by omega);have i1:(0:Int)<=(i:Int)/\(i:Int)<((7:Nat):Int):=⟨by omega,by omega⟩;have i2:(0:Int)<=((i+1:Nat):Int)/\((i+1:Nat):Int)<((7:Nat):Int):=⟨by omega,by omega⟩;have c1:i<=5:=by omega
     have hg:=yD (s8 s w i) i (by omega);have hgi:s8 s w i i=crs s w i:=by simp[s8]
     rw[hgi] at hg;have hs:=IB (s8 s w i) (crs s w (i+1)) (i+1) (by omega);rw[ON] at hs;by_cases hlt:i<s.heat.length
     ·have g:decide ((s.heat.length:Int)<=(i:Int))=false:=by simp;omega
      have hci:crs s w i=marksAt s w.h.toNat w.n w.c i:=by simp only[crs];rw[Nat.min_eq_left (by omega)]
      have hci1:crs s w (i+1)=marksAt s w.h.toNat w.n w.c (i+1):=by simp only[crs];rw[Nat.min_eq_left (by omega)]
      have hmb:=tN hv (h:=w.h.toNat) hn w.c i (by omega);rw[<-hci] at hmb;cases hc:w.c
      ·have hmk:crs s w (i+1)=jW (crs s w i) s.heat[i] s.warm:=by rw[hci1,hci,hc];simp[marksAt,hlt]
       rw[hmk] at hs
       (repeat (first|simp only[↓QA,QB,reduceLT,reduceIte,reduceEqDiff,reduceAdd,reduceLeDiff,reduceMul,Nat.reduceBEq,jF,hR.len,hR.base,hR.base0,hR.bset,hR.bset0,hR.at1,hR.at0,hR.map1,hR.map0,g,hlt,hc,hwi,i1,i2,c1,hg]|refine rd0 rfl ?_))
       ((first|refine aC (pJ (crs s w i) s.heat[i] s.warm (by omega) (by omega)) rfl dd ?_|refine aF (pJ (crs s w i) s.heat[i] s.warm (by omega) (by omega)) rfl dd ?_);(repeat (first|simp only[↓QA,QB,reduceLT,reduceIte,reduceEqDiff,reduceAdd,reduceLeDiff,reduceMul,Nat.reduceBEq,jF,hR.len,hR.base,hR.base0,hR.bset,hR.bset0,hR.at1,hR.at0,hR.map1,hR.map0,g,hlt,hc,hwi,i1,i2,c1,hg,hs]|refine rd0 rfl ?_)))
       refine⟨i+1,by omega,by omega,?_⟩;try simp only[aB,QE,reduceLT,reduceIte,reduceEqDiff,reduceAdd,reduceLeDiff,reduceMul,Nat.reduceBEq,jF,hR.len,hR.base,hR.base0,hR.bset,hR.bset0,hR.at1,hR.at0,hR.map1,hR.map0,hwi,hR.pl]
       have:=hR.pl;simp[aU,okVs,okV,sG];try omega
      ·have hmk:crs s w (i+1)=jW (crs s w i) s.cold (max 1 (s.power-w.h)):=by
        rw[hci1,hci,hc];simp only[marksAt,if_true];rw[Int.toNat_of_nonneg hw.1]
       have hws:IntKind.i64.wrap (s.power-w.h)=s.power-w.h:=bD ⟨by omega,by omega⟩;rw[hmk] at hs
       (repeat (first|simp only[↓QA,QB,reduceLT,reduceIte,reduceEqDiff,reduceAdd,reduceLeDiff,reduceMul,Nat.reduceBEq,jF,hR.len,hR.base,hR.base0,hR.bset,hR.bset0,hR.at1,hR.at0,hR.map1,hR.map0,g,hlt,hc,hwi,i1,i2,c1,hg,hws]|refine rd0 rfl ?_))
       ((first|refine aC (pJ (crs s w i) s.cold (max 1 (s.power-w.h)) (by omega) (by omega)) rfl dd ?_|refine aF (pJ (crs s w i) s.cold (max 1 (s.power-w.h)) (by omega) (by omega)) rfl dd ?_);(repeat (first|simp only[↓QA,QB,reduceLT,reduceIte,reduceEqDiff,reduceAdd,reduceLeDiff,reduceMul,Nat.reduceBEq,jF,hR.len,hR.base,hR.base0,hR.bset,hR.bset0,hR.at1,hR.at0,hR.map1,hR.map0,g,hlt,hc,hwi,i1,i2,c1,hg,hs,hws]|refine rd0 rfl ?_)))
       refine⟨i+1,by omega,by omega,?_⟩;try simp only[aB,QE,reduceLT,reduceIte,reduceEqDiff,reduceAdd,reduceLeDiff,reduceMul,Nat.reduceBEq,jF,hR.len,hR.base,hR.base0,hR.bset,hR.bset0,hR.at1,hR.at0,hR.map1,hR.map0,hwi,hR.pl]
       have:=hR.pl;simp[aU,okVs,okV,sG];try omega
     ·have g:decide ((s.heat.length:Int)<=(i:Int))=true:=by simp;omega
      have hmk:crs s w (i+1)=crs s w i:=by simp only[crs];rw[Nat.min_eq_right (by omega),Nat.min_eq_right (by omega)]
      rw[hmk] at hs
      (repeat (first|simp only[↓QA,QB,reduceLT,reduceIte,reduceEqDiff,reduceAdd,reduceLeDiff,reduceMul,Nat.reduceBEq,jF,hR.len,hR.base,hR.base0,hR.bset,hR.bset0,hR.at1,hR.at0,hR.map1,hR.map0,g,hwi,i1,i2,c1,hg,hs]|refine rd0 rfl ?_))
      refine⟨i+1,by omega,by omega,?_⟩;try simp only[aB,QE,reduceLT,reduceIte,reduceEqDiff,reduceAdd,reduceLeDiff,reduceMul,Nat.reduceBEq,jF,hR.len,hR.base,hR.base0,hR.bset,hR.bset0,hR.at1,hR.at0,hR.map1,hR.map0,hwi,hR.pl]
      have:=hR.pl;simp[aU,okVs,okV,sG];try omega
    ·have hi1:i=6:=by simp at h;omega
     subst hi1;have harr:gT (s8 s w 6)=gT (crs s w):=RX fun j hj=>by simp[s8,show j<=6 by omega]
     rw[harr]
     (repeat (first|simp only[↓QA,QB,reduceLT,reduceIte,reduceEqDiff,reduceAdd,reduceLeDiff,reduceMul,Nat.reduceBEq,jF,hR.len,hR.base,hR.base0,hR.bset,hR.bset0,hR.at1,hR.at0,hR.map1,hR.map0,hput]|refine rd0 rfl ?_))
     exact⟨_,rfl⟩
 ·obtain⟨hj,τ,hres,hσ⟩:=ho;refine⟨hj,iZ s w,hres,.inr ⟨20,iZ s w,iZ s w,?_,.inl rfl,?_,?_,rfl,?_⟩⟩
  ·simp[iZ,pW,gT,snap,snaps]
  ·exact hR.kept hσ
  ·rw[hσ,List.length_append,hR.len,hR.len];omega
  ·rw[hσ,hR.len,<-hR.len (bA M w),List.take_left]
end Go.Am.Room.Ho
namespace Go.Am.Room.Ho
theorem ShipAt.app{S:bQ->St}{s:Ship}{b c p m N:Nat}(h:ShipAt S s b c p m N)(τ:St):ShipAt (fun M=>S M++τ) s b c p m (N+τ.length) :=
 ⟨fun M=>by rw[List.length_append,h.len],fun M=>h.at1 M τ,fun M=>h.map1 M τ,fun M M'=>h.mset1 M M' τ,by have:=h.pl;omega,by have:=h.ml;omega⟩
theorem ShipAt.eqS{S:bQ->St}{s:Ship}{b c p m N:Nat}(h:ShipAt S s b c p m N)(k:Nat)(M M':bQ)(x y z:St):EqS k (S M++x) (S M'++y) (S M'++z)=EqS k x y z:=by
 rw[<-h.mset M M'];exact H7 k _ (ShipAt.memo_ok s M' k) _ _ _ _ _
structure ButIs (b:Nat) (bl:List Int):Prop where
 lt:b<9223372036854775808
 bit:∀ i:Nat,i<5->(((b/2^i%2:Nat):Int)==0) = !bl.contains (i:Int)
def kZ(s:Ship)(h:Nat)(c:Nat->Int)(but:List Int)(k:Nat):Bool:=(List.range k).all fun i=>match s.log[i]? with|some x=>iL h c but i x|none=>true
theorem D2{s:Ship}{k:Nat}(hk:k<s.log.length)(h:Nat)(c:Nat->Int)(but:List Int):kZ s h c but (k+1)=(kZ s h c but k&&iL h c but k s.log[k]):=by
 simp[kZ,List.range_succ,List.all_append,hk]
theorem ID{s:Ship}{h:Nat}{c:Nat->Int}{but:List Int}{k j:Nat}(hkj:k<=j)(hf:kZ s h c but k=false):kZ s h c but j=false:=by
 simp only[kZ,List.all_eq_false,List.mem_range] at hf ⊢;obtain⟨i,hi,h1⟩:=hf;exact⟨i,by omega,h1⟩
def II(s:Ship)(bl:List Int)(h:Nat)(c1:Bool)(n:Int):Bool:=sP s h (marksAt s h n c1) bl
def y3(s:Ship)(bl:List Int)(h:Nat)(c1 c2:Bool)(M:bQ)(n:Int):bQ :=
 if II s bl h c1 n=true then bA (bA M ⟨h,n,c1⟩) ⟨h,n,c2⟩ else bA M ⟨h,n,c1⟩
def yK(x:Hold):List Int:=aS x.start.lo (x.start.hi+1-x.start.lo).toNat
def mP(s:Ship)(bl:List Int)(x:Hold)(h:Nat)(c1 c2:Bool):List Way:=((yK x).filter (II s bl h c1)).map fun n=>⟨h,n,c2⟩
def vL(s:Ship)(bl:List Int)(x:Hold)(h:Nat)(c1 c2:Bool)(M:bQ):bQ:=(yK x).foldl (y3 s bl h c1 c2) M
def fS(s:Ship)(l:List Way):AV:=.lit (l.map (iZ s)) false none
theorem CV(s:Ship)(w:Way):jS (iZ s w):=KU _
theorem RA(s:Ship)(l:List Way):jS (fS s l):=eC (CV s) l
theorem L8(s:Ship)(σ:St)(m d:Nat)(l:List Way):bT σ m d (l.map (iZ s))=some (l.map (iZ s)):=gQ (cJ (CV s) l) σ m d
theorem HG(s:Ship)(l:List Way):aI 7 (l.map (iZ s))=true:=w7 7 (iZ s) l fun x=>by simp[cA,iZ,pW,gT,AV.cells,AV.cell]
theorem LO(a mk:Int):lL (mk-1) (mk+1) [a] = !inR (a-mk) (-1) 1:=by
 rw[iC];simp only[inR];rw[Bool.eq_iff_iff];simp;omega
end Go.Am.Room.Ho
namespace Go.Am.Room.Ho
def eD:=zz @encShip_eq (zz @aL (zz @encHold_eq (zz @aW (zz @aK (zz @bF (zz @bE (zz @List.length_append.{0} (zz @BR (zz @BJ (zz @BF (zz @BQ (zz @BM (zz @BW (zz @BV (zz @BS (zz @BL (zz @BK (zz @dA (zz @Nat.add_lt_add_iff_left (zz @Nat.lt_add_right_iff_pos (zz @Nat.mul_one (zz @Int.toNat_natCast (zz @sL (zz @rE (zz @qV (zz @qL (zz @vD (zz @qI (@L8)))))))))))))))))))))))))))))
theorem iI(f:Nat->Int)(σ:St)(m d:Nat):bT σ m d (gT f)=some (gT f):=gQ (aD (aM _ _) (aD (aM _ _) (aD (aM _ _) (aD (aM _ _) (aD (aM _ _) (aD (aM _ _) (aD (aM _ _) cM))))))) σ m d
theorem nO{S:bQ->St}{s:Ship}{b c p m N:Nat}(hR:ShipAt S s b c p m N){f:FuncId}{first cap args:List AV}{af:AFunc}{v:AV}{M M':bQ}(hf:T f=some af)(hn:(first++args++cap).length<=af.ntmps)(h:wp T af.body (eP 0 (first++args++cap)) (S M) (fun j e σ1=>(j=none\/j=some .ret)/\∃ v0 τ,eQ af.results e σ1=some v0/\σ1=S M'++τ/\bN σ1 N 20 v0=some v)):mH T (.func f first cap) args (S M) v (S M'):=by
 refine .callf (.call hf hn (eG h fun o ho=>ho) fun o ho=>?_);obtain⟨hj,v0,τ,hres,hσ,h4⟩:=ho;refine⟨hj,v0,hres,?_⟩;unfold bN at h4;cases hs:snap o.σ N 20 v0 with
 |none=>rw[hs] at h4;cases h4
 |some v1 =>
  rw[hs] at h4;simp at h4;refine .inr ⟨20,v1,v,by rw[hR.len];exact hs,.inr h4.symm,hR.kept hσ,?_,rfl,?_⟩
  ·rw[hσ,List.length_append,hR.len,hR.len];omega
  ·rw[hσ,hR.len,<-hR.len M',List.take_left]
def fL(set h:Nat):Bool:=decide (set &&& (2^(h+1)-1)=0)
theorem HZ(a:Nat):((a:Int)==0)=decide (a=0):=by rw[Bool.eq_iff_iff];simp
theorem HW{S:bQ->St}{s:Ship}{b c p m N:Nat}(hR:ShipAt S s b c p m N)(hv:Vd s)(bl:List Int)(hb:ButIs b bl)(M:bQ)(h set:Nat)(hh:h<s.holds.length)(hset:set<1000000)(hcl:c<1000000):
  mH T (.func 389 [] []) [.ptr p 0,.int .i64 h,.int .i64 set] (S M) (fS s (mP s bl s.holds[h] h (fL set h) (fL (lY set c) h))) (S (vL s bl s.holds[h] h (fL set h) (fL (lY set c) h) M)):=by
 have hno:=hv.nholds;have hnh:=hv.nheat
 have hnl:=hv.nlog;have hpl:=hR.pl;have hst:=(hv.holds _ (List.getElem_mem hh)).start;obtain⟨x,hx⟩:∃ x,s.holds[h]=x:=⟨_,rfl⟩;rw[hx] at hst ⊢;obtain⟨U,hU⟩:∃ U,2^(h+1)-1=U:=⟨_,rfl⟩;have hp2:=zE (show h+1<=60 by omega);have hpos:0<2^(h+1):=Nat.two_pow_pos _;have hUl:U<9223372036854775808:=by omega
 have hwU:IntKind.i64.wrap (((2^(h+1):Nat):Int)-1)=(U:Int):=by
  have:((2^(h+1):Nat):Int)-1=(U:Int):=by omega
  rw[this];exact bD ⟨by omega,by omega⟩
 have hw1:IntKind.i64.wrap ((h:Int)+1)=((h+1:Nat):Int):=dB hh (by omega);have hsh:=C5 (h+1) (by omega);have hand:=VU set U (by omega) hUl;have hal:=PB set c;have hand2:=VU (lY set c) U (by omega) hUl;have hnot:=WC set c (by omega) (by omega);obtain⟨c1,hc1⟩:∃ c1,fL set h=c1:=⟨_,rfl⟩;obtain⟨c2,hc2⟩:∃ c2,fL (lY set c) h=c2:=⟨_,rfl⟩;have g1:(((set &&& U:Nat):Int)==0)=c1:=by rw[HZ,<-hc1,<-hU];rfl
 have g2:(((lY set c &&& U:Nat):Int)==0)=c2:=by rw[HZ,<-hc2,<-hU];rfl
 rw[hc1,hc2];obtain⟨K,hK⟩:∃ K,(x.start.hi+1-x.start.lo).toNat=K:=⟨_,rfl⟩;obtain⟨q,hq⟩:∃ q:Int->Bool,II s bl h c1=q:=⟨_,rfl⟩;obtain⟨W,hW⟩:∃ W,mP s bl x h c1 c2=W:=⟨_,rfl⟩;obtain⟨E,hE⟩:∃ E,vL s bl x h c1 c2 M=E:=⟨_,rfl⟩;have hW':[]++((aS (x.start.lo+((0:Nat):Int)) (K-0)).filter q).map (fun n=>(⟨h,n,c2⟩:Way))=W:=by rw[<-hW,<-hq,<-hK];simp[mP,yK]
 have hE':(aS (x.start.lo+((0:Nat):Int)) (K-0)).foldl (y3 s bl h c1 c2) M=E:=by rw[<-hE,<-hK];simp[vL,yK]
 rw[hW,hE];refine nO hR (af:=W3) rfl (by simp[W3]) ?_
 (repeat (first|simp only[↓QA,QB,reduceLT,reduceIte,reduceEqDiff,reduceAdd,reduceLeDiff,reduceMul,Nat.reduceBEq,eD,hR.len,hR.base,hR.base0,hR.bset,hR.bset0,hR.at1,hR.at0,hR.map1,hR.map0,iI,W3,hw1,hsh,hwU,hh,hx]|refine rd0 rfl ?_))
 refine rY 6 7 [] rfl ?_;refine dQ (S:=Nat×List Way×Bool×bQ) (0,[],false,M) (fun a=>a.1<=K/\a.2.1.length<=a.1/\a.2.1++((aS (x.start.lo+(a.1:Int)) (K-a.1)).filter q).map (fun n=>(⟨h,n,c2⟩:Way))=W/\(aS (x.start.lo+(a.1:Int)) (K-a.1)).foldl (y3 s bl h c1 c2) a.2.2.2=E) (fun a=>K-a.1)
  (fun a=>[(0,.ptr p 0),(1,.int .i64 h),(2,.int .i64 set),(6,.lit (a.2.1.map (iZ s)) false (some (N+1))),(7,.int .i64 U),(8,.ptr N 0),(9,.int .i64 (x.start.lo+(a.1:Int)))])
  (fun a=>S a.2.2.2++[.cells [.int .i64 x.start.lo,.int .i64 x.start.hi,.int .i64 x.duct,.int .i64 x.keep.lo,.int .i64 x.keep.hi],.tok 7 a.2.1.length a.2.2.1]) ⟨Nat.zero_le _,Nat.le_refl _,hW',hE'⟩ (by simp) ?_ fun a ha=>?_
 ·try simp only[aB,QE,reduceLT,reduceIte,reduceEqDiff,reduceAdd,reduceLeDiff,reduceMul,Nat.reduceBEq,eD,hR.len,hR.base,hR.base0,hR.bset,hR.bset0,hR.at1,hR.at0,hR.map1,hR.map0,iI]
  try simp
 ·obtain⟨k,acc,ex,M1⟩:=a;obtain⟨hk,hal,hacc,hmem⟩:=ha;simp only at hk hal hacc hmem;obtain⟨n,hn⟩:∃ n,x.start.lo+(k:Int)=n:=⟨_,rfl⟩;simp only[hn];rw[hn] at hacc hmem
  (repeat (first|simp only[↓QA,QB,reduceLT,reduceIte,reduceEqDiff,reduceAdd,reduceLeDiff,reduceMul,Nat.reduceBEq,eD,hR.len,hR.base,hR.base0,hR.bset,hR.bset0,hR.at1,hR.at0,hR.map1,hR.map0,iI,VV]|refine rd0 rfl ?_))
  refine aJ (fun hd=>?_) fun hd=>?_
  ·have hd':n<=x.start.hi:=by simpa using hd
   have hk1:k<K:=by omega
   have hn80:0<=n/\n<=80:=by omega
   have hw:IntKind.i64.wrap (n+1)=n+1:=bD ⟨by omega,by omega⟩;have hn1:x.start.lo+((k+1:Nat):Int)=n+1:=by omega
   rw[show K-k=(K-(k+1))+1 by omega] at hacc hmem;simp only[aS,List.filter_cons,List.foldl_cons] at hacc hmem;obtain⟨M2,hM2⟩:∃ M2,bA M1 ⟨h,n,c1⟩=M2:=⟨_,rfl⟩;have hrun:=I7 (hR.app [.cells [.int .i64 x.start.lo,.int .i64 x.start.hi,.int .i64 x.duct,.int .i64 x.keep.lo,.int .i64 x.keep.hi],.tok 7 acc.length ex]) hv M1 ⟨h,n,c1⟩ (by simp only;omega) hn80;rw[hM2] at hrun;obtain⟨f1,hf1⟩:∃ f1,crs s ⟨h,n,c1⟩=f1:=⟨_,rfl⟩;have hrun2:=fun Mx=>I7 (hR.app [.cells [.int .i64 x.start.lo,.int .i64 x.start.hi,.int .i64 x.duct,.int .i64 x.keep.lo,.int .i64 x.keep.hi],.tok 7 acc.length ex,.cells (gT f1)]) hv Mx ⟨h,n,c2⟩ (by simp only;omega) hn80
   try simp only[↓QA,QB,reduceLT,reduceIte,reduceEqDiff,reduceAdd,reduceLeDiff,reduceMul,Nat.reduceBEq,eD,hR.len,hR.base,hR.base0,hR.bset,hR.bset0,hR.at1,hR.at0,hR.map1,hR.map0,iI] at hrun hrun2
   rw[hf1] at hrun;have hq1:q n=kZ s h (marksAt s h n c1) bl s.log.length:=by rw[<-hq];rfl
   have hstep:y3 s bl h c1 c2 M1 n=if q n=true then bA M2 ⟨h,n,c2⟩ else M2:=by simp only[y3,hq,hM2]
   rw[hstep] at hmem;have hap:=fun (Mx:bQ) (τ:St)=>j8 (σ:=S Mx++(.cells [.int .i64 x.start.lo,.int .i64 x.start.hi,.int .i64 x.duct,.int .i64 x.keep.lo,.int .i64 x.keep.hi]::.tok 7 acc.length ex::τ)) (t:=N+1) (ex:=ex) (sz:=7) (b:=56) (xs:=acc.map (iZ s)) (ys:=[.agg (gT (crs s ⟨h,n,c2⟩))]) (f:=true) (tk:=none) ⟨HG s acc,by simp[aI,AV.cells,AV.cell,gT],by simp[room];omega,by simp[room];omega⟩ (by simp) acc.length (by simp) (by rw[<-hR.len Mx,sA];rfl)
   try simp only[↓QA,QB,reduceLT,reduceIte,reduceEqDiff,reduceAdd,reduceLeDiff,reduceMul,Nat.reduceBEq,eD,hR.len,hR.base,hR.base0,hR.bset,hR.bset0,hR.at1,hR.at0,hR.map1,hR.map0,iI] at hap
   (repeat (first|simp only[↓QA,QB,reduceLT,reduceIte,reduceEqDiff,reduceAdd,reduceLeDiff,reduceMul,Nat.reduceBEq,eD,hR.len,hR.base,hR.base0,hR.bset,hR.bset0,hR.at1,hR.at0,hR.map1,hR.map0,iI,hand,g1]|refine rd0 rfl ?_))
   refine bR hrun ?_
   (repeat (first|simp only[↓QA,QB,reduceLT,reduceIte,reduceEqDiff,reduceAdd,reduceLeDiff,reduceMul,Nat.reduceBEq,eD,hR.len,hR.base,hR.base0,hR.bset,hR.bset0,hR.at1,hR.at0,hR.map1,hR.map0,iI]|refine rd0 rfl ?_))
   refine dQ (S:=Nat) 0 (fun i=>i<=s.log.length/\kZ s h (marksAt s h n c1) bl i=true) (fun i=>s.log.length-i)
    (fun i=>[(0,.ptr p 0),(1,.int .i64 h),(2,.int .i64 set),(6,.lit (acc.map (iZ s)) false (some (N+1))),(7,.int .i64 U),(8,.ptr N 0),(9,.int .i64 n),(10,.ptr (N+2) 0),(48,.lit (s.log.map eL) false none),(49,.int .i64 s.log.length),(50,.int .i64 i)])
    (fun i=>S M2++[.cells [.int .i64 x.start.lo,.int .i64 x.start.hi,.int .i64 x.duct,.int .i64 x.keep.lo,.int .i64 x.keep.hi],.tok 7 acc.length ex,.cells (gT f1)]) ⟨Nat.zero_le _,rfl⟩ (by simp) ?_ fun i hi=>?_
   ·try simp only[aB,QE,reduceLT,reduceIte,reduceEqDiff,reduceAdd,reduceLeDiff,reduceMul,Nat.reduceBEq,eD,hR.len,hR.base,hR.base0,hR.bset,hR.bset0,hR.at1,hR.at0,hR.map1,hR.map0,iI]
    try simp
   ·obtain⟨hi,hlu⟩:=hi
    (repeat (first|simp only[↓QA,QB,reduceLT,reduceIte,reduceEqDiff,reduceAdd,reduceLeDiff,reduceMul,Nat.reduceBEq,eD,hR.len,hR.base,hR.base0,hR.bset,hR.bset0,hR.at1,hR.at0,hR.map1,hR.map0,iI,ZO]|refine rd0 rfl ?_))
    refine aJ (fun hd2=>?_) fun hd2=>?_
    ·have hi1:i<s.log.length:=by simpa using hd2
     have hwi:=dB hi1 (by omega);have hln:=hv.log _ (List.getElem_mem hi1);obtain⟨y,hy⟩:∃ y,s.log[i]=y:=⟨_,rfl⟩;have hsucc:=D2 hi1 h (marksAt s h n c1) bl;rw[hy] at hln hsucc;rw[hlu,Bool.true_and] at hsucc;have hdiv:b/2^i<9223372036854775808:=Nat.lt_of_le_of_lt (Nat.div_le_self _ _) hb.lt;have hbit:=hb.bit i (by omega);have vs:=IY b i (by omega);have va:=DJ (b/2^i) hdiv;have i1:(0:Int)<=y.watch/\y.watch<((7:Nat):Int):=⟨by omega,by omega⟩;have hg:=yD f1 y.watch.toNat (by omega);have hfw:f1 y.watch.toNat=marksAt s h n c1 y.watch.toNat:=by rw[<-hf1];simp only[crs,Int.toNat_natCast];rw[Nat.min_eq_left (by omega)]
     rw[hfw] at hg;have hwm1:IntKind.i64.wrap (y.marks-1)=y.marks-1:=bD ⟨by omega,by omega⟩;have hwm2:IntKind.i64.wrap (y.marks+1)=y.marks+1:=bD ⟨by omega,by omega⟩;cases h1:(y.hold==(h:Int))
     ·have h1':¬y.hold=(h:Int):=by simpa using h1
      have hl:iL h (marksAt s h n c1) bl i y=true:=by simp[iL,h1']
      rw[hl] at hsucc
      (repeat (first|simp only[↓QA,QB,reduceLT,reduceIte,reduceEqDiff,reduceAdd,reduceLeDiff,reduceMul,Nat.reduceBEq,eD,hR.len,hR.base,hR.base0,hR.bset,hR.bset0,hR.at1,hR.at0,hR.map1,hR.map0,iI,hi1,hy,h1]|refine rd0 rfl ?_))
      refine⟨i+1,⟨by omega,hsucc⟩,by omega,?_⟩;try simp only[aB,QE,reduceLT,reduceIte,reduceEqDiff,reduceAdd,reduceLeDiff,reduceMul,Nat.reduceBEq,eD,hR.len,hR.base,hR.base0,hR.bset,hR.bset0,hR.at1,hR.at0,hR.map1,hR.map0,iI,hwi]
      try simp[aU,sG]
      try omega
     ·have h1':y.hold=(h:Int):=by simpa using h1
      cases h2:bl.contains (i:Int)
      ·rw[h2] at hbit;have hl:iL h (marksAt s h n c1) bl i y=inR (marksAt s h n c1 y.watch.toNat-y.marks) (-1) 1:=by simp only[iL,h1',h2];simp
       rw[hl] at hsucc
       (repeat (first|simp only[↓QA,QB,reduceLT,reduceIte,reduceEqDiff,reduceAdd,reduceLeDiff,reduceMul,Nat.reduceBEq,eD,hR.len,hR.base,hR.base0,hR.bset,hR.bset0,hR.at1,hR.at0,hR.map1,hR.map0,iI,hi1,hy,h1,vs,va,hbit,hwm1,hwm2,i1,hg]|refine rd0 rfl ?_))
       ((first|refine bC (dI (y.marks-1) (y.marks+1) [marksAt s h n c1 y.watch.toNat] (by simp)) (by simp[clr,clrs,ints]) (by simp[okV,okVs]) ?_|refine iT (dI (y.marks-1) (y.marks+1) [marksAt s h n c1 y.watch.toNat] (by simp)) (by simp[clr,clrs,ints]) (by simp[okV,okVs]) ?_);(repeat (first|simp only[↓QA,QB,reduceLT,reduceIte,reduceEqDiff,reduceAdd,reduceLeDiff,reduceMul,Nat.reduceBEq,eD,hR.len,hR.base,hR.base0,hR.bset,hR.bset0,hR.at1,hR.at0,hR.map1,hR.map0,iI,LO,hi1,hy,h1,vs,va,hbit,hwm1,hwm2,i1,hg]|refine rd0 rfl ?_)))
       cases h3:inR (marksAt s h n c1 y.watch.toNat-y.marks) (-1) 1
       ·rw[h3] at hsucc;have hqf:q n=false:=by rw[hq1];exact ID (show i+1<=s.log.length by omega) hsucc
        rw[hqf] at hacc hmem
        (repeat (first|simp only[↓QA,QB,reduceLT,reduceIte,reduceEqDiff,reduceAdd,reduceLeDiff,reduceMul,Nat.reduceBEq,eD,hR.len,hR.base,hR.base0,hR.bset,hR.bset0,hR.at1,hR.at0,hR.map1,hR.map0,iI,hi1,hy,h1,hw]|refine rd0 rfl ?_))
        refine⟨(k+1,acc,ex,M2),⟨by simp only;omega,by simp only;omega,by simp only[hn1];simpa using hacc,by simp only[hn1];simpa using hmem⟩,by simp only;omega,?_⟩;try simp only[aB,QE,reduceLT,reduceIte,reduceEqDiff,reduceAdd,reduceLeDiff,reduceMul,Nat.reduceBEq,eD,hR.len,hR.base,hR.base0,hR.bset,hR.bset0,hR.at1,hR.at0,hR.map1,hR.map0,iI,hw,hn1,hR.eqS,yU,tE]
        try simp[aU,okVs,okV]
        try omega
       ·rw[h3] at hsucc
        (repeat (first|simp only[↓QA,QB,reduceLT,reduceIte,reduceEqDiff,reduceAdd,reduceLeDiff,reduceMul,Nat.reduceBEq,eD,hR.len,hR.base,hR.base0,hR.bset,hR.bset0,hR.at1,hR.at0,hR.map1,hR.map0,iI,hi1,hy,h1]|refine rd0 rfl ?_))
        refine⟨i+1,⟨by omega,hsucc⟩,by omega,?_⟩;try simp only[aB,QE,reduceLT,reduceIte,reduceEqDiff,reduceAdd,reduceLeDiff,reduceMul,Nat.reduceBEq,eD,hR.len,hR.base,hR.base0,hR.bset,hR.bset0,hR.at1,hR.at0,hR.map1,hR.map0,iI,hwi]
        try simp[aU,sG]
        try omega
      ·rw[h2] at hbit;have hl:iL h (marksAt s h n c1) bl i y=true:=by simp only[iL,h2];simp
       rw[hl] at hsucc
       (repeat (first|simp only[↓QA,QB,reduceLT,reduceIte,reduceEqDiff,reduceAdd,reduceLeDiff,reduceMul,Nat.reduceBEq,eD,hR.len,hR.base,hR.base0,hR.bset,hR.bset0,hR.at1,hR.at0,hR.map1,hR.map0,iI,hi1,hy,h1,vs,va,hbit]|refine rd0 rfl ?_))
       refine⟨i+1,⟨by omega,hsucc⟩,by omega,?_⟩;try simp only[aB,QE,reduceLT,reduceIte,reduceEqDiff,reduceAdd,reduceLeDiff,reduceMul,Nat.reduceBEq,eD,hR.len,hR.base,hR.base0,hR.bset,hR.bset0,hR.at1,hR.at0,hR.map1,hR.map0,iI,hwi]
       try simp[aU,sG]
       try omega
    ·have hi1:i=s.log.length:=by simp at hd2;omega
     rw[hi1] at hlu;have hqt:q n=true:=by rw[hq1];exact hlu
     rw[hqt] at hacc hmem
     (repeat (first|simp only[↓QA,QB,reduceLT,reduceIte,reduceEqDiff,reduceAdd,reduceLeDiff,reduceMul,Nat.reduceBEq,eD,hR.len,hR.base,hR.base0,hR.bset,hR.bset0,hR.at1,hR.at0,hR.map1,hR.map0,iI,hnot,hand2,g2]|refine rd0 rfl ?_))
     refine bR (hrun2 M2) ?_
     (repeat (first|simp only[↓QA,QB,reduceLT,reduceIte,reduceEqDiff,reduceAdd,reduceLeDiff,reduceMul,Nat.reduceBEq,eD,hR.len,hR.base,hR.base0,hR.bset,hR.bset0,hR.at1,hR.at0,hR.map1,hR.map0,iI,hap]|refine rd0 rfl ?_))
     refine⟨(k+1,acc++[⟨h,n,c2⟩],true,bA M2 ⟨h,n,c2⟩),⟨by simp only;omega,by simp only[List.length_append,List.length_cons,List.length_nil];omega,by simp only[hn1];simpa using hacc,by simp only[hn1];simpa using hmem⟩,by simp only;omega,?_⟩;try simp only[aB,QE,reduceLT,reduceIte,reduceEqDiff,reduceAdd,reduceLeDiff,reduceMul,Nat.reduceBEq,eD,hR.len,hR.base,hR.base0,hR.bset,hR.bset0,hR.at1,hR.at0,hR.map1,hR.map0,iI,hw,hn1,hR.eqS,yU,tE,List.map_append,List.map_cons,List.map_nil]
     try simp[aU,okVs,okV]
     try omega
  ·have hd':¬n<=x.start.hi:=by simpa using hd
   have hk1:k=K:=by omega
   rw[hk1,Nat.sub_self] at hacc hmem;simp only[aS,List.filter_nil,List.map_nil,List.append_nil,List.foldl_nil] at hacc hmem;subst hacc;subst hmem
   (repeat (first|simp only[↓QA,QB,reduceLT,reduceIte,reduceEqDiff,reduceAdd,reduceLeDiff,reduceMul,Nat.reduceBEq,eD,hR.len,hR.base,hR.base0,hR.bset,hR.bset0,hR.at1,hR.at0,hR.map1,hR.map0,iI,fS]|refine rd0 rfl ?_))
   refine⟨_,_,rfl,rfl,?_⟩;try simp only[QS,QC,reduceLT,reduceIte,reduceEqDiff,reduceAdd,reduceLeDiff,reduceMul,Nat.reduceBEq,eD,hR.len,hR.base,hR.base0,hR.bset,hR.bset0,hR.at1,hR.at0,hR.map1,hR.map0,iI,fS]
   try simp
def B5:=zz @encShip_eq (zz @aL (zz @encHold_eq (zz @aW (@aK))))
def nA:List AV:=[.func 496 [] [],.func 497 [] [],.func 498 [] []]
theorem WK:cZ T 479 [] (.agg nA):=by
 refine aX (af:=XA) rfl (by simp[XA]) dd ?_;try simp only[↓QA,QB,seval,B5,XA,nA,show (0:Int)<=0/\(0:Int)<((3:Nat):Int) from by decide,show (0:Int)<=1/\(1:Int)<((3:Nat):Int) from by decide,show (0:Int)<=2/\(2:Int)<((3:Nat):Int) from by decide,Int.toNat_zero,show Int.toNat 1=1 from rfl,show Int.toNat 2=2 from rfl,clrs]
theorem y8(b:Bool):cZ T 496 [.bool b] (.bool !b):=by
 refine aX (af:=YQ) rfl (by simp[YQ]) dd ?_;try simp only[↓QA,QB,seval,B5,YQ]
theorem xZ(b:Bool):cZ T 497 [.bool b] (.bool b):=by
 refine aX (af:=US) rfl (by simp[US]) dd ?_;try simp only[↓QA,QB,seval,B5,US]
theorem y7(b:Bool):cZ T 498 [.bool b] (.bool true):=by
 refine aX (af:=XT) rfl (by simp[XT]) dd ?_;try simp only[↓QA,QB,seval,B5,XT]
end Go.Am.Room.Ho
namespace Go.Am.Room.Ho
def aV{A X:Type}(f:A->X->X×Bool):List A->X->X×Bool
 |[],x=>(x,true)
 |a::az,x=>if (f a x).2=true then aV f az (f a x).1 else ((f a x).1,false)
theorem nM{A X:Type}(f:A->X->X×Bool):∀ (az bs:List A) (x:X),aV f (az++bs) x=if (aV f az x).2=true then aV f bs (aV f az x).1 else ((aV f az x).1,false)
 |[],bs,x=>by simp[aV]
 |a::az,bs,x=>by
  simp only[List.cons_append,aV];split
  ·exact nM f az bs _
  ·simp
structure Fam {X:Type} (Z ZD:X->St) (s:Ship) (b c p m q N:Nat):Prop where
 len:∀ x,(Z x).length=N
 lenD:∀ x,(ZD x).length=N
 at0:∀ x,aE (Z x) p=some (sb s b c m)
 atq0:∀ x,aE (Z x) q=some [.ptr p 0]
 keep:∀ x y k i,N<=k->i<N->cE (Z x) (Z y) k i
 keepD:∀ x y k i,N<=k->i<N->cE (Z x) (ZD y) k i
 pl:p<N
 ql:q<N
namespace Fam
variable {X:Type} {Z ZD:X->St} {s:Ship} {b c p m q N:Nat}
theorem base(h:Fam Z ZD s b c p m q N)(x:X)(τ:St)(k:Nat):aE (Z x++τ) (N+k)=aE τ k:=by rw[<-h.len x];exact mA _ _ _
theorem base0(h:Fam Z ZD s b c p m q N)(x:X)(τ:St):aE (Z x++τ) N=aE τ 0:=h.base x τ 0
theorem bset(h:Fam Z ZD s b c p m q N)(x:X)(τ:St)(k:Nat)(y:ABlk):(Z x++τ).set (N+k) y=Z x++τ.set k y:=by rw[<-h.len x];exact lF _ _ _ _
theorem bset0(h:Fam Z ZD s b c p m q N)(x:X)(τ:St)(y:ABlk):(Z x++τ).set N y=Z x++τ.set 0 y:=h.bset x τ 0 y
theorem at1(h:Fam Z ZD s b c p m q N)(x:X)(τ:St):aE (Z x++τ) p=some (sb s b c m):=by
 have:=h.at0 x;have hl:=h.pl;rw[<-h.len x] at hl;simp only[aE] at this ⊢;rw[List.getElem?_append_left hl];exact this
theorem atq1(h:Fam Z ZD s b c p m q N)(x:X)(τ:St):aE (Z x++τ) q=some [.ptr p 0]:=by
 have:=h.atq0 x;have hl:=h.ql;rw[<-h.len x] at hl;simp only[aE] at this ⊢;rw[List.getElem?_append_left hl];exact this
theorem leaveW(h:Fam Z ZD s b c p m q N){x:X}{W υ τ' σ':St}(hW:W.length=N)(hk:∀ k i,N<=k->i<N->cE (Z x) W k i){v:Bool}{Q:Out->Prop}(hσ:σ'=W++(υ++τ'))(hQ:Q ⟨none,[],W++υ,.bool v⟩):DU (Z x++υ) σ' (.bool v) Q:=by
 refine .inr ⟨20,.bool v,.bool v,by simp[snap],.inl rfl,fun i hi=>?_,?_,?_⟩
 ·rw[hσ];rw[List.length_append,h.len] at hi ⊢;by_cases hn:i<N
  ·have:=hk (N+υ.length) i (by omega) hn;have e1:(Z x++υ)[i]? = (Z x)[i]?:=List.getElem?_append_left (by rw[h.len];exact hn);have e2:(W++(υ++τ'))[i]? = W[i]?:=List.getElem?_append_left (by rw[hW];exact hn);simp only[cE,e1,e2] at this ⊢;exact this
  ·refine .inl ?_;have e1:(W++(υ++τ'))[i]? = (υ++τ')[i-N]?:=by rw[List.getElem?_append_right (by omega),hW]
   have e2:(Z x++υ)[i]? = υ[i-N]?:=by rw[List.getElem?_append_right (by rw[h.len];omega),h.len]
   rw[e1,e2,List.getElem?_append_left (by omega)]
 ·rw[hσ];simp only[List.length_append,h.len,hW];omega
 ·have e1:σ'.take (Z x++υ).length=W++υ:=by
   have q1:(Z x++υ).length=(W++υ).length:=by simp only[List.length_append,h.len,hW]
   rw[hσ,q1,<-List.append_assoc];exact List.take_left
  rw[e1];exact hQ
def out(Z ZD:X->St)(r:X×Bool):St:=if r.2=true then Z r.1 else ZD r.1
theorem leave(h:Fam Z ZD s b c p m q N){x:X}{r:X×Bool}{υ τ' σ':St}{Q:Out->Prop}(hσ:σ'=out Z ZD r++(υ++τ'))(hQ:Q ⟨none,[],out Z ZD r++υ,.bool r.2⟩):DU (Z x++υ) σ' (.bool r.2) Q:=by
 unfold out at hσ hQ;split at hσ
 ·rename_i hr;rw[if_pos hr] at hQ;exact h.leaveW (h.len _) (fun k i hk hi=>h.keep _ _ k i hk hi) hσ hQ
 ·rename_i hr;rw[if_neg hr] at hQ;exact h.leaveW (h.lenD _) (fun k i hk hi=>h.keepD _ _ k i hk hi) hσ hQ
end Fam
def MI{A X:Type}(Z ZD:X->St)(id:Nat)(args:A->List AV)(P:A->Prop)(f:A->X->X×Bool):Prop :=
 ∀ a,P a->∀ x τ,Run T (.callv (.yield id) (args a) (Z x++τ)) fun o=>o.v = .bool (f a x).2/\∃ τ',o.σ=Fam.out Z ZD (f a x)++(τ++τ')
def gP:List Hold->Nat->Nat->List Nat
 |[],_,set=>[set]
 |x::xs,h,set=>(if x.duct=1 then [] else gP xs (h+1) set)++(if x.duct=0 then [] else gP xs (h+1) (set|||2^h))
theorem DH:∀ (xs:List Hold) (h set:Nat),set<2^h->∀ a∈gP xs h set,a<2^(h+xs.length)
 |[],h,set,hs,a,ha=>by simp[gP] at ha;subst ha;simpa using hs
 |x::xs,h,set,hs,a,ha=>by
  simp only[gP,List.mem_append] at ha;have e:h+(x::xs).length=(h+1)+xs.length:=by simp;omega
  have h1:set<2^(h+1):=by rw[Nat.pow_succ];omega
  have h2:set|||2^h<2^(h+1):=Nat.or_lt_two_pow h1 (by rw[Nat.pow_succ];have:=Nat.two_pow_pos h;omega);rw[e];rcases ha with ha|ha
  ·split at ha
   ·simp at ha
   ·exact DH xs (h+1) set h1 a ha
  ·split at ha
   ·simp at ha
   ·exact DH xs (h+1) _ h2 a ha
end Go.Am.Room.Ho
namespace Go.Am.Room.Ho
def fZ:=zz @encShip_eq (zz @aL (zz @encHold_eq (zz @aW (zz @aK (zz @bF (zz @bE (zz @List.length_append.{0} (zz @BR (zz @BJ (zz @BF (zz @BQ (zz @BM (zz @BW (zz @BV (zz @BS (zz @BL (zz @BK (zz @dA (zz @Nat.add_lt_add_iff_left (zz @Nat.lt_add_right_iff_pos (zz @Nat.mul_one (@Int.toNat_natCast))))))))))))))))))))))
theorem AD{A X:Type}(f:A->X->X×Bool)(a:A)(x:X):aV f [a] x=f a x:=by
 simp only[aV];obtain⟨y,bb⟩:=f a x;cases bb<;>simp
def M7(N q:Nat):AV:=.func 480 [] [.ptr q 0,.ptr N 0,.ptr (N+1) 0,.ptr (N+2) 0]
def sY(id N q:Nat):St:=[.cells [.yield id],.cells nA,.cells [M7 N q]]
theorem IL{X:Type}{Z ZD:X->St}{s:Ship}{b c p m q N:Nat}(hR:Fam Z ZD s b c p m q N)(hv:Vd s){id:Nat}{P:Nat->Prop}{f:Nat->X->X×Bool}(hy:MI Z ZD id (fun a:Nat=>[.int .i64 a]) P f):
  ∀ (k h set:Nat) (x:X) (τ:St),h+k=s.holds.length->set<2^h->(∀ a∈gP (s.holds.drop h) h set,P a) ->
   mH T (M7 N q) [.int .i64 h,.int .i64 set] (Z x++(sY id N q++τ)) (.bool (aV f (gP (s.holds.drop h) h set) x).2) (Fam.out Z ZD (aV f (gP (s.holds.drop h) h set) x)++(sY id N q++τ))
 |0,h,set,x,τ,hk,hset,hP=>by
  have hh:h=s.holds.length:=by omega
  have hd:s.holds.drop h=[]:=by rw[hh,List.drop_length]
  have hPs:=hP set (by rw[hd];simp[gP]);have hyy:=hy set hPs x (sY id N q++τ);rw[hd];simp only[gP,AD];obtain⟨r,hr⟩:∃ r,f set x=r:=⟨_,rfl⟩;rw[hr] at hyy ⊢;have g:((h:Int)==(s.holds.length:Int))=true:=by rw[hh];simp
  refine .callf (.call (af:=BG) rfl (by simp[BG]) (eG (K:=fun j e σ1=>(j=none\/j=some .ret)/\Env.get e 8 = .bool r.2/\∃ τ',σ1=Fam.out Z ZD r++((sY id N q++τ)++τ')) ?_ fun o ho=>ho) fun o ho=>?_)
  ·simp only[sY,M7] at hyy ⊢
   (repeat (first|simp only[↓QA,QB,seval,fZ,hR.len,hR.base,hR.base0,hR.bset,hR.bset0,hR.at1,hR.atq1,BG,g]|refine rd0 rfl ?_))
   refine .mono hyy fun o ho=>?_
   obtain⟨hv1,τ',hσ⟩:=ho;rw[hv1,hσ]
   (repeat (first|simp only[↓QA,QB,seval,fZ,hR.len,hR.base,hR.base0,hR.bset,hR.bset0,hR.at1,hR.atq1]|refine rd0 rfl ?_))
   exact⟨τ',rfl⟩
  ·obtain⟨hj,h8,τ',hσ⟩:=ho;refine⟨hj,.bool r.2,?_,hR.leave hσ ⟨rfl,rfl⟩⟩;simp only[BG,eQ,jU];rw[h8];rfl
 |k+1,h,set,x,τ,hk,hset,hP=>by
  have hno:=hv.nholds;have hh:h<s.holds.length:=by omega
  have hdu:=(hv.holds _ (List.getElem_mem hh)).duct;obtain⟨y,hye⟩:∃ y,s.holds[h]=y:=⟨_,rfl⟩;rw[hye] at hdu;have hd:s.holds.drop h=y::s.holds.drop (h+1):=by rw[<-hye];exact List.drop_eq_getElem_cons hh
  rw[hd] at hP ⊢;simp only[gP] at hP ⊢;have g:((h:Int)==(s.holds.length:Int))=false:=by simp;omega
  have hw:IntKind.i64.wrap ((h:Int)+1)=((h+1:Nat):Int):=dB hh (by omega);have hp2:=zE (show h<=60 by omega);have hset1:set<2^(h+1):=by rw[Nat.pow_succ];omega
  have hset2:set|||2^h<2^(h+1):=Nat.or_lt_two_pow hset1 (by rw[Nat.pow_succ];have:=Nat.two_pow_pos h;omega);have hsh:=C5 h (by omega);have hor:=aHI set (2^h) (by omega) (by omega);obtain⟨L1,hL1⟩:∃ L,gP (s.holds.drop (h+1)) (h+1) set=L:=⟨_,rfl⟩;obtain⟨L2,hL2⟩:∃ L,gP (s.holds.drop (h+1)) (h+1) (set|||2^h)=L:=⟨_,rfl⟩;have ih1:=fun (x:X) (own:AV) (h1:∀ a∈L1,P a)=>IL hR hv hy k (h+1) set x (τ++[.cells [own]]) (by omega) hset1 (by rw[hL1];exact h1)
  have ih2:=fun (x:X) (own:AV) (h1:∀ a∈L2,P a)=>IL hR hv hy k (h+1) (set|||2^h) x (τ++[.cells [own]]) (by omega) hset2 (by rw[hL2];exact h1)
  rw[hL1] at ih1 hP ⊢;rw[hL2] at ih2 hP ⊢;obtain⟨r,hr⟩:∃ r,aV f ((if y.duct=1 then [] else L1)++(if y.duct=0 then [] else L2)) x=r:=⟨_,rfl⟩;rw[hr];have fin:∀ own:AV,Fam.out Z ZD r++(ABlk.cells [.yield id]::.cells nA::.cells [M7 N q]::(τ++[.cells [own]]))=Fam.out Z ZD r++((sY id N q++τ)++[.cells [own]]):=fun own=>by simp[sY]
  refine .callf (.call (af:=BG) rfl (by simp[BG]) (eG (K:=fun j e σ1=>(j=none\/j=some .ret)/\Env.get e 8 = .bool r.2/\∃ τ',σ1=Fam.out Z ZD r++((sY id N q++τ)++τ')) ?_ fun o ho=>ho) fun o ho=>?_)
  ·simp only[sY,M7] at ih1 ih2 fin ⊢;try simp only[↓QA,QB,seval,fZ,hR.len,hR.base,hR.base0,hR.bset,hR.bset0,hR.at1,hR.atq1] at ih1 ih2
   have hcases:y.duct=0\/y.duct=1\/y.duct=2:=by omega
   rcases hcases with hy0|hy1|hy2
   ·simp only[hy0,show ¬(0:Int)=1 from by decide,if_false,if_true,List.append_nil] at hr hP;have hih:=ih1 x (.func 496 [] []) hP;rw[hr] at hih
    (repeat (first|simp only[↓QA,QB,seval,fZ,hR.len,hR.base,hR.base0,hR.bset,hR.bset0,hR.at1,hR.atq1,BG,g,hh,hye,hy0,nA,show (0:Int)<=0/\(0:Int)<((3:Nat):Int) from by decide,Int.toNat_zero]|refine rd0 rfl ?_))
    ((first|refine aC (y8 false) rfl dd ?_|refine aF (y8 false) rfl dd ?_);(repeat (first|simp only[↓QA,QB,seval,fZ,hR.len,hR.base,hR.base0,hR.bset,hR.bset0,hR.at1,hR.atq1,hw]|refine rd0 rfl ?_)))
    simp only[nA] at hih fin;refine bR hih ?_;cases hr2:r.2
    ·(repeat (first|simp only[↓QA,QB,seval,fZ,hR.len,hR.base,hR.base0,hR.bset,hR.bset0,hR.at1,hR.atq1]|refine rd0 rfl ?_))
     exact⟨_,fin _⟩
    ·have ho:Fam.out Z ZD r=Z r.1:=if_pos hr2;rw[ho] at fin ⊢
     (repeat (first|simp only[↓QA,QB,seval,fZ,hR.len,hR.base,hR.base0,hR.bset,hR.bset0,hR.at1,hR.atq1]|refine rd0 rfl ?_))
     ((first|refine aC (y8 true) rfl dd ?_|refine aF (y8 true) rfl dd ?_);(repeat (first|simp only[↓QA,QB,seval,fZ,hR.len,hR.base,hR.base0,hR.bset,hR.bset0,hR.at1,hR.atq1]|refine rd0 rfl ?_)))
     exact⟨_,fin _⟩
   ·simp only[hy1,show ¬(1:Int)=0 from by decide,if_false,if_true,List.nil_append] at hr hP;have hih:=ih2 x (.func 497 [] []) hP;rw[hr] at hih
    (repeat (first|simp only[↓QA,QB,seval,fZ,hR.len,hR.base,hR.base0,hR.bset,hR.bset0,hR.at1,hR.atq1,BG,g,hh,hye,hy1,nA,show (0:Int)<=1/\(1:Int)<((3:Nat):Int) from by decide,show Int.toNat 1=1 from rfl]|refine rd0 rfl ?_))
    ((first|refine aC (xZ false) rfl dd ?_|refine aF (xZ false) rfl dd ?_);(repeat (first|simp only[↓QA,QB,seval,fZ,hR.len,hR.base,hR.base0,hR.bset,hR.bset0,hR.at1,hR.atq1]|refine rd0 rfl ?_)))
    ((first|refine aC (xZ true) rfl dd ?_|refine aF (xZ true) rfl dd ?_);(repeat (first|simp only[↓QA,QB,seval,fZ,hR.len,hR.base,hR.base0,hR.bset,hR.bset0,hR.at1,hR.atq1,hw,hsh,hor]|refine rd0 rfl ?_)))
    simp only[nA] at hih fin;refine oT hih ?_
    (repeat (first|simp only[↓QA,QB,seval,fZ,hR.len,hR.base,hR.base0,hR.bset,hR.bset0,hR.at1,hR.atq1]|refine rd0 rfl ?_))
    exact⟨_,fin _⟩
   ·simp only[hy2,show ¬(2:Int)=0 from by decide,show ¬(2:Int)=1 from by decide,if_false] at hr hP;have hih:=ih1 x (.func 498 [] []) (fun a ha=>hP a (List.mem_append_left _ ha));have hih2:=fun x=>ih2 x (.func 498 [] []) (fun a ha=>hP a (List.mem_append_right _ ha))
    rw[nM] at hr;obtain⟨r1,hr1⟩:∃ r1,aV f L1 x=r1:=⟨_,rfl⟩;rw[hr1] at hr hih
    (repeat (first|simp only[↓QA,QB,seval,fZ,hR.len,hR.base,hR.base0,hR.bset,hR.bset0,hR.at1,hR.atq1,BG,g,hh,hye,hy2,nA,show (0:Int)<=2/\(2:Int)<((3:Nat):Int) from by decide,show Int.toNat 2=2 from rfl]|refine rd0 rfl ?_))
    ((first|refine aC (y7 false) rfl dd ?_|refine aF (y7 false) rfl dd ?_);(repeat (first|simp only[↓QA,QB,seval,fZ,hR.len,hR.base,hR.base0,hR.bset,hR.bset0,hR.at1,hR.atq1,hw]|refine rd0 rfl ?_)))
    simp only[nA] at hih hih2 fin;refine bR hih ?_;cases hr2:r1.2
    ·rw[hr2] at hr;simp only[Bool.false_eq_true,if_false] at hr;have ho:Fam.out Z ZD r1=Fam.out Z ZD r:=by rw[<-hr,Fam.out,Fam.out,hr2]
     rw[ho]
     (repeat (first|simp only[↓QA,QB,seval,fZ,hR.len,hR.base,hR.base0,hR.bset,hR.bset0,hR.at1,hR.atq1]|refine rd0 rfl ?_))
     exact⟨by rw[<-hr],_,fin _⟩
    ·rw[hr2] at hr;simp only[if_true] at hr;have ho:Fam.out Z ZD r1=Z r1.1:=if_pos hr2;have hih3:=hih2 r1.1;rw[hr] at hih3;rw[ho]
     (repeat (first|simp only[↓QA,QB,seval,fZ,hR.len,hR.base,hR.base0,hR.bset,hR.bset0,hR.at1,hR.atq1]|refine rd0 rfl ?_))
     ((first|refine aC (y7 true) rfl dd ?_|refine aF (y7 true) rfl dd ?_);(repeat (first|simp only[↓QA,QB,seval,fZ,hR.len,hR.base,hR.base0,hR.bset,hR.bset0,hR.at1,hR.atq1,hw,hsh,hor]|refine rd0 rfl ?_)))
     refine oT hih3 ?_
     (repeat (first|simp only[↓QA,QB,seval,fZ,hR.len,hR.base,hR.base0,hR.bset,hR.bset0,hR.at1,hR.atq1]|refine rd0 rfl ?_))
     exact⟨_,fin _⟩
  ·obtain⟨hj,h8,τ',hσ⟩:=ho;refine⟨hj,.bool r.2,?_,hR.leave hσ ⟨rfl,rfl⟩⟩;simp only[BG,eQ,jU];rw[h8];rfl
end Go.Am.Room.Ho
namespace Go.Am.Room.Ho
def lP:=zz @encShip_eq (zz @aL (zz @encHold_eq (zz @aW (zz @aK (zz @bF (zz @bE (zz @List.length_append.{0} (zz @BR (zz @BJ (zz @BF (zz @BQ (zz @BM (zz @BW (zz @BV (zz @BS (zz @BL (zz @BK (zz @dA (zz @Nat.add_lt_add_iff_left (zz @Nat.lt_add_right_iff_pos (zz @Nat.mul_one (@Int.toNat_natCast))))))))))))))))))))))
def iO(s:Ship)(bl:List Int)(c set:Nat):List Hold->Nat->List (List Way)->bQ->Option (List (List Way))×bQ
 |[],_,acc,M=>(some acc,M)
 |x::xs,h,acc,M=>if mP s bl x h (fL set h) (fL (lY set c) h)=[] then (none,vL s bl x h (fL set h) (fL (lY set c) h) M) else iO s bl c set xs (h+1) (acc++[mP s bl x h (fL set h) (fL (lY set c) h)]) (vL s bl x h (fL set h) (fL (lY set c) h) M)
theorem IN(s:Ship)(σ:St)(m d:Nat)(l:List (List Way)):bT σ m d (l.map (fS s))=some (l.map (fS s)):=gQ (cJ (RA s) l) σ m d
theorem E3(s:Ship)(l:List (List Way)):aI 1 (l.map (fS s))=true:=w7 1 (fS s) l fun x=>by simp[cA,fS,AV.cells,AV.cell]
theorem fD(s:Ship)(l:List Way):fS s l = .lit (l.map (iZ s)) false none:=by simp only[fS]
theorem XN{S:bQ->St}{s:Ship}{b c p m N:Nat}(hR:ShipAt S s b c p m N)(hv:Vd s)(bl:List Int)(hb:ButIs b bl)(hcl:c<1000000)(set:Nat)(hset:set<1000000)(q:Nat)(yc:Nat)(hq:∀ M τ,aE (S M++τ) q=some [.ptr p 0])(hql:q<N)(M:bQ)(e:Env)(K:KJ)(e1:Env.get e 1 = .ptr q 0)(e2:Env.get e 2 = .ptr yc 0)(e3:Env.get e 3 = .int .i64 set)(e4:Env.get e 4 = .lit [] false (some N))(e15:Env.get e 15 = .int .i64 s.holds.length)(e16:Env.get e 16 = .int .i64 0)(hyl:yc<N)(hKs:∀ ls M' e' ex,iO s bl c set s.holds 0 [] M=(some ls,M')->Env.get e' 2 = .ptr yc 0->Env.get e' 3 = .int .i64 set->Env.get e' 4 = .lit (ls.map (fS s)) false (some N)->K (some (.exit 2)) e' (S M'++[.tok 1 ls.length ex]))(hKn:∀ M' e' n ex,iO s bl c set s.holds 0 [] M=(none,M')->K (some (.exit 1)) e' (S M'++[.tok 1 n ex])):
  rK (K:=⟨K⟩) T (.loop M6) e (S M++[.tok 1 0 false]):=by
 have hno:=hv.nholds;have hpl:=hR.pl;obtain⟨R,hRR⟩:∃ R,iO s bl c set s.holds 0 [] M=R:=⟨_,rfl⟩;rw[hRR] at hKs hKn;refine dQ (S:=Nat×List (List Way)×Bool×bQ) (0,[],false,M) (fun a=>a.1<=s.holds.length/\a.2.1.length<=a.1/\iO s bl c set (s.holds.drop a.1) a.1 a.2.1 a.2.2.2=R) (fun a=>s.holds.length-a.1)
  (fun a=>[(1,.ptr q 0),(2,.ptr yc 0),(3,.int .i64 set),(4,.lit (a.2.1.map (fS s)) false (some N)),(15,.int .i64 s.holds.length),(16,.int .i64 a.1)])
  (fun a=>S a.2.2.2++[.tok 1 a.2.1.length a.2.2.1]) ⟨Nat.zero_le _,Nat.le_refl _,by simpa using hRR⟩ rfl ?_ fun a ha=>?_
 ·try simp only[aB,QE,seval,lP,hR.len,hR.base,hR.base0,hR.bset,hR.bset0,hR.at1,hR.at0,fD,e1,e2,e3,e4,e15,e16]
  try simp
 ·obtain⟨h,acc,ex,M1⟩:=a;obtain⟨hh,hal,hacc⟩:=ha;simp only at hh hal hacc;have hq':=fun M τ=>hq M τ
  try simp only[↓QA,QB,seval,lP,hR.len,hR.base,hR.base0,hR.bset,hR.bset0,hR.at1,hR.at0,fD,M6]
  refine aJ (fun hd=>?_) fun hd=>?_
  ·have hh1:h<s.holds.length:=by simpa using hd
   have hw:=dB hh1 (by omega);rw[List.drop_eq_getElem_cons hh1] at hacc;simp only[iO] at hacc;obtain⟨x,hx⟩:∃ x,s.holds[h]=x:=⟨_,rfl⟩;have hcr:=HW (hR.app [.tok 1 acc.length ex]) hv bl hb M1 h set hh1 hset hcl;rw[hx] at hcr hacc;obtain⟨ws,hws⟩:∃ ws,mP s bl x h (fL set h) (fL (lY set c) h)=ws:=⟨_,rfl⟩;obtain⟨M2,hM2⟩:∃ M2,vL s bl x h (fL set h) (fL (lY set c) h) M1=M2:=⟨_,rfl⟩;rw[hws,hM2] at hcr hacc;try simp only[↓QA,QB,seval,lP,hR.len,hR.base,hR.base0,hR.bset,hR.bset0,hR.at1,hR.at0,fD] at hcr
   have hap:=j8 (σ:=S M2++(.tok 1 acc.length ex::[])) (t:=N) (ex:=ex) (sz:=1) (b:=24) (xs:=acc.map (fS s)) (ys:=[fS s ws]) (f:=true) (tk:=none) ⟨E3 s acc,rfl,by simp[room];omega,by simp[room];omega⟩ (by simp) acc.length (by simp) (by rw[<-hR.len M2];simp);try simp only[↓QA,QB,seval,lP,hR.len,hR.base,hR.base0,hR.bset,hR.bset0,hR.at1,hR.at0,fD] at hap
   try simp only[↓QA,QB,seval,lP,hR.len,hR.base,hR.base0,hR.bset,hR.bset0,hR.at1,hR.at0,fD,hq']
   refine bR hcr ?_;try simp only[↓QA,QB,seval,lP,hR.len,hR.base,hR.base0,hR.bset,hR.bset0,hR.at1,hR.at0,fD,hq']
   cases h0:((ws.length:Int)==0)
   ·have h0':ws≠[]:=by rintro rfl;simp at h0
    rw[if_neg h0'] at hacc;try simp only[↓QA,QB,seval,lP,hR.len,hR.base,hR.base0,hR.bset,hR.bset0,hR.at1,hR.at0,fD,hq',hap]
    refine⟨(h+1,acc++[ws],true,M2),⟨by simp only;omega,by simp only[List.length_append,List.length_cons,List.length_nil];omega,hacc⟩,by simp only;omega,?_⟩;try simp only[aB,QE,seval,lP,hR.len,hR.base,hR.base0,hR.bset,hR.bset0,hR.at1,hR.at0,fD,hw,hR.eqS,yU,tE,List.map_append,List.map_cons,List.map_nil,IN,L8]
    try simp[aU,okVs,okV]
    try omega
   ·have h0':ws=[]:=by simpa using h0
    rw[if_pos h0'] at hacc;try simp only[↓QA,QB,seval,lP,hR.len,hR.base,hR.base0,hR.bset,hR.bset0,hR.at1,hR.at0,fD,hq']
    exact hKn M2 _ _ _ hacc.symm
  ·have hh1:h=s.holds.length:=by simp at hd;omega
   rw[hh1,List.drop_length] at hacc;simp only[iO] at hacc;try simp only[↓QA,QB,seval,lP,hR.len,hR.base,hR.base0,hR.bset,hR.bset0,hR.at1,hR.at0,fD]
   refine hKs acc M1 _ ex hacc.symm ?_ ?_ ?_;all_goals try simp only[aB,QE,seval,lP,hR.len,hR.base,hR.base0,hR.bset,hR.bset0,hR.at1,hR.at0,fD]
end Go.Am.Room.Ho
namespace Go.Am.Room.Ho
def kN:=zz @encShip_eq (zz @aL (zz @encHold_eq (zz @aW (zz @aK (zz @bF (zz @bE (zz @List.length_append.{0} (zz @BR (zz @BJ (zz @BF (zz @BQ (zz @BM (zz @BW (zz @BV (zz @BS (zz @BL (zz @BK (zz @dA (zz @Nat.add_lt_add_iff_left (zz @Nat.lt_add_right_iff_pos (zz @Nat.mul_one (@Int.toNat_natCast))))))))))))))))))))))
structure Fam1 {X:Type} (Z ZD:X->bQ->St) (s:Ship) (b c p m q N:Nat):Prop where
 ship:∀ x,ShipAt (Z x) s b c p m N
 lenD:∀ x M,(ZD x M).length=N
 atq0:∀ x M,aE (Z x M) q=some [.ptr p 0]
 keep:∀ x M y M' k i,N<=k->i<N->cE (Z x M) (Z y M') k i
 keepD:∀ x M y M' k i,N<=k->i<N->cE (Z x M) (ZD y M') k i
 ql:q<N
 pl:p<N
namespace Fam1
variable {X:Type} {Z ZD:X->bQ->St} {s:Ship} {b c p m q N:Nat}
theorem atq1(h:Fam1 Z ZD s b c p m q N)(x:X)(M:bQ)(τ:St):aE (Z x M++τ) q=some [.ptr p 0]:=by
 have:=h.atq0 x M;have hl:=h.ql;rw[<-(h.ship x).len M] at hl;simp only[aE] at this ⊢;rw[List.getElem?_append_left hl];exact this
def out(Z ZD:X->bQ->St)(r:X×Bool)(M:bQ):St:=if r.2=true then Z r.1 M else ZD r.1 M
end Fam1
abbrev TV:=Nat×List (List Way)
def B9{X:Type}(Z ZD:X->bQ->St)(id:Nat)(s:Ship)(P:TV->Prop)(f:TV->X->X×Bool):Prop :=
 ∀ t,P t->∀ (fl:Bool) (tk:Option Nat) x M τ,Run T (.callv (.yield id) [.int .i64 t.1,.lit (t.2.map (fS s)) fl tk] (Z x M++τ)) fun o=>o.v = .bool (f t x).2/\∃ τ',o.σ=Fam1.out Z ZD (f t x) M++(τ++τ')
def qA{X:Type}(s:Ship)(bl:List Int)(c:Nat)(f:TV->X->X×Bool)(set:Nat)(x:X×bQ):(X×bQ)×Bool :=
 match iO s bl c set s.holds 0 [] x.2 with
 |(none,M')=>((x.1,M'),true)
 |(some ls,M')=>(((f (set,ls) x.1).1,M'),(f (set,ls) x.1).2)
def RA2:ACode:=.reg [⟨some 3,.mov (.t 9),none⟩]
def lpT(st:LS)(pend:Option AJump)(e:Env):ABlk:=.loop st pend e [9] RA2 zT
def tJ{X:Type}(Z:X->bQ->St)(id p:Nat)(lp:ABlk)(x:X×bQ):St:=Z x.1 x.2++[.cells [.yield id],.cells [.ptr p 0],lp]
theorem aSN{X:Type}{Z ZD:X->bQ->St}{s:Ship}{b c p m q N:Nat}(h:Fam1 Z ZD s b c p m q N)(id:Nat)(e:Env):Fam (tJ Z id p (lpT .ready none e)) (tJ ZD id p (lpT .done (some .ret) e)) s b c p m (N+1) (N+3):=by
 have hl:∀ x M,(Z x M).length=N:=fun x M=>(h.ship x).len M
 have pre:∀ (A B:St) (U V:St) (k i:Nat),A.length=N->B.length=N->i<N->cE A B k i->cE (A++U) (B++V) k i:=by
  intro A B U V k i hA hB hi hk;have e1:(A++U)[i]? = A[i]?:=List.getElem?_append_left (by omega);have e2:(B++V)[i]? = B[i]?:=List.getElem?_append_left (by omega);simp only[cE,e1,e2] at hk ⊢;exact hk
 have post:∀ (A B:St) (l1 l2:ABlk) (i:Nat),A.length=N->B.length=N->N<=i->i<N+3->((A++[.cells [.yield id],.cells [.ptr p 0],l1])[i]? = (B++[ABlk.cells [.yield id],.cells [.ptr p 0],l2])[i]?\/(i=N+2/\(A++[.cells [.yield id],.cells [.ptr p 0],l1])[i]? = some l1/\(B++[.cells [.yield id],.cells [.ptr p 0],l2])[i]? = some l2)):=by
  intro A B l1 l2 i hA hB h1 h2;have e1:(A++[.cells [.yield id],.cells [.ptr p 0],l1])[i]? = [.cells [.yield id],.cells [.ptr p 0],l1][i-N]?:=by rw[List.getElem?_append_right (by omega),hA]
  have e2:(B++[.cells [.yield id],.cells [.ptr p 0],l2])[i]? = [.cells [.yield id],.cells [.ptr p 0],l2][i-N]?:=by rw[List.getElem?_append_right (by omega),hB]
  have:i=N\/i=N+1\/i=N+2:=by omega
  rcases this with rfl|rfl|rfl
  ·left;rw[e1,e2];simp
  ·left;rw[e1,e2];simp
  ·right;refine⟨rfl,?_,?_⟩
   ·rw[e1];simp
   ·rw[e2];simp
 refine⟨fun x=>by simp[tJ,hl],fun x=>by simp[tJ,h.lenD],fun x=>(h.ship x.1).at1 x.2 _,fun x=>?_,fun x y k i hk hi=>?_,fun x y k i hk hi=>?_,by have:=h.pl;omega,by omega⟩
 ·have:=hl x.1 x.2;simp[tJ,aE,List.getElem?_append_right,this]
 ·by_cases hn:i<N
  ·exact pre _ _ _ _ k i (hl _ _) (hl _ _) hn (h.keep x.1 x.2 y.1 y.2 k i (by omega) hn)
  ·rcases post (Z x.1 x.2) (Z y.1 y.2) (lpT .ready none e) (lpT .ready none e) i (hl _ _) (hl _ _) (by omega) hi with h1|⟨_,h1,h2⟩
   ·exact .inl h1.symm
   ·exact .inl (by rw[tJ,tJ,h1,h2])
 ·by_cases hn:i<N
  ·exact pre _ _ _ _ k i (hl _ _) (h.lenD _ _) hn (h.keepD x.1 x.2 y.1 y.2 k i (by omega) hn)
  ·rcases post (Z x.1 x.2) (ZD y.1 y.2) (lpT .ready none e) (lpT .done (some .ret) e) i (hl _ _) (h.lenD _ _) (by omega) hi with h1|⟨_,h1,h2⟩
   ·exact .inl h1.symm
   ·exact .inr (.inr ⟨_,_,_,_,_,_,_,_,h1,h2⟩)
theorem LJ{S:bQ->St}{s:Ship}{b c p m N:Nat}(hR:ShipAt S s b c p m N)(hv:Vd s)(bl:List Int)(hb:ButIs b bl)(hcl:c<1000000)(set:Nat)(hset:set<1000000)(q yc id:Nat)(hq:∀ M τ,aE (S M++τ) q=some [.ptr p 0])(hyc:∀ M τ,aE (S M++τ) yc=some [.yield id])(hql:q<N)(hycl:yc<N)(M:bQ)(e:Env)(e1:Env.get e 1 = .ptr q 0)(e2:Env.get e 2 = .ptr yc 0)(e3:Env.get e 3 = .int .i64 set)(V:List (List Way)->Bool)(W:List (List Way)->bQ->St)(hcall:∀ ls M' fl tk τ,iO s bl c set s.holds 0 [] M=(some ls,M')->Run T (.callv (.yield id) [.int .i64 set,.lit (ls.map (fS s)) fl tk] (S M'++τ)) fun o=>o.v = .bool (V ls)/\∃ τ',o.σ=W ls M'++τ'):
  wp T zT e (S M) (fun j e' σ'=>match iO s bl c set s.holds 0 [] M with
   |(none,M')=>j=none/\∃ τ',σ'=S M'++τ'
   |(some ls,M')=>((V ls=true/\j=none)\/(V ls=false/\j=some .ret))/\∃ τ',σ'=W ls M'++τ'):=by
 obtain⟨R,hRR⟩:∃ R,iO s bl c set s.holds 0 [] M=R:=⟨_,rfl⟩;have hq0:=fun M=>by simpa using hq M []
 try simp only[↓QA,QB,seval,kN,hR.len,hR.base,hR.base0,hR.bset,hR.bset0,hR.at1,hR.at0,zT,e1,hq,hq0]
 refine rY 4 1 [] rfl ?_;try simp only[↓QA,QB,seval,kN,hR.len,hR.base,hR.base0,hR.bset,hR.bset0,hR.at1,hR.at0,hR.len]
 refine XN hR hv bl hb hcl set hset q yc hq hql M _ _ ?_ ?_ ?_ ?_ ?_ ?_ hycl ?_ ?_
 ·try simp only[aB,QE,seval,kN,hR.len,hR.base,hR.base0,hR.bset,hR.bset0,hR.at1,hR.at0,e1]
 ·try simp only[aB,QE,seval,kN,hR.len,hR.base,hR.base0,hR.bset,hR.bset0,hR.at1,hR.at0,e2]
 ·try simp only[aB,QE,seval,kN,hR.len,hR.base,hR.base0,hR.bset,hR.bset0,hR.at1,hR.at0,e3]
 ·try simp only[aB,QE,seval,kN,hR.len,hR.base,hR.base0,hR.bset,hR.bset0,hR.at1,hR.at0]
 ·try simp only[aB,QE,seval,kN,hR.len,hR.base,hR.base0,hR.bset,hR.bset0,hR.at1,hR.at0]
 ·try simp only[aB,QE,seval,kN,hR.len,hR.base,hR.base0,hR.bset,hR.bset0,hR.at1,hR.at0]
 ·intro ls M' e' ex hls q2 q3 q4;rw[hRR] at hls;have hc:=hcall ls M' false (some N) [.tok 1 ls.length ex] (by rw[hRR];exact hls);rw[hls] at hRR;try simp only[↓QA,QB,seval,kN,hR.len,hR.base,hR.base0,hR.bset,hR.bset0,hR.at1,hR.at0,q2,q3,q4,hyc]
  refine .mono hc fun o ho=>?_
  obtain⟨hv1,τ',hσ⟩:=ho;rw[hv1,hσ,hRR];cases hV:V ls
  ·try simp only[↓QA,QB,seval,kN,hR.len,hR.base,hR.base0,hR.bset,hR.bset0,hR.at1,hR.at0,q2,q3,q4]
   exact⟨by simp[hV],_,rfl⟩
  ·try simp only[↓QA,QB,seval,kN,hR.len,hR.base,hR.base0,hR.bset,hR.bset0,hR.at1,hR.at0,q2,q3,q4]
   exact⟨by simp[hV],_,rfl⟩
 ·intro M' e' n ex hls;try simp only[↓QA,QB,seval,kN,hR.len,hR.base,hR.base0,hR.bset,hR.bset0,hR.at1,hR.at0,hls]
  exact⟨_,rfl⟩
theorem EP{X:Type}{Z ZD:X->bQ->St}{s:Ship}{b c p m q N:Nat}(hF:Fam1 Z ZD s b c p m q N)(hv:Vd s)(bl:List Int)(hb:ButIs b bl)(hcl:c<1000000){id:Nat}{P:TV->Prop}{f:TV->X->X×Bool}(hy:B9 Z ZD id s P f)(e:Env)(e1:Env.get e 1 = .ptr q 0)(e2:Env.get e 2 = .ptr N 0):
  MI (tJ Z id p (lpT .ready none e)) (tJ ZD id p (lpT .done (some .ret) e)) (N+2) (fun a:Nat=>[.int .i64 a]) (fun set=>set<1000000/\∀ M ls,(iO s bl c set s.holds 0 [] M).1=some ls->P (set,ls)) (qA s bl c f):=by
 rintro set ⟨hset,hPs⟩ ⟨x,M⟩ τ;have hl:∀ x M,(Z x M).length=N:=fun x M=>(hF.ship x).len M
 have hidA:∀ (A:St) (υ:St),A.length=N->(A++υ)[N+2]? = υ[2]?:=fun A υ hA=>by rw[<-hA];exact sA _ _ _
 have hsetA:∀ (A:St) (υ:St) (y:ABlk),A.length=N->(A++υ).set (N+2) y=A++υ.set 2 y:=fun A υ y hA=>by rw[<-hA];exact lF _ _ _ _
 obtain⟨r,hr⟩:∃ r,qA s bl c f set (x,M)=r:=⟨_,rfl⟩;rw[hr];have hZ:∀ (y:X) (M:bQ) (st:LS) (pe:Option AJump),tJ Z id p (lpT st pe e) (y,M)=Z y M++[.cells [.yield id],.cells [.ptr p 0],lpT st pe e]:=fun _ _ _ _=>rfl
 refine .round (env:=e) (ps:=[9]) (a:=RA2) (b:=zT)
  (R:=fun o=>o.j=none/\Env.get o.env 1 = .ptr q 0/\Env.get o.env 2 = .ptr N 0/\Env.get o.env 3 = .int .i64 set/\o.σ=Z x M++(.cells [.yield id]::.cells [.ptr p 0]::lpT .ready none e::τ))
  (S:=fun o=>∃ τ',(r.2=true/\o.j=none/\o.σ=Z r.1.1 r.1.2++(.cells [.yield id]::.cells [.ptr p 0]::lpT .busy none e::(τ++τ')))\/(r.2=false/\o.j=some .ret/\o.σ=ZD r.1.1 r.1.2++(.cells [.yield id]::.cells [.ptr p 0]::lpT .busy none e::(τ++τ')))) ?_ rfl ?_ ?_ ?_ ?_
 ·rw[hZ,List.append_assoc,hidA _ _ (hl x M)];rfl
 ·refine eG (K:=fun j e' σ'=>j=none/\Env.get e' 1 = .ptr q 0/\Env.get e' 2 = .ptr N 0/\Env.get e' 3 = .int .i64 set/\σ'=Z x M++(.cells [.yield id]::.cells [.ptr p 0]::lpT .ready none e::τ)) ?_ fun o ho=>ho
  rw[hZ];simp only[RA2,iS,lpT];try simp only[↓QA,QB,Nat.reduceLT,reduceIte,Nat.reduceEqDiff,e1,e2]
  try simp
 ·rintro o ⟨hj,_,_,_,hσ⟩;refine⟨hj,?_⟩;rw[hσ,hidA _ _ (hl x M)];rfl
 ·rintro o ⟨hj,q1,q2,q3,hσ⟩;rw[hσ,hsetA _ _ _ (hl x M)];have hset2:(ABlk.cells [.yield id]::.cells [.ptr p 0]::lpT .ready none e::τ).set 2 (.loop .busy none e [9] RA2 zT) = .cells [.yield id]::.cells [.ptr p 0]::lpT .busy none e::τ:=rfl;rw[hset2];obtain⟨U,hU⟩:∃ U,(ABlk.cells [.yield id]::.cells [.ptr p 0]::lpT .busy none e::τ)=U:=⟨_,rfl⟩;rw[hU];have hUl:0<U.length:=by rw[<-hU];simp
  have hbd:=LJ ((hF.ship x).app U) hv bl hb hcl set hset q N id (fun M τ'=>by rw[List.append_assoc];exact hF.atq1 x M _) (fun M τ'=>by
   have e0:aE (Z x M++(U++τ')) N=aE (U++τ') 0:=by
    have:=mA (Z x M) (U++τ') 0
    rwa [hl x M] at this
   rw[List.append_assoc,e0,<-hU];rfl) (by have:=hF.ql;omega) (by omega) M o.env q1 q2 q3 (fun ls=>(f (set,ls) x).2) (fun ls M'=>Fam1.out Z ZD (f (set,ls) x) M'++U) (fun ls M' fl tk τ' hls=>by
    have:=hy (set,ls) (hPs M ls (by rw[hls])) fl tk x M' (U++τ');rw[List.append_assoc];refine .mono this fun o ho=>?_
    obtain⟨h1,τ'',h2⟩:=ho
    exact⟨h1,τ'++τ'',by rw[h2];simp⟩)
  refine eG hbd fun o ho=>?_
  rw[<-hr];simp only[qA];cases hca:iO s bl c set s.holds 0 [] M with
  |mk a M' =>
   rw[hca] at ho;cases a with
   |none =>
    obtain⟨hj,τ',hσ⟩:=ho;exact⟨τ',.inl ⟨rfl,hj,by rw[hσ,<-hU];simp⟩⟩
   |some ls =>
    simp only at ho ⊢;obtain⟨hj,τ',hσ⟩:=ho;rcases hj with⟨hV,hj⟩|⟨hV,hj⟩
    ·exact⟨τ',.inl ⟨hV,hj,by rw[hσ,<-hU,Fam1.out,if_pos hV];simp⟩⟩
    ·exact⟨τ',.inr ⟨hV,hj,by rw[hσ,<-hU,Fam1.out,hV];simp⟩⟩
 ·rintro o ⟨τ',⟨hr2,hj,hσ⟩|⟨hr2,hj,hσ⟩⟩
  ·rw[hσ,hidA _ _ (hl _ _),hsetA _ _ _ (hl _ _),hj];refine⟨rfl,by rw[hr2];rfl,τ',?_⟩;simp only[Fam.out,hr2,if_true,tJ];simp[lpT]
  ·rw[hσ,hidA _ _ (hF.lenD _ _),hsetA _ _ _ (hF.lenD _ _),hj];refine⟨rfl,by rw[hr2];rfl,τ',?_⟩;simp only[Fam.out,hr2,Bool.false_eq_true,if_false,tJ];simp[lpT]
end Go.Am.Room.Ho
namespace Go.Am.Room.Ho
def HN:=zz @encShip_eq (zz @aL (zz @encHold_eq (zz @aW (zz @aK (zz @bF (zz @bE (zz @List.length_append.{0} (zz @BR (zz @BJ (zz @BF (zz @BQ (zz @BM (zz @BW (zz @BV (zz @BS (zz @BL (zz @BK (zz @dA (zz @Nat.add_lt_add_iff_left (zz @Nat.lt_add_right_iff_pos (zz @Nat.mul_one (zz @Int.toNat_natCast (zz @jD (@jA))))))))))))))))))))))))
theorem TK{X:Type}{Z ZD:X->St}{s:Ship}{b c p m q N:Nat}(hR:Fam Z ZD s b c p m q N)(hv:Vd s){id:Nat}{P:Nat->Prop}{f:Nat->X->X×Bool}(hy:MI Z ZD id (fun a:Nat=>[.int .i64 a]) P f)(hP:∀ a∈gP s.holds 0 0,P a)(x:X):
  Run T (.call 478 [.yield id,.ptr q 0] (Z x)) fun o=>∃ τ',o.σ=Fam.out Z ZD (aV f (gP s.holds 0 0) x)++τ':=by
 have hn:mH T (M7 N q) [.int .i64 0,.int .i64 0] (Z x++(sY id N q++[])) (.bool (aV f (gP s.holds 0 0) x).2) (Fam.out Z ZD (aV f (gP s.holds 0 0) x)++(sY id N q++[])) :=
  IL hR hv hy s.holds.length 0 0 x [] (by omega) (by simp) hP
 obtain⟨r,hr⟩:∃ r,aV f (gP s.holds 0 0) x=r:=⟨_,rfl⟩;rw[hr] at hn ⊢;refine .call (af:=XL) rfl (by simp[XL]) (eG (K:=fun j e σ'=>(j=none\/j=some .ret)/\∃ τ',σ'=Fam.out Z ZD r++τ') ?_ fun o ho=>ho) fun o ho=>⟨ho.1,.tuple [],rfl,.inl ho.2⟩
 simp only[sY,M7,nA,List.append_nil] at hn;try simp only[↓QA,QB,seval,HN,hR.len,hR.base,hR.base0,hR.bset,hR.bset0,hR.at1,hR.atq1,XL]
 refine aC WK rfl cM ?_;try simp only[↓QA,QB,seval,HN,hR.len,hR.base,hR.base0,hR.bset,hR.bset0,hR.at1,hR.atq1,nA]
 refine bR hn ?_;try simp only[↓QA,QB,seval,HN,hR.len,hR.base,hR.base0,hR.bset,hR.bset0,hR.at1,hR.atq1]
 exact⟨_,rfl⟩
end Go.Am.Room.Ho
namespace Go.Am.Room.Ho
def sQ:=zz @encShip_eq (zz @aL (zz @encHold_eq (zz @aW (zz @aK (zz @bF (zz @bE (zz @List.length_append.{0} (zz @BR (zz @BJ (zz @BF (zz @BQ (zz @BM (zz @BW (zz @BV (zz @BS (zz @BL (zz @BK (zz @dA (zz @Nat.add_lt_add_iff_left (zz @Nat.lt_add_right_iff_pos (zz @Nat.mul_one (zz @Int.toNat_natCast (zz @jD (@jA))))))))))))))))))))))))
def iR{X:Type}(s:Ship)(bl:List Int)(c:Nat)(f:TV->X->X×Bool)(x:X)(M:bQ):(X×bQ)×Bool:=aV (qA s bl c f) (gP s.holds 0 0) (x,M)
theorem HC{s:Ship}(hv:Vd s):∀ a∈gP s.holds 0 0,a<16:=by
 intro a ha;have:=DH s.holds 0 0 (by simp) a ha;have hno:=hv.nholds;refine Nat.lt_of_lt_of_le this ?_
 calc 2^(0+s.holds.length)<=2^4:=Nat.pow_le_pow_right (by omega) (by omega)
  _=16:=by decide
theorem uO{X:Type}{Z ZD:X->bQ->St}{s:Ship}{b c p m q N:Nat}(hF:Fam1 Z ZD s b c p m q N)(hv:Vd s)(bl:List Int)(hb:ButIs b bl)(hcl:c<1000000){id:Nat}{P:TV->Prop}{f:TV->X->X×Bool}(hy:B9 Z ZD id s P f)(hP:∀ set,set∈gP s.holds 0 0->∀ M ls,(iO s bl c set s.holds 0 [] M).1=some ls->P (set,ls))(x:X)(M:bQ):
  Run T (.call 387 [.yield id,.ptr q 0] (Z x M)) fun o=>∃ τ',o.σ=Fam1.out Z ZD ((iR s bl c f x M).1.1,(iR s bl c f x M).2) (iR s bl c f x M).1.2++τ':=by
 have hR:=hF.ship x;have hq:=fun M τ=>hF.atq1 x M τ
 have hq0:=fun M=>by simpa using hq M []
 obtain⟨r,hr⟩:∃ r,iR s bl c f x M=r:=⟨_,rfl⟩;rw[hr];refine .call (af:=UZ) rfl (by simp[UZ]) (eG (K:=fun j e σ'=>(j=none\/j=some .ret)/\∃ τ',σ'=Fam1.out Z ZD (r.1.1,r.2) r.1.2++τ') ?_ fun o ho=>ho) fun o ho=>⟨ho.1,.tuple [],rfl,.inl ho.2⟩
 try simp only[↓QA,QB,seval,sQ,hR.len,hR.base,hR.base0,hR.bset,hR.bset0,hR.at1,hR.at0,UZ,hq,hq0]
 refine m6 rfl (by simp[aDM]) ?_;try simp only[↓QA,QB,seval,sQ,hR.len,hR.base,hR.base0,hR.bset,hR.bset0,hR.at1,hR.at0,aDM,hq,hq0]
 have hlen:(Z x M++[ABlk.cells [.yield id],.cells [.ptr p 0]]).length=N+2:=by simp[hR.len]
 have hout:∀ (W:St) (lp:ABlk) (τ':St),W.length=N->(W++[ABlk.cells [.yield id],.cells [.ptr p 0],lp]++τ')[N+2]? = some lp/\(W++[ABlk.cells [.yield id],.cells [.ptr p 0],lp]++τ').set (N+2) .dead=W++(.cells [.yield id]::.cells [.ptr p 0]::.dead::τ'):=by
  intro W lp τ' hW;constructor
  ·rw[List.append_assoc,<-hW,sA];rfl
  ·rw[List.append_assoc,<-hW,lF];rfl
 refine D8 (R:=fun o=>∃ e τ',Env.get e 1 = .ptr q 0/\o.σ=Fam.out (tJ Z id p (lpT .ready none e)) (tJ ZD id p (lpT .done (some .ret) e)) r++τ') rfl ?_ fun o ho=>?_
 ·rw[hlen,List.append_assoc (Z x M)];refine .mono (TK (aSN hF id _) hv (EP hF hv bl hb hcl hy _ ?_ ?_) (fun a ha=>⟨by have:=HC hv a ha;omega,hP a ha⟩) (x,M)) fun o ho=>?_
  ·try simp only[aB,QE,seval,sQ,hR.len,hR.base,hR.base0,hR.bset,hR.bset0,hR.at1,hR.at0]
  ·try simp only[aB,QE,seval,sQ,hR.len,hR.base,hR.base0,hR.bset,hR.bset0,hR.at1,hR.at0]
  ·obtain⟨τ',hσ⟩:=ho;refine⟨_,τ',?_,by rw[hσ,<-hr];rfl⟩;try simp only[aB,QE,seval,sQ,hR.len,hR.base,hR.base0,hR.bset,hR.bset0,hR.at1,hR.at0]
 ·obtain⟨e,τ',he,hσ⟩:=ho;rw[hlen,hσ];cases hr2:r.2
  ·have ho:Fam.out (tJ Z id p (lpT .ready none e)) (tJ ZD id p (lpT .done (some .ret) e)) r=ZD r.1.1 r.1.2++[.cells [.yield id],.cells [.ptr p 0],lpT .done (some .ret) e]:=by rw[Fam.out,hr2];rfl
   obtain⟨g1,g2⟩:=hout (ZD r.1.1 r.1.2) (lpT .done (some .ret) e) τ' (hF.lenD _ _);rw[ho,g1,g2];refine⟨_,_,_,_,_,_,rfl,by simp,?_⟩;try simp only[↓QA,QB,seval,sQ,hR.len,hR.base,hR.base0,hR.bset,hR.bset0,hR.at1,hR.at0]
   exact⟨.cells [.yield id]::.cells [.ptr p 0]::.dead::τ',by simp[Fam1.out]⟩
  ·have ho:Fam.out (tJ Z id p (lpT .ready none e)) (tJ ZD id p (lpT .done (some .ret) e)) r=Z r.1.1 r.1.2++[.cells [.yield id],.cells [.ptr p 0],lpT .ready none e]:=by rw[Fam.out,hr2];rfl
   obtain⟨g1,g2⟩:=hout (Z r.1.1 r.1.2) (lpT .ready none e) τ' ((hF.ship _).len _);rw[ho,g1,g2];refine⟨_,_,_,_,_,_,rfl,by simp,?_⟩;try simp only[↓QA,QB,seval,sQ,hR.len,hR.base,hR.base0,hR.bset,hR.bset0,hR.at1,hR.at0]
   exact⟨.cells [.yield id]::.cells [.ptr p 0]::.dead::τ',by simp[Fam1.out]⟩
end Go.Am.Room.Ho
namespace Go.Am.Room.Ho
def lK:=zz @encShip_eq (zz @aL (zz @encHold_eq (zz @aW (zz @aK (@List.set_set)))))
def dL(t:Int×Int)(b:Bool):Int×Int:=(if b=true then IntKind.i64.wrap (t.1+1) else t.1,IntKind.i64.wrap (t.2+1))
def fY(t:Int×Int):List AV:=[.int .i64 t.1,.int .i64 t.2]
theorem FA(σ:St)(i:Nat)(t:Int×Int)(b:Bool)(h:aE σ i=some (fY t)):mH T (.func 259 [] []) [.ptr i 0,.bool b] σ (.tuple []) (σ.set i (.cells (fY (dL t b)))):=by
 have hl:=mT h;obtain⟨y,a⟩:=t;simp only[fY] at h;refine .callf (.call (af:=TR) rfl (by simp[TR]) (eG (K:=fun j e σ1=>(j=none\/j=some .ret)/\σ1=σ.set i (.cells (fY (dL (y,a) b)))) ?_ fun o ho=>ho) fun o ho=>⟨ho.1,.tuple [],rfl,.inl ⟨rfl,ho.2⟩⟩);cases b
 ·try simp only[↓QA,QB,seval,lK,TR,h,vE hl,fY,dL,Bool.false_eq_true]
 ·try simp only[↓QA,QB,seval,lK,TR,h,vE hl,fY,dL]
def E6(t:Int×Int):Int:=if t.1=t.2 then 1 else if t.1=0 then 2 else 0
theorem WM(t:Int×Int):cZ T 260 [.agg (fY t)] (.int .i64 (E6 t)):=by
 obtain⟨y,a⟩:=t;simp only[fY];refine aX (af:=WF) rfl (by simp[WF]) dd ?_;try simp only[↓QA,QB,seval,lK,WF]
 cases h0:(y==a)
 ·have h0':y≠a:=by simpa using h0
  try simp only[↓QA,QB,seval,lK,h0]
  cases h1:(y==0)
  ·have h1':y≠0:=by simpa using h1
   try simp only[↓QA,QB,seval,lK,h1,E6,h0',h1']
  ·have h1':y=0:=by simpa using h1
   subst h1';try simp only[↓QA,QB,seval,lK,h1,E6,h0']
 ·have h0':y=a:=by simpa using h0
  try simp only[↓QA,QB,seval,lK,h0,E6,h0']
def eY(t:Span×Bool)(n:Int):Span×Bool:=(kF (if t.2=true then t.1 else ⟨n,n⟩) n,true)
def jN(t:Span×Bool):List AV:=[.int .i64 t.1.lo,.int .i64 t.1.hi,.bool t.2]
theorem LW(σ:St)(i:Nat)(t:Span×Bool)(n:Int)(h:aE σ i=some (jN t)):mH T (.func 256 [] []) [.ptr i 0,.int .i64 n] σ (.tuple []) (σ.set i (.cells (jN (eY t n)))):=by
 have hl:=mT h;obtain⟨⟨lo,hi⟩,any⟩:=t;simp only[jN] at h;refine .callf (.call (af:=Q7) rfl (by simp[Q7]) (eG (K:=fun j e σ1=>(j=none\/j=some .ret)/\σ1=σ.set i (.cells (jN (eY (⟨lo,hi⟩,any) n)))) ?_ fun o ho=>ho) fun o ho=>⟨ho.1,.tuple [],rfl,.inl ⟨rfl,ho.2⟩⟩);cases any
 ·(repeat (first|simp only[↓QA,QB,seval,lK,Q7,h,vE hl,jN,eY,kF,Bool.false_eq_true]|refine rd0 rfl ?_))
 ·(repeat (first|simp only[↓QA,QB,seval,lK,Q7,h,vE hl,jN,eY,kF]|refine rd0 rfl ?_))
theorem SY(σ:St)(i:Nat)(mo n:Int)(h:aE σ i=some [.int .i64 mo]):gB T (.func 258 [] [.ptr i 0]) [.int .i64 n] σ (.bool (decide (n<=mo))):=by
 refine dM (af:=WJ) rfl (by simp[WJ]) ?_;try simp only[↓QA,QB,seval,lK,WJ,h]
 refine cY [] (by first|rfl|simp) ?_;try simp only[QS,QC,seval,lK]
end Go.Am.Room.Ho
namespace Go.Am.Room.Ho
def j3:=zz @encShip_eq (zz @aL (zz @encHold_eq (zz @aW (zz @aK (zz @l0 (zz @bF (zz @bE (zz @List.length_append.{0} (zz @BR (zz @BJ (zz @BF (zz @BQ (zz @BM (zz @BW (zz @BV (zz @BS (zz @BL (zz @BK (zz @dA (zz @Nat.add_lt_add_iff_left (zz @Nat.lt_add_right_iff_pos (zz @Nat.mul_one (zz @Int.toNat_natCast (zz @sL (zz @rE (zz @qV (@qL)))))))))))))))))))))))))))
def B3(f g:Nat->Int):Bool:=(List.range 7).all fun i=>f i==g i
theorem aH7(f g:Nat->Int):bI [.i,.i,.i,.i,.i,.i,.i] (gT f) (gT g)=some (B3 f g):=by
 have key:∀ p q:Bool,p=q->some p=some q:=fun p q h=>by rw[h]
 simp only[gT,GW,HO,QW,GX];refine key _ _ ?_;simp[B3,List.range_succ,Bool.and_assoc]
def okW(x:Hold)(f:Nat->Int)(w:Nat):Bool:=(x.keep.lo==0&&x.keep.hi==80)||inR (f w) x.keep.lo x.keep.hi
def yF(s:Ship)(x:Hold)(f:Nat->Int):Bool:=(List.range 7).all fun w=>!(decide (s.frm<=(w:Int))&&decide (w<=s.heat.length))||okW x f w
def BT(a:Nat)(ok:Nat->Bool)(k:Nat):Nat->Int:=fun j=>if (decide (a<=j)&&decide (j<a+k)&&!ok j)=true then 1 else 0
theorem T8{a k:Nat}{ok:Nat->Bool}(h:ok (a+k)=false):nE (BT a ok k) (a+k) 1=BT a ok (k+1):=by
 funext j;simp only[nE,BT];by_cases h1:j=a+k
 ·subst h1;simp[h]
 ·have:decide (j<a+(k+1))=decide (j<a+k):=by rw[Bool.eq_iff_iff];simp;omega
  simp[h1,this]
theorem P6{a k:Nat}{ok:Nat->Bool}(h:ok (a+k)=true):BT a ok (k+1)=BT a ok k:=by
 funext j;simp only[BT];by_cases h1:j=a+k
 ·subst h1;simp[h]
 ·have:decide (j<a+(k+1))=decide (j<a+k):=by rw[Bool.eq_iff_iff];simp;omega
  simp[this]
theorem aG5(σ:St)(p:Nat)(s:Ship)(b c m:Nat)(hp:aE σ p=some (sb s b c m))(hv:Vd s)(h:Nat)(hh:h<s.holds.length)(f:Nat->Int):gB T (.func 286 [.ptr p 0] []) [.int .i64 h,pW f] σ (.bool (yF s s.holds[h] f)):=by
 have hnh:=hv.nheat
 have hfr:=hv.frm;obtain⟨x,hx⟩:∃ x,s.holds[h]=x:=⟨_,rfl⟩;rw[hx];obtain⟨a,ha⟩:∃ a:Nat,s.frm=a:=⟨s.frm.toNat,by omega⟩;obtain⟨L,hL⟩:∃ L,s.heat.length=L:=⟨_,rfl⟩;have hpa:=fun τ=>ST hp τ
 obtain⟨ok,hok⟩:∃ ok:Nat->Bool,okW x f=ok:=⟨_,rfl⟩;have hfin:B3 (BT a ok (L+1-a)) (fun _=>0)=yF s x f:=by
  simp only[B3,yF,hok,ha,hL]
  congr 1
  funext w;simp only[BT];have e1:decide (w<a+(L+1-a))=decide (w<=L):=by rw[Bool.eq_iff_iff];simp;omega
  have e2:decide (((a:Nat):Int)<=(w:Int))=decide (a<=w):=by rw[Bool.eq_iff_iff];simp
  rw[e1,e2];cases decide (a<=w)<;>cases decide (w<=L)<;>cases ok w<;>simp
 have hz:BT a ok 0=fun _=>0:=by
  funext j;simp only[BT];have:(decide (a<=j)&&decide (j<a+0))=false:=by
   by_cases h1:a<=j
   ·have:¬j<a+0:=by omega
    simp[this]
   ·simp[h1]
  rw[this,Bool.false_and];rfl
 rw[ha,hL] at hfr;rw[hL] at hnh;refine dM (af:=YF) rfl (by simp[YF]) ?_
 (repeat (first|simp only[↓QA,QB,reduceLT,reduceIte,reduceEqDiff,reduceAdd,reduceLeDiff,reduceMul,Nat.reduceBEq,j3,YF,hp,hpa,ha,hL,<-n4]|refine rd0 rfl ?_))
 refine dQ (S:=Nat) 0 (fun k=>k<=L+1-a) (fun k=>L+1-a-k)
  (fun k=>[(0,.ptr p 0),(1,.int .i64 h),(5,.ptr σ.length 0),(7,.ptr (σ.length+1) 0),(8,.ptr (σ.length+2) 0),(9,.int .i64 ((a+k:Nat):Int))])
  (fun k=>σ++[.cells (gT f),.cells (gT (BT a ok k)),.cells [.int .i64 0,.int .i64 80]]) (Nat.zero_le _) (by simp only[hz]) ?_ fun k hk=>?_
 ·try simp only[aB,QE,reduceLT,reduceIte,reduceEqDiff,reduceAdd,reduceLeDiff,reduceMul,Nat.reduceBEq,j3]
  try simp
 ·(repeat (first|simp only[↓QA,QB,reduceLT,reduceIte,reduceEqDiff,reduceAdd,reduceLeDiff,reduceMul,Nat.reduceBEq,j3,T0,hp,hpa,ha,hL]|refine rd0 rfl ?_))
  refine aJ (fun hd=>?_) fun hd=>?_
  ·have hk1:a+k<=L:=by simp at hd;omega
   have hw:IntKind.i64.wrap (((a+k:Nat):Int)+1)=((a+(k+1):Nat):Int):=by rw[bD ⟨by omega,by omega⟩];omega
   have i1:(0:Int)<=((a+k:Nat):Int)/\((a+k:Nat):Int)<((7:Nat):Int):=⟨by omega,by omega⟩;have c1:a+k<=6:=by omega
   have hg:=yD f (a+k) (by omega);have hs:=IB (BT a ok k) 1 (a+k) (by omega);have hokv:ok (a+k)=((x.keep.lo==0&&x.keep.hi==80)||inR (f (a+k)) x.keep.lo x.keep.hi):=by rw[<-hok];rfl
   obtain⟨w,hwe⟩:∃ w,a+k=w:=⟨_,rfl⟩;cases h1:(x.keep.lo==0&&x.keep.hi==80)
   ·rw[h1,Bool.false_or] at hokv
    (repeat (first|simp only[↓QA,QB,reduceLT,reduceIte,reduceEqDiff,reduceAdd,reduceLeDiff,reduceMul,Nat.reduceBEq,j3,hp,hpa,hh,hx,h1,i1,c1,hg]|refine rd0 rfl ?_))
    ((first|refine bC (dI x.keep.lo x.keep.hi [f (a+k)] (by simp)) (by simp[clr,clrs,ints]) (by simp[okV,okVs]) ?_|refine iT (dI x.keep.lo x.keep.hi [f (a+k)] (by simp)) (by simp[clr,clrs,ints]) (by simp[okV,okVs]) ?_);(repeat (first|simp only[↓QA,QB,reduceLT,reduceIte,reduceEqDiff,reduceAdd,reduceLeDiff,reduceMul,Nat.reduceBEq,j3,iC,hp,hpa,hh,hx,h1,i1,c1,hg]|refine rd0 rfl ?_)))
    cases h2:inR (f (a+k)) x.keep.lo x.keep.hi
    ·rw[h2] at hokv;rw[T8 hokv] at hs
     (repeat (first|simp only[↓QA,QB,reduceLT,reduceIte,reduceEqDiff,reduceAdd,reduceLeDiff,reduceMul,Nat.reduceBEq,j3,hp,hpa,hh,hx,h1,i1,c1,hg,hs]|refine rd0 rfl ?_))
     refine⟨k+1,by omega,by omega,?_⟩;try simp only[aB,QE,reduceLT,reduceIte,reduceEqDiff,reduceAdd,reduceLeDiff,reduceMul,Nat.reduceBEq,j3,hw]
     have:=mT hp;simp[aU,okVs,okV,sG];try omega
    ·rw[h2] at hokv;have hsame:=P6 hokv
     (repeat (first|simp only[↓QA,QB,reduceLT,reduceIte,reduceEqDiff,reduceAdd,reduceLeDiff,reduceMul,Nat.reduceBEq,j3,hp,hpa,hh,hx,h1,i1,c1,hg]|refine rd0 rfl ?_))
     refine⟨k+1,by omega,by omega,?_⟩;rw[hsame];try simp only[aB,QE,reduceLT,reduceIte,reduceEqDiff,reduceAdd,reduceLeDiff,reduceMul,Nat.reduceBEq,j3,hw]
     have:=mT hp;simp[aU,okVs,okV,sG];try omega
   ·rw[h1,Bool.true_or] at hokv;have hsame:=P6 hokv
    (repeat (first|simp only[↓QA,QB,reduceLT,reduceIte,reduceEqDiff,reduceAdd,reduceLeDiff,reduceMul,Nat.reduceBEq,j3,hp,hpa,hh,hx,h1,i1,c1,hg]|refine rd0 rfl ?_))
    refine⟨k+1,by omega,by omega,?_⟩;rw[hsame];try simp only[aB,QE,reduceLT,reduceIte,reduceEqDiff,reduceAdd,reduceLeDiff,reduceMul,Nat.reduceBEq,j3,hw]
    have:=mT hp;simp[aU,okVs,okV,sG];try omega
  ·have hk1:k=L+1-a:=by simp at hd;omega
   rw[hk1]
   (repeat (first|simp only[↓QA,QB,reduceLT,reduceIte,reduceEqDiff,reduceAdd,reduceLeDiff,reduceMul,Nat.reduceBEq,j3,<-n4,aH7]|refine rd0 rfl ?_))
   refine cY _ rfl ?_;rw[<-hfin];try simp only[QS,QC,reduceLT,reduceIte,reduceEqDiff,reduceAdd,reduceLeDiff,reduceMul,Nat.reduceBEq,j3]
end Go.Am.Room.Ho
namespace Go.Am.Room.Ho
def AX(s:Ship)(bl:List Int)(c set:Nat):List Hold->Nat->Option (List (List Way))
 |[],_=>some []
 |x::xs,h=>if mP s bl x h (fL set h) (fL (lY set c) h)=[] then none else (AX s bl c set xs (h+1)).map fun l=>mP s bl x h (fL set h) (fL (lY set c) h)::l
theorem wZ(s:Ship)(bl:List Int)(c set:Nat):∀ (xs:List Hold) (h:Nat) (acc:List (List Way)) (M:bQ),(iO s bl c set xs h acc M).1=(AX s bl c set xs h).map fun l=>acc++l
 |[],_,acc,M=>by simp[iO,AX]
 |x::xs,h,acc,M=>by
  simp only[iO,AX];split
  ·rfl
  ·rw[wZ s bl c set xs];simp only[Option.map_map]
   congr 1
   funext l;simp
def TL(s:Ship)(bl:List Int)(c:Nat):List TV:=(gP s.holds 0 0).filterMap fun set=>(AX s bl c set s.holds 0).map fun ls=>(set,ls)
theorem J9{X:Type}(s:Ship)(bl:List Int)(c:Nat)(f:TV->X->X×Bool)(x:X)(M:bQ):((iR s bl c f x M).1.1,(iR s bl c f x M).2)=aV f (TL s bl c) x:=by
 have key:∀ (l:List Nat) (x:X) (M:bQ),((aV (qA s bl c f) l (x,M)).1.1,(aV (qA s bl c f) l (x,M)).2)=aV f (l.filterMap fun set=>(AX s bl c set s.holds 0).map fun ls=>(set,ls)) x:=by
  intro l
  induction l with
  |nil=>intro x M;rfl
  |cons set l ih =>
   intro x M;have hf:=wZ s bl c set s.holds 0 [] M;simp only[List.nil_append,Option.map_id'] at hf;simp only[aV,List.filterMap_cons];cases hc:iO s bl c set s.holds 0 [] M with
   |mk a M' =>
    rw[hc] at hf;simp only at hf;rw[<-hf];cases a with
    |none =>
     have hp:qA s bl c f set (x,M)=((x,M'),true):=by simp only[qA,hc]
     rw[hp];simp only[if_true,Option.map_none];exact ih x M'
    |some ls =>
     have hp:qA s bl c f set (x,M)=(((f (set,ls) x).1,M'),(f (set,ls) x).2):=by simp only[qA,hc]
     rw[hp];simp only[Option.map_some,aV];split
     ·exact ih _ M'
     ·rfl
 exact key _ x M
theorem aP0{s:Ship}{bl:List Int}{c set:Nat}{M:bQ}{ls:List (List Way)}(hs:set∈gP s.holds 0 0)(h:(iO s bl c set s.holds 0 [] M).1=some ls):(set,ls)∈TL s bl c:=by
 rw[wZ] at h;simp only[List.nil_append,Option.map_id'] at h;exact List.mem_filterMap.2 ⟨set,hs,by rw[h];rfl⟩
theorem aCB{X:Type}{S:bQ->St}{s:Ship}{b c p m N:Nat}(hS:ShipAt S s b c p m N)(U UD:X->St)(n:Nat)(hU:∀ x,(U x).length=n)(hUD:∀ x,(UD x).length=n)(ok:∀ x y,y∈U x->∀ k,N<=k->aU k y)(okD:∀ x y,y∈UD x->∀ k,N<=k->aU k y)(env:Env)(ps:List Nat)(a bb:ACode)(st st':LS)(pe pe':Option AJump):
  Fam1 (fun x M=>S M++(U x++[.cells [.ptr p 0],.loop st pe env ps a bb])) (fun x M=>S M++(UD x++[.cells [.ptr p 0],.loop st' pe' env ps a bb])) s b c p m (N+n) (N+n+2):=by
 have hpl:=hS.pl;have low:∀ (M M':bQ) (A B:St) (k i:Nat),i<N->cE (S M++A) (S M'++B) k i:=by
  intro M M' A B k i hi;have e1:(S M++A)[i]? = (S M)[i]?:=List.getElem?_append_left (by rw[hS.len];exact hi);have e2:(S M'++B)[i]? = (S M')[i]?:=List.getElem?_append_left (by rw[hS.len];exact hi);simp only[cE,e1,e2];by_cases him:i=m
  ·subst him;exact .inr (.inl ⟨_,hS.map0 M',ShipAt.memo_ok s M' k⟩)
  ·exact .inl (hS.keep M M' i him)
 have high:∀ (M M':bQ) (A B:St) (l1 l2:ABlk) (k i:Nat),A.length=n->B.length=n->(∀ y∈B,aU k y)->N<=i->i<N+n+2->(l1=l2\/∃ st pe st' pe' env ps a b,l1 = .loop st pe env ps a b/\l2 = .loop st' pe' env ps a b) ->
   cE (S M++(A++[.cells [.ptr p 0],l1])) (S M'++(B++[.cells [.ptr p 0],l2])) k i:=by
  intro M M' A B l1 l2 k i hA hB hk h1 h2 hl;have e1:(S M++(A++[.cells [.ptr p 0],l1]))[i]? = (A++[.cells [.ptr p 0],l1])[i-N]?:=by rw[List.getElem?_append_right (by rw[hS.len];exact h1),hS.len]
  have e2:(S M'++(B++[.cells [.ptr p 0],l2]))[i]? = (B++[.cells [.ptr p 0],l2])[i-N]?:=by rw[List.getElem?_append_right (by rw[hS.len];exact h1),hS.len]
  simp only[cE,e1,e2];obtain⟨j,hj⟩:∃ j,i-N=j:=⟨_,rfl⟩;rw[hj];by_cases hjn:j<n
  ·right;left;have hb:j<B.length:=by omega
   refine⟨B[j],?_,hk _ (List.getElem_mem hb)⟩;rw[List.getElem?_append_left hb,List.getElem?_eq_getElem hb]
  ·have:j=n\/j=n+1:=by omega
   rcases this with rfl|rfl
   ·left;rw[List.getElem?_append_right (by omega),List.getElem?_append_right (by omega),hA,hB];simp
   ·rw[List.getElem?_append_right (by omega),List.getElem?_append_right (by omega),hA,hB];simp only[Nat.add_sub_cancel_left,List.getElem?_cons_succ,List.getElem?_cons_zero];rcases hl with rfl|⟨_,_,_,_,_,_,_,_,rfl,rfl⟩
    ·exact .inl rfl
    ·exact .inr (.inr ⟨_,_,_,_,_,_,_,_,rfl,rfl⟩)
 refine⟨fun x=>?_,fun x M=>?_,fun x M=>?_,fun x M y M' k i hk hi=>?_,fun x M y M' k i hk hi=>?_,by omega,by omega⟩
 ·have:=hS.app (U x++[.cells [.ptr p 0],.loop st pe env ps a bb]);rw[List.length_append,hU] at this;exact this
 ·simp[hS.len,hUD];omega
 ·have e:N+n=(S M).length+n:=by rw[hS.len]
  rw[e,mA];have:n=(U x).length:=by rw[hU]
  rw[this];exact GU _ _
 ·by_cases h:i<N
  ·exact low _ _ _ _ _ _ h
  ·exact high _ _ _ _ _ _ _ _ (hU x) (hU y) (fun z hz=>ok y z hz k (by omega)) (by omega) hi (.inl rfl)
 ·by_cases h:i<N
  ·exact low _ _ _ _ _ _ h
  ·exact high _ _ _ _ _ _ _ _ (hU x) (hUD y) (fun z hz=>okD y z hz k (by omega)) (by omega) hi (.inr ⟨_,_,_,_,_,_,_,_,rfl,rfl⟩)
end Go.Am.Room.Ho
namespace Go.Am.Room.Ho
def pH:=zz @encShip_eq (zz @aL (zz @encHold_eq (zz @aW (zz @aK (zz @bF (zz @bE (zz @List.length_append.{0} (zz @BR (zz @BJ (zz @BF (zz @BQ (zz @BM (zz @BW (zz @BV (zz @BS (zz @BL (zz @BK (zz @dA (zz @Nat.add_lt_add_iff_left (zz @Nat.lt_add_right_iff_pos (zz @Nat.mul_one (zz @Int.toNat_natCast (zz @jD (@jA))))))))))))))))))))))))
theorem gM{X:Type}{S:bQ->St}{s:Ship}{b c p m N:Nat}(hS:ShipAt S s b c p m N)(hv:Vd s)(bl:List Int)(hb:ButIs b bl)(hcl:c<1000000)(U UD:X->St)(n:Nat)(hU:∀ x,(U x).length=n)(hUD:∀ x,(UD x).length=n)(ok:∀ x y,y∈U x->∀ k,N<=k->aU k y)(okD:∀ x y,y∈UD x->∀ k,N<=k->aU k y)(J:AJump){P:TV->Prop}{f:TV->X->X×Bool}(e:Env)(k:Nat)(ps:List Nat)(a bb:ACode)(ek:Env.get e k = .func 387 [] [.ptr (N+n) 0])(hy:B9 (fun x M=>S M++(U x++[.cells [.ptr p 0],.loop .ready none e ps a bb])) (fun x M=>S M++(UD x++[.cells [.ptr p 0],.loop .done (some J) e ps a bb])) (N+n+1) s P f)(hP:∀ t∈TL s bl c,P t)(x:X)(M:bQ)(K:KJ)(hT:∀ τ,(aV f (TL s bl c) x).2=true->K none e (S (iR s bl c f x M).1.2++(U (aV f (TL s bl c) x).1++(.cells [.ptr p 0]::.dead::τ))))(hD:∀ τ,(aV f (TL s bl c) x).2=false->K (some J) e (S (iR s bl c f x M).1.2++(UD (aV f (TL s bl c) x).1++(.cells [.ptr p 0]::.dead::τ)))):
  rK (K:=⟨K⟩) T (.rangeFunc (.t k) ps a bb) e (S M++(U x++[.cells [.ptr p 0]])):=by
 have hlen:(S M++(U x++[ABlk.cells [.ptr p 0]])).length=N+n+1:=by simp[hS.len,hU];omega
 have hfst:=J9 s bl c f x M;have hrun:=uO (aCB hS U UD n hU hUD ok okD e ps a bb .ready .done none (some J)) hv bl hb hcl hy (fun set hs M ls hls=>hP _ (aP0 hs hls)) x M;have hrr:((iR s bl c f x M).1.1,(iR s bl c f x M).2)=aV f (TL s bl c) x:=hfst;rw[hrr] at hrun;have e2:(iR s bl c f x M).2=(aV f (TL s bl c) x).2:=by rw[<-hrr]
 have hout:∀ (A W:St) (lp:ABlk) (τ':St),A.length=N->W.length=n->(A++(W++[ABlk.cells [.ptr p 0],lp])++τ')[N+n+1]? = some lp/\(A++(W++[ABlk.cells [.ptr p 0],lp])++τ').set (N+n+1) .dead=A++(W++(.cells [.ptr p 0]::.dead::τ')):=by
  intro A W lp τ' hA hW;have h1:N+n+1=(A++W).length+1:=by simp[hA,hW]
  have h2:A++(W++[ABlk.cells [.ptr p 0],lp])++τ'=(A++W)++(.cells [.ptr p 0]::lp::τ'):=by simp
  rw[h1,h2];constructor
  ·rw[sA];rfl
  ·rw[lF];simp
 refine D8 (by rw[UO,ek]) (by
  rw[hlen,List.append_assoc (S M),List.append_assoc (U x)]
  exact hrun) fun o ho=>?_
 obtain⟨τ',hσ⟩:=ho;rw[hlen,hσ];obtain⟨r,hr⟩:∃ r,aV f (TL s bl c) x=r:=⟨_,rfl⟩;rw[hr] at hT hD ⊢;cases hr2:r.2
 ·have hD':=hD τ' hr2;obtain⟨g1,g2⟩:=hout (S (iR s bl c f x M).1.2) (UD r.1) (.loop .done (some J) e ps a bb) τ' (hS.len _) (hUD _);simp only[Fam1.out,hr2,Bool.false_eq_true,if_false];rw[g1,g2];exact⟨_,_,_,_,_,_,rfl,by simp,hD'⟩
 ·have hT':=hT τ' hr2;obtain⟨g1,g2⟩:=hout (S (iR s bl c f x M).1.2) (U r.1) (.loop .ready none e ps a bb) τ' (hS.len _) (hU _);simp only[Fam1.out,hr2,if_true];rw[g1,g2];exact⟨_,_,_,_,_,_,rfl,by simp,hT'⟩
theorem rC{X:Type}{S:bQ->St}{s:Ship}{b c p m N:Nat}(hS:ShipAt S s b c p m N)(U UD:X->St)(n:Nat)(hU:∀ x,(U x).length=n)(hUD:∀ x,(UD x).length=n)(J:AJump)(e:Env)(ps:List Nat)(hps:ps.length=2)(a bb:ACode){P:TV->Prop}{f:TV->X->X×Bool}(h:∀ t,P t->∀ (fl:Bool) (tk:Option Nat) x M τ,wp T a (iS e ps [.int .i64 t.1,.lit (t.2.map (fS s)) fl tk]) (S M++(U x++(.cells [.ptr p 0]::.loop .ready none e ps a bb::τ))) (fun j e' σ'=>j=none/\σ'=S M++(U x++(.cells [.ptr p 0]::.loop .ready none e ps a bb::τ)) /\
   wp T bb e' (S M++(U x++(.cells [.ptr p 0]::.loop .busy none e ps a bb::τ))) (fun j e'' σ''=>((f t x).2=true/\j=none/\∃ τ',σ''=S M++(U (f t x).1++(.cells [.ptr p 0]::.loop .busy none e ps a bb::(τ++τ')))) \/
    ((f t x).2=false/\j=some J/\∃ τ',σ''=S M++(UD (f t x).1++(.cells [.ptr p 0]::.loop .busy none e ps a bb::(τ++τ'))))))):
  B9 (fun x M=>S M++(U x++[.cells [.ptr p 0],.loop .ready none e ps a bb])) (fun x M=>S M++(UD x++[.cells [.ptr p 0],.loop .done (some J) e ps a bb])) (N+n+1) s P f:=by
 intro t ht fl tk x M τ;have hget:∀ (A W:St) (lp:ABlk) (υ:St),A.length=N->W.length=n->(A++(W++(ABlk.cells [.ptr p 0]::lp::υ)))[N+n+1]? = some lp:=by
  intro A W lp υ hA hW;have h1:N+n+1=(A++W).length+1:=by simp[hA,hW]
  rw[h1,<-List.append_assoc,sA];rfl
 have hset:∀ (A W:St) (lp l2:ABlk) (υ:St),A.length=N->W.length=n->(A++(W++(ABlk.cells [.ptr p 0]::lp::υ))).set (N+n+1) l2=A++(W++(ABlk.cells [.ptr p 0]::l2::υ)):=by
  intro A W lp l2 υ hA hW;have h1:N+n+1=(A++W).length+1:=by simp[hA,hW]
  rw[h1,<-List.append_assoc,lF];simp
 obtain⟨r,hr⟩:∃ r,f t x=r:=⟨_,rfl⟩;have h:=h t ht fl tk x M τ;rw[hr] at h ⊢;have hst:(fun x M=>S M++(U x++[ABlk.cells [.ptr p 0],.loop .ready none e ps a bb])) x M++τ=S M++(U x++(.cells [.ptr p 0]::.loop .ready none e ps a bb::τ)):=by simp
 rw[hst];refine .round (env:=e) (ps:=ps) (a:=a) (b:=bb)
  (R:=fun o=>o.j=none/\o.σ=S M++(U x++(.cells [.ptr p 0]::.loop .ready none e ps a bb::τ))/\wp T bb o.env (S M++(U x++(.cells [.ptr p 0]::.loop .busy none e ps a bb::τ))) (fun j e'' σ''=>(r.2=true/\j=none/\∃ τ',σ''=S M++(U r.1++(.cells [.ptr p 0]::.loop .busy none e ps a bb::(τ++τ')))) \/
    (r.2=false/\j=some J/\∃ τ',σ''=S M++(UD r.1++(.cells [.ptr p 0]::.loop .busy none e ps a bb::(τ++τ'))))))
  (S:=fun o=>(r.2=true/\o.j=none/\∃ τ',o.σ=S M++(U r.1++(.cells [.ptr p 0]::.loop .busy none e ps a bb::(τ++τ'))))\/(r.2=false/\o.j=some J/\∃ τ',o.σ=S M++(UD r.1++(.cells [.ptr p 0]::.loop .busy none e ps a bb::(τ++τ'))))) (hget _ _ _ _ (hS.len _) (hU _)) (by rw[hps];rfl) (eG h fun o ho=>ho) ?_ ?_ ?_
 ·rintro o ⟨hj,hσ,_⟩;exact⟨hj,by rw[hσ];exact hget _ _ _ _ (hS.len _) (hU _)⟩
 ·rintro o ⟨_,hσ,hw⟩;rw[hσ,hset _ _ _ _ _ (hS.len _) (hU _)];exact eG hw fun o ho=>ho
 ·rintro o (⟨hr2,hj,τ',hσ⟩|⟨hr2,hj,τ',hσ⟩)
  ·rw[hσ,hj,hget _ _ _ _ (hS.len _) (hU _),hset _ _ _ _ _ (hS.len _) (hU _)];refine⟨rfl,by rw[hr2];rfl,τ',?_⟩;simp[Fam1.out,hr2]
  ·rw[hσ,hj,hget _ _ _ _ (hS.len _) (hUD _),hset _ _ _ _ _ (hS.len _) (hUD _)];refine⟨rfl,by rw[hr2];rfl,τ',?_⟩;simp[Fam1.out,hr2]
theorem uU{A X:Type}{f:A->X->X×Bool}(h:∀ a x,(f a x).2=true):∀ (l:List A) (x:X),aV f l x=(l.foldl (fun x a=>(f a x).1) x,true)
 |[],x=>rfl
 |a::az,x=>by simp only[aV,h,if_true,List.foldl_cons];exact uU h az _
def pQ(_:TV)(x:Unit):Unit×Bool:=(x,false)
theorem RU(l:List TV):(aV pQ l ()).2=l.isEmpty:=by
 cases l<;>simp[aV,pQ]
def JL(s:Ship)(bl:List Int)(c:Nat)(M:bQ):bQ:=(iR s bl c pQ () M).1.2
theorem vP{S:bQ->St}{s:Ship}{b c p m N:Nat}(hR:ShipAt S s b c p m N)(hv:Vd s)(bl:List Int)(hb:ButIs b bl)(hcl:c<1000000)(M:bQ):
  mH T (.func 267 [] []) [.ptr p 0] (S M) (.bool !(TL s bl c).isEmpty) (S (JL s bl c M)):=by
 have hit:=RU (TL s bl c);refine nO hR (af:=UB) rfl (by simp[UB]) ?_;try simp only[↓QA,QB,seval,pH,hR.len,hR.base,hR.base0,hR.bset,hR.bset0,hR.at1,hR.at0,UB]
 refine m6 rfl (by simp[BO]) ?_;try simp only[↓QA,QB,seval,pH,hR.len,hR.base,hR.base0,hR.bset,hR.bset0,hR.at1,hR.at0,BO]
 refine gM hR hv bl hb hcl (fun _:Unit=>[.cells [.bool false]]) (fun _=>[.cells [.bool true]]) 1 (fun _=>rfl) (fun _=>rfl) (fun _ y hy k _=>by simp at hy;subst hy;simp[aU,okVs,okV]) (fun _ y hy k _=>by simp at hy;subst hy;simp[aU,okVs,okV]) .ret (P:=fun _=>True) (f:=pQ) _ 4 [5,6] _ _ ?_ ?_ (fun _ _=>trivial) () M _ ?_ ?_
 ·try simp only[aB,QE,seval,pH,hR.len,hR.base,hR.base0,hR.bset,hR.bset0,hR.at1,hR.at0]
 ·refine rC hR _ _ 1 (fun _=>rfl) (fun _=>rfl) .ret _ _ rfl _ _ ?_;rintro⟨set,ls⟩ _ fl tk x M' τ;simp only[iS];try simp only[↓QA,QB,seval,pH,hR.len,hR.base,hR.base0,hR.bset,hR.bset0,hR.at1,hR.at0,UR,pQ]
  exact .inr ⟨[],by simp⟩
 ·intro τ h2;rw[hit] at h2;try simp only[↓QA,QB,seval,pH,hR.len,hR.base,hR.base0,hR.bset,hR.bset0,hR.at1,hR.at0,h2]
  refine⟨_,_,rfl,rfl,?_⟩;try simp only[QS,QC,seval,pH,hR.len,hR.base,hR.base0,hR.bset,hR.bset0,hR.at1,hR.at0]
 ·intro τ h2;rw[hit] at h2;try simp only[↓QA,QB,seval,pH,hR.len,hR.base,hR.base0,hR.bset,hR.bset0,hR.at1,hR.at0,h2]
  refine⟨_,_,rfl,rfl,?_⟩;try simp only[QS,QC,seval,pH,hR.len,hR.base,hR.base0,hR.bset,hR.bset0,hR.at1,hR.at0]
end Go.Am.Room.Ho
namespace Go.Am.Room.Ho
def dV:=zz @encShip_eq (zz @aL (zz @encHold_eq (zz @aW (zz @aK (zz @bF (@bE))))))
theorem oZ(a b n:Int)(h0:-1000000<=a/\a<=1000000)(h1:-1000000<=n/\n<=1000000):cZ T 149 [.int .i64 a,.int .i64 b,.int .i64 n] (.int .i64 (jW a b n)):=by
 refine aX (af:=Z3) rfl (by simp[Z3]) dd ?_;have w1:IntKind.i64.wrap (a+n)=a+n:=bD ⟨by omega,by omega⟩;have w2:IntKind.i64.wrap (a-n)=a-n:=bD ⟨by omega,by omega⟩;try simp only[↓QA,QB,seval,dV,Z3,w1,w2]
 refine aJ (fun h=>?_) fun h=>?_
 all_goals
  have h':=h;simp only[decide_eq_true_eq,decide_eq_false_iff_not] at h';try simp only[↓QA,QB,seval,dV,h,w1,w2]
  simp[jW,h']
def qT(bl:List Int)(k:Nat):Bool:=(List.range k).all fun i=>!bl.contains (i:Int)
theorem EQ(bl:List Int)(k:Nat):qT bl (k+1)=(qT bl k&&!bl.contains (k:Int)):=by simp[qT,List.range_succ,List.all_append]
theorem C0(bl:List Int)(h:Nat)(hb:bl.length<9223372036854775808)(hh:h<=100):cZ T 148 [ints bl,.int .i64 h] (.bool (cooled bl h)):=by
 refine aX (af:=Z7) rfl (by simp[Z7]) dd ?_;try simp only[↓QA,QB,seval,dV,Z7]
 refine dQ (S:=Nat) 0 (fun k=>k<=h+1) (fun k=>h+1-k) (fun k=>[(0,ints bl),(1,.int .i64 h),(5,.bool (qT bl k)),(6,.int .i64 k)]) (fun _=>[]) (Nat.zero_le _) rfl ?_ fun k hk=>?_
 ·try simp only[aB,QE,seval,dV,qT]
  try simp
 ·try simp only[↓QA,QB,seval,dV,XM]
  refine aJ (fun hd=>?_) fun hd=>?_
  ·have hk1:k<=h:=by simp at hd;omega
   have hw:IntKind.i64.wrap ((k:Int)+1)=((k+1:Nat):Int):=dB (show k<200 by omega) (by omega);have hs:=EQ bl k;cases hc:qT bl k
   ·rw[hc,Bool.false_and] at hs;try simp only[↓QA,QB,seval,dV,hw]
    refine⟨k+1,by omega,by omega,?_⟩;try simp only[aB,QE,seval,dV,hw,hs]
   ·rw[hc,Bool.true_and] at hs;try simp only[↓QA,QB,seval,dV,hw]
    (refine aC (OU bl k hb) rfl dd ?_;try simp only[↓QA,QB,seval,dV,hw])
    refine⟨k+1,by omega,by omega,?_⟩;try simp only[aB,QE,seval,dV,hw,hs]
  ·have hk1:k=h+1:=by simp at hd;omega
   subst hk1;try simp only[↓QA,QB,seval,dV]
   rfl
theorem rcourse_ok(s:Ship)(hv:Vd s)(h:Nat)(hh:h<=100)(n:Int)(hn:0<=n/\n<=80)(bl:List Int)(hb:bl.length<9223372036854775808):
  cZ T 36 [encShip s,.int .i64 h,.int .i64 n,ints bl] (ints (course s h n bl)):=by
 have hnh:=hv.nheat
 have hpw:=hv.power;have hcd:=hv.cold;have hwm:=hv.warm;refine aX (af:=a36) rfl (by simp[a36]) dd ?_;obtain⟨c,hc⟩:∃ c,cooled bl h=c:=⟨_,rfl⟩;rw[show course s h n bl=(List.range (s.heat.length+1)).map (marksAt s h n c) by rw[<-hc];rfl]
 (repeat (first|simp only[↓QA,QB,seval,dV,a36]|refine rd0 rfl ?_))
 refine rY 9 1 [.int .i64 n] rfl ?_;refine dQ (S:=Nat×Bool) (0,false) (fun k=>k.1<=s.heat.length) (fun k=>s.heat.length-k.1)
  (fun k=>[(1,.int .i64 h),(3,ints bl),(4,.ptr 0 0),(9,.lit (((List.range (k.1+1)).map (marksAt s h n c)).map (.int .i64)) false (some 1)),(10,.int .i64 k.1)])
  (fun k=>[.cells (shipCells s),.tok 1 (k.1+1) k.2]) (Nat.zero_le _) (by simp[shipCells,ints]) ?_ fun k hk=>?_
 ·try simp only[aB,QE,seval,dV]
  try simp[marksAt]
 ·obtain⟨k,ex⟩:=k;simp only at hk;obtain⟨L,hL⟩:∃ L,(List.range (k+1)).map (marksAt s h n c)=L:=⟨_,rfl⟩;have hlen:L.length=k+1:=by rw[<-hL];simp
  have hlt:k<L.length:=by omega
  have hget:L[k]=marksAt s h n c k:=by subst hL;simp
  have hsucc:(List.range (k+1+1)).map (marksAt s h n c)=L++[marksAt s h n c (k+1)]:=by rw[List.range_succ,List.map_append,hL];simp
  have hm:=tN hv (h:=h) hn c k hk;simp only[hL]
  (repeat (first|simp only[↓QA,QB,seval,dV,aFP]|refine rd0 rfl ?_))
  ((first|refine aC (vU s) rfl dd ?_|refine aF (vU s) rfl dd ?_);(repeat (first|simp only[↓QA,QB,seval,dV]|refine rd0 rfl ?_)))
  refine aJ (fun hd=>?_) fun hd=>?_
  ·have hk1:k<s.heat.length:=by simpa using hd
   have hw:=dB hk1 (by omega);have hap:=fun a=>j8 (σ:=.cells (shipCells s)::.tok 1 (k+1) ex::[]) (t:=1) (ex:=ex) (sz:=1) (b:=8) (xs:=L.map (.int .i64)) (ys:=[.int .i64 a]) (f:=true) (tk:=none) ⟨iU L,by simp[aI,AV.cells,AV.cell],by simp[room];omega,by simp[room];omega⟩ (by simp) (k+1) (by simp[hlen]) rfl
   rw[aL] at hap
   (repeat (first|simp only[↓QA,QB,seval,dV,hk1,hlt,hget]|refine rd0 rfl ?_))
   ((first|refine aC (C0 bl h hb hh) rfl dd ?_|refine aF (C0 bl h hb hh) rfl dd ?_);(repeat (first|simp only[↓QA,QB,seval,dV,hk1,hlt,hget]|refine rd0 rfl ?_)))
   rw[hc];cases c
   ·have hmk:marksAt s h n false (k+1)=jW (marksAt s h n false k) s.heat[k] s.warm:=by simp[marksAt,hk1]
    rw[hmk] at hsucc
    (repeat (first|simp only[↓QA,QB,seval,dV,hk1,hlt,hget]|refine rd0 rfl ?_))
    ((first|refine aC (oZ (marksAt s h n false k) s.heat[k] s.warm (by omega) (by omega)) rfl dd ?_|refine aF (oZ (marksAt s h n false k) s.heat[k] s.warm (by omega) (by omega)) rfl dd ?_);(repeat (first|simp only[↓QA,QB,seval,dV,hk1,hlt,hget,hap]|refine rd0 rfl ?_)))
    refine⟨(k+1,true),by simp only;omega,by simp only;omega,?_⟩;try simp only[aB,QE,seval,dV,hw,hsucc,List.map_append,List.map_cons,List.map_nil]
    try simp[aU]
   ·have hmk:marksAt s h n true (k+1)=jW (marksAt s h n true k) s.cold (max 1 (s.power-h)):=by simp[marksAt]
    have hws:IntKind.i64.wrap (s.power-(h:Int))=s.power-h:=bD ⟨by omega,by omega⟩;rw[hmk] at hsucc
    (repeat (first|simp only[↓QA,QB,seval,dV,hk1,hlt,hget,hws]|refine rd0 rfl ?_))
    ((first|refine aC (oZ (marksAt s h n true k) s.cold (max 1 (s.power-h)) (by omega) (by omega)) rfl dd ?_|refine aF (oZ (marksAt s h n true k) s.cold (max 1 (s.power-h)) (by omega) (by omega)) rfl dd ?_);(repeat (first|simp only[↓QA,QB,seval,dV,hk1,hlt,hget,hap]|refine rd0 rfl ?_)))
    refine⟨(k+1,true),by simp only;omega,by simp only;omega,?_⟩;try simp only[aB,QE,seval,dV,hw,hsucc,List.map_append,List.map_cons,List.map_nil]
    try simp[aU]
  ·have hk1:k=s.heat.length:=by simp at hd;omega
   subst hk1
   (repeat (first|simp only[↓QA,QB,seval,dV,hL]|refine rd0 rfl ?_))
   try try simp only[QS,QC,seval,dV]
end Go.Am.Room.Ho
