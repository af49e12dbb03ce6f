/- A part of the proof of TopBlamed: an abstract machine, or what functions come to on it. -/
import Derived.Test.YtckllniniolhcaaGreatTopBlamedQ4
open Nat (reduceLT reduceEqDiff reduceAdd reduceLeDiff reduceMul)
set_option linter.unusedVariables false
set_option linter.unusedSimpArgs false
set_option linter.defProp false
set_option maxRecDepth 4000
namespace Go.Am.Room.Do
def aG:=zz @encVoy_eq (zz @cW (zz @gI (zz @cZ (zz @cX (zz @aN (zz @gU (zz @dL (@S_mapLook))))))))
theorem U6(σ:St)(f:AV)(l:List Kp)(p:Kp->Bool)(hl:l.length<9223372036854775808)(hk:n4 σ f)(h:∀ x∈l,fZ T f [encKp x] σ (.bool (p x))):fZ T (.func 414 [] []) [.lit (l.map encKp) false none,f] σ (.int .i64 (iC p l 0)):=by
 refine dH (af:=WM) rfl (by simp[WM]) ?_;have hk0:=hk.nil;try simp only[↓QA,QB,seval,aG,WM]
 refine cI (S:=Nat) 0 (fun k=>k<=l.length/\iC p (l.drop k) k=iC p l 0) (fun k=>l.length-k) (fun k=>[(0,.lit (l.map encKp) false none),(1,f),(7,.int .i64 l.length),(8,.int .i64 k)]) (fun _=>σ) ⟨Nat.zero_le _,by simp⟩ rfl ?_ fun k hk1=>?_
 ·try simp only[aB,QE,seval,aG]
  try simp
 ·obtain⟨hkl,hi⟩:=hk1;try simp only[↓QA,QB,seval,aG,X2]
  refine aE (fun hd=>?_) fun hd=>?_
  ·have hlt:k<l.length:=by simpa using hd
   rw[List.drop_eq_getElem_cons hlt] at hi;simp only[iC] at hi;have hw:=bR hlt hl;try simp only[↓QA,QB,seval,aG,hlt]
   refine bI (h l[k] (List.getElem_mem hlt)) ?_;try simp only[↓QA,QB,seval,aG]
   cases hp:p l[k]
   ·try simp only[↓QA,QB,seval,aG,hw]
    refine⟨k+1,⟨by omega,by rw[<-hi,hp];rfl⟩,by omega,?_⟩;try simp only[aB,QE,seval,aG,hw,hk0,Nat.le_refl,gU]
   ·try simp only[↓QA,QB,seval,aG]
    refine cS [] (by first|rfl|simp) ?_;rw[<-hi,hp];try simp only[QS,QC,seval,aG]
  ·have hlt:k=l.length:=by simp at hd;omega
   try simp only[↓QA,QB,seval,aG]
   refine cS [] (by first|rfl|simp) ?_;rw[<-hi,hlt,List.drop_length];try simp only[QS,QC,seval,aG,iC]
theorem KP(σ:St)(f:AV)(l:List Kp)(p:Kp->Bool)(hl:l.length<9223372036854775808)(hk:n4 σ f)(h:∀ x∈l,fZ T f [encKp x] σ (.bool (p x))):fZ T (.func 299 [] []) [.lit (l.map encKp) false none,f] σ (.bool (l.any p)):=by
 refine dH (af:=W1) rfl (by simp[W1]) ?_;try simp only[↓QA,QB,seval,aG,W1]
 refine bI (U6 σ f l p hl hk h) ?_;try simp only[↓QA,QB,seval,aG]
 refine cS [] (by first|rfl|simp) ?_;rw[<-nK p l 0];try simp only[QS,QC,seval,aG]
theorem MP(σ:St)(f:AV)(l:List Kp)(dJ most:Int)(of:Nat->Kp->Int)(hl:l.length<9223372036854775808)(hk:n4 σ f)(h:∀ i (hi:i<l.length),fZ T f [.int .i64 i,encKp l[i]] (σ++[.cells (encKp l[i]).cells]) (.int .i64 (of i l[i]))):fZ T (.func 297 [] []) [.lit (l.map encKp) false none,.int .i64 dJ,.int .i64 most,f] σ (fT (aQ dJ most of l)):=by
 refine dH (af:=ZU) rfl (by simp[ZU]) ?_;have hk0:=hk.nil;have hk2:∀ τ,bW (σ++τ) σ.length 20 f=some f:=hk;try simp only[↓QA,QB,seval,aG,ZU]
 (refine bH (gC dJ most [(l.length:Int)] (by simp)) (by simp[clr,clrs,ints]) (by simp[okV,okVs]) ?_;try simp only[↓QA,QB,seval,aG,lE])
 cases h1:inR l.length dJ most
 ·try simp only[↓QA,QB,seval,aG]
  refine cS [] (by first|rfl|simp) ?_;try simp only[QS,QC,seval,aG,fT,aQ,h1]
 ·try simp only[↓QA,QB,seval,aG]
  refine cI (S:=Nat) 0 (fun k=>k<=l.length/\aK of (l.drop k) k=aK of l 0) (fun k=>l.length-k) (fun k=>[(3,f),(19,.lit (l.map encKp) false none),(20,.int .i64 l.length),(21,.int .i64 k)]) (fun _=>σ) ⟨Nat.zero_le _,by simp⟩ rfl ?_ fun k hk1=>?_
  ·try simp only[aB,QE,seval,aG]
   try simp
  ·obtain⟨hkl,hi⟩:=hk1;try simp only[↓QA,QB,seval,aG,aBW]
   refine aE (fun hd=>?_) fun hd=>?_
   ·have hlt:k<l.length:=by simpa using hd
    have hs:=h k hlt;rw[dU hlt] at hi;have hw:=bR hlt hl;try simp only[↓QA,QB,seval,aG,hlt] at hs
    try simp only[↓QA,QB,seval,aG,hlt]
    refine bI hs ?_;try simp only[↓QA,QB,seval,aG]
    cases hp:(of k l[k]==0)
    ·have hp':of k l[k]≠0:=by simpa using hp
     rw[if_neg hp'] at hi;try simp only[↓QA,QB,seval,aG,hp]
     refine cS _ rfl ?_;try simp only[QS,QC,seval,aG,fT,aQ,h1,<-hi,reduceCtorEq]
    ·have hp':of k l[k]=0:=by simpa using hp
     rw[if_pos hp'] at hi;try simp only[↓QA,QB,seval,aG,hp,hw]
     refine⟨k+1,⟨by omega,hi⟩,by omega,?_⟩;try simp only[aB,QE,seval,aG,hw,hk0,hk2,Nat.le_refl,gU]
   ·have hlt:k=l.length:=by simp at hd;omega
    rw[eO hlt] at hi;try simp only[↓QA,QB,seval,aG]
    refine cS [] (by first|rfl|simp) ?_;try simp only[QS,QC,seval,aG,fT,aQ,h1,<-hi,reduceCtorEq]
theorem G5(σ:St)(f:AV)(l:List Door)(dJ most:Int)(of:Nat->Door->Int)(hl:l.length<9223372036854775808)(hk:n4 σ f)(h:∀ i (hi:i<l.length),fZ T f [.int .i64 i,encDoor l[i]] (σ++[.cells (encDoor l[i]).cells]) (.int .i64 (of i l[i]))):fZ T (.func 302 [] []) [.lit (l.map encDoor) false none,.int .i64 dJ,.int .i64 most,f] σ (fT (aQ dJ most of l)):=by
 refine dH (af:=YE) rfl (by simp[YE]) ?_;have hk0:=hk.nil;have hk2:∀ τ,bW (σ++τ) σ.length 20 f=some f:=hk;try simp only[↓QA,QB,seval,aG,YE]
 (refine bH (gC dJ most [(l.length:Int)] (by simp)) (by simp[clr,clrs,ints]) (by simp[okV,okVs]) ?_;try simp only[↓QA,QB,seval,aG,lE])
 cases h1:inR l.length dJ most
 ·try simp only[↓QA,QB,seval,aG]
  refine cS [] (by first|rfl|simp) ?_;try simp only[QS,QC,seval,aG,fT,aQ,h1]
 ·try simp only[↓QA,QB,seval,aG]
  refine cI (S:=Nat) 0 (fun k=>k<=l.length/\aK of (l.drop k) k=aK of l 0) (fun k=>l.length-k) (fun k=>[(3,f),(19,.lit (l.map encDoor) false none),(20,.int .i64 l.length),(21,.int .i64 k)]) (fun _=>σ) ⟨Nat.zero_le _,by simp⟩ rfl ?_ fun k hk1=>?_
  ·try simp only[aB,QE,seval,aG]
   try simp
  ·obtain⟨hkl,hi⟩:=hk1;try simp only[↓QA,QB,seval,aG,XK]
   refine aE (fun hd=>?_) fun hd=>?_
   ·have hlt:k<l.length:=by simpa using hd
    have hs:=h k hlt;rw[dU hlt] at hi;have hw:=bR hlt hl;try simp only[↓QA,QB,seval,aG,hlt] at hs
    try simp only[↓QA,QB,seval,aG,hlt]
    refine bI hs ?_;try simp only[↓QA,QB,seval,aG]
    cases hp:(of k l[k]==0)
    ·have hp':of k l[k]≠0:=by simpa using hp
     rw[if_neg hp'] at hi;try simp only[↓QA,QB,seval,aG,hp]
     refine cS _ rfl ?_;try simp only[QS,QC,seval,aG,fT,aQ,h1,<-hi,reduceCtorEq]
    ·have hp':of k l[k]=0:=by simpa using hp
     rw[if_pos hp'] at hi;try simp only[↓QA,QB,seval,aG,hp,hw]
     refine⟨k+1,⟨by omega,hi⟩,by omega,?_⟩;try simp only[aB,QE,seval,aG,hw,hk0,hk2,Nat.le_refl,dL]
   ·have hlt:k=l.length:=by simp at hd;omega
    rw[eO hlt] at hi;try simp only[↓QA,QB,seval,aG]
    refine cS [] (by first|rfl|simp) ?_;try simp only[QS,QC,seval,aG,fT,aQ,h1,<-hi,reduceCtorEq]
theorem HU(σ:St)(f:AV)(l:List Look)(dJ most:Int)(of:Nat->Look->Int)(hl:l.length<9223372036854775808)(hk:n4 σ f)(h:∀ i (hi:i<l.length),fZ T f [.int .i64 i,encLook l[i]] (σ++[.cells (encLook l[i]).cells]) (.int .i64 (of i l[i]))):fZ T (.func 305 [] []) [.lit (l.map encLook) false none,.int .i64 dJ,.int .i64 most,f] σ (fT (aQ dJ most of l)):=by
 refine dH (af:=XV) rfl (by simp[XV]) ?_;have hk0:=hk.nil;have hk2:∀ τ,bW (σ++τ) σ.length 20 f=some f:=hk;try simp only[↓QA,QB,seval,aG,XV]
 (refine bH (gC dJ most [(l.length:Int)] (by simp)) (by simp[clr,clrs,ints]) (by simp[okV,okVs]) ?_;try simp only[↓QA,QB,seval,aG,lE])
 cases h1:inR l.length dJ most
 ·try simp only[↓QA,QB,seval,aG]
  refine cS [] (by first|rfl|simp) ?_;try simp only[QS,QC,seval,aG,fT,aQ,h1]
 ·try simp only[↓QA,QB,seval,aG]
  refine cI (S:=Nat) 0 (fun k=>k<=l.length/\aK of (l.drop k) k=aK of l 0) (fun k=>l.length-k) (fun k=>[(3,f),(19,.lit (l.map encLook) false none),(20,.int .i64 l.length),(21,.int .i64 k)]) (fun _=>σ) ⟨Nat.zero_le _,by simp⟩ rfl ?_ fun k hk1=>?_
  ·try simp only[aB,QE,seval,aG]
   try simp
  ·obtain⟨hkl,hi⟩:=hk1;try simp only[↓QA,QB,seval,aG,VY]
   refine aE (fun hd=>?_) fun hd=>?_
   ·have hlt:k<l.length:=by simpa using hd
    have hs:=h k hlt;rw[dU hlt] at hi;have hw:=bR hlt hl;try simp only[↓QA,QB,seval,aG,hlt] at hs
    try simp only[↓QA,QB,seval,aG,hlt]
    refine bI hs ?_;try simp only[↓QA,QB,seval,aG]
    cases hp:(of k l[k]==0)
    ·have hp':of k l[k]≠0:=by simpa using hp
     rw[if_neg hp'] at hi;try simp only[↓QA,QB,seval,aG,hp]
     refine cS _ rfl ?_;try simp only[QS,QC,seval,aG,fT,aQ,h1,<-hi,reduceCtorEq]
    ·have hp':of k l[k]=0:=by simpa using hp
     rw[if_pos hp'] at hi;try simp only[↓QA,QB,seval,aG,hp,hw]
     refine⟨k+1,⟨by omega,hi⟩,by omega,?_⟩;try simp only[aB,QE,seval,aG,hw,hk0,hk2,Nat.le_refl,S_mapLook]
   ·have hlt:k=l.length:=by simp at hd;omega
    rw[eO hlt] at hi;try simp only[↓QA,QB,seval,aG]
    refine cS [] (by first|rfl|simp) ?_;try simp only[QS,QC,seval,aG,fT,aQ,h1,<-hi,reduceCtorEq]
theorem Y9(s x:Kp)(b:ABlk)(τ:St):fZ T (.func 300 [] [.ptr (τ.length+1) 0]) [encKp x] (b::(τ++[.cells (encKp s).cells])) (.bool (decide (x.name=s.name))):=by
 refine dH (af:=YF) rfl (by simp[YF]) ?_;try simp only[↓QA,QB,seval,aG,YF,aG1,List.length_append]
 refine cS [.cells [.str x.name,.int .i64 x.frm]] (by first|rfl|simp) ?_;try simp only[QS,QC,seval,aG]
theorem GJ(v:Voy)(h:Fits v)(i:Nat)(hi:i<v.keepers.length)(τ:St):fZ T (.func 298 [] [.ptr 0 0]) [.int .i64 i,encKp v.keepers[i]] (.cells (voyCells v)::τ) (.int .i64 (u3 v i v.keepers[i])):=by
 refine dH (af:=aCO) rfl (by simp[aCO]) ?_;have hfk:=h.keepers;have hsz:=h.names _ (List.getElem_mem hi);have hts:(v.keepers.take i).length<9223372036854775808:=by have:=h.keepers;simp;omega
 have he:=rW hi;obtain⟨s,hs⟩:∃ s,v.keepers[i]=s:=⟨_,rfl⟩;have hk:u3 v i s=if fresh s.name ((v.keepers.take i).map Kp.name)=0 then (if inR (frmAt v i) 0 v.hours=false then 7 else if (i=0/\frmAt v i≠0)\/(0<i/\frmAt v i<=frmAt v (i-1)) then 2 else 0) else fresh s.name ((v.keepers.take i).map Kp.name):=rfl
 rw[hs] at hsz he ⊢;obtain⟨E,hE⟩:∃ E,u3 v i s=E:=⟨_,rfl⟩;rw[hE] at hk ⊢;obtain⟨F,hF⟩:∃ F,frmAt v i=F:=⟨_,rfl⟩;rw[hF] at hk he;have fin:∀ (n:Int) (e:Env) (b:List AV),n=E->DM (some (.int .i64 n)) (.cells (voyCells v)::τ) (.cells (voyCells v)::(τ++[.cells b])) (.int .i64 E):=fun n e b hv=>by
  refine cS [.cells b] (by first|rfl|simp) ?_;rw[hv];try simp only[QS,QC,seval,aG]
 simp only[cW] at fin
 (repeat (first|simp only[↓QA,QB,seval,aG,aCO]|refine rd0 rfl ?_))
 ((first|refine aC (zI s.name hsz) rfl dd ?_|refine aJ (zI s.name hsz) rfl dd ?_);(repeat (first|simp only[↓QA,QB,seval,aG]|refine rd0 rfl ?_)))
 cases h1:yA s.name
 ·(repeat (first|simp only[↓QA,QB,seval,aG]|refine rd0 rfl ?_))
  exact fin _ [] _ (by rw[hk];simp[fresh,h1])
 ·have hc:=KP (.cells (voyCells v)::(τ++[.cells (encKp s).cells])) (.func 300 [] [.ptr (τ.length+1) 0]) (v.keepers.take i) (fun x=>decide (x.name=s.name)) hts (fun υ=>by try simp only[QS,QC,seval,aG,List.length_append];simp) fun x _=>Y9 s x _ τ
  try simp only[↓QA,QB,seval,aG] at hc
  (repeat (first|simp only[↓QA,QB,seval,aG,aM5 (enc:=encKp) (l:=v.keepers) (Nat.le_of_lt hi)]|refine rd0 rfl ?_))
  refine bI hc ?_;rw[DK];cases h2:decide (zJ s.name ((v.keepers.take i).map Kp.name)≠((v.keepers.take i).map Kp.name).length)
  ·have h2':zJ s.name ((v.keepers.take i).map Kp.name)=((v.keepers.take i).map Kp.name).length:=by simpa using h2
   have hf:fresh s.name ((v.keepers.take i).map Kp.name)=0:=by simp only[fresh,h1,h2'];simp
   rw[hf] at hk;simp only[if_true] at hk
   (repeat (first|simp only[↓QA,QB,seval,aG]|refine rd0 rfl ?_))
   ((first|refine bH (gC 0 v.hours [s.frm] (by simp)) (by simp[clr,clrs,ints]) (by simp[okV,okVs]) ?_|refine fX (gC 0 v.hours [s.frm] (by simp)) (by simp[clr,clrs,ints]) (by simp[okV,okVs]) ?_);(repeat (first|simp only[↓QA,QB,seval,aG,lE,<-he]|refine rd0 rfl ?_)))
   cases h3:inR F 0 v.hours
   ·rw[h3] at hk
    (repeat (first|simp only[↓QA,QB,seval,aG]|refine rd0 rfl ?_))
    exact fin _ [] _ (by rw[hk];rfl)
   ·have h3':=aZ.1 h3;rw[h3] at hk;simp only[Bool.true_eq_false,if_false] at hk;by_cases h0:i=0
    ·subst h0;cases h4:decide (0<F)
     ·have h4':¬0<F:=by simpa using h4
      (repeat (first|simp only[↓QA,QB,seval,aG,h4,<-he,show (((0:Nat):Int)==0)=true from rfl,show decide ((0:Int)<((0:Nat):Int))=false from rfl]|refine rd0 rfl ?_))
      exact fin _ [] _ (by rw[hk,if_neg (by omega)])
     ·have h4':0<F:=by simpa using h4
      (repeat (first|simp only[↓QA,QB,seval,aG,h4,<-he,show (((0:Nat):Int)==0)=true from rfl]|refine rd0 rfl ?_))
      exact fin _ [] _ (by rw[hk,if_pos (.inl ⟨rfl,by omega⟩)])
    ·have g0:((i:Int)==0)=false:=by simp;omega
     have g1:decide ((0:Int)<(i:Int))=true:=by simp;omega
     have hw:IntKind.i64.wrap (max 1 (i:Int)-1)=((i-1:Nat):Int):=by rw[bZ ⟨by omega,by omega⟩];omega
     have hi1:i-1<v.keepers.length:=by omega
     have he1:=rW hi1;obtain⟨G,hG⟩:∃ G,frmAt v (i-1)=G:=⟨_,rfl⟩;rw[hG] at hk he1;cases h4:decide (F<=G)
     ·have h4':¬F<=G:=by simpa using h4
      (repeat (first|simp only[↓QA,QB,seval,aG,h4,<-he,<-he1,g0,g1,yN,hw,hi1]|refine rd0 rfl ?_))
      exact fin _ [] _ (by rw[hk,if_neg (by omega)])
     ·have h4':F<=G:=by simpa using h4
      (repeat (first|simp only[↓QA,QB,seval,aG,h4,<-he,<-he1,g0,g1,yN,hw,hi1]|refine rd0 rfl ?_))
      exact fin _ [] _ (by rw[hk,if_pos (.inr ⟨by omega,h4'⟩)])
  ·have h2':zJ s.name ((v.keepers.take i).map Kp.name)≠((v.keepers.take i).map Kp.name).length:=by simpa using h2
   have hf:fresh s.name ((v.keepers.take i).map Kp.name)=5:=by simp only[fresh,h1,h2',if_false];simp
   rw[hf] at hk
   (repeat (first|simp only[↓QA,QB,seval,aG]|refine rd0 rfl ?_))
   exact fin _ [] _ (by rw[hk];simp)
theorem HC(v:Voy)(i:Int)(x:Door):fZ T (.func 303 [] [.ptr 0 0]) [.int .i64 i,encDoor x] [.cells (voyCells v),.cells (encDoor x).cells] (.int .i64 (wJ v 0 x)):=by
 refine dH (af:=XZ) rfl (by simp[XZ]) ?_;try simp only[↓QA,QB,seval,aG,XZ]
 (refine bH (gC 0 v.hours [x.hour] (by simp)) (by simp[clr,clrs,ints]) (by simp[okV,okVs]) ?_;try simp only[↓QA,QB,seval,aG,lE])
 cases h1:inR x.hour 0 v.hours;all_goals
  try simp only[↓QA,QB,seval,aG]
  refine cS _ rfl ?_;try simp only[QS,QC,seval,aG,wJ,h1,reduceCtorEq,Bool.false_eq_true]
theorem GQ(v:Voy)(hl:-9223372036854775808<v.lots/\v.lots<=9223372036854775807)(i:Int)(x:Look):fZ T (.func 306 [] [.ptr 0 0]) [.int .i64 i,encLook x] [.cells (voyCells v),.cells (encLook x).cells] (.int .i64 (u6 v 0 x)):=by
 refine dH (af:=aAB) rfl (by simp[aAB]) ?_;have hw:IntKind.i64.wrap (v.lots-1)=v.lots-1:=bZ ⟨by omega,by omega⟩;try simp only[↓QA,QB,seval,aG,aAB,hw]
 (refine bH (gC 0 (v.lots-1) [x.lot] (by simp)) (by simp[clr,clrs,ints]) (by simp[okV,okVs]) ?_;try simp only[↓QA,QB,seval,aG,lE])
 cases h1:inR x.lot 0 (v.lots-1)
 ·try simp only[↓QA,QB,seval,aG]
  refine cS _ rfl ?_;try simp only[QS,QC,seval,aG,u6,h1,reduceCtorEq,Bool.false_eq_true,reduceIte]
 ·try simp only[↓QA,QB,seval,aG]
  (refine bH (gC 0 v.hours [x.hour] (by simp)) (by simp[clr,clrs,ints]) (by simp[okV,okVs]) ?_;try simp only[↓QA,QB,seval,aG,lE])
  cases h2:inR x.hour 0 v.hours;all_goals
   try simp only[↓QA,QB,seval,aG]
   refine cS _ rfl ?_;try simp only[QS,QC,seval,aG,u6,h1,h2,reduceCtorEq,Bool.false_eq_true]
end Go.Am.Room.Do
namespace Go.Am.Room.Do
def bX:=zz @encVoy_eq (zz @cW (zz @gI (zz @cZ (zz @cX (zz @aN (zz @gU (zz @dL (@S_mapLook))))))))
def qR(v:Voy):Int×Int:=if inR v.hours 1 24=false\/(!inR v.delay.lo 0 8||!inR v.delay.hi 0 8)=true\/inR v.lots 1 3=false then (0,7) else if v.delay.hi<v.delay.lo then (0,2) else (0,0)
def iF(v:Voy):Nat->Int×Int
 |0=>qR v
 |1=>aQ 1 5 (u3 v) v.keepers
 |2=>aQ 0 4 (wJ v) v.doors
 |_=>aQ 0 5 (u6 v) v.looks
theorem aRD(v:Voy):cY T 294 [gY v] (fT (qR v)):=by
 refine aV (af:=Z8) rfl (by simp[Z8]) dd ?_;try simp only[↓QA,QB,seval,bX,Z8]
 (refine bH (gC 1 24 [v.hours] (by simp)) (by simp[clr,clrs,ints]) (by simp[okV,okVs]) ?_;try simp only[↓QA,QB,seval,bX,lE])
 cases h1:inR v.hours 1 24
 ·try simp only[↓QA,QB,seval,bX]
  simp[qR,h1,fT]
 ·try simp only[↓QA,QB,seval,bX]
  (refine bH (gC 0 8 [v.delay.lo,v.delay.hi] (by simp)) (by simp[clr,clrs,ints]) (by simp[okV,okVs]) ?_;try simp only[↓QA,QB,seval,bX,aFC])
  cases h2:(!inR v.delay.lo 0 8||!inR v.delay.hi 0 8)
  ·try simp only[↓QA,QB,seval,bX,h2]
   (refine bH (gC 1 3 [v.lots] (by simp)) (by simp[clr,clrs,ints]) (by simp[okV,okVs]) ?_;try simp only[↓QA,QB,seval,bX,lE])
   cases h3:inR v.lots 1 3
   ·try simp only[↓QA,QB,seval,bX]
    simp[qR,h3,fT]
   ·try simp only[↓QA,QB,seval,bX]
    cases h4:decide (v.delay.hi<v.delay.lo)
    ·have h4':¬v.delay.hi<v.delay.lo:=by simpa using h4
     have hp:qR v=(0,0):=by simp only[qR,h1,h2,h3,h4',Bool.true_eq_false,Bool.false_eq_true,or_self,if_false]
     rw[hp];try simp only[↓QA,QB,seval,bX,h4,fT]
    ·have h4':v.delay.hi<v.delay.lo:=by simpa using h4
     have hp:qR v=(0,2):=by simp only[qR,h1,h2,h3,h4',Bool.true_eq_false,Bool.false_eq_true,or_self,if_false,if_true]
     rw[hp];try simp only[↓QA,QB,seval,bX,h4,fT]
  ·have hp:qR v=(0,7):=by simp only[qR,h2,true_or,or_true,if_true]
   rw[hp];try simp only[↓QA,QB,seval,bX,h2,fT]
theorem aPC(v:Voy)(h:Fits v):cY T 296 [gY v] (fT (iF v 1)):=by
 refine aV (af:=U1) rfl (by simp[U1]) dd ?_;have hf:=MP [.cells (voyCells v)] (.func 298 [] [.ptr 0 0]) v.keepers 1 5 (u3 v) h.keepers (fun τ=>by try simp only[QS,QC,seval,bX,List.length_append]) fun i hi=>GJ v h i hi _
 try simp only[↓QA,QB,seval,bX] at hf
 try simp only[↓QA,QB,seval,bX,U1]
 refine bI hf ?_;try simp only[↓QA,QB,seval,bX,fT,iF]
theorem aOU(v:Voy)(h:Fits v):cY T 301 [gY v] (fT (iF v 2)):=by
 refine aV (af:=aCG) rfl (by simp[aCG]) dd ?_;have hf:=G5 [.cells (voyCells v)] (.func 303 [] [.ptr 0 0]) v.doors 0 4 (wJ v) h.doors (fun τ=>by try simp only[QS,QC,seval,bX,List.length_append]) fun i hi=>HC v i _
 try simp only[↓QA,QB,seval,bX] at hf
 try simp only[↓QA,QB,seval,bX,aCG]
 refine bI hf ?_;try simp only[↓QA,QB,seval,bX,fT,iF]
theorem aQ0(v:Voy)(h:Fits v)(hl:-9223372036854775808<v.lots/\v.lots<=9223372036854775807):cY T 304 [gY v] (fT (iF v 3)):=by
 refine aV (af:=aB6) rfl (by simp[aB6]) dd ?_;have hf:=HU [.cells (voyCells v)] (.func 306 [] [.ptr 0 0]) v.looks 0 5 (u6 v) h.looks (fun τ=>by try simp only[QS,QC,seval,bX,List.length_append]) fun i hi=>GQ v hl i _
 try simp only[↓QA,QB,seval,bX] at hf
 try simp only[↓QA,QB,seval,bX,aB6]
 refine bI hf ?_;try simp only[↓QA,QB,seval,bX,fT,iF]
def tN:List Nat:=[294,296,301,304]
def LX(i:Nat):AV:=.agg [.func i [] []]
theorem aEI(i:Nat):LX i = .agg [.func i [] []]:=by simp only[LX]
theorem WW:cY T 161 [] (.lit (tN.map LX) false none):=by
 refine aV (af:=WP) rfl (by simp[WP]) cL ?_;try simp only[↓QA,QB,seval,bX,WP,tN,LX,List.map_cons,List.map_nil]
theorem nL{α:Type}{a b:Int}{of:Nat->α->Int}{l:List α}(h:(aQ a b of l).2=0):inR l.length a b=true/\aK of l 0=none:=by
 unfold aQ at h;split at h
 ·simp at h
 ·rename_i h1;split at h
  ·rename_i i e h2;exact absurd h (eG h2)
  ·rename_i h2;exact⟨by simpa using h1,h2⟩
theorem nU{v:Voy}:(qR v).2=0↔¬(inR v.hours 1 24=false\/oT v.delay 0 8=7\/inR v.lots 1 3=false)/\oT v.delay 0 8=0:=by
 unfold qR oT;cases inR v.hours 1 24<;>cases inR v.lots 1 3<;>cases (!inR v.delay.lo 0 8||!inR v.delay.hi 0 8)<;>by_cases h:v.delay.hi<v.delay.lo<;>simp[h]
theorem V6{v:Voy}:∀ k,k<4->(∀ j,j<k->(iF v j).2=0)->(iF v k).2≠0->check v=((k:Int)+1,(iF v k).1,(iF v k).2)
 |0,_,_,h=>by
  simp only[iF] at h ⊢;unfold qR check oT at *;revert h;cases inR v.hours 1 24<;>cases inR v.lots 1 3<;>cases (!inR v.delay.lo 0 8||!inR v.delay.hi 0 8)<;>by_cases h:v.delay.hi<v.delay.lo<;>simp[h]
 |1,_,hj,h=>by
  obtain⟨a1,a2⟩:=nU.1 (hj 0 (by omega));have e:check v=fV v:=by rw[check,if_neg a1,if_pos a2]
  simp only[iF] at h ⊢;rw[e];unfold aQ at *;unfold fV;cases h1:inR v.keepers.length 1 5
  ·simp
  ·rw[h1] at h;simp only[Bool.true_eq_false,if_false] at h ⊢;cases h2:aK (u3 v) v.keepers 0 with
   |none=>rw[h2] at h;simp at h
   |some p=>rfl
 |2,_,hj,h=>by
  obtain⟨a1,a2⟩:=nU.1 (hj 0 (by omega));obtain⟨b1,b2⟩:=nL (hj 1 (by omega));have e:check v=fQ v:=by rw[check,if_neg a1,if_pos a2,fV,b1,b2];rfl
  simp only[iF] at h ⊢;rw[e];unfold aQ at *;unfold fQ;by_cases h1:4<v.doors.length
  ·have hi:inR v.doors.length 0 4=false:=by simp[inR];omega
   simp[h1,hi]
  ·have hi:inR v.doors.length 0 4=true:=by simp[inR];omega
   rw[hi] at h ⊢;simp only[Bool.true_eq_false,if_false,h1] at h ⊢;cases h2:aK (wJ v) v.doors 0 with
   |none=>rw[h2] at h;simp at h
   |some p=>rfl
 |3,_,hj,h=>by
  obtain⟨a1,a2⟩:=nU.1 (hj 0 (by omega));obtain⟨b1,b2⟩:=nL (hj 1 (by omega));obtain⟨c1,c2⟩:=nL (hj 2 (by omega));have c3:¬4<v.doors.length:=by simp[inR] at c1;omega
  have e:check v=fU v:=by rw[check,if_neg a1,if_pos a2,fV,b1,b2];simp only[fQ,c2,c3,if_false];rfl
  simp only[iF] at h ⊢;rw[e];unfold aQ at *;unfold fU;by_cases h1:5<v.looks.length
  ·have hi:inR v.looks.length 0 5=false:=by simp[inR];omega
   simp[h1,hi]
  ·have hi:inR v.looks.length 0 5=true:=by simp[inR];omega
   rw[hi] at h ⊢;simp only[Bool.true_eq_false,if_false,h1] at h ⊢;cases h2:aK (u6 v) v.looks 0 with
   |none=>rw[h2] at h;simp at h
   |some p=>rfl
 |k+4,hk,_,_=>by omega
theorem L7{v:Voy}(hj:∀ j,j<4->(iF v j).2=0):check v=(0,0,0):=by
 obtain⟨a1,a2⟩:=nU.1 (hj 0 (by omega));obtain⟨b1,b2⟩:=nL (hj 1 (by omega));obtain⟨c1,c2⟩:=nL (hj 2 (by omega));obtain⟨d1,d2⟩:=nL (hj 3 (by omega));have c3:¬4<v.doors.length:=by simp[inR] at c1;omega
 have d3:¬5<v.looks.length:=by simp[inR] at d1;omega
 rw[check,if_neg a1,if_pos a2,fV,b1,b2];simp only[fQ,c2,c3,if_false,fU,d2,d3];rfl
theorem check_ok(v:Voy)(h:Fits v):cY T 40 [gY v] (enc3 (check v)):=by
 refine aV (af:=a40) rfl (by simp[a40]) dd ?_;try simp only[↓QA,QB,seval,bX,a40]
 refine aC WW rfl cL ?_;have hlen:(tN.map LX).length=4:=rfl;have hle2:tN.length=4:=rfl;try simp only[↓QA,QB,seval,bX,hlen,hle2]
 refine cI (S:=Nat) 0 (fun k=>k<=4/\∀ j,j<k->(iF v j).2=0) (fun k=>4-k) (fun k=>[(1,.ptr 0 0),(7,.lit (tN.map LX) false none),(8,.int .i64 4),(9,.int .i64 k)]) (fun _=>[.cells (voyCells v)]) ⟨Nat.zero_le _,fun j hj=>absurd hj (by omega)⟩ (by simp[voyCells]) ?_ fun k hk=>?_
 ·try simp only[aB,QE,seval,bX]
  try simp
 ·obtain⟨hk4,hj⟩:=hk;try simp only[↓QA,QB,seval,bX,aHG]
  refine aE (fun hd=>?_) fun hd=>?_
  ·have hk1:k<4:=by simp at hd;omega
   have hw:=bR hk1 (by omega);have hlk:k<tN.length:=hk1;have hat:=V6 (v:=v) k hk1 hj;have hnx:(iF v k).2=0->∀ j,j<k+1->(iF v j).2=0:=fun h0 j hj2=>by
    by_cases e:j=k
    ·rw[e];exact h0
    ·exact hj j (by omega)
   obtain⟨r,hr⟩:∃ r,iF v k=r:=⟨_,rfl⟩;rw[hr] at hat hnx;have hlots:k=3->-9223372036854775808<v.lots/\v.lots<=9223372036854775807:=fun e=>by
    have a1:=(nU.1 (hj 0 (by omega))).1;have:inR v.lots 1 3=true:=by
     cases hl:inR v.lots 1 3
     ·exact absurd (.inr (.inr hl)) a1
     ·rfl
    have:=aZ.1 this;omega
   have hpk:∃ id,tN[k]=id/\cY T id [gY v] (fT r):=by
    rw[<-hr]
    match k,hlk,hlots with
    |0,_,_=>exact⟨_,rfl,aRD v⟩
    |1,_,_=>exact⟨_,rfl,aPC v h⟩
    |2,_,_=>exact⟨_,rfl,aOU v h⟩
    |3,_,hl=>exact⟨_,rfl,aQ0 v h (hl rfl)⟩
   obtain⟨id,hid,hp⟩:=hpk;have hcl:bQ 1 (.agg [.func id [] []])=true:=by simp[bQ,AV.cells,AV.cell]
   try simp only[↓QA,QB,seval,bX,hlk,hid,hcl,aEI]
   (refine aC (hp) rfl dd ?_;try simp only[↓QA,QB,seval,bX,fT])
   cases h0:(r.2==0)
   ·have h0':r.2≠0:=by simpa using h0
    rw[hat h0'];have hw2:IntKind.i64.wrap ((k:Int)+1)=(k:Int)+1:=bZ ⟨by omega,by omega⟩;try simp only[↓QA,QB,seval,bX,h0,hw2,enc3]
   ·have h0':r.2=0:=by simpa using h0
    try simp only[↓QA,QB,seval,bX,h0]
    refine⟨k+1,⟨by omega,hnx h0'⟩,by omega,?_⟩;try simp only[aB,QE,seval,bX,hw]
    try simp[aL,tN,LX,okV,okVs,cB,bW,snap,snaps,clrs,clr]
  ·have hk1:k=4:=by simp at hd;omega
   subst hk1;rw[L7 hj];try simp only[↓QA,QB,seval,bX,enc3]
def db(v:Voy)(b m:Nat):List AV:=voyCells v++[.int .i64 b,.map m]
theorem SZ(v:Voy)(b m:Nat):(db v b m)[0]? = some (.int .i64 v.hours):=by simp[db,voyCells]
theorem SQ(v:Voy)(b m:Nat):(db v b m)[1]? = some (.int .i64 v.delay.lo):=by simp[db,voyCells]
theorem RK(v:Voy)(b m:Nat):(db v b m)[2]? = some (.int .i64 v.delay.hi):=by simp[db,voyCells]
theorem MV(v:Voy)(b m:Nat):(db v b m)[3]? = some (.lit (v.keepers.map encKp) false none):=by simp[db,voyCells]
theorem RM(v:Voy)(b m:Nat):(db v b m)[4]? = some (.lit (v.doors.map encDoor) false none):=by simp[db,voyCells]
theorem TT(v:Voy)(b m:Nat):(db v b m)[5]? = some (.int .i64 v.lots):=by simp[db,voyCells]
theorem TJ(v:Voy)(b m:Nat):(db v b m)[6]? = some (.lit (v.looks.map encLook) false none):=by simp[db,voyCells]
theorem TR(v:Voy)(b m:Nat):(db v b m)[7]? = some (.int .i64 b):=by simp[db,voyCells]
theorem SA(v:Voy)(b m:Nat):(db v b m)[8]? = some (.map m):=by simp[db,voyCells]
def pS(σ:St)(v:Voy)(b:Nat):St:=σ++[.cells (voyCells v),.map [],.cells (db v b (σ.length+1))]
theorem wG(σ:St)(v:Voy)(b:Nat):sJ T (.func 164 [] []) [gY v,.int .i64 b] σ (.ptr (σ.length+2) 0) (pS σ v b):=by
 refine .callf (.call (af:=aCC) rfl (by simp[aCC]) (fA (K:=fun j e σ1=>(j=none\/j=some .ret)/\Env.get e 4 = .ptr (σ.length+2) 0/\σ1=pS σ v b) ?_ fun o ho=>ho) fun o ho=>?_)
 ·try simp only[↓QA,QB,seval,bX,aCC,List.length_append,pS,db]
  try simp[db,voyCells,ints]
 ·refine⟨ho.1,_,?_,.inl ⟨ho.2.1,ho.2.2⟩⟩;rfl
def eS(f:Nat->Nat):List AV:=eU 26 fun i=>((f i:Nat):Int)
theorem z26:eS (fun _=>0)=[.int .i64 0,.int .i64 0,.int .i64 0,.int .i64 0,.int .i64 0,.int .i64 0,.int .i64 0,.int .i64 0,.int .i64 0,.int .i64 0,.int .i64 0,.int .i64 0,.int .i64 0,.int .i64 0,.int .i64 0,.int .i64 0,.int .i64 0,.int .i64 0,.int .i64 0,.int .i64 0,.int .i64 0,.int .i64 0,.int .i64 0,.int .i64 0,.int .i64 0,.int .i64 0]:=by simp[eS,EI]
def AK(f:Nat->Nat)(i v:Nat):Nat->Nat:=fun j=>if j=i then v else f j
theorem mH(f:Nat->Nat):(eS f).length=26:=jD _ _
theorem mL(f:Nat->Nat){i:Nat}(h:i<26):(eS f)[i]? = some (.int .i64 ((f i:Nat):Int)):=i8 26 _ h
theorem v8{f g:Nat->Nat}(h:∀ i,i<26->f i=g i):eS f=eS g:=lM fun i hi=>by rw[h i hi]
theorem w9(f:Nat->Nat)(v:Nat){i:Nat}(h:i<26):(eS f).take i++[AV.int .i64 (v:Int)]++(eS f).drop (i+1)=eS (AK f i v):=by
 rw[eS,qL 26 _ _ h];refine lM fun j _=>?_
 simp only[kM,AK];split<;>rfl
theorem N2(f:Nat->Nat)(v:Nat):(eS f).take 25++[AV.int .i64 (v:Int)]=eS (AK f 25 v):=by
 have:=w9 f v (i:=25) (by omega)
 rwa [show (eS f).drop (25+1)=[] from yP 26 _,List.append_nil] at this
theorem lJ(f:Nat->Nat):aY (eS f)=true:=E8 _ _
theorem nM(f:Nat->Nat):(eS f).take 26=eS f:=FI 26 _
theorem nI(f:Nat->Nat):(eS f).drop 26=[]:=yP 26 _
theorem lG(f:Nat->Nat)(m:Nat):okVs m (eS f):=iH _ _ _
theorem rP(f:Nat->Nat)(σ:St)(m d:Nat):cB σ m d (eS f)=some (eS f):=HB _ _ _ _ _
instance (f:Nat->Nat):Dats (eS f):=⟨j3 _ _⟩
theorem ST(f:Nat->Nat):bJ [.i,.i,.i,.i,.i,.i,.i,.i,.i,.i,.i,.i,.i,.i,.i,.i,.i,.i,.i,.i,.i,.i,.i,.i,.i,.i] (eS f) (eS fun _=>0)=some (xA f):=by
 have:=aFE 26 (fun i=>((f i:Nat):Int)) (fun i=>((0:Nat):Int));have e:(List.range 26).all (fun i=>((f i:Nat):Int)==((0:Nat):Int))=xA f:=by
  unfold xA
  congr 1
  funext i;exact P8 _
 rw[e] at this;exact this
abbrev Ask:=Nat×Nat
def yM(w:Ask):AV:=.agg [.int .i64 (w.1:Int),.int .i64 (w.2:Int)]
theorem yB(w:Ask):yM w = .agg [.int .i64 (w.1:Int),.int .i64 (w.2:Int)]:=by simp only[yM]
def iK(v:Voy)(bl:List Int)(w:Ask):AV:=.agg (eS (tF v bl w.1 w.2))
theorem rM(v:Voy)(bl:List Int)(w:Ask):iK v bl w = .agg (eS (tF v bl w.1 w.2)):=by simp only[iK]
theorem DC(v:Voy)(bl:List Int)(w:Ask):jU (iK v bl w):=gE (j3 _ _)
theorem HI(v:Voy)(bl:List Int):KeyIs (.agg [.i,.i]) yM (iK v bl) where
 eq:=fun ⟨a,b⟩ ⟨c,d⟩=>by
  simp only[iS,yM,HD,OI,PI,HM]
  congr 1
  rw[Bool.eq_iff_iff];simp[Prod.mk.injEq];omega
 dk:=fun w=>gE (aD (aR _ _) (aD (aR _ _) cL))
 dv:=DC v bl
abbrev tEs(v:Voy)(bl:List Int):List Ask->List (AV×AV):=qW yM (iK v bl)
def nV(v:Voy)(op k:Nat)(x:Int)(i:Nat):Nat:=mU v op k i|||(if (op.testBit k&&inR ((i:Int)-doorHour v k) v.delay.lo (x-1)&&decide ((i:Int)<=v.hours))=true then 2^k else 0)
theorem X8(v:Voy)(op k:Nat):nV v op k v.delay.lo=mU v op k:=by
 funext i;have:inR ((i:Int)-doorHour v k) v.delay.lo (v.delay.lo-1)=false:=by simp[inR];omega
 simp[nV,this]
theorem LL{v:Voy}{op k:Nat}{x:Int}(h1:x<=v.delay.hi+1)(h:v.delay.hi<x\/v.hours<doorHour v k+x):nV v op k x=mU v op (k+1):=by
 funext i;simp only[nV,mU,m7]
 congr 2
 by_cases h2:(i:Int)<=v.hours
 ·have:inR ((i:Int)-doorHour v k) v.delay.lo (x-1)=inR ((i:Int)-doorHour v k) v.delay.lo v.delay.hi:=by
   rw[Bool.eq_iff_iff,aZ,aZ];omega
  rw[this]
 ·simp[h2]
theorem aGF(a k:Nat):a &&& 2^k=if a.testBit k=true then 2^k else 0:=by
 refine Nat.eq_of_testBit_eq fun i=>?_
 rw[Nat.testBit_and,Nat.testBit_two_pow];by_cases e:k=i
 ·subst e;cases h:a.testBit k
  ·simp
  ·simp[Nat.testBit_two_pow_self]
 ·split
  ·rw[Nat.testBit_two_pow_of_ne e];simp[e]
  ·simp[e]
theorem NZ{v:Voy}{op k:Nat}{x:Int}{j:Nat}(hj:(j:Int)=doorHour v k+x)(h1:v.delay.lo<=x)(h2:(j:Int)<=v.hours):AK (nV v op k x) j (nV v op k x j|||(op &&& 2^k))=nV v op k (x+1):=by
 funext i;by_cases e:i=j
 ·subst e;have a:inR ((i:Int)-doorHour v k) v.delay.lo (x-1)=false:=by simp[inR];omega
  have b:inR ((i:Int)-doorHour v k) v.delay.lo (x+1-1)=true:=by rw[aZ];omega
  have c:decide ((i:Int)<=v.hours)=true:=by simpa using h2
  simp only[AK,nV,if_true,a,b,c,aGF,Bool.and_false,Bool.and_true,Bool.false_and,Bool.false_eq_true,if_false,Nat.or_zero]
 ·have a:inR ((i:Int)-doorHour v k) v.delay.lo (x+1-1)=inR ((i:Int)-doorHour v k) v.delay.lo (x-1):=by
   rw[Bool.eq_iff_iff,aZ,aZ];omega
  simp only[AK,nV,e,if_false,a]
theorem YC{v:Voy}{op k:Nat}{x:Int}{i:Nat}(hk:k<4):nV v op k x i<32:=by
 refine Nat.or_lt_two_pow (n:=5) (GK v op i k (by omega)) ?_;split
 ·have:2^k<=2^3:=Nat.pow_le_pow_right (by omega) (by omega);omega
 ·omega
theorem aB0(v:Voy)(op:Nat):eS (AK (fun _=>0) 25 16)=eS (mU v op 0):=v8 fun i _=>by simp[AK,mU]
def DY(v:Voy)(n:Nat)(bl:List Int)(i k:Nat):Bool:=(List.range k).all fun j=>match v.looks[j]? with|some x=>lookOk (n:Int) bl ⟨hAt i,0⟩ j x|none=>true
theorem JY(v:Voy)(n:Nat)(bl:List Int)(i:Nat):DY v n bl i v.looks.length=okL v bl n i:=rfl
theorem TH{v:Voy}{k:Nat}(hk:k<v.looks.length)(n:Nat)(bl:List Int)(i:Nat):DY v n bl i (k+1)=(DY v n bl i k&&lookOk (n:Int) bl ⟨hAt i,0⟩ k v.looks[k]):=by
 simp[DY,List.range_succ,List.all_append,hk]
theorem aEG{v:Voy}{n i:Nat}{bl:List Int}{k j:Nat}(hkj:k<=j)(hf:DY v n bl i k=false):DY v n bl i j=false:=by
 simp only[DY,List.all_eq_false,List.mem_range] at hf ⊢;obtain⟨a,ha,h1⟩:=hf;exact⟨a,by omega,h1⟩
theorem aNN{x:Look}{i:Nat}(hx:x.hour<=24):soAt x (hAt i)=(x.turned==decide ((i:Int)<=x.hour)):=by
 unfold soAt hAt;by_cases h:i=25
 ·subst h;have:decide (((25:Nat):Int)<=x.hour)=false:=by simp;omega
  rw[this];simp
 ·rw[if_neg h];have:decide ((i:Int)≠-1)=true:=decide_eq_true (by omega);rw[this,Bool.true_and]
def iE(v:Voy)(bl:List Int)(n op h:Nat)(i:Nat):Nat:=if i<h then tF v bl n op i else mU v op v.doors.length i
theorem aNH(v:Voy)(bl:List Int)(n op:Nat):iE v bl n op 0=mU v op v.doors.length:=by funext i;simp[iE]
theorem aA9(v:Voy)(bl:List Int)(n op:Nat):eS (iE v bl n op 26)=eS (tF v bl n op):=v8 fun i hi=>by simp[iE,hi]
theorem FT{v:Voy}{bl:List Int}{n op h:Nat}(hk:tF v bl n op h=mU v op v.doors.length h):iE v bl n op h=iE v bl n op (h+1):=by
 funext i;simp only[iE];by_cases h1:i=h
 ·subst h1;simp[hk]
 ·by_cases h2:i<h
  ·simp[h2,show i<h+1 by omega]
  ·simp[h2,show ¬i<h+1 by omega]
theorem ZC{v:Voy}{bl:List Int}{n op h:Nat}(hk:tF v bl n op h=0):AK (iE v bl n op h) h 0=iE v bl n op (h+1):=by
 funext i;simp only[iE,AK];by_cases h1:i=h
 ·subst h1;simp[hk]
 ·by_cases h2:i<h
  ·simp[h1,h2,show i<h+1 by omega]
  ·simp[h1,h2,show ¬i<h+1 by omega]
theorem aF1(v:Voy)(bl:List Int)(n op h:Nat):iE v bl n op h h=mU v op v.doors.length h:=by simp[iE]
end Go.Am.Room.Do
namespace Go.Am.Room.Do
def cA:=zz @cZ (zz @cX (zz @dL (zz @S_mapLook (zz @List.length_append.{0} (zz @SZ (zz @SQ (zz @RK (zz @MV (zz @RM (zz @TT (zz @TJ (zz @TR (zz @SA (zz @dR (zz @Nat.add_lt_add_iff_left (zz @Nat.lt_add_right_iff_pos (zz @Nat.mul_one (zz @Int.toNat_natCast (zz @mH (zz @nM (zz @nI (zz @lJ (@rP)))))))))))))))))))))))
theorem M6{S:List Ask->St}{v:Voy}{b p m N:Nat}{bl:List Int}(hR:MemAt S (db v b m) (tEs v bl) p m N)(hv:Vd v)(hb:ButIs b bl)(M:List Ask)(n op:Nat)(hn:n<100)(hop:op<16):
  sJ T (.func 412 [] []) [.ptr p 0,yM (n,op)] (S M) (iK v bl (n,op)) (S (bN M (n,op))):=by
 have hdr:=hv.ndr;have hhr:=hv.hours;have hdl:=hv.delay;have hnl:=hv.nlk;have hpl:=hR.pl;have hl1:=fun τ=>QY (HI v bl) hR M τ (n,op)
 refine nJ hR (af:=VC) rfl (by simp[VC]) ?_;simp only[yB,rM] at hl1 ⊢
 (repeat (first|simp only[↓QA,QB,reduceLT,reduceIte,reduceEqDiff,reduceAdd,reduceLeDiff,reduceMul,Nat.reduceBEq,cA,hR.len,hR.base,hR.base0,hR.bset,hR.bset0,hR.at1,hR.at0,VC]|refine rd0 rfl ?_))
 refine xC [.cells (eS fun _=>0)] rfl ?_;by_cases hm:(n,op)∈M
 ·have hst:bN M (n,op)=M:=by simp[bN,hm]
  rw[hst];simp only[hm,if_true] at hl1
  (repeat (first|simp only[↓QA,QB,reduceLT,reduceIte,reduceEqDiff,reduceAdd,reduceLeDiff,reduceMul,Nat.reduceBEq,cA,hR.len,hR.base,hR.base0,hR.bset,hR.bset0,hR.at1,hR.at0,hl1,BC,A4,<-z26]|refine rd0 rfl ?_))
  refine⟨_,_,rfl,rfl,?_⟩;try simp only[QS,QC,reduceLT,reduceIte,reduceEqDiff,reduceAdd,reduceLeDiff,reduceMul,Nat.reduceBEq,cA,hR.len,hR.base,hR.base0,hR.bset,hR.bset0,hR.at1,hR.at0,rP]
 ·have hst:bN M (n,op)=M++[(n,op)]:=by simp[bN,hm]
  have hput:=fun τ=>XC (HI v bl) hR M τ (n,op) hm
  simp only[yB,rM] at hput;rw[hst];simp only[hm,if_false] at hl1;have h25:(eS fun _=>0).take 25++[AV.int .i64 16]=eS (mU v op 0):=by rw[<-aB0 v op];exact N2 (fun _=>0) 16
  have i25:(0:Int)<=25/\(25:Int)<((26:Nat):Int):=⟨by omega,by omega⟩;have t25:Int.toNat 25=25:=rfl
  (repeat (first|simp only[↓QA,QB,reduceLT,reduceIte,reduceEqDiff,reduceAdd,reduceLeDiff,reduceMul,Nat.reduceBEq,cA,hR.len,hR.base,hR.base0,hR.bset,hR.bset0,hR.at1,hR.at0,hl1,BC,A4,<-z26,i25,t25,h25]|refine rd0 rfl ?_))
  refine cI (S:=Nat) 0 (fun k=>k<=v.doors.length) (fun k=>v.doors.length-k)
   (fun k=>[(0,.ptr p 0),(3,.ptr N 0),(4,.ptr (N+1) 0),(7,.ptr (N+3) 0),(32,.lit (v.doors.map encDoor) false none),(33,.int .i64 v.doors.length),(34,.int .i64 k)])
   (fun k=>S M++[.cells [.int .i64 n,.int .i64 op],.cells (eS fun _=>0),.cells (eS fun _=>0),.cells (eS (mU v op k))]) (Nat.zero_le _) rfl ?_ fun k hk=>?_
  ·try simp only[aB,QE,reduceLT,reduceIte,reduceEqDiff,reduceAdd,reduceLeDiff,reduceMul,Nat.reduceBEq,cA,hR.len,hR.base,hR.base0,hR.bset,hR.bset0,hR.at1,hR.at0]
   try simp
  ·(repeat (first|simp only[↓QA,QB,reduceLT,reduceIte,reduceEqDiff,reduceAdd,reduceLeDiff,reduceMul,Nat.reduceBEq,cA,hR.len,hR.base,hR.base0,hR.bset,hR.bset0,hR.at1,hR.at0,WL]|refine rd0 rfl ?_))
   refine aE (fun hd=>?_) fun hd=>?_
   ·have hk1:k<v.doors.length:=by simpa using hd
    have hwk:=bR hk1 (by omega);have hdo:=hv.dr _ (List.getElem_mem hk1);obtain⟨x,hx⟩:∃ x,v.doors[k]=x:=⟨_,rfl⟩;rw[hx] at hdo;have hdh:doorHour v k=x.hour:=by simp[doorHour,hk1,hx]
    obtain⟨X,hX⟩:∃ X,(v.delay.hi+1-v.delay.lo).toNat=X:=⟨_,rfl⟩;have hsh:=vN k (by omega);have hp2:2^k<=2^3:=Nat.pow_le_pow_right (by omega) (by omega);have hand:=ZN op (2^k) (by omega) (by omega);have hal:op &&& 2^k<=op:=Nat.and_le_left
    (repeat (first|simp only[↓QA,QB,reduceLT,reduceIte,reduceEqDiff,reduceAdd,reduceLeDiff,reduceMul,Nat.reduceBEq,cA,hR.len,hR.base,hR.base0,hR.bset,hR.bset0,hR.at1,hR.at0,hk1,hx]|refine rd0 rfl ?_))
    refine cI (S:=Nat) 0 (fun j=>j<=X) (fun j=>X-j)
     (fun j=>[(0,.ptr p 0),(3,.ptr N 0),(4,.ptr (N+1) 0),(7,.ptr (N+3) 0),(9,.int .i64 k),(10,.ptr (N+4) 0),(11,.int .i64 (v.delay.lo+(j:Int))),(32,.lit (v.doors.map encDoor) false none),(33,.int .i64 v.doors.length),(34,.int .i64 k)])
     (fun j=>S M++[.cells [.int .i64 n,.int .i64 op],.cells (eS fun _=>0),.cells (eS fun _=>0),.cells (eS (nV v op k (v.delay.lo+(j:Int)))),.cells [.int .i64 x.hour,.bool x.sure]]) (Nat.zero_le _) (by simp[X8]) ?_ fun j hj=>?_
    ·try simp only[aB,QE,reduceLT,reduceIte,reduceEqDiff,reduceAdd,reduceLeDiff,reduceMul,Nat.reduceBEq,cA,hR.len,hR.base,hR.base0,hR.bset,hR.bset0,hR.at1,hR.at0]
     try simp
    ·obtain⟨y,hy⟩:∃ y,v.delay.lo+(j:Int)=y:=⟨_,rfl⟩;have hy1:v.delay.lo+((j+1:Nat):Int)=y+1:=by omega
     simp only[hy];obtain⟨q,hq⟩:∃ q:Nat,x.hour+y=(q:Int):=⟨(x.hour+y).toNat,by omega⟩;have hw1:IntKind.i64.wrap (x.hour+y)=(q:Int):=by rw[hq];exact bZ ⟨by omega,by omega⟩
     have hw2:IntKind.i64.wrap (y+1)=y+1:=bZ ⟨by omega,by omega⟩
     (repeat (first|simp only[↓QA,QB,reduceLT,reduceIte,reduceEqDiff,reduceAdd,reduceLeDiff,reduceMul,Nat.reduceBEq,cA,hR.len,hR.base,hR.base0,hR.bset,hR.bset0,hR.at1,hR.at0,VP]|refine rd0 rfl ?_))
     cases h1:decide (y<=v.delay.hi)
     ·have h1':¬y<=v.delay.hi:=by simpa using h1
      (repeat (first|simp only[↓QA,QB,reduceLT,reduceIte,reduceEqDiff,reduceAdd,reduceLeDiff,reduceMul,Nat.reduceBEq,cA,hR.len,hR.base,hR.base0,hR.bset,hR.bset0,hR.at1,hR.at0,h1]|refine rd0 rfl ?_))
      rw[LL (v:=v) (by omega) (.inl (by omega))];refine⟨k+1,by omega,by omega,?_⟩;try simp only[aB,QE,reduceLT,reduceIte,reduceEqDiff,reduceAdd,reduceLeDiff,reduceMul,Nat.reduceBEq,cA,hR.len,hR.base,hR.base0,hR.bset,hR.bset0,hR.at1,hR.at0,hwk]
      try simp[aL,okVs,okV,lG]
      try omega
     ·have h1':y<=v.delay.hi:=by simpa using h1
      cases h2:decide ((q:Int)<=v.hours)
      ·have h2':¬(q:Int)<=v.hours:=by simpa using h2
       (repeat (first|simp only[↓QA,QB,reduceLT,reduceIte,reduceEqDiff,reduceAdd,reduceLeDiff,reduceMul,Nat.reduceBEq,cA,hR.len,hR.base,hR.base0,hR.bset,hR.bset0,hR.at1,hR.at0,h1,hw1,h2]|refine rd0 rfl ?_))
       rw[LL (v:=v) (by omega) (.inr (by omega))];refine⟨k+1,by omega,by omega,?_⟩;try simp only[aB,QE,reduceLT,reduceIte,reduceEqDiff,reduceAdd,reduceLeDiff,reduceMul,Nat.reduceBEq,cA,hR.len,hR.base,hR.base0,hR.bset,hR.bset0,hR.at1,hR.at0,hwk]
       try simp[aL,okVs,okV,lG]
       try omega
      ·have h2':(q:Int)<=v.hours:=by simpa using h2
       have iq:(0:Int)<=(q:Int)/\(q:Int)<((26:Nat):Int):=⟨by omega,by omega⟩;have c25:q<=25:=by omega
       have hrl:=YC (v:=v) (op:=op) (k:=k) (x:=y) (i:=q) (by omega);have hg:=mL (nV v op k y) (i:=q) (by omega);have hor:=JS (nV v op k y q) (op &&& 2^k) (by omega) (by omega);have hs:=w9 (nV v op k y) (nV v op k y q|||(op &&& 2^k)) (i:=q) (by omega);rw[NZ (v:=v) (by omega) (by omega) h2'] at hs
       (repeat (first|simp only[↓QA,QB,reduceLT,reduceIte,reduceEqDiff,reduceAdd,reduceLeDiff,reduceMul,Nat.reduceBEq,cA,hR.len,hR.base,hR.base0,hR.bset,hR.bset0,hR.at1,hR.at0,h1,hw1,h2,iq,c25,hg,hsh,hand,hor,hs]|refine rd0 rfl ?_))
       refine⟨j+1,by omega,by omega,?_⟩;try simp only[aB,QE,reduceLT,reduceIte,reduceEqDiff,reduceAdd,reduceLeDiff,reduceMul,Nat.reduceBEq,cA,hR.len,hR.base,hR.base0,hR.bset,hR.bset0,hR.at1,hR.at0,hw2,hy1]
       try simp[aL,okVs,okV,lG]
       try omega
   ·have hk1:k=v.doors.length:=by simp at hd;omega
    rw[hk1,<-aNH v bl n op]
    (repeat (first|simp only[↓QA,QB,reduceLT,reduceIte,reduceEqDiff,reduceAdd,reduceLeDiff,reduceMul,Nat.reduceBEq,cA,hR.len,hR.base,hR.base0,hR.bset,hR.bset0,hR.at1,hR.at0]|refine rd0 rfl ?_))
    refine cI (S:=Nat) 0 (fun h=>h<=26) (fun h=>26-h)
     (fun h=>[(0,.ptr p 0),(3,.ptr N 0),(4,.ptr (N+1) 0),(7,.ptr (N+3) 0),(81,.int .i64 h)])
     (fun h=>S M++[.cells [.int .i64 n,.int .i64 op],.cells (eS fun _=>0),.cells (eS fun _=>0),.cells (eS (iE v bl n op h))]) (Nat.zero_le _) rfl ?_ fun h hh=>?_
    ·try simp only[aB,QE,reduceLT,reduceIte,reduceEqDiff,reduceAdd,reduceLeDiff,reduceMul,Nat.reduceBEq,cA,hR.len,hR.base,hR.base0,hR.bset,hR.bset0,hR.at1,hR.at0]
     try simp
    ·(repeat (first|simp only[↓QA,QB,reduceLT,reduceIte,reduceEqDiff,reduceAdd,reduceLeDiff,reduceMul,Nat.reduceBEq,cA,hR.len,hR.base,hR.base0,hR.bset,hR.bset0,hR.at1,hR.at0,aBK]|refine rd0 rfl ?_))
     refine aE (fun hd2=>?_) fun hd2=>?_
     ·have hh1:h<26:=by simp at hd2;omega
      have hwh:=bR hh1 (by omega);have ih:(0:Int)<=(h:Int)/\(h:Int)<((26:Nat):Int):=⟨by omega,by omega⟩;have c25:h<=25:=by omega
      have hg:=mL (iE v bl n op h) hh1;rw[aF1] at hg;have htF:tF v bl n op h=if okL v bl n h=true then mU v op v.doors.length h else 0:=rfl
      obtain⟨R,hRw⟩:∃ R,mU v op v.doors.length h=R:=⟨_,rfl⟩;rw[hRw] at hg htF;cases h0:((R:Int)==0)
      ·(repeat (first|simp only[↓QA,QB,reduceLT,reduceIte,reduceEqDiff,reduceAdd,reduceLeDiff,reduceMul,Nat.reduceBEq,cA,hR.len,hR.base,hR.base0,hR.bset,hR.bset0,hR.at1,hR.at0,ih,hg,h0]|refine rd0 rfl ?_))
       refine cI (S:=Nat) 0 (fun i=>i<=v.looks.length/\DY v n bl h i=true) (fun i=>v.looks.length-i)
        (fun i=>[(0,.ptr p 0),(3,.ptr N 0),(4,.ptr (N+1) 0),(7,.ptr (N+3) 0),(12,.int .i64 h),(81,.int .i64 h),(92,.lit (v.looks.map encLook) false none),(93,.int .i64 v.looks.length),(94,.int .i64 i)])
        (fun i=>S M++[.cells [.int .i64 n,.int .i64 op],.cells (eS fun _=>0),.cells (eS fun _=>0),.cells (eS (iE v bl n op h))]) ⟨Nat.zero_le _,rfl⟩ rfl ?_ fun i hi=>?_
       ·try simp only[aB,QE,reduceLT,reduceIte,reduceEqDiff,reduceAdd,reduceLeDiff,reduceMul,Nat.reduceBEq,cA,hR.len,hR.base,hR.base0,hR.bset,hR.bset0,hR.at1,hR.at0]
        try simp
       ·obtain⟨hi,hok⟩:=hi
        (repeat (first|simp only[↓QA,QB,reduceLT,reduceIte,reduceEqDiff,reduceAdd,reduceLeDiff,reduceMul,Nat.reduceBEq,cA,hR.len,hR.base,hR.base0,hR.bset,hR.bset0,hR.at1,hR.at0,Z2]|refine rd0 rfl ?_))
        refine aE (fun hd3=>?_) fun hd3=>?_
        ·have hi1:i<v.looks.length:=by simpa using hd3
         have hwi:=bR hi1 (by omega);have hlk:=hv.lk _ (List.getElem_mem hi1);obtain⟨y,hy⟩:∃ y,v.looks[i]=y:=⟨_,rfl⟩;have hsucc:=TH hi1 n bl h;rw[hy] at hlk hsucc;rw[hok,Bool.true_and] at hsucc;have hso:=aNN (x:=y) (i:=h) (by omega);have hlo:lookOk (n:Int) bl ⟨hAt h,0⟩ i y=(!decide (y.lot=(n:Int))||bl.contains (i:Int)||soAt y (hAt h)):=rfl;rw[hso] at hlo;have hdiv:b/2^i<9223372036854775808:=Nat.lt_of_le_of_lt (Nat.div_le_self _ _) hb.lt;have hbit:=hb.bit i (by omega);have vs:=IR b i (by omega);have va:=BE (b/2^i) hdiv;have go:DY v n bl h (i+1)=true->(i+1<=v.looks.length/\DY v n bl h (i+1)=true):=fun q=>⟨by omega,q⟩
         cases h1:(y.lot==(n:Int))
         ·have h1':¬y.lot=(n:Int):=by simpa using h1
          have hl:lookOk (n:Int) bl ⟨hAt h,0⟩ i y=true:=by rw[hlo];simp[h1']
          rw[hl] at hsucc
          (repeat (first|simp only[↓QA,QB,reduceLT,reduceIte,reduceEqDiff,reduceAdd,reduceLeDiff,reduceMul,Nat.reduceBEq,cA,hR.len,hR.base,hR.base0,hR.bset,hR.bset0,hR.at1,hR.at0,hi1,hy,h1]|refine rd0 rfl ?_))
          refine⟨i+1,go hsucc,by omega,?_⟩;try simp only[aB,QE,reduceLT,reduceIte,reduceEqDiff,reduceAdd,reduceLeDiff,reduceMul,Nat.reduceBEq,cA,hR.len,hR.base,hR.base0,hR.bset,hR.bset0,hR.at1,hR.at0,hwi]
          try simp[aL,okVs,okV,lG]
          try omega
         ·have h1':y.lot=(n:Int):=by simpa using h1
          cases h2:bl.contains (i:Int)
          ·rw[h2] at hbit;cases h3:(y.turned==decide ((h:Int)<=y.hour))
           ·have hl:lookOk (n:Int) bl ⟨hAt h,0⟩ i y=false:=by rw[hlo,h2,h3];simp[h1']
            rw[hl] at hsucc;have hqf:okL v bl n h=false:=by rw[<-JY];exact aEG (show i+1<=v.looks.length by omega) hsucc
            rw[hqf] at htF;have hs:=w9 (iE v bl n op h) 0 hh1;rw[ZC (by simpa using htF)] at hs;have hs':(eS (iE v bl n op h)).take h++[AV.int .i64 0]++(eS (iE v bl n op h)).drop (h+1)=eS (iE v bl n op (h+1)):=hs
            (repeat (first|simp only[↓QA,QB,reduceLT,reduceIte,reduceEqDiff,reduceAdd,reduceLeDiff,reduceMul,Nat.reduceBEq,cA,hR.len,hR.base,hR.base0,hR.bset,hR.bset0,hR.at1,hR.at0,hi1,hy,h1,vs,va,hbit,h3,ih,c25,hs']|refine rd0 rfl ?_))
            refine⟨h+1,by omega,by omega,?_⟩;try simp only[aB,QE,reduceLT,reduceIte,reduceEqDiff,reduceAdd,reduceLeDiff,reduceMul,Nat.reduceBEq,cA,hR.len,hR.base,hR.base0,hR.bset,hR.bset0,hR.at1,hR.at0,hwh]
            try simp[aL,okVs,okV,lG]
            try omega
           ·have hl:lookOk (n:Int) bl ⟨hAt h,0⟩ i y=true:=by rw[hlo,h3];simp
            rw[hl] at hsucc
            (repeat (first|simp only[↓QA,QB,reduceLT,reduceIte,reduceEqDiff,reduceAdd,reduceLeDiff,reduceMul,Nat.reduceBEq,cA,hR.len,hR.base,hR.base0,hR.bset,hR.bset0,hR.at1,hR.at0,hi1,hy,h1,vs,va,hbit,h3]|refine rd0 rfl ?_))
            refine⟨i+1,go hsucc,by omega,?_⟩;try simp only[aB,QE,reduceLT,reduceIte,reduceEqDiff,reduceAdd,reduceLeDiff,reduceMul,Nat.reduceBEq,cA,hR.len,hR.base,hR.base0,hR.bset,hR.bset0,hR.at1,hR.at0,hwi]
            try simp[aL,okVs,okV,lG]
            try omega
          ·rw[h2] at hbit;have hl:lookOk (n:Int) bl ⟨hAt h,0⟩ i y=true:=by rw[hlo,h2];simp
           rw[hl] at hsucc
           (repeat (first|simp only[↓QA,QB,reduceLT,reduceIte,reduceEqDiff,reduceAdd,reduceLeDiff,reduceMul,Nat.reduceBEq,cA,hR.len,hR.base,hR.base0,hR.bset,hR.bset0,hR.at1,hR.at0,hi1,hy,h1,vs,va,hbit]|refine rd0 rfl ?_))
           refine⟨i+1,go hsucc,by omega,?_⟩;try simp only[aB,QE,reduceLT,reduceIte,reduceEqDiff,reduceAdd,reduceLeDiff,reduceMul,Nat.reduceBEq,cA,hR.len,hR.base,hR.base0,hR.bset,hR.bset0,hR.at1,hR.at0,hwi]
           try simp[aL,okVs,okV,lG]
           try omega
        ·have hi1:i=v.looks.length:=by simp at hd3;omega
         rw[hi1,JY] at hok;rw[hok] at htF;rw[FT (by rw[htF,hRw];rfl)]
         (repeat (first|simp only[↓QA,QB,reduceLT,reduceIte,reduceEqDiff,reduceAdd,reduceLeDiff,reduceMul,Nat.reduceBEq,cA,hR.len,hR.base,hR.base0,hR.bset,hR.bset0,hR.at1,hR.at0]|refine rd0 rfl ?_))
         refine⟨h+1,by omega,by omega,?_⟩;try simp only[aB,QE,reduceLT,reduceIte,reduceEqDiff,reduceAdd,reduceLeDiff,reduceMul,Nat.reduceBEq,cA,hR.len,hR.base,hR.base0,hR.bset,hR.bset0,hR.at1,hR.at0,hwh]
         try simp[aL,okVs,okV,lG]
         try omega
      ·have h0':R=0:=by simp at h0;omega
       have hte:tF v bl n op h=mU v op v.doors.length h:=by rw[htF,hRw,h0'];simp
       (repeat (first|simp only[↓QA,QB,reduceLT,reduceIte,reduceEqDiff,reduceAdd,reduceLeDiff,reduceMul,Nat.reduceBEq,cA,hR.len,hR.base,hR.base0,hR.bset,hR.bset0,hR.at1,hR.at0,ih,hg,h0]|refine rd0 rfl ?_))
       rw[FT hte];refine⟨h+1,by omega,by omega,?_⟩;try simp only[aB,QE,reduceLT,reduceIte,reduceEqDiff,reduceAdd,reduceLeDiff,reduceMul,Nat.reduceBEq,cA,hR.len,hR.base,hR.base0,hR.bset,hR.bset0,hR.at1,hR.at0,hwh]
       try simp[aL,okVs,okV,lG]
       try omega
     ·have hh1:h=26:=by simp at hd2;omega
      subst hh1;rw[aA9]
      (repeat (first|simp only[↓QA,QB,reduceLT,reduceIte,reduceEqDiff,reduceAdd,reduceLeDiff,reduceMul,Nat.reduceBEq,cA,hR.len,hR.base,hR.base0,hR.bset,hR.bset0,hR.at1,hR.at0,hput]|refine rd0 rfl ?_))
      refine⟨_,_,rfl,rfl,?_⟩;try simp only[QS,QC,reduceLT,reduceIte,reduceEqDiff,reduceAdd,reduceLeDiff,reduceMul,Nat.reduceBEq,cA,hR.len,hR.base,hR.base0,hR.bset,hR.bset0,hR.at1,hR.at0,rP]
end Go.Am.Room.Do
namespace Go.Am.Room.Do
def eT:=zz @cZ (zz @cX (zz @dL (zz @S_mapLook (zz @List.length_append.{0} (zz @SZ (zz @SQ (zz @RK (zz @MV (zz @RM (zz @TT (zz @TJ (zz @TR (zz @SA (zz @dR (zz @Nat.add_lt_add_iff_left (zz @Nat.lt_add_right_iff_pos (zz @Nat.mul_one (zz @Int.toNat_natCast (zz @mH (zz @nM (zz @nI (zz @lJ (@rP)))))))))))))))))))))))
def gX(v:Voy)(bl:List Int)(set k:Nat):List AV:=(List.range k).map fun n=>iK v bl (n,set)
theorem TP(v:Voy)(bl:List Int)(set k:Nat):gX v bl set (k+1)=gX v bl set k++[iK v bl (k,set)]:=by simp[gX,List.range_succ]
theorem BY(v:Voy)(bl:List Int)(set k:Nat):(gX v bl set k).length=k:=by simp[gX]
theorem AB(v:Voy)(bl:List Int)(w:Ask):bQ 26 (iK v bl w)=true:=by rw[iK,aHR,mH,lJ];rfl
theorem N8(v:Voy)(bl:List Int)(set k:Nat):aH 26 (gX v bl set k)=true:=vJ 26 (fun n=>iK v bl (n,set)) (List.range k) fun n=>AB v bl _
theorem MT(v:Voy)(bl:List Int)(set k:Nat):kY (gX v bl set k):=cV (enc:=fun n=>iK v bl (n,set)) (fun n=>DC v bl _) (List.range k)
theorem aMK(v:Voy)(bl:List Int)(set k:Nat)(σ:St)(m d:Nat):cB σ m d (gX v bl set k)=some (gX v bl set k):=iG (MT v bl set k) σ m d
theorem WB(v:Voy)(bl:List Int)(set:Nat){k n:Nat}(h:n<k):(gX v bl set k)[n]? = some (iK v bl (n,set)):=by simp[gX,h]
def fK(v:Voy)(bl:List Int)(set:Nat):Nat->Nat->List Ask->Bool×List Ask
 |0,_,A=>(true,A)
 |k+1,n,A=>if xA (tF v bl n set)=true then (false,bN A (n,set)) else fK v bl set k (n+1) (bN A (n,set))
theorem H5(v:Voy)(bl:List Int)(set:Nat):∀ (k n:Nat) (A:List Ask),(fK v bl set k n A).1=(List.range k).all fun j=>!xA (tF v bl (n+j) set)
 |0,n,A=>rfl
 |k+1,n,A=>by
  rw[List.range_succ_eq_map,List.all_cons,List.all_map];simp only[fK];split
  ·rename_i h;simp[h]
  ·rename_i h;rw[H5 v bl set k (n+1)];simp only[Nat.add_zero,h,Function.comp_def];simp only[Bool.not_false,Bool.true_and]
   congr 1
   funext j;rw[show n+1+j=n+Nat.succ j by omega]
theorem TW(v:Voy)(bl:List Int)(set:Nat)(A:List Ask):(fK v bl set v.lots.toNat 0 A).1=iA v bl set:=by
 rw[H5];simp[iA]
theorem aE6{S:List Ask->St}{v:Voy}{b p m N:Nat}{bl:List Int}(hR:MemAt S (db v b m) (tEs v bl) p m N)(hv:Vd v)(hb:ButIs b bl)(set:Nat)(hset:set<16)(q yc:Nat)(hq:∀ A τ,aO (S A++τ) q=some [.ptr p 0])(hql:q<N)(hyl:yc<N)(L:Nat)(hL:v.lots=(L:Int))(A:List Ask)(e:Env)(K:KJ)(e1:Env.get e 1 = .int .i64 set)(e2:Env.get e 2 = .ptr q 0)(e4:Env.get e 4 = .ptr yc 0)(e8:Env.get e 8 = .lit [] false (some N))(e49:Env.get e 49 = .int .i64 (L:Int))(e50:Env.get e 50 = .int .i64 0)(hKt:∀ A' e' ex,fK v bl set L 0 A=(true,A')->Env.get e' 1 = .int .i64 set->Env.get e' 4 = .ptr yc 0->Env.get e' 8 = .lit (gX v bl set L) false (some N)->K (some (.exit 0)) e' (S A'++[.tok 26 L ex]))(hKf:∀ A' e' τ',fK v bl set L 0 A=(false,A')->Env.get e' 7 = .bool true->K (some .ret) e' (S A'++τ')):
  rK (K:=⟨K⟩) T (.loop NM) e (S A++[.tok 26 0 false]):=by
 have hlo:=hv.lots;have hpl:=hR.pl;obtain⟨R,hRR⟩:∃ R,fK v bl set L 0 A=R:=⟨_,rfl⟩;rw[hRR] at hKt hKf;refine cI (S:=Nat×Bool×List Ask) (0,false,A) (fun a=>a.1<=L/\fK v bl set (L-a.1) a.1 a.2.2=R) (fun a=>L-a.1)
  (fun a=>[(1,.int .i64 set),(2,.ptr q 0),(4,.ptr yc 0),(8,.lit (gX v bl set a.1) false (some N)),(49,.int .i64 (L:Int)),(50,.int .i64 a.1)])
  (fun a=>S a.2.2++[.tok 26 a.1 a.2.1]) ⟨Nat.zero_le _,by simpa using hRR⟩ rfl ?_ fun a ha=>?_
 ·try simp only[aB,QE,seval,eT,hR.len,hR.base,hR.base0,hR.bset,hR.bset0,hR.at1,hR.at0,e1,e2,e4,e8,e49,e50,gX,List.range_zero,List.map_nil]
  try simp
 ·obtain⟨k,ex,A1⟩:=a;obtain⟨hk,hacc⟩:=ha;simp only at hk hacc;try simp only[↓QA,QB,seval,eT,hR.len,hR.base,hR.base0,hR.bset,hR.bset0,hR.at1,hR.at0,NM]
  refine aE (fun hd=>?_) fun hd=>?_
  ·have hk1:k<L:=by simpa using hd
   have hw:=bR hk1 (by omega);rw[show L-k=(L-(k+1))+1 by omega] at hacc;simp only[fK] at hacc;obtain⟨A2,hA2⟩:∃ A2,bN A1 (k,set)=A2:=⟨_,rfl⟩;have htu:=M6 (hR.app [.tok 26 k ex]) hv hb A1 k set (by omega) hset;rw[hA2] at hacc htu;have hz:=ST (tF v bl k set);have hrs:=TP v bl set k;have hap:=fun (τ:St)=>qM (σ:=S A2++(.tok 26 k ex::τ)) (t:=N) (ex:=ex) (sz:=26) (b:=208) (xs:=gX v bl set k) (ys:=[iK v bl (k,set)]) (f:=true) (tk:=none) ⟨N8 v bl set k,by rw[NI,AB];rfl,by rw[BY];simp[room];omega,by rw[BY];simp[room];omega⟩ (by simp) k (BY v bl set k).symm (by rw[<-hR.len A2];simp)
   simp only[rM,yB] at htu hap hrs;try simp only[↓QA,QB,seval,eT,hR.len,hR.base,hR.base0,hR.bset,hR.bset0,hR.at1,hR.at0] at htu hap
   try simp only[↓QA,QB,seval,eT,hR.len,hR.base,hR.base0,hR.bset,hR.bset0,hR.at1,hR.at0,hq]
   refine eH htu ?_;try simp only[↓QA,QB,seval,eT,hR.len,hR.base,hR.base0,hR.bset,hR.bset0,hR.at1,hR.at0,hq,<-z26,hz]
   cases h0:xA (tF v bl k set)
   ·rw[h0] at hacc;simp only[Bool.false_eq_true,if_false] at hacc;try simp only[↓QA,QB,seval,eT,hR.len,hR.base,hR.base0,hR.bset,hR.bset0,hR.at1,hR.at0,hq,h0,hap]
    refine⟨(k+1,true,A2),⟨by simp only;omega,hacc⟩,by simp only;omega,?_⟩;simp only[<-hrs];try simp only[aB,QE,seval,eT,hR.len,hR.base,hR.base0,hR.bset,hR.bset0,hR.at1,hR.at0,hw,hR.eqS,aDE,aH9,aMK]
    try simp[aL,okVs,okV]
    try omega
   ·rw[h0] at hacc;simp only[if_true] at hacc;try simp only[↓QA,QB,seval,eT,hR.len,hR.base,hR.base0,hR.bset,hR.bset0,hR.at1,hR.at0,hq,h0]
    exact hKf A2 _ _ hacc.symm (by try simp only[aB,QE,seval,eT,hR.len,hR.base,hR.base0,hR.bset,hR.bset0,hR.at1,hR.at0])
  ·have hk1:k=L:=by simp at hd;omega
   subst hk1;rw[Nat.sub_self] at hacc;simp only[fK] at hacc;try simp only[↓QA,QB,seval,eT,hR.len,hR.base,hR.base0,hR.bset,hR.bset0,hR.at1,hR.at0]
   refine hKt A1 _ ex hacc.symm ?_ ?_ ?_;all_goals try simp only[aB,QE,seval,eT,hR.len,hR.base,hR.base0,hR.bset,hR.bset0,hR.at1,hR.at0]
theorem aEH{S:List Ask->St}{v:Voy}{b p m N:Nat}{bl:List Int}(hR:MemAt S (db v b m) (tEs v bl) p m N)(hv:Vd v)(hb:ButIs b bl)(set:Nat)(hset:set<16)(q y3 yc id:Nat)(hq:∀ A τ,aO (S A++τ) q=some [.ptr p 0])(hyc:∀ A τ,aO (S A++τ) yc=some [.yield id])(hql:q<N)(hyl:yc<N)(A:List Ask)(V:Bool)(W:List Ask->St)(hcall:∀ A' fl tk τ,iA v bl set=true->Run T (.callv (.yield id) [.int .i64 set,.lit (gX v bl set v.lots.toNat) fl tk] (S A'++τ)) fun o=>o.v = .bool V/\∃ τ',o.σ=W A'++τ'):
  wp T yI.body (eI 0 [.int .i64 v.doors.length,.int .i64 set,.ptr q 0,.ptr y3 0,.ptr yc 0]) (S A) (fun j e σ'=>(j=none\/j=some .ret)/\Env.get e 7 = .bool (if iA v bl set=true then V else true)/\∃ τ',σ'=(if iA v bl set=true then W (fK v bl set v.lots.toNat 0 A).2 else S (fK v bl set v.lots.toNat 0 A).2)++τ'):=by
 have hlo:=hv.lots;have hlf:=TW v bl set A;obtain⟨L,hL⟩:∃ L:Nat,v.lots=(L:Int):=⟨v.lots.toNat,by omega⟩;have hLn:v.lots.toNat=L:=by omega
 rw[hLn] at hlf hcall ⊢;have hq0:=fun A=>by simpa using hq A []
 have g:decide ((v.doors.length:Int)<(v.doors.length:Int))=false:=by simp
 have hl0:Int.ofNat L=(L:Int):=rfl
 (repeat (first|simp only[↓QA,QB,reduceLT,reduceIte,reduceEqDiff,reduceAdd,reduceLeDiff,reduceMul,Nat.reduceBEq,eT,hR.len,hR.base,hR.base0,hR.bset,hR.bset0,hR.at1,hR.at0,yI,hq,hq0,g]|refine rd0 rfl ?_))
 refine vM 8 26 [] rfl ?_
 (repeat (first|simp only[↓QA,QB,reduceLT,reduceIte,reduceEqDiff,reduceAdd,reduceLeDiff,reduceMul,Nat.reduceBEq,eT,hR.len,hR.base,hR.base0,hR.bset,hR.bset0,hR.at1,hR.at0,hq,hq0,hL]|refine rd0 rfl ?_))
 refine aE6 hR hv hb set hset q yc hq hql hyl L hL A _ _ ?_ ?_ ?_ ?_ ?_ ?_ ?_ ?_
 ·try simp only[aB,QE,reduceLT,reduceIte,reduceEqDiff,reduceAdd,reduceLeDiff,reduceMul,Nat.reduceBEq,eT,hR.len,hR.base,hR.base0,hR.bset,hR.bset0,hR.at1,hR.at0]
 ·try simp only[aB,QE,reduceLT,reduceIte,reduceEqDiff,reduceAdd,reduceLeDiff,reduceMul,Nat.reduceBEq,eT,hR.len,hR.base,hR.base0,hR.bset,hR.bset0,hR.at1,hR.at0]
 ·try simp only[aB,QE,reduceLT,reduceIte,reduceEqDiff,reduceAdd,reduceLeDiff,reduceMul,Nat.reduceBEq,eT,hR.len,hR.base,hR.base0,hR.bset,hR.bset0,hR.at1,hR.at0]
 ·try simp only[aB,QE,reduceLT,reduceIte,reduceEqDiff,reduceAdd,reduceLeDiff,reduceMul,Nat.reduceBEq,eT,hR.len,hR.base,hR.base0,hR.bset,hR.bset0,hR.at1,hR.at0]
 ·try simp only[aB,QE,reduceLT,reduceIte,reduceEqDiff,reduceAdd,reduceLeDiff,reduceMul,Nat.reduceBEq,eT,hR.len,hR.base,hR.base0,hR.bset,hR.bset0,hR.at1,hR.at0]
 ·try simp only[aB,QE,reduceLT,reduceIte,reduceEqDiff,reduceAdd,reduceLeDiff,reduceMul,Nat.reduceBEq,eT,hR.len,hR.base,hR.base0,hR.bset,hR.bset0,hR.at1,hR.at0]
 ·intro A' e' ex hls q1 q4 q8;rw[hls] at hlf ⊢;have hlf':iA v bl set=true:=hlf.symm;have hc:=hcall A' false (some N) [.tok 26 L ex] hlf';rw[hlf']
  (repeat (first|simp only[↓QA,QB,reduceLT,reduceIte,reduceEqDiff,reduceAdd,reduceLeDiff,reduceMul,Nat.reduceBEq,eT,hR.len,hR.base,hR.base0,hR.bset,hR.bset0,hR.at1,hR.at0,q1,q4,q8,hyc]|refine rd0 rfl ?_))
  refine .mono hc fun o ho=>?_
  obtain⟨hv1,τ',hσ⟩:=ho;rw[hv1,hσ]
  (repeat (first|simp only[↓QA,QB,reduceLT,reduceIte,reduceEqDiff,reduceAdd,reduceLeDiff,reduceMul,Nat.reduceBEq,eT,hR.len,hR.base,hR.base0,hR.bset,hR.bset0,hR.at1,hR.at0,q1,q4,q8]|refine rd0 rfl ?_))
  exact⟨_,rfl⟩
 ·intro A' e' τ' hls q7;rw[hls] at hlf ⊢;have hlf':iA v bl set=false:=hlf.symm;rw[hlf']
  (repeat (first|simp only[↓QA,QB,reduceLT,reduceIte,reduceEqDiff,reduceAdd,reduceLeDiff,reduceMul,Nat.reduceBEq,eT,hR.len,hR.base,hR.base0,hR.bset,hR.bset0,hR.at1,hR.at0,q7]|refine rd0 rfl ?_))
  exact⟨by simp,τ',by simp⟩
end Go.Am.Room.Do
namespace Go.Am.Room.Do
def nA:=zz @cZ (zz @cX (zz @dL (zz @S_mapLook (zz @List.length_append.{0} (zz @SZ (zz @SQ (zz @RK (zz @MV (zz @RM (zz @TT (zz @TJ (zz @TR (zz @SA (zz @dR (zz @Nat.add_lt_add_iff_left (zz @Nat.lt_add_right_iff_pos (zz @Nat.mul_one (zz @Int.toNat_natCast (zz @l0 (@lX))))))))))))))))))))
def VJ(N q:Nat):AV:=.func 411 [] [.ptr q 0,.ptr (N+1) 0,.ptr N 0]
def pN(id N q:Nat):St:=[.cells [.yield id],.cells [VJ N q]]
def j4{X:Type}(v:Voy)(bl:List Int)(f:Nat->X->X×Bool)(set:Nat)(x:X×List Ask):(X×List Ask)×Bool :=
 if iA v bl set=true then (((f set x.1).1,(fK v bl set v.lots.toNat 0 x.2).2),(f set x.1).2) else ((x.1,(fK v bl set v.lots.toNat 0 x.2).2),true)
def sE(v:Voy)(bl:List Int)(t:Nat)(fl:Bool)(tk:Option Nat):List AV:=[.int .i64 t,.lit (gX v bl t v.lots.toNat) fl tk]
def P1{X:Type}(Zp ZDp:X×List Ask->St)(id:Nat)(v:Voy)(bl:List Int)(P:Nat->Prop)(f:Nat->X->X×Bool):Prop :=
 ∀ t,P t->∀ (fl:Bool) (tk:Option Nat) (x:X×List Ask) τ,Run T (.callv (.yield id) (sE v bl t fl tk) (Zp x++τ)) fun o=>o.v = .bool (f t x.1).2/\∃ τ',o.σ=Fam.out Zp ZDp (((f t x.1).1,x.2),(f t x.1).2)++(τ++τ')
theorem HE{X:Type}{Zp ZDp:X×List Ask->St}{v:Voy}{b p m q N:Nat}{bl:List Int}(hR:Fam Zp ZDp (db v b m) p q N)(hS:∀ x,MemAt (fun A=>Zp (x,A)) (db v b m) (tEs v bl) p m N)(hv:Vd v)(hb:ButIs b bl){id:Nat}{P:Nat->Prop}{f:Nat->X->X×Bool}(hy:P1 Zp ZDp id v bl P f):
  ∀ (k h set:Nat) (x:X×List Ask) (τ:St),h+k=v.doors.length->set<2^h->(∀ a∈iM (v.doors.drop h) h set,iA v bl a=true->P a) ->
   sJ T (VJ N q) [.int .i64 h,.int .i64 set] (Zp x++(pN id N q++τ)) (.bool (bF (j4 v bl f) (iM (v.doors.drop h) h set) x).2) (Fam.out Zp ZDp (bF (j4 v bl f) (iM (v.doors.drop h) h set) x)++(pN id N q++τ))
 |0,h,set,(x,A),τ,hk,hset,hP=>by
  have hdr:=hv.ndr;have hh:h=v.doors.length:=by omega
  have hd:v.doors.drop h=[]:=by rw[hh,List.drop_length]
  have hPs:=hP set (by rw[hd];simp[iM]);have h16:set<16:=Nat.lt_of_lt_of_le hset (show 2^h<=2^4 from Nat.pow_le_pow_right (by omega) (by omega));rw[hd];simp only[iM,ER];obtain⟨r,hr⟩:∃ r,j4 v bl f set (x,A)=r:=⟨_,rfl⟩;rw[hr];subst hh
  have hlf:=aEH (S:=fun A=>Zp (x,A)++(pN id N q++τ)) ((hS x).app (pN id N q++τ)) hv hb set h16 q (N+1) N id (fun A τ'=>by rw[List.append_assoc];exact hR.atq1 _ _) (fun A τ'=>by rw[List.append_assoc,hR.base0];rfl) (by have:=hR.ql;omega) (by simp[pN]) A (f set x).2 (fun A'=>Fam.out Zp ZDp (((f set x).1,A'),(f set x).2)++(pN id N q++τ)) (fun A' fl tk τ' hl=>by
   rw[List.append_assoc];refine .mono (hy set (hPs hl) fl tk (x,A') ((pN id N q++τ)++τ')) fun o ho=>?_
   obtain⟨h1,τ'',h2⟩:=ho
   exact⟨h1,τ'++τ'',by rw[h2];simp⟩)
  refine .callf (.call (af:=yI) rfl (by simp[yI]) (fA hlf fun o ho=>ho) fun o ho=>?_);obtain⟨hj,h7,τ',hσ⟩:=ho;have hr':j4 v bl f set (x,A)=r:=hr;simp only[j4] at hr';cases hl:iA v bl set
  ·rw[hl] at h7 hσ hr';simp only[Bool.false_eq_true,if_false] at h7 hσ hr';refine⟨hj,.bool r.2,?_,hR.leave (r:=r) (υ:=pN id N q++τ) (τ':=τ') ?_ ⟨rfl,rfl⟩⟩
   ·simp only[yI,eY,iW];rw[h7,<-hr'];rfl
   ·rw[hσ,<-hr'];simp[Fam.out]
  ·rw[hl] at h7 hσ hr';simp only[if_true] at h7 hσ hr';refine⟨hj,.bool r.2,?_,hR.leave (r:=r) (υ:=pN id N q++τ) (τ':=τ') ?_ ⟨rfl,rfl⟩⟩
   ·simp only[yI,eY,iW];rw[h7,<-hr'];rfl
   ·rw[hσ,<-hr'];simp
 |k+1,h,set,x,τ,hk,hset,hP=>by
  have hdr:=hv.ndr;have hh:h<v.doors.length:=by omega
  obtain⟨y,hye⟩:∃ y,v.doors[h]=y:=⟨_,rfl⟩;have hd:v.doors.drop h=y::v.doors.drop (h+1):=by rw[<-hye];exact List.drop_eq_getElem_cons hh
  rw[hd] at hP ⊢;simp only[iM] at hP ⊢;have g:decide ((h:Int)<(v.doors.length:Int))=true:=by simp;omega
  have hw:IntKind.i64.wrap ((h:Int)+1)=((h+1:Nat):Int):=bR hh (by omega);have hp2:=FX (show h<=60 by omega);have hset1:set<2^(h+1):=by rw[Nat.pow_succ];omega
  have hset2:set|||2^h<2^(h+1):=Nat.or_lt_two_pow hset1 (by rw[Nat.pow_succ];have:=Nat.two_pow_pos h;omega);have hsh:=vN h (by omega);have hor:=JS set (2^h) (by omega) (by omega);obtain⟨L1,hL1⟩:∃ L,iM (v.doors.drop (h+1)) (h+1) set=L:=⟨_,rfl⟩;obtain⟨L2,hL2⟩:∃ L,iM (v.doors.drop (h+1)) (h+1) (set|||2^h)=L:=⟨_,rfl⟩;have ih1:=fun x (h1:∀ a∈L1,iA v bl a=true->P a)=>HE hR hS hv hb hy k (h+1) set x τ (by omega) hset1 (by rw[hL1];exact h1)
  have ih2:=fun x (h1:∀ a∈L2,iA v bl a=true->P a)=>HE hR hS hv hb hy k (h+1) (set|||2^h) x τ (by omega) hset2 (by rw[hL2];exact h1)
  rw[hL1] at ih1 hP ⊢;rw[hL2] at ih2 hP ⊢;obtain⟨F,hF⟩:∃ F,j4 v bl f=F:=⟨_,rfl⟩;rw[hF] at ih1 ih2 ⊢;obtain⟨r,hr⟩:∃ r,bF F ((if y.sure=true then [] else L1)++L2) x=r:=⟨_,rfl⟩;rw[hr];have fin:Fam.out Zp ZDp r++(ABlk.cells [.yield id]::.cells [VJ N q]::τ)=Fam.out Zp ZDp r++((pN id N q++τ)++[]):=by simp[pN]
  refine .callf (.call (af:=yI) rfl (by simp[yI]) (fA (K:=fun j e σ1=>(j=none\/j=some .ret)/\Env.get e 7 = .bool r.2/\∃ τ',σ1=Fam.out Zp ZDp r++((pN id N q++τ)++τ')) ?_ fun o ho=>ho) fun o ho=>?_)
  ·simp only[pN,VJ] at ih1 ih2 fin ⊢;try simp only[↓QA,QB,seval,nA,hR.len,hR.base,hR.base0,hR.bset,hR.bset0,hR.at1,hR.atq1] at ih1 ih2
   cases hys:y.sure
   ·rw[hys] at hr hP;simp only[Bool.false_eq_true,if_false] at hr hP;have hih:=ih1 x (fun a ha=>hP a (List.mem_append_left _ ha));have hih2:=fun x=>ih2 x (fun a ha=>hP a (List.mem_append_right _ ha))
    rw[uG] at hr;obtain⟨r1,hr1⟩:∃ r1,bF F L1 x=r1:=⟨_,rfl⟩;rw[hr1] at hr hih
    (repeat (first|simp only[↓QA,QB,seval,nA,hR.len,hR.base,hR.base0,hR.bset,hR.bset0,hR.at1,hR.atq1,yI,g,hh,hye,hys,hw]|refine rd0 rfl ?_))
    refine eH hih ?_;cases hr2:r1.2
    ·rw[hr2] at hr;simp only[Bool.false_eq_true,if_false] at hr;have ho:Fam.out Zp ZDp r1=Fam.out Zp ZDp r:=by rw[<-hr,Fam.out,Fam.out,hr2]
     rw[ho]
     (repeat (first|simp only[↓QA,QB,seval,nA,hR.len,hR.base,hR.base0,hR.bset,hR.bset0,hR.at1,hR.atq1]|refine rd0 rfl ?_))
     exact⟨by rw[<-hr],_,fin⟩
    ·rw[hr2] at hr;simp only[if_true] at hr;have ho:Fam.out Zp ZDp r1=Zp r1.1:=if_pos hr2;have hih3:=hih2 r1.1;rw[hr] at hih3;rw[ho]
     (repeat (first|simp only[↓QA,QB,seval,nA,hR.len,hR.base,hR.base0,hR.bset,hR.bset0,hR.at1,hR.atq1,hw,hsh,hor]|refine rd0 rfl ?_))
     refine kR hih3 ?_
     (repeat (first|simp only[↓QA,QB,seval,nA,hR.len,hR.base,hR.base0,hR.bset,hR.bset0,hR.at1,hR.atq1]|refine rd0 rfl ?_))
     exact⟨_,fin⟩
   ·rw[hys] at hr hP;simp only[if_true,List.nil_append] at hr hP;have hih:=ih2 x hP;rw[hr] at hih
    (repeat (first|simp only[↓QA,QB,seval,nA,hR.len,hR.base,hR.base0,hR.bset,hR.bset0,hR.at1,hR.atq1,yI,g,hh,hye,hys,hw,hsh,hor]|refine rd0 rfl ?_))
    refine kR hih ?_
    (repeat (first|simp only[↓QA,QB,seval,nA,hR.len,hR.base,hR.base0,hR.bset,hR.bset0,hR.at1,hR.atq1]|refine rd0 rfl ?_))
    exact⟨_,fin⟩
  ·obtain⟨hj,h7,τ',hσ⟩:=ho;refine⟨hj,.bool r.2,?_,hR.leave hσ ⟨rfl,rfl⟩⟩;simp only[yI,eY,iW];rw[h7];rfl
def jJ{X:Type}(v:Voy)(bl:List Int)(f:Nat->X->X×Bool)(x:X)(A:List Ask):(X×List Ask)×Bool:=bF (j4 v bl f) (iM v.doors 0 0) (x,A)
theorem xO{X:Type}{Zp ZDp:X×List Ask->St}{v:Voy}{b p m q N:Nat}{bl:List Int}(hR:Fam Zp ZDp (db v b m) p q N)(hS:∀ x,MemAt (fun A=>Zp (x,A)) (db v b m) (tEs v bl) p m N)(hv:Vd v)(hb:ButIs b bl){id:Nat}{P:Nat->Prop}{f:Nat->X->X×Bool}(hy:P1 Zp ZDp id v bl P f)(hP:∀ a∈iM v.doors 0 0,iA v bl a=true->P a)(x:X×List Ask):
  Run T (.call 410 [.yield id,.ptr q 0] (Zp x)) fun o=>∃ τ',o.σ=Fam.out Zp ZDp (bF (j4 v bl f) (iM v.doors 0 0) x)++τ':=by
 have hn:=HE hR hS hv hb hy v.doors.length 0 0 x [] (by omega) (by simp) hP;rw[List.drop_zero] at hn;obtain⟨r,hr⟩:∃ r,bF (j4 v bl f) (iM v.doors 0 0) x=r:=⟨_,rfl⟩;rw[hr] at hn ⊢;refine .call (af:=XE) rfl (by simp[XE]) (fA (K:=fun j e σ'=>(j=none\/j=some .ret)/\∃ τ',σ'=Fam.out Zp ZDp r++τ') ?_ fun o ho=>ho) fun o ho=>⟨ho.1,.tuple [],rfl,.inl ho.2⟩
 have h00:((0:Nat):Int)=0:=rfl;simp only[pN,VJ,List.append_nil,h00] at hn;try simp only[↓QA,QB,seval,nA,hR.len,hR.base,hR.base0,hR.bset,hR.bset0,hR.at1,hR.atq1,XE]
 refine eH hn ?_;try simp only[↓QA,QB,seval,nA,hR.len,hR.base,hR.base0,hR.bset,hR.bset0,hR.at1,hR.atq1]
 exact⟨_,rfl⟩
end Go.Am.Room.Do
namespace Go.Am.Room.Do
def pJ:=zz @cZ (zz @cX (zz @dL (zz @S_mapLook (zz @List.length_append.{0} (zz @SZ (zz @SQ (zz @RK (zz @MV (zz @RM (zz @TT (zz @TJ (zz @TR (zz @SA (zz @dR (zz @Nat.add_lt_add_iff_left (zz @Nat.lt_add_right_iff_pos (zz @Nat.mul_one (zz @Int.toNat_natCast (zz @l0 (@lX))))))))))))))))))))
theorem aJY{X M:Type}{Z ZD:X->M->St}{obj:List AV}{es:M->List (AV×AV)}{p m q N:Nat}(h:Fam1 Z ZD obj es p m q N):Fam (fun y:X×M=>Z y.1 y.2) (fun y=>ZD y.1 y.2) obj p q N :=
 ⟨fun y=>(h.ship y.1).len y.2,fun y=>h.lenD y.1 y.2,fun y=>(h.ship y.1).at0 y.2,fun y=>h.atq0 y.1 y.2,fun x y k i hk hi=>h.keep _ _ _ _ k i hk hi,fun x y k i hk hi=>h.keepD _ _ _ _ k i hk hi,h.pl,h.ql⟩
theorem pG{X:Type}{Z ZD:X->List Ask->St}{v:Voy}{b p m q N:Nat}{bl:List Int}(hF:Fam1 Z ZD (db v b m) (tEs v bl) p m q N)(hv:Vd v)(hb:ButIs b bl){id:Nat}{P:Nat->Prop}{f:Nat->X->X×Bool}(hy:xK Z ZD id (sE v bl) P f)(hP:∀ a∈iM v.doors 0 0,iA v bl a=true->P a)(x:X)(A:List Ask):
  Run T (.call 410 [.yield id,.ptr q 0] (Z x A)) fun o=>∃ τ',o.σ=Fam1.out Z ZD ((jJ v bl f x A).1.1,(jJ v bl f x A).2) (jJ v bl f x A).1.2++τ' :=
 xO (aJY hF) (fun x=>hF.ship x) hv hb (f:=f) (fun t ht fl tk x τ=>hy t ht fl tk x.1 x.2 τ) hP (x,A)
theorem zP{X:Type}(v:Voy)(bl:List Int)(f:Nat->X->X×Bool)(x:X)(A:List Ask):((jJ v bl f x A).1.1,(jJ v bl f x A).2)=bF f (TL v bl) x:=by
 have key:∀ (l:List Nat) (x:X) (A:List Ask),((bF (j4 v bl f) l (x,A)).1.1,(bF (j4 v bl f) l (x,A)).2)=bF f (l.filter (iA v bl)) x:=by
  intro l
  induction l with
  |nil=>intro x A;rfl
  |cons set l ih =>
   intro x A;simp only[bF,List.filter_cons];cases h:iA v bl set
   ·have hp:j4 v bl f set (x,A)=((x,(fK v bl set v.lots.toNat 0 A).2),true):=by simp only[j4,h,Bool.false_eq_true,if_false]
    rw[hp];simp only[if_true,Bool.false_eq_true,if_false];exact ih x _
   ·have hp:j4 v bl f set (x,A)=(((f set x).1,(fK v bl set v.lots.toNat 0 A).2),(f set x).2):=by simp only[j4,h,if_true]
    rw[hp];simp only[if_true,bF];split
    ·exact ih _ _
    ·rfl
 exact key _ x A
theorem jQ{X:Type}{S:List Ask->St}{v:Voy}{b p m N:Nat}{bl:List Int}(hS:MemAt S (db v b m) (tEs v bl) p m N)(hv:Vd v)(hb:ButIs b bl)(U UD:X->St)(n:Nat)(hU:∀ x,(U x).length=n)(hUD:∀ x,(UD x).length=n)(ok:∀ x y,y∈U x->∀ k,N<=k->aL k y)(okD:∀ x y,y∈UD x->∀ k,N<=k->aL k y)(J:AJump){P:Nat->Prop}{f:Nat->X->X×Bool}(e:Env)(k:Nat)(ps:List Nat)(a bb:ACode)(ek:Env.get e k = .func 410 [] [.ptr (N+n) 0])(hy:xK (fun x B=>S B++(U x++[.cells [.ptr p 0],.loop .ready none e ps a bb])) (fun x B=>S B++(UD x++[.cells [.ptr p 0],.loop .done (some J) e ps a bb])) (N+n+1) (sE v bl) P f)(hP:∀ t∈TL v bl,P t)(x:X)(A:List Ask)(K:KJ)(hT:∀ τ,(bF f (TL v bl) x).2=true->K none e (S (jJ v bl f x A).1.2++(U (bF f (TL v bl) x).1++(.cells [.ptr p 0]::.dead::τ))))(hD:∀ τ,(bF f (TL v bl) x).2=false->K (some J) e (S (jJ v bl f x A).1.2++(UD (bF f (TL v bl) x).1++(.cells [.ptr p 0]::.dead::τ)))):
  rK (K:=⟨K⟩) T (.rangeFunc (.t k) ps a bb) e (S A++(U x++[.cells [.ptr p 0]])):=by
 have hrun:=pG (aF7 hS U UD n hU hUD ok okD e ps a bb .ready .done none (some J)) hv hb hy (fun a ha hl=>hP a (List.mem_filter.2 ⟨ha,hl⟩)) x A;rw[zP] at hrun;exact aCR (A:=Nat) hS U UD n hU hUD J e k ps a bb 410 ek (bF f (TL v bl) x) (jJ v bl f x A).1.2 x A hrun K hT hD
def pE(_:Nat)(x:Unit):Unit×Bool:=(x,false)
theorem R8(l:List Nat):(bF pE l ()).2=l.isEmpty:=by
 cases l<;>simp[bF,pE]
def K0(v:Voy)(bl:List Int)(A:List Ask):List Ask:=(jJ v bl pE () A).1.2
theorem uV{S:List Ask->St}{v:Voy}{b p m N:Nat}{bl:List Int}(hR:MemAt S (db v b m) (tEs v bl) p m N)(hv:Vd v)(hb:ButIs b bl)(A:List Ask):
  sJ T (.func 165 [] []) [.ptr p 0] (S A) (.bool !(truths v bl).isEmpty) (S (K0 v bl A)):=by
 have hit:=R8 (TL v bl);rw[GN hv] at hit;refine nJ hR (af:=Y1) rfl (by simp[Y1]) ?_;try simp only[↓QA,QB,seval,pJ,hR.len,hR.base,hR.base0,hR.bset,hR.bset0,hR.at1,hR.at0,Y1]
 refine qJ rfl (by simp[D3]) ?_;try simp only[↓QA,QB,seval,pJ,hR.len,hR.base,hR.base0,hR.bset,hR.bset0,hR.at1,hR.at0,D3]
 refine jQ hR hv hb (fun _:Unit=>[.cells [.bool false]]) (fun _=>[.cells [.bool true]]) 1 (fun _=>rfl) (fun _=>rfl) (fun _ y hy k _=>by simp at hy;subst hy;simp[aL,okVs,okV]) (fun _ y hy k _=>by simp at hy;subst hy;simp[aL,okVs,okV]) .ret (P:=fun _=>True) (f:=pE) _ 4 [5,6] _ _ ?_ ?_ (fun _ _=>trivial) () A _ ?_ ?_
 ·try simp only[aB,QE,seval,pJ,hR.len,hR.base,hR.base0,hR.bset,hR.bset0,hR.at1,hR.at0]
 ·refine yX hR _ _ 1 (fun _=>rfl) (fun _=>rfl) .ret _ _ (sE v bl) (fun _ _ _=>rfl) _ _ ?_;intro t _ fl tk x A' τ;simp only[iQ,sE];try simp only[↓QA,QB,seval,pJ,hR.len,hR.base,hR.base0,hR.bset,hR.bset0,hR.at1,hR.at0,WI,pE]
  exact .inr ⟨[],by simp⟩
 ·intro τ h2;rw[hit] at h2;try simp only[↓QA,QB,seval,pJ,hR.len,hR.base,hR.base0,hR.bset,hR.bset0,hR.at1,hR.at0,h2]
  refine⟨_,_,rfl,rfl,?_⟩;try simp only[QS,QC,seval,pJ,hR.len,hR.base,hR.base0,hR.bset,hR.bset0,hR.at1,hR.at0]
 ·intro τ h2;rw[hit] at h2;try simp only[↓QA,QB,seval,pJ,hR.len,hR.base,hR.base0,hR.bset,hR.bset0,hR.at1,hR.at0,h2]
  refine⟨_,_,rfl,rfl,?_⟩;try simp only[QS,QC,seval,pJ,hR.len,hR.base,hR.base0,hR.bset,hR.bset0,hR.at1,hR.at0]
end Go.Am.Room.Do
namespace Go.Am.Room.Do
def jM:=zz @encVoy_eq (zz @gI (zz @cZ (zz @cX (zz @aN (zz @gU (zz @dL (zz @S_mapLook (zz @List.length_append.{0} (zz @SZ (zz @SQ (zz @RK (zz @MV (zz @RM (zz @TT (zz @TJ (zz @TR (zz @SA (zz @dR (zz @Nat.add_lt_add_iff_left (zz @Nat.lt_add_right_iff_pos (zz @Nat.mul_one (zz @Int.toNat_natCast (zz @l0 (zz @lX (zz @mH (zz @nM (zz @nI (zz @lJ (@rP)))))))))))))))))))))))))))))
theorem aFT{a b:Nat}(h:a<32)(k:b<32):a|||b<32:=Nat.or_lt_two_pow (n:=5) h k
abbrev F32:={ f:Nat->Nat // ∀ i,f i<32 }
def lV{v:Voy}(hv:Vd v)(n op:Nat)(f:F32):F32×Bool:=(⟨orF f.1 (tF v [] n op),fun i=>aFT (f.2 i) (aH4 hv [] n op i)⟩,true)
def f0:F32:=⟨fun _=>0,fun _=>by simp⟩
theorem BF{v:Voy}(hv:Vd v)(n:Nat):∀ (l:List Nat) (f:F32),(l.foldl (fun x a=>(lV hv n a x).1) f).1=l.foldl (fun f op=>orF f (tF v [] n op)) f.1
 |[],f=>rfl
 |a::l,f=>by rw[List.foldl_cons,List.foldl_cons,BF hv n l];rfl
def DP(n:Nat)(f:F32):St:=[.cells [.int .i64 n],.cells (eS f.1)]
def xZ(f g:Nat->Nat)(h i:Nat):Nat:=if i<h then f i|||g i else f i
theorem aJ0(f g:Nat->Nat):xZ f g 0=f:=by funext i;simp[xZ]
theorem aCV(f g:Nat->Nat):eS (xZ f g 26)=eS (orF f g):=v8 fun i hi=>by simp[xZ,orF,hi]
theorem RQ(f g:Nat->Nat)(h:Nat):AK (xZ f g h) h (f h|||g h)=xZ f g (h+1):=by
 funext i;simp only[AK,xZ];by_cases e:i=h
 ·subst e;simp
 ·by_cases h2:i<h
  ·simp[e,h2,show i<h+1 by omega]
  ·simp[e,h2,show ¬i<h+1 by omega]
theorem aFS(f g:Nat->Nat)(h:Nat):xZ f g h h=f h:=by simp[xZ]
theorem VL{S:List Ask->St}{v:Voy}{b p m N:Nat}(hR:MemAt S (db v b m) (tEs v []) p m N)(hv:Vd v)(n:Nat)(hn:n<v.lots.toNat)(t:Nat)(fl:Bool)(tk:Option Nat)(f:F32)(B:List Ask)(lp:ABlk)(τ:St)(e:Env)(G:Option AJump->St->Prop)(e3:Env.get e 3 = .ptr N 0)(e4:Env.get e 4 = .ptr (N+1) 0)(e6:Env.get e 6 = .lit (gX v [] t v.lots.toNat) fl tk)(R:F32×Bool)(hRr:lV hv n t f=R):
  wp T M7 e (S B++(DP n f++(.cells [.ptr p 0]::lp::τ))) (fun j e'' σ''=>(R.2=true/\j=none/\∃ τ',σ''=S B++(DP n R.1++(.cells [.ptr p 0]::lp::(τ++τ'))))\/G j σ''):=by
 have hlo:=hv.lots;subst hRr;have hrg:=WB v [] t hn;have hix:D6 26 (gX v [] t v.lots.toNat) (n:Int) tk=some (.lptr (gX v [] t v.lots.toNat) n 0 tk):=by
  simp[D6,hrg,iK,AV.cells,mH]
 obtain⟨g,hg⟩:∃ g,tF v [] n t=g:=⟨_,rfl⟩;have hgl:∀ i,g i<32:=fun i=>by rw[<-hg];exact aH4 hv [] n t i
 have hfin:eS (lV hv n t f).1.1=eS (xZ f.1 g 26):=by rw[aCV,<-hg];rfl
 simp only[rM,hg] at hrg;simp only[DP];rw[hfin]
 (repeat (first|simp only[↓QA,QB,reduceLT,reduceIte,reduceEqDiff,reduceAdd,reduceLeDiff,reduceMul,Nat.reduceBEq,jM,hR.len,hR.base,hR.base0,hR.bset,hR.bset0,hR.at1,hR.at0,M7,e3,e4,e6,hix,hrg]|refine rd0 rfl ?_))
 refine cI (S:=Nat) 0 (fun h=>h<=26) (fun h=>26-h)
  (fun h=>[(4,.ptr (N+1) 0),(16,.agg (eS g)),(17,.int .i64 h)])
  (fun h=>S B++(.cells [.int .i64 n]::.cells (eS (xZ f.1 g h))::.cells [.ptr p 0]::lp::τ)) (Nat.zero_le _) (by rw[aJ0]) ?_ fun h hh=>?_
 ·try simp only[aB,QE,reduceLT,reduceIte,reduceEqDiff,reduceAdd,reduceLeDiff,reduceMul,Nat.reduceBEq,jM,hR.len,hR.base,hR.base0,hR.bset,hR.bset0,hR.at1,hR.at0,e4]
  try simp
 ·(repeat (first|simp only[↓QA,QB,reduceLT,reduceIte,reduceEqDiff,reduceAdd,reduceLeDiff,reduceMul,Nat.reduceBEq,jM,hR.len,hR.base,hR.base0,hR.bset,hR.bset0,hR.at1,hR.at0,XI]|refine rd0 rfl ?_))
  refine aE (fun hd=>?_) fun hd=>?_
  ·have hh1:h<26:=by simp at hd;omega
   have hw:=bR hh1 (by omega);have ih:(0:Int)<=(h:Int)/\(h:Int)<((26:Nat):Int):=⟨by omega,by omega⟩;have c25:h<=25:=by omega
   have hg1:=mL (xZ f.1 g h) hh1;rw[aFS] at hg1;have hg2:=mL g hh1;have h1:=f.2 h;have h2:=hgl h;have hor:=JS (f.1 h) (g h) (by omega) (by omega);have hs:=w9 (xZ f.1 g h) (f.1 h|||g h) hh1;rw[RQ] at hs
   (repeat (first|simp only[↓QA,QB,reduceLT,reduceIte,reduceEqDiff,reduceAdd,reduceLeDiff,reduceMul,Nat.reduceBEq,jM,hR.len,hR.base,hR.base0,hR.bset,hR.bset0,hR.at1,hR.at0,ih,c25,hg1,hg2,hor,hs,PM]|refine rd0 rfl ?_))
   refine⟨h+1,by omega,by omega,?_⟩;try simp only[aB,QE,reduceLT,reduceIte,reduceEqDiff,reduceAdd,reduceLeDiff,reduceMul,Nat.reduceBEq,jM,hR.len,hR.base,hR.base0,hR.bset,hR.bset0,hR.at1,hR.at0,hw]
   try simp[aL,okVs,okV,lG]
   try omega
  ·have hh1:h=26:=by simp at hd;omega
   subst hh1
   (repeat (first|simp only[↓QA,QB,reduceLT,reduceIte,reduceEqDiff,reduceAdd,reduceLeDiff,reduceMul,Nat.reduceBEq,jM,hR.len,hR.base,hR.base0,hR.bset,hR.bset0,hR.at1,hR.at0]|refine rd0 rfl ?_))
   exact .inl ⟨rfl,[],by simp⟩
def rD{v:Voy}(hv:Vd v)(n:Nat)(A:List Ask):List Ask:=(jJ v [] (lV hv n) f0 A).1.2
theorem B4{S:List Ask->St}{v:Voy}{b p m N:Nat}(hR:MemAt S (db v b m) (tEs v []) p m N)(hv:Vd v)(hb:ButIs b [])(n:Nat)(hn:n<v.lots.toNat)(A:List Ask):
  sJ T (.func 167 [] []) [.ptr p 0,.int .i64 n] (S A) (.agg (eS (jZ v n))) (S (rD hv n A)):=by
 have hgo:=wL (f:=lV hv n) (fun _ _=>rfl) (TL v []) f0;obtain⟨Y,hY⟩:∃ Y,(TL v []).foldl (fun x a=>(lV hv n a x).1) f0=Y:=⟨_,rfl⟩;have hYe:Y.1=jZ v n:=by rw[<-hY,BF hv];rfl
 rw[hY] at hgo;have hok:∀ (x:F32) (y:ABlk),y∈DP n x->∀ k,N<=k->aL k y:=by
  intro x y hy k hk;simp only[DP,List.mem_cons,List.not_mem_nil,or_false] at hy;rcases hy with rfl|rfl
  ·simp[aL,okVs,okV]
  ·exact lG _ _
 refine nJ hR (af:=WN) rfl (by simp[WN]) ?_;try simp only[↓QA,QB,seval,jM,hR.len,hR.base,hR.base0,hR.bset,hR.bset0,hR.at1,hR.at0,WN,<-z26]
 refine qJ rfl (by simp[D3]) ?_;try simp only[↓QA,QB,seval,jM,hR.len,hR.base,hR.base0,hR.bset,hR.bset0,hR.at1,hR.at0,D3]
 refine jQ hR hv hb (DP n) (DP n) 2 (fun _=>rfl) (fun _=>rfl) hok hok .ret (P:=fun _=>True) (f:=lV hv n) _ 10 [11,12] _ _ ?_ ?_ (fun _ _=>trivial) f0 A _ ?_ ?_
 ·try simp only[aB,QE,seval,jM,hR.len,hR.base,hR.base0,hR.bset,hR.bset0,hR.at1,hR.at0]
 ·refine yX hR (DP n) (DP n) 2 (fun _=>rfl) (fun _=>rfl) .ret _ _ (sE v []) (fun _ _ _=>rfl) _ _ ?_;intro t _ fl tk x B τ;simp only[iQ,sE];try simp only[↓QA,QB,seval,jM,hR.len,hR.base,hR.base0,hR.bset,hR.bset0,hR.at1,hR.at0]
  obtain⟨R,hRr⟩:∃ R,lV hv n t x=R:=⟨_,rfl⟩;rw[hRr];refine VL hR hv n hn t fl tk x B _ τ _ _ ?_ ?_ ?_ R hRr;all_goals try simp only[aB,QE,seval,jM,hR.len,hR.base,hR.base0,hR.bset,hR.bset0,hR.at1,hR.at0]
 ·intro τ h2;rw[hgo];simp only[DP];try simp only[↓QA,QB,seval,jM,hR.len,hR.base,hR.base0,hR.bset,hR.bset0,hR.at1,hR.at0,hYe,<-z26]
  exact⟨_,_,rfl,rfl,by try simp only[QS,QC,seval,jM,hR.len,hR.base,hR.base0,hR.bset,hR.bset0,hR.at1,hR.at0,rP]⟩
 ·intro τ h2;rw[hgo] at h2;cases h2
theorem MJ(v:Voy)(bl:List Int)(A:List Ask)(k:Nat):aL k (.map (tEs v bl A)):=Y4 (HI v bl) A k
def j6(σ:St)(v:Voy)(A:List Ask):St:=σ++[.cells (voyCells v),.cells (voyCells v),.map (tEs v [] A),.cells (db v 0 (σ.length+2))]
theorem v4(σ:St)(v:Voy):MemAt (j6 σ v) (db v 0 (σ.length+2)) (tEs v []) (σ.length+3) (σ.length+2) (σ.length+4) :=
 ⟨fun M=>by simp[j6],fun M=>by simp[j6,n8,Q3,Q9],fun M=>by rw[j6,tO];rfl,fun M M'=>by rw[j6,j6,mW];rfl,fun A k=>MJ v [] A k,by omega,by omega⟩
def fP(v:Voy)(n:Int)(k:Nat):AV:=if lotErr v n=0 then .tuple [.ptr (k+3) 0,.int .i64 0] else .tuple [.nilPtr,.int .i64 (lotErr v n)]
def pB(v:Voy):List Ask:=K0 v [] []
def iZ(σ:St)(v:Voy)(n:Int):St:=if lotErr v n=0 then j6 σ v (pB v) else σ
end Go.Am.Room.Do
namespace Go.Am.Room.Do
def lC:=zz @encVoy_eq (zz @cW (zz @gI (zz @cZ (zz @cX (zz @aN (zz @gU (zz @dL (zz @S_mapLook (zz @List.length_append.{0} (zz @dR (zz @Nat.add_lt_add_iff_left (zz @Nat.lt_add_right_iff_pos (zz @Nat.mul_one (@Int.toNat_natCast))))))))))))))
theorem kJ(σ:St)(v:Voy)(n:Int)(hf:Fits v):sJ T (.func 166 [] []) [gY v,.int .i64 n] σ (fP v n σ.length) (iZ σ v n):=by
 refine .callf (.call (af:=MN) rfl (by simp[MN]) (fA (K:=fun j e σ1=>(j=none\/j=some .ret)/\(if lotErr v n=0 then Env.get e 4 = .ptr (σ.length+3) 0/\Env.get e 5 = .int .i64 0/\σ1=j6 σ v (pB v) else Env.get e 4 = .nilPtr/\Env.get e 5 = .int .i64 (lotErr v n)/\∃ τ,σ1=σ++τ)) ?_ fun o ho=>ho) fun o ho=>?_)
 ·obtain⟨E,hE⟩:∃ E,lotErr v n=E:=⟨_,rfl⟩;have hE2:errKnown v (errAsk v n)=E:=hE;rw[hE];try simp only[↓QA,QB,seval,lC,MN]
  (refine aC (check_ok v hf) rfl dd ?_;try simp only[↓QA,QB,seval,lC,enc3])
  cases h0:((check v).2.2==0)
  ·have h0':(check v).2.2≠0:=by simpa using h0
   have he:E=(check v).2.2:=by rw[<-hE2];simp[errAsk,h0',errKnown]
   try simp only[↓QA,QB,seval,lC,h0]
   rw[he,if_neg h0'];simp
  ·have h0':(check v).2.2=0:=by simpa using h0
   have hv:=vd_of_check h0';have hlo:=hv.lots;have hws:IntKind.i64.wrap (v.lots-1)=v.lots-1:=bZ ⟨by omega,by omega⟩;try simp only[↓QA,QB,seval,lC,h0,hws]
   (refine bH (gC 0 (v.lots-1) [n] (by simp)) (by simp[clr,clrs,ints]) (by simp[okV,okVs]) ?_;try simp only[↓QA,QB,seval,lC,lE])
   cases h1:inR n 0 (v.lots-1)
   ·have he:E=4:=by rw[<-hE2];simp[errAsk,h0',h1,errKnown]
    subst he;try simp only[↓QA,QB,seval,lC]
    simp
   ·have hEk:E=errKnown v 0:=by rw[<-hE2];simp[errAsk,h0',h1]
    have hlk:=wG (σ++[.cells (voyCells v)]) v 0;have hso:=uV (v4 σ v) hv MM [];have e0:tEs v [] []=[]:=rfl;simp only[j6,pS,e0] at hso hlk;try simp only[↓QA,QB,seval,lC,List.append_assoc] at hso hlk
    try simp only[↓QA,QB,seval,lC]
    refine eH hlk ?_;try simp only[↓QA,QB,seval,lC]
    refine eH hso ?_;cases hs:(truths v []).isEmpty
    ·have he:E=0:=by rw[hEk];simp[errKnown,hs]
     subst he;try simp only[↓QA,QB,seval,lC]
     simp[j6,pB,voyCells,ints]
    ·have he:E=8:=by rw[hEk];simp[errKnown,hs]
     subst he;try simp only[↓QA,QB,seval,lC]
     simp
 ·obtain⟨hj,ho⟩:=ho;by_cases he:lotErr v n=0
  ·rw[if_pos he] at ho;refine⟨hj,fP v n σ.length,?_,.inl ⟨rfl,?_⟩⟩
   ·simp[eY,iW,MN,ho.1,ho.2.1,fP,he]
   ·rw[ho.2.2,iZ,if_pos he]
  ·rw[if_neg he] at ho;obtain⟨h4,h5,τ,hσ⟩:=ho;refine⟨hj,fP v n σ.length,?_,.inr ⟨20,fP v n σ.length,fP v n σ.length,?_,.inl rfl,fun i hi=>.inl (by rw[hσ];exact List.getElem?_append_left hi),by rw[hσ];simp,rfl,by rw[hσ];simp[iZ,he]⟩⟩
   ·simp[eY,iW,MN,h4,h5,fP,he]
   ·simp[fP,he,snap,snaps]
def uX(f:Nat->Nat):Nat->Int×Int
 |0=>(-1,0)
 |k+1=>if f k=0 then uX f k else (if (uX f k).1<0 then (k:Int) else (uX f k).1,(k:Int))
theorem PR(f:Nat->Nat):∀ k,(uX f k=(-1,0)/\∀ i,i<k->f i=0)\/(∃ a b:Nat,uX f k=((a:Int),(b:Int))/\a<k/\b<k/\f a≠0/\f b≠0/\∀ i,i<k->f i≠0->a<=i/\i<=b)
 |0=>.inl ⟨rfl,fun i hi=>by omega⟩
 |k+1=>by
  have ih:=PR f k;simp only[uX];by_cases h:f k=0
  ·rw[if_pos h];rcases ih with⟨e,h0⟩|⟨a,b,e,ha,hb,fa,fb,hr⟩
   ·left;refine⟨e,fun i hi=>?_⟩;by_cases hk:i=k
    ·subst hk;exact h
    ·exact h0 i (by omega)
   ·right;refine⟨a,b,e,by omega,by omega,fa,fb,fun i hi hf=>?_⟩;by_cases hk:i=k
    ·subst hk;exact absurd h hf
    ·exact hr i (by omega) hf
  ·rw[if_neg h];right;rcases ih with⟨e,h0⟩|⟨a,b,e,ha,hb,fa,fb,hr⟩
   ·refine⟨k,k,by rw[e];simp,by omega,by omega,h,h,fun i hi hf=>?_⟩;by_cases hk:i=k
    ·omega
    ·exact absurd (h0 i (by omega)) hf
   ·refine⟨a,k,by rw[e];simp only;rw[if_neg (by omega)],by omega,by omega,fa,h,fun i hi hf=>?_⟩;by_cases hk:i=k
    ·omega
    ·have:=hr i (by omega) hf;omega
theorem ND{v:Voy}(hv:Vd v){N:Nat}(hn:N<v.lots.toNat){w:Tn}(hw:w∈turnsIn (truths v []) N):(w.hour = -1/\jZ v N 25≠0)\/(∃ i:Nat,i<25/\w.hour=(i:Int)/\jZ v N i≠0):=by
 rcases yH hn hw with e|e
 ·left;refine⟨by rw[e],(vZ hv hn (by omega)).2 ⟨w,hw,by rw[e];rfl⟩⟩
 ·right;have:=hv.hours;refine⟨w.hour.toNat,by omega,by omega,(vZ hv hn (by omega)).2 ⟨w,hw,?_⟩⟩;simp only[hAt];rw[if_neg (by omega)];omega
theorem Q0{v:Voy}(hv:Vd v){N:Nat}(hn:N<v.lots.toNat){i:Nat}(hi:i<25)(h:jZ v N i≠0):(i:Int)∈hoursIn (truths v []) N:=by
 obtain⟨w,hw,e⟩:=(vZ hv hn (by omega)).1 h;simp only[hAt] at e;rw[if_neg (by omega)] at e;exact mem_hours.2 ⟨by omega,w,hw,e⟩
theorem N7{v:Voy}(hv:Vd v)(hs:someB v []=true){N:Nat}(hn:N<v.lots.toNat):
  ((uX (jZ v N) 25).1<0/\yF (truths v []) N=⟨0,0⟩/\howIn (truths v []) N=2) \/
  (¬(uX (jZ v N) 25).1<0/\yF (truths v []) N=⟨(uX (jZ v N) 25).1,(uX (jZ v N) 25).2⟩/\howIn (truths v []) N=if jZ v N 25=0 then 1 else 0):=by
 have hne:=turns_ne hs hn;rcases PR (jZ v N) 25 with⟨e,h0⟩|⟨a,b,e,ha,hb,fa,fb,hr⟩
 ·left
  have h2:howIn (truths v []) N=2:=how_two.2 ⟨hne,fun w hw=>by
   rcases ND hv hn hw with h|⟨i,hi,_,h⟩
   ·exact h.1
   ·exact absurd (h0 i hi) h⟩
  exact⟨by rw[e];decide,(KQ hn h2 0).2,h2⟩
 ·right;have hA:=Q0 hv hn ha fa;have hB:=Q0 hv hn hb fb;have hrange:∀ x∈hoursIn (truths v []) N,(a:Int)<=x/\x<=(b:Int):=fun x hx=>by
   obtain⟨h1,w,hw,e1⟩:=mem_hours.1 hx;rcases ND hv hn hw with h|⟨i,hi,e2,h⟩
   ·exact absurd (e1▸h.1) h1
   ·have:=hr i hi h;omega
  obtain⟨s1,s2,s3⟩:=vQ (List.ne_nil_of_mem hA);refine⟨by rw[e];simp only;omega,?_,?_⟩
  ·rw[e];have q1:=hrange _ s1;have q2:=hrange _ s2;have q3:=s3 _ hA;have q4:=s3 _ hB;show eE (hoursIn (truths v []) N)=_
   generalize eE (hoursIn (truths v []) N)=s at *;cases s;simp only at *
   congr 1<;>omega
  ·have h2:howIn (truths v []) N≠2:=fun h=>by
    obtain⟨h1,w,hw,e1⟩:=mem_hours.1 hA;exact h1 (e1▸(how_two.1 h).2 w hw)
   by_cases h25:jZ v N 25=0
   ·rw[if_pos h25];refine P4.2 fun w hw h=>?_
    rcases ND hv hn hw with q|⟨i,hi,e2,_⟩
    ·exact q.2 h25
    ·omega
   ·rw[if_neg h25];have h1:howIn (truths v []) N≠1:=fun h=>by
     obtain⟨w,hw,e⟩:=(vZ hv hn (by omega:25<26)).1 h25;exact P4.1 h w hw e
    rcases T3 (truths v []) N with h|h|h
    ·exact h
    ·exact absurd h h1
    ·exact absurd h h2
def AP(f:Nat->Nat):Nat->Nat
 |0=>0
 |k+1=>AP f k|||f k
theorem H1(f:Nat->Nat)(d:Nat):∀ k,(AP f k).testBit d=(List.range k).any fun i=>(f i).testBit d
 |0=>by simp[AP]
 |k+1=>by simp[AP,Nat.testBit_or,H1 f d k,List.range_succ,List.any_append]
theorem AT{f:Nat->Nat}{n:Nat}(h:∀ i,f i<2^n):∀ k,AP f k<2^n
 |0=>Nat.two_pow_pos n
 |k+1=>Nat.or_lt_two_pow (AT h k) (h k)
def uW(v:Voy)(N i:Nat):Nat:=jZ v N i &&& 15
def jY(v:Voy)(N:Nat):Nat:=AP (uW v N) 26
theorem rH(v:Voy)(N i:Nat):uW v N i<16:=Nat.lt_succ_of_le Nat.and_le_right
theorem aNP:∀ d:Fin 4,(15:Nat).testBit d.val=true:=by decide
theorem aOZ:∀ d:Fin 4,(16:Nat).testBit d.val=false:=by decide
theorem aOQ{v:Voy}(hv:Vd v)(N:Nat){d:Nat}(hd:d<4):(jZ v N 25).testBit d=false:=by
 simp only[jZ,sN,Nat.zero_testBit,Bool.false_or,List.any_eq_false];intro op _;rw[HZ hv];split
 ·have:=aOZ ⟨d,hd⟩;simp only at this;rw[this];simp
 ·simp
theorem DL{v:Voy}(hv:Vd v){N:Nat}(hn:N<v.lots.toNat):lst v.doors.length (jY v N)=causesIn v (truths v []) N:=by
 have hdr:=hv.ndr;simp only[lst,causesIn];refine List.filter_congr fun x hx=>?_
 have hxr:=(bC _ _ _).1 hx;obtain⟨d,rfl⟩:∃ d:Nat,x=d:=⟨x.toNat,by omega⟩;have hd4:d<4:=by omega
 have h15:=aNP ⟨d,hd4⟩;simp only at h15;simp only[Int.toNat_natCast];rw[<-jK,jY,H1,Bool.eq_iff_iff];simp only[List.any_eq_true,List.mem_range,uW,Nat.testBit_and,h15,Bool.and_true,F2,decide_eq_true_eq];constructor
 ·rintro⟨i,hi,hb⟩;by_cases h25:i=25
  ·subst h25;rw[aOQ hv N hd4] at hb;cases hb
  ·exact⟨_,((P9 hv hn (by omega)).1 hb).2,rfl⟩
 ·rintro⟨w,hw,e⟩;rcases yH hn hw with e2|e2
  ·rw[e2] at e;simp only at e;omega
  ·have:=hv.hours;refine⟨w.hour.toNat,by omega,(P9 hv hn (by omega)).2 ⟨by omega,?_⟩⟩;have:(⟨((w.hour.toNat:Nat):Int),(d:Int)⟩:Tn)=w:=by
    cases w;simp only at e e2 ⊢
    congr 1<;>omega
   rw[this];exact hw
def orL(g:Int->Nat)(l:List Int)(s:Nat):Nat:=l.foldl (fun s d=>s|||2^g d) s
theorem Q5(g:Int->Nat)(k:Nat):∀ (l:List Int) (s:Nat),(orL g l s).testBit k=(s.testBit k||l.any fun d=>decide (g d=k))
 |[],s=>by simp[orL]
 |d::l,s=>by
  have ih:=Q5 g k l (s|||2^g d);simp only[orL,List.foldl_cons,List.any_cons] at ih ⊢;rw[ih,Nat.testBit_or,Nat.testBit_two_pow,Bool.or_assoc]
theorem ZH{g:Int->Nat}{n:Nat}:∀ {l:List Int} {s:Nat},s<2^n->(∀ d∈l,g d<n)->orL g l s<2^n
 |[],s,h,_=>h
 |d::l,s,h,hg=>ZH (l:=l) (Nat.or_lt_two_pow h (Nat.pow_lt_pow_right (by omega) (hg d (by simp)))) fun x hx=>hg x (by simp[hx])
theorem SL{v:Voy}(hv:Vd v)(ds:List Int):lst v.keepers.length (orL (fun d=>(keeperAt v (doorHour v d)).toNat) ds 0)=whoseIn v ds:=by
 simp only[lst,whoseIn];refine List.filter_congr fun x hx=>?_
 have hxr:=(bC _ _ _).1 hx;rw[<-jK,Q5,Nat.zero_testBit,Bool.false_or]
 congr 1
 funext d;have:=(t7 hv (doorHour v d)).1;rw[decide_eq_decide];omega
theorem QU(d:Nat):∀ (l:List Nat) (a:Nat),(l.foldl (fun a op=>a &&& op) a).testBit d=(a.testBit d&&l.all fun op=>op.testBit d)
 |[],a=>by simp
 |x::l,a=>by rw[List.foldl_cons,QU d l,Nat.testBit_and,List.all_cons,Bool.and_assoc]
theorem VQ(d:Nat):∀ (l:List Nat) (a:Nat),(l.foldl (fun a op=>a|||op) a).testBit d=(a.testBit d||l.any fun op=>op.testBit d)
 |[],a=>by simp
 |x::l,a=>by rw[List.foldl_cons,VQ d l,Nat.testBit_or,List.any_cons,Bool.or_assoc]
theorem YY{v:Voy}(hv:Vd v):lst v.doors.length ((TL v []).foldl (fun a op=>a &&& op) (2^v.doors.length-1))=(aM 0 v.doors.length).filter (MS (truths v [])):=by
 simp only[lst];refine List.filter_congr fun x hx=>?_
 have hxr:=(bC _ _ _).1 hx;obtain⟨d,rfl⟩:∃ d:Nat,x=d:=⟨x.toNat,by omega⟩;have hd:d<v.doors.length:=by omega
 rw[<-jK,Int.toNat_natCast,QU,Nat.testBit_two_pow_sub_one,MS,lL hv,List.all_map];simp only[hd,decide_true,Bool.true_and]
 congr 1
 funext op;simp only[Function.comp_apply,A7,F1 hd]
theorem aDA{v:Voy}(hv:Vd v):lst v.doors.length ((TL v []).foldl (fun a op=>a|||op) 0)=(aM 0 v.doors.length).filter (VT (truths v [])):=by
 simp only[lst];refine List.filter_congr fun x hx=>?_
 have hxr:=(bC _ _ _).1 hx;obtain⟨d,rfl⟩:∃ d:Nat,x=d:=⟨x.toNat,by omega⟩;have hd:d<v.doors.length:=by omega
 rw[<-jK,Int.toNat_natCast,VQ,Nat.zero_testBit,Bool.false_or,VT,lL hv,List.any_map]
 congr 1
 funext op;simp only[Function.comp_apply,A7,F1 hd]
def fN(v:Voy):Nat->Nat
 |0=>0
 |k+1=>fN v k|||(if pX v (k:Int)=true then 2^k else 0)
theorem C2(v:Voy)(d:Nat):∀ k,(fN v k).testBit d=(decide (d<k)&&pX v (d:Int))
 |0=>by simp[fN]
 |k+1=>by
  simp only[fN,Nat.testBit_or,C2 v d k];by_cases h1:d=k
  ·subst h1;cases h2:pX v (d:Int)
   ·simp
   ·simp[Nat.testBit_two_pow_self]
  ·have h3:(if pX v (k:Int)=true then 2^k else 0).testBit d=false:=by
    split
    ·exact Nat.testBit_two_pow_of_ne (fun e=>h1 e.symm)
    ·simp
   have h4:decide (d<k+1)=decide (d<k):=by rw[decide_eq_decide];omega
   rw[h3,h4,Bool.or_false]
theorem uN(v:Voy):∀ k,fN v k<2^k
 |0=>by simp[fN]
 |k+1=>by
  have ih:=uN v k;have h2:2^(k+1)=2^k*2:=Nat.pow_succ 2 k;refine Nat.or_lt_two_pow (by omega) ?_;have:=Nat.two_pow_pos k;split<;>omega
theorem C8{v:Voy}(hv:Vd v){op:Nat}(ho:op<16):lst v.doors.length (mS op (fN v v.doors.length))=yU v (lst v.doors.length op):=by
 have hdr:=hv.ndr;have hsl:fN v v.doors.length<9223372036854775808:=Nat.lt_of_lt_of_le (uN v _) (Nat.le_trans (Nat.pow_le_pow_right (by omega) hdr:2^v.doors.length<=2^4) (by omega));simp only[lst,yU,List.filter_filter];refine List.filter_congr fun x hx=>?_
 have hxr:=(bC _ _ _).1 hx;obtain⟨d,rfl⟩:∃ d:Nat,x=d:=⟨x.toNat,by omega⟩;have hd:d<v.doors.length:=by omega
 rw[<-jK,<-jK,Int.toNat_natCast,VE hsl _ _ (by omega),C2];simp only[hd,decide_true,Bool.true_and];rw[Bool.and_comm]
def zF(l:List Int)(x:List Int×Bool):List Int×Bool:=if (x.2||dY l x.1)=true then (l,false) else x
theorem FH:∀ (ls:List (List Int)) (b:List Int),ls.foldl (fun x l=>zF l x) (b,false)=(ls.foldl aG6 b,false)
 |[],b=>rfl
 |l::ls,b=>by
  simp only[List.foldl_cons];have:zF l (b,false)=(aG6 b l,false):=by
   simp only[zF,aG6,Bool.false_or];split<;>rfl
  rw[this,FH ls]
theorem NC{v:Voy}(hv:Vd v)(hs:someB v []=true):((TL v []).foldl (fun x op=>zF (lst v.doors.length (mS op (fN v v.doors.length))) x) ([],true)).1=A6 v (truths v []):=by
 have hlt:=aBM hv (bl:=[]);have hne:TL v []≠[]:=by
  intro e;have:=GN hv [];rw[e] at this;simp[someB,<-this] at hs
 rw[lL hv];cases hT:TL v [] with
 |nil=>exact absurd hT hne
 |cons op l =>
  rw[hT] at hlt;simp only[List.foldl_cons,List.map_cons,A6];have e1:zF (lst v.doors.length (mS op (fN v v.doors.length))) ([],true)=(yU v (lst v.doors.length op),false):=by
   rw[C8 hv (hlt op (by simp)).1];rfl
  rw[e1];have e2:∀ (l:List Nat) (x:List Int×Bool),(∀ t∈l,t<16)->l.foldl (fun x op=>zF (lst v.doors.length (mS op (fN v v.doors.length))) x) x=(l.map fun op=>yU v (lst v.doors.length op)).foldl (fun x l=>zF l x) x:=by
   intro l
   induction l with
   |nil=>intro x _;rfl
   |cons a l ih =>
    intro x h;simp only[List.foldl_cons,List.map_cons];rw[C8 hv (h a (by simp)),ih _ fun t ht=>h t (by simp[ht])]
  rw[e2 l _ fun t ht=>(hlt t (by simp[ht])).1,FH];simp only[List.map_map];rfl
def rL(f:Nat->Nat)(k:Nat):List Int:=(aM 0 k).filter fun h=>decide (f h.toNat≠0)
theorem TE(f:Nat->Nat)(k:Nat):rL f (k+1)=rL f k++(if f k≠0 then [(k:Int)] else []):=by
 simp only[rL,jR,List.filter_append,Int.zero_add]
 congr 1
 simp only[List.filter_cons,List.filter_nil,Int.toNat_natCast];by_cases h:f k=0<;>simp[h]
theorem IU(f:Nat->Nat)(k:Nat):(rL f k).length<=k:=by
 have:=List.length_filter_le (fun h:Int=>decide (f h.toNat≠0)) (aM 0 k);rw[jF] at this;exact this
theorem gL:∀ (n:Nat) (a:Int),(aM a n).Nodup
 |0,a=>List.nodup_nil
 |n+1,a=>by
  simp only[aM,List.nodup_cons,bC];exact⟨by omega,gL n (a+1)⟩
def UR(h:Int):Int:=if h = -1 then 25 else h
theorem J7{v:Voy}(hv:Vd v){N:Nat}(hn:N<v.lots.toNat):(rL (jZ v N) 26).Perm ((vA v (truths v []) N).map UR):=by
 have hhr:=hv.hours;have hle:∀ x∈vA v (truths v []) N,-1<=x/\x<=24:=fun x hx=>by
  obtain⟨w,hw,e⟩:=(HX hv hn).1 hx;rcases yH hn hw with q|q
  ·rw[q] at e;simp only at e;omega
  ·omega
 refine (List.perm_ext_iff_of_nodup ((gL 26 0).filter _) ?_).2 fun a=>?_
 ·refine List.pairwise_map.2 (List.Pairwise.imp_of_mem (fun {x y} hx hy hne h=>?_) ((gL _ _).filter _));have:=hle x hx;have:=hle y hy;apply hne;simp only[UR] at h;split at h<;>split at h<;>omega
 ·simp only[rL,List.mem_filter,bC,decide_eq_true_eq,List.mem_map];constructor
  ·rintro⟨hr,hf⟩;obtain⟨w,hw,e⟩:=(vZ hv hn (by omega)).1 hf;refine⟨w.hour,(HX hv hn).2 ⟨w,hw,rfl⟩,?_⟩;simp only[hAt] at e;simp only[UR];split at e
   ·rw[if_pos e];omega
   ·rw[if_neg (by omega)];omega
  ·rintro⟨x,hx,rfl⟩;obtain⟨w,hw,e⟩:=(HX hv hn).1 hx;have:=hle x hx;simp only[UR];split
   ·refine⟨by omega,(vZ hv hn (by omega)).2 ⟨w,hw,?_⟩⟩;show w.hour=hAt 25
    simp only[hAt,if_true];omega
   ·refine⟨by omega,(vZ hv hn (by omega)).2 ⟨w,hw,?_⟩⟩;simp only[hAt];rw[if_neg (by omega)];omega
theorem J5{v:Voy}(hv:Vd v){N:Nat}(hn:N<v.lots.toNat):(rL (jZ v N) 26).length=(vA v (truths v []) N).length:=by
 rw[(J7 hv hn).length_eq,List.length_map]
theorem RF{v:Voy}(hv:Vd v){N:Nat}(hn:N<v.lots.toNat){a:Int}(ha:a<=24):((rL (jZ v N) 26).filter fun h=>decide (h<=a)).length=((vA v (truths v []) N).filter fun h=>decide (h≠-1)&&decide (h<=a)).length:=by
 rw[((J7 hv hn).filter _).length_eq,List.filter_map,List.length_map]
 congr 1
 refine List.filter_congr fun x _=>?_
 simp only[Function.comp_apply,UR];by_cases h:x = -1
 ·subst h;simp;omega
 ·simp[h]
theorem NF{v:Voy}(hv:Vd v){N:Nat}(hn:N<v.lots.toNat){a:Int}(ha:a<=24):fW (vA v (truths v []) N) a=max (((rL (jZ v N) 26).filter fun h=>decide (h<=a)).length:Int) (((rL (jZ v N) 26).length:Int)-(((rL (jZ v N) 26).filter fun h=>decide (h<=a)).length:Int)):=by
 rw[fW,RF hv hn ha,J5 hv hn]
def Q6(f:List Int->Bool)(o:Option (List Int))(l:List Int):Option (List Int):=match o with
 |none=>if f l=true then some l else none
 |some b=>if (dY l b&&f l)=true then some l else some b
theorem XG(f:List Int->Bool)(o:Option (List Int))(l:List Int)(h:∀ b,o=some b->f b=true):Q6 f o l=pA f o l:=by
 cases o with
 |none=>rfl
 |some b =>
  simp only[Q6,pA];cases h1:dY l b
  ·simp only[Bool.false_and,Bool.false_eq_true,if_false];cases h2:dY b l
   ·have:=yV h1 h2;subst this;rw[h l rfl];simp
   ·simp
  ·have h2:dY b l=false:=by
    rw[Bool.eq_false_iff];intro h3;have:=sQ h1 h3;rw[uA] at this;cases this
   simp[h2]
end Go.Am.Room.Do
namespace Go.Am.Room.Do
def fM:=zz @encVoy_eq (zz @cW (zz @gI (zz @cZ (zz @cX (zz @aN (zz @gU (zz @dL (zz @S_mapLook (zz @List.length_append.{0} (zz @dR (zz @Nat.add_lt_add_iff_left (zz @Nat.lt_add_right_iff_pos (zz @Nat.mul_one (zz @Int.toNat_natCast (zz @mH (zz @nM (zz @nI (zz @lJ (@rP)))))))))))))))))))
theorem F0{v:Voy}(h:truths v []≠[]):someB v []=true:=by
 cases he:truths v [] with
 |nil=>exact absurd he h
 |cons a l=>simp[someB,he]
theorem pturned_ok(v:Voy)(n:Int)(hf:Fits v):cY T 42 [gY v,.int .i64 n] (encSNE (turnedOf v n)):=by
 refine aV (af:=a42) rfl (by simp[a42]) dd ?_
 (repeat (first|simp only[↓QA,QB,reduceLT,reduceIte,reduceEqDiff,reduceAdd,reduceLeDiff,reduceMul,Nat.reduceBEq,fM,a42]|refine rd0 rfl ?_))
 refine eH (kJ _ v n hf) ?_;simp only[fP,iZ];by_cases h0:lotErr v n=0
 ·obtain⟨ha,hne⟩:=kC h0;obtain⟨hv,hn0,hn1⟩:=tV ha;obtain⟨N,rfl⟩:∃ N:Nat,n=N:=⟨n.toNat,by omega⟩;have hN:N<v.lots.toNat:=by omega
  have hm:turnedOf v N=(yF (truths v []) N,howIn (truths v []) N,0):=by rw[turnedOf,if_pos h0,Int.toNat_natCast];rfl
  have hal:=B4 (v4 [.cells (voyCells v),.cells [.int .i64 0,.int .i64 0]] v) hv MM N hN (pB v);have hlaw:=N7 hv (F0 hne) hN;obtain⟨F,hF⟩:∃ F,jZ v N=F:=⟨_,rfl⟩;obtain⟨A,hA⟩:∃ A,rD hv N (pB v)=A:=⟨_,rfl⟩;rw[hA,hF] at hal;rw[hF] at hlaw;rw[if_pos h0,if_pos h0,hm];obtain⟨R1,hR1⟩:∃ r,yF (truths v []) N=r:=⟨_,rfl⟩;obtain⟨R2,hR2⟩:∃ r,howIn (truths v []) N=r:=⟨_,rfl⟩;rw[hR1,hR2] at hlaw;rw[hR1,hR2];simp only[j6] at hal ⊢;try simp only[↓QA,QB,reduceLT,reduceIte,reduceEqDiff,reduceAdd,reduceLeDiff,reduceMul,Nat.reduceBEq,fM] at hal
  have i25:(0:Int)<=25/\(25:Int)<((26:Nat):Int):=⟨by omega,by omega⟩;have t25:Int.toNat 25=25:=rfl;have hg25:=mL F (i:=25) (by omega)
  (repeat (first|simp only[↓QA,QB,reduceLT,reduceIte,reduceEqDiff,reduceAdd,reduceLeDiff,reduceMul,Nat.reduceBEq,fM,show ((0:Int)==0)=true from rfl]|refine rd0 rfl ?_))
  refine eH hal ?_
  (repeat (first|simp only[↓QA,QB,reduceLT,reduceIte,reduceEqDiff,reduceAdd,reduceLeDiff,reduceMul,Nat.reduceBEq,fM,<-z26]|refine rd0 rfl ?_))
  refine cI (S:=Nat) 0 (fun k=>k<=25) (fun k=>25-k)
   (fun k=>[(4,.ptr 1 0),(8,.ptr 6 0),(24,.int .i64 k)])
   (fun k=>[.cells (voyCells v),.cells [.int .i64 (uX F k).1,.int .i64 (uX F k).2],.cells (voyCells v),.cells (voyCells v),.map (tEs v [] A),.cells (db v 0 4),.cells (eS F)]) (Nat.zero_le _) (by simp[voyCells,ints,uX]) ?_ fun k hk=>?_
  ·try simp only[aB,QE,reduceLT,reduceIte,reduceEqDiff,reduceAdd,reduceLeDiff,reduceMul,Nat.reduceBEq,fM]
   try simp
  ·obtain⟨s,hs⟩:∃ s,uX F k=s:=⟨_,rfl⟩;have hst:uX F (k+1)=if F k=0 then s else (if s.1<0 then (k:Int) else s.1,(k:Int)):=by simp only[uX,hs]
   rw[hs]
   (repeat (first|simp only[↓QA,QB,reduceLT,reduceIte,reduceEqDiff,reduceAdd,reduceLeDiff,reduceMul,Nat.reduceBEq,fM,aHW]|refine rd0 rfl ?_))
   refine aE (fun hd=>?_) fun hd=>?_
   ·have hk1:k<25:=by simp at hd;omega
    have hw:=bR hk1 (by omega);have i1:(0:Int)<=(k:Int)/\(k:Int)<((26:Nat):Int):=⟨by omega,by omega⟩;have hg:=mL F (i:=k) (by omega);cases h1:(((F k:Nat):Int)==0)
    ·have h1':¬F k=0:=by simp at h1;omega
     rw[if_neg h1'] at hst;cases h2:decide (s.1<0)
     ·have h2':¬s.1<0:=by simpa using h2
      rw[if_neg h2'] at hst
      (repeat (first|simp only[↓QA,QB,reduceLT,reduceIte,reduceEqDiff,reduceAdd,reduceLeDiff,reduceMul,Nat.reduceBEq,fM,i1,hg,h1,h2]|refine rd0 rfl ?_))
      refine⟨k+1,by omega,by omega,?_⟩;try simp only[aB,QE,reduceLT,reduceIte,reduceEqDiff,reduceAdd,reduceLeDiff,reduceMul,Nat.reduceBEq,fM,hw,hst]
      try simp[aL,okVs,okV]
     ·have h2':s.1<0:=by simpa using h2
      rw[if_pos h2'] at hst
      (repeat (first|simp only[↓QA,QB,reduceLT,reduceIte,reduceEqDiff,reduceAdd,reduceLeDiff,reduceMul,Nat.reduceBEq,fM,i1,hg,h1,h2]|refine rd0 rfl ?_))
      refine⟨k+1,by omega,by omega,?_⟩;try simp only[aB,QE,reduceLT,reduceIte,reduceEqDiff,reduceAdd,reduceLeDiff,reduceMul,Nat.reduceBEq,fM,hw,hst]
      try simp[aL,okVs,okV]
    ·have h1':F k=0:=by simp at h1;omega
     rw[if_pos h1'] at hst
     (repeat (first|simp only[↓QA,QB,reduceLT,reduceIte,reduceEqDiff,reduceAdd,reduceLeDiff,reduceMul,Nat.reduceBEq,fM,i1,hg,h1]|refine rd0 rfl ?_))
     refine⟨k+1,by omega,by omega,?_⟩;try simp only[aB,QE,reduceLT,reduceIte,reduceEqDiff,reduceAdd,reduceLeDiff,reduceMul,Nat.reduceBEq,fM,hw,hst]
     try simp[aL,okVs,okV]
   ·have hk1:k=25:=by simp at hd;omega
    subst hk1;rw[hs] at hlaw;rcases hlaw with⟨q1,q2,q3⟩|⟨q1,q2,q3⟩
    ·have g1:decide (s.1<0)=true:=by simpa using q1
     subst q2;subst q3
     (repeat (first|simp only[↓QA,QB,reduceLT,reduceIte,reduceEqDiff,reduceAdd,reduceLeDiff,reduceMul,Nat.reduceBEq,fM,g1,encSNE]|refine rd0 rfl ?_))
     try try simp only[QS,QC,reduceLT,reduceIte,reduceEqDiff,reduceAdd,reduceLeDiff,reduceMul,Nat.reduceBEq,fM]
    ·have g1:decide (s.1<0)=false:=by simpa using q1
     subst q2;cases h2:(((F 25:Nat):Int)==0)
     ·have h2':¬F 25=0:=by simp at h2;omega
      rw[if_neg h2'] at q3;subst q3
      (repeat (first|simp only[↓QA,QB,reduceLT,reduceIte,reduceEqDiff,reduceAdd,reduceLeDiff,reduceMul,Nat.reduceBEq,fM,g1,i25,t25,hg25,h2,encSNE]|refine rd0 rfl ?_))
      try try simp only[QS,QC,reduceLT,reduceIte,reduceEqDiff,reduceAdd,reduceLeDiff,reduceMul,Nat.reduceBEq,fM]
     ·have h2':F 25=0:=by simp at h2;omega
      rw[if_pos h2'] at q3;subst q3
      (repeat (first|simp only[↓QA,QB,reduceLT,reduceIte,reduceEqDiff,reduceAdd,reduceLeDiff,reduceMul,Nat.reduceBEq,fM,g1,i25,t25,hg25,h2,encSNE]|refine rd0 rfl ?_))
      try try simp only[QS,QC,reduceLT,reduceIte,reduceEqDiff,reduceAdd,reduceLeDiff,reduceMul,Nat.reduceBEq,fM]
 ·have h0':(lotErr v n==0)=false:=by simpa using h0
  have hm:turnedOf v n=(⟨0,0⟩,0,lotErr v n):=by rw[turnedOf,if_neg h0]
  rw[if_neg h0,if_neg h0,hm]
  (repeat (first|simp only[↓QA,QB,reduceLT,reduceIte,reduceEqDiff,reduceAdd,reduceLeDiff,reduceMul,Nat.reduceBEq,fM,h0',encSNE]|refine rd0 rfl ?_))
  try rfl
end Go.Am.Room.Do
namespace Go.Am.Room.Do
def bT:=zz @Int.toNat_natCast (@List.length_append.{0})
theorem I7(n:Int):cY T 386 [.int .i64 n] (.bool false):=by
 refine aV (af:=aAQ) rfl (by simp[aAQ]) dd ?_;try simp only[↓QA,QB,seval,bT,aAQ]
 try simp
def DZ(a b:Int):Int:=if a<b then -1 else if b<a then 1 else 0
theorem aL9(a b:Int):cY T 254 [.int .i64 a,.int .i64 b] (.int .i64 (DZ a b)):=by
 refine aV (af:=ZI) rfl (by simp[ZI]) dd ?_;try simp only[↓QA,QB,seval,bT,ZI]
 (refine aC (I7 a) rfl dd ?_;try simp only[↓QA,QB,seval,bT])
 (refine aC (I7 b) rfl dd ?_;try simp only[↓QA,QB,seval,bT])
 cases h1:decide (a<b)
 ·have h1':¬a<b:=by simpa using h1
  try simp only[↓QA,QB,seval,bT]
  cases h2:decide (b<a)
  ·have h2':¬b<a:=by simpa using h2
   try simp only[↓QA,QB,seval,bT]
   simp[DZ,h1',h2']
  ·have h2':b<a:=by simpa using h2
   try simp only[↓QA,QB,seval,bT]
   simp[DZ,h1',h2']
 ·have h1':a<b:=by simpa using h1
  try simp only[↓QA,QB,seval,bT]
  simp[DZ,h1']
def D8:List Int->List Int->Int
 |[],[]=>0
 |[],_::_=>-1
 |_::_,[]=>1
 |a::az,b::bs=>if DZ a b=0 then D8 az bs else DZ a b
theorem aDP(a b:List Int)(ha:a.length<9223372036854775808)(hb:b.length<9223372036854775808):cY T 118 [ints a,ints b] (.int .i64 (D8 a b)):=by
 refine aV (af:=Z6) rfl (by simp[Z6]) dd ?_;try simp only[↓QA,QB,seval,bT,Z6]
 refine cI (S:=Nat) 0 (fun k=>k<=a.length/\k<=b.length/\D8 (a.drop k) (b.drop k)=D8 a b) (fun k=>a.length-k) (fun k=>[(0,ints a),(1,ints b),(9,ints a),(10,.int .i64 a.length),(11,.int .i64 k)]) (fun _=>[]) ⟨by simp,by simp,by simp⟩ rfl ?_ fun k hk=>?_
 ·try simp only[aB,QE,seval,bT]
  try simp
 ·obtain⟨hk,hkb,hq⟩:=hk;try simp only[↓QA,QB,seval,bT,ZJ]
  refine aE (fun h=>?_) fun h=>?_
  ·have hk1:k<a.length:=by simpa using h
   have hw:=bR hk1 ha;rw[List.drop_eq_getElem_cons hk1] at hq;try simp only[↓QA,QB,seval,bT,hk1]
   refine aE (fun h2=>?_) fun h2=>?_
   ·have hk2:k=b.length:=by simp at h2;omega
    have hd:b.drop k=[]:=by rw[hk2,List.drop_length]
    rw[hd] at hq;simp only[D8] at hq;try simp only[↓QA,QB,seval,bT,hk1,<-hq]
   ·have hk2:k<b.length:=by simp at h2;omega
    rw[List.drop_eq_getElem_cons hk2] at hq;simp only[D8] at hq;try simp only[↓QA,QB,seval,bT,hk1,hk2]
    (refine aC (aL9 a[k] b[k]) rfl dd ?_;try simp only[↓QA,QB,seval,bT,hk1,hk2])
    cases h3:(DZ a[k] b[k]==0)
    ·have h3':DZ a[k] b[k]≠0:=by simpa using h3
     rw[if_neg h3'] at hq;try simp only[↓QA,QB,seval,bT,h3,hk1,hk2,hq]
    ·have h3':DZ a[k] b[k]=0:=by simpa using h3
     rw[if_pos h3'] at hq;try simp only[↓QA,QB,seval,bT,h3,hk1,hk2]
     refine⟨k+1,⟨by omega,by omega,hq⟩,by omega,?_⟩;try simp only[aB,QE,seval,bT,hw]
  ·have hk1:k=a.length:=by simp at h;omega
   rw[hk1,List.drop_length] at hq;try simp only[↓QA,QB,seval,bT]
   refine aE (fun h2=>?_) fun h2=>?_
   ·have hk2:a.length<b.length:=by simpa using h2
    rw[List.drop_eq_getElem_cons hk2] at hq;try simp only[↓QA,QB,seval,bT,<-hq,D8]
   ·have hk2:a.length=b.length:=by simp at h2;omega
    rw[hk2,List.drop_length] at hq;try simp only[↓QA,QB,seval,bT,<-hq,D8]
theorem rE(s n:Nat)(hs:s<9223372036854775808)(hn:n<=60):cY T 162 [.int .i64 s,.int .i64 n] (ints (lst n s)):=by
 refine aV (af:=aAI) rfl (by simp[aAI]) dd ?_;try simp only[↓QA,QB,seval,bT,aAI]
 obtain⟨R,hRR⟩:∃ R,lst n s=R:=⟨_,rfl⟩;have hRR':[]++(aM ((0:Nat):Int) (n-0)).filter (fun i=>decide (s/2^i.toNat%2=1))=R:=hRR;rw[hRR];refine vM 4 1 [] rfl ?_;refine cI (S:=Nat×List Int×Bool) (0,[],false) (fun x=>x.1<=n/\x.2.1.length<=x.1/\x.2.1++(aM (x.1:Int) (n-x.1)).filter (fun i=>decide (s/2^i.toNat%2=1))=R) (fun x=>n-x.1)
  (fun x=>[(0,.int .i64 s),(4,.lit (x.2.1.map (.int .i64)) false (some 0)),(6,.int .i64 n),(7,.int .i64 x.1)]) (fun x=>[.tok 1 x.2.1.length x.2.2]) ⟨by simp,by simp,hRR'⟩ rfl ?_ fun x hx=>?_
 ·try simp only[aB,QE,seval,bT]
  try simp
 ·obtain⟨k,acc,ex⟩:=x;obtain⟨hk,hal,hacc⟩:=hx;simp only at hk hal hacc;try simp only[↓QA,QB,seval,bT,VN]
  refine aE (fun h=>?_) fun h=>?_
  ·have hk1:k<n:=by simpa using h
   have hw:=bR hk1 (by omega);rw[show n-k=(n-(k+1))+1 by omega] at hacc;simp only[aM,List.filter_cons,Int.toNat_natCast] at hacc;rw[show ((k:Int)+1)=((k+1:Nat):Int) by omega] at hacc;have vs:=IR s k (by omega);have va:=BE (s/2^k) (Nat.lt_of_le_of_lt (Nat.div_le_self _ _) hs);have hbit:(((s/2^k%2:Nat):Int)==1)=decide (s/2^k%2=1):=by
    generalize s/2^k%2=q;rw[Bool.eq_iff_iff,beq_iff_eq,decide_eq_true_eq];omega
   try simp only[↓QA,QB,seval,bT,vs,va,hbit]
   cases hb:decide (s/2^k%2=1)
   ·simp only[hb,Bool.false_eq_true,if_false] at hacc;try simp only[↓QA,QB,seval,bT,hw]
    refine⟨(k+1,acc,ex),⟨by simp only;omega,by simp only;omega,by simpa using hacc⟩,by simp only;omega,?_⟩;try simp only[aB,QE,seval,bT,hw,CE]
    try simp[aL]
   ·simp only[hb,if_true] at hacc;have hap:=fun (τ:St)=>zW (σ:=.tok 1 acc.length ex::τ) (l:=acc) (a:=(k:Int)) (ex:=ex) (t:=0) (by omega) rfl
    try simp only[↓QA,QB,seval,bT,hw,hap]
    refine⟨(k+1,acc++[(k:Int)],true),⟨by simp only;omega,by simp only[List.length_append,List.length_cons,List.length_nil];omega,by
     rw[<-hacc];simp⟩,by simp only;omega,?_⟩
    try simp only[aB,QE,seval,bT,hw,CE,List.map_append,List.map_cons,List.map_nil]
    try simp[aL]
  ·have hk1:k=n:=by simp at h;omega
   rw[hk1] at hacc;simp only[Nat.sub_self,aM,List.filter_nil,List.append_nil] at hacc;try simp only[↓QA,QB,seval,bT,hacc,ints]
end Go.Am.Room.Do
namespace Go.Am.Room.Do
def fL:=zz @encVoy_eq (zz @gI (zz @cZ (zz @cX (zz @aN (zz @gU (zz @dL (zz @S_mapLook (zz @List.length_append.{0} (zz @MV (zz @dR (zz @rR (zz @Nat.mul_one (@Int.toNat_natCast)))))))))))))
theorem PC(k:Kp)(h:Int)(hb:-100<=k.frm-h/\k.frm-h<=100):cY T 308 [encKp k,.int .i64 h] (.int .i64 (k.frm-h)):=by
 refine aV (af:=WC) rfl (by simp[WC]) dd ?_;have hw:IntKind.i64.wrap (k.frm-h)=k.frm-h:=bZ ⟨by omega,by omega⟩;try simp only[↓QA,QB,seval,fL,WC,hw]
theorem aNY{x:Int}(h:0<=x/\x<=1000):IntKind.u64.wrap x=x:=by
 simp only[IntKind.wrap,IntKind.signed,IntKind.bits];simp;omega
theorem aMF(s:Nat):cQ .shr (.int .u64 (s:Int)) (.int .u64 1)=some (.int .u64 ((s/2:Nat):Int)):=by
 have hm:Nat.min (1:Int).toNat 64=1:=rfl;have h0:¬(1:Int)<0:=by omega
 simp only[cQ,h0,if_false,IntKind.bits,hm,Option.some.injEq,AV.int.injEq,true_and];rw[Int.fdiv_eq_ediv_of_nonneg _ (by decide)];norm_cast
def mR(l:List Kp)(i:Nat):Int:=match l[i]? with|some k=>k.frm|none=>1000
theorem aOE(l:List Kp)(h:Int)(hl:l.length<=5)(hb:∀ k∈l,0<=k.frm/\k.frm<=24)(hh:0<=h/\h<=24)(hsort:∀ i j,i<j->j<l.length->mR l i<mR l j):
  ∃ i:Nat,i<=l.length/\(∀ q,q<i->mR l q<h)/\(∀ q,i<=q->q<l.length->h<=mR l q) /\
   cY T 307 [.lit (l.map encKp) false none,.int .i64 h,.func 308 [] []] (.tuple [.int .i64 i,.bool (decide (i<l.length)&&(mR l i==h))]):=by
 have hat:∀ q (hq:q<l.length),mR l q=l[q].frm:=fun q hq=>by simp[mR,hq]
 obtain⟨i,hi,h1,h2⟩:∃ i,i<=l.length/\(∀ q,q<i->mR l q<h)/\(∀ q,i<=q->q<l.length->h<=mR l q):=by
  have key:∀ k,k<=l.length->(∀ q,q<k->mR l q<h)->∃ i,i<=l.length/\(∀ q,q<i->mR l q<h)/\(∀ q,i<=q->q<l.length->h<=mR l q):=by
   intro k
   induction hk:l.length-k generalizing k with
   |zero=>exact fun h1 h2=>⟨k,h1,h2,fun q h3 h4=>by omega⟩
   |succ m ih =>
    intro h1 h2;by_cases hc:mR l k<h
    ·refine ih (k+1) (by omega) (by omega) fun q hq=>?_
     by_cases e:q=k
     ·subst e;exact hc
     ·exact h2 q (by omega)
    ·refine⟨k,h1,h2,fun q h3 h4=>?_⟩;by_cases e:q=k
     ·subst e;omega
     ·have:=hsort k q (by omega) h4;omega
  exact key 0 (by omega) fun q hq=>by omega
 refine⟨i,hi,h1,h2,?_⟩;refine aV (af:=aA8) rfl (by simp[aA8]) (aD (dP data_kp l) (aD (aR _ _) (aD ⟨⟨trivial,trivial⟩,rfl⟩ cL))) ?_;try simp only[↓QA,QB,seval,fL,aA8]
 refine cI (S:=Nat×Nat) (0,l.length) (fun a=>a.1<=i/\i<=a.2/\a.2<=l.length) (fun a=>a.2-a.1)
  (fun a=>[(0,.lit (l.map encKp) false none),(1,.int .i64 h),(2,.func 308 [] []),(8,.int .i64 l.length),(9,.int .i64 a.1),(10,.int .i64 a.2)]) (fun _=>[]) ⟨by simp,by simpa using hi,by simp⟩ rfl ?_ fun a ha=>?_
 ·try simp only[aB,QE,seval,fL]
  try simp[clr,clrs]
 ·obtain⟨lo,hi2⟩:=a;obtain⟨p1,p2,p3⟩:=ha;simp only at p1 p2 p3;try simp only[↓QA,QB,seval,fL,aCK]
  refine aE (fun hd=>?_) fun hd=>?_
  ·have hd':lo<hi2:=by simpa using hd
   obtain⟨m,hm⟩:∃ m,(lo+hi2)/2=m:=⟨_,rfl⟩;have hm1:m<l.length:=by omega
   have hw1:IntKind.i64.wrap ((lo:Int)+(hi2:Int))=((lo+hi2:Nat):Int):=by rw[bZ ⟨by omega,by omega⟩];omega
   have hw2:IntKind.u64.wrap ((lo+hi2:Nat):Int)=((lo+hi2:Nat):Int):=aNY ⟨by omega,by omega⟩;have hvh:=aMF (lo+hi2);rw[hm] at hvh;have hw3:IntKind.i64.wrap ((m:Nat):Int)=(m:Int):=bZ ⟨by omega,by omega⟩;have hw4:IntKind.i64.wrap ((m:Int)+1)=((m+1:Nat):Int):=bR hm1 (by omega);have hbm:=hb _ (List.getElem_mem hm1);have hatm:=hat m hm1;obtain⟨x,hx⟩:∃ x,l[m]=x:=⟨_,rfl⟩;rw[hx] at hbm hatm;try simp only[↓QA,QB,seval,fL,hw1,hw2,hvh,hw3,hm1,hx]
   (refine aC (PC x h (by omega)) rfl dd ?_;try simp only[↓QA,QB,seval,fL,hw1,hw2,hvh,hw3,hm1,hx])
   refine aE (fun hc=>?_) fun hc=>?_
   ·have hc':x.frm-h<0:=by simpa using hc
    have him:m<i:=by
     by_cases e:m<i
     ·exact e
     ·have:=h2 m (by omega) hm1;omega
    try simp only[↓QA,QB,seval,fL,hw4]
    refine⟨(m+1,hi2),⟨by simp only;omega,p2,p3⟩,by simp only;omega,?_⟩;try simp only[aB,QE,seval,fL,hw4]
    try simp[clr,clrs]
   ·have hc':¬x.frm-h<0:=by simpa using hc
    have him:i<=m:=by
     by_cases e:i<=m
     ·exact e
     ·have:=h1 m (by omega);omega
    try simp only[↓QA,QB,seval,fL]
    refine⟨(lo,m),⟨p1,by simp only;omega,by simp only;omega⟩,by simp only;omega,?_⟩;try simp only[aB,QE,seval,fL]
    try simp[clr,clrs]
  ·have hd':lo=i:=by simp at hd;omega
   subst hd';try simp only[↓QA,QB,seval,fL]
   by_cases hlt:lo<l.length
   ·have g:decide ((lo:Int)<(l.length:Int))=true:=by simp;omega
    have hbm:=hb _ (List.getElem_mem hlt);have hatm:=hat lo hlt;obtain⟨x,hx⟩:∃ x,l[lo]=x:=⟨_,rfl⟩;rw[hx] at hbm hatm;have g2:(x.frm-h==0)=(mR l lo==h):=by rw[hatm,Bool.eq_iff_iff];simp;omega
    try simp only[↓QA,QB,seval,fL,g,hlt,hx]
    (refine aC (PC x h (by omega)) rfl dd ?_;try simp only[↓QA,QB,seval,fL,g,hlt,hx,g2])
    try simp[hlt]
   ·have g:decide ((lo:Int)<(l.length:Int))=false:=by simp;omega
    try simp only[↓QA,QB,seval,fL,g]
    try simp[hlt]
theorem M5{v:Voy}(hv:Vd v){h:Int}(hh:0<=h){i:Nat}(hi:i<=v.keepers.length)(h1:∀ q,q<i->mR v.keepers q<h)(h2:∀ q,i<=q->q<v.keepers.length->h<=mR v.keepers q):
  keeperAt v h=if (decide (i<v.keepers.length)&&(mR v.keepers i==h))=true then (i:Int) else (i:Int)-1:=by
 have hk:=hv.nkp;have hat:∀ q,q<v.keepers.length->mR v.keepers q=frmAt v q:=fun q hq=>by simp[mR,frmAt,hq]
 have key:∀ n,n<=v.keepers.length->keeperFrom v h n=if (decide (i<n)&&(mR v.keepers i==h))=true then (i:Int) else if min i n=0 then 0 else ((min i n:Nat):Int)-1:=by
  intro n
  induction n with
  |zero=>intro _;simp[keeperFrom]
  |succ n ih =>
   intro hn;have e:=hat n (by omega);simp only[keeperFrom];by_cases hc:n<i
   ·have:=h1 n hc;rw[if_pos (by omega)];have a1:decide (i<n+1)=false:=by simp;omega
    rw[a1];simp only[Bool.false_and,Bool.false_eq_true,if_false];rw[if_neg (by omega)];omega
   ·have:=h2 n (by omega) (by omega);by_cases hn2:n=i
    ·subst hn2;by_cases hq:mR v.keepers n=h
     ·rw[if_pos (by omega)];simp[hq]
     ·rw[if_neg (by omega),ih (by omega)];have a1:decide (n<n)=false:=by simp
      have a2:(mR v.keepers n==h)=false:=by simpa using hq
      rw[a1,a2];simp
    ·have hlt:frmAt v i<frmAt v n:=by
      have mono:∀ d,∀ i,i+(d+1)<v.keepers.length->frmAt v i<frmAt v (i+(d+1)):=by
       intro d
       induction d with
       |zero=>intro i hi;have:=(zC hv (i:=i+1) (by omega)).2.2 (by omega);simpa using this
       |succ d ih2 =>
        intro i hi;have a:=ih2 i (by omega);have b:=(zC hv (i:=i+(d+1)+1) (by omega)).2.2 (by omega);rw[Nat.add_sub_cancel] at b;have:i+(d+1+1)=i+(d+1)+1:=by omega
        rw[this];omega
      have:=mono (n-i-1) i (by omega)
      rwa [show i+(n-i-1+1)=n by omega] at this
     have h3:=h2 i (Nat.le_refl _) (by omega);rw[hat i (by omega)] at h3;rw[if_neg (by omega),ih (by omega)];have a1:decide (i<n+1)=decide (i<n):=by rw[decide_eq_decide];omega
     have a2:min i (n+1)=min i n:=by omega
     rw[a1,a2]
 have h0:=(zC hv (i:=0) (by omega)).2.1 rfl;have hm:min i v.keepers.length=i:=by omega
 rw[keeperAt,key _ (Nat.le_refl _),hm];by_cases hc:(decide (i<v.keepers.length)&&(mR v.keepers i==h))=true
 ·rw[if_pos hc,if_pos hc]
 ·rw[if_neg hc,if_neg hc];by_cases hi0:i=0
  ·exfalso;subst hi0;have:=h2 0 (by omega) (by omega);have e:=hat 0 (by omega);apply hc;simp only[Bool.and_eq_true,decide_eq_true_eq,beq_iff_eq];omega
  ·rw[if_neg hi0]
theorem XB(σ:St)(p:Nat)(v:Voy)(b m:Nat)(hp:aO σ p=some (db v b m))(hv:Vd v)(h:Int)(hh:0<=h/\h<=24):fZ T (.func 168 [.ptr p 0] []) [.int .i64 h] σ (.int .i64 (keeperAt v h)):=by
 have hk:=hv.nkp;have hhr:=hv.hours
 obtain⟨i,hi,h1,h2,hbs⟩:=aOE v.keepers h (by omega) (fun k hk=>by
   obtain⟨q,hq,rfl⟩:=List.mem_iff_getElem.1 hk;have:=(zC hv hq).1;rw[frmAt,List.getElem?_eq_getElem hq] at this;simp only at this;omega) hh (fun i j hij hj=>by
   have hat:∀ q,q<v.keepers.length->mR v.keepers q=frmAt v q:=fun q hq=>by simp[mR,frmAt,hq]
   rw[hat i (by omega),hat j hj];obtain⟨d,rfl⟩:∃ d,j=i+(d+1):=⟨j-i-1,by omega⟩;clear hij
   induction d with
   |zero=>have:=(zC hv (i:=i+1) (by omega)).2.2 (by omega);simpa using this
   |succ d ih2 =>
    have a:=ih2 (by omega);have b:=(zC hv (i:=i+(d+1)+1) (by omega)).2.2 (by omega);rw[Nat.add_sub_cancel] at b;have:i+(d+1+1)=i+(d+1)+1:=by omega
    rw[this];omega)
 have hlaw:=M5 hv hh.1 hi h1 h2;obtain⟨C,hC⟩:∃ C,(decide (i<v.keepers.length)&&(mR v.keepers i==h))=C:=⟨_,rfl⟩;rw[hC] at hbs hlaw;have hw:IntKind.i64.wrap ((i:Int)-1)=(i:Int)-1:=bZ ⟨by omega,by omega⟩;refine dH (af:=WF) rfl (by simp[WF]) ?_;try simp only[↓QA,QB,seval,fL,WF,hp]
 refine aC hbs rfl (aD (dP data_kp v.keepers) (aD (aR .i64 h) (aD (v:=.func 308 [] []) ⟨⟨trivial,trivial⟩,rfl⟩ cL))) ?_;cases C
 ·simp only[Bool.false_eq_true,if_false] at hlaw;try simp only[↓QA,QB,seval,fL,hw]
  refine cS [] (by first|rfl|simp) ?_;rw[hlaw];try simp only[QS,QC,seval,fL]
 ·simp only[if_true] at hlaw;try simp only[↓QA,QB,seval,fL]
  refine cS [] (by first|rfl|simp) ?_;rw[hlaw];try simp only[QS,QC,seval,fL]
end Go.Am.Room.Do
namespace Go.Am.Room.Do
def pD:=zz @gI (zz @cZ (zz @cX (zz @aN (zz @gU (zz @dL (zz @S_mapLook (zz @List.length_append.{0} (zz @SZ (zz @SQ (zz @RK (zz @MV (zz @RM (zz @TT (zz @TJ (zz @TR (zz @SA (zz @dR (zz @rR (zz @Nat.add_lt_add_iff_left (zz @Nat.lt_add_right_iff_pos (zz @Nat.mul_one (zz @Int.toNat_natCast (zz @mH (zz @nM (zz @nI (zz @lJ (@rP)))))))))))))))))))))))))))
theorem zS{S:List Ask->St}{v:Voy}{b p m N:Nat}(hR:MemAt S (db v b m) (tEs v []) p m N)(hv:Vd v)(hb:ButIs b [])(n:Nat)(hn:n<v.lots.toNat)(A:List Ask):
  sJ T (.func 169 [] []) [.ptr p 0,.int .i64 n] (S A) (.int .i64 (jY v n:Int)) (S (rD hv n A)):=by
 have hal:=B4 hR hv hb n hn A;obtain⟨A2,hA2⟩:∃ A2,rD hv n A=A2:=⟨_,rfl⟩;obtain⟨F,hF⟩:∃ F,jZ v n=F:=⟨_,rfl⟩;obtain⟨f,hfe⟩:∃ f,uW v n=f:=⟨_,rfl⟩;have hff:∀ i,f i=F i &&& 15:=fun i=>by rw[<-hfe,<-hF];rfl
 have hFl:∀ i,i<26->F i<32:=fun i _=>by
  have e:=BF hv n (TL v []) f0;have:jZ v n=((TL v []).foldl (fun x a=>(lV hv n a x).1) f0).1:=e.symm;rw[<-hF,this];exact ((TL v []).foldl (fun x a=>(lV hv n a x).1) f0).2 i
 have hfl:∀ i,f i<2^4:=fun i=>by rw[<-hfe];exact rH v n i
 have hcs:jY v n=AP f 26:=by rw[<-hfe];rfl
 rw[hA2] at hal ⊢;rw[hF] at hal;rw[hcs];refine nJ hR (af:=YM) rfl (by simp[YM]) ?_
 (repeat (first|simp only[↓QA,QB,reduceLT,reduceIte,reduceEqDiff,reduceAdd,reduceLeDiff,reduceMul,Nat.reduceBEq,pD,hR.len,hR.base,hR.base0,hR.bset,hR.bset0,hR.at1,hR.at0,YM]|refine rd0 rfl ?_))
 refine eH hal ?_
 (repeat (first|simp only[↓QA,QB,reduceLT,reduceIte,reduceEqDiff,reduceAdd,reduceLeDiff,reduceMul,Nat.reduceBEq,pD,hR.len,hR.base,hR.base0,hR.bset,hR.bset0,hR.at1,hR.at0]|refine rd0 rfl ?_))
 refine cI (S:=Nat) 0 (fun k=>k<=26) (fun k=>26-k)
  (fun k=>[(4,.int .i64 (AP f k:Int)),(9,.agg (eS F)),(10,.int .i64 k)]) (fun _=>S A2) (Nat.zero_le _) rfl ?_ fun k hk=>?_
 ·try simp only[aB,QE,reduceLT,reduceIte,reduceEqDiff,reduceAdd,reduceLeDiff,reduceMul,Nat.reduceBEq,pD,hR.len,hR.base,hR.base0,hR.bset,hR.bset0,hR.at1,hR.at0,AP]
  try simp
 ·(repeat (first|simp only[↓QA,QB,reduceLT,reduceIte,reduceEqDiff,reduceAdd,reduceLeDiff,reduceMul,Nat.reduceBEq,pD,hR.len,hR.base,hR.base0,hR.bset,hR.bset0,hR.at1,hR.at0,XF]|refine rd0 rfl ?_))
  refine aE (fun hd=>?_) fun hd=>?_
  ·have hk1:k<26:=by simp at hd;omega
   have hw:=bR hk1 (by omega);have i1:(0:Int)<=(k:Int)/\(k:Int)<((26:Nat):Int):=⟨by omega,by omega⟩;have hg:=mL F hk1;have h1:=hFl k hk1;have h2:=AT hfl k;have h3:=hfl k;have hand:cQ .and (.int .i64 ((F k:Nat):Int)) (.int .i64 15)=some (.int .i64 ((f k:Nat):Int)):=by rw[hff];exact ZN (F k) 15 (by omega) (by omega)
   have hor:=JS (AP f k) (f k) (by omega) (by omega);have hst:AP f (k+1)=AP f k|||f k:=rfl
   (repeat (first|simp only[↓QA,QB,reduceLT,reduceIte,reduceEqDiff,reduceAdd,reduceLeDiff,reduceMul,Nat.reduceBEq,pD,hR.len,hR.base,hR.base0,hR.bset,hR.bset0,hR.at1,hR.at0,i1,hg,hand,hor,PM]|refine rd0 rfl ?_))
   refine⟨k+1,by omega,by omega,?_⟩;try simp only[aB,QE,reduceLT,reduceIte,reduceEqDiff,reduceAdd,reduceLeDiff,reduceMul,Nat.reduceBEq,pD,hR.len,hR.base,hR.base0,hR.bset,hR.bset0,hR.at1,hR.at0,hw,hst]
   try simp
  ·have hk1:k=26:=by simp at hd;omega
   subst hk1
   (repeat (first|simp only[↓QA,QB,reduceLT,reduceIte,reduceEqDiff,reduceAdd,reduceLeDiff,reduceMul,Nat.reduceBEq,pD,hR.len,hR.base,hR.base0,hR.bset,hR.bset0,hR.at1,hR.at0]|refine rd0 rfl ?_))
   exact⟨_,[],rfl,by simp,by try simp only[QS,QC,reduceLT,reduceIte,reduceEqDiff,reduceAdd,reduceLeDiff,reduceMul,Nat.reduceBEq,pD,hR.len,hR.base,hR.base0,hR.bset,hR.bset0,hR.at1,hR.at0]⟩
end Go.Am.Room.Do
namespace Go.Am.Room.Do
def fR:=zz @encVoy_eq (zz @cW (zz @gI (zz @cZ (zz @cX (zz @aN (zz @gU (zz @dL (zz @S_mapLook (zz @List.length_append.{0} (zz @dR (zz @rR (zz @Nat.add_lt_add_iff_left (zz @Nat.lt_add_right_iff_pos (zz @Nat.mul_one (@Int.toNat_natCast)))))))))))))))
theorem rB(v:Voy)(n:Int)(hf:Fits v):cY T 156 [gY v,.int .i64 n] (encLE (oJ v n)):=by
 refine aV (af:=aB9) rfl (by simp[aB9]) dd ?_
 (repeat (first|simp only[↓QA,QB,seval,fR,aB9]|refine rd0 rfl ?_))
 refine eH (kJ _ v n hf) ?_;simp only[fP,iZ];by_cases h0:lotErr v n=0
 ·obtain⟨ha,hne⟩:=kC h0;obtain⟨hv,hn0,hn1⟩:=tV ha;have hdr:=hv.ndr;obtain⟨N,rfl⟩:∃ N:Nat,n=N:=⟨n.toNat,by omega⟩;have hN:N<v.lots.toNat:=by omega
  have hm:oJ v N=(causesIn v (truths v []) N,0):=by rw[oJ,if_pos h0,Int.toNat_natCast]
  have hcd:=zS (v4 [.cells (voyCells v)] v) hv MM N hN (pB v);have hcl:jY v N<16:=AT (n:=4) (rH v N) 26;have hlo:=rE (jY v N) v.doors.length (by omega) (by omega);rw[DL hv hN] at hlo;obtain⟨A,hA⟩:∃ A,rD hv N (pB v)=A:=⟨_,rfl⟩;obtain⟨C,hC⟩:∃ C,jY v N=C:=⟨_,rfl⟩;rw[hA,hC] at hcd;rw[hC] at hlo;rw[if_pos h0,if_pos h0,hm];simp only[j6] at hcd ⊢;try simp only[↓QA,QB,seval,fR] at hcd
  (repeat (first|simp only[↓QA,QB,seval,fR,show ((0:Int)==0)=true from rfl]|refine rd0 rfl ?_))
  refine kR hcd ?_
  (repeat (first|simp only[↓QA,QB,seval,fR]|refine rd0 rfl ?_))
  ((first|refine aC (hlo) rfl dd ?_|refine aJ (hlo) rfl dd ?_);(repeat (first|simp only[↓QA,QB,seval,fR,encLE]|refine rd0 rfl ?_)))
 ·have h0':(lotErr v n==0)=false:=by simpa using h0
  have hm:oJ v n=([],lotErr v n):=by rw[oJ,if_neg h0]
  rw[if_neg h0,if_neg h0,hm]
  (repeat (first|simp only[↓QA,QB,seval,fR,h0',encLE]|refine rd0 rfl ?_))
  try rfl
theorem WR(g:Int->Nat)(l:List Int){k:Nat}(h:k<l.length):orL g (l.take (k+1)) 0=orL g (l.take k) 0|||2^g l[k]:=by
 rw[orL,List.take_add_one,List.getElem?_eq_getElem h,List.foldl_append];rfl
theorem pwhose_ok(v:Voy)(n:Int)(hf:Fits v):cY T 43 [gY v,.int .i64 n] (encLE (whoseOf v n)):=by
 refine aV (af:=a43) rfl (by simp[a43]) dd ?_
 (repeat (first|simp only[↓QA,QB,seval,fR,a43]|refine rd0 rfl ?_))
 refine eH (kJ _ v n hf) ?_;simp only[fP,iZ];by_cases h0:lotErr v n=0
 ·obtain⟨ha,hne⟩:=kC h0;obtain⟨hv,hn0,hn1⟩:=tV ha;have hdr:=hv.ndr;have hkp:=hv.nkp;have hhr:=hv.hours;obtain⟨N,rfl⟩:∃ N:Nat,n=N:=⟨n.toNat,by omega⟩;have hN:N<v.lots.toNat:=by omega
  have hm:whoseOf v N=(whoseIn v (causesIn v (truths v []) N),0):=by rw[whoseOf,if_pos h0,Int.toNat_natCast]
  have hcd:=zS (v4 [.cells (voyCells v)] v) hv MM N hN (pB v);have hcl:jY v N<16:=AT (n:=4) (rH v N) 26;have hlo:=rE (jY v N) v.doors.length (by omega) (by omega);rw[DL hv hN] at hlo;have hds:(causesIn v (truths v []) N).length<=4:=by
   refine Nat.le_trans (List.length_filter_le _ _) ?_;rw[jF];omega
  have hdi:∀ d∈causesIn v (truths v []) N,0<=d/\d<v.doors.length:=fun d hd=>(mem_causes.1 hd).1
  obtain⟨ds,hdse⟩:∃ ds,causesIn v (truths v []) N=ds:=⟨_,rfl⟩;rw[hdse] at hlo hds hdi hm;obtain⟨A,hA⟩:∃ A,rD hv N (pB v)=A:=⟨_,rfl⟩;obtain⟨C,hC⟩:∃ C,jY v N=C:=⟨_,rfl⟩;rw[hA,hC] at hcd;rw[hC] at hlo;obtain⟨g,hg⟩:∃ g:Int->Nat,(fun d=>(keeperAt v (doorHour v d)).toNat)=g:=⟨_,rfl⟩;have hgk:∀ d,keeperAt v (doorHour v d)=((g d:Nat):Int):=fun d=>by
   have:=(t7 hv (doorHour v d)).1;rw[<-hg];simp only;omega
  have hg5:∀ d,g d<5:=fun d=>by have:=(t7 hv (doorHour v d)).2;have:=hgk d;omega
  have hor32:∀ l:List Int,orL g l 0<2^5:=fun l=>ZH (by omega) fun d _=>hg5 d
  have hlo2:=rE (orL g ds 0) v.keepers.length (by have:=hor32 ds;omega) (by omega);have hwl:=SL hv ds;rw[hg] at hwl;rw[hwl] at hlo2;have hkm:=fun h hh=>XB [.cells (voyCells v),.cells (voyCells v),.cells (voyCells v),.map (tEs v [] A),.cells (db v 0 3)] 4 v 0 3 rfl hv h hh
  rw[if_pos h0,if_pos h0,hm];simp only[j6] at hcd ⊢;try simp only[↓QA,QB,seval,fR] at hcd hkm
  (repeat (first|simp only[↓QA,QB,seval,fR,show ((0:Int)==0)=true from rfl]|refine rd0 rfl ?_))
  refine kR hcd ?_
  (repeat (first|simp only[↓QA,QB,seval,fR]|refine rd0 rfl ?_))
  ((first|refine aC (hlo) rfl dd ?_|refine aJ (hlo) rfl dd ?_);(repeat (first|simp only[↓QA,QB,seval,fR]|refine rd0 rfl ?_)))
  refine cI (S:=Nat) 0 (fun k=>k<=ds.length) (fun k=>ds.length-k)
   (fun k=>[(2,.ptr 0 0),(8,.func 168 [.ptr 4 0] []),(9,.int .i64 (orL g (ds.take k) 0:Int)),(29,ints ds),(30,.int .i64 ds.length),(31,.int .i64 k)])
   (fun k=>[.cells (voyCells v),.cells (voyCells v),.cells (voyCells v),.map (tEs v [] A),.cells (db v 0 3)]) (Nat.zero_le _) (by simp[voyCells,ints]) ?_ fun k hk=>?_
  ·try simp only[aB,QE,seval,fR,ints,List.take_zero,orL,List.foldl_nil]
   try simp
  ·(repeat (first|simp only[↓QA,QB,seval,fR,aHY]|refine rd0 rfl ?_))
   refine aE (fun hd=>?_) fun hd=>?_
   ·have hk1:k<ds.length:=by simpa using hd
    have hw:=bR hk1 (by omega);have hdd:=hdi _ (List.getElem_mem hk1);have hst:=WR g ds hk1;obtain⟨d,hde⟩:∃ d,ds[k]=d:=⟨_,rfl⟩;rw[hde] at hdd hst;have hd0:0<=d:=hdd.1;have hd1:d.toNat<v.doors.length:=by omega
    have hdh:doorHour v d=v.doors[d.toNat].hour:=by simp[doorHour,hd1]
    have hrg:=hv.dr _ (List.getElem_mem hd1);have hkd:=hkm v.doors[d.toNat].hour (by omega);have hgd:=hgk d;have hgl:=hg5 d;rw[hdh] at hgd;rw[hgd] at hkd;have h1:=hor32 (ds.take k);have hp2:2^g d<2^5:=Nat.pow_lt_pow_right (by omega) hgl;have hsh:=vN (g d) (by omega);have hor:=JS (orL g (ds.take k) 0) (2^g d) (by omega) (by omega)
    (repeat (first|simp only[↓QA,QB,seval,fR,hk1,hde,ZX,hd0,hd1]|refine rd0 rfl ?_))
    refine bI hkd ?_
    (repeat (first|simp only[↓QA,QB,seval,fR,hk1,hde,ZX,hd0,hd1,hsh,hor]|refine rd0 rfl ?_))
    refine⟨k+1,by omega,by omega,?_⟩;try simp only[aB,QE,seval,fR,hw,hst]
    try simp[aL,okVs,okV]
   ·have hk1:k=ds.length:=by simp at hd;omega
    rw[hk1,List.take_length]
    (repeat (first|simp only[↓QA,QB,seval,fR]|refine rd0 rfl ?_))
    ((first|refine aC (hlo2) rfl dd ?_|refine aJ (hlo2) rfl dd ?_);(repeat (first|simp only[↓QA,QB,seval,fR,encLE]|refine rd0 rfl ?_)))
 ·have h0':(lotErr v n==0)=false:=by simpa using h0
  have hm:whoseOf v n=([],lotErr v n):=by rw[whoseOf,if_neg h0]
  rw[if_neg h0,if_neg h0,hm]
  (repeat (first|simp only[↓QA,QB,seval,fR,h0',encLE]|refine rd0 rfl ?_))
  try rfl
end Go.Am.Room.Do
namespace Go.Am.Room
theorem YJ{X:Type}{M:Type}{S:X->M->St}{obj:List AV}{es:M->List (AV×AV)}{p m N:Nat}(hS:∀ x,MemAt (S x) obj es p m N)(hK:∀ x A y B k i,N<=k->i<N->dA (S x A) (S y B) k i)(hpl:p<N)(U UD:X->St)(n:Nat)(hU:∀ x,(U x).length=n)(hUD:∀ x,(UD x).length=n)(ok:∀ x y,y∈U x->∀ k,N<=k->aL k y)(okD:∀ x y,y∈UD x->∀ k,N<=k->aL k y)(env:Env)(ps:List Nat)(a bb:ACode)(st st':LS)(pe pe':Option AJump):
  Fam1 (fun x A=>S x A++(U x++[.cells [.ptr p 0],.loop st pe env ps a bb])) (fun x A=>S x A++(UD x++[.cells [.ptr p 0],.loop st' pe' env ps a bb])) obj es p m (N+n) (N+n+2):=by
 have low:∀ (x:X) (A:M) (y:X) (B:M) (C D:St) (k i:Nat),N<=k->i<N->dA (S x A++C) (S y B++D) k i:=by
  intro x A y B C D k i hk hi;have e1:(S x A++C)[i]? = (S x A)[i]?:=List.getElem?_append_left (by rw[(hS x).len];exact hi);have e2:(S y B++D)[i]? = (S y B)[i]?:=List.getElem?_append_left (by rw[(hS y).len];exact hi);have:=hK x A y B k i hk hi;simp only[dA,e1,e2] at this ⊢;exact this
 have high:∀ (P Q:St) (C D:St) (l1 l2:ABlk) (k i:Nat),P.length=N->Q.length=N->C.length=n->D.length=n->(∀ y∈D,aL k y)->N<=i->i<N+n+2->(l1=l2\/∃ st pe st' pe' env ps a b,l1 = .loop st pe env ps a b/\l2 = .loop st' pe' env ps a b) ->
   dA (P++(C++[.cells [.ptr p 0],l1])) (Q++(D++[.cells [.ptr p 0],l2])) k i:=by
  intro P Q C D l1 l2 k i hP hQ hA hB hk h1 h2 hl;have e1:(P++(C++[.cells [.ptr p 0],l1]))[i]? = (C++[.cells [.ptr p 0],l1])[i-N]?:=by rw[List.getElem?_append_right (by rw[hP];exact h1),hP]
  have e2:(Q++(D++[.cells [.ptr p 0],l2]))[i]? = (D++[.cells [.ptr p 0],l2])[i-N]?:=by rw[List.getElem?_append_right (by rw[hQ];exact h1),hQ]
  simp only[dA,e1,e2];obtain⟨j,hj⟩:∃ j,i-N=j:=⟨_,rfl⟩;rw[hj];by_cases hjn:j<n
  ·right;left;have hb:j<D.length:=by omega
   refine⟨D[j],?_,hk _ (List.getElem_mem hb)⟩;rw[List.getElem?_append_left hb,List.getElem?_eq_getElem hb]
  ·have:j=n\/j=n+1:=by omega
   rcases this with rfl|rfl
   ·left;rw[List.getElem?_append_right (by omega),List.getElem?_append_right (by omega),hA,hB];simp
   ·rw[List.getElem?_append_right (by omega),List.getElem?_append_right (by omega),hA,hB];simp only[Nat.add_sub_cancel_left,List.getElem?_cons_succ,List.getElem?_cons_zero];rcases hl with rfl|⟨_,_,_,_,_,_,_,_,rfl,rfl⟩
    ·exact .inl rfl
    ·exact .inr (.inr ⟨_,_,_,_,_,_,_,_,rfl,rfl⟩)
 refine⟨fun x=>?_,fun x A=>?_,fun x A=>?_,fun x A y B k i hk hi=>?_,fun x A y B k i hk hi=>?_,by omega,by omega⟩
 ·have:=(hS x).app (U x++[.cells [.ptr p 0],.loop st pe env ps a bb]);rw[List.length_append,hU] at this;exact this
 ·simp[(hS x).len,hUD];omega
 ·have e:N+n=(S x A).length+n:=by rw[(hS x).len]
  rw[e,n8];have:n=(U x).length:=by rw[hU]
  rw[this];exact AR _ _
 ·by_cases h:i<N
  ·exact low _ _ _ _ _ _ _ _ (by omega) h
  ·exact high _ _ _ _ _ _ _ _ ((hS x).len A) ((hS y).len B) (hU x) (hU y) (fun z hz=>ok y z hz k (by omega)) (by omega) hi (.inl rfl)
 ·by_cases h:i<N
  ·exact low _ _ _ _ _ _ _ _ (by omega) h
  ·exact high _ _ _ _ _ _ _ _ ((hS x).len A) ((hS y).len B) (hU x) (hUD y) (fun z hz=>okD y z hz k (by omega)) (by omega) hi (.inr ⟨_,_,_,_,_,_,_,_,rfl,rfl⟩)
theorem RU{X M:Type}{S:X->M->St}{obj:List AV}{es:M->List (AV×AV)}{p m N:Nat}(hS:∀ x,MemAt (S x) obj es p m N)(U UD:X->St)(n:Nat)(hU:∀ x,(U x).length=n)(hUD:∀ x,(UD x).length=n)(J:AJump)(e:Env)(k:Nat)(ps:List Nat)(a bb:ACode)(g:FuncId)(ek:Env.get e k = .func g [] [.ptr (N+n) 0])(r:X×Bool)(B':M)(x:X)(B:M)(hrun:Run T (.call g [.yield (N+n+1),.ptr (N+n) 0] (S x B++(U x++[.cells [.ptr p 0],.loop .ready none e ps a bb]))) fun o=>∃ τ',o.σ=Fam1.out (fun x A=>S x A++(U x++[.cells [.ptr p 0],.loop .ready none e ps a bb])) (fun x A=>S x A++(UD x++[.cells [.ptr p 0],.loop .done (some J) e ps a bb])) r B'++τ')(K:KJ)(hT:∀ τ,r.2=true->K none e (S r.1 B'++(U r.1++(.cells [.ptr p 0]::.dead::τ))))(hD:∀ τ,r.2=false->K (some J) e (S r.1 B'++(UD r.1++(.cells [.ptr p 0]::.dead::τ)))):
  rK (K:=⟨K⟩) T (.rangeFunc (.t k) ps a bb) e (S x B++(U x++[.cells [.ptr p 0]])):=by
 have hlen:(S x B++(U x++[ABlk.cells [.ptr p 0]])).length=N+n+1:=by simp[(hS x).len,hU];omega
 have hout:∀ (A W:St) (lp:ABlk) (τ':St),A.length=N->W.length=n->(A++(W++[ABlk.cells [.ptr p 0],lp])++τ')[N+n+1]? = some lp/\(A++(W++[ABlk.cells [.ptr p 0],lp])++τ').set (N+n+1) .dead=A++(W++(.cells [.ptr p 0]::.dead::τ')):=by
  intro A W lp τ' hA hW;have h1:N+n+1=(A++W).length+1:=by simp[hA,hW]
  have h2:A++(W++[ABlk.cells [.ptr p 0],lp])++τ'=(A++W)++(.cells [.ptr p 0]::lp::τ'):=by simp
  rw[h1,h2];constructor
  ·rw[tO];rfl
  ·rw[mW];simp
 refine C7 (by rw[PL,ek]) (by
  rw[hlen,List.append_assoc (S x B),List.append_assoc (U x)]
  exact hrun) fun o ho=>?_
 obtain⟨τ',hσ⟩:=ho;rw[hlen,hσ];cases hr2:r.2
 ·have hD':=hD τ' hr2;obtain⟨g1,g2⟩:=hout (S r.1 B') (UD r.1) (.loop .done (some J) e ps a bb) τ' ((hS _).len _) (hUD _);simp only[Fam1.out,hr2,Bool.false_eq_true,if_false];rw[g1,g2];exact⟨_,_,_,_,_,_,rfl,by simp,hD'⟩
 ·have hT':=hT τ' hr2;obtain⟨g1,g2⟩:=hout (S r.1 B') (U r.1) (.loop .ready none e ps a bb) τ' ((hS _).len _) (hU _);simp only[Fam1.out,hr2,if_true];rw[g1,g2];exact⟨_,_,_,_,_,_,rfl,by simp,hT'⟩
theorem M2{X A M:Type}{S:X->M->St}{obj:List AV}{es:M->List (AV×AV)}{p m N:Nat}(hS:∀ x,MemAt (S x) obj es p m N)(U UD:X->St)(n:Nat)(hU:∀ x,(U x).length=n)(hUD:∀ x,(UD x).length=n)(J:AJump)(e:Env)(ps:List Nat)(args:A->Bool->Option Nat->List AV)(hps:∀ t fl tk,ps.length=(args t fl tk).length)(a bb:ACode){P:A->Prop}{f:A->X->X×Bool}(h:∀ t,P t->∀ (fl:Bool) (tk:Option Nat) x B τ,wp T a (iQ e ps (args t fl tk)) (S x B++(U x++(.cells [.ptr p 0]::.loop .ready none e ps a bb::τ))) (fun j e' σ'=>j=none/\σ'=S x B++(U x++(.cells [.ptr p 0]::.loop .ready none e ps a bb::τ)) /\
   wp T bb e' (S x B++(U x++(.cells [.ptr p 0]::.loop .busy none e ps a bb::τ))) (fun j e'' σ''=>((f t x).2=true/\j=none/\∃ τ',σ''=S (f t x).1 B++(U (f t x).1++(.cells [.ptr p 0]::.loop .busy none e ps a bb::(τ++τ')))) \/
    ((f t x).2=false/\j=some J/\∃ τ',σ''=S (f t x).1 B++(UD (f t x).1++(.cells [.ptr p 0]::.loop .busy none e ps a bb::(τ++τ'))))))):
  xK (fun x B=>S x B++(U x++[.cells [.ptr p 0],.loop .ready none e ps a bb])) (fun x B=>S x B++(UD x++[.cells [.ptr p 0],.loop .done (some J) e ps a bb])) (N+n+1) args P f:=by
 intro t ht fl tk x B τ;have hget:∀ (A W:St) (lp:ABlk) (υ:St),A.length=N->W.length=n->(A++(W++(ABlk.cells [.ptr p 0]::lp::υ)))[N+n+1]? = some lp:=by
  intro A W lp υ hA hW;have h1:N+n+1=(A++W).length+1:=by simp[hA,hW]
  rw[h1,<-List.append_assoc,tO];rfl
 have hset:∀ (A W:St) (lp l2:ABlk) (υ:St),A.length=N->W.length=n->(A++(W++(ABlk.cells [.ptr p 0]::lp::υ))).set (N+n+1) l2=A++(W++(ABlk.cells [.ptr p 0]::l2::υ)):=by
  intro A W lp l2 υ hA hW;have h1:N+n+1=(A++W).length+1:=by simp[hA,hW]
  rw[h1,<-List.append_assoc,mW];simp
 obtain⟨r,hr⟩:∃ r,f t x=r:=⟨_,rfl⟩;have h:=h t ht fl tk x B τ;rw[hr] at h ⊢;have hst:(fun x B=>S x B++(U x++[ABlk.cells [.ptr p 0],.loop .ready none e ps a bb])) x B++τ=S x B++(U x++(.cells [.ptr p 0]::.loop .ready none e ps a bb::τ)):=by simp
 rw[hst];refine .round (env:=e) (ps:=ps) (a:=a) (b:=bb)
  (R:=fun o=>o.j=none/\o.σ=S x B++(U x++(.cells [.ptr p 0]::.loop .ready none e ps a bb::τ))/\wp T bb o.env (S x B++(U x++(.cells [.ptr p 0]::.loop .busy none e ps a bb::τ))) (fun j e'' σ''=>(r.2=true/\j=none/\∃ τ',σ''=S r.1 B++(U r.1++(.cells [.ptr p 0]::.loop .busy none e ps a bb::(τ++τ')))) \/
    (r.2=false/\j=some J/\∃ τ',σ''=S r.1 B++(UD r.1++(.cells [.ptr p 0]::.loop .busy none e ps a bb::(τ++τ'))))))
  (S:=fun o=>(r.2=true/\o.j=none/\∃ τ',o.σ=S r.1 B++(U r.1++(.cells [.ptr p 0]::.loop .busy none e ps a bb::(τ++τ'))))\/(r.2=false/\o.j=some J/\∃ τ',o.σ=S r.1 B++(UD r.1++(.cells [.ptr p 0]::.loop .busy none e ps a bb::(τ++τ'))))) (hget _ _ _ _ ((hS _).len _) (hU _)) (by rw[hps t fl tk]) (fA h fun o ho=>ho) ?_ ?_ ?_
 ·rintro o ⟨hj,hσ,_⟩;exact⟨hj,by rw[hσ];exact hget _ _ _ _ ((hS _).len _) (hU _)⟩
 ·rintro o ⟨_,hσ,hw⟩;rw[hσ,hset _ _ _ _ _ ((hS _).len _) (hU _)];exact fA hw fun o ho=>ho
 ·rintro o (⟨hr2,hj,τ',hσ⟩|⟨hr2,hj,τ',hσ⟩)
  ·rw[hσ,hj,hget _ _ _ _ ((hS _).len _) (hU _),hset _ _ _ _ _ ((hS _).len _) (hU _)];refine⟨rfl,by rw[hr2];rfl,τ',?_⟩;simp[Fam1.out,hr2]
  ·rw[hσ,hj,hget _ _ _ _ ((hS _).len _) (hUD _),hset _ _ _ _ _ ((hS _).len _) (hUD _)];refine⟨rfl,by rw[hr2];rfl,τ',?_⟩;simp[Fam1.out,hr2]
end Go.Am.Room
namespace Go.Am.Room.Do
def nE:=zz @encVoy_eq (zz @cW (zz @gI (zz @cZ (zz @cX (zz @aN (zz @gU (zz @dL (zz @S_mapLook (zz @List.length_append.{0} (zz @dR (zz @rR (zz @Nat.add_lt_add_iff_left (zz @Nat.lt_add_right_iff_pos (zz @Nat.mul_one (zz @Int.toNat_natCast (zz @l0 (@lX)))))))))))))))))
theorem aT0{v:Voy}:errAsk v 0=(check v).2.2:=by
 unfold errAsk;split
 ·rename_i h;have:=(vd_of_check h).lots;rw[if_pos (aZ.2 ⟨by omega,by omega⟩)];exact h.symm
 ·rfl
theorem AD(v:Voy):lotErr v 0=jA v:=by rw[lotErr,aT0];rfl
def aGM(a b:Int):Int:=Go.Am.bits .and .i64 a b
def orI(a b:Int):Int:=Go.Am.bits .or .i64 a b
theorem aAP(a b:Int):cQ .and (.int .i64 a) (.int .i64 b)=some (.int .i64 (aGM a b)):=by simp[cQ,fH,aGM]
theorem aHJ(a b:Int):cQ .or (.int .i64 a) (.int .i64 b)=some (.int .i64 (orI a b)):=by simp[cQ,fH,orI]
theorem YV(a b:Nat)(ha:a<9223372036854775808)(hb:b<9223372036854775808):aGM a b=((a &&& b:Nat):Int):=by
 have:=ZN a b ha hb;rw[aAP] at this;simpa using this
theorem aDI(a b:Nat)(ha:a<4611686018427387904)(hb:b<4611686018427387904):orI a b=((a|||b:Nat):Int):=by
 have:=JS a b ha hb;rw[aHJ] at this;simpa using this
def opF(op:Nat)(x:Int×Int):(Int×Int)×Bool:=((aGM x.1 op,orI x.2 op),true)
theorem QZ:∀ (l:List Nat) (a b:Nat),a<16->b<16->(∀ t∈l,t<16)->l.foldl (fun x op=>(opF op x).1) (((a:Nat):Int),((b:Nat):Int))=(((l.foldl (fun a op=>a &&& op) a:Nat):Int),((l.foldl (fun a op=>a|||op) b:Nat):Int))/\l.foldl (fun a op=>a &&& op) a<16/\l.foldl (fun a op=>a|||op) b<16
 |[],a,b,ha,hb,_=>⟨rfl,ha,hb⟩
 |op::l,a,b,ha,hb,h=>by
  have ho:=h op (by simp);have h1:a &&& op<16:=Nat.lt_of_le_of_lt Nat.and_le_left ha;have h2:b|||op<16:=Nat.or_lt_two_pow (n:=4) hb ho;have ih:=QZ l (a &&& op) (b|||op) h1 h2 fun t ht=>h t (by simp[ht])
  simp only[List.foldl_cons];have e:(opF op (((a:Nat):Int),((b:Nat):Int))).1=(((a &&& op:Nat):Int),((b|||op:Nat):Int)):=by
   simp only[opF,YV a op (by omega) (by omega),aDI b op (by omega) (by omega)]
  rw[e];exact ih
def opU(x:Int×Int):St:=[.cells [.int .i64 x.1],.cells [.int .i64 x.2]]
theorem aB5(N:Nat)(x:Int×Int)(y:ABlk)(hy:y∈opU x)(k:Nat)(hk:N<=k):aL k y:=by
 simp only[opU,List.mem_cons,List.not_mem_nil,or_false] at hy;rcases hy with rfl|rfl<;>simp[aL,okVs,okV]
theorem BJ(v:Voy)(hf:Fits v):cY T 157 [gY v] (F4 (n5 v)):=by
 refine aV (af:=U5) rfl (by simp[U5]) dd ?_
 (repeat (first|simp only[↓QA,QB,seval,nE,U5]|refine rd0 rfl ?_))
 refine eH (kJ _ v 0 hf) ?_;simp only[fP,iZ,AD];by_cases h0:jA v=0
 ·obtain⟨ha,hne⟩:=kC h0;have hv:=vd_of_check ha;have hdr:=hv.ndr;obtain⟨D,hD⟩:∃ D,v.doors.length=D:=⟨_,rfl⟩;rw[hD] at hdr;obtain⟨U,hU⟩:∃ U,2^D-1=U:=⟨_,rfl⟩;have hp4:2^D<=2^4:=Nat.pow_le_pow_right (by omega) hdr;have hpos:=Nat.two_pow_pos D;have hsh:=vN D (by omega);have hwU:IntKind.i64.wrap (((2^D:Nat):Int)-1)=(U:Int):=by
   have:((2^D:Nat):Int)-1=(U:Int):=by omega
   rw[this];exact bZ ⟨by omega,by omega⟩
  have hl1:=YY hv;have hl2:=aDA hv;obtain⟨hfd,hb1,hb2⟩:=QZ (TL v []) U 0 (by omega) (by omega) fun t ht=>(aBM hv t ht).1
  rw[hD,hU] at hl1;rw[hD] at hl2;obtain⟨P,hP⟩:∃ P,(TL v []).foldl (fun a op=>a &&& op) U=P:=⟨_,rfl⟩;obtain⟨Q,hQ⟩:∃ Q,(TL v []).foldl (fun a op=>a|||op) 0=Q:=⟨_,rfl⟩;rw[hP] at hl1 hfd hb1;rw[hQ] at hl2 hfd hb2;have hm:n5 v=(lst D P,lst D Q,0):=by rw[n5,if_pos h0,hD,hl1,hl2]
  have hlo1:=rE P D (by omega) (by omega);have hlo2:=rE Q D (by omega) (by omega);have hgo:bF opF (TL v []) ((U:Int),((0:Nat):Int))=(((P:Int),(Q:Int)),true):=by rw[wL (fun _ _=>rfl),hfd]
  rw[if_pos h0,if_pos h0,hm];have hR:=v4 [.cells (voyCells v)] v;have hrng:=jQ hR hv MM opU opU 2 (fun _=>rfl) (fun _=>rfl) (aB5 _) (aB5 _) .ret (P:=fun _=>True) (f:=opF);simp only[j6] at hrng ⊢;simp only[cW] at hrng
  (repeat (first|simp only[↓QA,QB,seval,nE,show ((0:Int)==0)=true from rfl,hD,hsh,hwU]|refine rd0 rfl ?_))
  refine qJ rfl (by simp[D3]) ?_
  (repeat (first|simp only[↓QA,QB,seval,nE,D3]|refine rd0 rfl ?_))
  refine hrng _ 23 [24,25] _ _ ?_ ?_ (fun _ _=>trivial) ((U:Int),((0:Nat):Int)) (pB v) _ ?_ ?_
  ·try simp only[aB,QE,seval,nE]
  ·refine yX hR opU opU 2 (fun _=>rfl) (fun _=>rfl) .ret _ _ (sE v []) (fun _ _ _=>rfl) _ _ ?_;intro t _ fl tk x B τ;simp only[iQ,sE,j6,opU,cW]
   (repeat (first|simp only[↓QA,QB,seval,nE,aA1,aAP,aHJ]|refine rd0 rfl ?_))
   exact .inl ⟨rfl,[],by simp[opF]⟩
  ·intro τ h2;rw[hgo];simp only[opU]
   (repeat (first|simp only[↓QA,QB,seval,nE,hD]|refine rd0 rfl ?_))
   ((first|refine aC (hlo1) rfl dd ?_|refine aJ (hlo1) rfl dd ?_);(repeat (first|simp only[↓QA,QB,seval,nE,hD]|refine rd0 rfl ?_)))
   ((first|refine aC (hlo2) rfl dd ?_|refine aJ (hlo2) rfl dd ?_);(repeat (first|simp only[↓QA,QB,seval,nE,hD,F4]|refine rd0 rfl ?_)))
  ·intro τ h2;rw[hgo] at h2;cases h2
 ·have h0':(jA v==0)=false:=by simpa using h0
  have hm:n5 v=([],[],jA v):=by rw[n5,if_neg h0]
  rw[if_neg h0,if_neg h0,hm]
  (repeat (first|simp only[↓QA,QB,seval,nE,h0',F4]|refine rd0 rfl ?_))
  try rfl
end Go.Am.Room.Do
namespace Go.Am.Room.Do
def eJ:=zz @encVoy_eq (zz @cW (zz @gI (zz @cZ (zz @cX (zz @aN (zz @gU (zz @dL (zz @S_mapLook (zz @List.length_append.{0} (zz @dR (zz @rR (zz @Nat.add_lt_add_iff_left (zz @Nat.lt_add_right_iff_pos (zz @Nat.mul_one (zz @Int.toNat_natCast (zz @l0 (@lX)))))))))))))))))
theorem J0:∀ a b:List Int,decide (D8 a b<0)=less a b
 |[],[]=>rfl
 |[],b::bs=>rfl
 |a::az,[]=>rfl
 |a::az,b::bs=>by
  have ih:=J0 az bs;simp only[D8,less,DZ];by_cases h1:a<b
  ·simp[h1,show ¬a=b by omega]
  ·by_cases h2:b<a
   ·simp[h1,h2,show ¬a=b by omega]
   ·have:a=b:=by omega
    subst this;simp[ih]
theorem y7(a b:List Int)(ha:a.length<9223372036854775808)(hb:b.length<9223372036854775808):cY T 163 [ints a,ints b] (.bool (dY a b)):=by
 refine aV (af:=NS) rfl (by simp[NS]) dd ?_;by_cases h1:a.length<b.length
 ·have g1:decide ((a.length:Int)<(b.length:Int))=true:=by simp;omega
  have e:dY a b=true:=by rw[dY,if_neg (by omega)];simp[h1]
  rw[e];try simp only[↓QA,QB,seval,eJ,NS,g1]
 ·have g1:decide ((a.length:Int)<(b.length:Int))=false:=by simp;omega
  by_cases h2:a.length=b.length
  ·have g2:((a.length:Int)==(b.length:Int))=true:=by simp;omega
   have e:dY a b=less a b:=by rw[dY,if_pos h2]
   have hn:=J0 a b;rw[e];try simp only[↓QA,QB,seval,eJ,NS,g1,g2]
   (refine aC (aDP a b ha hb) rfl dd ?_;try simp only[↓QA,QB,seval,eJ,g1,g2,hn])
  ·have g2:((a.length:Int)==(b.length:Int))=false:=by simp;omega
   have e:dY a b=false:=by rw[dY,if_neg h2];simp[h1]
   rw[e];try simp only[↓QA,QB,seval,eJ,NS,g1,g2]
theorem D7{X:Type}{S:X->List Ask->St}{v:Voy}{b p m N:Nat}{bl:List Int}(hS:∀ x,MemAt (S x) (db v b m) (tEs v bl) p m N)(hK:∀ x A y B k i,N<=k->i<N->dA (S x A) (S y B) k i)(hpl:p<N)(hv:Vd v)(hb:ButIs b bl)(U UD:X->St)(n:Nat)(hU:∀ x,(U x).length=n)(hUD:∀ x,(UD x).length=n)(ok:∀ x y,y∈U x->∀ k,N<=k->aL k y)(okD:∀ x y,y∈UD x->∀ k,N<=k->aL k y)(J:AJump){P:Nat->Prop}{f:Nat->X->X×Bool}(e:Env)(k:Nat)(ps:List Nat)(a bb:ACode)(ek:Env.get e k = .func 410 [] [.ptr (N+n) 0])(hy:xK (fun x B=>S x B++(U x++[.cells [.ptr p 0],.loop .ready none e ps a bb])) (fun x B=>S x B++(UD x++[.cells [.ptr p 0],.loop .done (some J) e ps a bb])) (N+n+1) (sE v bl) P f)(hP:∀ t∈TL v bl,P t)(x:X)(A:List Ask)(K:KJ)(hT:∀ τ,(bF f (TL v bl) x).2=true->K none e (S (bF f (TL v bl) x).1 (jJ v bl f x A).1.2++(U (bF f (TL v bl) x).1++(.cells [.ptr p 0]::.dead::τ))))(hD:∀ τ,(bF f (TL v bl) x).2=false->K (some J) e (S (bF f (TL v bl) x).1 (jJ v bl f x A).1.2++(UD (bF f (TL v bl) x).1++(.cells [.ptr p 0]::.dead::τ)))):
  rK (K:=⟨K⟩) T (.rangeFunc (.t k) ps a bb) e (S x A++(U x++[.cells [.ptr p 0]])):=by
 have hrun:=pG (YJ hS hK hpl U UD n hU hUD ok okD e ps a bb .ready .done none (some J)) hv hb hy (fun a ha hl=>hP a (List.mem_filter.2 ⟨ha,hl⟩)) x A;rw[zP] at hrun;exact RU hS U UD n hU hUD J e k ps a bb 410 ek (bF f (TL v bl) x) (jJ v bl f x A).1.2 x A hrun K hT hD
abbrev Bst:={ l:List Int // l.length<=60 }×Bool
def n6(x:Bst):AV:=match x.2 with
 |true=>.lit [] true none
 |false=>ints x.1.1
theorem U8(x:Bst)(k:Nat):okV k (n6 x):=by
 obtain⟨l,b⟩:=x;cases b
 ·exact GA (iN l.1) k
 ·simp[n6,okV,okVs]
def AG{v:Voy}(hv:Vd v)(op:Nat)(x:Bst):Bst×Bool :=
 (if (x.2||dY (lst v.doors.length (mS op (fN v v.doors.length))) x.1.1)=true then (⟨lst v.doors.length (mS op (fN v v.doors.length)),Nat.le_trans (wV _ _) (Nat.le_trans hv.ndr (by omega))⟩,false) else x,true)
theorem J8{v:Voy}(hv:Vd v):∀ (l:List Nat) (x:Bst),((l.foldl (fun x op=>(AG hv op x).1) x).1.1,(l.foldl (fun x op=>(AG hv op x).1) x).2)=l.foldl (fun x op=>zF (lst v.doors.length (mS op (fN v v.doors.length))) x) (x.1.1,x.2)
 |[],x=>rfl
 |op::l,x=>by
  simp only[List.foldl_cons];rw[J8 hv l]
  congr 1
  simp only[AG,zF];split<;>rfl
def bU(s:Nat)(x:Bst):St:=[.cells [.int .i64 s],.cells [.bool x.2]]
theorem aHX(N s:Nat)(x:Bst)(y:ABlk)(hy:y∈bU s x)(k:Nat)(hk:N<=k):aL k y:=by
 simp only[bU,List.mem_cons,List.not_mem_nil,or_false] at hy;rcases hy with rfl|rfl<;>simp[aL,okVs,okV]
def bS(v:Voy)(x:Bst)(A:List Ask):St:=j6 [.cells (voyCells v),.cells [n6 x]] v A
theorem aRA(v:Voy)(x:Bst):MemAt (bS v x) (db v 0 4) (tEs v []) 5 4 6:=v4 [.cells (voyCells v),.cells [n6 x]] v
theorem aDS(v:Voy)(x:Bst)(A:List Ask)(y:Bst)(B:List Ask)(k i:Nat)(hk:6<=k)(hi:i<6):dA (bS v x A) (bS v y B) k i:=by
 match i,hi with
 |0,_=>exact .inl rfl
 |1,_=>exact .inr (.inl ⟨_,rfl,U8 y k,trivial⟩)
 |2,_=>exact .inl rfl
 |3,_=>exact .inl rfl
 |4,_=>exact .inr (.inl ⟨_,rfl,MJ v [] B k⟩)
 |5,_=>exact .inl rfl
theorem R5(x:Bst):bQ 1 (n6 x)=true:=by
 obtain⟨l,b⟩:=x;cases b<;>simp[n6,ints,bQ,AV.cells,AV.cell]
theorem BQ(v:Voy)(hf:Fits v):cY T 158 [gY v] (encLE (qN v)):=by
 refine aV (af:=XH) rfl (by simp[XH]) dd ?_
 (repeat (first|simp only[↓QA,QB,seval,eJ,XH]|refine rd0 rfl ?_))
 refine eH (kJ _ v 0 hf) ?_;simp only[fP,iZ,AD];by_cases h0:jA v=0
 ·obtain⟨ha,hne⟩:=kC h0;have hv:=vd_of_check ha;have hdr:=hv.ndr;have hs:=F0 hne;have hlaw:=NC hv hs;obtain⟨W,hW⟩:∃ W,(TL v []).foldl (fun x op=>(AG hv op x).1) (⟨[],by simp⟩,true)=W:=⟨_,rfl⟩;have hfd:=J8 hv (TL v []) (⟨[],by simp⟩,true);rw[hW] at hfd;have hW1:W.1.1=A6 v (truths v []):=by rw[<-hlaw,<-hfd]
  have hW2:W.2=false:=by
   have e:TL v []≠[]:=by
    intro e;have:=GN hv [];rw[e] at this;simp[someB,<-this] at hs
   have h2:=congrArg Prod.snd hfd;simp only at h2;rw[h2];cases hT:TL v [] with
   |nil=>exact absurd hT e
   |cons op l =>
    simp only[List.foldl_cons];have e1:zF (lst v.doors.length (mS op (fN v v.doors.length))) ([],true)=(lst v.doors.length (mS op (fN v v.doors.length)),false):=rfl;have e2:∀ (l:List Nat) (b:List Int),(l.foldl (fun x op=>zF (lst v.doors.length (mS op (fN v v.doors.length))) x) (b,false)).2=false:=by
     intro l
     induction l with
     |nil=>intro b;rfl
     |cons a l ih =>
      intro b;simp only[List.foldl_cons];have:∃ c,zF (lst v.doors.length (mS a (fN v v.doors.length))) (b,false)=(c,false):=by
       simp only[zF];split
       ·exact⟨_,rfl⟩
       ·exact⟨_,rfl⟩
      obtain⟨c,hc⟩:=this;rw[hc,ih]
    rw[e1,e2]
  have hm:qN v=(W.1.1,0):=by rw[qN,if_pos h0,hW1]
  have hgo:bF (AG hv) (TL v []) (⟨[],by simp⟩,true)=(W,true):=by rw[wL (fun _ _=>rfl),hW]
  have hWa:n6 W=ints W.1.1:=by simp only[n6,hW2]
  obtain⟨SU,hSU⟩:∃ SU,fN v v.doors.length=SU:=⟨_,rfl⟩;have hSl:SU<16:=by rw[<-hSU];exact Nat.lt_of_lt_of_le (uN v _) (show 2^v.doors.length<=2^4 from Nat.pow_le_pow_right (by omega) hdr)
  rw[if_pos h0,if_pos h0,hm];have hR:=aRA v;have hrng:=D7 hR (aDS v) (by omega) hv MM (bU SU) (bU SU) 2 (fun _=>rfl) (fun _=>rfl) (aHX _ SU) (aHX _ SU) .ret (P:=fun t=>t<16) (f:=AG hv);simp only[bS,j6] at hrng ⊢;simp only[cW] at hrng
  (repeat (first|simp only[↓QA,QB,seval,eJ,show ((0:Int)==0)=true from rfl]|refine rd0 rfl ?_))
  refine cI (S:=Nat) 0 (fun k=>k<=v.doors.length) (fun k=>v.doors.length-k)
   (fun k=>[(1,.ptr 0 0),(2,.ptr 1 0),(4,.ptr 5 0),(5,.ptr 6 0),(20,.lit (v.doors.map encDoor) false none),(21,.int .i64 v.doors.length),(22,.int .i64 k)])
   (fun k=>[.cells (voyCells v),.cells [.lit [] true none],.cells (voyCells v),.cells (voyCells v),.map (tEs v [] (pB v)),.cells (db v 0 4),.cells [.int .i64 (fN v k:Int)]]) (Nat.zero_le _) (by simp[voyCells,ints,fN]) ?_ fun k hk=>?_
  ·try simp only[aB,QE,seval,eJ]
   try simp
  ·(repeat (first|simp only[↓QA,QB,seval,eJ,ZT]|refine rd0 rfl ?_))
   refine aE (fun hd=>?_) fun hd=>?_
   ·have hk1:k<v.doors.length:=by simpa using hd
    have hw:=bR hk1 (by omega);have hse:pX v (k:Int)=v.doors[k].sure:=EU hk1;obtain⟨y,hye⟩:∃ y,v.doors[k]=y:=⟨_,rfl⟩;rw[hye] at hse;have hst:fN v (k+1)=fN v k|||(if pX v (k:Int)=true then 2^k else 0):=rfl;rw[hse] at hst;have hp2:2^k<=2^4:=Nat.pow_le_pow_right (by omega) (by omega);have hul:=uN v k;have hsh:=vN k (by omega);have hor:=JS (fN v k) (2^k) (by omega) (by omega);cases hys:y.sure
    ·rw[hys] at hst;simp only[Bool.false_eq_true,if_false,Nat.or_zero] at hst
     (repeat (first|simp only[↓QA,QB,seval,eJ,hk1,hye,hys,show (false==true)=false from rfl,Bool.and_false]|refine rd0 rfl ?_))
     refine⟨k+1,by omega,by omega,?_⟩;try simp only[aB,QE,seval,eJ,hw,hst]
     try simp[aL,okVs,okV]
    ·rw[hys] at hst;simp only[if_true] at hst
     (repeat (first|simp only[↓QA,QB,seval,eJ,hk1,hye,hys,show (true==true)=true from rfl,hsh,hor]|refine rd0 rfl ?_))
     refine⟨k+1,by omega,by omega,?_⟩;try simp only[aB,QE,seval,eJ,hw,hst]
     try simp[aL,okVs,okV]
   ·have hk1:k=v.doors.length:=by simp at hd;omega
    rw[hk1,hSU]
    (repeat (first|simp only[↓QA,QB,seval,eJ]|refine rd0 rfl ?_))
    refine qJ rfl (by simp[D3]) ?_
    (repeat (first|simp only[↓QA,QB,seval,eJ,D3]|refine rd0 rfl ?_))
    refine hrng _ 38 [39,40] _ _ ?_ ?_ (fun t ht=>(aBM hv t ht).1) (⟨[],by simp⟩,true) (pB v) _ ?_ ?_
    ·try simp only[aB,QE,seval,eJ]
    ·refine M2 hR (bU SU) (bU SU) 2 (fun _=>rfl) (fun _=>rfl) .ret _ _ (sE v []) (fun _ _ _=>rfl) _ _ ?_;intro t ht fl tk x B τ;have hnot:=aB2 t SU (by omega) (by omega);have hal:=P2 t SU;have hlo:=rE (mS t SU) v.doors.length (by omega) (by omega);have hll:=wV v.doors.length (mS t SU);have hbs:AG hv t x=(if (x.2||dY (lst v.doors.length (mS t SU)) x.1.1)=true then (⟨lst v.doors.length (mS t SU),Nat.le_trans (wV _ _) (Nat.le_trans hv.ndr (by omega))⟩,false) else x,true):=by
      rw[<-hSU];rfl
     obtain⟨r,hr⟩:∃ r,AG hv t x=r:=⟨_,rfl⟩;rw[hr] at hbs ⊢;have hcb:=R5 x;obtain⟨⟨l,hl⟩,fst⟩:=x;simp only[iQ,sE,bS,j6,bU,cW]
     (repeat (first|simp only[↓QA,QB,seval,eJ,XR,hnot]|refine rd0 rfl ?_))
     ((first|refine aC (hlo) rfl dd ?_|refine aJ (hlo) rfl dd ?_);(repeat (first|simp only[↓QA,QB,seval,eJ]|refine rd0 rfl ?_)))
     cases fst
     ·have hx:n6 (⟨l,hl⟩,false)=ints l:=rfl;rw[hx] at hcb ⊢
      (repeat (first|simp only[↓QA,QB,seval,eJ,hcb]|refine rd0 rfl ?_))
      ((first|refine aC (y7 (lst v.doors.length (mS t SU)) l (by omega) (by omega)) rfl dd ?_|refine aJ (y7 (lst v.doors.length (mS t SU)) l (by omega) (by omega)) rfl dd ?_);(repeat (first|simp only[↓QA,QB,seval,eJ]|refine rd0 rfl ?_)))
      cases hfw:dY (lst v.doors.length (mS t SU)) l
      ·simp only[Bool.false_or,hfw,Bool.false_eq_true,if_false] at hbs;subst hbs
       (repeat (first|simp only[↓QA,QB,seval,eJ,hcb]|refine rd0 rfl ?_))
       exact .inl ⟨[],by simp[hx,ints]⟩
      ·simp only[Bool.false_or,hfw,if_true] at hbs;subst hbs
       (repeat (first|simp only[↓QA,QB,seval,eJ,hcb]|refine rd0 rfl ?_))
       exact .inl ⟨[],by simp[n6,ints]⟩
     ·simp only[Bool.true_or,if_true] at hbs;subst hbs
      (repeat (first|simp only[↓QA,QB,seval,eJ,hcb]|refine rd0 rfl ?_))
      exact .inl ⟨[],by simp[n6,ints]⟩
    ·intro τ h2;rw[hgo];simp only[bU,hWa]
     (repeat (first|simp only[↓QA,QB,seval,eJ,encLE]|refine rd0 rfl ?_))
    ·intro τ h2;rw[hgo] at h2;cases h2
 ·have h0':(jA v==0)=false:=by simpa using h0
  have hm:qN v=([],jA v):=by rw[qN,if_neg h0]
  rw[if_neg h0,if_neg h0,hm]
  (repeat (first|simp only[↓QA,QB,seval,eJ,h0',encLE]|refine rd0 rfl ?_))
  try rfl
end Go.Am.Room.Do
namespace Go.Am.Room.Do
def dE:=zz @encVoy_eq (zz @cW (zz @gI (zz @cZ (zz @cX (zz @aN (zz @gU (zz @dL (zz @S_mapLook (zz @List.length_append.{0} (zz @dR (zz @rR (zz @Nat.add_lt_add_iff_left (zz @Nat.lt_add_right_iff_pos (zz @Nat.mul_one (zz @Int.toNat_natCast (zz @mH (zz @nM (zz @nI (zz @lJ (@rP))))))))))))))))))))
def spH(hs:List Int):Nat->Int×Int
 |0=>(-1,(hs.length:Int))
 |k+1=>(dF hs k,fW hs (dF hs k))
theorem U3(hs:List Int)(k:Nat):0<=dF hs k:=(wS hs k).1.1
theorem V7(hs:List Int)(k:Nat):spH hs (k+1)=if (spH hs k).1<0\/fW hs (k:Int)<(spH hs k).2 then ((k:Int),fW hs (k:Int)) else spH hs k:=by
 cases k with
 |zero=>rw[if_pos (.inl (show (-1:Int)<0 by decide))];rfl
 |succ j =>
  have h0:=U3 hs j;by_cases h3:fW hs ((j:Int)+1)<fW hs (dF hs j)
  ·have e:dF hs (j+1)=(j:Int)+1:=by simp only[dF];rw[if_pos h3]
   rw[if_pos (.inr (show fW hs ((j+1:Nat):Int)<fW hs (dF hs j) from h3))];show (dF hs (j+1),fW hs (dF hs (j+1)))=_
   rw[e];rfl
  ·have e:dF hs (j+1)=dF hs j:=by simp only[dF];rw[if_neg h3]
   rw[if_neg (show ¬((spH hs (j+1)).1<0\/fW hs ((j+1:Nat):Int)<(spH hs (j+1)).2) from fun h=>h.elim (fun h=>absurd (show dF hs j<0 from h) (by omega)) h3)];show (dF hs (j+1),fW hs (dF hs (j+1)))=_
   rw[e];rfl
theorem uU(v:Voy)(n:Int)(hf:Fits v):cY T 159 [gY v,.int .i64 n] (enc3 (rQ v n)):=by
 refine aV (af:=aBF) rfl (by simp[aBF]) dd ?_
 (repeat (first|simp only[↓QA,QB,reduceLT,reduceIte,reduceEqDiff,reduceAdd,reduceLeDiff,reduceMul,Nat.reduceBEq,dE,aBF]|refine rd0 rfl ?_))
 refine eH (kJ _ v n hf) ?_;simp only[fP,iZ];by_cases h0:lotErr v n=0
 ·obtain⟨ha,hne⟩:=kC h0;obtain⟨hv,hn0,hn1⟩:=tV ha;have hhr:=hv.hours;obtain⟨N,rfl⟩:∃ N:Nat,n=N:=⟨n.toNat,by omega⟩;have hN:N<v.lots.toNat:=by omega
  have hm:rQ v N=tW v (vA v (truths v []) N):=by rw[rQ,if_pos h0,Int.toNat_natCast]
  have hal:=B4 (v4 [.cells (voyCells v)] v) hv MM N hN (pB v);have hlen:=J5 hv hN;have hlv:=fun a ha=>NF hv hN (a:=a) ha
  have hcl:=IU (jZ v N) 26;obtain⟨F,hF⟩:∃ F,jZ v N=F:=⟨_,rfl⟩;obtain⟨A,hA⟩:∃ A,rD hv N (pB v)=A:=⟨_,rfl⟩;obtain⟨hs,hhs⟩:∃ hs,vA v (truths v []) N=hs:=⟨_,rfl⟩;rw[hA,hF] at hal;rw[hF,hhs] at hlen hlv;rw[hF] at hcl;rw[hhs] at hm;obtain⟨C,hC⟩:∃ C,rL F 26=C:=⟨_,rfl⟩;rw[hC] at hlen hlv hcl;rw[if_pos h0,if_pos h0,hm];simp only[j6] at hal ⊢;try simp only[↓QA,QB,reduceLT,reduceIte,reduceEqDiff,reduceAdd,reduceLeDiff,reduceMul,Nat.reduceBEq,dE] at hal
  (repeat (first|simp only[↓QA,QB,reduceLT,reduceIte,reduceEqDiff,reduceAdd,reduceLeDiff,reduceMul,Nat.reduceBEq,dE,show ((0:Int)==0)=true from rfl]|refine rd0 rfl ?_))
  refine eH hal ?_
  (repeat (first|simp only[↓QA,QB,reduceLT,reduceIte,reduceEqDiff,reduceAdd,reduceLeDiff,reduceMul,Nat.reduceBEq,dE]|refine rd0 rfl ?_))
  refine vM 8 1 [] rfl ?_;refine cI (S:=Nat×Bool) (0,false) (fun a=>a.1<=26) (fun a=>26-a.1)
   (fun a=>[(2,.ptr 0 0),(8,.lit ((rL F a.1).map (.int .i64)) false (some 5)),(27,.agg (eS F)),(28,.int .i64 a.1)])
   (fun a=>[.cells (voyCells v),.cells (voyCells v),.cells (voyCells v),.map (tEs v [] A),.cells (db v 0 3),.tok 1 (rL F a.1).length a.2]) (Nat.zero_le _) (by simp[voyCells,ints,rL,aM]) ?_ fun a hk=>?_
  ·try simp only[aB,QE,reduceLT,reduceIte,reduceEqDiff,reduceAdd,reduceLeDiff,reduceMul,Nat.reduceBEq,dE,rL,aM,List.filter_nil,List.map_nil]
   try simp
  ·obtain⟨k,ex⟩:=a;simp only at hk
   (repeat (first|simp only[↓QA,QB,reduceLT,reduceIte,reduceEqDiff,reduceAdd,reduceLeDiff,reduceMul,Nat.reduceBEq,dE,WQ]|refine rd0 rfl ?_))
   refine aE (fun hd=>?_) fun hd=>?_
   ·have hk1:k<26:=by simp at hd;omega
    have hw:=bR hk1 (by omega);have i1:(0:Int)<=(k:Int)/\(k:Int)<((26:Nat):Int):=⟨by omega,by omega⟩;have hg:=mL F hk1;have hst:=TE F k;have hln:=IU F k;have ap:=fun (b0 b1 b2 b3 b4:ABlk) (τ:St)=>qM (σ:=b0::b1::b2::b3::b4::.tok 1 (rL F k).length ex::τ) (t:=5) (ex:=ex) (sz:=1) (b:=8) (xs:=(rL F k).map (.int .i64)) (ys:=[.int .i64 k]) (f:=true) (tk:=none) ⟨kX _,by simp[aH,AV.cells,AV.cell],by simp[room];omega,by simp[room];omega⟩ (by simp) (rL F k).length (by simp) rfl
    cases h1:(((F k:Nat):Int)==0)
    ·have h1':F k≠0:=by simp at h1;omega
     rw[if_pos h1'] at hst
     (repeat (first|simp only[↓QA,QB,reduceLT,reduceIte,reduceEqDiff,reduceAdd,reduceLeDiff,reduceMul,Nat.reduceBEq,dE,i1,hg,h1,PM,ap]|refine rd0 rfl ?_))
     refine⟨(k+1,true),by simp only;omega,by simp only;omega,?_⟩;try simp only[aB,QE,reduceLT,reduceIte,reduceEqDiff,reduceAdd,reduceLeDiff,reduceMul,Nat.reduceBEq,dE,hw,hst,List.map_append,List.map_cons,List.map_nil,List.length_append]
     try simp[aL,okVs,okV]
    ·have h1':¬F k≠0:=by simp at h1;omega
     rw[if_neg h1',List.append_nil] at hst
     (repeat (first|simp only[↓QA,QB,reduceLT,reduceIte,reduceEqDiff,reduceAdd,reduceLeDiff,reduceMul,Nat.reduceBEq,dE,i1,hg,h1,PM]|refine rd0 rfl ?_))
     refine⟨(k+1,ex),by simp only;omega,by simp only;omega,?_⟩;try simp only[aB,QE,reduceLT,reduceIte,reduceEqDiff,reduceAdd,reduceLeDiff,reduceMul,Nat.reduceBEq,dE,hw,hst]
     try simp[aL,okVs,okV]
   ·have hk1:k=26:=by simp at hd;omega
    subst hk1;rw[hC];cases h1:((C.length:Int)==1)
    ·have h1':¬hs.length=1:=by rw[<-hlen];intro e;rw[e] at h1;simp at h1
     have hsp:tW v hs=(dF hs v.hours.toNat,fW hs (dF hs v.hours.toNat),0):=by rw[tW,if_neg h1']
     obtain⟨H,hH⟩:∃ H:Nat,v.hours=(H:Int):=⟨v.hours.toNat,by omega⟩;have hHn:v.hours.toNat=H:=by omega
     have hwH:IntKind.i64.wrap ((H:Int)+1)=((H+1:Nat):Int):=bR (show H<H+1 by omega) (by omega);have hC0:((C.length:Nat):Int)=(spH hs 0).2:=by simp only[spH];omega
     rw[hsp,hHn]
     (repeat (first|simp only[↓QA,QB,reduceLT,reduceIte,reduceEqDiff,reduceAdd,reduceLeDiff,reduceMul,Nat.reduceBEq,dE,h1,hH,hwH]|refine rd0 rfl ?_))
     refine cI (S:=Nat) 0 (fun k=>k<=H+1) (fun k=>H+1-k)
      (fun k=>[(4,.int .i64 (spH hs k).1),(5,.int .i64 (spH hs k).2),(8,.lit (C.map (.int .i64)) false (some 5)),(46,.int .i64 ((H+1:Nat):Int)),(47,.int .i64 k)])
      (fun _=>[.cells (voyCells v),.cells (voyCells v),.cells (voyCells v),.map (tEs v [] A),.cells (db v 0 3),.tok 1 C.length ex]) (Nat.zero_le _) (by simp[voyCells,ints,hH]) ?_ fun k hk=>?_
     ·try simp only[aB,QE,reduceLT,reduceIte,reduceEqDiff,reduceAdd,reduceLeDiff,reduceMul,Nat.reduceBEq,dE,<-hC0]
      try simp[spH]
     ·obtain⟨s,hse⟩:∃ s,spH hs k=s:=⟨_,rfl⟩;rw[hse]
      (repeat (first|simp only[↓QA,QB,reduceLT,reduceIte,reduceEqDiff,reduceAdd,reduceLeDiff,reduceMul,Nat.reduceBEq,dE,V0]|refine rd0 rfl ?_))
      refine aE (fun hd2=>?_) fun hd2=>?_
      ·have hk2:k<H+1:=by simp at hd2;omega
       have hw:=bR hk2 (by omega);have hlvk:=hlv (k:Int) (by omega);obtain⟨q,hq⟩:∃ q:Int->Bool,(fun h=>decide (h<=(k:Int)))=q:=⟨_,rfl⟩;have hqd:∀ x,q x=decide (x<=(k:Int)):=fun x=>by rw[<-hq]
       rw[hq] at hlvk
       (repeat (first|simp only[↓QA,QB,reduceLT,reduceIte,reduceEqDiff,reduceAdd,reduceLeDiff,reduceMul,Nat.reduceBEq,dE]|refine rd0 rfl ?_))
       refine cI (S:=Nat) 0 (fun i=>i<=C.length) (fun i=>C.length-i)
        (fun i=>[(4,.int .i64 s.1),(5,.int .i64 s.2),(8,.lit (C.map (.int .i64)) false (some 5)),(11,.int .i64 k),(12,.int .i64 (((C.take i).filter q).length:Int)),(46,.int .i64 ((H+1:Nat):Int)),(47,.int .i64 k),(50,.lit (C.map (.int .i64)) false (some 5)),(51,.int .i64 C.length),(52,.int .i64 i)])
        (fun _=>[.cells (voyCells v),.cells (voyCells v),.cells (voyCells v),.map (tEs v [] A),.cells (db v 0 3),.tok 1 C.length ex]) (Nat.zero_le _) (by simp[voyCells,ints]) ?_ fun i hi=>?_
       ·try simp only[aB,QE,reduceLT,reduceIte,reduceEqDiff,reduceAdd,reduceLeDiff,reduceMul,Nat.reduceBEq,dE,List.take_zero,List.filter_nil]
        try simp
       ·have hfl:((C.take i).filter q).length<=C.length:=Nat.le_trans (List.length_filter_le _ _) (by simp;omega)
        (repeat (first|simp only[↓QA,QB,reduceLT,reduceIte,reduceEqDiff,reduceAdd,reduceLeDiff,reduceMul,Nat.reduceBEq,dE,VD]|refine rd0 rfl ?_))
        refine aE (fun hd3=>?_) fun hd3=>?_
        ·have hi1:i<C.length:=by simpa using hd3
         have hwi:=bR hi1 (by omega);have hst:((C.take (i+1)).filter q).length=((C.take i).filter q).length+(if q C[i]=true then 1 else 0):=by
          rw[List.take_add_one,List.getElem?_eq_getElem hi1];simp only[Option.toList_some,List.filter_append,List.length_append,List.filter_cons,List.filter_nil];split<;>rfl
         obtain⟨x,hx⟩:∃ x,C[i]=x:=⟨_,rfl⟩;obtain⟨c,hce⟩:∃ c,((C.take i).filter q).length=c:=⟨_,rfl⟩;rw[hx,hce,hqd] at hst;rw[hce] at hfl;have hwc:IntKind.i64.wrap ((c:Int)+1)=((c+1:Nat):Int):=bR (show c<c+1 by omega) (by omega);rw[hce];cases h2:decide (x<=(k:Int))
         ·rw[h2] at hst;simp only[Bool.false_eq_true,if_false,Nat.add_zero] at hst
          (repeat (first|simp only[↓QA,QB,reduceLT,reduceIte,reduceEqDiff,reduceAdd,reduceLeDiff,reduceMul,Nat.reduceBEq,dE,hi1,hx,h2]|refine rd0 rfl ?_))
          refine⟨i+1,by omega,by omega,?_⟩;try simp only[aB,QE,reduceLT,reduceIte,reduceEqDiff,reduceAdd,reduceLeDiff,reduceMul,Nat.reduceBEq,dE,hwi,hst]
          try simp[aL,okVs,okV]
         ·rw[h2] at hst;simp only[if_true] at hst
          (repeat (first|simp only[↓QA,QB,reduceLT,reduceIte,reduceEqDiff,reduceAdd,reduceLeDiff,reduceMul,Nat.reduceBEq,dE,hi1,hx,h2,hwc]|refine rd0 rfl ?_))
          refine⟨i+1,by omega,by omega,?_⟩;try simp only[aB,QE,reduceLT,reduceIte,reduceEqDiff,reduceAdd,reduceLeDiff,reduceMul,Nat.reduceBEq,dE,hwi,hst]
          try simp[aL,okVs,okV]
        ·have hi1:i=C.length:=by simp at hd3;omega
         rw[hi1,List.take_length];rw[hi1,List.take_length] at hfl;obtain⟨c,hce⟩:∃ c,(C.filter q).length=c:=⟨_,rfl⟩;rw[hce] at hlvk hfl ⊢;have hwm:IntKind.i64.wrap ((C.length:Int)-(c:Int))=(C.length:Int)-(c:Int):=bZ ⟨by omega,by omega⟩;have hnx:spH hs (k+1)=if s.1<0\/fW hs k<s.2 then ((k:Int),fW hs k) else s:=by
          rw[V7,hse]
         obtain⟨lv,hle⟩:∃ lv,fW hs (k:Int)=lv:=⟨_,rfl⟩;rw[hle] at hnx hlvk;cases h2:decide (s.1<0)
         ·have h2':¬s.1<0:=by simpa using h2
          cases h3:decide (lv<s.2)
          ·have h3':¬lv<s.2:=by simpa using h3
           rw[if_neg (by rintro (h|h)<;>omega)] at hnx
           (repeat (first|simp only[↓QA,QB,reduceLT,reduceIte,reduceEqDiff,reduceAdd,reduceLeDiff,reduceMul,Nat.reduceBEq,dE,hwm,h2,yN,<-hlvk,h3]|refine rd0 rfl ?_))
           refine⟨k+1,by omega,by omega,?_⟩;try simp only[aB,QE,reduceLT,reduceIte,reduceEqDiff,reduceAdd,reduceLeDiff,reduceMul,Nat.reduceBEq,dE,hw,hnx]
           try simp[aL,okVs,okV]
          ·have h3':lv<s.2:=by simpa using h3
           rw[if_pos (.inr h3')] at hnx
           (repeat (first|simp only[↓QA,QB,reduceLT,reduceIte,reduceEqDiff,reduceAdd,reduceLeDiff,reduceMul,Nat.reduceBEq,dE,hwm,h2,yN,<-hlvk,h3]|refine rd0 rfl ?_))
           refine⟨k+1,by omega,by omega,?_⟩;try simp only[aB,QE,reduceLT,reduceIte,reduceEqDiff,reduceAdd,reduceLeDiff,reduceMul,Nat.reduceBEq,dE,hw,hnx]
           try simp[aL,okVs,okV]
         ·have h2':s.1<0:=by simpa using h2
          rw[if_pos (.inl h2')] at hnx
          (repeat (first|simp only[↓QA,QB,reduceLT,reduceIte,reduceEqDiff,reduceAdd,reduceLeDiff,reduceMul,Nat.reduceBEq,dE,hwm,h2,yN,<-hlvk]|refine rd0 rfl ?_))
          refine⟨k+1,by omega,by omega,?_⟩;try simp only[aB,QE,reduceLT,reduceIte,reduceEqDiff,reduceAdd,reduceLeDiff,reduceMul,Nat.reduceBEq,dE,hw,hnx]
          try simp[aL,okVs,okV]
      ·have hk2:k=H+1:=by simp at hd2;omega
       subst hk2;subst hse
       (repeat (first|simp only[↓QA,QB,reduceLT,reduceIte,reduceEqDiff,reduceAdd,reduceLeDiff,reduceMul,Nat.reduceBEq,dE,spH,enc3]|refine rd0 rfl ?_))
    ·have h1':hs.length=1:=by simp at h1;omega
     have hsp:tW v hs=(0,0,9):=by rw[tW,if_pos h1']
     rw[hsp]
     (repeat (first|simp only[↓QA,QB,reduceLT,reduceIte,reduceEqDiff,reduceAdd,reduceLeDiff,reduceMul,Nat.reduceBEq,dE,h1,enc3]|refine rd0 rfl ?_))
 ·have h0':(lotErr v n==0)=false:=by simpa using h0
  have hm:rQ v n=(0,0,lotErr v n):=by rw[rQ,if_neg h0]
  rw[if_neg h0,if_neg h0,hm]
  (repeat (first|simp only[↓QA,QB,reduceLT,reduceIte,reduceEqDiff,reduceAdd,reduceLeDiff,reduceMul,Nat.reduceBEq,dE,h0',enc3]|refine rd0 rfl ?_))
end Go.Am.Room.Do
namespace Go.Am.Room
variable {α:Type}
def vD(c:α->List AV):List α->List AV
 |[]=>[]
 |y::l=>c y++vD c l
structure Cells (enc:α->AV) (c:α->List AV) (sz:Nat):Prop where
 agg:∀ x,enc x = .agg (c x)
 len:∀ x,(c x).length=sz
 one:sz≠1/\sz≠0
 cell:∀ x,(c x).all (·.cell)=true
 data:∀ x,jU (enc x)
variable {enc:α->AV} {c:α->List AV} {sz:Nat}
theorem EH(h:Cells enc c sz):∀ l,(vD c l).length=l.length*sz
 |[]=>by simp[vD]
 |y::l=>by simp only[vD,List.length_append,h.len,List.length_cons,EH h l,Nat.add_mul];omega
theorem EM(h:Cells enc c sz):∀ l:List α,(l.map enc).flatMap AV.cells=vD c l
 |[]=>rfl
 |y::l=>by rw[List.map_cons,List.flatMap_cons,EM h l,h.agg];rfl
theorem TV(h:Cells enc c sz)(l:List α):aH sz (l.map enc)=true:=vJ sz enc l fun y=>by
 rw[h.agg];simp only[bQ,AV.cells,h.len,beq_self_eq_true,Bool.true_and];exact h.cell y
theorem DJ(h:Cells enc c sz)(m:Nat)(hc:∀ x,okVs m (c x)):∀ l,okVs m (vD c l)
 |[]=>trivial
 |y::l=>KM (hc y) (DJ h m hc l)
end Go.Am.Room
namespace Go.Am.Room.Do
def dO:=zz @encVoy_eq (zz @cW (zz @gI (zz @cZ (zz @cX (zz @aN (zz @gU (zz @dL (zz @S_mapLook (zz @List.length_append.{0} (zz @dR (zz @rR (zz @Nat.add_lt_add_iff_left (zz @Nat.lt_add_right_iff_pos (zz @Nat.mul_one (@Int.toNat_natCast)))))))))))))))
def B6(x:Look):List AV:=[.int .i64 x.lot,.int .i64 x.hour,.bool x.turned]
theorem xP:Cells encLook B6 3:=⟨fun x=>by simp only[encLook,B6],fun x=>rfl,by decide,fun x=>rfl,data_look⟩
theorem S9(m:Nat)(x:Look):okVs m (B6 x):=⟨trivial,trivial,trivial,trivial⟩
def LE:List AV:=[.int .i64 0,.int .i64 0,.bool false]
theorem MA(b0:ABlk)(l:List Look):rA 3 [b0,.cells (List.replicate l.length LE).flatten] (.ref 1 0 l.length 3) (.lit (l.map encLook) false none)=some (.int .i64 l.length,[b0,.cells (vD B6 l)]):=by
 have h1:aH 3 (l.map encLook)=true:=TV xP l;have h2:(l.map encLook).take l.length=l.map encLook:=List.take_of_length_le (by simp);have h3:=EH xP l;have h4:((List.replicate l.length LE).flatten).length=l.length*3:=by simp[LE]
 have h5:eP (List.replicate l.length LE).flatten 0 (vD B6 l)=some (vD B6 l):=by
  simp only[eP];rw[if_pos (by omega),List.drop_of_length_le (by omega)];simp
 have h6:=EM xP l;simp[rA,kS,sC,h1,aO,h2,h5,h6]
def CR(σ:St)(v:Voy)(b:Nat)(bl:List Int)(A:List Ask):St:=σ++[.cells (voyCells v),.map (tEs v bl A),.cells (db v b (σ.length+1))]
theorem aGW(σ:St)(v:Voy)(b:Nat)(bl:List Int):MemAt (CR σ v b bl) (db v b (σ.length+1)) (tEs v bl) (σ.length+2) (σ.length+1) (σ.length+3) :=
 ⟨fun M=>by simp[CR],fun M=>by simp[CR,n8,Q3,Q9],fun M=>by rw[CR,tO];rfl,fun M M'=>by rw[CR,CR,mW];rfl,fun A k=>MJ v bl A k,by omega,by omega⟩
theorem pwrong_ok(v:Voy)(hf:Fits v):cY T 41 [gY v] (encLE (wrongOf v)):=by
 refine aV (af:=a41) rfl (by simp[a41]) dd ?_;try simp only[↓QA,QB,seval,dO,a41]
 (refine aC (check_ok v hf) rfl dd ?_;try simp only[↓QA,QB,seval,dO,enc3])
 cases h0:((check v).2.2==0)
 ·have h0':(check v).2.2≠0:=by simpa using h0
  have hwo:wrongOf v=([],(check v).2.2):=if_neg h0';rw[hwo];try simp only[↓QA,QB,seval,dO,h0,encLE]
  try rfl
 ·have h0':(check v).2.2=0:=by simpa using h0
  have hwo:wrongOf v=(wrongL v,0):=if_pos h0';have hv:=vd_of_check h0';have hnl:=hv.nlk;have hwf:=zT hv;rw[<-aMO _ _ (by omega)] at hwf;rw[hwo];obtain⟨W,hW⟩:∃ W,wrongL v=W:=⟨_,rfl⟩;rw[hW] at hwf ⊢;have hcp:=fun b0=>MA b0 v.looks
  obtain⟨LC,hLC⟩:∃ LC,vD B6 v.looks=LC:=⟨_,rfl⟩;have hLCo:∀ k,okVs k LC:=fun k=>by rw[<-hLC];exact DJ xP k (S9 k) v.looks
  rw[hLC] at hcp;obtain⟨n,hn⟩:∃ n,v.looks.length=n:=⟨_,rfl⟩;rw[hn] at hcp hwf hnl;have hmk:qZ 24 (.int .i64 n) (.int .i64 n)=some n:=by simp[qZ,room];omega
  have hp:2^n<=2^5:=Nat.pow_le_pow_right (by omega) hnl;have hshl:=vN n (by omega);obtain⟨P,hP⟩:∃ P,2^n=P:=⟨_,rfl⟩;have hbl:∀ s,s<P->ButIs s (lst n s):=fun s hs=>aES hnl (by omega)
  rw[hP] at hp hshl hwf;simp only[LE] at hcp;obtain⟨q,hq⟩:∃ q,someB v=q:=⟨_,rfl⟩;have hqd:∀ l,(!(truths v l).isEmpty)=q l:=fun l=>by rw[<-hq];rfl
  rw[hq] at hwf;try simp only[↓QA,QB,seval,dO,h0,hn,hmk,hcp,hshl]
  refine cI (S:=Nat×Option (List Int)) (0,none) (fun x=>x.1<=P/\nF q n (P-x.1) x.1 x.2=some W/\(x.2.getD []).length<=n/\∀ b,x.2=some b->q b=true) (fun x=>P-x.1)
   (fun x=>[(1,.ptr 0 0),(2,ints (x.2.getD [])),(4,.ref 1 0 n 3),(5,.bool x.2.isSome),(27,.int .i64 P),(28,.int .i64 x.1)])
   (fun x=>[.cells (voyCells v),.cells LC]) ⟨by simp,by simpa using hwf,by simp,fun b hb=>by cases hb⟩ (by simp[voyCells,ints]) ?_ fun x hx=>?_
  ·try simp only[aB,QE,seval,dO,ints,dQ (show 1<2 by omega)]
   try simp[clr,clrs]
  ·obtain⟨s,o⟩:=x;obtain⟨hs,hfo,hol,hob⟩:=hx;simp only at hs hfo hol hob;try simp only[↓QA,QB,seval,dO,aHF]
   refine aE (fun h=>?_) fun h=>?_
   ·have hs1:s<P:=by simpa using h
    have hw:=bR hs1 (by omega);have hll:=wV n s;have hso:=uV (aGW [.cells (voyCells v),.cells LC] v s (lst n s)) hv (hbl s hs1) [];have hlk:=wG [.cells (voyCells v),.cells LC] v s;have hlo:=rE s n (by omega) (by omega);rw[hqd] at hso;rw[show P-s=(P-(s+1))+1 by omega] at hfo;simp only[nF] at hfo;rw[<-XG q o _ hob] at hfo;obtain⟨L,hL⟩:∃ L,lst n s=L:=⟨_,rfl⟩;rw[hL] at hfo hll hso hlo;have e0:tEs v L []=[]:=rfl;simp only[CR,pS,e0] at hso hlk;try simp only[↓QA,QB,seval,dO] at hso hlk
    try simp only[↓QA,QB,seval,dO,Option.getD_some]
    (refine aC (hlo) rfl dd ?_;try simp only[↓QA,QB,seval,dO])
    cases o with
    |none =>
     have hst:Q6 q none L=if q L=true then some L else none:=rfl
     try simp only[↓QA,QB,seval,dO,Option.isSome_none,Option.getD_none]
     refine eH hlk ?_;try simp only[↓QA,QB,seval,dO]
     refine eH hso ?_;cases hqL:q L
     ·rw[hqL] at hst;simp only[Bool.false_eq_true,if_false] at hst;rw[hst] at hfo;try simp only[↓QA,QB,seval,dO,hw]
      refine⟨(s+1,none),⟨by simp only;omega,hfo,by simp,fun b hb=>by cases hb⟩,by simp only;omega,?_⟩;try simp only[aB,QE,seval,dO,hw,dQ (show 1<2 by omega)]
      try simp[ints,aL,hLCo]
     ·rw[hqL] at hst;simp only[if_true] at hst;rw[hst] at hfo;try simp only[↓QA,QB,seval,dO,hw]
      refine⟨(s+1,some L),⟨by simp only;omega,hfo,by simpa using hll,fun b hb=>by cases hb;exact hqL⟩,by simp only;omega,?_⟩;try simp only[aB,QE,seval,dO,hw,dQ (show 1<2 by omega)]
      try simp[ints,aL,hLCo]
    |some b =>
     simp only[Option.getD_some] at hol;have hst:Q6 q (some b) L=if (dY L b&&q L)=true then some L else some b:=rfl
     simp only[Option.isSome_some,Option.getD_some];try simp only[↓QA,QB,seval,dO,Option.isSome_some,Option.getD_some]
     (refine aC (y7 L b (by omega) (by omega)) rfl dd ?_;try simp only[↓QA,QB,seval,dO,Option.isSome_some,Option.getD_some])
     cases hfw:dY L b
     ·rw[hfw] at hst;simp only[Bool.false_and,Bool.false_eq_true,if_false] at hst;rw[hst] at hfo;try simp only[↓QA,QB,seval,dO,hw,Option.isSome_some,Option.getD_some]
      refine⟨(s+1,some b),⟨by simp only;omega,hfo,by simpa using hol,hob⟩,by simp only;omega,?_⟩;try simp only[aB,QE,seval,dO,hw,dQ (show 1<2 by omega)]
      try simp[ints,aL,hLCo]
     ·rw[hfw,Bool.true_and] at hst;try simp only[↓QA,QB,seval,dO,Option.isSome_some,Option.getD_some]
      refine eH hlk ?_;try simp only[↓QA,QB,seval,dO,Option.isSome_some,Option.getD_some]
      refine eH hso ?_;cases hqL:q L
      ·rw[hqL] at hst;simp only[Bool.false_eq_true,if_false] at hst;rw[hst] at hfo;try simp only[↓QA,QB,seval,dO,hw,Option.isSome_some,Option.getD_some]
       refine⟨(s+1,some b),⟨by simp only;omega,hfo,by simpa using hol,hob⟩,by simp only;omega,?_⟩;try simp only[aB,QE,seval,dO,hw,dQ (show 1<2 by omega)]
       try simp[ints,aL,hLCo]
      ·rw[hqL] at hst;simp only[if_true] at hst;rw[hst] at hfo;try simp only[↓QA,QB,seval,dO,hw,Option.isSome_some,Option.getD_some]
       refine⟨(s+1,some L),⟨by simp only;omega,hfo,by simpa using hll,fun b hb=>by cases hb;exact hqL⟩,by simp only;omega,?_⟩;try simp only[aB,QE,seval,dO,hw,dQ (show 1<2 by omega)]
       try simp[ints,aL,hLCo]
   ·have hs1:s=P:=by simp at h;omega
    rw[hs1,Nat.sub_self] at hfo;simp only[nF] at hfo;subst hfo;try simp only[↓QA,QB,seval,dO,Option.getD_some,encLE]
end Go.Am.Room.Do
set_option maxRecDepth 8000
namespace Go.Am.Room.Do
def RE:=zz @aN (@List.length_append.{0})
theorem i6(a b:Int):cY T 160 [.int .i64 a,.int .i64 b] (eR ⟨a,b⟩):=by
 refine aV (af:=VU) rfl (by simp[VU]) dd ?_;try simp only[↓QA,QB,seval,RE,VU]
end Go.Am.Room.Do
namespace Go.Am.Room.Do
def BD:=zz @encVoy_eq (zz @cW (zz @gI (zz @cZ (zz @cX (zz @aN (zz @gU (zz @dL (zz @S_mapLook (zz @dR (@List.length_append.{0}))))))))))
theorem mN(h:Int):cY T 154 [.int .i64 h] (encLook ⟨0,h,false⟩):=by
 refine aV (af:=aBQ) rfl (by simp[aBQ]) dd ?_;try simp only[↓QA,QB,seval,BD,aBQ]
theorem lK(h:Int):cY T 155 [.int .i64 h] (encLook ⟨0,h,true⟩):=by
 refine aV (af:=YN) rfl (by simp[YN]) dd ?_;try simp only[↓QA,QB,seval,BD,YN]
theorem sL(l:List Look):cY T 153 [.lit (l.map encLook) false none] (gY (exV l)):=by
 refine aV (af:=aBU) rfl (by simp[aBU]) dd ?_;try simp only[↓QA,QB,seval,BD,aBU]
 (refine aC (i6 2 4) rfl dd ?_;try simp only[↓QA,QB,seval,BD,exV,WE,ZO,O8,List.map_cons,List.map_nil])
theorem dG(l:List Look)(h:l.length<=100:=by decide):Fits (exV l):=⟨by simp[exV],by simp[exV],by simp[exV];omega,fun k hk=>by
 simp only[exV,List.mem_cons,List.not_mem_nil,or_false] at hk
 rcases hk with rfl|rfl|rfl<;>decide⟩
end Go.Am.Room.Do
namespace Go.Am.Room.Do
def cN:=zz @encVoy_eq (zz @cW (zz @gI (zz @cZ (zz @cX (zz @aN (zz @gU (zz @dL (zz @S_mapLook (zz @dR (@List.length_append.{0}))))))))))
set_option maxHeartbeats 1000000 in
theorem awake_ok:cY T 39 [] (.bool true):=by
 refine aV (af:=a39) rfl (by simp[a39]) cL ?_
 (repeat (first|simp only[↓QA,QB,seval,cN,a39]|refine rd0 rfl ?_))
 refine bH (sL []) (by simp[clr,clrs]) (by simp[okV,okVs]) ?_
 (repeat (first|simp only[↓QA,QB,seval,cN]|refine rd0 rfl ?_))
 ((first|refine aC (mN 6) rfl dd ?_|refine aJ (mN 6) rfl dd ?_);(repeat (first|simp only[↓QA,QB,seval,cN]|refine rd0 rfl ?_)))
 ((first|refine aC (lK 10) rfl dd ?_|refine aJ (lK 10) rfl dd ?_);(repeat (first|simp only[↓QA,QB,seval,cN]|refine rd0 rfl ?_)))
 refine bH (sL [⟨0,6,false⟩,⟨0,10,true⟩]) (by simp[clr,clrs,encLook]) (by simp[okV,okVs]) ?_
 (repeat (first|simp only[↓QA,QB,seval,cN]|refine rd0 rfl ?_))
 ((first|refine aC (mN 6) rfl dd ?_|refine aJ (mN 6) rfl dd ?_);(repeat (first|simp only[↓QA,QB,seval,cN]|refine rd0 rfl ?_)))
 ((first|refine aC (lK 10) rfl dd ?_|refine aJ (lK 10) rfl dd ?_);(repeat (first|simp only[↓QA,QB,seval,cN]|refine rd0 rfl ?_)))
 ((first|refine aC (lK 3) rfl dd ?_|refine aJ (lK 3) rfl dd ?_);(repeat (first|simp only[↓QA,QB,seval,cN]|refine rd0 rfl ?_)))
 refine bH (sL [⟨0,6,false⟩,⟨0,10,true⟩,⟨0,3,true⟩]) (by simp[clr,clrs,encLook]) (by simp[okV,okVs]) ?_
 (repeat (first|simp only[↓QA,QB,seval,cN]|refine rd0 rfl ?_))
 ((first|refine aC (pturned_ok (exV []) 0 (dG _)) rfl dd ?_|refine aJ (pturned_ok (exV []) 0 (dG _)) rfl dd ?_);(repeat (first|simp only[↓QA,QB,seval,cN,x1,encSNE]|refine rd0 rfl ?_)))
 ((first|refine aC (pturned_ok exL 0 (dG _)) rfl dd ?_|refine aJ (pturned_ok exL 0 (dG _)) rfl dd ?_);(repeat (first|simp only[↓QA,QB,seval,cN,x2,encSNE]|refine rd0 rfl ?_)))
 ((first|refine aC (rB exL 0 (dG _)) rfl dd ?_|refine aJ (rB exL 0 (dG _)) rfl dd ?_);(repeat (first|simp only[↓QA,QB,seval,cN,x3,encLE]|refine rd0 rfl ?_)))
 ((first|refine aC (pwhose_ok exL 0 (dG _)) rfl dd ?_|refine aJ (pwhose_ok exL 0 (dG _)) rfl dd ?_);(repeat (first|simp only[↓QA,QB,seval,cN,x4,encLE]|refine rd0 rfl ?_)))
 ((first|refine aC (BJ (exV []) (dG _)) rfl dd ?_|refine aJ (BJ (exV []) (dG _)) rfl dd ?_);(repeat (first|simp only[↓QA,QB,seval,cN,x5,F4]|refine rd0 rfl ?_)))
 ((first|refine aC (BQ exL (dG _)) rfl dd ?_|refine aJ (BQ exL (dG _)) rfl dd ?_);(repeat (first|simp only[↓QA,QB,seval,cN,x6,encLE]|refine rd0 rfl ?_)))
 ((first|refine aC (uU (exV []) 0 (dG _)) rfl dd ?_|refine aJ (uU (exV []) 0 (dG _)) rfl dd ?_);(repeat (first|simp only[↓QA,QB,seval,cN,x7,enc3]|refine rd0 rfl ?_)))
 ((first|refine aC (pwrong_ok exW (dG _)) rfl dd ?_|refine aJ (pwrong_ok exW (dG _)) rfl dd ?_);(repeat (first|simp only[↓QA,QB,seval,cN,x8,encLE]|refine rd0 rfl ?_)))
 ((first|refine aC (rB exW 0 (dG _)) rfl dd ?_|refine aJ (rB exW 0 (dG _)) rfl dd ?_);(repeat (first|simp only[↓QA,QB,seval,cN,x9,encLE]|refine rd0 rfl ?_)))
 ((first|refine aC (mN 12) rfl dd ?_|refine aJ (mN 12) rfl dd ?_);(repeat (first|simp only[↓QA,QB,seval,cN]|refine rd0 rfl ?_)))
 refine bH (sL [⟨0,12,false⟩]) (by simp[clr,clrs,encLook]) (by simp[okV,okVs]) ?_
 (repeat (first|simp only[↓QA,QB,seval,cN]|refine rd0 rfl ?_))
 ((first|refine aC (uU exN 0 (dG _)) rfl dd ?_|refine aJ (uU exN 0 (dG _)) rfl dd ?_);(repeat (first|simp only[↓QA,QB,seval,cN,x10,enc3]|refine rd0 rfl ?_)))
 ((first|refine aC (mN 12) rfl dd ?_|refine aJ (mN 12) rfl dd ?_);(repeat (first|simp only[↓QA,QB,seval,cN]|refine rd0 rfl ?_)))
 refine bH (sL [⟨0,12,false⟩]) (by simp[clr,clrs,encLook]) (by simp[okV,okVs]) ?_
 (repeat (first|simp only[↓QA,QB,seval,cN]|refine rd0 rfl ?_))
 ((first|refine aC (pturned_ok exN 0 (dG _)) rfl dd ?_|refine aJ (pturned_ok exN 0 (dG _)) rfl dd ?_);(repeat (first|simp only[↓QA,QB,seval,cN,x11,encSNE]|refine rd0 rfl ?_)))
 ((first|refine aC (i6 4 12) rfl dd ?_|refine aJ (i6 4 12) rfl dd ?_);(repeat (first|simp only[↓QA,QB,seval,cN]|refine rd0 rfl ?_)))
 ((first|refine aC (i6 7 9) rfl dd ?_|refine aJ (i6 7 9) rfl dd ?_);(repeat (first|simp only[↓QA,QB,seval,cN]|refine rd0 rfl ?_)))
 ((first|refine bH (eK [1] [1] (by simp) (by simp)) (by simp[clr,clrs,ints]) (by simp[okV,okVs]) ?_|refine fX (eK [1] [1] (by simp) (by simp)) (by simp[clr,clrs,ints]) (by simp[okV,okVs]) ?_);(repeat (first|simp only[↓QA,QB,seval,cN,eq_self]|refine rd0 rfl ?_)))
 ((first|refine bH (eK [1] [1] (by simp) (by simp)) (by simp[clr,clrs,ints]) (by simp[okV,okVs]) ?_|refine fX (eK [1] [1] (by simp) (by simp)) (by simp[clr,clrs,ints]) (by simp[okV,okVs]) ?_);(repeat (first|simp only[↓QA,QB,seval,cN,eq_self]|refine rd0 rfl ?_)))
 ((first|refine bH (eK [0,2] [0,2] (by simp) (by simp)) (by simp[clr,clrs,ints]) (by simp[okV,okVs]) ?_|refine fX (eK [0,2] [0,2] (by simp) (by simp)) (by simp[clr,clrs,ints]) (by simp[okV,okVs]) ?_);(repeat (first|simp only[↓QA,QB,seval,cN,eq_self]|refine rd0 rfl ?_)))
 ((first|refine bH (eK [0,1,2] [0,1,2] (by simp) (by simp)) (by simp[clr,clrs,ints]) (by simp[okV,okVs]) ?_|refine fX (eK [0,1,2] [0,1,2] (by simp) (by simp)) (by simp[clr,clrs,ints]) (by simp[okV,okVs]) ?_);(repeat (first|simp only[↓QA,QB,seval,cN,eq_self]|refine rd0 rfl ?_)))
 ((first|refine bH (eK [1] [1] (by simp) (by simp)) (by simp[clr,clrs,ints]) (by simp[okV,okVs]) ?_|refine fX (eK [1] [1] (by simp) (by simp)) (by simp[clr,clrs,ints]) (by simp[okV,okVs]) ?_);(repeat (first|simp only[↓QA,QB,seval,cN,eq_self]|refine rd0 rfl ?_)))
 ((first|refine bH (eK [2] [2] (by simp) (by simp)) (by simp[clr,clrs,ints]) (by simp[okV,okVs]) ?_|refine fX (eK [2] [2] (by simp) (by simp)) (by simp[clr,clrs,ints]) (by simp[okV,okVs]) ?_);(repeat (first|simp only[↓QA,QB,seval,cN,eq_self]|refine rd0 rfl ?_)))
end Go.Am.Room.Do
namespace Go.Am
variable {T:FuncId->Option AFunc}
end Go.Am
namespace Go.Am
variable {T:FuncId->Option AFunc}
def YL:ACode->List ACode->ACode
 |a,[]=>a
 |a,b::l=>.seq a (YL b l)
theorem IC{R:Env->St->Prop}:∀ (az:List ACode) (a:ACode) (e:Env) (σ:St),wp T (YL a az) e σ (fun j e' σ'=>j=none/\R e' σ')->Run T (.chain (a::az) e σ) fun o=>o.j=none/\R o.env o.σ
 |[],a,e,σ,h=>.chainCons (fA h fun o ho=>ho) (fun o ho _=>.chainNil ⟨rfl,ho.2⟩) fun o ho hj=>absurd ho.1 hj
 |b::l,a,e,σ,h=>by
  refine .chainCons (fA (show wp T a e σ _ from by simpa only [YL,wp] using h) fun o ho=>ho) (fun o ho hj=>?_) fun o ho hj=>?_
  ·rw[hj] at ho;simp only[sH] at ho;exact IC l b _ _ ho
  ·cases hq:o.j with
   |none=>exact absurd hq hj
   |some q=>rw[hq] at ho;simp only[sH] at ho;exact absurd ho.1 (by simp)
theorem aL1{a c:ACode}(az:List ACode){e:Env}{σ:St}{Q:Out->Prop}(R S:Env->St->Prop)(h:wp T (YL a az) e σ fun j e' σ'=>j=none/\R e' σ')(h2:∀ e' σ',R e' σ'->∃ env1 σ1 env2 σ2,vG σ e' σ' env1 σ1/\((env2=env1/\σ2=σ1)\/IV σ.length env1 σ1 env2 σ2\/(env2=env1/\Frost σ.length env1 σ1 σ2))/\S env2 σ2)(h3:∀ e σ,S e σ->Run T (.code c e σ) Q):Run T (.code (LV (a::az) c) e σ) Q :=
 Run.chain (a0:=a) (az:=az) (c:=c) (R:=fun o=>o.j=none/\R o.env o.σ) (S:=S) (IC az a e σ h) (fun o ho hj=>absurd ho.1 hj) (fun o ho _=>h2 _ _ ho.2) h3
end Go.Am
namespace Go.Am.Room
def iR:=zz @Tu.S_car (zz @Tu.carC_len (zz @Tu.carC_take (zz @Tu.carC_drop (zz @Tu.carC_cell (zz @aN (zz @dR (zz @List.length_append.{0} (@Int.toNat_natCast))))))))
theorem O5(c:Tu.Car):clrs [.agg (Tu.carCells c),.lit [] true none]=[Tu.encCar c,ints []]:=by
 have:=(Tu.data_car c).2;simp only[clrs];rw[show (AV.agg (Tu.carCells c))=Tu.encCar c from rfl,this];rfl
theorem C0(c:Tu.Car):okVs 0 [.agg (Tu.carCells c),.lit [] true none]:=⟨(Tu.data_car c).1,by simp[okV,okVs],trivial⟩
theorem QQ(c:Tu.Car):(Tu.carCells c)[3]? = some (.lit (c.lots.map Tu.encLot) false none):=rfl
theorem aPS(c:Tu.Car):(Tu.carCells c)[0]? = some (.lit (c.heat.map (.int .i64)) false none):=rfl
theorem QI(c:Tu.Car):(Tu.carCells c)[4]? = some (.lit (c.seen.map Tu.encSeen) false none):=rfl
theorem OC(c:Tu.Car)(hf:Tu.Fits c)(X0 X1:Int)(hb:Tu.lotErr c 0≠0):cY T 6 [Tu.encCar c,.agg [.int .u8 X0,.int .u8 X1]] (.bool true):=by
 refine aV (af:=a6) rfl (by simp[a6]) dd ?_;have hck:=Tu.refcheck_ok c hf;have htu:=Tu.pturns_ok c 0 hf;rw[Tu.turns_zero c 0 hb] at htu;have a7:=Tu.awake_ok;have a10:=Do.awake_ok;have hne:(Tu.lotErr c 0==0)=false:=by simpa using hb
 obtain⟨E,hE⟩:∃ E,Tu.lotErr c 0=E:=⟨_,rfl⟩;rw[hE] at htu hne;simp only[Tu.encCar_eq,Tu.enc3,Tu.encSNE] at hck htu ⊢;have hlb:(Tu.check c).2.2=0->c.lots.length≠0->Tu.someB c=false:=by
  intro q1 q2;cases e:Tu.someB c
  ·rfl
  ·exfalso;have q3:inR (0:Int) 0 ((c.lots.length:Int)-1)=true:=aZ.2 (by omega);refine hb ?_;simp[Tu.lotErr,Tu.errAsk,q1,q3,e]
 try simp only[↓QA,QB,seval,iR,a6]
 (refine aC (hck) rfl dd ?_;try simp only[↓QA,QB,seval,iR])
 cases e1:((Tu.check c).2.2==0)
 case' false =>
  try simp only[↓QA,QB,seval,iR,e1]
  (refine aC (htu) rfl dd ?_;try simp only[↓QA,QB,seval,iR])
  try simp only[↓QA,QB,seval,iR,hne]
  (refine aC (a7) rfl dd ?_;try simp only[↓QA,QB,seval,iR,hne])
  (refine aC (a10) rfl dd ?_;try simp only[↓QA,QB,seval,iR,hne])
 have e1':(Tu.check c).2.2=0:=by simpa using e1
 have hv:=Tu.vd_of_check e1';by_cases hL:c.lots.length=0
 ·have e2:((c.lots.length:Int)==0)=true:=by simp[hL]
  try simp only[↓QA,QB,seval,iR,e1,QQ,e2]
  (refine aC (htu) rfl dd ?_;try simp only[↓QA,QB,seval,iR])
  try simp only[↓QA,QB,seval,iR,hne]
  (refine aC (a7) rfl dd ?_;try simp only[↓QA,QB,seval,iR,hne])
  (refine aC (a10) rfl dd ?_;try simp only[↓QA,QB,seval,iR,hne])
 have e2:((c.lots.length:Int)==0)=false:=by rw[beq_eq_false_iff_ne];omega
 have hso:=Tu.rsome_ok c hv (by omega);rw[hlb e1' hL] at hso;try simp only[↓QA,QB,seval,iR,e1,QQ,e2]
 refine bH hso (O5 c) (C0 c) ?_;try simp only[↓QA,QB,seval,iR]
 (refine aC (htu) rfl dd ?_;try simp only[↓QA,QB,seval,iR])
 try simp only[↓QA,QB,seval,iR,hne]
 (refine aC (a7) rfl dd ?_;try simp only[↓QA,QB,seval,iR,hne])
 (refine aC (a10) rfl dd ?_;try simp only[↓QA,QB,seval,iR,hne])
end Go.Am.Room
namespace Go.Am.Room
def iJ:=zz @Tu.S_car (zz @Tu.carC_len (zz @Tu.carC_take (zz @Tu.carC_drop (zz @Tu.carC_cell (zz @Tu.encSeen_eq (zz @aN (zz @dR (zz @List.length_append.{0} (zz @Int.toNat_natCast (zz @j5 (@kA)))))))))))
mutual
theorem noLoc_ok {m t:Nat} (hm:m<=t):∀ {v:AV},okV m v->noLoc t v
 |.func _ a b,h=>⟨noLocs_ok hm h.1,noLocs_ok hm h.2⟩
 |.lptr xs _ _ _,h=>noLocs_ok hm h.2
 |.lit xs _ _,h=>noLocs_ok hm h.2
 |.agg cs,h=>noLocs_ok hm h
 |.tuple vs,h=>noLocs_ok hm h
 |.yield id,h=>by have h':id<m:=h;show id≠t;omega
 |.map id,h=>by have h':id<m:=h;show id≠t;omega
 |.ptr id _,h=>by have h':id<m:=h;show id≠t;omega
 |.ref id _ _ _,h=>by have h':id<m:=h;show id≠t;omega
 |.undef,_|.int _ _,_|.bool _,_|.str _,_|.nilFunc,_|.nilPtr,_|.nilMap,_=>trivial
theorem noLocs_ok {m t:Nat} (hm:m<=t):∀ {vs:List AV},okVs m vs->noLocs t vs
 |[],_=>trivial
 |v::vs,h=>⟨noLoc_ok hm h.1,noLocs_ok hm h.2⟩
end
def m8(c:Tu.Car)(i j:Nat):List Do.Look:=((c.seen.take j).filter fun s=>decide (s.lot=(i:Int))).map fun s=>⟨0,s.hour,s.turned⟩
theorem J9(c:Tu.Car)(i:Nat):m8 c i c.seen.length=j7 c i:=by simp[m8,j7]
theorem GO{c:Tu.Car}{j:Nat}(hj:j<c.seen.length)(i:Nat):m8 c i (j+1)=m8 c i j++(if c.seen[j].lot=(i:Int) then [⟨0,c.seen[j].hour,c.seen[j].turned⟩] else []):=by
 simp only[m8,List.take_add_one,List.getElem?_eq_getElem hj,Option.toList,List.filter_append,List.map_append,List.filter_cons,List.filter_nil];split<;>simp_all
theorem JW(c:Tu.Car)(i j:Nat):(m8 c i j).length<=c.seen.length:=by
 simp only[m8,List.length_map];refine Nat.le_trans (List.length_filter_le _ _) ?_;rw[List.length_take];omega
def bSt(c:Tu.Car)(X0 X1:Int)(sp:Span)(H f:Int)(dv:AV)(L:List Do.Look)(fl:Bool)(tk:Option Nat)(τ:St):St :=
 .cells (Tu.carCells c)::.cells [.int .u8 X0,.int .u8 X1]::.cells [.int .i64 sp.lo,.int .i64 sp.hi]::.cells [.int .i64 0,.bool true]::.cells [.str y5,.int .i64 0,.str DS,.int .i64 f] ::
  .cells [.int .i64 H,.int .i64 sp.lo,.int .i64 sp.hi,.ref 4 0 2 2,dv,.int .i64 1,.lit (L.map Do.encLook) fl tk]::τ
theorem CX(c:Tu.Car)(X0 X1:Int)(sp:Span)(H f:Int)(dv:AV)(L:List Do.Look)(fl:Bool)(tk:Option Nat)(τ:St):bSt c X0 X1 sp H f dv L fl tk τ =
 .cells (Tu.carCells c)::.cells [.int .u8 X0,.int .u8 X1]::.cells [.int .i64 sp.lo,.int .i64 sp.hi]::.cells [.int .i64 0,.bool true]::.cells [.str y5,.int .i64 0,.str DS,.int .i64 f] ::
  .cells [.int .i64 H,.int .i64 sp.lo,.int .i64 sp.hi,.ref 4 0 2 2,dv,.int .i64 1,.lit (L.map Do.encLook) fl tk]::τ:=rfl
def BI(c:Tu.Car)(i:Nat)(X0 X1:Int)(sp:Span)(H f hw:Int)(k:Nat)(e:Env)(σ:St):Prop :=
 Env.get e 2 = .ptr 0 0/\Env.get e 11 = .int .i64 i/\Env.get e 12 = .ptr 2 0/\Env.get e 13 = .int .i64 hw/\Env.get e 15 = .ptr 5 0/\∃ j fl tk τ,Env.get e 16 = .int .i64 (j:Nat)/\j<=c.seen.length/\k=c.seen.length-j/\(∀ t,tk=some t->6<=t)/\σ=bSt c X0 X1 sp H f (.ref 3 0 1 2) (m8 c i j) fl tk τ
theorem MY(sz:Nat)(σ:St)(xs:List AV)(k:Nat):aO (w7 sz σ xs).2 k=aO σ k:=by
 unfold w7;split
 ·rfl
 ·simp only[aO];by_cases h:k<σ.length
  ·rw[List.getElem?_append_left h]
  ·rw[List.getElem?_eq_none (show σ.length<=k by omega)];by_cases h2:k=σ.length
   ·subst h2;simp
   ·rw[List.getElem?_eq_none (by simp;omega)]
theorem FF(L:List Do.Look):aH 3 (L.map Do.encLook)=true:=vJ 3 Do.encLook L fun w=>by simp[bQ,Do.encLook,AV.cells,AV.cell]
def BR(c:Tu.Car)(i:Nat)(X0 X1:Int)(sp:Span)(H f hw:Int)(e:Env)(σ:St):Prop :=
 Env.get e 12 = .ptr 2 0/\Env.get e 13 = .int .i64 hw/\Env.get e 15 = .ptr 5 0/\∃ fl tk τ,(∀ t,tk=some t->6<=t)/\σ=bSt c X0 X1 sp H f (if hw=2 then .lit [] true none else .ref 3 0 1 2) (j7 c i) fl tk τ
theorem LY(c:Tu.Car)(hv:Tu.Vd c)(i:Nat)(hi:i<c.lots.length)(X0 X1:Int)(sp:Span)(H f hw:Int)(e:Env)(K:KJ)(τ:St)(e2:Env.get e 2 = .ptr 0 0)(e11:Env.get e 11 = .int .i64 i)(e12:Env.get e 12 = .ptr 2 0)(e13:Env.get e 13 = .int .i64 hw)(e15:Env.get e 15 = .ptr 5 0)(e16:Env.get e 16 = .int .i64 0)(fl:Bool)(hK:∀ e' fl tk τ,(∀ t,tk=some t->6<=t)->Env.get e' 12 = .ptr 2 0->Env.get e' 13 = .int .i64 hw->Env.get e' 15 = .ptr 5 0->K (some (.exit 0)) e' (bSt c X0 X1 sp H f (.ref 3 0 1 2) (j7 c i) fl tk τ)):
  rK (K:=⟨K⟩) T (.loop aKX) e (bSt c X0 X1 sp H f (.ref 3 0 1 2) [] fl none τ):=by
 have hns:=hv.nsn;refine PO (BI c i X0 X1 sp H f hw) ?_ c.seen.length _ _ ?_
 ·rintro k e σ ⟨e2,e11,e12,e13,e15,j,fl,tk,τ,e16,hj,hk,htk,rfl⟩;subst hk;rw[CX]
  (repeat (first|simp only[↓QA,QB,seval,iJ,aKX,e2,e11,e12,e13,e15,e16,QI]|refine rd0 rfl ?_))
  refine aE (fun h=>?_) fun h=>?_
  ·have hj1:j<c.seen.length:=by simpa using h
   have hw1:=bR hj1 (by omega);have hsu:=GO hj1 i;have hll:=JW c i j;obtain⟨x,hx⟩:∃ x,c.seen[j]=x:=⟨_,rfl⟩;rw[hx] at hsu;obtain⟨L,hL⟩:∃ L,m8 c i j=L:=⟨_,rfl⟩;rw[hL] at hsu hll;rw[hL];cases h1:(x.lot==(i:Int))
   ·have h1':¬x.lot=(i:Int):=by simpa using h1
    rw[if_neg h1',List.append_nil] at hsu
    (repeat (first|simp only[↓QA,QB,seval,iJ,e2,e11,e12,e13,e15,e16,QI,hj1,hx,h1,hw1]|refine rd0 rfl ?_))
    refine⟨c.seen.length-(j+1),by omega,?_,?_,?_,?_,?_,j+1,fl,tk,τ++[.cells [.int .i64 x.lot,.int .i64 x.hour,.bool x.turned]],?_,by omega,rfl,htk,?_⟩
    ·try simp only[aB,QE,seval,iJ,e2]
    ·try simp only[aB,QE,seval,iJ,e11]
    ·try simp only[aB,QE,seval,iJ,e12]
    ·try simp only[aB,QE,seval,iJ,e13]
    ·try simp only[aB,QE,seval,iJ,e15]
    ·try simp only[aB,QE,seval,iJ]
    ·rw[hsu,CX]
   ·have h1':x.lot=(i:Int):=by simpa using h1
    rw[if_pos h1'] at hsu;have hap1:=fun σ fl tk=>QM (sz:=3) (b:=24) (σ:=σ) (xs:=L.map Do.encLook) (f:=fl) (tk:=tk) ⟨rfl,FF L,(by simp[room]<;>omega),(by simp[room]<;>omega)⟩
    have hap2:=fun σ=>E2 (sz:=3) (b:=24) (σ:=σ) (xs:=L.map Do.encLook) (ys:=[.agg [.int .i64 0,.int .i64 x.hour,.bool x.turned]]) (f:=true) (tk:=none) ⟨FF L,by simp[aH,AV.cells,AV.cell],by simp[room];omega,by simp[room];omega⟩ (by simp)
    (repeat (first|simp only[↓QA,QB,seval,iJ,e2,e11,e12,e13,e15,e16,QI,hj1,hx,h1,hap1,hap2,MY,hw1]|refine rd0 rfl ?_))
    refine⟨c.seen.length-(j+1),by omega,?_,?_,?_,?_,?_,j+1,false,some (τ.length+1+1+1+1+1+1+1),τ++[.cells [.int .i64 x.lot,.int .i64 x.hour,.bool x.turned],.tok 3 ((L.map Do.encLook).length+1) true],?_,by omega,rfl,(fun t h=>by cases h;omega),?_⟩
    ·try simp only[aB,QE,seval,iJ,e2]
    ·try simp only[aB,QE,seval,iJ,e11]
    ·try simp only[aB,QE,seval,iJ,e12]
    ·try simp only[aB,QE,seval,iJ,e13]
    ·try simp only[aB,QE,seval,iJ,e15]
    ·try simp only[aB,QE,seval,iJ]
    ·rw[hsu,CX];simp[Do.encLook]
  ·have hj1:j=c.seen.length:=by simp at h;omega
   (repeat (first|simp only[↓QA,QB,seval,iJ,e2,e11,e12,e13,e15,e16,QI]|refine rd0 rfl ?_))
   rw[hj1,J9];have hk:=hK;simp only[CX] at hk;refine hk _ _ _ _ htk ?_ ?_ ?_
   ·try simp only[aB,QE,seval,iJ,e12]
   ·try simp only[aB,QE,seval,iJ,e13]
   ·try simp only[aB,QE,seval,iJ,e15]
 ·exact⟨e2,e11,e12,e13,e15,0,fl,none,τ,e16,Nat.zero_le _,rfl,(fun t h=>by cases h),rfl⟩
theorem EL{σ:St}{m:Nat}{v w:AV}(h:bW σ m 20 v=some w):S2 σ m v w:=by
 unfold bW at h;cases hs:snap σ m 20 v with
 |none=>rw[hs] at h;cases h
 |some v1 =>
  rw[hs] at h;injection h with h
  exact .inr ⟨20,v1,hs,.inr h.symm⟩
def bS(c:Tu.Car)(i:Nat)(X0 X1 f:Int)(e:Env)(σ:St):Prop :=
 Env.get e 12 = .ptr 2 0/\Env.get e 13 = .int .i64 (oX c i)/\Env.get e 15 = .ptr 5 0 /\
  σ=[.cells (Tu.carCells c),.cells [.int .u8 X0,.int .u8 X1],.cells [.int .i64 (eE (Tu.hoursOf c i)).lo,.int .i64 (eE (Tu.hoursOf c i)).hi],.dead,.dead,.cells (Do.voyCells (bV c i f))]
theorem IH{c:Tu.Car}{i:Nat}{X0 X1 f:Int}{e:Env}{σ:St}(h:BR c i X0 X1 (eE (Tu.hoursOf c i)) (fJ c) f (oX c i) e σ):
  ∃ env1 σ1 env2 σ2,vG [] e σ env1 σ1/\((env2=env1/\σ2=σ1)\/IV 0 env1 σ1 env2 σ2\/(env2=env1/\Frost 0 env1 σ1 σ2))/\bS c i X0 X1 f env2 σ2:=by
 obtain⟨e12,e13,e15,fl,tk,τ,htk,rfl⟩:=h;have hcar:∀ m,okVs m (Tu.carCells c):=fun m=>okVs_up _ (Tu.datas_car c).1
 have hlk:∀ m,okVs m ((j7 c i).map Do.encLook):=fun m=>okVs_up _ (cV Do.data_look (j7 c i)).1
 obtain⟨sp,hsp⟩:∃ sp,eE (Tu.hoursOf c i)=sp:=⟨_,rfl⟩;obtain⟨hw,hhw⟩:∃ hw,oX c i=hw:=⟨_,rfl⟩;obtain⟨H,hH⟩:∃ H,fJ c=H:=⟨_,rfl⟩;obtain⟨dv',hdv⟩:∃ dv',(if hw=2 then AV.lit [] false none else .ref 3 0 1 2)=dv':=⟨_,rfl⟩;have hV:Do.voyCells (bV c i f)=[.int .i64 H,.int .i64 sp.lo,.int .i64 sp.hi,.lit [.agg [.str y5,.int .i64 0],.agg [.str DS,.int .i64 f]] false none,.lit ((tT c i).map Do.encDoor) false none,.int .i64 1,.lit ((j7 c i).map Do.encLook) false none]:=by
  simp[Do.voyCells,bV,hsp,hH,Do.encKp]
 obtain⟨LK,hLK⟩:∃ LK,(j7 c i).map Do.encLook=LK:=⟨_,rfl⟩;have hSl:∀ σ m d,cB σ m d LK=some LK:=fun σ m d=>by rw[<-hLK];exact Do.S_mapLook σ m d _
 rw[hLK] at hV hlk;simp only[bSt,bS,hV,hsp,hhw,hH,hLK] at e13 ⊢
 refine⟨[(12,.ptr 2 0),(13,.int .i64 hw),(15,.ptr 5 0)],[.cells (Tu.carCells c),.cells [.int .u8 X0,.int .u8 X1],.cells [.int .i64 sp.lo,.int .i64 sp.hi],.cells [.int .i64 0,.bool true],.cells [.str y5,.int .i64 0,.str DS,.int .i64 f],.cells [.int .i64 H,.int .i64 sp.lo,.int .i64 sp.hi,.ref 4 0 2 2,dv',.int .i64 1,.lit LK false none]],_,_,
  ⟨by simp,by simp,⟨.inl ⟨e12.symm,by rw[e12];simp[okV]⟩,.inl ⟨e13.symm,by rw[e13];simp[okV]⟩,.inl ⟨e15.symm,by rw[e15];simp[okV]⟩,trivial⟩,fun k hk=>?_⟩,.inr (.inr ⟨rfl,.step (σ1:=[.cells (Tu.carCells c),.cells [.int .u8 X0,.int .u8 X1],.cells [.int .i64 sp.lo,.int .i64 sp.hi],.cells [.int .i64 0,.bool true],.dead,.cells [.int .i64 H,.int .i64 sp.lo,.int .i64 sp.hi,.lit [.agg [.str y5,.int .i64 0],.agg [.str DS,.int .i64 f]] false none,dv',.int .i64 1,.lit LK false none]]) ?_ (.step ?_ (.refl _))⟩),rfl,rfl,rfl,rfl⟩
 ·match k,hk with
  |0,_=>exact⟨_,rfl,.inr (.inl ⟨rfl,hcar _⟩)⟩
  |1,_=>exact⟨_,rfl,.inr (.inl ⟨rfl,by simp[aL,okVs,okV]⟩)⟩
  |2,_=>exact⟨_,rfl,.inr (.inl ⟨rfl,by simp[aL,okVs,okV]⟩)⟩
  |3,_=>exact⟨_,rfl,.inr (.inl ⟨rfl,by simp[aL,okVs,okV]⟩)⟩
  |4,_=>exact⟨_,rfl,.inr (.inl ⟨rfl,by simp[aL,okVs,okV]⟩)⟩
  |5,_ =>
   refine⟨_,rfl,.inr (.inr ⟨_,_,rfl,rfl,⟨.inl ⟨rfl,trivial⟩,.inl ⟨rfl,trivial⟩,.inl ⟨rfl,trivial⟩,.inl ⟨rfl,by show 4<6;omega⟩,?_,.inl ⟨rfl,trivial⟩,EL ?_,trivial⟩,.inl (by simp)⟩)⟩
   ·rw[<-hdv];by_cases h2:hw=2
    ·rw[if_pos h2,if_pos h2];exact EL (by simp[OS,VO])
    ·rw[if_neg h2,if_neg h2];exact .inl ⟨rfl,by show 3<6;omega⟩
   ·cases tk with
    |none=>rw[OS,hSl];rfl
    |some t =>
     have:=htk t rfl;rw[V2,hSl];simp;omega
  |k+6,h=>simp at h;omega
 ·refine⟨4,_,Nat.zero_le _,rfl,?_,rfl,rfl,fun k b' hk hb=>?_⟩
  ·intro q hq;simp only[List.mem_cons,List.not_mem_nil,or_false] at hq;rcases hq with rfl|rfl|rfl<;>simp[noLoc]
  ·match k,hb with
   |0,hb=>cases hb;exact⟨_,rfl,.inl ⟨rfl,noLocs_ok (Nat.zero_le _) (hcar 0)⟩⟩
   |1,hb=>cases hb;exact⟨_,rfl,.inl ⟨rfl,by simp[xY,noLocs,noLoc]⟩⟩
   |2,hb=>cases hb;exact⟨_,rfl,.inl ⟨rfl,by simp[xY,noLocs,noLoc]⟩⟩
   |3,hb=>cases hb;exact⟨_,rfl,.inl ⟨rfl,by simp[xY,noLocs,noLoc]⟩⟩
   |4,hb=>exact absurd rfl hk
   |5,hb =>
    cases hb;refine⟨_,rfl,.inr ⟨Nat.zero_le _,_,_,rfl,rfl,.inl ⟨rfl,trivial⟩,.inl ⟨rfl,trivial⟩,.inl ⟨rfl,trivial⟩,.inr ⟨0,2,2,rfl,by omega,by simp,by simp[pP,aH,AV.cells,AV.cell],by simp[pP,noLocs,noLoc],rfl⟩,.inl ⟨rfl,?_⟩,.inl ⟨rfl,trivial⟩,.inl ⟨rfl,noLocs_ok (Nat.zero_le _) (hlk 0)⟩,trivial⟩⟩;rw[<-hdv];split<;>simp[noLoc,noLocs]
   |k+6,hb=>cases hb
 ·refine⟨3,_,Nat.zero_le _,rfl,?_,rfl,rfl,fun k b' hk hb=>?_⟩
  ·intro q hq;simp only[List.mem_cons,List.not_mem_nil,or_false] at hq;rcases hq with rfl|rfl|rfl<;>simp[noLoc]
  ·match k,hb with
   |0,hb=>cases hb;exact⟨_,rfl,.inl ⟨rfl,noLocs_ok (Nat.zero_le _) (hcar 0)⟩⟩
   |1,hb=>cases hb;exact⟨_,rfl,.inl ⟨rfl,by simp[xY,noLocs,noLoc]⟩⟩
   |2,hb=>cases hb;exact⟨_,rfl,.inl ⟨rfl,by simp[xY,noLocs,noLoc]⟩⟩
   |3,hb=>exact absurd rfl hk
   |4,hb=>cases hb;exact⟨_,rfl,.inl ⟨rfl,trivial⟩⟩
   |5,hb =>
    cases hb;refine⟨_,rfl,.inr ⟨Nat.zero_le _,_,_,rfl,rfl,.inl ⟨rfl,trivial⟩,.inl ⟨rfl,trivial⟩,.inl ⟨rfl,trivial⟩,.inl ⟨rfl,by simp[noLoc,noLocs]⟩,?_,.inl ⟨rfl,trivial⟩,.inl ⟨rfl,noLocs_ok (Nat.zero_le _) (hlk 0)⟩,trivial⟩⟩;rw[<-hdv];by_cases h2:hw=2
    ·rw[if_pos h2,show tT c i=[] from if_pos (by rw[hhw];exact h2)];exact .inl ⟨rfl,by simp[noLoc,noLocs]⟩
    ·rw[if_neg h2,show tT c i=[⟨0,true⟩] from if_neg (by rw[hhw];exact h2)];exact .inr ⟨0,1,2,rfl,by omega,by simp,by simp[pP,aH,AV.cells,AV.cell],by simp[pP,noLocs,noLoc],rfl⟩
   |k+6,hb=>cases hb
end Go.Am.Room
namespace Go.Am.Room
def cR:=zz @Tu.S_car (zz @Tu.carC_len (zz @Tu.carC_take (zz @Tu.carC_drop (zz @Tu.carC_cell (zz @aN (zz @dR (zz @List.length_append.{0} (@Int.toNat_natCast))))))))
theorem B8(v:Do.Voy):kY (Do.voyCells v):=(aD (aR _ _) (aD (aR _ _) (aD (aR _ _) (aD (dP Do.data_kp _) (aD (dP Do.data_door _) (aD (aR _ _) (aD (dP Do.data_look _) cL)))))))
instance (v:Do.Voy):Dats (Do.voyCells v):=⟨B8 v⟩
theorem cT(v:Do.Voy)(σ:St)(m d:Nat):cB σ m d (Do.voyCells v)=some (Do.voyCells v):=iG (B8 v) σ m d
theorem bD(v:Do.Voy):(Do.voyCells v).length=7:=rfl
theorem aS(v:Do.Voy):(Do.voyCells v).take 7=Do.voyCells v:=rfl
theorem aU(v:Do.Voy):(Do.voyCells v).drop 7=[]:=rfl
theorem aT(v:Do.Voy):aY (Do.voyCells v)=true:=by simp[aY,Do.voyCells,AV.cell]
set_option maxHeartbeats 4000000 in
theorem JB(c:Tu.Car)(hf:Tu.Fits c)(X0 X1:Nat)(h0:X0<256)(h1:X1<256)(hb:Tu.lotErr c 0=0):cY T 6 [Tu.encCar c,.agg [.int .u8 X0,.int .u8 X1]] (.bool true):=by
 obtain⟨hv,⟨_,hL0⟩,hs⟩:=Tu.lotErr_ok hb;have hL:0<c.lots.length:=by omega
 have hlt:X0%c.lots.length<c.lots.length:=Nat.mod_lt _ hL;obtain⟨i,hi⟩:∃ i,X0%c.lots.length=i:=⟨_,rfl⟩;rw[hi] at hlt;have hlt2:=hlt;have hck:=Tu.refcheck_ok c hf;rw[Tu.check_of_vd hv] at hck;have hso:=Tu.rsome_ok c hv hL;rw[hs] at hso;have hle:Tu.lotErr c i=0:=by
  have q1:(Tu.check c).2.2=0:=by rw[Tu.check_of_vd hv]
  have q3:inR (i:Int) 0 ((c.lots.length:Int)-1)=true:=aZ.2 (by omega);simp[Tu.lotErr,Tu.errAsk,q1,q3,hs]
 have htu:=Tu.pturns_ok c i hf;have hm:Tu.turnsOf c i=(eE (Tu.hoursOf c i),oX c i,0):=by rw[Tu.turnsOf,if_pos hle,Int.toNat_natCast];rfl
 rw[hm] at htu;have hhc:oX c i=0\/oX c i=1\/oX c i=2:=vB _ _;have hin:inR (oX c i) 0 2=true:=aZ.2 (by omega);simp only[Tu.encCar_eq,Tu.enc3,Tu.encSNE] at hck htu ⊢;have hn0:((c.lots.length:Nat):Int)≠0:=by omega
 have e2:((c.lots.length:Int)==0)=false:=by rw[beq_eq_false_iff_ne];exact hn0
 have hm0:((X0:Int).tmod (c.lots.length:Int))=(i:Int):=by rw[Int.tmod_eq_emod_of_nonneg (by omega),<-hi];norm_cast
 have hw0:IntKind.i64.wrap (X0:Int)=X0:=bZ ⟨by omega,by omega⟩;have hw1:IntKind.i64.wrap (X1:Int)=X1:=bZ ⟨by omega,by omega⟩;have hnl:=hv.nlt;have hnh:=hv.nht;have hwi:IntKind.i64.wrap (i:Int)=i:=bZ ⟨by omega,by omega⟩;have i0:(0:Int)<=0/\(0:Int)<((2:Nat):Int):=by decide
 have i1:(0:Int)<=1/\(1:Int)<((2:Nat):Int):=by decide
 have t1:(1:Int).toNat=1:=rfl;have hHb:1<=fJ c/\fJ c<=8:=by unfold fJ;omega
 have hHn:fJ c≠0:=by omega
 have hm1:(X1:Int).tmod (fJ c)=(X1:Int)%fJ c:=Int.tmod_eq_emod_of_nonneg (by omega);obtain⟨m,hmm⟩:∃ m,(X1:Int)%fJ c=m:=⟨_,rfl⟩;have hmb:0<=m/\m<fJ c:=by rw[<-hmm];exact⟨Int.emod_nonneg _ hHn,Int.emod_lt_of_pos _ (by omega)⟩
 rw[hmm] at hm1;have hwm:IntKind.i64.wrap m=m:=bZ ⟨by omega,by omega⟩;have hwf:IntKind.i64.wrap (1+m)=1+m:=bZ ⟨by omega,by omega⟩;obtain⟨he,hwr,⟨W,htn,hW⟩,hwo⟩:=NB hv hlt2 hs (f:=1+m) ⟨by omega,by omega⟩;have hvd:=aHV hv hlt2 (f:=1+m) ⟨by omega,by omega⟩;have hfv:Do.Fits (bV c i (1+m)):=by
  have a1:=hvd.nkp;have a2:=hvd.ndr;have a3:=hvd.nlk;refine⟨by omega,by omega,by omega,fun k hk=>?_⟩;simp only[bV,List.mem_cons,List.not_mem_nil,or_false] at hk;rcases hk with rfl|rfl
  ·show y5.size<_;decide
  ·show DS.size<_;decide
 have d1:=Do.check_ok _ hfv;rw[Do.check_of_vd hvd] at d1;have d2:=Do.pwrong_ok _ hfv;rw[hwr] at d2;have d3:=Do.pturned_ok _ 0 hfv;rw[htn] at d3;have d4:=Do.pwhose_ok _ 0 hfv;rw[hwo] at d4;have a7:=Tu.awake_ok;have a10:=Do.awake_ok;simp only[Do.encVoy_eq,Do.enc3,Do.encLE,Do.encSNE] at d1 d2 d3 d4;have htrim:=fun (e:Env) (σ:St) (h:BR c i X0 X1 (eE (Tu.hoursOf c i)) (fJ c) (1+m) (oX c i) e σ)=>IH h
 have hmx:max (1:Int) (c.heat.length:Int)=fJ c:=rfl;have hloop:=LY c hv i hlt2 X0 X1 (eE (Tu.hoursOf c i)) (fJ c) (1+m) (oX c i);simp only[CX,List.map_nil] at hloop;refine aA5 (af:=a6) rfl (by simp[a6]) dd ?_;simp only[a6];refine aL1 [_,_,_,_,_,_,_,_,_] (BR c i X0 X1 (eE (Tu.hoursOf c i)) (fJ c) (1+m) (oX c i)) (bS c i X0 X1 (1+m)) ?_ htrim ?_
 ·obtain⟨sp,hsp⟩:∃ sp,eE (Tu.hoursOf c i)=sp:=⟨_,rfl⟩;obtain⟨H,hH⟩:∃ H,fJ c=H:=⟨_,rfl⟩;obtain⟨hw,hhw⟩:∃ hw,oX c i=hw:=⟨_,rfl⟩;rw[hsp,hH,hhw] at hloop;rw[hsp,hH,hhw];rw[hsp,hhw] at htu;rw[hhw] at hin hhc;rw[hH] at hmx hm1 hHn;simp only[YL]
  (repeat (first|simp only[↓QA,QB,seval,cR,bD,aS,aU,aT,cT,eI]|refine rd0 rfl ?_))
  ((first|refine aC (hck) rfl dd ?_|refine aJ (hck) rfl dd ?_);(repeat (first|simp only[↓QA,QB,seval,cR,bD,aS,aU,aT,cT]|refine rd0 rfl ?_)))
  (repeat (first|simp only[↓QA,QB,seval,cR,bD,aS,aU,aT,cT,QQ,e2]|refine rd0 rfl ?_))
  refine bH hso (O5 c) (C0 c) ?_
  (repeat (first|simp only[↓QA,QB,seval,cR,bD,aS,aU,aT,cT,i0,hw0,QQ,aIR _ _ _ hn0,hm0,hwi,Int.toNat_zero]|refine rd0 rfl ?_))
  ((first|refine aC (htu) rfl dd ?_|refine aJ (htu) rfl dd ?_);(repeat (first|simp only[↓QA,QB,seval,cR,bD,aS,aU,aT,cT]|refine rd0 rfl ?_)))
  ((first|refine aC (mX hw 0 2) rfl dd ?_|refine aJ (mX hw 0 2) rfl dd ?_);(repeat (first|simp only[↓QA,QB,seval,cR,bD,aS,aU,aT,cT,hin]|refine rd0 rfl ?_)))
  (repeat (first|simp only[↓QA,QB,seval,cR,bD,aS,aU,aT,cT,aPS,hmx,i0,i1,t1,Int.toNat_zero,hw1,aIR _ _ _ hHn,hm1,hwm,hwf,List.flatMap_cons,List.flatMap_nil]|refine rd0 rfl ?_))
  refine hloop _ _ [] ?_ ?_ ?_ ?_ ?_ ?_ true fun e' fl tk τ htk e12 e13 e15=>?_
  ·try simp only[aB,QE,seval,cR,bD,aS,aU,aT,cT]
  ·try simp only[aB,QE,seval,cR,bD,aS,aU,aT,cT]
  ·try simp only[aB,QE,seval,cR,bD,aS,aU,aT,cT]
  ·try simp only[aB,QE,seval,cR,bD,aS,aU,aT,cT]
  ·try simp only[aB,QE,seval,cR,bD,aS,aU,aT,cT]
  ·try simp only[aB,QE,seval,cR,bD,aS,aU,aT,cT]
  by_cases hw2:hw=2
  ·have hb2:(hw==2)=true:=by simp[hw2]
   (repeat (first|simp only[↓QA,QB,seval,cR,bD,aS,aU,aT,cT,e12,e13,e15,hb2]|refine rd0 rfl ?_))
   refine⟨?_,?_,?_,fl,tk,τ,htk,?_⟩
   ·try simp only[aB,QE,seval,cR,bD,aS,aU,aT,cT,e12]
   ·try simp only[aB,QE,seval,cR,bD,aS,aU,aT,cT,e13]
   ·try simp only[aB,QE,seval,cR,bD,aS,aU,aT,cT,e15]
   ·rw[if_pos hw2];rfl
  ·have hb2:(hw==2)=false:=by simpa using hw2
   (repeat (first|simp only[↓QA,QB,seval,cR,bD,aS,aU,aT,cT,e12,e13,e15,hb2]|refine rd0 rfl ?_))
   refine⟨?_,?_,?_,fl,tk,τ,htk,?_⟩
   ·try simp only[aB,QE,seval,cR,bD,aS,aU,aT,cT,e12]
   ·try simp only[aB,QE,seval,cR,bD,aS,aU,aT,cT,e13]
   ·try simp only[aB,QE,seval,cR,bD,aS,aU,aT,cT,e15]
   ·rw[if_neg hw2];rfl
 ·rintro e σ ⟨q12,q13,q15,rfl⟩;refine YQ (K:=fun j e σ=>LZ _ _ j e σ) ?_;have okz:((0:Int)==0)=true:=rfl;have okn:decide ((0:Int)<((0:Nat):Int))=false:=rfl;have okm:(((0:Nat):Int)==0)=true:=rfl;obtain⟨V,hV⟩:∃ V,bV c i (1+m)=V:=⟨_,rfl⟩;rw[hV] at d1 d2 d3 d4;rw[hV];obtain⟨sp,hsp⟩:∃ sp,eE (Tu.hoursOf c i)=sp:=⟨_,rfl⟩;rw[hsp] at d3;rw[hsp];obtain⟨hw,hhw⟩:∃ hw,oX c i=hw:=⟨_,rfl⟩;rw[hhw] at q13 hW d4;by_cases hw2:hw=2
  ·have hb2:(hw==2)=true:=by simp[hw2]
   have hb3:(W==2)=true:=by simpa using hW.2 hw2
   rw[if_pos hw2] at d4
   (repeat (first|simp only[↓QA,QB,seval,cR,bD,aS,aU,aT,cT,q12,q13,q15]|refine rd0 rfl ?_))
   ((first|refine aC (d1) rfl dd ?_|refine aJ (d1) rfl dd ?_);(repeat (first|simp only[↓QA,QB,seval,cR,bD,aS,aU,aT,cT,q12,q13,q15,okz]|refine rd0 rfl ?_)))
   ((first|refine aC (d2) rfl dd ?_|refine aJ (d2) rfl dd ?_);(repeat (first|simp only[↓QA,QB,seval,cR,bD,aS,aU,aT,cT,q12,q13,q15,okz]|refine rd0 rfl ?_)))
   ((first|refine aC (d3) rfl dd ?_|refine aJ (d3) rfl dd ?_);(repeat (first|simp only[↓QA,QB,seval,cR,bD,aS,aU,aT,cT,q12,q13,q15,okz]|refine rd0 rfl ?_)))
   ((first|refine aC (d4) rfl dd ?_|refine aJ (d4) rfl dd ?_);(repeat (first|simp only[↓QA,QB,seval,cR,bD,aS,aU,aT,cT,q12,q13,q15,okz,hb2,hb3]|refine rd0 rfl ?_)))
   (repeat (first|simp only[↓QA,QB,seval,cR,bD,aS,aU,aT,cT,q12,q13,q15,okz,okn,okm,hb2,hb3]|refine rd0 rfl ?_))
   ((first|refine aC (a7) rfl dd ?_|refine aJ (a7) rfl dd ?_);(repeat (first|simp only[↓QA,QB,seval,cR,bD,aS,aU,aT,cT,q12,q13,q15,okz,okn,okm,hb2,hb3]|refine rd0 rfl ?_)))
   ((first|refine aC (a10) rfl dd ?_|refine aJ (a10) rfl dd ?_);(repeat (first|simp only[↓QA,QB,seval,cR,bD,aS,aU,aT,cT,q12,q13,q15,okz,okn,okm,hb2,hb3]|refine rd0 rfl ?_)))
  ·have hb2:(hw==2)=false:=by simpa using hw2
   have hW2:¬W=2:=fun e=>hw2 (hW.1 e)
   have hb3:(W==2)=false:=by simpa using hW2
   rw[if_neg hw2] at d4
   (repeat (first|simp only[↓QA,QB,seval,cR,bD,aS,aU,aT,cT,q12,q13,q15]|refine rd0 rfl ?_))
   ((first|refine aC (d1) rfl dd ?_|refine aJ (d1) rfl dd ?_);(repeat (first|simp only[↓QA,QB,seval,cR,bD,aS,aU,aT,cT,q12,q13,q15,okz]|refine rd0 rfl ?_)))
   ((first|refine aC (d2) rfl dd ?_|refine aJ (d2) rfl dd ?_);(repeat (first|simp only[↓QA,QB,seval,cR,bD,aS,aU,aT,cT,q12,q13,q15,okz]|refine rd0 rfl ?_)))
   ((first|refine aC (d3) rfl dd ?_|refine aJ (d3) rfl dd ?_);(repeat (first|simp only[↓QA,QB,seval,cR,bD,aS,aU,aT,cT,q12,q13,q15,okz]|refine rd0 rfl ?_)))
   ((first|refine aC (d4) rfl dd ?_|refine aJ (d4) rfl dd ?_);(repeat (first|simp only[↓QA,QB,seval,cR,bD,aS,aU,aT,cT,q12,q13,q15,okz,hb2,hb3]|refine rd0 rfl ?_)))
   (repeat (first|simp only[↓QA,QB,seval,cR,bD,aS,aU,aT,cT,q12,q13,q15,okz,okn,okm,hb2,hb3]|refine rd0 rfl ?_))
   ((first|refine bH (eK [0] [0] (by simp) (by simp)) (by simp[clr,clrs,ints]) (by simp[okV,okVs]) ?_|refine fX (eK [0] [0] (by simp) (by simp)) (by simp[clr,clrs,ints]) (by simp[okV,okVs]) ?_);(repeat (first|simp only[↓QA,QB,seval,cR,bD,aS,aU,aT,cT,eq_self]|refine rd0 rfl ?_)))
   ((first|refine aC (a7) rfl dd ?_|refine aJ (a7) rfl dd ?_);(repeat (first|simp only[↓QA,QB,seval,cR,bD,aS,aU,aT,cT,q12,q13,q15,okz,okn,okm,hb2,hb3]|refine rd0 rfl ?_)))
   ((first|refine aC (a10) rfl dd ?_|refine aJ (a10) rfl dd ?_);(repeat (first|simp only[↓QA,QB,seval,cR,bD,aS,aU,aT,cT,q12,q13,q15,okz,okn,okm,hb2,hb3]|refine rd0 rfl ?_)))
theorem HL(c:Tu.Car)(hf:Tu.Fits c)(X0 X1:Nat)(h0:X0<256)(h1:X1<256):cY T 6 [Tu.encCar c,.agg [.int .u8 X0,.int .u8 X1]] (.bool true):=by
 by_cases hb:Tu.lotErr c 0=0
 ·exact JB c hf X0 X1 h0 h1 hb
 ·exact OC c hf X0 X1 hb
end Go.Am.Room
