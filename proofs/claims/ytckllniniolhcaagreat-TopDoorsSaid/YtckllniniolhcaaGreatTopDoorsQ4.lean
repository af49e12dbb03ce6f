/- A part of the proof of TopDoors: an abstract machine, or what functions come to on it. -/
import Derived.Test.YtckllniniolhcaaGreatTopDoorsQ3
open Nat (reduceLT reduceEqDiff reduceAdd reduceLeDiff reduceMul)
set_option linter.unusedVariables false
set_option linter.unusedSimpArgs false
set_option linter.defProp false
set_option maxRecDepth 4000
namespace Go.Am.Room.Do
def dW:=zz @cN (zz @aP (zz @dB (zz @aY (zz @bA (zz @bK (zz @dO (zz @bN (zz @bL (zz @eW (zz @kR (zz @WI (zz @uV (zz @yE (@uI))))))))))))))
theorem DZ(l:List (List Tn)):aF 1 (l.map tns)=true:=n9 1 tns l fun x=>QZ _ _ _
def iZ(v:Voy)(bl but:List Int)(k:Nat):List (List Tn):=(List.range k).map fun (h:Nat)=>bZ v (h:Int) bl but
def pR(v:Voy)(bl but:List Int)(k:Nat):Bool:=(iZ v bl but k).all fun x=>!x.isEmpty
theorem t9(v:Voy)(bl but:List Int)(k:Nat):iZ v bl but (k+1)=iZ v bl but k++[bZ v (k:Int) bl but]:=by simp[iZ,List.range_succ]
theorem AH(v:Voy)(bl but:List Int)(k:Nat):pR v bl but (k+1)=(pR v bl but k&&!(bZ v (k:Int) bl but).isEmpty):=by simp[pR,t9,List.all_append]
theorem R0 {v:Voy} {bl but:List Int} {k:Nat} (h:pR v bl but k=false):∀ j,k≤j→pR v bl but j=false:=by
  intro j hj
  induction j with
  | zero => have : k = 0 := by omega
            subst this;exact h
  |succ j ih =>
    by_cases hk:k=j+1
    · subst hk;exact h
    · rw [AH,ih (by omega),Bool.false_and]
theorem yZ(v:Voy)(but bl:List Int):nX v but bl=if pR v bl but v.lots.toNat=true then some ⟨bl,iZ v bl but v.lots.toNat⟩ else none:=rfl
theorem AD{v:Voy}(hv:Vd v)(but:List Int):(aI v but).length<=16:=Nat.le_trans (List.length_filterMap_le _ _) (tH hv).1
theorem OT(v:Voy)(hv:Vd v)(but:List Int)(hbu:but.length<9223372036854775808)(bl:List Int)(hbl:bl.length<=4)(hop:∀ d∈bl,0<=d/\d<v.doors.length)(k:Nat)(hk:k<(dM v).length)(hkb:(dM v)[k]=bl)(acc:List Truth)(ex:Bool)(e:Env)(K:KJ)(e1:Env.get e 1=aK but)(e2:Env.get e 2 = .ptr 0 0)(e5:Env.get e 5=fA (dM v))(e6:Env.get e 6 = .lit (acc.map eC) false (some 1))(e7:Env.get e 7 = .int .i64 k)(e8:Env.get e 8 = .ptr 2 0)(e9:Env.get e 9 = .bool true)(e10:Env.get e 10 = .int .i64 0)(hK:∀ e' xs f tk τ,(∀ t,tk=some t->2<t)->(pR v bl but v.lots.toNat=true->xs=(iZ v bl but v.lots.toNat).map tns)->Env.get e' 1=aK but->Env.get e' 2 = .ptr 0 0->Env.get e' 5=fA (dM v)->Env.get e' 6 = .lit (acc.map eC) false (some 1)->Env.get e' 7 = .int .i64 k->Env.get e' 8 = .ptr 2 0->Env.get e' 9 = .bool (pR v bl but v.lots.toNat) ->
   K (some (.exit 2)) e' (.cells (aB v)::.tok 2 acc.length ex::.cells [.lit (bl.map (.int .i64)) false none,.lit xs f tk]::τ)):
  rK (K:=⟨K⟩) T (.loop FI) e [.cells (aB v),.tok 2 acc.length ex,.cells [.lit (bl.map (.int .i64)) false none,.lit [] true none]]:=by
 have hno:=hv.lots;refine cY (S:=Nat×Bool×Option Nat×St) (0,true,none,[]) (fun a=>a.1<=v.lots.toNat/\∀ t,a.2.2.1=some t->2<t/\t<3+a.2.2.2.length) (fun a=>v.lots.toNat-a.1)
  (fun a=>[(1,aK but),(2,.ptr 0 0),(5,fA (dM v)),(6,.lit (acc.map eC) false (some 1)),(7,.int .i64 k),(8,.ptr 2 0),(9,.bool (pR v bl but a.1)),(10,.int .i64 a.1)])
  (fun a=>.cells (aB v)::.tok 2 acc.length ex::.cells [.lit (bl.map (.int .i64)) false none,.lit ((iZ v bl but a.1).map tns) a.2.1 a.2.2.1]::a.2.2.2) ⟨Nat.zero_le _,fun t h=>by cases h⟩ rfl ?_ fun a ha=>?_
 ·try simp only[aD,QE,seval,dW,e1,e2,e5,e6,e7,e8,e9,e10]
  try simp[pR,iZ]
 ·obtain⟨h,f,tk,τ⟩:=a;obtain⟨hh,htk⟩:=ha;simp only at hh htk;by_cases hh1:h<v.lots.toNat
  ·have g:decide ((h:Int)<v.lots)=true:=by simp;omega
   have hw:=cB hh1 (by omega);have hsucc:=t9 v bl but h;have hall:=AH v bl but h;cases hc:pR v bl but h
   ·have hfull:=R0 hc v.lots.toNat hh
    (repeat (first|simp only[↓QA,QB,seval,dW,FI,g]|refine rd0 rfl ?_))
    have hk0:=hK;rw[aP,hfull] at hk0;refine hk0 _ _ f tk τ (fun t ht=>(htk t ht).1) (fun h=>by cases h) ?_ ?_ ?_ ?_ ?_ ?_ ?_;all_goals try simp only[aD,QE,seval,dW]
   ·rw[hc,Bool.true_and] at hall;obtain⟨l,hl⟩:∃ l,bZ v (h:Int) bl but=l:=⟨_,rfl⟩;have hll:=B1 hv (h:Int) bl but hbl;have hst:=M4 v hv (h:Int) bl but hop hbl hbu;rw[hl] at hst hsucc hall hll;have hlenp:decide ((0:Int)<(l.length:Int)) = !l.isEmpty:=by cases l<;>simp
    obtain⟨xs,hxs⟩:∃ xs,(iZ v bl but h).map tns=xs:=⟨_,rfl⟩;have hxl:xs.length<=4:=by rw[<-hxs];simp[iZ];omega
    have hxa:aF 1 xs=true:=by rw[<-hxs];exact DZ _
    have a0:∀ (σ:St),bT 1 24 σ (.lit [] true none) (.lit xs f tk)=some ((sN 1 σ xs).1,(sN 1 σ xs).2):=fun σ=>KW ⟨rfl,hxa,by simp[room];omega,by simp[room];omega⟩
    have a1:∀ (σ:St),bT 1 24 (sN 1 σ xs).2 (sN 1 σ xs).1 (.lit [.lit (l.map fO) false none] true none)=some (.lit (xs++[.lit (l.map fO) false none]) false (some σ.length),σ++[.tok 1 (xs.length+1) true]):=fun σ=>by
     rw[CI ⟨hxa,by simp[aF,AV.cells,AV.cell],by simp[room];omega,by simp[room];omega⟩ (by simp)];simp
    simp only[hxs]
    (repeat (first|simp only[↓QA,QB,seval,dW,FI,g,hk,hkb,fA,aK,lL]|refine rd0 rfl ?_))
    ((first|refine aE (hst) rfl dd ?_|refine aQ (hst) rfl dd ?_);(repeat (first|simp only[↓QA,QB,seval,dW,hlenp,a0,a1,hk,hkb,fA,aK,lL]|refine rd0 rfl ?_)))
    refine⟨(h+1,false,some (τ.length+1+1+1),τ++[.tok 1 (xs.length+1) true]),⟨by simp only;omega,fun t ht=>by simp only[Option.some.injEq] at ht;subst ht;simp only[List.length_append,List.length_cons,List.length_nil];omega⟩,by simp only;omega,?_⟩;rw[hsucc,hall,List.map_append,hxs];try simp only[aD,QE,seval,dW,hw,List.map_append,List.map_cons,List.map_nil,List.length_append,fA,aK,lL]
    try simp[aO,okVs,okV]
    exact⟨qF (b9 (cE .i64) bl) _,AU (qF (by rw[<-hxs];exact b9 nV _) _) (qF (aM (nV l) bM) _)⟩
  ·have g:decide ((h:Int)<v.lots)=false:=by simp;omega
   obtain rfl:h=v.lots.toNat:=by omega
   (repeat (first|simp only[↓QA,QB,seval,dW,FI,g]|refine rd0 rfl ?_))
   have hk0:=hK;rw[aP] at hk0;refine hk0 _ _ f tk τ (fun t ht=>(htk t ht).1) (fun _=>rfl) ?_ ?_ ?_ ?_ ?_ ?_ ?_;all_goals try simp only[aD,QE,seval,dW]
theorem xQ(l:List Truth):aF 2 (l.map eC)=true:=n9 2 eC l fun x=>by simp[bD,eC,AV.cells,AV.cell,aK,fA]
theorem JL(v:Voy)(hv:Vd v)(but:List Int)(hbu:but.length<9223372036854775808):aV T 61 [encVoy v,aK but] (nG (aI v but)):=by
 refine aS (af:=a61) rfl (by simp[a61]) dd ?_;have hno:=hv.lots;have hss:=tH hv;obtain⟨R,hR⟩:∃ R,aI v but=R:=⟨_,rfl⟩;have hRl:=AD hv but;have hR':[]++((dM v).drop 0).filterMap (nX v but)=R:=hR;rw[hR] at hRl ⊢;try simp only[↓QA,QB,seval,dW,a61]
 (refine aE (UX v hv) rfl dd ?_;try simp only[↓QA,QB,seval,dW])
 refine qO 6 2 [] rfl ?_;refine cY (S:=Nat×List Truth×Bool) (0,[],false) (fun a=>a.1<=(dM v).length/\a.2.1++((dM v).drop a.1).filterMap (nX v but)=R) (fun a=>(dM v).length-a.1)
  (fun a=>[(1,aK but),(2,.ptr 0 0),(5,fA (dM v)),(6,.lit (a.2.1.map eC) false (some 1)),(7,.int .i64 a.1)])
  (fun a=>[.cells (aB v),.tok 2 a.2.1.length a.2.2]) ⟨Nat.zero_le _,hR'⟩ (by simp[aB,aK]) ?_ fun a ha=>?_
 ·try simp only[aD,QE,seval,dW]
  try simp
 ·obtain⟨k,acc,ex⟩:=a;obtain⟨hk,hacc⟩:=ha;simp only at hk hacc;try simp only[↓QA,QB,seval,dW,aB1,fA]
  refine aG (fun hd=>?_) fun hd=>?_
  ·have hk1:k<(dM v).length:=by simpa using hd
   have hw:=cB hk1 (by omega);obtain⟨bl,hbl⟩:∃ bl,(dM v)[k]=bl:=⟨_,rfl⟩;have hbll:=hss.2 _ (List.getElem_mem hk1);rw[hbl] at hbll;rw[List.drop_eq_getElem_cons hk1,hbl,List.filterMap_cons] at hacc;have hal:acc.length<=16:=by
    have:=congrArg List.length hacc;simp only[List.length_append] at this;omega
   have hop:∀ d∈bl,0<=d/\d<v.doors.length:=fun d hd=>by
    have:=uK.1 (show bl∈dM v by rw[<-hbl];exact List.getElem_mem hk1);have:=vH this hd;omega
   have hin:=OT v hv but hbu bl hbll hop k hk1 hbl acc ex;rw[aP] at hin;have hap:=fun (y:AV) (hy:aF 2 [y]=true) (τ:St)=>sE (σ:=.cells (aB v)::.tok 2 acc.length ex::τ) (t:=1) (ex:=ex) (sz:=2) (b:=48) (xs:=acc.map eC) (ys:=[y]) (f:=true) (tk:=none) ⟨xQ acc,hy,by simp[room];omega,by simp[room];omega⟩ (by simp) acc.length (by simp) rfl
   rw[aP] at hap;have hap2:=fun (l:List AV) (f:Bool) (tk:Option Nat)=>hap (.agg [.lit (bl.map (.int .i64)) false none,.lit l f tk]) rfl
   try simp only[↓QA,QB,seval,dW,hk1,hbl,aK,fA,lL]
   refine hin _ _ ?_ ?_ ?_ ?_ ?_ ?_ ?_ ?_ ?_;all_goals try try simp only[aD,QE,seval,dW,fA,aK,lL]
   intro e' xs f tk τ htk hxs q1 q2 q5 q6 q7 q8 q9;cases hall:pR v bl but v.lots.toNat
   ·rw[yZ,hall] at hacc;rw[hall] at q9;try simp only[↓QA,QB,seval,dW,q1,q2,q5,q6,q7,q8,q9,aK,fA,lL]
    refine⟨(k+1,acc,ex),⟨by simp only;omega,by simpa using hacc⟩,by simp only;omega,?_⟩;try simp only[aD,QE,seval,dW,q1,q2,q5,q6,q7,q8,q9,hw,aK,fA,lL]
    try simp[aO]
   ·rw[yZ,hall] at hacc;rw[hall] at q9;rw[hxs hall];try simp only[↓QA,QB,seval,dW,q1,q2,q5,q6,q7,q8,q9,aK,fA,lL,hap2]
    refine⟨(k+1,acc++[⟨bl,iZ v bl but v.lots.toNat⟩],true),⟨by simp only;omega,by simpa using hacc⟩,by simp only;omega,?_⟩;cases tk with
    |none =>
     try simp only[aD,QE,seval,dW,q1,q2,q5,q6,q7,q8,q9,hw,aK,fA,lL,List.map_append,List.map_cons,List.map_nil,List.length_append,qZ,Bool.and_false]
     try simp[aO]
    |some t =>
     have h2:=htk t rfl;try simp only[aD,QE,seval,dW,q1,q2,q5,q6,q7,q8,q9,hw,aK,fA,lL,List.map_append,List.map_cons,List.map_nil,List.length_append,qZ,Bool.and_false,Nat.not_lt.2 (Nat.le_of_lt h2)]
     try simp[aO]
  ·have hk1:k=(dM v).length:=by simp at hd;omega
   rw[hk1,List.drop_length] at hacc;simp only[List.filterMap_nil,List.append_nil] at hacc;subst hacc;try simp only[↓QA,QB,seval,dW,nG]
   try try simp only[QS,QC,seval,dW]
end Go.Am.Room.Do
namespace Go.Am.Room.Do
def pU(x:Span×Int×Int):AV:=.tuple [oR x.1,.int .i64 x.2.1,.int .i64 x.2.2]
def jG(x:List Int×Int):AV:=.tuple [aK x.1,.int .i64 x.2]
def DT(x:List Int×List Int×Int):AV:=.tuple [aK x.1,aK x.2.1,.int .i64 x.2.2]
theorem KO(v:Voy):clrs [encVoy v,.lit [] true none]=[encVoy v,aK []]:=by simp[clrs,(zM v).2,clr,aK]
theorem yU(v:Voy):okVs 0 [encVoy v,.lit [] true none]:=⟨(zM v).1,by simp[okV,okVs],trivial⟩
theorem nU{v:Voy}{n:Int}(h:mZ v n=0):Vd v/\0<=n/\n<v.lots:=by
 unfold mZ at h;split at h
 ·rename_i h0;split at h
  ·rename_i h1;have:=eI.1 h1;exact⟨gM h0,by omega,by omega⟩
  ·omega
 ·rename_i h0;exact absurd h h0
theorem gE{v:Voy}{e:Int}(h:fV v e=0):e=0/\aI v []≠[]:=by
 unfold fV at h;split at h
 ·rename_i h0;split at h
  ·omega
  ·rename_i h1;exact⟨h0,by simpa using h1⟩
 ·rename_i h0;exact absurd h h0
structure TOk (v:Voy) (t:Truth):Prop where
 len:t.turns.length=v.lots.toNat
 op:t.op.length<=4
 ops:∀ d∈t.op,0<=d/\d<v.doors.length
 tn:∀ x∈t.turns,x.length<=37
theorem aF3{v:Voy}(hv:Vd v){but:List Int}{t:Truth}(h:t∈aI v but):TOk v t:=by
 obtain⟨h1,h2,h3⟩:=fF.1 h;have ho:=(tH hv).2 _ h1;refine⟨by rw[h2];simp,ho,fun d hd=>by have:=vH (uK.1 h1) hd;omega,fun x hx=>?_⟩;rw[h2] at hx;obtain⟨k,hk,rfl⟩:=List.mem_map.1 hx;exact B1 hv _ _ _ ho
end Go.Am.Room.Do
namespace Go.Am.Room.Do
def l0{α:Type}(p:α->Bool):List α->Nat->Int
 |[],_=>-1
 |x::xs,k=>if p x then k else l0 p xs (k+1)
theorem wB{α:Type}(p:α->Bool):∀ (l:List α) (k:Nat),decide (0<=l0 p l k)=l.any p
 |[],k=>by simp[l0]
 |x::xs,k=>by
  cases h:p x
  ·simp[l0,h,wB p xs (k+1)]
  ·simp[l0,h]
theorem NN(σ:St)(f:AV)(l:List Int)(p:Int->Bool)(hl:l.length<9223372036854775808)(hk:vC σ f)(h:∀ x∈l,lK T f [.int .i64 x] σ (.bool (p x))):lK T (.func 257 [] []) [aK l,f] σ (.int .i64 (l0 p l 0)):=by
 refine fZ (af:=VU) rfl (by simp[VU]) ?_;have hk0:=hk.nil;try simp only[↓QA,QB,seval,VU]
 refine cY (S:=Nat) 0 (fun k=>k<=l.length/\l0 p (l.drop k) k=l0 p l 0) (fun k=>l.length-k) (fun k=>[(0,aK l),(1,f),(7,.int .i64 l.length),(8,.int .i64 k)]) (fun _=>σ) ⟨Nat.zero_le _,by simp⟩ rfl ?_ fun k hk1=>?_
 ·try simp only[aD,QE,seval]
  try simp
 ·obtain⟨hkl,hi⟩:=hk1;try simp only[↓QA,QB,seval,P4]
  refine aG (fun hd=>?_) fun hd=>?_
  ·have hlt:k<l.length:=by simpa using hd
   rw[List.drop_eq_getElem_cons hlt] at hi;simp only[l0] at hi;have hw:=cB hlt hl;try simp only[↓QA,QB,seval,hlt]
   refine dJ (h l[k] (List.getElem_mem hlt)) ?_;try simp only[↓QA,QB,seval]
   cases hp:p l[k]
   ·try simp only[↓QA,QB,seval,hw]
    refine⟨k+1,⟨by omega,by rw[<-hi,hp];rfl⟩,by omega,?_⟩;try simp only[aD,QE,seval,hw,hk0,Nat.le_refl]
   ·try simp only[↓QA,QB,seval]
    refine gB [] (by first|rfl|simp) ?_;rw[<-hi,hp];try simp only[QS,QC,seval]
  ·have hlt:k=l.length:=by simp at hd;omega
   try simp only[↓QA,QB,seval]
   refine gB [] (by first|rfl|simp) ?_;rw[<-hi,hlt,List.drop_length];try simp only[QS,QC,seval,l0]
theorem tV(σ:St)(f:AV)(l:List Int)(p:Int->Bool)(hl:l.length<9223372036854775808)(hk:vC σ f)(h:∀ x∈l,lK T f [.int .i64 x] σ (.bool (p x))):lK T (.func 356 [] []) [aK l,f] σ (.bool (l.any p)):=by
 refine fZ (af:=SI) rfl (by simp[SI]) ?_;try simp only[↓QA,QB,seval,SI]
 refine dJ (NN σ f l p hl hk h) ?_;try simp only[↓QA,QB,seval]
 refine gB [] (by first|rfl|simp) ?_;rw[<-wB p l 0];try simp only[QS,QC,seval]
def kO(lo hi n:Int):Bool:=decide (n<lo)||decide (hi<n)
theorem HX(lo hi n:Int):lK T (.func 413 [] [.ptr 0 0,.ptr 1 0]) [.int .i64 n] [.cells [.int .i64 lo],.cells [.int .i64 hi]] (.bool (kO lo hi n)):=by
 refine fZ (af:=V4) rfl (by simp[V4]) ?_;try simp only[↓QA,QB,seval,V4]
 refine aG (fun h=>?_) fun h=>?_
 all_goals
  try simp only[↓QA,QB,seval,h]
  refine gB [] (by first|rfl|simp) ?_;try simp only[QS,QC,seval,kO,h]
  try simp
def qC(lo hi:Int)(ns:List Int):Bool:=ns.any (kO lo hi)
theorem eX(lo hi:Int)(ns:List Int)(hl:ns.length<9223372036854775808):aV T 295 [.int .i64 lo,.int .i64 hi,aK ns] (.bool (qC lo hi ns)):=by
 refine aS (af:=SG) rfl (by simp[SG]) dd ?_;try simp only[↓QA,QB,seval,SG]
 refine dJ (tV _ _ ns (kO lo hi) hl (fun τ=>?_) fun x _=>HX lo hi x) ?_
 ·try simp only[QS,QC,seval]
 ·try simp only[↓QA,QB,seval,qC]
theorem ZW(lo hi n:Int):lK T (.func 378 [] [.ptr 0 0,.ptr 1 0]) [.int .i64 n] [.cells [.int .i64 lo],.cells [.int .i64 hi]] (.bool (kO lo hi n)):=by
 refine fZ (af:=PH) rfl (by simp[PH]) ?_;try simp only[↓QA,QB,seval,PH]
 refine aG (fun h=>?_) fun h=>?_
 all_goals
  try simp only[↓QA,QB,seval,h]
  refine gB [] (by first|rfl|simp) ?_;try simp only[QS,QC,seval,kO,h]
  try simp
theorem aCZ(lo hi:Int)(ns:List Int)(hl:ns.length<9223372036854775808):aV T 244 [.int .i64 lo,.int .i64 hi,aK ns] (.bool (qC lo hi ns)):=by
 refine aS (af:=UI) rfl (by simp[UI]) dd ?_;try simp only[↓QA,QB,seval,UI]
 refine dJ (tV _ _ ns (kO lo hi) hl (fun τ=>?_) fun x _=>ZW lo hi x) ?_
 ·try simp only[QS,QC,seval]
 ·try simp only[↓QA,QB,seval,qC]
theorem xH (s:ByteArray):∀ n k,k≤n→fM s k=false→fM s n=false
  | 0, k, h, h1 => by have : k = 0 := by omega
                      subst this;exact h1
  |n+1,k,h,h1=>by
    by_cases hk:k=n+1
    · subst hk;exact h1
    · simp [fM,xH s n k (by omega) h1]
theorem jE(lo hi n:Int):qC lo hi [n] = !inR n lo hi:=by
 rw[Bool.eq_iff_iff];simp[qC,kO,inR]
theorem W3(lo hi n m:Int):qC lo hi [n,m]=(!inR n lo hi||!inR m lo hi):=by
 rw[Bool.eq_iff_iff];simp[qC,kO,inR]
theorem wT(s:ByteArray)(hs:s.size<9223372036854775808):aV T 111 [.str s] (.bool (mR s)):=by
 refine aS (af:=RG) rfl (by simp[RG]) dd ?_;try simp only[↓QA,QB,seval,RG]
 refine cY (S:=Nat) 0 (fun k=>k<=s.size/\fM s k=true) (fun k=>s.size-k) (fun k=>[(0,.str s),(7,.ptr 0 0)]) (fun k=>[.siter s k]) ⟨Nat.zero_le _,rfl⟩ rfl ?_ fun k hk=>?_
 ·try simp only[aD,QE,seval]
  try simp
 ·obtain⟨hkl,hok⟩:=hk;by_cases hk1:k<s.size
  ·obtain⟨R,hR⟩:∃ R:Int,((Utf8.decode s k).1:Int)=R:=⟨_,rfl⟩;obtain⟨W,hW⟩:∃ W,(Utf8.decode s k).2=W:=⟨_,rfl⟩;have hstep:fM s (k+1)=zR k (dE s k):=by simp[fM,hok]
   have hbl:=CV s k;have key:(97<=R/\R<=122\/0<k/\(R=46\/48<=R/\R<=57))->W=1/\fM s (k+1)=true:=by
    intro h;by_cases hb:dE s k<128
    ·have:=tW hk1 hb;rw[this] at hR hW;have hR':R=dE s k:=by simp at hR;omega
     refine⟨hW.symm,?_⟩;rw[hstep,zR,<-hR'];simp[inR];omega
    ·have:=HO hk1 (by omega);omega
   have key2:¬(97<=R/\R<=122\/0<k/\(R=46\/48<=R/\R<=57))->mR s=false:=by
    intro h;have:fM s (k+1)=false:=by
     rw[hstep,zR];by_cases hb:dE s k<128
     ·have:=tW hk1 hb;rw[this] at hR hW;have hR':R=dE s k:=by simp at hR;omega
      rw[<-hR'];simp[inR];omega
     ·simp[inR];omega
    simp[mR,xH s s.size (k+1) (by omega) this]
   have go:∀ (e:Env),W=1/\fM s (k+1)=true->Env.get e 0 = .str s->Env.get e 7 = .ptr 0 0->∃ s',(s'<=s.size/\fM s s'=true)/\s.size-s'<s.size-k/\aD [.siter s k] e [.siter s (k+W)] [(0,.str s),(7,.ptr 0 0)] [.siter s s']:=by
    intro e h e0 e7;refine⟨k+1,⟨by omega,h.2⟩,by omega,?_⟩;try simp only[aD,QE,seval,e0,e7,h.1]
    try simp[aO]
   try simp only[↓QA,QB,seval,IY,TS hk1,hR,hW]
   cases h1:decide (97<=R)
   ·have h1':¬97<=R:=by simpa using h1
    try simp only[↓QA,QB,seval,h1]
    cases h3:((k:Int)==0)
    ·have h3':0<k:=by simp at h3;omega
     try simp only[↓QA,QB,seval,h3]
     cases h4:(R==46)
     ·have h4':R≠46:=by simpa using h4
      try simp only[↓QA,QB,seval,h4]
      cases h5:decide (R<48)
      ·have h5':¬R<48:=by simpa using h5
       try simp only[↓QA,QB,seval,h5]
       cases h6:decide (57<R)
       ·have h6':¬57<R:=by simpa using h6
        try simp only[↓QA,QB,seval,h6]
        exact go _ (key (by omega)) (by try simp only[aD,QE,seval]) (by try simp only[aD,QE,seval])
       ·have h6':57<R:=by simpa using h6
        rw[key2 (by omega)];try simp only[↓QA,QB,seval,h6]
      ·have h5':R<48:=by simpa using h5
       rw[key2 (by omega)];try simp only[↓QA,QB,seval,h5]
     ·have h4':R=46:=by simpa using h4
      try simp only[↓QA,QB,seval,h4]
      exact go _ (key (by omega)) (by try simp only[aD,QE,seval]) (by try simp only[aD,QE,seval])
    ·have h3':k=0:=by simp at h3;omega
     rw[key2 (by omega)];try simp only[↓QA,QB,seval,h3]
   ·have h1':97<=R:=by simpa using h1
    try simp only[↓QA,QB,seval,h1]
    cases h2:decide (R<=122)
    ·have h2':¬R<=122:=by simpa using h2
     try simp only[↓QA,QB,seval,h2]
     cases h3:((k:Int)==0)
     ·have h3':0<k:=by simp at h3;omega
      try simp only[↓QA,QB,seval,h3]
      cases h4:(R==46)
      ·have h4':R≠46:=by simpa using h4
       try simp only[↓QA,QB,seval,h4]
       cases h5:decide (R<48)
       ·have h5':¬R<48:=by simpa using h5
        try simp only[↓QA,QB,seval,h5]
        cases h6:decide (57<R)
        ·have h6':¬57<R:=by simpa using h6
         try simp only[↓QA,QB,seval,h6]
         exact go _ (key (by omega)) (by try simp only[aD,QE,seval]) (by try simp only[aD,QE,seval])
        ·have h6':57<R:=by simpa using h6
         rw[key2 (by omega)];try simp only[↓QA,QB,seval,h6]
       ·have h5':R<48:=by simpa using h5
        rw[key2 (by omega)];try simp only[↓QA,QB,seval,h5]
      ·have h4':R=46:=by simpa using h4
       try simp only[↓QA,QB,seval,h4]
       exact go _ (key (by omega)) (by try simp only[aD,QE,seval]) (by try simp only[aD,QE,seval])
     ·have h3':k=0:=by simp at h3;omega
      rw[key2 (by omega)];try simp only[↓QA,QB,seval,h3]
    ·have h2':R<=122:=by simpa using h2
     try simp only[↓QA,QB,seval,h2]
     exact go _ (key (by omega)) (by try simp only[aD,QE,seval]) (by try simp only[aD,QE,seval])
  ·have hk2:k=s.size:=by omega
   try simp only[↓QA,QB,seval,IY,QF hk1]
   (refine cS (aCZ 1 16 [(s.size:Int)] (by simp)) (by simp[clr,clrs,aK]) (by simp[okV,okVs]) ?_;try simp only[↓QA,QB,seval])
   rw[jE];try simp only[↓QA,QB,seval]
   simp[mR,<-hk2,hok]
def eG{α:Type}(gC most:Int)(of:Nat->α->Int)(l:List α):Int×Int:=if inR l.length gC most=false then (0,3) else match bC of l 0 with|some (i,e)=>(i,e)|none=>(0,0)
def kA(x:Int×Int):AV:=.tuple [.int .i64 x.1,.int .i64 x.2]
theorem zQ{α:Type}(f:α->ByteArray)(s:ByteArray):∀ l:List α,l.any (fun x=>decide (f x=s))=decide (iJ s (l.map f)≠(l.map f).length)
 |[]=>by simp[iJ]
 |x::xs=>by
  simp only[List.any_cons,zQ f s xs,List.map_cons,iJ,List.length_cons];by_cases h:f x=s
  ·simp[h]
  ·simp[h]
end Go.Am.Room.Do
namespace Go.Am.Room.Do
def aC:=zz @cN (zz @aP (zz @dB (zz @aY (zz @bA (zz @bK (zz @dO (zz @bN (@bL))))))))
theorem P7(σ:St)(f:AV)(l:List Kp)(p:Kp->Bool)(hl:l.length<9223372036854775808)(hk:vC σ f)(h:∀ x∈l,lK T f [fH x] σ (.bool (p x))):lK T (.func 414 [] []) [.lit (l.map fH) false none,f] σ (.int .i64 (l0 p l 0)):=by
 refine fZ (af:=PL) rfl (by simp[PL]) ?_;have hk0:=hk.nil;try simp only[↓QA,QB,seval,aC,PL]
 refine cY (S:=Nat) 0 (fun k=>k<=l.length/\l0 p (l.drop k) k=l0 p l 0) (fun k=>l.length-k) (fun k=>[(0,.lit (l.map fH) false none),(1,f),(7,.int .i64 l.length),(8,.int .i64 k)]) (fun _=>σ) ⟨Nat.zero_le _,by simp⟩ rfl ?_ fun k hk1=>?_
 ·try simp only[aD,QE,seval,aC]
  try simp
 ·obtain⟨hkl,hi⟩:=hk1;try simp only[↓QA,QB,seval,aC,RJ]
  refine aG (fun hd=>?_) fun hd=>?_
  ·have hlt:k<l.length:=by simpa using hd
   rw[List.drop_eq_getElem_cons hlt] at hi;simp only[l0] at hi;have hw:=cB hlt hl;try simp only[↓QA,QB,seval,aC,hlt]
   refine dJ (h l[k] (List.getElem_mem hlt)) ?_;try simp only[↓QA,QB,seval,aC]
   cases hp:p l[k]
   ·try simp only[↓QA,QB,seval,aC,hw]
    refine⟨k+1,⟨by omega,by rw[<-hi,hp];rfl⟩,by omega,?_⟩;try simp only[aD,QE,seval,aC,hw,hk0,Nat.le_refl,dO]
   ·try simp only[↓QA,QB,seval,aC]
    refine gB [] (by first|rfl|simp) ?_;rw[<-hi,hp];try simp only[QS,QC,seval,aC]
  ·have hlt:k=l.length:=by simp at hd;omega
   try simp only[↓QA,QB,seval,aC]
   refine gB [] (by first|rfl|simp) ?_;rw[<-hi,hlt,List.drop_length];try simp only[QS,QC,seval,aC,l0]
theorem G9(σ:St)(f:AV)(l:List Kp)(p:Kp->Bool)(hl:l.length<9223372036854775808)(hk:vC σ f)(h:∀ x∈l,lK T f [fH x] σ (.bool (p x))):lK T (.func 299 [] []) [.lit (l.map fH) false none,f] σ (.bool (l.any p)):=by
 refine fZ (af:=QL) rfl (by simp[QL]) ?_;try simp only[↓QA,QB,seval,aC,QL]
 refine dJ (P7 σ f l p hl hk h) ?_;try simp only[↓QA,QB,seval,aC]
 refine gB [] (by first|rfl|simp) ?_;rw[<-wB p l 0];try simp only[QS,QC,seval,aC]
theorem KK(σ:St)(f:AV)(l:List Kp)(gC most:Int)(of:Nat->Kp->Int)(hl:l.length<9223372036854775808)(hk:vC σ f)(h:∀ i (hi:i<l.length),lK T f [.int .i64 i,fH l[i]] (σ++[.cells (fH l[i]).cells]) (.int .i64 (of i l[i]))):lK T (.func 297 [] []) [.lit (l.map fH) false none,.int .i64 gC,.int .i64 most,f] σ (kA (eG gC most of l)):=by
 refine fZ (af:=SZ) rfl (by simp[SZ]) ?_;have hk0:=hk.nil;have hk2:∀ τ,cH (σ++τ) σ.length 20 f=some f:=hk;try simp only[↓QA,QB,seval,aC,SZ]
 (refine cS (eX gC most [(l.length:Int)] (by simp)) (by simp[clr,clrs,aK]) (by simp[okV,okVs]) ?_;try simp only[↓QA,QB,seval,aC,jE])
 cases h1:inR l.length gC most
 ·try simp only[↓QA,QB,seval,aC]
  refine gB [] (by first|rfl|simp) ?_;try simp only[QS,QC,seval,aC,kA,eG,h1]
 ·try simp only[↓QA,QB,seval,aC]
  refine cY (S:=Nat) 0 (fun k=>k<=l.length/\bC of (l.drop k) k=bC of l 0) (fun k=>l.length-k) (fun k=>[(3,f),(19,.lit (l.map fH) false none),(20,.int .i64 l.length),(21,.int .i64 k)]) (fun _=>σ) ⟨Nat.zero_le _,by simp⟩ rfl ?_ fun k hk1=>?_
  ·try simp only[aD,QE,seval,aC]
   try simp
  ·obtain⟨hkl,hi⟩:=hk1;try simp only[↓QA,QB,seval,aC,UW]
   refine aG (fun hd=>?_) fun hd=>?_
   ·have hlt:k<l.length:=by simpa using hd
    have hs:=h k hlt;rw[fY hlt] at hi;have hw:=cB hlt hl;try simp only[↓QA,QB,seval,aC,hlt] at hs
    try simp only[↓QA,QB,seval,aC,hlt]
    refine dJ hs ?_;try simp only[↓QA,QB,seval,aC]
    cases hp:(of k l[k]==0)
    ·have hp':of k l[k]≠0:=by simpa using hp
     rw[if_neg hp'] at hi;try simp only[↓QA,QB,seval,aC,hp]
     refine gB _ rfl ?_;try simp only[QS,QC,seval,aC,kA,eG,h1,<-hi,reduceCtorEq]
    ·have hp':of k l[k]=0:=by simpa using hp
     rw[if_pos hp'] at hi;try simp only[↓QA,QB,seval,aC,hp,hw]
     refine⟨k+1,⟨by omega,hi⟩,by omega,?_⟩;try simp only[aD,QE,seval,aC,hw,hk0,hk2,Nat.le_refl,dO]
   ·have hlt:k=l.length:=by simp at hd;omega
    rw[gT hlt] at hi;try simp only[↓QA,QB,seval,aC]
    refine gB [] (by first|rfl|simp) ?_;try simp only[QS,QC,seval,aC,kA,eG,h1,<-hi,reduceCtorEq]
theorem ED(σ:St)(f:AV)(l:List Door)(gC most:Int)(of:Nat->Door->Int)(hl:l.length<9223372036854775808)(hk:vC σ f)(h:∀ i (hi:i<l.length),lK T f [.int .i64 i,eF l[i]] (σ++[.cells (eF l[i]).cells]) (.int .i64 (of i l[i]))):lK T (.func 302 [] []) [.lit (l.map eF) false none,.int .i64 gC,.int .i64 most,f] σ (kA (eG gC most of l)):=by
 refine fZ (af:=UP) rfl (by simp[UP]) ?_;have hk0:=hk.nil;have hk2:∀ τ,cH (σ++τ) σ.length 20 f=some f:=hk;try simp only[↓QA,QB,seval,aC,UP]
 (refine cS (eX gC most [(l.length:Int)] (by simp)) (by simp[clr,clrs,aK]) (by simp[okV,okVs]) ?_;try simp only[↓QA,QB,seval,aC,jE])
 cases h1:inR l.length gC most
 ·try simp only[↓QA,QB,seval,aC]
  refine gB [] (by first|rfl|simp) ?_;try simp only[QS,QC,seval,aC,kA,eG,h1]
 ·try simp only[↓QA,QB,seval,aC]
  refine cY (S:=Nat) 0 (fun k=>k<=l.length/\bC of (l.drop k) k=bC of l 0) (fun k=>l.length-k) (fun k=>[(3,f),(19,.lit (l.map eF) false none),(20,.int .i64 l.length),(21,.int .i64 k)]) (fun _=>σ) ⟨Nat.zero_le _,by simp⟩ rfl ?_ fun k hk1=>?_
  ·try simp only[aD,QE,seval,aC]
   try simp
  ·obtain⟨hkl,hi⟩:=hk1;try simp only[↓QA,QB,seval,aC,WD]
   refine aG (fun hd=>?_) fun hd=>?_
   ·have hlt:k<l.length:=by simpa using hd
    have hs:=h k hlt;rw[fY hlt] at hi;have hw:=cB hlt hl;try simp only[↓QA,QB,seval,aC,hlt] at hs
    try simp only[↓QA,QB,seval,aC,hlt]
    refine dJ hs ?_;try simp only[↓QA,QB,seval,aC]
    cases hp:(of k l[k]==0)
    ·have hp':of k l[k]≠0:=by simpa using hp
     rw[if_neg hp'] at hi;try simp only[↓QA,QB,seval,aC,hp]
     refine gB _ rfl ?_;try simp only[QS,QC,seval,aC,kA,eG,h1,<-hi,reduceCtorEq]
    ·have hp':of k l[k]=0:=by simpa using hp
     rw[if_pos hp'] at hi;try simp only[↓QA,QB,seval,aC,hp,hw]
     refine⟨k+1,⟨by omega,hi⟩,by omega,?_⟩;try simp only[aD,QE,seval,aC,hw,hk0,hk2,Nat.le_refl,bN]
   ·have hlt:k=l.length:=by simp at hd;omega
    rw[gT hlt] at hi;try simp only[↓QA,QB,seval,aC]
    refine gB [] (by first|rfl|simp) ?_;try simp only[QS,QC,seval,aC,kA,eG,h1,<-hi,reduceCtorEq]
theorem DI(σ:St)(f:AV)(l:List Look)(gC most:Int)(of:Nat->Look->Int)(hl:l.length<9223372036854775808)(hk:vC σ f)(h:∀ i (hi:i<l.length),lK T f [.int .i64 i,bY l[i]] (σ++[.cells (bY l[i]).cells]) (.int .i64 (of i l[i]))):lK T (.func 305 [] []) [.lit (l.map bY) false none,.int .i64 gC,.int .i64 most,f] σ (kA (eG gC most of l)):=by
 refine fZ (af:=RH) rfl (by simp[RH]) ?_;have hk0:=hk.nil;have hk2:∀ τ,cH (σ++τ) σ.length 20 f=some f:=hk;try simp only[↓QA,QB,seval,aC,RH]
 (refine cS (eX gC most [(l.length:Int)] (by simp)) (by simp[clr,clrs,aK]) (by simp[okV,okVs]) ?_;try simp only[↓QA,QB,seval,aC,jE])
 cases h1:inR l.length gC most
 ·try simp only[↓QA,QB,seval,aC]
  refine gB [] (by first|rfl|simp) ?_;try simp only[QS,QC,seval,aC,kA,eG,h1]
 ·try simp only[↓QA,QB,seval,aC]
  refine cY (S:=Nat) 0 (fun k=>k<=l.length/\bC of (l.drop k) k=bC of l 0) (fun k=>l.length-k) (fun k=>[(3,f),(19,.lit (l.map bY) false none),(20,.int .i64 l.length),(21,.int .i64 k)]) (fun _=>σ) ⟨Nat.zero_le _,by simp⟩ rfl ?_ fun k hk1=>?_
  ·try simp only[aD,QE,seval,aC]
   try simp
  ·obtain⟨hkl,hi⟩:=hk1;try simp only[↓QA,QB,seval,aC,TI]
   refine aG (fun hd=>?_) fun hd=>?_
   ·have hlt:k<l.length:=by simpa using hd
    have hs:=h k hlt;rw[fY hlt] at hi;have hw:=cB hlt hl;try simp only[↓QA,QB,seval,aC,hlt] at hs
    try simp only[↓QA,QB,seval,aC,hlt]
    refine dJ hs ?_;try simp only[↓QA,QB,seval,aC]
    cases hp:(of k l[k]==0)
    ·have hp':of k l[k]≠0:=by simpa using hp
     rw[if_neg hp'] at hi;try simp only[↓QA,QB,seval,aC,hp]
     refine gB _ rfl ?_;try simp only[QS,QC,seval,aC,kA,eG,h1,<-hi,reduceCtorEq]
    ·have hp':of k l[k]=0:=by simpa using hp
     rw[if_pos hp'] at hi;try simp only[↓QA,QB,seval,aC,hp,hw]
     refine⟨k+1,⟨by omega,hi⟩,by omega,?_⟩;try simp only[aD,QE,seval,aC,hw,hk0,hk2,Nat.le_refl,bL]
   ·have hlt:k=l.length:=by simp at hd;omega
    rw[gT hlt] at hi;try simp only[↓QA,QB,seval,aC]
    refine gB [] (by first|rfl|simp) ?_;try simp only[QS,QC,seval,aC,kA,eG,h1,<-hi,reduceCtorEq]
theorem SQ(s x:Kp)(b:ABlk)(τ:St):lK T (.func 300 [] [.ptr (τ.length+1) 0]) [fH x] (b::(τ++[.cells (fH s).cells])) (.bool (decide (x.name=s.name))):=by
 refine fZ (af:=PR) rfl (by simp[PR]) ?_;try simp only[↓QA,QB,seval,aC,PR,DD,List.length_append]
 refine gB [.cells [.str x.name,.int .i64 x.frm]] (by first|rfl|simp) ?_;try simp only[QS,QC,seval,aC]
theorem YG(v:Voy)(h:Fits v)(i:Nat)(hi:i<v.keepers.length)(τ:St):lK T (.func 298 [] [.ptr 0 0]) [.int .i64 i,fH v.keepers[i]] (.cells (aB v)::τ) (.int .i64 (nO v i v.keepers[i])):=by
 refine fZ (af:=PX) rfl (by simp[PX]) ?_;have hfk:=h.keepers;have hsz:=h.names _ (List.getElem_mem hi);have hts:(v.keepers.take i).length<9223372036854775808:=by have:=h.keepers;simp;omega
 have he:=AO hi;obtain⟨s,hs⟩:∃ s,v.keepers[i]=s:=⟨_,rfl⟩;have hk:nO v i s=if fresh s.name ((v.keepers.take i).map Kp.name)=0 then (if inR (dV v i) 0 v.hours=false then 7 else if (i=0/\dV v i≠0)\/(0<i/\dV v i<=dV v (i-1)) then 2 else 0) else fresh s.name ((v.keepers.take i).map Kp.name):=rfl
 rw[hs] at hsz he ⊢;obtain⟨E,hE⟩:∃ E,nO v i s=E:=⟨_,rfl⟩;rw[hE] at hk ⊢;obtain⟨F,hF⟩:∃ F,dV v i=F:=⟨_,rfl⟩;rw[hF] at hk he;have fin:∀ (n:Int) (e:Env) (b:List AV),n=E->y6 (some (.int .i64 n)) (.cells (aB v)::τ) (.cells (aB v)::(τ++[.cells b])) (.int .i64 E):=fun n e b hv=>by
  refine gB [.cells b] (by first|rfl|simp) ?_;rw[hv];try simp only[QS,QC,seval,aC]
 simp only[aP] at fin
 (repeat (first|simp only[↓QA,QB,seval,aC,PX]|refine rd0 rfl ?_))
 ((first|refine aE (wT s.name hsz) rfl dd ?_|refine aQ (wT s.name hsz) rfl dd ?_);(repeat (first|simp only[↓QA,QB,seval,aC]|refine rd0 rfl ?_)))
 cases h1:mR s.name
 ·(repeat (first|simp only[↓QA,QB,seval,aC]|refine rd0 rfl ?_))
  exact fin _ [] _ (by rw[hk];simp[fresh,h1])
 ·have hc:=G9 (.cells (aB v)::(τ++[.cells (fH s).cells])) (.func 300 [] [.ptr (τ.length+1) 0]) (v.keepers.take i) (fun x=>decide (x.name=s.name)) hts (fun υ=>by try simp only[QS,QC,seval,aC,List.length_append];simp) fun x _=>SQ s x _ τ
  try simp only[↓QA,QB,seval,aC] at hc
  (repeat (first|simp only[↓QA,QB,seval,aC,aF2 (enc:=fH) (l:=v.keepers) (Nat.le_of_lt hi)]|refine rd0 rfl ?_))
  refine dJ hc ?_;rw[zQ];cases h2:decide (iJ s.name ((v.keepers.take i).map Kp.name)≠((v.keepers.take i).map Kp.name).length)
  ·have h2':iJ s.name ((v.keepers.take i).map Kp.name)=((v.keepers.take i).map Kp.name).length:=by simpa using h2
   have hf:fresh s.name ((v.keepers.take i).map Kp.name)=0:=by simp only[fresh,h1,h2'];simp
   rw[hf] at hk;simp only[if_true] at hk
   (repeat (first|simp only[↓QA,QB,seval,aC]|refine rd0 rfl ?_))
   ((first|refine cS (eX 0 v.hours [s.frm] (by simp)) (by simp[clr,clrs,aK]) (by simp[okV,okVs]) ?_|refine pG (eX 0 v.hours [s.frm] (by simp)) (by simp[clr,clrs,aK]) (by simp[okV,okVs]) ?_);(repeat (first|simp only[↓QA,QB,seval,aC,jE,<-he]|refine rd0 rfl ?_)))
   cases h3:inR F 0 v.hours
   ·rw[h3] at hk
    (repeat (first|simp only[↓QA,QB,seval,aC]|refine rd0 rfl ?_))
    exact fin _ [] _ (by rw[hk];rfl)
   ·have h3':=eI.1 h3;rw[h3] at hk;simp only[Bool.true_eq_false,if_false] at hk;by_cases h0:i=0
    ·subst h0;cases h4:decide (0<F)
     ·have h4':¬0<F:=by simpa using h4
      (repeat (first|simp only[↓QA,QB,seval,aC,h4,<-he,show (((0:Nat):Int)==0)=true from rfl,show decide ((0:Int)<((0:Nat):Int))=false from rfl]|refine rd0 rfl ?_))
      exact fin _ [] _ (by rw[hk,if_neg (by omega)])
     ·have h4':0<F:=by simpa using h4
      (repeat (first|simp only[↓QA,QB,seval,aC,h4,<-he,show (((0:Nat):Int)==0)=true from rfl]|refine rd0 rfl ?_))
      exact fin _ [] _ (by rw[hk,if_pos (.inl ⟨rfl,by omega⟩)])
    ·have g0:((i:Int)==0)=false:=by simp;omega
     have g1:decide ((0:Int)<(i:Int))=true:=by simp;omega
     have hw:IntKind.i64.wrap (max 1 (i:Int)-1)=((i-1:Nat):Int):=by rw[dL ⟨by omega,by omega⟩];omega
     have hi1:i-1<v.keepers.length:=by omega
     have he1:=AO hi1;obtain⟨G,hG⟩:∃ G,dV v (i-1)=G:=⟨_,rfl⟩;rw[hG] at hk he1;cases h4:decide (F<=G)
     ·have h4':¬F<=G:=by simpa using h4
      (repeat (first|simp only[↓QA,QB,seval,aC,h4,<-he,<-he1,g0,g1,vX,hw,hi1]|refine rd0 rfl ?_))
      exact fin _ [] _ (by rw[hk,if_neg (by omega)])
     ·have h4':F<=G:=by simpa using h4
      (repeat (first|simp only[↓QA,QB,seval,aC,h4,<-he,<-he1,g0,g1,vX,hw,hi1]|refine rd0 rfl ?_))
      exact fin _ [] _ (by rw[hk,if_pos (.inr ⟨by omega,h4'⟩)])
  ·have h2':iJ s.name ((v.keepers.take i).map Kp.name)≠((v.keepers.take i).map Kp.name).length:=by simpa using h2
   have hf:fresh s.name ((v.keepers.take i).map Kp.name)=5:=by simp only[fresh,h1,h2',if_false];simp
   rw[hf] at hk
   (repeat (first|simp only[↓QA,QB,seval,aC]|refine rd0 rfl ?_))
   exact fin _ [] _ (by rw[hk];simp)
theorem YQ(v:Voy)(i:Int)(x:Door):lK T (.func 303 [] [.ptr 0 0]) [.int .i64 i,eF x] [.cells (aB v),.cells (eF x).cells] (.int .i64 (qM v 0 x)):=by
 refine fZ (af:=S5) rfl (by simp[S5]) ?_;try simp only[↓QA,QB,seval,aC,S5]
 (refine cS (eX 0 v.hours [x.hour] (by simp)) (by simp[clr,clrs,aK]) (by simp[okV,okVs]) ?_;try simp only[↓QA,QB,seval,aC,jE])
 cases h1:inR x.hour 0 v.hours;all_goals
  try simp only[↓QA,QB,seval,aC]
  refine gB _ rfl ?_;try simp only[QS,QC,seval,aC,qM,h1,reduceCtorEq,Bool.false_eq_true]
theorem aAI(v:Voy)(hl:-9223372036854775808<v.lots/\v.lots<=9223372036854775807)(i:Int)(x:Look):lK T (.func 306 [] [.ptr 0 0]) [.int .i64 i,bY x] [.cells (aB v),.cells (bY x).cells] (.int .i64 (pP v 0 x)):=by
 refine fZ (af:=T6) rfl (by simp[T6]) ?_;have hw:IntKind.i64.wrap (v.lots-1)=v.lots-1:=dL ⟨by omega,by omega⟩;try simp only[↓QA,QB,seval,aC,T6,hw]
 (refine cS (eX 0 (v.lots-1) [x.lot] (by simp)) (by simp[clr,clrs,aK]) (by simp[okV,okVs]) ?_;try simp only[↓QA,QB,seval,aC,jE])
 cases h1:inR x.lot 0 (v.lots-1)
 ·try simp only[↓QA,QB,seval,aC]
  refine gB _ rfl ?_;try simp only[QS,QC,seval,aC,pP,h1,reduceCtorEq,Bool.false_eq_true,reduceIte]
 ·try simp only[↓QA,QB,seval,aC]
  (refine cS (eX 0 v.hours [x.hour] (by simp)) (by simp[clr,clrs,aK]) (by simp[okV,okVs]) ?_;try simp only[↓QA,QB,seval,aC,jE])
  cases h2:inR x.hour 0 v.hours;all_goals
   try simp only[↓QA,QB,seval,aC]
   refine gB _ rfl ?_;try simp only[QS,QC,seval,aC,pP,h1,h2,reduceCtorEq,Bool.false_eq_true]
end Go.Am.Room.Do
namespace Go.Am.Room.Do
def bH:=zz @cN (zz @aP (zz @dB (zz @aY (zz @bA (zz @bK (zz @dO (zz @bN (@bL))))))))
def nC(v:Voy):Int×Int:=if inR v.hours 1 24=false\/(!inR v.delay.lo 0 8||!inR v.delay.hi 0 8)=true\/inR v.lots 1 3=false then (0,7) else if v.delay.hi<v.delay.lo then (0,2) else (0,0)
def fS(v:Voy):Nat->Int×Int
 |0=>nC v
 |1=>eG 1 5 (nO v) v.keepers
 |2=>eG 0 4 (qM v) v.doors
 |_=>eG 0 5 (pP v) v.looks
theorem aHL(v:Voy):aV T 294 [encVoy v] (kA (nC v)):=by
 refine aS (af:=TZ) rfl (by simp[TZ]) dd ?_;try simp only[↓QA,QB,seval,bH,TZ]
 (refine cS (eX 1 24 [v.hours] (by simp)) (by simp[clr,clrs,aK]) (by simp[okV,okVs]) ?_;try simp only[↓QA,QB,seval,bH,jE])
 cases h1:inR v.hours 1 24
 ·try simp only[↓QA,QB,seval,bH]
  simp[nC,h1,kA]
 ·try simp only[↓QA,QB,seval,bH]
  (refine cS (eX 0 8 [v.delay.lo,v.delay.hi] (by simp)) (by simp[clr,clrs,aK]) (by simp[okV,okVs]) ?_;try simp only[↓QA,QB,seval,bH,W3])
  cases h2:(!inR v.delay.lo 0 8||!inR v.delay.hi 0 8)
  ·try simp only[↓QA,QB,seval,bH,h2]
   (refine cS (eX 1 3 [v.lots] (by simp)) (by simp[clr,clrs,aK]) (by simp[okV,okVs]) ?_;try simp only[↓QA,QB,seval,bH,jE])
   cases h3:inR v.lots 1 3
   ·try simp only[↓QA,QB,seval,bH]
    simp[nC,h3,kA]
   ·try simp only[↓QA,QB,seval,bH]
    cases h4:decide (v.delay.hi<v.delay.lo)
    ·have h4':¬v.delay.hi<v.delay.lo:=by simpa using h4
     have hp:nC v=(0,0):=by simp only[nC,h1,h2,h3,h4',Bool.true_eq_false,Bool.false_eq_true,or_self,if_false]
     rw[hp];try simp only[↓QA,QB,seval,bH,h4,kA]
    ·have h4':v.delay.hi<v.delay.lo:=by simpa using h4
     have hp:nC v=(0,2):=by simp only[nC,h1,h2,h3,h4',Bool.true_eq_false,Bool.false_eq_true,or_self,if_false,if_true]
     rw[hp];try simp only[↓QA,QB,seval,bH,h4,kA]
  ·have hp:nC v=(0,7):=by simp only[nC,h2,true_or,or_true,if_true]
   rw[hp];try simp only[↓QA,QB,seval,bH,h2,kA]
theorem aJ6(v:Voy)(h:Fits v):aV T 296 [encVoy v] (kA (fS v 1)):=by
 refine aS (af:=SJ) rfl (by simp[SJ]) dd ?_;have hf:=KK [.cells (aB v)] (.func 298 [] [.ptr 0 0]) v.keepers 1 5 (nO v) h.keepers (fun τ=>by try simp only[QS,QC,seval,bH,List.length_append]) fun i hi=>YG v h i hi _
 try simp only[↓QA,QB,seval,bH] at hf
 try simp only[↓QA,QB,seval,bH,SJ]
 refine dJ hf ?_;try simp only[↓QA,QB,seval,bH,kA,fS]
theorem aJ5(v:Voy)(h:Fits v):aV T 301 [encVoy v] (kA (fS v 2)):=by
 refine aS (af:=PN) rfl (by simp[PN]) dd ?_;have hf:=ED [.cells (aB v)] (.func 303 [] [.ptr 0 0]) v.doors 0 4 (qM v) h.doors (fun τ=>by try simp only[QS,QC,seval,bH,List.length_append]) fun i hi=>YQ v i _
 try simp only[↓QA,QB,seval,bH] at hf
 try simp only[↓QA,QB,seval,bH,PN]
 refine dJ hf ?_;try simp only[↓QA,QB,seval,bH,kA,fS]
theorem aME(v:Voy)(h:Fits v)(hl:-9223372036854775808<v.lots/\v.lots<=9223372036854775807):aV T 304 [encVoy v] (kA (fS v 3)):=by
 refine aS (af:=UG) rfl (by simp[UG]) dd ?_;have hf:=DI [.cells (aB v)] (.func 306 [] [.ptr 0 0]) v.looks 0 5 (pP v) h.looks (fun τ=>by try simp only[QS,QC,seval,bH,List.length_append]) fun i hi=>aAI v hl i _
 try simp only[↓QA,QB,seval,bH] at hf
 try simp only[↓QA,QB,seval,bH,UG]
 refine dJ hf ?_;try simp only[↓QA,QB,seval,bH,kA,fS]
def qP:List Nat:=[294,296,301,304]
def HT(i:Nat):AV:=.agg [.func i [] []]
theorem W6(i:Nat):HT i = .agg [.func i [] []]:=by simp only[HT]
theorem RS:aV T 161 [] (.lit (qP.map HT) false none):=by
 refine aS (af:=QU) rfl (by simp[QU]) bM ?_;try simp only[↓QA,QB,seval,bH,QU,qP,HT,List.map_cons,List.map_nil]
theorem k7{α:Type}{a b:Int}{of:Nat->α->Int}{l:List α}(h:(eG a b of l).2=0):inR l.length a b=true/\bC of l 0=none:=by
 unfold eG at h;split at h
 ·simp at h
 ·rename_i h1;split at h
  ·rename_i i e h2;exact absurd h (kD h2)
  ·rename_i h2;exact⟨by simpa using h1,h2⟩
theorem lJ{v:Voy}:(nC v).2=0↔¬(inR v.hours 1 24=false\/pA v.delay 0 8=7\/inR v.lots 1 3=false)/\pA v.delay 0 8=0:=by
 unfold nC pA;cases inR v.hours 1 24<;>cases inR v.lots 1 3<;>cases (!inR v.delay.lo 0 8||!inR v.delay.hi 0 8)<;>by_cases h:v.delay.hi<v.delay.lo<;>simp[h]
theorem R3{v:Voy}:∀ k,k<4->(∀ j,j<k->(fS v j).2=0)->(fS v k).2≠0->dG v=((k:Int)+1,(fS v k).1,(fS v k).2)
 |0,_,_,h=>by
  simp only[fS] at h ⊢;unfold nC dG pA at *;revert h;cases inR v.hours 1 24<;>cases inR v.lots 1 3<;>cases (!inR v.delay.lo 0 8||!inR v.delay.hi 0 8)<;>by_cases h:v.delay.hi<v.delay.lo<;>simp[h]
 |1,_,hj,h=>by
  obtain⟨a1,a2⟩:=lJ.1 (hj 0 (by omega));have e:dG v=lN v:=by rw[dG,if_neg a1,if_pos a2]
  simp only[fS] at h ⊢;rw[e];unfold eG at *;unfold lN;cases h1:inR v.keepers.length 1 5
  ·simp
  ·rw[h1] at h;simp only[Bool.true_eq_false,if_false] at h ⊢;cases h2:bC (nO v) v.keepers 0 with
   |none=>rw[h2] at h;simp at h
   |some p=>rfl
 |2,_,hj,h=>by
  obtain⟨a1,a2⟩:=lJ.1 (hj 0 (by omega));obtain⟨b1,b2⟩:=k7 (hj 1 (by omega));have e:dG v=m7 v:=by rw[dG,if_neg a1,if_pos a2,lN,b1,b2];rfl
  simp only[fS] at h ⊢;rw[e];unfold eG at *;unfold m7;by_cases h1:4<v.doors.length
  ·have hi:inR v.doors.length 0 4=false:=by simp[inR];omega
   simp[h1,hi]
  ·have hi:inR v.doors.length 0 4=true:=by simp[inR];omega
   rw[hi] at h ⊢;simp only[Bool.true_eq_false,if_false,h1] at h ⊢;cases h2:bC (qM v) v.doors 0 with
   |none=>rw[h2] at h;simp at h
   |some p=>rfl
 |3,_,hj,h=>by
  obtain⟨a1,a2⟩:=lJ.1 (hj 0 (by omega));obtain⟨b1,b2⟩:=k7 (hj 1 (by omega));obtain⟨c1,c2⟩:=k7 (hj 2 (by omega));have c3:¬4<v.doors.length:=by simp[inR] at c1;omega
  have e:dG v=n7 v:=by rw[dG,if_neg a1,if_pos a2,lN,b1,b2];simp only[m7,c2,c3,if_false];rfl
  simp only[fS] at h ⊢;rw[e];unfold eG at *;unfold n7;by_cases h1:5<v.looks.length
  ·have hi:inR v.looks.length 0 5=false:=by simp[inR];omega
   simp[h1,hi]
  ·have hi:inR v.looks.length 0 5=true:=by simp[inR];omega
   rw[hi] at h ⊢;simp only[Bool.true_eq_false,if_false,h1] at h ⊢;cases h2:bC (pP v) v.looks 0 with
   |none=>rw[h2] at h;simp at h
   |some p=>rfl
 |k+4,hk,_,_=>by omega
theorem JH{v:Voy}(hj:∀ j,j<4->(fS v j).2=0):dG v=(0,0,0):=by
 obtain⟨a1,a2⟩:=lJ.1 (hj 0 (by omega));obtain⟨b1,b2⟩:=k7 (hj 1 (by omega));obtain⟨c1,c2⟩:=k7 (hj 2 (by omega));obtain⟨d1,d2⟩:=k7 (hj 3 (by omega));have c3:¬4<v.doors.length:=by simp[inR] at c1;omega
 have d3:¬5<v.looks.length:=by simp[inR] at d1;omega
 rw[dG,if_neg a1,if_pos a2,lN,b1,b2];simp only[m7,c2,c3,if_false,n7,d2,d3];rfl
theorem HN(v:Voy)(h:Fits v):aV T 40 [encVoy v] (nH (dG v)):=by
 refine aS (af:=a40) rfl (by simp[a40]) dd ?_;try simp only[↓QA,QB,seval,bH,a40]
 refine aE RS rfl bM ?_;have hlen:(qP.map HT).length=4:=rfl;have hle2:qP.length=4:=rfl;try simp only[↓QA,QB,seval,bH,hlen,hle2]
 refine cY (S:=Nat) 0 (fun k=>k<=4/\∀ j,j<k->(fS v j).2=0) (fun k=>4-k) (fun k=>[(1,.ptr 0 0),(7,.lit (qP.map HT) false none),(8,.int .i64 4),(9,.int .i64 k)]) (fun _=>[.cells (aB v)]) ⟨Nat.zero_le _,fun j hj=>absurd hj (by omega)⟩ (by simp[aB]) ?_ fun k hk=>?_
 ·try simp only[aD,QE,seval,bH]
  try simp
 ·obtain⟨hk4,hj⟩:=hk;try simp only[↓QA,QB,seval,bH,aB3]
  refine aG (fun hd=>?_) fun hd=>?_
  ·have hk1:k<4:=by simp at hd;omega
   have hw:=cB hk1 (by omega);have hlk:k<qP.length:=hk1;have hat:=R3 (v:=v) k hk1 hj;have hnx:(fS v k).2=0->∀ j,j<k+1->(fS v j).2=0:=fun h0 j hj2=>by
    by_cases e:j=k
    ·rw[e];exact h0
    ·exact hj j (by omega)
   obtain⟨r,hr⟩:∃ r,fS v k=r:=⟨_,rfl⟩;rw[hr] at hat hnx;have hlots:k=3->-9223372036854775808<v.lots/\v.lots<=9223372036854775807:=fun e=>by
    have a1:=(lJ.1 (hj 0 (by omega))).1;have:inR v.lots 1 3=true:=by
     cases hl:inR v.lots 1 3
     ·exact absurd (.inr (.inr hl)) a1
     ·rfl
    have:=eI.1 this;omega
   have hpk:∃ id,qP[k]=id/\aV T id [encVoy v] (kA r):=by
    rw[<-hr]
    match k,hlk,hlots with
    |0,_,_=>exact⟨_,rfl,aHL v⟩
    |1,_,_=>exact⟨_,rfl,aJ6 v h⟩
    |2,_,_=>exact⟨_,rfl,aJ5 v h⟩
    |3,_,hl=>exact⟨_,rfl,aME v h (hl rfl)⟩
   obtain⟨id,hid,hp⟩:=hpk;have hcl:bD 1 (.agg [.func id [] []])=true:=by simp[bD,AV.cells,AV.cell]
   try simp only[↓QA,QB,seval,bH,hlk,hid,hcl,W6]
   (refine aE (hp) rfl dd ?_;try simp only[↓QA,QB,seval,bH,kA])
   cases h0:(r.2==0)
   ·have h0':r.2≠0:=by simpa using h0
    rw[hat h0'];have hw2:IntKind.i64.wrap ((k:Int)+1)=(k:Int)+1:=dL ⟨by omega,by omega⟩;try simp only[↓QA,QB,seval,bH,h0,hw2,nH]
   ·have h0':r.2=0:=by simpa using h0
    try simp only[↓QA,QB,seval,bH,h0]
    refine⟨k+1,⟨by omega,hnx h0'⟩,by omega,?_⟩;try simp only[aD,QE,seval,bH,hw]
    try simp[aO,qP,HT,okV,okVs,bW,cH,snap,snaps,clrs,clr]
  ·have hk1:k=4:=by simp at hd;omega
   subst hk1;rw[JH hj];try simp only[↓QA,QB,seval,bH,nH]
def db(v:Voy)(b m:Nat):List AV:=aB v++[.int .i64 b,.map m]
theorem NM(v:Voy)(b m:Nat):(db v b m)[0]? = some (.int .i64 v.hours):=by simp[db,aB]
theorem MX(v:Voy)(b m:Nat):(db v b m)[1]? = some (.int .i64 v.delay.lo):=by simp[db,aB]
theorem OH(v:Voy)(b m:Nat):(db v b m)[2]? = some (.int .i64 v.delay.hi):=by simp[db,aB]
theorem KC(v:Voy)(b m:Nat):(db v b m)[3]? = some (.lit (v.keepers.map fH) false none):=by simp[db,aB]
theorem OV(v:Voy)(b m:Nat):(db v b m)[4]? = some (.lit (v.doors.map eF) false none):=by simp[db,aB]
theorem NT(v:Voy)(b m:Nat):(db v b m)[5]? = some (.int .i64 v.lots):=by simp[db,aB]
theorem N7(v:Voy)(b m:Nat):(db v b m)[6]? = some (.lit (v.looks.map bY) false none):=by simp[db,aB]
theorem OK(v:Voy)(b m:Nat):(db v b m)[7]? = some (.int .i64 b):=by simp[db,aB]
theorem O3(v:Voy)(b m:Nat):(db v b m)[8]? = some (.map m):=by simp[db,aB]
def zY(σ:St)(v:Voy)(b:Nat):St:=σ++[.cells (aB v),.map [],.cells (db v b (σ.length+1))]
theorem EY(σ:St)(v:Voy)(b:Nat):BH T (.func 164 [] []) [encVoy v,.int .i64 b] σ (.ptr (σ.length+2) 0) (zY σ v b):=by
 refine .callf (.call (af:=UN) rfl (by simp[UN]) (i3 (K:=fun j e σ1=>(j=none\/j=some .ret)/\Env.get e 4 = .ptr (σ.length+2) 0/\σ1=zY σ v b) ?_ fun o ho=>ho) fun o ho=>?_)
 ·try simp only[↓QA,QB,seval,bH,UN,List.length_append,zY,db]
  try simp[db,aB,aK]
 ·refine⟨ho.1,_,?_,.inl ⟨ho.2.1,ho.2.2⟩⟩;rfl
end Go.Am.Room.Do
namespace Go.Am.Room
structure MemAt {M:Type} (S:M->St) (obj:List AV) (es:M->List (AV×AV)) (p m N:Nat):Prop where
 len:∀ M,(S M).length=N
 at0:∀ M,aL (S M) p=some obj
 map0:∀ M,(S M)[m]? = some (.map (es M))
 mset:∀ M M',(S M).set m (.map (es M'))=S M'
 ok:∀ M k,aO k (.map (es M))
 pl:p<N
 ml:m<N
namespace MemAt
variable {M:Type} {S:M->St} {obj:List AV} {es:M->List (AV×AV)} {p m N:Nat}
theorem base(h:MemAt S obj es p m N)(A:M)(τ:St)(k:Nat):aL (S A++τ) (N+k)=aL τ k:=by rw[<-h.len A];exact qV _ _ _
theorem base0(h:MemAt S obj es p m N)(A:M)(τ:St):aL (S A++τ) N=aL τ 0:=h.base A τ 0
theorem bset(h:MemAt S obj es p m N)(A:M)(τ:St)(k:Nat)(x:ABlk):(S A++τ).set (N+k) x=S A++τ.set k x:=by rw[<-h.len A];exact m4 _ _ _ _
theorem bset0(h:MemAt S obj es p m N)(A:M)(τ:St)(x:ABlk):(S A++τ).set N x=S A++τ.set 0 x:=h.bset A τ 0 x
theorem at1(h:MemAt S obj es p m N)(A:M)(τ:St):aL (S A++τ) p=some (obj):=by
 have:=h.at0 A;have hl:=h.pl;rw[<-h.len A] at hl;simp only[aL] at this ⊢;rw[List.getElem?_append_left hl];exact this
theorem map1(h:MemAt S obj es p m N)(A:M)(τ:St):(S A++τ)[m]? = some (.map (es A)):=by
 have hl:=h.ml;rw[<-h.len A] at hl;rw[List.getElem?_append_left hl];exact h.map0 A
theorem mset1(h:MemAt S obj es p m N)(A B:M)(τ:St):(S A++τ).set m (.map (es B))=S B++τ:=by
 have hl:=h.ml;rw[<-h.len A] at hl;rw[List.set_append_left _ _ hl,h.mset]
theorem keep(h:MemAt S obj es p m N)(A B:M)(i:Nat)(hi:i≠m):(S B)[i]? = (S A)[i]?:=by
 rw[<-h.mset A B,List.getElem?_set_ne (fun e=>hi e.symm)]
theorem kept(h:MemAt S obj es p m N){A B:M}{σ τ:St}(hσ:σ=S B++τ):∀ i,i<(S A).length->dN (S A) σ (S A).length i:=by
 intro i hi;rw[hσ];have hl:i<(S B).length:=by rw[h.len] at hi ⊢;exact hi
 by_cases him:i=m
 ·subst him;refine .inr (.inl ⟨.map (es B),?_,h.ok B _⟩);rw[List.getElem?_append_left hl,h.map0]
 ·refine .inl ?_;rw[List.getElem?_append_left hl,h.keep A B i him]
theorem app(h:MemAt S obj es p m N)(τ:St):MemAt (fun A=>S A++τ) obj es p m (N+τ.length) :=
 ⟨fun A=>by rw[List.length_append,h.len],fun A=>h.at1 A τ,fun A=>h.map1 A τ,fun A B=>h.mset1 A B τ,h.ok,by have:=h.pl;omega,by have:=h.ml;omega⟩
theorem eqS(h:MemAt S obj es p m N)(k:Nat)(A B:M)(x y z:St):EqS k (S A++x) (S B++y) (S B++z)=EqS k x y z:=by
 rw[<-h.mset A B];exact K6 k _ (h.ok B k) _ _ _ _ _
end MemAt
theorem rI{M:Type}{S:M->St}{obj:List AV}{es:M->List (AV×AV)}{p m N:Nat}(hR:MemAt S obj es p m N){f:FuncId}{first cap args:List AV}{af:AFunc}{v:AV}{A B:M}(hf:T f=some af)(hn:(first++args++cap).length<=af.ntmps)(h:wp T af.body (dX 0 (first++args++cap)) (S A) (fun j e σ1=>(j=none\/j=some .ret)/\∃ v0 τ,eQ af.results e σ1=some v0/\σ1=S B++τ/\cH σ1 N 20 v0=some v)):BH T (.func f first cap) args (S A) v (S B):=by
 refine .callf (.call hf hn (i3 h fun o ho=>ho) fun o ho=>?_);obtain⟨hj,v0,τ,hres,hσ,h4⟩:=ho;refine⟨hj,v0,hres,?_⟩;unfold cH at h4;cases hs:snap o.σ N 20 v0 with
 |none=>rw[hs] at h4;cases h4
 |some v1 =>
  rw[hs] at h4;simp at h4;refine .inr ⟨20,v1,v,by rw[hR.len];exact hs,.inr h4.symm,hR.kept hσ,?_,rfl,?_⟩
  ·rw[hσ,List.length_append,hR.len,hR.len];omega
  ·rw[hσ,hR.len,<-hR.len B,List.take_left]
def cZ{A X:Type}(f:A->X->X×Bool):List A->X->X×Bool
 |[],x=>(x,true)
 |a::az,x=>if (f a x).2=true then cZ f az (f a x).1 else ((f a x).1,false)
theorem CS{A X:Type}(f:A->X->X×Bool):∀ (az bs:List A) (x:X),cZ f (az++bs) x=if (cZ f az x).2=true then cZ f bs (cZ f az x).1 else ((cZ f az x).1,false)
 |[],bs,x=>by simp[cZ]
 |a::az,bs,x=>by
  simp only[List.cons_append,cZ];split
  ·exact CS f az bs _
  ·simp
structure Fam {X:Type} (Z ZD:X->St) (obj:List AV) (p q N:Nat):Prop where
 len:∀ x,(Z x).length=N
 lenD:∀ x,(ZD x).length=N
 at0:∀ x,aL (Z x) p=some obj
 atq0:∀ x,aL (Z x) q=some [.ptr p 0]
 keep:∀ x y k i,N<=k->i<N->dN (Z x) (Z y) k i
 keepD:∀ x y k i,N<=k->i<N->dN (Z x) (ZD y) k i
 pl:p<N
 ql:q<N
namespace Fam
variable {X:Type} {Z ZD:X->St} {obj:List AV} {p q N:Nat}
theorem base(h:Fam Z ZD obj p q N)(x:X)(τ:St)(k:Nat):aL (Z x++τ) (N+k)=aL τ k:=by rw[<-h.len x];exact qV _ _ _
theorem base0(h:Fam Z ZD obj p q N)(x:X)(τ:St):aL (Z x++τ) N=aL τ 0:=h.base x τ 0
theorem bset(h:Fam Z ZD obj p q N)(x:X)(τ:St)(k:Nat)(y:ABlk):(Z x++τ).set (N+k) y=Z x++τ.set k y:=by rw[<-h.len x];exact m4 _ _ _ _
theorem bset0(h:Fam Z ZD obj p q N)(x:X)(τ:St)(y:ABlk):(Z x++τ).set N y=Z x++τ.set 0 y:=h.bset x τ 0 y
theorem at1(h:Fam Z ZD obj p q N)(x:X)(τ:St):aL (Z x++τ) p=some obj:=by
 have:=h.at0 x;have hl:=h.pl;rw[<-h.len x] at hl;simp only[aL] at this ⊢;rw[List.getElem?_append_left hl];exact this
theorem atq1(h:Fam Z ZD obj p q N)(x:X)(τ:St):aL (Z x++τ) q=some [.ptr p 0]:=by
 have:=h.atq0 x;have hl:=h.ql;rw[<-h.len x] at hl;simp only[aL] at this ⊢;rw[List.getElem?_append_left hl];exact this
theorem leaveW(h:Fam Z ZD obj p q N){x:X}{W υ τ' σ':St}(hW:W.length=N)(hk:∀ k i,N<=k->i<N->dN (Z x) W k i){v:Bool}{Q:Out->Prop}(hσ:σ'=W++(υ++τ'))(hQ:Q ⟨none,[],W++υ,.bool v⟩):G5 (Z x++υ) σ' (.bool v) Q:=by
 refine .inr ⟨20,.bool v,.bool v,by simp[snap],.inl rfl,fun i hi=>?_,?_,?_⟩
 ·rw[hσ];rw[List.length_append,h.len] at hi ⊢;by_cases hn:i<N
  ·have:=hk (N+υ.length) i (by omega) hn;have e1:(Z x++υ)[i]? = (Z x)[i]?:=List.getElem?_append_left (by rw[h.len];exact hn);have e2:(W++(υ++τ'))[i]? = W[i]?:=List.getElem?_append_left (by rw[hW];exact hn);simp only[dN,e1,e2] at this ⊢;exact this
  ·refine .inl ?_;have e1:(W++(υ++τ'))[i]? = (υ++τ')[i-N]?:=by rw[List.getElem?_append_right (by omega),hW]
   have e2:(Z x++υ)[i]? = υ[i-N]?:=by rw[List.getElem?_append_right (by rw[h.len];omega),h.len]
   rw[e1,e2,List.getElem?_append_left (by omega)]
 ·rw[hσ];simp only[List.length_append,h.len,hW];omega
 ·have e1:σ'.take (Z x++υ).length=W++υ:=by
   have q1:(Z x++υ).length=(W++υ).length:=by simp only[List.length_append,h.len,hW]
   rw[hσ,q1,<-List.append_assoc];exact List.take_left
  rw[e1];exact hQ
def out(Z ZD:X->St)(r:X×Bool):St:=if r.2=true then Z r.1 else ZD r.1
theorem leave(h:Fam Z ZD obj p q N){x:X}{r:X×Bool}{υ τ' σ':St}{Q:Out->Prop}(hσ:σ'=out Z ZD r++(υ++τ'))(hQ:Q ⟨none,[],out Z ZD r++υ,.bool r.2⟩):G5 (Z x++υ) σ' (.bool r.2) Q:=by
 unfold out at hσ hQ;split at hσ
 ·rename_i hr;rw[if_pos hr] at hQ;exact h.leaveW (h.len _) (fun k i hk hi=>h.keep _ _ k i hk hi) hσ hQ
 ·rename_i hr;rw[if_neg hr] at hQ;exact h.leaveW (h.lenD _) (fun k i hk hi=>h.keepD _ _ k i hk hi) hσ hQ
end Fam
theorem M7{A X:Type}(f:A->X->X×Bool)(a:A)(x:X):cZ f [a] x=f a x:=by
 simp only[cZ];obtain⟨y,bb⟩:=f a x;cases bb<;>simp
structure Fam1 {X:Type} {M:Type} (Z ZD:X->M->St) (obj:List AV) (es:M->List (AV×AV)) (p m q N:Nat):Prop where
 ship:∀ x,MemAt (Z x) obj es p m N
 lenD:∀ x A,(ZD x A).length=N
 atq0:∀ x A,aL (Z x A) q=some [.ptr p 0]
 keep:∀ x A y B k i,N<=k->i<N->dN (Z x A) (Z y B) k i
 keepD:∀ x A y B k i,N<=k->i<N->dN (Z x A) (ZD y B) k i
 ql:q<N
 pl:p<N
namespace Fam1
variable {X:Type} {M:Type} {Z ZD:X->M->St} {obj:List AV} {es:M->List (AV×AV)} {p m q N:Nat}
theorem atq1(h:Fam1 Z ZD obj es p m q N)(x:X)(A:M)(τ:St):aL (Z x A++τ) q=some [.ptr p 0]:=by
 have:=h.atq0 x A;have hl:=h.ql;rw[<-(h.ship x).len A] at hl;simp only[aL] at this ⊢;rw[List.getElem?_append_left hl];exact this
def out(Z ZD:X->M->St)(r:X×Bool)(A:M):St:=if r.2=true then Z r.1 A else ZD r.1 A
end Fam1
def tZ{X A M:Type}(Z ZD:X->M->St)(id:Nat)(args:A->Bool->Option Nat->List AV)(P:A->Prop)(f:A->X->X×Bool):Prop :=
 ∀ t,P t->∀ (fl:Bool) (tk:Option Nat) x B τ,Run T (.callv (.yield id) (args t fl tk) (Z x B++τ)) fun o=>o.v = .bool (f t x).2/\∃ τ',o.σ=Fam1.out Z ZD (f t x) B++(τ++τ')
theorem XV{X:Type}{M:Type}{S:M->St}{obj:List AV}{es:M->List (AV×AV)}{p m N:Nat}(hS:MemAt S obj es p m N)(U UD:X->St)(n:Nat)(hU:∀ x,(U x).length=n)(hUD:∀ x,(UD x).length=n)(ok:∀ x y,y∈U x->∀ k,N<=k->aO k y)(okD:∀ x y,y∈UD x->∀ k,N<=k->aO k y)(env:Env)(ps:List Nat)(a bb:ACode)(st st':LS)(pe pe':Option AJump):
  Fam1 (fun x A=>S A++(U x++[.cells [.ptr p 0],.loop st pe env ps a bb])) (fun x A=>S A++(UD x++[.cells [.ptr p 0],.loop st' pe' env ps a bb])) obj es p m (N+n) (N+n+2):=by
 have hpl:=hS.pl;have low:∀ (A B:M) (C D:St) (k i:Nat),i<N->dN (S A++C) (S B++D) k i:=by
  intro A B C D k i hi;have e1:(S A++C)[i]? = (S A)[i]?:=List.getElem?_append_left (by rw[hS.len];exact hi);have e2:(S B++D)[i]? = (S B)[i]?:=List.getElem?_append_left (by rw[hS.len];exact hi);simp only[dN,e1,e2];by_cases him:i=m
  ·subst him;exact .inr (.inl ⟨_,hS.map0 B,hS.ok B k⟩)
  ·exact .inl (hS.keep A B i him)
 have high:∀ (A B:M) (C D:St) (l1 l2:ABlk) (k i:Nat),C.length=n->D.length=n->(∀ y∈D,aO k y)->N<=i->i<N+n+2->(l1=l2\/∃ st pe st' pe' env ps a b,l1 = .loop st pe env ps a b/\l2 = .loop st' pe' env ps a b) ->
   dN (S A++(C++[.cells [.ptr p 0],l1])) (S B++(D++[.cells [.ptr p 0],l2])) k i:=by
  intro A B C D l1 l2 k i hA hB hk h1 h2 hl;have e1:(S A++(C++[.cells [.ptr p 0],l1]))[i]? = (C++[.cells [.ptr p 0],l1])[i-N]?:=by rw[List.getElem?_append_right (by rw[hS.len];exact h1),hS.len]
  have e2:(S B++(D++[.cells [.ptr p 0],l2]))[i]? = (D++[.cells [.ptr p 0],l2])[i-N]?:=by rw[List.getElem?_append_right (by rw[hS.len];exact h1),hS.len]
  simp only[dN,e1,e2];obtain⟨j,hj⟩:∃ j,i-N=j:=⟨_,rfl⟩;rw[hj];by_cases hjn:j<n
  ·right;left;have hb:j<D.length:=by omega
   refine⟨D[j],?_,hk _ (List.getElem_mem hb)⟩;rw[List.getElem?_append_left hb,List.getElem?_eq_getElem hb]
  ·have:j=n\/j=n+1:=by omega
   rcases this with rfl|rfl
   ·left;rw[List.getElem?_append_right (by omega),List.getElem?_append_right (by omega),hA,hB];simp
   ·rw[List.getElem?_append_right (by omega),List.getElem?_append_right (by omega),hA,hB];simp only[Nat.add_sub_cancel_left,List.getElem?_cons_succ,List.getElem?_cons_zero];rcases hl with rfl|⟨_,_,_,_,_,_,_,_,rfl,rfl⟩
    ·exact .inl rfl
    ·exact .inr (.inr ⟨_,_,_,_,_,_,_,_,rfl,rfl⟩)
 refine⟨fun x=>?_,fun x A=>?_,fun x A=>?_,fun x A y B k i hk hi=>?_,fun x A y B k i hk hi=>?_,by omega,by omega⟩
 ·have:=hS.app (U x++[.cells [.ptr p 0],.loop st pe env ps a bb]);rw[List.length_append,hU] at this;exact this
 ·simp[hS.len,hUD];omega
 ·have e:N+n=(S A).length+n:=by rw[hS.len]
  rw[e,qV];have:n=(U x).length:=by rw[hU]
  rw[this];exact EB _ _
 ·by_cases h:i<N
  ·exact low _ _ _ _ _ _ h
  ·exact high _ _ _ _ _ _ _ _ (hU x) (hU y) (fun z hz=>ok y z hz k (by omega)) (by omega) hi (.inl rfl)
 ·by_cases h:i<N
  ·exact low _ _ _ _ _ _ h
  ·exact high _ _ _ _ _ _ _ _ (hU x) (hUD y) (fun z hz=>okD y z hz k (by omega)) (by omega) hi (.inr ⟨_,_,_,_,_,_,_,_,rfl,rfl⟩)
theorem UH{X A M:Type}{S:M->St}{obj:List AV}{es:M->List (AV×AV)}{p m N:Nat}(hS:MemAt S obj es p m N)(U UD:X->St)(n:Nat)(hU:∀ x,(U x).length=n)(hUD:∀ x,(UD x).length=n)(J:AJump)(e:Env)(k:Nat)(ps:List Nat)(a bb:ACode)(g:FuncId)(ek:Env.get e k = .func g [] [.ptr (N+n) 0])(r:X×Bool)(B':M)(x:X)(B:M)(hrun:Run T (.call g [.yield (N+n+1),.ptr (N+n) 0] (S B++(U x++[.cells [.ptr p 0],.loop .ready none e ps a bb]))) fun o=>∃ τ',o.σ=Fam1.out (fun x A=>S A++(U x++[.cells [.ptr p 0],.loop .ready none e ps a bb])) (fun x A=>S A++(UD x++[.cells [.ptr p 0],.loop .done (some J) e ps a bb])) r B'++τ')(K:KJ)(hT:∀ τ,r.2=true->K none e (S B'++(U r.1++(.cells [.ptr p 0]::.dead::τ))))(hD:∀ τ,r.2=false->K (some J) e (S B'++(UD r.1++(.cells [.ptr p 0]::.dead::τ)))):
  rK (K:=⟨K⟩) T (.rangeFunc (.t k) ps a bb) e (S B++(U x++[.cells [.ptr p 0]])):=by
 have hlen:(S B++(U x++[ABlk.cells [.ptr p 0]])).length=N+n+1:=by simp[hS.len,hU];omega
 have hout:∀ (A W:St) (lp:ABlk) (τ':St),A.length=N->W.length=n->(A++(W++[ABlk.cells [.ptr p 0],lp])++τ')[N+n+1]? = some lp/\(A++(W++[ABlk.cells [.ptr p 0],lp])++τ').set (N+n+1) .dead=A++(W++(.cells [.ptr p 0]::.dead::τ')):=by
  intro A W lp τ' hA hW;have h1:N+n+1=(A++W).length+1:=by simp[hA,hW]
  have h2:A++(W++[ABlk.cells [.ptr p 0],lp])++τ'=(A++W)++(.cells [.ptr p 0]::lp::τ'):=by simp
  rw[h1,h2];constructor
  ·rw[tB];rfl
  ·rw[m4];simp
 refine ES (by rw[VE,ek]) (by
  rw[hlen,List.append_assoc (S B),List.append_assoc (U x)]
  exact hrun) fun o ho=>?_
 obtain⟨τ',hσ⟩:=ho;rw[hlen,hσ];cases hr2:r.2
 ·have hD':=hD τ' hr2;obtain⟨g1,g2⟩:=hout (S B') (UD r.1) (.loop .done (some J) e ps a bb) τ' (hS.len _) (hUD _);simp only[Fam1.out,hr2,Bool.false_eq_true,if_false];rw[g1,g2];exact⟨_,_,_,_,_,_,rfl,by simp,hD'⟩
 ·have hT':=hT τ' hr2;obtain⟨g1,g2⟩:=hout (S B') (U r.1) (.loop .ready none e ps a bb) τ' (hS.len _) (hU _);simp only[Fam1.out,hr2,if_true];rw[g1,g2];exact⟨_,_,_,_,_,_,rfl,by simp,hT'⟩
theorem v9{X A M:Type}{S:M->St}{obj:List AV}{es:M->List (AV×AV)}{p m N:Nat}(hS:MemAt S obj es p m N)(U UD:X->St)(n:Nat)(hU:∀ x,(U x).length=n)(hUD:∀ x,(UD x).length=n)(J:AJump)(e:Env)(ps:List Nat)(args:A->Bool->Option Nat->List AV)(hps:∀ t fl tk,ps.length=(args t fl tk).length)(a bb:ACode){P:A->Prop}{f:A->X->X×Bool}(h:∀ t,P t->∀ (fl:Bool) (tk:Option Nat) x B τ,wp T a (iH e ps (args t fl tk)) (S B++(U x++(.cells [.ptr p 0]::.loop .ready none e ps a bb::τ))) (fun j e' σ'=>j=none/\σ'=S B++(U x++(.cells [.ptr p 0]::.loop .ready none e ps a bb::τ)) /\
   wp T bb e' (S B++(U x++(.cells [.ptr p 0]::.loop .busy none e ps a bb::τ))) (fun j e'' σ''=>((f t x).2=true/\j=none/\∃ τ',σ''=S B++(U (f t x).1++(.cells [.ptr p 0]::.loop .busy none e ps a bb::(τ++τ')))) \/
    ((f t x).2=false/\j=some J/\∃ τ',σ''=S B++(UD (f t x).1++(.cells [.ptr p 0]::.loop .busy none e ps a bb::(τ++τ'))))))):
  tZ (fun x B=>S B++(U x++[.cells [.ptr p 0],.loop .ready none e ps a bb])) (fun x B=>S B++(UD x++[.cells [.ptr p 0],.loop .done (some J) e ps a bb])) (N+n+1) args P f:=by
 intro t ht fl tk x B τ;have hget:∀ (A W:St) (lp:ABlk) (υ:St),A.length=N->W.length=n->(A++(W++(ABlk.cells [.ptr p 0]::lp::υ)))[N+n+1]? = some lp:=by
  intro A W lp υ hA hW;have h1:N+n+1=(A++W).length+1:=by simp[hA,hW]
  rw[h1,<-List.append_assoc,tB];rfl
 have hset:∀ (A W:St) (lp l2:ABlk) (υ:St),A.length=N->W.length=n->(A++(W++(ABlk.cells [.ptr p 0]::lp::υ))).set (N+n+1) l2=A++(W++(ABlk.cells [.ptr p 0]::l2::υ)):=by
  intro A W lp l2 υ hA hW;have h1:N+n+1=(A++W).length+1:=by simp[hA,hW]
  rw[h1,<-List.append_assoc,m4];simp
 obtain⟨r,hr⟩:∃ r,f t x=r:=⟨_,rfl⟩;have h:=h t ht fl tk x B τ;rw[hr] at h ⊢;have hst:(fun x B=>S B++(U x++[ABlk.cells [.ptr p 0],.loop .ready none e ps a bb])) x B++τ=S B++(U x++(.cells [.ptr p 0]::.loop .ready none e ps a bb::τ)):=by simp
 rw[hst];refine .round (env:=e) (ps:=ps) (a:=a) (b:=bb)
  (R:=fun o=>o.j=none/\o.σ=S B++(U x++(.cells [.ptr p 0]::.loop .ready none e ps a bb::τ))/\wp T bb o.env (S B++(U x++(.cells [.ptr p 0]::.loop .busy none e ps a bb::τ))) (fun j e'' σ''=>(r.2=true/\j=none/\∃ τ',σ''=S B++(U r.1++(.cells [.ptr p 0]::.loop .busy none e ps a bb::(τ++τ')))) \/
    (r.2=false/\j=some J/\∃ τ',σ''=S B++(UD r.1++(.cells [.ptr p 0]::.loop .busy none e ps a bb::(τ++τ'))))))
  (S:=fun o=>(r.2=true/\o.j=none/\∃ τ',o.σ=S B++(U r.1++(.cells [.ptr p 0]::.loop .busy none e ps a bb::(τ++τ'))))\/(r.2=false/\o.j=some J/\∃ τ',o.σ=S B++(UD r.1++(.cells [.ptr p 0]::.loop .busy none e ps a bb::(τ++τ'))))) (hget _ _ _ _ (hS.len _) (hU _)) (by rw[hps t fl tk]) (i3 h fun o ho=>ho) ?_ ?_ ?_
 ·rintro o ⟨hj,hσ,_⟩;exact⟨hj,by rw[hσ];exact hget _ _ _ _ (hS.len _) (hU _)⟩
 ·rintro o ⟨_,hσ,hw⟩;rw[hσ,hset _ _ _ _ _ (hS.len _) (hU _)];exact i3 hw fun o ho=>ho
 ·rintro o (⟨hr2,hj,τ',hσ⟩|⟨hr2,hj,τ',hσ⟩)
  ·rw[hσ,hj,hget _ _ _ _ (hS.len _) (hU _),hset _ _ _ _ _ (hS.len _) (hU _)];refine⟨rfl,by rw[hr2];rfl,τ',?_⟩;simp[Fam1.out,hr2]
  ·rw[hσ,hj,hget _ _ _ _ (hS.len _) (hUD _),hset _ _ _ _ _ (hS.len _) (hUD _)];refine⟨rfl,by rw[hr2];rfl,τ',?_⟩;simp[Fam1.out,hr2]
theorem tX{A X:Type}{f:A->X->X×Bool}(h:∀ a x,(f a x).2=true):∀ (l:List A) (x:X),cZ f l x=(l.foldl (fun x a=>(f a x).1) x,true)
 |[],x=>rfl
 |a::az,x=>by simp only[cZ,h,if_true,List.foldl_cons];exact tX h az _
end Go.Am.Room
namespace Go.Am.Room
def aAQ(f:Nat->Int)(i:Nat)(v:Int):Nat->Int:=fun j=>if j=i then v else f j
def j5(n:Nat)(f:Nat->Int):List AV:=(List.range n).map fun i=>.int .i64 (f i)
theorem lP(n:Nat)(f:Nat->Int):(j5 n f).length=n:=by simp[j5]
theorem AR(n:Nat)(f:Nat->Int){i:Nat}(h:i<n):(j5 n f)[i]? = some (.int .i64 (f i)):=by simp[j5,h]
theorem A4{n:Nat}{f g:Nat->Int}(h:∀ i,i<n->f i=g i):j5 n f=j5 n g:=by
 refine List.map_congr_left fun i hi=>?_
 rw[h i (by simpa using hi)]
theorem PO(n:Nat)(f:Nat->Int)(v:Int){i:Nat}(h:i<n):(j5 n f).take i++[AV.int .i64 v]++(j5 n f).drop (i+1)=j5 n (aAQ f i v):=by
 have h1:(j5 n f).take i++[AV.int .i64 v]++(j5 n f).drop (i+1)=(j5 n f).set i (.int .i64 v):=by
  rw[List.set_eq_take_append_cons_drop,if_pos (by rw[lP];exact h)];simp
 rw[h1];refine List.ext_getElem? fun j=>?_
 by_cases hj:j<n
 ·rw[AR n _ hj,List.getElem?_set];by_cases e:i=j
  ·subst e;simp[lP,hj,aAQ]
  ·rw[if_neg e,AR n _ hj];simp[aAQ,show ¬j=i from fun q=>e q.symm]
 ·rw[List.getElem?_eq_none (by rw[List.length_set,lP];omega),List.getElem?_eq_none (by rw[lP];omega)]
theorem lI(n:Nat)(f:Nat->Int):kJ (j5 n f):=b9 (enc:=fun i:Nat=>AV.int .i64 (f i)) (fun i=>cE _ _) (List.range n)
instance (n:Nat) (f:Nat->Int):Dats (j5 n f):=⟨lI n f⟩
theorem YX(n:Nat)(f:Nat->Int)(m:Nat):okVs m (j5 n f):=qF (lI n f) m
theorem aDV(n:Nat)(f:Nat->Int)(σ:St)(m d:Nat):bW σ m d (j5 n f)=some (j5 n f):=iE (lI n f) σ m d
theorem M2(n:Nat)(f:Nat->Int):aZ (j5 n f)=true:=aGH _ _ fun i=>by simp[AV.cell]
theorem NF(n:Nat)(f:Nat->Int):(j5 n f).take n=j5 n f:=List.take_of_length_le (by rw[lP];exact Nat.le_refl n)
theorem C4(n:Nat)(f:Nat->Int):(j5 n f).drop n=[]:=List.drop_eq_nil_of_le (by rw[lP];exact Nat.le_refl n)
theorem OU(n:Nat):j5 n (fun _=>0)=List.replicate n (.int .i64 0):=by simp[j5,List.map_const']
theorem FU(f g:Nat->Int):∀ l:List Nat,aU (List.replicate l.length .i) (l.map fun i=>.int .i64 (f i)) (l.map fun i=>.int .i64 (g i))=some (l.all fun i=>f i==g i)
 |[]=>rfl
 |x::l=>by
  simp only[List.length_cons,List.replicate_succ,List.map_cons,IK,RE,FU f g l,I0,List.all_cons]
theorem XK(n:Nat)(f g:Nat->Int):aU (List.replicate n .i) (j5 n f) (j5 n g)=some ((List.range n).all fun i=>f i==g i):=by
 have:=FU f g (List.range n)
 rwa [List.length_range] at this
theorem LF(n sz:Nat)(sh:Option Nat)(cs:List AV)(k:IntKind)(j:Int):D6 n sz sh (.agg cs) (.int k j)=if 0<=j/\j<n then cU sh cs (j.toNat*sz) else none:=by simp only[D6,eE]
section
variable {K:Type} [DecidableEq K]
def j8(M:List K)(w:K):List K:=if w∈M then M else M++[w]
structure KeyIs (sh:EqTy) (enc val:K->AV):Prop where
 eq:∀ w x,gK sh (enc w) (enc x)=some (decide (w=x))
 dk:∀ w,gV (enc w)
 dv:∀ w,gV (val w)
variable {sh:EqTy} {enc val:K->AV}
def pM(enc val:K->AV)(M:List K):List (AV×AV):=M.map fun w=>(enc w,val w)
theorem ME(h:KeyIs sh enc val)(w:K):∀ M:List K,findKey sh (enc w) (pM enc val M)=some (if w∈M then some (val w) else none)
 |[]=>by simp[pM,findKey]
 |x::M=>by
  have ih:=ME h w M;simp only[pM,List.map_cons,findKey,h.eq] at ih ⊢;by_cases e:w=x
  ·subst e;simp
  ·simp only[e,decide_false,ih,List.mem_cons,false_or]
theorem SV(h:KeyIs sh enc val)(w:K):∀ M:List K,w∉M->mE sh (enc w) (val w) (pM enc val M)=some (pM enc val (M++[w]))
 |[],_=>by simp[pM,mE]
 |x::M,hn=>by
  have ih:=SV h w M (fun q=>hn (List.mem_cons_of_mem _ q));have hx:w≠x:=fun e=>hn (by rw[e];simp)
  simp only[pM,List.map_cons,mE,h.eq,List.cons_append] at ih ⊢;simp only[hx,decide_false,ih,Option.map_some]
theorem aDK(h:KeyIs sh enc val)(M:List K)(k:Nat):aO k (.map (pM enc val M)):=by
 simp only[aO,pM];intro q hq;obtain⟨w,hw,rfl⟩:=List.mem_map.1 hq;exact⟨DL (h.dk w) k,DL (h.dv w) k⟩
variable {S:List K->St} {obj:List AV} {p m N:Nat}
theorem Y1(hk:KeyIs sh enc val)(h:MemAt S obj (pM enc val) p m N)(M:List K)(τ:St)(w:K):tR sh (S M++τ) (.map m) (enc w)=some (if w∈M then some (val w) else none):=by
 simp only[tR,h.map1,ME hk,hk.eq];simp
theorem aC3(hk:KeyIs sh enc val)(h:MemAt S obj (pM enc val) p m N)(M:List K)(τ:St)(w:K)(hw:w∉M):xZ sh (S M++τ) (.map m) (enc w) (val w)=some (S (M++[w])++τ):=by
 simp only[xZ,hk.eq,h.map1,SV hk w M hw,Option.map_some,h.mset1];simp
end
end Go.Am.Room
namespace Go.Am.Room.Do
def dK(f:Nat->Nat):List AV:=j5 26 fun i=>((f i:Nat):Int)
theorem z26:dK (fun _=>0)=[.int .i64 0,.int .i64 0,.int .i64 0,.int .i64 0,.int .i64 0,.int .i64 0,.int .i64 0,.int .i64 0,.int .i64 0,.int .i64 0,.int .i64 0,.int .i64 0,.int .i64 0,.int .i64 0,.int .i64 0,.int .i64 0,.int .i64 0,.int .i64 0,.int .i64 0,.int .i64 0,.int .i64 0,.int .i64 0,.int .i64 0,.int .i64 0,.int .i64 0,.int .i64 0]:=by simp[dK,OU]
def xV(f:Nat->Nat)(i v:Nat):Nat->Nat:=fun j=>if j=i then v else f j
theorem j4(f:Nat->Nat):(dK f).length=26:=lP _ _
theorem j6(f:Nat->Nat){i:Nat}(h:i<26):(dK f)[i]? = some (.int .i64 ((f i:Nat):Int)):=AR 26 _ h
theorem tD{f g:Nat->Nat}(h:∀ i,i<26->f i=g i):dK f=dK g:=A4 fun i hi=>by rw[h i hi]
theorem uW(f:Nat->Nat)(v:Nat){i:Nat}(h:i<26):(dK f).take i++[AV.int .i64 (v:Int)]++(dK f).drop (i+1)=dK (xV f i v):=by
 rw[dK,PO 26 _ _ h];refine A4 fun j _=>?_
 simp only[aAQ,xV];split<;>rfl
theorem IT(f:Nat->Nat)(v:Nat):(dK f).take 25++[AV.int .i64 (v:Int)]=dK (xV f 25 v):=by
 have:=uW f v (i:=25) (by omega)
 rwa [show (dK f).drop (25+1)=[] from C4 26 _,List.append_nil] at this
theorem jI(f:Nat->Nat):aZ (dK f)=true:=M2 _ _
theorem lA(f:Nat->Nat):(dK f).take 26=dK f:=NF 26 _
theorem lB(f:Nat->Nat):(dK f).drop 26=[]:=C4 26 _
theorem i7(f:Nat->Nat)(m:Nat):okVs m (dK f):=YX _ _ _
theorem pL(f:Nat->Nat)(σ:St)(m d:Nat):bW σ m d (dK f)=some (dK f):=aDV _ _ _ _ _
instance (f:Nat->Nat):Dats (dK f):=⟨lI _ _⟩
theorem NW(f:Nat->Nat):aU [.i,.i,.i,.i,.i,.i,.i,.i,.i,.i,.i,.i,.i,.i,.i,.i,.i,.i,.i,.i,.i,.i,.i,.i,.i,.i] (dK f) (dK fun _=>0)=some (u6 f):=by
 have:=XK 26 (fun i=>((f i:Nat):Int)) (fun i=>((0:Nat):Int));have e:(List.range 26).all (fun i=>((f i:Nat):Int)==((0:Nat):Int))=u6 f:=by
  unfold u6
  congr 1
  funext i;exact KQ _
 rw[e] at this;exact this
abbrev Ask:=Nat×Nat
def wF(w:Ask):AV:=.agg [.int .i64 (w.1:Int),.int .i64 (w.2:Int)]
theorem v7(w:Ask):wF w = .agg [.int .i64 (w.1:Int),.int .i64 (w.2:Int)]:=by simp only[wF]
def fQ(v:Voy)(bl:List Int)(w:Ask):AV:=.agg (dK (tF v bl w.1 w.2))
theorem oO(v:Voy)(bl:List Int)(w:Ask):fQ v bl w = .agg (dK (tF v bl w.1 w.2)):=by simp only[fQ]
theorem AG(v:Voy)(bl:List Int)(w:Ask):gV (fQ v bl w):=iD (lI _ _)
theorem EA(v:Voy)(bl:List Int):KeyIs (.agg [.i,.i]) wF (fQ v bl) where
 eq:=fun ⟨a,b⟩ ⟨c,d⟩=>by
  simp only[gK,wF,IK,RC,RE,I0]
  congr 1
  rw[Bool.eq_iff_iff];simp[Prod.mk.injEq];omega
 dk:=fun w=>iD (aM (cE _ _) (aM (cE _ _) bM))
 dv:=AG v bl
abbrev tEs(v:Voy)(bl:List Int):List Ask->List (AV×AV):=pM wF (fQ v bl)
def mA(v:Voy)(op k:Nat)(x:Int)(i:Nat):Nat:=kF v op k i|||(if (op.testBit k&&inR ((i:Int)-aT v k) v.delay.lo (x-1)&&decide ((i:Int)<=v.hours))=true then 2^k else 0)
theorem WQ(v:Voy)(op k:Nat):mA v op k v.delay.lo=kF v op k:=by
 funext i;have:inR ((i:Int)-aT v k) v.delay.lo (v.delay.lo-1)=false:=by simp[inR];omega
 simp[mA,this]
theorem FT{v:Voy}{op k:Nat}{x:Int}(h1:x<=v.delay.hi+1)(h:v.delay.hi<x\/v.hours<aT v k+x):mA v op k x=kF v op (k+1):=by
 funext i;simp only[mA,kF,kS]
 congr 2
 by_cases h2:(i:Int)<=v.hours
 ·have:inR ((i:Int)-aT v k) v.delay.lo (x-1)=inR ((i:Int)-aT v k) v.delay.lo v.delay.hi:=by
   rw[Bool.eq_iff_iff,eI,eI];omega
  rw[this]
 ·simp[h2]
theorem X8(a k:Nat):a &&& 2^k=if a.testBit k=true then 2^k else 0:=by
 refine Nat.eq_of_testBit_eq fun i=>?_
 rw[Nat.testBit_and,Nat.testBit_two_pow];by_cases e:k=i
 ·subst e;cases h:a.testBit k
  ·simp
  ·simp[Nat.testBit_two_pow_self]
 ·split
  ·rw[Nat.testBit_two_pow_of_ne e];simp[e]
  ·simp[e]
theorem I4{v:Voy}{op k:Nat}{x:Int}{j:Nat}(hj:(j:Int)=aT v k+x)(h1:v.delay.lo<=x)(h2:(j:Int)<=v.hours):xV (mA v op k x) j (mA v op k x j|||(op &&& 2^k))=mA v op k (x+1):=by
 funext i;by_cases e:i=j
 ·subst e;have a:inR ((i:Int)-aT v k) v.delay.lo (x-1)=false:=by simp[inR];omega
  have b:inR ((i:Int)-aT v k) v.delay.lo (x+1-1)=true:=by rw[eI];omega
  have c:decide ((i:Int)<=v.hours)=true:=by simpa using h2
  simp only[xV,mA,if_true,a,b,c,X8,Bool.and_false,Bool.and_true,Bool.false_and,Bool.false_eq_true,if_false,Nat.or_zero]
 ·have a:inR ((i:Int)-aT v k) v.delay.lo (x+1-1)=inR ((i:Int)-aT v k) v.delay.lo (x-1):=by
   rw[Bool.eq_iff_iff,eI,eI];omega
  simp only[xV,mA,e,if_false,a]
theorem SD{v:Voy}{op k:Nat}{x:Int}{i:Nat}(hk:k<4):mA v op k x i<32:=by
 refine Nat.or_lt_two_pow (n:=5) (DR v op i k (by omega)) ?_;split
 ·have:2^k<=2^3:=Nat.pow_le_pow_right (by omega) (by omega);omega
 ·omega
theorem TV(v:Voy)(op:Nat):dK (xV (fun _=>0) 25 16)=dK (kF v op 0):=tD fun i _=>by simp[xV,kF]
def BR(v:Voy)(n:Nat)(bl:List Int)(i k:Nat):Bool:=(List.range k).all fun j=>match v.looks[j]? with|some x=>gY (n:Int) bl ⟨hAt i,0⟩ j x|none=>true
theorem HQ(v:Voy)(n:Nat)(bl:List Int)(i:Nat):BR v n bl i v.looks.length=okL v bl n i:=rfl
theorem MN{v:Voy}{k:Nat}(hk:k<v.looks.length)(n:Nat)(bl:List Int)(i:Nat):BR v n bl i (k+1)=(BR v n bl i k&&gY (n:Int) bl ⟨hAt i,0⟩ k v.looks[k]):=by
 simp[BR,List.range_succ,List.all_append,hk]
theorem ZS{v:Voy}{n i:Nat}{bl:List Int}{k j:Nat}(hkj:k<=j)(hf:BR v n bl i k=false):BR v n bl i j=false:=by
 simp only[BR,List.all_eq_false,List.mem_range] at hf ⊢;obtain⟨a,ha,h1⟩:=hf;exact⟨a,by omega,h1⟩
theorem aLL{x:Look}{i:Nat}(hx:x.hour<=24):v8 x (hAt i)=(x.turned==decide ((i:Int)<=x.hour)):=by
 unfold v8 hAt;by_cases h:i=25
 ·subst h;have:decide (((25:Nat):Int)<=x.hour)=false:=by simp;omega
  rw[this];simp
 ·rw[if_neg h];have:decide ((i:Int)≠-1)=true:=decide_eq_true (by omega);rw[this,Bool.true_and]
def fP(v:Voy)(bl:List Int)(n op h:Nat)(i:Nat):Nat:=if i<h then tF v bl n op i else kF v op v.doors.length i
theorem aG8(v:Voy)(bl:List Int)(n op:Nat):fP v bl n op 0=kF v op v.doors.length:=by funext i;simp[fP]
theorem T5(v:Voy)(bl:List Int)(n op:Nat):dK (fP v bl n op 26)=dK (tF v bl n op):=tD fun i hi=>by simp[fP,hi]
theorem CX{v:Voy}{bl:List Int}{n op h:Nat}(hk:tF v bl n op h=kF v op v.doors.length h):fP v bl n op h=fP v bl n op (h+1):=by
 funext i;simp only[fP];by_cases h1:i=h
 ·subst h1;simp[hk]
 ·by_cases h2:i<h
  ·simp[h2,show i<h+1 by omega]
  ·simp[h2,show ¬i<h+1 by omega]
theorem O6{v:Voy}{bl:List Int}{n op h:Nat}(hk:tF v bl n op h=0):xV (fP v bl n op h) h 0=fP v bl n op (h+1):=by
 funext i;simp only[fP,xV];by_cases h1:i=h
 ·subst h1;simp[hk]
 ·by_cases h2:i<h
  ·simp[h1,h2,show i<h+1 by omega]
  ·simp[h1,h2,show ¬i<h+1 by omega]
theorem ZZ(v:Voy)(bl:List Int)(n op h:Nat):fP v bl n op h h=kF v op v.doors.length h:=by simp[fP]
end Go.Am.Room.Do
namespace Go.Am.Room.Do
def bP:=zz @aY (zz @bA (zz @bN (zz @bL (zz @List.length_append.{0} (zz @NM (zz @MX (zz @OH (zz @KC (zz @OV (zz @NT (zz @N7 (zz @OK (zz @O3 (zz @eW (zz @Nat.add_lt_add_iff_left (zz @Nat.lt_add_right_iff_pos (zz @Nat.mul_one (zz @Int.toNat_natCast (zz @j4 (zz @lA (zz @lB (zz @jI (@pL)))))))))))))))))))))))
theorem IA{S:List Ask->St}{v:Voy}{b p m N:Nat}{bl:List Int}(hR:MemAt S (db v b m) (tEs v bl) p m N)(hv:Vd v)(hb:ButIs b bl)(M:List Ask)(n op:Nat)(hn:n<100)(hop:op<16):
  BH T (.func 412 [] []) [.ptr p 0,wF (n,op)] (S M) (fQ v bl (n,op)) (S (j8 M (n,op))):=by
 have hdr:=hv.ndr;have hhr:=hv.hours;have hdl:=hv.delay;have hnl:=hv.nlk;have hpl:=hR.pl;have hl1:=fun τ=>Y1 (EA v bl) hR M τ (n,op)
 refine rI hR (af:=SN) rfl (by simp[SN]) ?_;simp only[v7,oO] at hl1 ⊢
 (repeat (first|simp only[↓QA,QB,reduceLT,reduceIte,reduceEqDiff,reduceAdd,reduceLeDiff,reduceMul,Nat.reduceBEq,bP,hR.len,hR.base,hR.base0,hR.bset,hR.bset0,hR.at1,hR.at0,SN]|refine rd0 rfl ?_))
 refine E3 [.cells (dK fun _=>0)] rfl ?_;by_cases hm:(n,op)∈M
 ·have hst:j8 M (n,op)=M:=by simp[j8,hm]
  rw[hst];simp only[hm,if_true] at hl1
  (repeat (first|simp only[↓QA,QB,reduceLT,reduceIte,reduceEqDiff,reduceAdd,reduceLeDiff,reduceMul,Nat.reduceBEq,bP,hR.len,hR.base,hR.base0,hR.bset,hR.bset0,hR.at1,hR.at0,hl1,LB,LX,<-z26]|refine rd0 rfl ?_))
  refine⟨_,_,rfl,rfl,?_⟩;try simp only[QS,QC,reduceLT,reduceIte,reduceEqDiff,reduceAdd,reduceLeDiff,reduceMul,Nat.reduceBEq,bP,hR.len,hR.base,hR.base0,hR.bset,hR.bset0,hR.at1,hR.at0,pL]
 ·have hst:j8 M (n,op)=M++[(n,op)]:=by simp[j8,hm]
  have hput:=fun τ=>aC3 (EA v bl) hR M τ (n,op) hm
  simp only[v7,oO] at hput;rw[hst];simp only[hm,if_false] at hl1;have h25:(dK fun _=>0).take 25++[AV.int .i64 16]=dK (kF v op 0):=by rw[<-TV v op];exact IT (fun _=>0) 16
  have i25:(0:Int)<=25/\(25:Int)<((26:Nat):Int):=⟨by omega,by omega⟩;have t25:Int.toNat 25=25:=rfl
  (repeat (first|simp only[↓QA,QB,reduceLT,reduceIte,reduceEqDiff,reduceAdd,reduceLeDiff,reduceMul,Nat.reduceBEq,bP,hR.len,hR.base,hR.base0,hR.bset,hR.bset0,hR.at1,hR.at0,hl1,LB,LX,<-z26,i25,t25,h25]|refine rd0 rfl ?_))
  refine cY (S:=Nat) 0 (fun k=>k<=v.doors.length) (fun k=>v.doors.length-k)
   (fun k=>[(0,.ptr p 0),(3,.ptr N 0),(4,.ptr (N+1) 0),(7,.ptr (N+3) 0),(32,.lit (v.doors.map eF) false none),(33,.int .i64 v.doors.length),(34,.int .i64 k)])
   (fun k=>S M++[.cells [.int .i64 n,.int .i64 op],.cells (dK fun _=>0),.cells (dK fun _=>0),.cells (dK (kF v op k))]) (Nat.zero_le _) rfl ?_ fun k hk=>?_
  ·try simp only[aD,QE,reduceLT,reduceIte,reduceEqDiff,reduceAdd,reduceLeDiff,reduceMul,Nat.reduceBEq,bP,hR.len,hR.base,hR.base0,hR.bset,hR.bset0,hR.at1,hR.at0]
   try simp
  ·(repeat (first|simp only[↓QA,QB,reduceLT,reduceIte,reduceEqDiff,reduceAdd,reduceLeDiff,reduceMul,Nat.reduceBEq,bP,hR.len,hR.base,hR.base0,hR.bset,hR.bset0,hR.at1,hR.at0,R4]|refine rd0 rfl ?_))
   refine aG (fun hd=>?_) fun hd=>?_
   ·have hk1:k<v.doors.length:=by simpa using hd
    have hwk:=cB hk1 (by omega);have hdo:=hv.dr _ (List.getElem_mem hk1);obtain⟨x,hx⟩:∃ x,v.doors[k]=x:=⟨_,rfl⟩;rw[hx] at hdo;have hdh:aT v k=x.hour:=by simp[aT,hk1,hx]
    obtain⟨X,hX⟩:∃ X,(v.delay.hi+1-v.delay.lo).toNat=X:=⟨_,rfl⟩;have hsh:=v5 k (by omega);have hp2:2^k<=2^3:=Nat.pow_le_pow_right (by omega) (by omega);have hand:=QJ op (2^k) (by omega) (by omega);have hal:op &&& 2^k<=op:=Nat.and_le_left
    (repeat (first|simp only[↓QA,QB,reduceLT,reduceIte,reduceEqDiff,reduceAdd,reduceLeDiff,reduceMul,Nat.reduceBEq,bP,hR.len,hR.base,hR.base0,hR.bset,hR.bset0,hR.at1,hR.at0,hk1,hx]|refine rd0 rfl ?_))
    refine cY (S:=Nat) 0 (fun j=>j<=X) (fun j=>X-j)
     (fun j=>[(0,.ptr p 0),(3,.ptr N 0),(4,.ptr (N+1) 0),(7,.ptr (N+3) 0),(9,.int .i64 k),(10,.ptr (N+4) 0),(11,.int .i64 (v.delay.lo+(j:Int))),(32,.lit (v.doors.map eF) false none),(33,.int .i64 v.doors.length),(34,.int .i64 k)])
     (fun j=>S M++[.cells [.int .i64 n,.int .i64 op],.cells (dK fun _=>0),.cells (dK fun _=>0),.cells (dK (mA v op k (v.delay.lo+(j:Int)))),.cells [.int .i64 x.hour,.bool x.sure]]) (Nat.zero_le _) (by simp[WQ]) ?_ fun j hj=>?_
    ·try simp only[aD,QE,reduceLT,reduceIte,reduceEqDiff,reduceAdd,reduceLeDiff,reduceMul,Nat.reduceBEq,bP,hR.len,hR.base,hR.base0,hR.bset,hR.bset0,hR.at1,hR.at0]
     try simp
    ·obtain⟨y,hy⟩:∃ y,v.delay.lo+(j:Int)=y:=⟨_,rfl⟩;have hy1:v.delay.lo+((j+1:Nat):Int)=y+1:=by omega
     simp only[hy];obtain⟨q,hq⟩:∃ q:Nat,x.hour+y=(q:Int):=⟨(x.hour+y).toNat,by omega⟩;have hw1:IntKind.i64.wrap (x.hour+y)=(q:Int):=by rw[hq];exact dL ⟨by omega,by omega⟩
     have hw2:IntKind.i64.wrap (y+1)=y+1:=dL ⟨by omega,by omega⟩
     (repeat (first|simp only[↓QA,QB,reduceLT,reduceIte,reduceEqDiff,reduceAdd,reduceLeDiff,reduceMul,Nat.reduceBEq,bP,hR.len,hR.base,hR.base0,hR.bset,hR.bset0,hR.at1,hR.at0,PF]|refine rd0 rfl ?_))
     cases h1:decide (y<=v.delay.hi)
     ·have h1':¬y<=v.delay.hi:=by simpa using h1
      (repeat (first|simp only[↓QA,QB,reduceLT,reduceIte,reduceEqDiff,reduceAdd,reduceLeDiff,reduceMul,Nat.reduceBEq,bP,hR.len,hR.base,hR.base0,hR.bset,hR.bset0,hR.at1,hR.at0,h1]|refine rd0 rfl ?_))
      rw[FT (v:=v) (by omega) (.inl (by omega))];refine⟨k+1,by omega,by omega,?_⟩;try simp only[aD,QE,reduceLT,reduceIte,reduceEqDiff,reduceAdd,reduceLeDiff,reduceMul,Nat.reduceBEq,bP,hR.len,hR.base,hR.base0,hR.bset,hR.bset0,hR.at1,hR.at0,hwk]
      try simp[aO,okVs,okV,i7]
      try omega
     ·have h1':y<=v.delay.hi:=by simpa using h1
      cases h2:decide ((q:Int)<=v.hours)
      ·have h2':¬(q:Int)<=v.hours:=by simpa using h2
       (repeat (first|simp only[↓QA,QB,reduceLT,reduceIte,reduceEqDiff,reduceAdd,reduceLeDiff,reduceMul,Nat.reduceBEq,bP,hR.len,hR.base,hR.base0,hR.bset,hR.bset0,hR.at1,hR.at0,h1,hw1,h2]|refine rd0 rfl ?_))
       rw[FT (v:=v) (by omega) (.inr (by omega))];refine⟨k+1,by omega,by omega,?_⟩;try simp only[aD,QE,reduceLT,reduceIte,reduceEqDiff,reduceAdd,reduceLeDiff,reduceMul,Nat.reduceBEq,bP,hR.len,hR.base,hR.base0,hR.bset,hR.bset0,hR.at1,hR.at0,hwk]
       try simp[aO,okVs,okV,i7]
       try omega
      ·have h2':(q:Int)<=v.hours:=by simpa using h2
       have iq:(0:Int)<=(q:Int)/\(q:Int)<((26:Nat):Int):=⟨by omega,by omega⟩;have c25:q<=25:=by omega
       have hrl:=SD (v:=v) (op:=op) (k:=k) (x:=y) (i:=q) (by omega);have hg:=j6 (mA v op k y) (i:=q) (by omega);have hor:=JR (mA v op k y q) (op &&& 2^k) (by omega) (by omega);have hs:=uW (mA v op k y) (mA v op k y q|||(op &&& 2^k)) (i:=q) (by omega);rw[I4 (v:=v) (by omega) (by omega) h2'] at hs
       (repeat (first|simp only[↓QA,QB,reduceLT,reduceIte,reduceEqDiff,reduceAdd,reduceLeDiff,reduceMul,Nat.reduceBEq,bP,hR.len,hR.base,hR.base0,hR.bset,hR.bset0,hR.at1,hR.at0,h1,hw1,h2,iq,c25,hg,hsh,hand,hor,hs]|refine rd0 rfl ?_))
       refine⟨j+1,by omega,by omega,?_⟩;try simp only[aD,QE,reduceLT,reduceIte,reduceEqDiff,reduceAdd,reduceLeDiff,reduceMul,Nat.reduceBEq,bP,hR.len,hR.base,hR.base0,hR.bset,hR.bset0,hR.at1,hR.at0,hw2,hy1]
       try simp[aO,okVs,okV,i7]
       try omega
   ·have hk1:k=v.doors.length:=by simp at hd;omega
    rw[hk1,<-aG8 v bl n op]
    (repeat (first|simp only[↓QA,QB,reduceLT,reduceIte,reduceEqDiff,reduceAdd,reduceLeDiff,reduceMul,Nat.reduceBEq,bP,hR.len,hR.base,hR.base0,hR.bset,hR.bset0,hR.at1,hR.at0]|refine rd0 rfl ?_))
    refine cY (S:=Nat) 0 (fun h=>h<=26) (fun h=>26-h)
     (fun h=>[(0,.ptr p 0),(3,.ptr N 0),(4,.ptr (N+1) 0),(7,.ptr (N+3) 0),(81,.int .i64 h)])
     (fun h=>S M++[.cells [.int .i64 n,.int .i64 op],.cells (dK fun _=>0),.cells (dK fun _=>0),.cells (dK (fP v bl n op h))]) (Nat.zero_le _) rfl ?_ fun h hh=>?_
    ·try simp only[aD,QE,reduceLT,reduceIte,reduceEqDiff,reduceAdd,reduceLeDiff,reduceMul,Nat.reduceBEq,bP,hR.len,hR.base,hR.base0,hR.bset,hR.bset0,hR.at1,hR.at0]
     try simp
    ·(repeat (first|simp only[↓QA,QB,reduceLT,reduceIte,reduceEqDiff,reduceAdd,reduceLeDiff,reduceMul,Nat.reduceBEq,bP,hR.len,hR.base,hR.base0,hR.bset,hR.bset0,hR.at1,hR.at0,P3]|refine rd0 rfl ?_))
     refine aG (fun hd2=>?_) fun hd2=>?_
     ·have hh1:h<26:=by simp at hd2;omega
      have hwh:=cB hh1 (by omega);have ih:(0:Int)<=(h:Int)/\(h:Int)<((26:Nat):Int):=⟨by omega,by omega⟩;have c25:h<=25:=by omega
      have hg:=j6 (fP v bl n op h) hh1;rw[ZZ] at hg;have htF:tF v bl n op h=if okL v bl n h=true then kF v op v.doors.length h else 0:=rfl
      obtain⟨R,hRw⟩:∃ R,kF v op v.doors.length h=R:=⟨_,rfl⟩;rw[hRw] at hg htF;cases h0:((R:Int)==0)
      ·(repeat (first|simp only[↓QA,QB,reduceLT,reduceIte,reduceEqDiff,reduceAdd,reduceLeDiff,reduceMul,Nat.reduceBEq,bP,hR.len,hR.base,hR.base0,hR.bset,hR.bset0,hR.at1,hR.at0,ih,hg,h0]|refine rd0 rfl ?_))
       refine cY (S:=Nat) 0 (fun i=>i<=v.looks.length/\BR v n bl h i=true) (fun i=>v.looks.length-i)
        (fun i=>[(0,.ptr p 0),(3,.ptr N 0),(4,.ptr (N+1) 0),(7,.ptr (N+3) 0),(12,.int .i64 h),(81,.int .i64 h),(92,.lit (v.looks.map bY) false none),(93,.int .i64 v.looks.length),(94,.int .i64 i)])
        (fun i=>S M++[.cells [.int .i64 n,.int .i64 op],.cells (dK fun _=>0),.cells (dK fun _=>0),.cells (dK (fP v bl n op h))]) ⟨Nat.zero_le _,rfl⟩ rfl ?_ fun i hi=>?_
       ·try simp only[aD,QE,reduceLT,reduceIte,reduceEqDiff,reduceAdd,reduceLeDiff,reduceMul,Nat.reduceBEq,bP,hR.len,hR.base,hR.base0,hR.bset,hR.bset0,hR.at1,hR.at0]
        try simp
       ·obtain⟨hi,hok⟩:=hi
        (repeat (first|simp only[↓QA,QB,reduceLT,reduceIte,reduceEqDiff,reduceAdd,reduceLeDiff,reduceMul,Nat.reduceBEq,bP,hR.len,hR.base,hR.base0,hR.bset,hR.bset0,hR.at1,hR.at0,PJ]|refine rd0 rfl ?_))
        refine aG (fun hd3=>?_) fun hd3=>?_
        ·have hi1:i<v.looks.length:=by simpa using hd3
         have hwi:=cB hi1 (by omega);have hlk:=hv.lk _ (List.getElem_mem hi1);obtain⟨y,hy⟩:∃ y,v.looks[i]=y:=⟨_,rfl⟩;have hsucc:=MN hi1 n bl h;rw[hy] at hlk hsucc;rw[hok,Bool.true_and] at hsucc;have hso:=aLL (x:=y) (i:=h) (by omega);have hlo:gY (n:Int) bl ⟨hAt h,0⟩ i y=(!decide (y.lot=(n:Int))||bl.contains (i:Int)||v8 y (hAt h)):=rfl;rw[hso] at hlo;have hdiv:b/2^i<9223372036854775808:=Nat.lt_of_le_of_lt (Nat.div_le_self _ _) hb.lt;have hbit:=hb.bit i (by omega);have vs:=aAZ b i (by omega);have va:=U5 (b/2^i) hdiv;have go:BR v n bl h (i+1)=true->(i+1<=v.looks.length/\BR v n bl h (i+1)=true):=fun q=>⟨by omega,q⟩
         cases h1:(y.lot==(n:Int))
         ·have h1':¬y.lot=(n:Int):=by simpa using h1
          have hl:gY (n:Int) bl ⟨hAt h,0⟩ i y=true:=by rw[hlo];simp[h1']
          rw[hl] at hsucc
          (repeat (first|simp only[↓QA,QB,reduceLT,reduceIte,reduceEqDiff,reduceAdd,reduceLeDiff,reduceMul,Nat.reduceBEq,bP,hR.len,hR.base,hR.base0,hR.bset,hR.bset0,hR.at1,hR.at0,hi1,hy,h1]|refine rd0 rfl ?_))
          refine⟨i+1,go hsucc,by omega,?_⟩;try simp only[aD,QE,reduceLT,reduceIte,reduceEqDiff,reduceAdd,reduceLeDiff,reduceMul,Nat.reduceBEq,bP,hR.len,hR.base,hR.base0,hR.bset,hR.bset0,hR.at1,hR.at0,hwi]
          try simp[aO,okVs,okV,i7]
          try omega
         ·have h1':y.lot=(n:Int):=by simpa using h1
          cases h2:bl.contains (i:Int)
          ·rw[h2] at hbit;cases h3:(y.turned==decide ((h:Int)<=y.hour))
           ·have hl:gY (n:Int) bl ⟨hAt h,0⟩ i y=false:=by rw[hlo,h2,h3];simp[h1']
            rw[hl] at hsucc;have hqf:okL v bl n h=false:=by rw[<-HQ];exact ZS (show i+1<=v.looks.length by omega) hsucc
            rw[hqf] at htF;have hs:=uW (fP v bl n op h) 0 hh1;rw[O6 (by simpa using htF)] at hs;have hs':(dK (fP v bl n op h)).take h++[AV.int .i64 0]++(dK (fP v bl n op h)).drop (h+1)=dK (fP v bl n op (h+1)):=hs
            (repeat (first|simp only[↓QA,QB,reduceLT,reduceIte,reduceEqDiff,reduceAdd,reduceLeDiff,reduceMul,Nat.reduceBEq,bP,hR.len,hR.base,hR.base0,hR.bset,hR.bset0,hR.at1,hR.at0,hi1,hy,h1,vs,va,hbit,h3,ih,c25,hs']|refine rd0 rfl ?_))
            refine⟨h+1,by omega,by omega,?_⟩;try simp only[aD,QE,reduceLT,reduceIte,reduceEqDiff,reduceAdd,reduceLeDiff,reduceMul,Nat.reduceBEq,bP,hR.len,hR.base,hR.base0,hR.bset,hR.bset0,hR.at1,hR.at0,hwh]
            try simp[aO,okVs,okV,i7]
            try omega
           ·have hl:gY (n:Int) bl ⟨hAt h,0⟩ i y=true:=by rw[hlo,h3];simp
            rw[hl] at hsucc
            (repeat (first|simp only[↓QA,QB,reduceLT,reduceIte,reduceEqDiff,reduceAdd,reduceLeDiff,reduceMul,Nat.reduceBEq,bP,hR.len,hR.base,hR.base0,hR.bset,hR.bset0,hR.at1,hR.at0,hi1,hy,h1,vs,va,hbit,h3]|refine rd0 rfl ?_))
            refine⟨i+1,go hsucc,by omega,?_⟩;try simp only[aD,QE,reduceLT,reduceIte,reduceEqDiff,reduceAdd,reduceLeDiff,reduceMul,Nat.reduceBEq,bP,hR.len,hR.base,hR.base0,hR.bset,hR.bset0,hR.at1,hR.at0,hwi]
            try simp[aO,okVs,okV,i7]
            try omega
          ·rw[h2] at hbit;have hl:gY (n:Int) bl ⟨hAt h,0⟩ i y=true:=by rw[hlo,h2];simp
           rw[hl] at hsucc
           (repeat (first|simp only[↓QA,QB,reduceLT,reduceIte,reduceEqDiff,reduceAdd,reduceLeDiff,reduceMul,Nat.reduceBEq,bP,hR.len,hR.base,hR.base0,hR.bset,hR.bset0,hR.at1,hR.at0,hi1,hy,h1,vs,va,hbit]|refine rd0 rfl ?_))
           refine⟨i+1,go hsucc,by omega,?_⟩;try simp only[aD,QE,reduceLT,reduceIte,reduceEqDiff,reduceAdd,reduceLeDiff,reduceMul,Nat.reduceBEq,bP,hR.len,hR.base,hR.base0,hR.bset,hR.bset0,hR.at1,hR.at0,hwi]
           try simp[aO,okVs,okV,i7]
           try omega
        ·have hi1:i=v.looks.length:=by simp at hd3;omega
         rw[hi1,HQ] at hok;rw[hok] at htF;rw[CX (by rw[htF,hRw];rfl)]
         (repeat (first|simp only[↓QA,QB,reduceLT,reduceIte,reduceEqDiff,reduceAdd,reduceLeDiff,reduceMul,Nat.reduceBEq,bP,hR.len,hR.base,hR.base0,hR.bset,hR.bset0,hR.at1,hR.at0]|refine rd0 rfl ?_))
         refine⟨h+1,by omega,by omega,?_⟩;try simp only[aD,QE,reduceLT,reduceIte,reduceEqDiff,reduceAdd,reduceLeDiff,reduceMul,Nat.reduceBEq,bP,hR.len,hR.base,hR.base0,hR.bset,hR.bset0,hR.at1,hR.at0,hwh]
         try simp[aO,okVs,okV,i7]
         try omega
      ·have h0':R=0:=by simp at h0;omega
       have hte:tF v bl n op h=kF v op v.doors.length h:=by rw[htF,hRw,h0'];simp
       (repeat (first|simp only[↓QA,QB,reduceLT,reduceIte,reduceEqDiff,reduceAdd,reduceLeDiff,reduceMul,Nat.reduceBEq,bP,hR.len,hR.base,hR.base0,hR.bset,hR.bset0,hR.at1,hR.at0,ih,hg,h0]|refine rd0 rfl ?_))
       rw[CX hte];refine⟨h+1,by omega,by omega,?_⟩;try simp only[aD,QE,reduceLT,reduceIte,reduceEqDiff,reduceAdd,reduceLeDiff,reduceMul,Nat.reduceBEq,bP,hR.len,hR.base,hR.base0,hR.bset,hR.bset0,hR.at1,hR.at0,hwh]
       try simp[aO,okVs,okV,i7]
       try omega
     ·have hh1:h=26:=by simp at hd2;omega
      subst hh1;rw[T5]
      (repeat (first|simp only[↓QA,QB,reduceLT,reduceIte,reduceEqDiff,reduceAdd,reduceLeDiff,reduceMul,Nat.reduceBEq,bP,hR.len,hR.base,hR.base0,hR.bset,hR.bset0,hR.at1,hR.at0,hput]|refine rd0 rfl ?_))
      refine⟨_,_,rfl,rfl,?_⟩;try simp only[QS,QC,reduceLT,reduceIte,reduceEqDiff,reduceAdd,reduceLeDiff,reduceMul,Nat.reduceBEq,bP,hR.len,hR.base,hR.base0,hR.bset,hR.bset0,hR.at1,hR.at0,pL]
end Go.Am.Room.Do
namespace Go.Am.Room.Do
def dP:=zz @aY (zz @bA (zz @bN (zz @bL (zz @List.length_append.{0} (zz @NM (zz @MX (zz @OH (zz @KC (zz @OV (zz @NT (zz @N7 (zz @OK (zz @O3 (zz @eW (zz @Nat.add_lt_add_iff_left (zz @Nat.lt_add_right_iff_pos (zz @Nat.mul_one (zz @Int.toNat_natCast (zz @j4 (zz @lA (zz @lB (zz @jI (@pL)))))))))))))))))))))))
def fN(v:Voy)(bl:List Int)(set k:Nat):List AV:=(List.range k).map fun n=>fQ v bl (n,set)
theorem MS(v:Voy)(bl:List Int)(set k:Nat):fN v bl set (k+1)=fN v bl set k++[fQ v bl (k,set)]:=by simp[fN,List.range_succ]
theorem zS(v:Voy)(bl:List Int)(set k:Nat):(fN v bl set k).length=k:=by simp[fN]
theorem wZ(v:Voy)(bl:List Int)(w:Ask):bD 26 (fQ v bl w)=true:=by rw[fQ,aAU,j4,jI];rfl
theorem H6(v:Voy)(bl:List Int)(set k:Nat):aF 26 (fN v bl set k)=true:=n9 26 (fun n=>fQ v bl (n,set)) (List.range k) fun n=>wZ v bl _
theorem KH(v:Voy)(bl:List Int)(set k:Nat):kJ (fN v bl set k):=b9 (enc:=fun n=>fQ v bl (n,set)) (fun n=>AG v bl _) (List.range k)
theorem aCU(v:Voy)(bl:List Int)(set k:Nat)(σ:St)(m d:Nat):bW σ m d (fN v bl set k)=some (fN v bl set k):=iE (KH v bl set k) σ m d
theorem SR(v:Voy)(bl:List Int)(set:Nat){k n:Nat}(h:n<k):(fN v bl set k)[n]? = some (fQ v bl (n,set)):=by simp[fN,h]
def eL(v:Voy)(bl:List Int)(set:Nat):Nat->Nat->List Ask->Bool×List Ask
 |0,_,A=>(true,A)
 |k+1,n,A=>if u6 (tF v bl n set)=true then (false,j8 A (n,set)) else eL v bl set k (n+1) (j8 A (n,set))
theorem FJ(v:Voy)(bl:List Int)(set:Nat):∀ (k n:Nat) (A:List Ask),(eL v bl set k n A).1=(List.range k).all fun j=>!u6 (tF v bl (n+j) set)
 |0,n,A=>rfl
 |k+1,n,A=>by
  rw[List.range_succ_eq_map,List.all_cons,List.all_map];simp only[eL];split
  ·rename_i h;simp[h]
  ·rename_i h;rw[FJ v bl set k (n+1)];simp only[Nat.add_zero,h,Function.comp_def];simp only[Bool.not_false,Bool.true_and]
   congr 1
   funext j;rw[show n+1+j=n+Nat.succ j by omega]
theorem M8(v:Voy)(bl:List Int)(set:Nat)(A:List Ask):(eL v bl set v.lots.toNat 0 A).1=fL v bl set:=by
 rw[FJ];simp[fL]
theorem YJ{S:List Ask->St}{v:Voy}{b p m N:Nat}{bl:List Int}(hR:MemAt S (db v b m) (tEs v bl) p m N)(hv:Vd v)(hb:ButIs b bl)(set:Nat)(hset:set<16)(q yc:Nat)(hq:∀ A τ,aL (S A++τ) q=some [.ptr p 0])(hql:q<N)(hyl:yc<N)(L:Nat)(hL:v.lots=(L:Int))(A:List Ask)(e:Env)(K:KJ)(e1:Env.get e 1 = .int .i64 set)(e2:Env.get e 2 = .ptr q 0)(e4:Env.get e 4 = .ptr yc 0)(e8:Env.get e 8 = .lit [] false (some N))(e49:Env.get e 49 = .int .i64 (L:Int))(e50:Env.get e 50 = .int .i64 0)(hKt:∀ A' e' ex,eL v bl set L 0 A=(true,A')->Env.get e' 1 = .int .i64 set->Env.get e' 4 = .ptr yc 0->Env.get e' 8 = .lit (fN v bl set L) false (some N)->K (some (.exit 0)) e' (S A'++[.tok 26 L ex]))(hKf:∀ A' e' τ',eL v bl set L 0 A=(false,A')->Env.get e' 7 = .bool true->K (some .ret) e' (S A'++τ')):
  rK (K:=⟨K⟩) T (.loop H2) e (S A++[.tok 26 0 false]):=by
 have hlo:=hv.lots;have hpl:=hR.pl;obtain⟨R,hRR⟩:∃ R,eL v bl set L 0 A=R:=⟨_,rfl⟩;rw[hRR] at hKt hKf;refine cY (S:=Nat×Bool×List Ask) (0,false,A) (fun a=>a.1<=L/\eL v bl set (L-a.1) a.1 a.2.2=R) (fun a=>L-a.1)
  (fun a=>[(1,.int .i64 set),(2,.ptr q 0),(4,.ptr yc 0),(8,.lit (fN v bl set a.1) false (some N)),(49,.int .i64 (L:Int)),(50,.int .i64 a.1)])
  (fun a=>S a.2.2++[.tok 26 a.1 a.2.1]) ⟨Nat.zero_le _,by simpa using hRR⟩ rfl ?_ fun a ha=>?_
 ·try simp only[aD,QE,seval,dP,hR.len,hR.base,hR.base0,hR.bset,hR.bset0,hR.at1,hR.at0,e1,e2,e4,e8,e49,e50,fN,List.range_zero,List.map_nil]
  try simp
 ·obtain⟨k,ex,A1⟩:=a;obtain⟨hk,hacc⟩:=ha;simp only at hk hacc;try simp only[↓QA,QB,seval,dP,hR.len,hR.base,hR.base0,hR.bset,hR.bset0,hR.at1,hR.at0,H2]
  refine aG (fun hd=>?_) fun hd=>?_
  ·have hk1:k<L:=by simpa using hd
   have hw:=cB hk1 (by omega);rw[show L-k=(L-(k+1))+1 by omega] at hacc;simp only[eL] at hacc;obtain⟨A2,hA2⟩:∃ A2,j8 A1 (k,set)=A2:=⟨_,rfl⟩;have htu:=IA (hR.app [.tok 26 k ex]) hv hb A1 k set (by omega) hset;rw[hA2] at hacc htu;have hz:=NW (tF v bl k set);have hrs:=MS v bl set k;have hap:=fun (τ:St)=>sE (σ:=S A2++(.tok 26 k ex::τ)) (t:=N) (ex:=ex) (sz:=26) (b:=208) (xs:=fN v bl set k) (ys:=[fQ v bl (k,set)]) (f:=true) (tk:=none) ⟨H6 v bl set k,by rw[JG,wZ];rfl,by rw[zS];simp[room];omega,by rw[zS];simp[room];omega⟩ (by simp) k (zS v bl set k).symm (by rw[<-hR.len A2];simp)
   simp only[oO,v7] at htu hap hrs;try simp only[↓QA,QB,seval,dP,hR.len,hR.base,hR.base0,hR.bset,hR.bset0,hR.at1,hR.at0] at htu hap
   try simp only[↓QA,QB,seval,dP,hR.len,hR.base,hR.base0,hR.bset,hR.bset0,hR.at1,hR.at0,hq]
   refine dR htu ?_;try simp only[↓QA,QB,seval,dP,hR.len,hR.base,hR.base0,hR.bset,hR.bset0,hR.at1,hR.at0,hq,<-z26,hz]
   cases h0:u6 (tF v bl k set)
   ·rw[h0] at hacc;simp only[Bool.false_eq_true,if_false] at hacc;try simp only[↓QA,QB,seval,dP,hR.len,hR.base,hR.base0,hR.bset,hR.bset0,hR.at1,hR.at0,hq,h0,hap]
    refine⟨(k+1,true,A2),⟨by simp only;omega,hacc⟩,by simp only;omega,?_⟩;simp only[<-hrs];try simp only[aD,QE,seval,dP,hR.len,hR.base,hR.base0,hR.bset,hR.bset0,hR.at1,hR.at0,hw,hR.eqS,XC,aBF,aCU]
    try simp[aO,okVs,okV]
    try omega
   ·rw[h0] at hacc;simp only[if_true] at hacc;try simp only[↓QA,QB,seval,dP,hR.len,hR.base,hR.base0,hR.bset,hR.bset0,hR.at1,hR.at0,hq,h0]
    exact hKf A2 _ _ hacc.symm (by try simp only[aD,QE,seval,dP,hR.len,hR.base,hR.base0,hR.bset,hR.bset0,hR.at1,hR.at0])
  ·have hk1:k=L:=by simp at hd;omega
   subst hk1;rw[Nat.sub_self] at hacc;simp only[eL] at hacc;try simp only[↓QA,QB,seval,dP,hR.len,hR.base,hR.base0,hR.bset,hR.bset0,hR.at1,hR.at0]
   refine hKt A1 _ ex hacc.symm ?_ ?_ ?_;all_goals try simp only[aD,QE,seval,dP,hR.len,hR.base,hR.base0,hR.bset,hR.bset0,hR.at1,hR.at0]
theorem aAK{S:List Ask->St}{v:Voy}{b p m N:Nat}{bl:List Int}(hR:MemAt S (db v b m) (tEs v bl) p m N)(hv:Vd v)(hb:ButIs b bl)(set:Nat)(hset:set<16)(q y3 yc id:Nat)(hq:∀ A τ,aL (S A++τ) q=some [.ptr p 0])(hyc:∀ A τ,aL (S A++τ) yc=some [.yield id])(hql:q<N)(hyl:yc<N)(A:List Ask)(V:Bool)(W:List Ask->St)(hcall:∀ A' fl tk τ,fL v bl set=true->Run T (.callv (.yield id) [.int .i64 set,.lit (fN v bl set v.lots.toNat) fl tk] (S A'++τ)) fun o=>o.v = .bool V/\∃ τ',o.σ=W A'++τ'):
  wp T wK.body (dX 0 [.int .i64 v.doors.length,.int .i64 set,.ptr q 0,.ptr y3 0,.ptr yc 0]) (S A) (fun j e σ'=>(j=none\/j=some .ret)/\Env.get e 7 = .bool (if fL v bl set=true then V else true)/\∃ τ',σ'=(if fL v bl set=true then W (eL v bl set v.lots.toNat 0 A).2 else S (eL v bl set v.lots.toNat 0 A).2)++τ'):=by
 have hlo:=hv.lots;have hlf:=M8 v bl set A;obtain⟨L,hL⟩:∃ L:Nat,v.lots=(L:Int):=⟨v.lots.toNat,by omega⟩;have hLn:v.lots.toNat=L:=by omega
 rw[hLn] at hlf hcall ⊢;have hq0:=fun A=>by simpa using hq A []
 have g:decide ((v.doors.length:Int)<(v.doors.length:Int))=false:=by simp
 have hl0:Int.ofNat L=(L:Int):=rfl
 (repeat (first|simp only[↓QA,QB,reduceLT,reduceIte,reduceEqDiff,reduceAdd,reduceLeDiff,reduceMul,Nat.reduceBEq,dP,hR.len,hR.base,hR.base0,hR.bset,hR.bset0,hR.at1,hR.at0,wK,hq,hq0,g]|refine rd0 rfl ?_))
 refine qO 8 26 [] rfl ?_
 (repeat (first|simp only[↓QA,QB,reduceLT,reduceIte,reduceEqDiff,reduceAdd,reduceLeDiff,reduceMul,Nat.reduceBEq,dP,hR.len,hR.base,hR.base0,hR.bset,hR.bset0,hR.at1,hR.at0,hq,hq0,hL]|refine rd0 rfl ?_))
 refine YJ hR hv hb set hset q yc hq hql hyl L hL A _ _ ?_ ?_ ?_ ?_ ?_ ?_ ?_ ?_
 ·try simp only[aD,QE,reduceLT,reduceIte,reduceEqDiff,reduceAdd,reduceLeDiff,reduceMul,Nat.reduceBEq,dP,hR.len,hR.base,hR.base0,hR.bset,hR.bset0,hR.at1,hR.at0]
 ·try simp only[aD,QE,reduceLT,reduceIte,reduceEqDiff,reduceAdd,reduceLeDiff,reduceMul,Nat.reduceBEq,dP,hR.len,hR.base,hR.base0,hR.bset,hR.bset0,hR.at1,hR.at0]
 ·try simp only[aD,QE,reduceLT,reduceIte,reduceEqDiff,reduceAdd,reduceLeDiff,reduceMul,Nat.reduceBEq,dP,hR.len,hR.base,hR.base0,hR.bset,hR.bset0,hR.at1,hR.at0]
 ·try simp only[aD,QE,reduceLT,reduceIte,reduceEqDiff,reduceAdd,reduceLeDiff,reduceMul,Nat.reduceBEq,dP,hR.len,hR.base,hR.base0,hR.bset,hR.bset0,hR.at1,hR.at0]
 ·try simp only[aD,QE,reduceLT,reduceIte,reduceEqDiff,reduceAdd,reduceLeDiff,reduceMul,Nat.reduceBEq,dP,hR.len,hR.base,hR.base0,hR.bset,hR.bset0,hR.at1,hR.at0]
 ·try simp only[aD,QE,reduceLT,reduceIte,reduceEqDiff,reduceAdd,reduceLeDiff,reduceMul,Nat.reduceBEq,dP,hR.len,hR.base,hR.base0,hR.bset,hR.bset0,hR.at1,hR.at0]
 ·intro A' e' ex hls q1 q4 q8;rw[hls] at hlf ⊢;have hlf':fL v bl set=true:=hlf.symm;have hc:=hcall A' false (some N) [.tok 26 L ex] hlf';rw[hlf']
  (repeat (first|simp only[↓QA,QB,reduceLT,reduceIte,reduceEqDiff,reduceAdd,reduceLeDiff,reduceMul,Nat.reduceBEq,dP,hR.len,hR.base,hR.base0,hR.bset,hR.bset0,hR.at1,hR.at0,q1,q4,q8,hyc]|refine rd0 rfl ?_))
  refine .mono hc fun o ho=>?_
  obtain⟨hv1,τ',hσ⟩:=ho;rw[hv1,hσ]
  (repeat (first|simp only[↓QA,QB,reduceLT,reduceIte,reduceEqDiff,reduceAdd,reduceLeDiff,reduceMul,Nat.reduceBEq,dP,hR.len,hR.base,hR.base0,hR.bset,hR.bset0,hR.at1,hR.at0,q1,q4,q8]|refine rd0 rfl ?_))
  exact⟨_,rfl⟩
 ·intro A' e' τ' hls q7;rw[hls] at hlf ⊢;have hlf':fL v bl set=false:=hlf.symm;rw[hlf']
  (repeat (first|simp only[↓QA,QB,reduceLT,reduceIte,reduceEqDiff,reduceAdd,reduceLeDiff,reduceMul,Nat.reduceBEq,dP,hR.len,hR.base,hR.base0,hR.bset,hR.bset0,hR.at1,hR.at0,q7]|refine rd0 rfl ?_))
  exact⟨by simp,τ',by simp⟩
end Go.Am.Room.Do
namespace Go.Am.Room.Do
def kU:=zz @aY (zz @bA (zz @bN (zz @bL (zz @List.length_append.{0} (zz @NM (zz @MX (zz @OH (zz @KC (zz @OV (zz @NT (zz @N7 (zz @OK (zz @O3 (zz @eW (zz @Nat.add_lt_add_iff_left (zz @Nat.lt_add_right_iff_pos (zz @Nat.mul_one (zz @Int.toNat_natCast (zz @uZ (@vK))))))))))))))))))))
def PK(N q:Nat):AV:=.func 411 [] [.ptr q 0,.ptr (N+1) 0,.ptr N 0]
def mJ(id N q:Nat):St:=[.cells [.yield id],.cells [PK N q]]
def iG{X:Type}(v:Voy)(bl:List Int)(f:Nat->X->X×Bool)(set:Nat)(x:X×List Ask):(X×List Ask)×Bool :=
 if fL v bl set=true then (((f set x.1).1,(eL v bl set v.lots.toNat 0 x.2).2),(f set x.1).2) else ((x.1,(eL v bl set v.lots.toNat 0 x.2).2),true)
def pO(v:Voy)(bl:List Int)(t:Nat)(fl:Bool)(tk:Option Nat):List AV:=[.int .i64 t,.lit (fN v bl t v.lots.toNat) fl tk]
def LW{X:Type}(Zp ZDp:X×List Ask->St)(id:Nat)(v:Voy)(bl:List Int)(P:Nat->Prop)(f:Nat->X->X×Bool):Prop :=
 ∀ t,P t->∀ (fl:Bool) (tk:Option Nat) (x:X×List Ask) τ,Run T (.callv (.yield id) (pO v bl t fl tk) (Zp x++τ)) fun o=>o.v = .bool (f t x.1).2/\∃ τ',o.σ=Fam.out Zp ZDp (((f t x.1).1,x.2),(f t x.1).2)++(τ++τ')
theorem D1{X:Type}{Zp ZDp:X×List Ask->St}{v:Voy}{b p m q N:Nat}{bl:List Int}(hR:Fam Zp ZDp (db v b m) p q N)(hS:∀ x,MemAt (fun A=>Zp (x,A)) (db v b m) (tEs v bl) p m N)(hv:Vd v)(hb:ButIs b bl){id:Nat}{P:Nat->Prop}{f:Nat->X->X×Bool}(hy:LW Zp ZDp id v bl P f):
  ∀ (k h set:Nat) (x:X×List Ask) (τ:St),h+k=v.doors.length->set<2^h->(∀ a∈fT (v.doors.drop h) h set,fL v bl a=true->P a) ->
   BH T (PK N q) [.int .i64 h,.int .i64 set] (Zp x++(mJ id N q++τ)) (.bool (cZ (iG v bl f) (fT (v.doors.drop h) h set) x).2) (Fam.out Zp ZDp (cZ (iG v bl f) (fT (v.doors.drop h) h set) x)++(mJ id N q++τ))
 |0,h,set,(x,A),τ,hk,hset,hP=>by
  have hdr:=hv.ndr;have hh:h=v.doors.length:=by omega
  have hd:v.doors.drop h=[]:=by rw[hh,List.drop_length]
  have hPs:=hP set (by rw[hd];simp[fT]);have h16:set<16:=Nat.lt_of_lt_of_le hset (show 2^h<=2^4 from Nat.pow_le_pow_right (by omega) (by omega));rw[hd];simp only[fT,M7];obtain⟨r,hr⟩:∃ r,iG v bl f set (x,A)=r:=⟨_,rfl⟩;rw[hr];subst hh
  have hlf:=aAK (S:=fun A=>Zp (x,A)++(mJ id N q++τ)) ((hS x).app (mJ id N q++τ)) hv hb set h16 q (N+1) N id (fun A τ'=>by rw[List.append_assoc];exact hR.atq1 _ _) (fun A τ'=>by rw[List.append_assoc,hR.base0];rfl) (by have:=hR.ql;omega) (by simp[mJ]) A (f set x).2 (fun A'=>Fam.out Zp ZDp (((f set x).1,A'),(f set x).2)++(mJ id N q++τ)) (fun A' fl tk τ' hl=>by
   rw[List.append_assoc];refine .mono (hy set (hPs hl) fl tk (x,A') ((mJ id N q++τ)++τ')) fun o ho=>?_
   obtain⟨h1,τ'',h2⟩:=ho
   exact⟨h1,τ'++τ'',by rw[h2];simp⟩)
  refine .callf (.call (af:=wK) rfl (by simp[wK]) (i3 hlf fun o ho=>ho) fun o ho=>?_);obtain⟨hj,h7,τ',hσ⟩:=ho;have hr':iG v bl f set (x,A)=r:=hr;simp only[iG] at hr';cases hl:fL v bl set
  ·rw[hl] at h7 hσ hr';simp only[Bool.false_eq_true,if_false] at h7 hσ hr';refine⟨hj,.bool r.2,?_,hR.leave (r:=r) (υ:=mJ id N q++τ) (τ':=τ') ?_ ⟨rfl,rfl⟩⟩
   ·simp only[wK,eQ,gX];rw[h7,<-hr'];rfl
   ·rw[hσ,<-hr'];simp[Fam.out]
  ·rw[hl] at h7 hσ hr';simp only[if_true] at h7 hσ hr';refine⟨hj,.bool r.2,?_,hR.leave (r:=r) (υ:=mJ id N q++τ) (τ':=τ') ?_ ⟨rfl,rfl⟩⟩
   ·simp only[wK,eQ,gX];rw[h7,<-hr'];rfl
   ·rw[hσ,<-hr'];simp
 |k+1,h,set,x,τ,hk,hset,hP=>by
  have hdr:=hv.ndr;have hh:h<v.doors.length:=by omega
  obtain⟨y,hye⟩:∃ y,v.doors[h]=y:=⟨_,rfl⟩;have hd:v.doors.drop h=y::v.doors.drop (h+1):=by rw[<-hye];exact List.drop_eq_getElem_cons hh
  rw[hd] at hP ⊢;simp only[fT] at hP ⊢;have g:decide ((h:Int)<(v.doors.length:Int))=true:=by simp;omega
  have hw:IntKind.i64.wrap ((h:Int)+1)=((h+1:Nat):Int):=cB hh (by omega);have hp2:=B4 (show h<=60 by omega);have hset1:set<2^(h+1):=by rw[Nat.pow_succ];omega
  have hset2:set|||2^h<2^(h+1):=Nat.or_lt_two_pow hset1 (by rw[Nat.pow_succ];have:=Nat.two_pow_pos h;omega);have hsh:=v5 h (by omega);have hor:=JR set (2^h) (by omega) (by omega);obtain⟨L1,hL1⟩:∃ L,fT (v.doors.drop (h+1)) (h+1) set=L:=⟨_,rfl⟩;obtain⟨L2,hL2⟩:∃ L,fT (v.doors.drop (h+1)) (h+1) (set|||2^h)=L:=⟨_,rfl⟩;have ih1:=fun x (h1:∀ a∈L1,fL v bl a=true->P a)=>D1 hR hS hv hb hy k (h+1) set x τ (by omega) hset1 (by rw[hL1];exact h1)
  have ih2:=fun x (h1:∀ a∈L2,fL v bl a=true->P a)=>D1 hR hS hv hb hy k (h+1) (set|||2^h) x τ (by omega) hset2 (by rw[hL2];exact h1)
  rw[hL1] at ih1 hP ⊢;rw[hL2] at ih2 hP ⊢;obtain⟨F,hF⟩:∃ F,iG v bl f=F:=⟨_,rfl⟩;rw[hF] at ih1 ih2 ⊢;obtain⟨r,hr⟩:∃ r,cZ F ((if y.sure=true then [] else L1)++L2) x=r:=⟨_,rfl⟩;rw[hr];have fin:Fam.out Zp ZDp r++(ABlk.cells [.yield id]::.cells [PK N q]::τ)=Fam.out Zp ZDp r++((mJ id N q++τ)++[]):=by simp[mJ]
  refine .callf (.call (af:=wK) rfl (by simp[wK]) (i3 (K:=fun j e σ1=>(j=none\/j=some .ret)/\Env.get e 7 = .bool r.2/\∃ τ',σ1=Fam.out Zp ZDp r++((mJ id N q++τ)++τ')) ?_ fun o ho=>ho) fun o ho=>?_)
  ·simp only[mJ,PK] at ih1 ih2 fin ⊢;try simp only[↓QA,QB,seval,kU,hR.len,hR.base,hR.base0,hR.bset,hR.bset0,hR.at1,hR.atq1] at ih1 ih2
   cases hys:y.sure
   ·rw[hys] at hr hP;simp only[Bool.false_eq_true,if_false] at hr hP;have hih:=ih1 x (fun a ha=>hP a (List.mem_append_left _ ha));have hih2:=fun x=>ih2 x (fun a ha=>hP a (List.mem_append_right _ ha))
    rw[CS] at hr;obtain⟨r1,hr1⟩:∃ r1,cZ F L1 x=r1:=⟨_,rfl⟩;rw[hr1] at hr hih
    (repeat (first|simp only[↓QA,QB,seval,kU,hR.len,hR.base,hR.base0,hR.bset,hR.bset0,hR.at1,hR.atq1,wK,g,hh,hye,hys,hw]|refine rd0 rfl ?_))
    refine dR hih ?_;cases hr2:r1.2
    ·rw[hr2] at hr;simp only[Bool.false_eq_true,if_false] at hr;have ho:Fam.out Zp ZDp r1=Fam.out Zp ZDp r:=by rw[<-hr,Fam.out,Fam.out,hr2]
     rw[ho]
     (repeat (first|simp only[↓QA,QB,seval,kU,hR.len,hR.base,hR.base0,hR.bset,hR.bset0,hR.at1,hR.atq1]|refine rd0 rfl ?_))
     exact⟨by rw[<-hr],_,fin⟩
    ·rw[hr2] at hr;simp only[if_true] at hr;have ho:Fam.out Zp ZDp r1=Zp r1.1:=if_pos hr2;have hih3:=hih2 r1.1;rw[hr] at hih3;rw[ho]
     (repeat (first|simp only[↓QA,QB,seval,kU,hR.len,hR.base,hR.base0,hR.bset,hR.bset0,hR.at1,hR.atq1,hw,hsh,hor]|refine rd0 rfl ?_))
     refine uC hih3 ?_
     (repeat (first|simp only[↓QA,QB,seval,kU,hR.len,hR.base,hR.base0,hR.bset,hR.bset0,hR.at1,hR.atq1]|refine rd0 rfl ?_))
     exact⟨_,fin⟩
   ·rw[hys] at hr hP;simp only[if_true,List.nil_append] at hr hP;have hih:=ih2 x hP;rw[hr] at hih
    (repeat (first|simp only[↓QA,QB,seval,kU,hR.len,hR.base,hR.base0,hR.bset,hR.bset0,hR.at1,hR.atq1,wK,g,hh,hye,hys,hw,hsh,hor]|refine rd0 rfl ?_))
    refine uC hih ?_
    (repeat (first|simp only[↓QA,QB,seval,kU,hR.len,hR.base,hR.base0,hR.bset,hR.bset0,hR.at1,hR.atq1]|refine rd0 rfl ?_))
    exact⟨_,fin⟩
  ·obtain⟨hj,h7,τ',hσ⟩:=ho;refine⟨hj,.bool r.2,?_,hR.leave hσ ⟨rfl,rfl⟩⟩;simp only[wK,eQ,gX];rw[h7];rfl
def gR{X:Type}(v:Voy)(bl:List Int)(f:Nat->X->X×Bool)(x:X)(A:List Ask):(X×List Ask)×Bool:=cZ (iG v bl f) (fT v.doors 0 0) (x,A)
theorem VM{X:Type}{Zp ZDp:X×List Ask->St}{v:Voy}{b p m q N:Nat}{bl:List Int}(hR:Fam Zp ZDp (db v b m) p q N)(hS:∀ x,MemAt (fun A=>Zp (x,A)) (db v b m) (tEs v bl) p m N)(hv:Vd v)(hb:ButIs b bl){id:Nat}{P:Nat->Prop}{f:Nat->X->X×Bool}(hy:LW Zp ZDp id v bl P f)(hP:∀ a∈fT v.doors 0 0,fL v bl a=true->P a)(x:X×List Ask):
  Run T (.call 410 [.yield id,.ptr q 0] (Zp x)) fun o=>∃ τ',o.σ=Fam.out Zp ZDp (cZ (iG v bl f) (fT v.doors 0 0) x)++τ':=by
 have hn:=D1 hR hS hv hb hy v.doors.length 0 0 x [] (by omega) (by simp) hP;rw[List.drop_zero] at hn;obtain⟨r,hr⟩:∃ r,cZ (iG v bl f) (fT v.doors 0 0) x=r:=⟨_,rfl⟩;rw[hr] at hn ⊢;refine .call (af:=U8) rfl (by simp[U8]) (i3 (K:=fun j e σ'=>(j=none\/j=some .ret)/\∃ τ',σ'=Fam.out Zp ZDp r++τ') ?_ fun o ho=>ho) fun o ho=>⟨ho.1,.tuple [],rfl,.inl ho.2⟩
 have h00:((0:Nat):Int)=0:=rfl;simp only[mJ,PK,List.append_nil,h00] at hn;try simp only[↓QA,QB,seval,kU,hR.len,hR.base,hR.base0,hR.bset,hR.bset0,hR.at1,hR.atq1,U8]
 refine dR hn ?_;try simp only[↓QA,QB,seval,kU,hR.len,hR.base,hR.base0,hR.bset,hR.bset0,hR.at1,hR.atq1]
 exact⟨_,rfl⟩
end Go.Am.Room.Do
namespace Go.Am.Room.Do
def mL:=zz @aY (zz @bA (zz @bN (zz @bL (zz @List.length_append.{0} (zz @NM (zz @MX (zz @OH (zz @KC (zz @OV (zz @NT (zz @N7 (zz @OK (zz @O3 (zz @eW (zz @Nat.add_lt_add_iff_left (zz @Nat.lt_add_right_iff_pos (zz @Nat.mul_one (zz @Int.toNat_natCast (zz @uZ (@vK))))))))))))))))))))
theorem aG7{X M:Type}{Z ZD:X->M->St}{obj:List AV}{es:M->List (AV×AV)}{p m q N:Nat}(h:Fam1 Z ZD obj es p m q N):Fam (fun y:X×M=>Z y.1 y.2) (fun y=>ZD y.1 y.2) obj p q N :=
 ⟨fun y=>(h.ship y.1).len y.2,fun y=>h.lenD y.1 y.2,fun y=>(h.ship y.1).at0 y.2,fun y=>h.atq0 y.1 y.2,fun x y k i hk hi=>h.keep _ _ _ _ k i hk hi,fun x y k i hk hi=>h.keepD _ _ _ _ k i hk hi,h.pl,h.ql⟩
theorem wW{X:Type}{Z ZD:X->List Ask->St}{v:Voy}{b p m q N:Nat}{bl:List Int}(hF:Fam1 Z ZD (db v b m) (tEs v bl) p m q N)(hv:Vd v)(hb:ButIs b bl){id:Nat}{P:Nat->Prop}{f:Nat->X->X×Bool}(hy:tZ Z ZD id (pO v bl) P f)(hP:∀ a∈fT v.doors 0 0,fL v bl a=true->P a)(x:X)(A:List Ask):
  Run T (.call 410 [.yield id,.ptr q 0] (Z x A)) fun o=>∃ τ',o.σ=Fam1.out Z ZD ((gR v bl f x A).1.1,(gR v bl f x A).2) (gR v bl f x A).1.2++τ' :=
 VM (aG7 hF) (fun x=>hF.ship x) hv hb (f:=f) (fun t ht fl tk x τ=>hy t ht fl tk x.1 x.2 τ) hP (x,A)
theorem xI{X:Type}(v:Voy)(bl:List Int)(f:Nat->X->X×Bool)(x:X)(A:List Ask):((gR v bl f x A).1.1,(gR v bl f x A).2)=cZ f (TL v bl) x:=by
 have key:∀ (l:List Nat) (x:X) (A:List Ask),((cZ (iG v bl f) l (x,A)).1.1,(cZ (iG v bl f) l (x,A)).2)=cZ f (l.filter (fL v bl)) x:=by
  intro l
  induction l with
  |nil=>intro x A;rfl
  |cons set l ih =>
   intro x A;simp only[cZ,List.filter_cons];cases h:fL v bl set
   ·have hp:iG v bl f set (x,A)=((x,(eL v bl set v.lots.toNat 0 A).2),true):=by simp only[iG,h,Bool.false_eq_true,if_false]
    rw[hp];simp only[if_true,Bool.false_eq_true,if_false];exact ih x _
   ·have hp:iG v bl f set (x,A)=(((f set x).1,(eL v bl set v.lots.toNat 0 A).2),(f set x).2):=by simp only[iG,h,if_true]
    rw[hp];simp only[if_true,cZ];split
    ·exact ih _ _
    ·rfl
 exact key _ x A
theorem oJ{X:Type}{S:List Ask->St}{v:Voy}{b p m N:Nat}{bl:List Int}(hS:MemAt S (db v b m) (tEs v bl) p m N)(hv:Vd v)(hb:ButIs b bl)(U UD:X->St)(n:Nat)(hU:∀ x,(U x).length=n)(hUD:∀ x,(UD x).length=n)(ok:∀ x y,y∈U x->∀ k,N<=k->aO k y)(okD:∀ x y,y∈UD x->∀ k,N<=k->aO k y)(J:AJump){P:Nat->Prop}{f:Nat->X->X×Bool}(e:Env)(k:Nat)(ps:List Nat)(a bb:ACode)(ek:Env.get e k = .func 410 [] [.ptr (N+n) 0])(hy:tZ (fun x B=>S B++(U x++[.cells [.ptr p 0],.loop .ready none e ps a bb])) (fun x B=>S B++(UD x++[.cells [.ptr p 0],.loop .done (some J) e ps a bb])) (N+n+1) (pO v bl) P f)(hP:∀ t∈TL v bl,P t)(x:X)(A:List Ask)(K:KJ)(hT:∀ τ,(cZ f (TL v bl) x).2=true->K none e (S (gR v bl f x A).1.2++(U (cZ f (TL v bl) x).1++(.cells [.ptr p 0]::.dead::τ))))(hD:∀ τ,(cZ f (TL v bl) x).2=false->K (some J) e (S (gR v bl f x A).1.2++(UD (cZ f (TL v bl) x).1++(.cells [.ptr p 0]::.dead::τ)))):
  rK (K:=⟨K⟩) T (.rangeFunc (.t k) ps a bb) e (S A++(U x++[.cells [.ptr p 0]])):=by
 have hrun:=wW (XV hS U UD n hU hUD ok okD e ps a bb .ready .done none (some J)) hv hb hy (fun a ha hl=>hP a (List.mem_filter.2 ⟨ha,hl⟩)) x A;rw[xI] at hrun;exact UH (A:=Nat) hS U UD n hU hUD J e k ps a bb 410 ek (cZ f (TL v bl) x) (gR v bl f x A).1.2 x A hrun K hT hD
def E5(_:Nat)(x:Unit):Unit×Bool:=(x,false)
theorem OX(l:List Nat):(cZ E5 l ()).2=l.isEmpty:=by
 cases l<;>simp[cZ,E5]
def GI(v:Voy)(bl:List Int)(A:List Ask):List Ask:=(gR v bl E5 () A).1.2
theorem B9{S:List Ask->St}{v:Voy}{b p m N:Nat}{bl:List Int}(hR:MemAt S (db v b m) (tEs v bl) p m N)(hv:Vd v)(hb:ButIs b bl)(A:List Ask):
  BH T (.func 165 [] []) [.ptr p 0] (S A) (.bool !(aI v bl).isEmpty) (S (GI v bl A)):=by
 have hit:=OX (TL v bl);rw[EG hv] at hit;refine rI hR (af:=VX) rfl (by simp[VX]) ?_;try simp only[↓QA,QB,seval,mL,hR.len,hR.base,hR.base0,hR.bset,hR.bset0,hR.at1,hR.at0,VX]
 refine uD rfl (by simp[BE]) ?_;try simp only[↓QA,QB,seval,mL,hR.len,hR.base,hR.base0,hR.bset,hR.bset0,hR.at1,hR.at0,BE]
 refine oJ hR hv hb (fun _:Unit=>[.cells [.bool false]]) (fun _=>[.cells [.bool true]]) 1 (fun _=>rfl) (fun _=>rfl) (fun _ y hy k _=>by simp at hy;subst hy;simp[aO,okVs,okV]) (fun _ y hy k _=>by simp at hy;subst hy;simp[aO,okVs,okV]) .ret (P:=fun _=>True) (f:=E5) _ 4 [5,6] _ _ ?_ ?_ (fun _ _=>trivial) () A _ ?_ ?_
 ·try simp only[aD,QE,seval,mL,hR.len,hR.base,hR.base0,hR.bset,hR.bset0,hR.at1,hR.at0]
 ·refine v9 hR _ _ 1 (fun _=>rfl) (fun _=>rfl) .ret _ _ (pO v bl) (fun _ _ _=>rfl) _ _ ?_;intro t _ fl tk x A' τ;simp only[iH,pO];try simp only[↓QA,QB,seval,mL,hR.len,hR.base,hR.base0,hR.bset,hR.bset0,hR.at1,hR.at0,UY,E5]
  exact .inr ⟨[],by simp⟩
 ·intro τ h2;rw[hit] at h2;try simp only[↓QA,QB,seval,mL,hR.len,hR.base,hR.base0,hR.bset,hR.bset0,hR.at1,hR.at0,h2]
  refine⟨_,_,rfl,rfl,?_⟩;try simp only[QS,QC,seval,mL,hR.len,hR.base,hR.base0,hR.bset,hR.bset0,hR.at1,hR.at0]
 ·intro τ h2;rw[hit] at h2;try simp only[↓QA,QB,seval,mL,hR.len,hR.base,hR.base0,hR.bset,hR.bset0,hR.at1,hR.at0,h2]
  refine⟨_,_,rfl,rfl,?_⟩;try simp only[QS,QC,seval,mL,hR.len,hR.base,hR.base0,hR.bset,hR.bset0,hR.at1,hR.at0]
end Go.Am.Room.Do
namespace Go.Am.Room.Do
def gP:=zz @cN (zz @dB (zz @aY (zz @bA (zz @bK (zz @dO (zz @bN (zz @bL (zz @List.length_append.{0} (zz @NM (zz @MX (zz @OH (zz @KC (zz @OV (zz @NT (zz @N7 (zz @OK (zz @O3 (zz @eW (zz @Nat.add_lt_add_iff_left (zz @Nat.lt_add_right_iff_pos (zz @Nat.mul_one (zz @Int.toNat_natCast (zz @uZ (zz @vK (zz @j4 (zz @lA (zz @lB (zz @jI (@pL)))))))))))))))))))))))))))))
theorem Z3{a b:Nat}(h:a<32)(k:b<32):a|||b<32:=Nat.or_lt_two_pow (n:=5) h k
abbrev F32:={ f:Nat->Nat // ∀ i,f i<32 }
def jR{v:Voy}(hv:Vd v)(n op:Nat)(f:F32):F32×Bool:=(⟨orF f.1 (tF v [] n op),fun i=>Z3 (f.2 i) (aBZ hv [] n op i)⟩,true)
def f0:F32:=⟨fun _=>0,fun _=>by simp⟩
theorem A8{v:Voy}(hv:Vd v)(n:Nat):∀ (l:List Nat) (f:F32),(l.foldl (fun x a=>(jR hv n a x).1) f).1=l.foldl (fun f op=>orF f (tF v [] n op)) f.1
 |[],f=>rfl
 |a::l,f=>by rw[List.foldl_cons,List.foldl_cons,A8 hv n l];rfl
def BO(n:Nat)(f:F32):St:=[.cells [.int .i64 n],.cells (dK f.1)]
def v3(f g:Nat->Nat)(h i:Nat):Nat:=if i<h then f i|||g i else f i
theorem aEI(f g:Nat->Nat):v3 f g 0=f:=by funext i;simp[v3]
theorem U1(f g:Nat->Nat):dK (v3 f g 26)=dK (orF f g):=tD fun i hi=>by simp[v3,orF,hi]
theorem OF(f g:Nat->Nat)(h:Nat):xV (v3 f g h) h (f h|||g h)=v3 f g (h+1):=by
 funext i;simp only[xV,v3];by_cases e:i=h
 ·subst e;simp
 ·by_cases h2:i<h
  ·simp[e,h2,show i<h+1 by omega]
  ·simp[e,h2,show ¬i<h+1 by omega]
theorem aAP(f g:Nat->Nat)(h:Nat):v3 f g h h=f h:=by simp[v3]
theorem PW{S:List Ask->St}{v:Voy}{b p m N:Nat}(hR:MemAt S (db v b m) (tEs v []) p m N)(hv:Vd v)(n:Nat)(hn:n<v.lots.toNat)(t:Nat)(fl:Bool)(tk:Option Nat)(f:F32)(B:List Ask)(lp:ABlk)(τ:St)(e:Env)(G:Option AJump->St->Prop)(e3:Env.get e 3 = .ptr N 0)(e4:Env.get e 4 = .ptr (N+1) 0)(e6:Env.get e 6 = .lit (fN v [] t v.lots.toNat) fl tk)(R:F32×Bool)(hRr:jR hv n t f=R):
  wp T IF e (S B++(BO n f++(.cells [.ptr p 0]::lp::τ))) (fun j e'' σ''=>(R.2=true/\j=none/\∃ τ',σ''=S B++(BO n R.1++(.cells [.ptr p 0]::lp::(τ++τ'))))\/G j σ''):=by
 have hlo:=hv.lots;subst hRr;have hrg:=SR v [] t hn;have hix:xS 26 (fN v [] t v.lots.toNat) (n:Int) tk=some (.lptr (fN v [] t v.lots.toNat) n 0 tk):=by
  simp[xS,hrg,fQ,AV.cells,j4]
 obtain⟨g,hg⟩:∃ g,tF v [] n t=g:=⟨_,rfl⟩;have hgl:∀ i,g i<32:=fun i=>by rw[<-hg];exact aBZ hv [] n t i
 have hfin:dK (jR hv n t f).1.1=dK (v3 f.1 g 26):=by rw[U1,<-hg];rfl
 simp only[oO,hg] at hrg;simp only[BO];rw[hfin]
 (repeat (first|simp only[↓QA,QB,reduceLT,reduceIte,reduceEqDiff,reduceAdd,reduceLeDiff,reduceMul,Nat.reduceBEq,gP,hR.len,hR.base,hR.base0,hR.bset,hR.bset0,hR.at1,hR.at0,IF,e3,e4,e6,hix,hrg]|refine rd0 rfl ?_))
 refine cY (S:=Nat) 0 (fun h=>h<=26) (fun h=>26-h)
  (fun h=>[(4,.ptr (N+1) 0),(16,.agg (dK g)),(17,.int .i64 h)])
  (fun h=>S B++(.cells [.int .i64 n]::.cells (dK (v3 f.1 g h))::.cells [.ptr p 0]::lp::τ)) (Nat.zero_le _) (by rw[aEI]) ?_ fun h hh=>?_
 ·try simp only[aD,QE,reduceLT,reduceIte,reduceEqDiff,reduceAdd,reduceLeDiff,reduceMul,Nat.reduceBEq,gP,hR.len,hR.base,hR.base0,hR.bset,hR.bset0,hR.at1,hR.at0,e4]
  try simp
 ·(repeat (first|simp only[↓QA,QB,reduceLT,reduceIte,reduceEqDiff,reduceAdd,reduceLeDiff,reduceMul,Nat.reduceBEq,gP,hR.len,hR.base,hR.base0,hR.bset,hR.bset0,hR.at1,hR.at0,Q9]|refine rd0 rfl ?_))
  refine aG (fun hd=>?_) fun hd=>?_
  ·have hh1:h<26:=by simp at hd;omega
   have hw:=cB hh1 (by omega);have ih:(0:Int)<=(h:Int)/\(h:Int)<((26:Nat):Int):=⟨by omega,by omega⟩;have c25:h<=25:=by omega
   have hg1:=j6 (v3 f.1 g h) hh1;rw[aAP] at hg1;have hg2:=j6 g hh1;have h1:=f.2 h;have h2:=hgl h;have hor:=JR (f.1 h) (g h) (by omega) (by omega);have hs:=uW (v3 f.1 g h) (f.1 h|||g h) hh1;rw[OF] at hs
   (repeat (first|simp only[↓QA,QB,reduceLT,reduceIte,reduceEqDiff,reduceAdd,reduceLeDiff,reduceMul,Nat.reduceBEq,gP,hR.len,hR.base,hR.base0,hR.bset,hR.bset0,hR.at1,hR.at0,ih,c25,hg1,hg2,hor,hs,LF]|refine rd0 rfl ?_))
   refine⟨h+1,by omega,by omega,?_⟩;try simp only[aD,QE,reduceLT,reduceIte,reduceEqDiff,reduceAdd,reduceLeDiff,reduceMul,Nat.reduceBEq,gP,hR.len,hR.base,hR.base0,hR.bset,hR.bset0,hR.at1,hR.at0,hw]
   try simp[aO,okVs,okV,i7]
   try omega
  ·have hh1:h=26:=by simp at hd;omega
   subst hh1
   (repeat (first|simp only[↓QA,QB,reduceLT,reduceIte,reduceEqDiff,reduceAdd,reduceLeDiff,reduceMul,Nat.reduceBEq,gP,hR.len,hR.base,hR.base0,hR.bset,hR.bset0,hR.at1,hR.at0]|refine rd0 rfl ?_))
   exact .inl ⟨rfl,[],by simp⟩
def oQ{v:Voy}(hv:Vd v)(n:Nat)(A:List Ask):List Ask:=(gR v [] (jR hv n) f0 A).1.2
theorem zJ{S:List Ask->St}{v:Voy}{b p m N:Nat}(hR:MemAt S (db v b m) (tEs v []) p m N)(hv:Vd v)(hb:ButIs b [])(n:Nat)(hn:n<v.lots.toNat)(A:List Ask):
  BH T (.func 167 [] []) [.ptr p 0,.int .i64 n] (S A) (.agg (dK (iA v n))) (S (oQ hv n A)):=by
 have hgo:=tX (f:=jR hv n) (fun _ _=>rfl) (TL v []) f0;obtain⟨Y,hY⟩:∃ Y,(TL v []).foldl (fun x a=>(jR hv n a x).1) f0=Y:=⟨_,rfl⟩;have hYe:Y.1=iA v n:=by rw[<-hY,A8 hv];rfl
 rw[hY] at hgo;have hok:∀ (x:F32) (y:ABlk),y∈BO n x->∀ k,N<=k->aO k y:=by
  intro x y hy k hk;simp only[BO,List.mem_cons,List.not_mem_nil,or_false] at hy;rcases hy with rfl|rfl
  ·simp[aO,okVs,okV]
  ·exact i7 _ _
 refine rI hR (af:=P8) rfl (by simp[P8]) ?_;try simp only[↓QA,QB,seval,gP,hR.len,hR.base,hR.base0,hR.bset,hR.bset0,hR.at1,hR.at0,P8,<-z26]
 refine uD rfl (by simp[BE]) ?_;try simp only[↓QA,QB,seval,gP,hR.len,hR.base,hR.base0,hR.bset,hR.bset0,hR.at1,hR.at0,BE]
 refine oJ hR hv hb (BO n) (BO n) 2 (fun _=>rfl) (fun _=>rfl) hok hok .ret (P:=fun _=>True) (f:=jR hv n) _ 10 [11,12] _ _ ?_ ?_ (fun _ _=>trivial) f0 A _ ?_ ?_
 ·try simp only[aD,QE,seval,gP,hR.len,hR.base,hR.base0,hR.bset,hR.bset0,hR.at1,hR.at0]
 ·refine v9 hR (BO n) (BO n) 2 (fun _=>rfl) (fun _=>rfl) .ret _ _ (pO v []) (fun _ _ _=>rfl) _ _ ?_;intro t _ fl tk x B τ;simp only[iH,pO];try simp only[↓QA,QB,seval,gP,hR.len,hR.base,hR.base0,hR.bset,hR.bset0,hR.at1,hR.at0]
  obtain⟨R,hRr⟩:∃ R,jR hv n t x=R:=⟨_,rfl⟩;rw[hRr];refine PW hR hv n hn t fl tk x B _ τ _ _ ?_ ?_ ?_ R hRr;all_goals try simp only[aD,QE,seval,gP,hR.len,hR.base,hR.base0,hR.bset,hR.bset0,hR.at1,hR.at0]
 ·intro τ h2;rw[hgo];simp only[BO];try simp only[↓QA,QB,seval,gP,hR.len,hR.base,hR.base0,hR.bset,hR.bset0,hR.at1,hR.at0,hYe,<-z26]
  exact⟨_,_,rfl,rfl,by try simp only[QS,QC,seval,gP,hR.len,hR.base,hR.base0,hR.bset,hR.bset0,hR.at1,hR.at0,pL]⟩
 ·intro τ h2;rw[hgo] at h2;cases h2
theorem JY(v:Voy)(bl:List Int)(A:List Ask)(k:Nat):aO k (.map (tEs v bl A)):=aDK (EA v bl) A k
def n5(σ:St)(v:Voy)(A:List Ask):St:=σ++[.cells (aB v),.cells (aB v),.map (tEs v [] A),.cells (db v 0 (σ.length+2))]
theorem tS(σ:St)(v:Voy):MemAt (n5 σ v) (db v 0 (σ.length+2)) (tEs v []) (σ.length+3) (σ.length+2) (σ.length+4) :=
 ⟨fun M=>by simp[n5],fun M=>by simp[n5,qV,QO,RB],fun M=>by rw[n5,tB];rfl,fun M M'=>by rw[n5,n5,m4];rfl,fun A k=>JY v [] A k,by omega,by omega⟩
def jA(v:Voy)(n:Int)(k:Nat):AV:=if cW v n=0 then .tuple [.ptr (k+3) 0,.int .i64 0] else .tuple [.nilPtr,.int .i64 (cW v n)]
def mP(v:Voy):List Ask:=GI v [] []
def kM(σ:St)(v:Voy)(n:Int):St:=if cW v n=0 then n5 σ v (mP v) else σ
end Go.Am.Room.Do
namespace Go.Am.Room.Do
def jC:=zz @cN (zz @aP (zz @dB (zz @aY (zz @bA (zz @bK (zz @dO (zz @bN (zz @bL (zz @List.length_append.{0} (zz @eW (zz @Nat.add_lt_add_iff_left (zz @Nat.lt_add_right_iff_pos (zz @Nat.mul_one (@Int.toNat_natCast))))))))))))))
theorem lC(σ:St)(v:Voy)(n:Int)(hf:Fits v):BH T (.func 166 [] []) [encVoy v,.int .i64 n] σ (jA v n σ.length) (kM σ v n):=by
 refine .callf (.call (af:=H3) rfl (by simp[H3]) (i3 (K:=fun j e σ1=>(j=none\/j=some .ret)/\(if cW v n=0 then Env.get e 4 = .ptr (σ.length+3) 0/\Env.get e 5 = .int .i64 0/\σ1=n5 σ v (mP v) else Env.get e 4 = .nilPtr/\Env.get e 5 = .int .i64 (cW v n)/\∃ τ,σ1=σ++τ)) ?_ fun o ho=>ho) fun o ho=>?_)
 ·obtain⟨E,hE⟩:∃ E,cW v n=E:=⟨_,rfl⟩;have hE2:fV v (mZ v n)=E:=hE;rw[hE];try simp only[↓QA,QB,seval,jC,H3]
  (refine aE (HN v hf) rfl dd ?_;try simp only[↓QA,QB,seval,jC,nH])
  cases h0:((dG v).2.2==0)
  ·have h0':(dG v).2.2≠0:=by simpa using h0
   have he:E=(dG v).2.2:=by rw[<-hE2];simp[mZ,h0',fV]
   try simp only[↓QA,QB,seval,jC,h0]
   rw[he,if_neg h0'];simp
  ·have h0':(dG v).2.2=0:=by simpa using h0
   have hv:=gM h0';have hlo:=hv.lots;have hws:IntKind.i64.wrap (v.lots-1)=v.lots-1:=dL ⟨by omega,by omega⟩;try simp only[↓QA,QB,seval,jC,h0,hws]
   (refine cS (eX 0 (v.lots-1) [n] (by simp)) (by simp[clr,clrs,aK]) (by simp[okV,okVs]) ?_;try simp only[↓QA,QB,seval,jC,jE])
   cases h1:inR n 0 (v.lots-1)
   ·have he:E=4:=by rw[<-hE2];simp[mZ,h0',h1,fV]
    subst he;try simp only[↓QA,QB,seval,jC]
    simp
   ·have hEk:E=fV v 0:=by rw[<-hE2];simp[mZ,h0',h1]
    have hlk:=EY (σ++[.cells (aB v)]) v 0;have hso:=B9 (tS σ v) hv JE [];have e0:tEs v [] []=[]:=rfl;simp only[n5,zY,e0] at hso hlk;try simp only[↓QA,QB,seval,jC,List.append_assoc] at hso hlk
    try simp only[↓QA,QB,seval,jC]
    refine dR hlk ?_;try simp only[↓QA,QB,seval,jC]
    refine dR hso ?_;cases hs:(aI v []).isEmpty
    ·have he:E=0:=by rw[hEk];simp[fV,hs]
     subst he;try simp only[↓QA,QB,seval,jC]
     simp[n5,mP,aB,aK]
    ·have he:E=8:=by rw[hEk];simp[fV,hs]
     subst he;try simp only[↓QA,QB,seval,jC]
     simp
 ·obtain⟨hj,ho⟩:=ho;by_cases he:cW v n=0
  ·rw[if_pos he] at ho;refine⟨hj,jA v n σ.length,?_,.inl ⟨rfl,?_⟩⟩
   ·simp[eQ,gX,H3,ho.1,ho.2.1,jA,he]
   ·rw[ho.2.2,kM,if_pos he]
  ·rw[if_neg he] at ho;obtain⟨h4,h5,τ,hσ⟩:=ho;refine⟨hj,jA v n σ.length,?_,.inr ⟨20,jA v n σ.length,jA v n σ.length,?_,.inl rfl,fun i hi=>.inl (by rw[hσ];exact List.getElem?_append_left hi),by rw[hσ];simp,rfl,by rw[hσ];simp[kM,he]⟩⟩
   ·simp[eQ,gX,H3,h4,h5,jA,he]
   ·simp[jA,he,snap,snaps]
def sO(f:Nat->Nat):Nat->Int×Int
 |0=>(-1,0)
 |k+1=>if f k=0 then sO f k else (if (sO f k).1<0 then (k:Int) else (sO f k).1,(k:Int))
theorem MH(f:Nat->Nat):∀ k,(sO f k=(-1,0)/\∀ i,i<k->f i=0)\/(∃ a b:Nat,sO f k=((a:Int),(b:Int))/\a<k/\b<k/\f a≠0/\f b≠0/\∀ i,i<k->f i≠0->a<=i/\i<=b)
 |0=>.inl ⟨rfl,fun i hi=>by omega⟩
 |k+1=>by
  have ih:=MH f k;simp only[sO];by_cases h:f k=0
  ·rw[if_pos h];rcases ih with⟨e,h0⟩|⟨a,b,e,ha,hb,fa,fb,hr⟩
   ·left;refine⟨e,fun i hi=>?_⟩;by_cases hk:i=k
    ·subst hk;exact h
    ·exact h0 i (by omega)
   ·right;refine⟨a,b,e,by omega,by omega,fa,fb,fun i hi hf=>?_⟩;by_cases hk:i=k
    ·subst hk;exact absurd h hf
    ·exact hr i (by omega) hf
  ·rw[if_neg h];right;rcases ih with⟨e,h0⟩|⟨a,b,e,ha,hb,fa,fb,hr⟩
   ·refine⟨k,k,by rw[e];simp,by omega,by omega,h,h,fun i hi hf=>?_⟩;by_cases hk:i=k
    ·omega
    ·exact absurd (h0 i (by omega)) hf
   ·refine⟨a,k,by rw[e];simp only;rw[if_neg (by omega)],by omega,by omega,fa,h,fun i hi hf=>?_⟩;by_cases hk:i=k
    ·omega
    ·have:=hr i (by omega) hf;omega
theorem JQ{v:Voy}(hv:Vd v){N:Nat}(hn:N<v.lots.toNat){w:Tn}(hw:w∈cP (aI v []) N):(w.hour = -1/\iA v N 25≠0)\/(∃ i:Nat,i<25/\w.hour=(i:Int)/\iA v N i≠0):=by
 rcases zL hn hw with e|e
 ·left;refine⟨by rw[e],(tJ hv hn (by omega)).2 ⟨w,hw,by rw[e];rfl⟩⟩
 ·right;have:=hv.hours;refine⟨w.hour.toNat,by omega,by omega,(tJ hv hn (by omega)).2 ⟨w,hw,?_⟩⟩;simp only[hAt];rw[if_neg (by omega)];omega
theorem LD{v:Voy}(hv:Vd v){N:Nat}(hn:N<v.lots.toNat){i:Nat}(hi:i<25)(h:iA v N i≠0):(i:Int)∈gU (aI v []) N:=by
 obtain⟨w,hw,e⟩:=(tJ hv hn (by omega)).1 h;simp only[hAt] at e;rw[if_neg (by omega)] at e;exact nB.2 ⟨by omega,w,hw,e⟩
theorem J7{v:Voy}(hv:Vd v)(hs:iB v []=true){N:Nat}(hn:N<v.lots.toNat):
  ((sO (iA v N) 25).1<0/\vP (aI v []) N=⟨0,0⟩/\lG (aI v []) N=2) \/
  (¬(sO (iA v N) 25).1<0/\vP (aI v []) N=⟨(sO (iA v N) 25).1,(sO (iA v N) 25).2⟩/\lG (aI v []) N=if iA v N 25=0 then 1 else 0):=by
 have hne:=GK hs hn;rcases MH (iA v N) 25 with⟨e,h0⟩|⟨a,b,e,ha,hb,fa,fb,hr⟩
 ·left
  have h2:lG (aI v []) N=2:=DB.2 ⟨hne,fun w hw=>by
   rcases JQ hv hn hw with h|⟨i,hi,_,h⟩
   ·exact h.1
   ·exact absurd (h0 i hi) h⟩
  exact⟨by rw[e];decide,(GT hn h2 0).2,h2⟩
 ·right;have hA:=LD hv hn ha fa;have hB:=LD hv hn hb fb;have hrange:∀ x∈gU (aI v []) N,(a:Int)<=x/\x<=(b:Int):=fun x hx=>by
   obtain⟨h1,w,hw,e1⟩:=nB.1 hx;rcases JQ hv hn hw with h|⟨i,hi,e2,h⟩
   ·exact absurd (e1▸h.1) h1
   ·have:=hr i hi h;omega
  obtain⟨s1,s2,s3⟩:=KA (List.ne_nil_of_mem hA);refine⟨by rw[e];simp only;omega,?_,?_⟩
  ·rw[e];have q1:=hrange _ s1;have q2:=hrange _ s2;have q3:=s3 _ hA;have q4:=s3 _ hB;show vE (gU (aI v []) N)=_
   generalize vE (gU (aI v []) N)=s at *;cases s;simp only at *
   congr 1<;>omega
  ·have h2:lG (aI v []) N≠2:=fun h=>by
    obtain⟨h1,w,hw,e1⟩:=nB.1 hA;exact h1 (e1▸(DB.1 h).2 w hw)
   by_cases h25:iA v N 25=0
   ·rw[if_pos h25];refine K2.2 fun w hw h=>?_
    rcases JQ hv hn hw with q|⟨i,hi,e2,_⟩
    ·exact q.2 h25
    ·omega
   ·rw[if_neg h25];have h1:lG (aI v []) N≠1:=fun h=>by
     obtain⟨w,hw,e⟩:=(tJ hv hn (by omega:25<26)).1 h25;exact K2.1 h w hw e
    rcases ML (aI v []) N with h|h|h
    ·exact h
    ·exact absurd h h1
    ·exact absurd h h2
def xR(f:Nat->Nat):Nat->Nat
 |0=>0
 |k+1=>xR f k|||f k
theorem EO(f:Nat->Nat)(d:Nat):∀ k,(xR f k).testBit d=(List.range k).any fun i=>(f i).testBit d
 |0=>by simp[xR]
 |k+1=>by simp[xR,Nat.testBit_or,EO f d k,List.range_succ,List.any_append]
theorem yF{f:Nat->Nat}{n:Nat}(h:∀ i,f i<2^n):∀ k,xR f k<2^n
 |0=>Nat.two_pow_pos n
 |k+1=>Nat.or_lt_two_pow (yF h k) (h k)
def rZ(v:Voy)(N i:Nat):Nat:=iA v N i &&& 15
def iC(v:Voy)(N:Nat):Nat:=xR (rZ v N) 26
theorem n6(v:Voy)(N i:Nat):rZ v N i<16:=Nat.lt_succ_of_le Nat.and_le_right
theorem aIP:∀ d:Fin 4,(15:Nat).testBit d.val=true:=by decide
theorem aHJ:∀ d:Fin 4,(16:Nat).testBit d.val=false:=by decide
theorem aM9{v:Voy}(hv:Vd v)(N:Nat){d:Nat}(hd:d<4):(iA v N 25).testBit d=false:=by
 simp only[iA,qU,Nat.zero_testBit,Bool.false_or,List.any_eq_false];intro op _;rw[E9 hv];split
 ·have:=aHJ ⟨d,hd⟩;simp only at this;rw[this];simp
 ·simp
theorem A3{v:Voy}(hv:Vd v){N:Nat}(hn:N<v.lots.toNat):lst v.doors.length (iC v N)=eA v (aI v []) N:=by
 have hdr:=hv.ndr;simp only[lst,eA];refine List.filter_congr fun x hx=>?_
 have hxr:=(aX _ _ _).1 hx;obtain⟨d,rfl⟩:∃ d:Nat,x=d:=⟨x.toNat,by omega⟩;have hd4:d<4:=by omega
 have h15:=aIP ⟨d,hd4⟩;simp only at h15;simp only[Int.toNat_natCast];rw[<-i9,iC,EO,Bool.eq_iff_iff];simp only[List.any_eq_true,List.mem_range,rZ,Nat.testBit_and,h15,Bool.and_true,D7,decide_eq_true_eq];constructor
 ·rintro⟨i,hi,hb⟩;by_cases h25:i=25
  ·subst h25;rw[aM9 hv N hd4] at hb;cases hb
  ·exact⟨_,((LJ hv hn (by omega)).1 hb).2,rfl⟩
 ·rintro⟨w,hw,e⟩;rcases zL hn hw with e2|e2
  ·rw[e2] at e;simp only at e;omega
  ·have:=hv.hours;refine⟨w.hour.toNat,by omega,(LJ hv hn (by omega)).2 ⟨by omega,?_⟩⟩;have:(⟨((w.hour.toNat:Nat):Int),(d:Int)⟩:Tn)=w:=by
    cases w;simp only at e e2 ⊢
    congr 1<;>omega
   rw[this];exact hw
def orL(g:Int->Nat)(l:List Int)(s:Nat):Nat:=l.foldl (fun s d=>s|||2^g d) s
theorem MC(g:Int->Nat)(k:Nat):∀ (l:List Int) (s:Nat),(orL g l s).testBit k=(s.testBit k||l.any fun d=>decide (g d=k))
 |[],s=>by simp[orL]
 |d::l,s=>by
  have ih:=MC g k l (s|||2^g d);simp only[orL,List.foldl_cons,List.any_cons] at ih ⊢;rw[ih,Nat.testBit_or,Nat.testBit_two_pow,Bool.or_assoc]
theorem VI{g:Int->Nat}{n:Nat}:∀ {l:List Int} {s:Nat},s<2^n->(∀ d∈l,g d<n)->orL g l s<2^n
 |[],s,h,_=>h
 |d::l,s,h,hg=>VI (l:=l) (Nat.or_lt_two_pow h (Nat.pow_lt_pow_right (by omega) (hg d (by simp)))) fun x hx=>hg x (by simp[hx])
theorem NG{v:Voy}(hv:Vd v)(ds:List Int):lst v.keepers.length (orL (fun d=>(eS v (aT v d)).toNat) ds 0)=jU v ds:=by
 simp only[lst,jU];refine List.filter_congr fun x hx=>?_
 have hxr:=(aX _ _ _).1 hx;rw[<-i9,MC,Nat.zero_testBit,Bool.false_or]
 congr 1
 funext d;have:=(rR hv (aT v d)).1;rw[decide_eq_decide];omega
theorem LY(d:Nat):∀ (l:List Nat) (a:Nat),(l.foldl (fun a op=>a &&& op) a).testBit d=(a.testBit d&&l.all fun op=>op.testBit d)
 |[],a=>by simp
 |x::l,a=>by rw[List.foldl_cons,LY d l,Nat.testBit_and,List.all_cons,Bool.and_assoc]
theorem SB(d:Nat):∀ (l:List Nat) (a:Nat),(l.foldl (fun a op=>a|||op) a).testBit d=(a.testBit d||l.any fun op=>op.testBit d)
 |[],a=>by simp
 |x::l,a=>by rw[List.foldl_cons,SB d l,Nat.testBit_or,List.any_cons,Bool.or_assoc]
theorem RP{v:Voy}(hv:Vd v):lst v.doors.length ((TL v []).foldl (fun a op=>a &&& op) (2^v.doors.length-1))=(aR 0 v.doors.length).filter (IG (aI v [])):=by
 simp only[lst];refine List.filter_congr fun x hx=>?_
 have hxr:=(aX _ _ _).1 hx;obtain⟨d,rfl⟩:∃ d:Nat,x=d:=⟨x.toNat,by omega⟩;have hd:d<v.doors.length:=by omega
 rw[<-i9,Int.toNat_natCast,LY,Nat.testBit_two_pow_sub_one,IG,jQ hv,List.all_map];simp only[hd,decide_true,Bool.true_and]
 congr 1
 funext op;simp only[Function.comp_apply,yA,D2 hd]
theorem YU{v:Voy}(hv:Vd v):lst v.doors.length ((TL v []).foldl (fun a op=>a|||op) 0)=(aR 0 v.doors.length).filter (P6 (aI v [])):=by
 simp only[lst];refine List.filter_congr fun x hx=>?_
 have hxr:=(aX _ _ _).1 hx;obtain⟨d,rfl⟩:∃ d:Nat,x=d:=⟨x.toNat,by omega⟩;have hd:d<v.doors.length:=by omega
 rw[<-i9,Int.toNat_natCast,SB,Nat.zero_testBit,Bool.false_or,P6,jQ hv,List.any_map]
 congr 1
 funext op;simp only[Function.comp_apply,yA,D2 hd]
def eO(v:Voy):Nat->Nat
 |0=>0
 |k+1=>eO v k|||(if m8 v (k:Int)=true then 2^k else 0)
theorem yX(v:Voy)(d:Nat):∀ k,(eO v k).testBit d=(decide (d<k)&&m8 v (d:Int))
 |0=>by simp[eO]
 |k+1=>by
  simp only[eO,Nat.testBit_or,yX v d k];by_cases h1:d=k
  ·subst h1;cases h2:m8 v (d:Int)
   ·simp
   ·simp[Nat.testBit_two_pow_self]
  ·have h3:(if m8 v (k:Int)=true then 2^k else 0).testBit d=false:=by
    split
    ·exact Nat.testBit_two_pow_of_ne (fun e=>h1 e.symm)
    ·simp
   have h4:decide (d<k+1)=decide (d<k):=by rw[decide_eq_decide];omega
   rw[h3,h4,Bool.or_false]
theorem rS(v:Voy):∀ k,eO v k<2^k
 |0=>by simp[eO]
 |k+1=>by
  have ih:=rS v k;have h2:2^(k+1)=2^k*2:=Nat.pow_succ 2 k;refine Nat.or_lt_two_pow (by omega) ?_;have:=Nat.two_pow_pos k;split<;>omega
theorem y4{v:Voy}(hv:Vd v){op:Nat}(ho:op<16):lst v.doors.length (kG op (eO v v.doors.length))=wR v (lst v.doors.length op):=by
 have hdr:=hv.ndr;have hsl:eO v v.doors.length<9223372036854775808:=Nat.lt_of_lt_of_le (rS v _) (Nat.le_trans (Nat.pow_le_pow_right (by omega) hdr:2^v.doors.length<=2^4) (by omega));simp only[lst,wR,List.filter_filter];refine List.filter_congr fun x hx=>?_
 have hxr:=(aX _ _ _).1 hx;obtain⟨d,rfl⟩:∃ d:Nat,x=d:=⟨x.toNat,by omega⟩;have hd:d<v.doors.length:=by omega
 rw[<-i9,<-i9,Int.toNat_natCast,R5 hsl _ _ (by omega),yX];simp only[hd,decide_true,Bool.true_and];rw[Bool.and_comm]
def wJ(l:List Int)(x:List Int×Bool):List Int×Bool:=if (x.2||dD l x.1)=true then (l,false) else x
theorem CT:∀ (ls:List (List Int)) (b:List Int),ls.foldl (fun x l=>wJ l x) (b,false)=(ls.foldl aAL b,false)
 |[],b=>rfl
 |l::ls,b=>by
  simp only[List.foldl_cons];have:wJ l (b,false)=(aAL b l,false):=by
   simp only[wJ,aAL,Bool.false_or];split<;>rfl
  rw[this,CT ls]
theorem H9{v:Voy}(hv:Vd v)(hs:iB v []=true):((TL v []).foldl (fun x op=>wJ (lst v.doors.length (kG op (eO v v.doors.length))) x) ([],true)).1=yD v (aI v []):=by
 have hlt:=UZ hv (bl:=[]);have hne:TL v []≠[]:=by
  intro e;have:=EG hv [];rw[e] at this;simp[iB,<-this] at hs
 rw[jQ hv];cases hT:TL v [] with
 |nil=>exact absurd hT hne
 |cons op l =>
  rw[hT] at hlt;simp only[List.foldl_cons,List.map_cons,yD];have e1:wJ (lst v.doors.length (kG op (eO v v.doors.length))) ([],true)=(wR v (lst v.doors.length op),false):=by
   rw[y4 hv (hlt op (by simp)).1];rfl
  rw[e1];have e2:∀ (l:List Nat) (x:List Int×Bool),(∀ t∈l,t<16)->l.foldl (fun x op=>wJ (lst v.doors.length (kG op (eO v v.doors.length))) x) x=(l.map fun op=>wR v (lst v.doors.length op)).foldl (fun x l=>wJ l x) x:=by
   intro l
   induction l with
   |nil=>intro x _;rfl
   |cons a l ih =>
    intro x h;simp only[List.foldl_cons,List.map_cons];rw[y4 hv (h a (by simp)),ih _ fun t ht=>h t (by simp[ht])]
  rw[e2 l _ fun t ht=>(hlt t (by simp[ht])).1,CT];simp only[List.map_map];rfl
def oT(f:Nat->Nat)(k:Nat):List Int:=(aR 0 k).filter fun h=>decide (f h.toNat≠0)
theorem OB(f:Nat->Nat)(k:Nat):oT f (k+1)=oT f k++(if f k≠0 then [(k:Int)] else []):=by
 simp only[oT,gW,List.filter_append,Int.zero_add]
 congr 1
 simp only[List.filter_cons,List.filter_nil,Int.toNat_natCast];by_cases h:f k=0<;>simp[h]
theorem EX(f:Nat->Nat)(k:Nat):(oT f k).length<=k:=by
 have:=List.length_filter_le (fun h:Int=>decide (f h.toNat≠0)) (aR 0 k);rw[iK] at this;exact this
theorem mV:∀ (n:Nat) (a:Int),(aR a n).Nodup
 |0,a=>List.nodup_nil
 |n+1,a=>by
  simp only[aR,List.nodup_cons,aX];exact⟨by omega,mV n (a+1)⟩
def TH(h:Int):Int:=if h = -1 then 25 else h
theorem F1{v:Voy}(hv:Vd v){N:Nat}(hn:N<v.lots.toNat):(oT (iA v N) 26).Perm ((sV v (aI v []) N).map TH):=by
 have hhr:=hv.hours;have hle:∀ x∈sV v (aI v []) N,-1<=x/\x<=24:=fun x hx=>by
  obtain⟨w,hw,e⟩:=(DS hv hn).1 hx;rcases zL hn hw with q|q
  ·rw[q] at e;simp only at e;omega
  ·omega
 refine (List.perm_ext_iff_of_nodup ((mV 26 0).filter _) ?_).2 fun a=>?_
 ·refine List.pairwise_map.2 (List.Pairwise.imp_of_mem (fun {x y} hx hy hne h=>?_) ((mV _ _).filter _));have:=hle x hx;have:=hle y hy;apply hne;simp only[TH] at h;split at h<;>split at h<;>omega
 ·simp only[oT,List.mem_filter,aX,decide_eq_true_eq,List.mem_map];constructor
  ·rintro⟨hr,hf⟩;obtain⟨w,hw,e⟩:=(tJ hv hn (by omega)).1 hf;refine⟨w.hour,(DS hv hn).2 ⟨w,hw,rfl⟩,?_⟩;simp only[hAt] at e;simp only[TH];split at e
   ·rw[if_pos e];omega
   ·rw[if_neg (by omega)];omega
  ·rintro⟨x,hx,rfl⟩;obtain⟨w,hw,e⟩:=(DS hv hn).1 hx;have:=hle x hx;simp only[TH];split
   ·refine⟨by omega,(tJ hv hn (by omega)).2 ⟨w,hw,?_⟩⟩;show w.hour=hAt 25
    simp only[hAt,if_true];omega
   ·refine⟨by omega,(tJ hv hn (by omega)).2 ⟨w,hw,?_⟩⟩;simp only[hAt];rw[if_neg (by omega)];omega
theorem EL{v:Voy}(hv:Vd v){N:Nat}(hn:N<v.lots.toNat):(oT (iA v N) 26).length=(sV v (aI v []) N).length:=by
 rw[(F1 hv hn).length_eq,List.length_map]
theorem ND{v:Voy}(hv:Vd v){N:Nat}(hn:N<v.lots.toNat){a:Int}(ha:a<=24):((oT (iA v N) 26).filter fun h=>decide (h<=a)).length=((sV v (aI v []) N).filter fun h=>decide (h≠-1)&&decide (h<=a)).length:=by
 rw[((F1 hv hn).filter _).length_eq,List.filter_map,List.length_map]
 congr 1
 refine List.filter_congr fun x _=>?_
 simp only[Function.comp_apply,TH];by_cases h:x = -1
 ·subst h;simp;omega
 ·simp[h]
theorem JT{v:Voy}(hv:Vd v){N:Nat}(hn:N<v.lots.toNat){a:Int}(ha:a<=24):eU (sV v (aI v []) N) a=max (((oT (iA v N) 26).filter fun h=>decide (h<=a)).length:Int) (((oT (iA v N) 26).length:Int)-(((oT (iA v N) 26).filter fun h=>decide (h<=a)).length:Int)):=by
 rw[eU,ND hv hn ha,EL hv hn]
def K8(f:List Int->Bool)(o:Option (List Int))(l:List Int):Option (List Int):=match o with
 |none=>if f l=true then some l else none
 |some b=>if (dD l b&&f l)=true then some l else some b
theorem TP(f:List Int->Bool)(o:Option (List Int))(l:List Int)(h:∀ b,o=some b->f b=true):K8 f o l=mN f o l:=by
 cases o with
 |none=>rfl
 |some b =>
  simp only[K8,mN];cases h1:dD l b
  ·simp only[Bool.false_and,Bool.false_eq_true,if_false];cases h2:dD b l
   ·have:=wO h1 h2;subst this;rw[h l rfl];simp
   ·simp
  ·have h2:dD b l=false:=by
    rw[Bool.eq_false_iff];intro h3;have:=qJ h1 h3;rw[sK] at this;cases this
   simp[h2]
end Go.Am.Room.Do
namespace Go.Am.Room.Do
def eM:=zz @cN (zz @aP (zz @dB (zz @aY (zz @bA (zz @bK (zz @dO (zz @bN (zz @bL (zz @List.length_append.{0} (zz @eW (zz @Nat.add_lt_add_iff_left (zz @Nat.lt_add_right_iff_pos (zz @Nat.mul_one (zz @Int.toNat_natCast (zz @j4 (zz @lA (zz @lB (zz @jI (@pL)))))))))))))))))))
theorem BV{v:Voy}(h:aI v []≠[]):iB v []=true:=by
 cases he:aI v [] with
 |nil=>exact absurd he h
 |cons a l=>simp[iB,he]
theorem jJ(v:Voy)(n:Int)(hf:Fits v):aV T 42 [encVoy v,.int .i64 n] (pU (jY v n)):=by
 refine aS (af:=a42) rfl (by simp[a42]) dd ?_
 (repeat (first|simp only[↓QA,QB,reduceLT,reduceIte,reduceEqDiff,reduceAdd,reduceLeDiff,reduceMul,Nat.reduceBEq,eM,a42]|refine rd0 rfl ?_))
 refine dR (lC _ v n hf) ?_;simp only[jA,kM];by_cases h0:cW v n=0
 ·obtain⟨ha,hne⟩:=gE h0;obtain⟨hv,hn0,hn1⟩:=nU ha;obtain⟨N,rfl⟩:∃ N:Nat,n=N:=⟨n.toNat,by omega⟩;have hN:N<v.lots.toNat:=by omega
  have hm:jY v N=(vP (aI v []) N,lG (aI v []) N,0):=by rw[jY,if_pos h0,Int.toNat_natCast];rfl
  have hal:=zJ (tS [.cells (aB v),.cells [.int .i64 0,.int .i64 0]] v) hv JE N hN (mP v);have hlaw:=J7 hv (BV hne) hN;obtain⟨F,hF⟩:∃ F,iA v N=F:=⟨_,rfl⟩;obtain⟨A,hA⟩:∃ A,oQ hv N (mP v)=A:=⟨_,rfl⟩;rw[hA,hF] at hal;rw[hF] at hlaw;rw[if_pos h0,if_pos h0,hm];obtain⟨R1,hR1⟩:∃ r,vP (aI v []) N=r:=⟨_,rfl⟩;obtain⟨R2,hR2⟩:∃ r,lG (aI v []) N=r:=⟨_,rfl⟩;rw[hR1,hR2] at hlaw;rw[hR1,hR2];simp only[n5] at hal ⊢;try simp only[↓QA,QB,reduceLT,reduceIte,reduceEqDiff,reduceAdd,reduceLeDiff,reduceMul,Nat.reduceBEq,eM] at hal
  have i25:(0:Int)<=25/\(25:Int)<((26:Nat):Int):=⟨by omega,by omega⟩;have t25:Int.toNat 25=25:=rfl;have hg25:=j6 F (i:=25) (by omega)
  (repeat (first|simp only[↓QA,QB,reduceLT,reduceIte,reduceEqDiff,reduceAdd,reduceLeDiff,reduceMul,Nat.reduceBEq,eM,show ((0:Int)==0)=true from rfl]|refine rd0 rfl ?_))
  refine dR hal ?_
  (repeat (first|simp only[↓QA,QB,reduceLT,reduceIte,reduceEqDiff,reduceAdd,reduceLeDiff,reduceMul,Nat.reduceBEq,eM,<-z26]|refine rd0 rfl ?_))
  refine cY (S:=Nat) 0 (fun k=>k<=25) (fun k=>25-k)
   (fun k=>[(4,.ptr 1 0),(8,.ptr 6 0),(24,.int .i64 k)])
   (fun k=>[.cells (aB v),.cells [.int .i64 (sO F k).1,.int .i64 (sO F k).2],.cells (aB v),.cells (aB v),.map (tEs v [] A),.cells (db v 0 4),.cells (dK F)]) (Nat.zero_le _) (by simp[aB,aK,sO]) ?_ fun k hk=>?_
  ·try simp only[aD,QE,reduceLT,reduceIte,reduceEqDiff,reduceAdd,reduceLeDiff,reduceMul,Nat.reduceBEq,eM]
   try simp
  ·obtain⟨s,hs⟩:∃ s,sO F k=s:=⟨_,rfl⟩;have hst:sO F (k+1)=if F k=0 then s else (if s.1<0 then (k:Int) else s.1,(k:Int)):=by simp only[sO,hs]
   rw[hs]
   (repeat (first|simp only[↓QA,QB,reduceLT,reduceIte,reduceEqDiff,reduceAdd,reduceLeDiff,reduceMul,Nat.reduceBEq,eM,aAY]|refine rd0 rfl ?_))
   refine aG (fun hd=>?_) fun hd=>?_
   ·have hk1:k<25:=by simp at hd;omega
    have hw:=cB hk1 (by omega);have i1:(0:Int)<=(k:Int)/\(k:Int)<((26:Nat):Int):=⟨by omega,by omega⟩;have hg:=j6 F (i:=k) (by omega);cases h1:(((F k:Nat):Int)==0)
    ·have h1':¬F k=0:=by simp at h1;omega
     rw[if_neg h1'] at hst;cases h2:decide (s.1<0)
     ·have h2':¬s.1<0:=by simpa using h2
      rw[if_neg h2'] at hst
      (repeat (first|simp only[↓QA,QB,reduceLT,reduceIte,reduceEqDiff,reduceAdd,reduceLeDiff,reduceMul,Nat.reduceBEq,eM,i1,hg,h1,h2]|refine rd0 rfl ?_))
      refine⟨k+1,by omega,by omega,?_⟩;try simp only[aD,QE,reduceLT,reduceIte,reduceEqDiff,reduceAdd,reduceLeDiff,reduceMul,Nat.reduceBEq,eM,hw,hst]
      try simp[aO,okVs,okV]
     ·have h2':s.1<0:=by simpa using h2
      rw[if_pos h2'] at hst
      (repeat (first|simp only[↓QA,QB,reduceLT,reduceIte,reduceEqDiff,reduceAdd,reduceLeDiff,reduceMul,Nat.reduceBEq,eM,i1,hg,h1,h2]|refine rd0 rfl ?_))
      refine⟨k+1,by omega,by omega,?_⟩;try simp only[aD,QE,reduceLT,reduceIte,reduceEqDiff,reduceAdd,reduceLeDiff,reduceMul,Nat.reduceBEq,eM,hw,hst]
      try simp[aO,okVs,okV]
    ·have h1':F k=0:=by simp at h1;omega
     rw[if_pos h1'] at hst
     (repeat (first|simp only[↓QA,QB,reduceLT,reduceIte,reduceEqDiff,reduceAdd,reduceLeDiff,reduceMul,Nat.reduceBEq,eM,i1,hg,h1]|refine rd0 rfl ?_))
     refine⟨k+1,by omega,by omega,?_⟩;try simp only[aD,QE,reduceLT,reduceIte,reduceEqDiff,reduceAdd,reduceLeDiff,reduceMul,Nat.reduceBEq,eM,hw,hst]
     try simp[aO,okVs,okV]
   ·have hk1:k=25:=by simp at hd;omega
    subst hk1;rw[hs] at hlaw;rcases hlaw with⟨q1,q2,q3⟩|⟨q1,q2,q3⟩
    ·have g1:decide (s.1<0)=true:=by simpa using q1
     subst q2;subst q3
     (repeat (first|simp only[↓QA,QB,reduceLT,reduceIte,reduceEqDiff,reduceAdd,reduceLeDiff,reduceMul,Nat.reduceBEq,eM,g1,pU]|refine rd0 rfl ?_))
     try try simp only[QS,QC,reduceLT,reduceIte,reduceEqDiff,reduceAdd,reduceLeDiff,reduceMul,Nat.reduceBEq,eM]
    ·have g1:decide (s.1<0)=false:=by simpa using q1
     subst q2;cases h2:(((F 25:Nat):Int)==0)
     ·have h2':¬F 25=0:=by simp at h2;omega
      rw[if_neg h2'] at q3;subst q3
      (repeat (first|simp only[↓QA,QB,reduceLT,reduceIte,reduceEqDiff,reduceAdd,reduceLeDiff,reduceMul,Nat.reduceBEq,eM,g1,i25,t25,hg25,h2,pU]|refine rd0 rfl ?_))
      try try simp only[QS,QC,reduceLT,reduceIte,reduceEqDiff,reduceAdd,reduceLeDiff,reduceMul,Nat.reduceBEq,eM]
     ·have h2':F 25=0:=by simp at h2;omega
      rw[if_pos h2'] at q3;subst q3
      (repeat (first|simp only[↓QA,QB,reduceLT,reduceIte,reduceEqDiff,reduceAdd,reduceLeDiff,reduceMul,Nat.reduceBEq,eM,g1,i25,t25,hg25,h2,pU]|refine rd0 rfl ?_))
      try try simp only[QS,QC,reduceLT,reduceIte,reduceEqDiff,reduceAdd,reduceLeDiff,reduceMul,Nat.reduceBEq,eM]
 ·have h0':(cW v n==0)=false:=by simpa using h0
  have hm:jY v n=(⟨0,0⟩,0,cW v n):=by rw[jY,if_neg h0]
  rw[if_neg h0,if_neg h0,hm]
  (repeat (first|simp only[↓QA,QB,reduceLT,reduceIte,reduceEqDiff,reduceAdd,reduceLeDiff,reduceMul,Nat.reduceBEq,eM,h0',pU]|refine rd0 rfl ?_))
  try rfl
end Go.Am.Room.Do
namespace Go.Am.Room.Do
def bF:=zz @Int.toNat_natCast (@List.length_append.{0})
theorem EW(n:Int):aV T 386 [.int .i64 n] (.bool false):=by
 refine aS (af:=QY) rfl (by simp[QY]) dd ?_;try simp only[↓QA,QB,seval,bF,QY]
 try simp
def BP(a b:Int):Int:=if a<b then -1 else if b<a then 1 else 0
theorem aC5(a b:Int):aV T 254 [.int .i64 a,.int .i64 b] (.int .i64 (BP a b)):=by
 refine aS (af:=V5) rfl (by simp[V5]) dd ?_;try simp only[↓QA,QB,seval,bF,V5]
 (refine aE (EW a) rfl dd ?_;try simp only[↓QA,QB,seval,bF])
 (refine aE (EW b) rfl dd ?_;try simp only[↓QA,QB,seval,bF])
 cases h1:decide (a<b)
 ·have h1':¬a<b:=by simpa using h1
  try simp only[↓QA,QB,seval,bF]
  cases h2:decide (b<a)
  ·have h2':¬b<a:=by simpa using h2
   try simp only[↓QA,QB,seval,bF]
   simp[BP,h1',h2']
  ·have h2':b<a:=by simpa using h2
   try simp only[↓QA,QB,seval,bF]
   simp[BP,h1',h2']
 ·have h1':a<b:=by simpa using h1
  try simp only[↓QA,QB,seval,bF]
  simp[BP,h1']
def BG:List Int->List Int->Int
 |[],[]=>0
 |[],_::_=>-1
 |_::_,[]=>1
 |a::az,b::bs=>if BP a b=0 then BG az bs else BP a b
theorem YE(a b:List Int)(ha:a.length<9223372036854775808)(hb:b.length<9223372036854775808):aV T 118 [aK a,aK b] (.int .i64 (BG a b)):=by
 refine aS (af:=VS) rfl (by simp[VS]) dd ?_;try simp only[↓QA,QB,seval,bF,VS]
 refine cY (S:=Nat) 0 (fun k=>k<=a.length/\k<=b.length/\BG (a.drop k) (b.drop k)=BG a b) (fun k=>a.length-k) (fun k=>[(0,aK a),(1,aK b),(9,aK a),(10,.int .i64 a.length),(11,.int .i64 k)]) (fun _=>[]) ⟨by simp,by simp,by simp⟩ rfl ?_ fun k hk=>?_
 ·try simp only[aD,QE,seval,bF]
  try simp
 ·obtain⟨hk,hkb,hq⟩:=hk;try simp only[↓QA,QB,seval,bF,QH]
  refine aG (fun h=>?_) fun h=>?_
  ·have hk1:k<a.length:=by simpa using h
   have hw:=cB hk1 ha;rw[List.drop_eq_getElem_cons hk1] at hq;try simp only[↓QA,QB,seval,bF,hk1]
   refine aG (fun h2=>?_) fun h2=>?_
   ·have hk2:k=b.length:=by simp at h2;omega
    have hd:b.drop k=[]:=by rw[hk2,List.drop_length]
    rw[hd] at hq;simp only[BG] at hq;try simp only[↓QA,QB,seval,bF,hk1,<-hq]
   ·have hk2:k<b.length:=by simp at h2;omega
    rw[List.drop_eq_getElem_cons hk2] at hq;simp only[BG] at hq;try simp only[↓QA,QB,seval,bF,hk1,hk2]
    (refine aE (aC5 a[k] b[k]) rfl dd ?_;try simp only[↓QA,QB,seval,bF,hk1,hk2])
    cases h3:(BP a[k] b[k]==0)
    ·have h3':BP a[k] b[k]≠0:=by simpa using h3
     rw[if_neg h3'] at hq;try simp only[↓QA,QB,seval,bF,h3,hk1,hk2,hq]
    ·have h3':BP a[k] b[k]=0:=by simpa using h3
     rw[if_pos h3'] at hq;try simp only[↓QA,QB,seval,bF,h3,hk1,hk2]
     refine⟨k+1,⟨by omega,by omega,hq⟩,by omega,?_⟩;try simp only[aD,QE,seval,bF,hw]
  ·have hk1:k=a.length:=by simp at h;omega
   rw[hk1,List.drop_length] at hq;try simp only[↓QA,QB,seval,bF]
   refine aG (fun h2=>?_) fun h2=>?_
   ·have hk2:a.length<b.length:=by simpa using h2
    rw[List.drop_eq_getElem_cons hk2] at hq;try simp only[↓QA,QB,seval,bF,<-hq,BG]
   ·have hk2:a.length=b.length:=by simp at h2;omega
    rw[hk2,List.drop_length] at hq;try simp only[↓QA,QB,seval,bF,<-hq,BG]
theorem oW(s n:Nat)(hs:s<9223372036854775808)(hn:n<=60):aV T 162 [.int .i64 s,.int .i64 n] (aK (lst n s)):=by
 refine aS (af:=V8) rfl (by simp[V8]) dd ?_;try simp only[↓QA,QB,seval,bF,V8]
 obtain⟨R,hRR⟩:∃ R,lst n s=R:=⟨_,rfl⟩;have hRR':[]++(aR ((0:Nat):Int) (n-0)).filter (fun i=>decide (s/2^i.toNat%2=1))=R:=hRR;rw[hRR];refine qO 4 1 [] rfl ?_;refine cY (S:=Nat×List Int×Bool) (0,[],false) (fun x=>x.1<=n/\x.2.1.length<=x.1/\x.2.1++(aR (x.1:Int) (n-x.1)).filter (fun i=>decide (s/2^i.toNat%2=1))=R) (fun x=>n-x.1)
  (fun x=>[(0,.int .i64 s),(4,.lit (x.2.1.map (.int .i64)) false (some 0)),(6,.int .i64 n),(7,.int .i64 x.1)]) (fun x=>[.tok 1 x.2.1.length x.2.2]) ⟨by simp,by simp,hRR'⟩ rfl ?_ fun x hx=>?_
 ·try simp only[aD,QE,seval,bF]
  try simp
 ·obtain⟨k,acc,ex⟩:=x;obtain⟨hk,hal,hacc⟩:=hx;simp only at hk hal hacc;try simp only[↓QA,QB,seval,bF,O9]
  refine aG (fun h=>?_) fun h=>?_
  ·have hk1:k<n:=by simpa using h
   have hw:=cB hk1 (by omega);rw[show n-k=(n-(k+1))+1 by omega] at hacc;simp only[aR,List.filter_cons,Int.toNat_natCast] at hacc;rw[show ((k:Int)+1)=((k+1:Nat):Int) by omega] at hacc;have vs:=aAZ s k (by omega);have va:=U5 (s/2^k) (Nat.lt_of_le_of_lt (Nat.div_le_self _ _) hs);have hbit:(((s/2^k%2:Nat):Int)==1)=decide (s/2^k%2=1):=by
    generalize s/2^k%2=q;rw[Bool.eq_iff_iff,beq_iff_eq,decide_eq_true_eq];omega
   try simp only[↓QA,QB,seval,bF,vs,va,hbit]
   cases hb:decide (s/2^k%2=1)
   ·simp only[hb,Bool.false_eq_true,if_false] at hacc;try simp only[↓QA,QB,seval,bF,hw]
    refine⟨(k+1,acc,ex),⟨by simp only;omega,by simp only;omega,by simpa using hacc⟩,by simp only;omega,?_⟩;try simp only[aD,QE,seval,bF,hw,JU]
    try simp[aO]
   ·simp only[hb,if_true] at hacc;have hap:=fun (τ:St)=>F9 (σ:=.tok 1 acc.length ex::τ) (l:=acc) (a:=(k:Int)) (ex:=ex) (t:=0) (by omega) rfl
    try simp only[↓QA,QB,seval,bF,hw,hap]
    refine⟨(k+1,acc++[(k:Int)],true),⟨by simp only;omega,by simp only[List.length_append,List.length_cons,List.length_nil];omega,by
     rw[<-hacc];simp⟩,by simp only;omega,?_⟩
    try simp only[aD,QE,seval,bF,hw,JU,List.map_append,List.map_cons,List.map_nil]
    try simp[aO]
  ·have hk1:k=n:=by simp at h;omega
   rw[hk1] at hacc;simp only[Nat.sub_self,aR,List.filter_nil,List.append_nil] at hacc;try simp only[↓QA,QB,seval,bF,hacc,aK]
end Go.Am.Room.Do
namespace Go.Am.Room.Do
def eP:=zz @cN (zz @dB (zz @aY (zz @bA (zz @bK (zz @dO (zz @bN (zz @bL (zz @List.length_append.{0} (zz @KC (zz @eW (zz @kR (zz @Nat.mul_one (@Int.toNat_natCast)))))))))))))
theorem L9(k:Kp)(h:Int)(hb:-100<=k.frm-h/\k.frm-h<=100):aV T 308 [fH k,.int .i64 h] (.int .i64 (k.frm-h)):=by
 refine aS (af:=UC) rfl (by simp[UC]) dd ?_;have hw:IntKind.i64.wrap (k.frm-h)=k.frm-h:=dL ⟨by omega,by omega⟩;try simp only[↓QA,QB,seval,eP,UC,hw]
theorem aON{x:Int}(h:0<=x/\x<=1000):IntKind.u64.wrap x=x:=by
 simp only[IntKind.wrap,IntKind.signed,IntKind.bits];simp;omega
theorem aER(s:Nat):cA .shr (.int .u64 (s:Int)) (.int .u64 1)=some (.int .u64 ((s/2:Nat):Int)):=by
 have hm:Nat.min (1:Int).toNat 64=1:=rfl;have h0:¬(1:Int)<0:=by omega
 simp only[cA,h0,if_false,IntKind.bits,hm,Option.some.injEq,AV.int.injEq,true_and];rw[Int.fdiv_eq_ediv_of_nonneg _ (by decide)];norm_cast
def j9(l:List Kp)(i:Nat):Int:=match l[i]? with|some k=>k.frm|none=>1000
theorem aNG(l:List Kp)(h:Int)(hl:l.length<=5)(hb:∀ k∈l,0<=k.frm/\k.frm<=24)(hh:0<=h/\h<=24)(hsort:∀ i j,i<j->j<l.length->j9 l i<j9 l j):
  ∃ i:Nat,i<=l.length/\(∀ q,q<i->j9 l q<h)/\(∀ q,i<=q->q<l.length->h<=j9 l q) /\
   aV T 307 [.lit (l.map fH) false none,.int .i64 h,.func 308 [] []] (.tuple [.int .i64 i,.bool (decide (i<l.length)&&(j9 l i==h))]):=by
 have hat:∀ q (hq:q<l.length),j9 l q=l[q].frm:=fun q hq=>by simp[j9,hq]
 obtain⟨i,hi,h1,h2⟩:∃ i,i<=l.length/\(∀ q,q<i->j9 l q<h)/\(∀ q,i<=q->q<l.length->h<=j9 l q):=by
  have key:∀ k,k<=l.length->(∀ q,q<k->j9 l q<h)->∃ i,i<=l.length/\(∀ q,q<i->j9 l q<h)/\(∀ q,i<=q->q<l.length->h<=j9 l q):=by
   intro k
   induction hk:l.length-k generalizing k with
   |zero=>exact fun h1 h2=>⟨k,h1,h2,fun q h3 h4=>by omega⟩
   |succ m ih =>
    intro h1 h2;by_cases hc:j9 l k<h
    ·refine ih (k+1) (by omega) (by omega) fun q hq=>?_
     by_cases e:q=k
     ·subst e;exact hc
     ·exact h2 q (by omega)
    ·refine⟨k,h1,h2,fun q h3 h4=>?_⟩;by_cases e:q=k
     ·subst e;omega
     ·have:=hsort k q (by omega) h4;omega
  exact key 0 (by omega) fun q hq=>by omega
 refine⟨i,hi,h1,h2,?_⟩;refine aS (af:=PY) rfl (by simp[PY]) (aM (eY sF l) (aM (cE _ _) (aM ⟨⟨trivial,trivial⟩,rfl⟩ bM))) ?_;try simp only[↓QA,QB,seval,eP,PY]
 refine cY (S:=Nat×Nat) (0,l.length) (fun a=>a.1<=i/\i<=a.2/\a.2<=l.length) (fun a=>a.2-a.1)
  (fun a=>[(0,.lit (l.map fH) false none),(1,.int .i64 h),(2,.func 308 [] []),(8,.int .i64 l.length),(9,.int .i64 a.1),(10,.int .i64 a.2)]) (fun _=>[]) ⟨by simp,by simpa using hi,by simp⟩ rfl ?_ fun a ha=>?_
 ·try simp only[aD,QE,seval,eP]
  try simp[clr,clrs]
 ·obtain⟨lo,hi2⟩:=a;obtain⟨p1,p2,p3⟩:=ha;simp only at p1 p2 p3;try simp only[↓QA,QB,seval,eP,WJ]
  refine aG (fun hd=>?_) fun hd=>?_
  ·have hd':lo<hi2:=by simpa using hd
   obtain⟨m,hm⟩:∃ m,(lo+hi2)/2=m:=⟨_,rfl⟩;have hm1:m<l.length:=by omega
   have hw1:IntKind.i64.wrap ((lo:Int)+(hi2:Int))=((lo+hi2:Nat):Int):=by rw[dL ⟨by omega,by omega⟩];omega
   have hw2:IntKind.u64.wrap ((lo+hi2:Nat):Int)=((lo+hi2:Nat):Int):=aON ⟨by omega,by omega⟩;have hvh:=aER (lo+hi2);rw[hm] at hvh;have hw3:IntKind.i64.wrap ((m:Nat):Int)=(m:Int):=dL ⟨by omega,by omega⟩;have hw4:IntKind.i64.wrap ((m:Int)+1)=((m+1:Nat):Int):=cB hm1 (by omega);have hbm:=hb _ (List.getElem_mem hm1);have hatm:=hat m hm1;obtain⟨x,hx⟩:∃ x,l[m]=x:=⟨_,rfl⟩;rw[hx] at hbm hatm;try simp only[↓QA,QB,seval,eP,hw1,hw2,hvh,hw3,hm1,hx]
   (refine aE (L9 x h (by omega)) rfl dd ?_;try simp only[↓QA,QB,seval,eP,hw1,hw2,hvh,hw3,hm1,hx])
   refine aG (fun hc=>?_) fun hc=>?_
   ·have hc':x.frm-h<0:=by simpa using hc
    have him:m<i:=by
     by_cases e:m<i
     ·exact e
     ·have:=h2 m (by omega) hm1;omega
    try simp only[↓QA,QB,seval,eP,hw4]
    refine⟨(m+1,hi2),⟨by simp only;omega,p2,p3⟩,by simp only;omega,?_⟩;try simp only[aD,QE,seval,eP,hw4]
    try simp[clr,clrs]
   ·have hc':¬x.frm-h<0:=by simpa using hc
    have him:i<=m:=by
     by_cases e:i<=m
     ·exact e
     ·have:=h1 m (by omega);omega
    try simp only[↓QA,QB,seval,eP]
    refine⟨(lo,m),⟨p1,by simp only;omega,by simp only;omega⟩,by simp only;omega,?_⟩;try simp only[aD,QE,seval,eP]
    try simp[clr,clrs]
  ·have hd':lo=i:=by simp at hd;omega
   subst hd';try simp only[↓QA,QB,seval,eP]
   by_cases hlt:lo<l.length
   ·have g:decide ((lo:Int)<(l.length:Int))=true:=by simp;omega
    have hbm:=hb _ (List.getElem_mem hlt);have hatm:=hat lo hlt;obtain⟨x,hx⟩:∃ x,l[lo]=x:=⟨_,rfl⟩;rw[hx] at hbm hatm;have g2:(x.frm-h==0)=(j9 l lo==h):=by rw[hatm,Bool.eq_iff_iff];simp;omega
    try simp only[↓QA,QB,seval,eP,g,hlt,hx]
    (refine aE (L9 x h (by omega)) rfl dd ?_;try simp only[↓QA,QB,seval,eP,g,hlt,hx,g2])
    try simp[hlt]
   ·have g:decide ((lo:Int)<(l.length:Int))=false:=by simp;omega
    try simp only[↓QA,QB,seval,eP,g]
    try simp[hlt]
theorem J8{v:Voy}(hv:Vd v){h:Int}(hh:0<=h){i:Nat}(hi:i<=v.keepers.length)(h1:∀ q,q<i->j9 v.keepers q<h)(h2:∀ q,i<=q->q<v.keepers.length->h<=j9 v.keepers q):
  eS v h=if (decide (i<v.keepers.length)&&(j9 v.keepers i==h))=true then (i:Int) else (i:Int)-1:=by
 have hk:=hv.nkp;have hat:∀ q,q<v.keepers.length->j9 v.keepers q=dV v q:=fun q hq=>by simp[j9,dV,hq]
 have key:∀ n,n<=v.keepers.length->dH v h n=if (decide (i<n)&&(j9 v.keepers i==h))=true then (i:Int) else if min i n=0 then 0 else ((min i n:Nat):Int)-1:=by
  intro n
  induction n with
  |zero=>intro _;simp[dH]
  |succ n ih =>
   intro hn;have e:=hat n (by omega);simp only[dH];by_cases hc:n<i
   ·have:=h1 n hc;rw[if_pos (by omega)];have a1:decide (i<n+1)=false:=by simp;omega
    rw[a1];simp only[Bool.false_and,Bool.false_eq_true,if_false];rw[if_neg (by omega)];omega
   ·have:=h2 n (by omega) (by omega);by_cases hn2:n=i
    ·subst hn2;by_cases hq:j9 v.keepers n=h
     ·rw[if_pos (by omega)];simp[hq]
     ·rw[if_neg (by omega),ih (by omega)];have a1:decide (n<n)=false:=by simp
      have a2:(j9 v.keepers n==h)=false:=by simpa using hq
      rw[a1,a2];simp
    ·have hlt:dV v i<dV v n:=by
      have mono:∀ d,∀ i,i+(d+1)<v.keepers.length->dV v i<dV v (i+(d+1)):=by
       intro d
       induction d with
       |zero=>intro i hi;have:=(vL hv (i:=i+1) (by omega)).2.2 (by omega);simpa using this
       |succ d ih2 =>
        intro i hi;have a:=ih2 i (by omega);have b:=(vL hv (i:=i+(d+1)+1) (by omega)).2.2 (by omega);rw[Nat.add_sub_cancel] at b;have:i+(d+1+1)=i+(d+1)+1:=by omega
        rw[this];omega
      have:=mono (n-i-1) i (by omega)
      rwa [show i+(n-i-1+1)=n by omega] at this
     have h3:=h2 i (Nat.le_refl _) (by omega);rw[hat i (by omega)] at h3;rw[if_neg (by omega),ih (by omega)];have a1:decide (i<n+1)=decide (i<n):=by rw[decide_eq_decide];omega
     have a2:min i (n+1)=min i n:=by omega
     rw[a1,a2]
 have h0:=(vL hv (i:=0) (by omega)).2.1 rfl;have hm:min i v.keepers.length=i:=by omega
 rw[eS,key _ (Nat.le_refl _),hm];by_cases hc:(decide (i<v.keepers.length)&&(j9 v.keepers i==h))=true
 ·rw[if_pos hc,if_pos hc]
 ·rw[if_neg hc,if_neg hc];by_cases hi0:i=0
  ·exfalso;subst hi0;have:=h2 0 (by omega) (by omega);have e:=hat 0 (by omega);apply hc;simp only[Bool.and_eq_true,decide_eq_true_eq,beq_iff_eq];omega
  ·rw[if_neg hi0]
theorem WN(σ:St)(p:Nat)(v:Voy)(b m:Nat)(hp:aL σ p=some (db v b m))(hv:Vd v)(h:Int)(hh:0<=h/\h<=24):lK T (.func 168 [.ptr p 0] []) [.int .i64 h] σ (.int .i64 (eS v h)):=by
 have hk:=hv.nkp;have hhr:=hv.hours
 obtain⟨i,hi,h1,h2,hbs⟩:=aNG v.keepers h (by omega) (fun k hk=>by
   obtain⟨q,hq,rfl⟩:=List.mem_iff_getElem.1 hk;have:=(vL hv hq).1;rw[dV,List.getElem?_eq_getElem hq] at this;simp only at this;omega) hh (fun i j hij hj=>by
   have hat:∀ q,q<v.keepers.length->j9 v.keepers q=dV v q:=fun q hq=>by simp[j9,dV,hq]
   rw[hat i (by omega),hat j hj];obtain⟨d,rfl⟩:∃ d,j=i+(d+1):=⟨j-i-1,by omega⟩;clear hij
   induction d with
   |zero=>have:=(vL hv (i:=i+1) (by omega)).2.2 (by omega);simpa using this
   |succ d ih2 =>
    have a:=ih2 (by omega);have b:=(vL hv (i:=i+(d+1)+1) (by omega)).2.2 (by omega);rw[Nat.add_sub_cancel] at b;have:i+(d+1+1)=i+(d+1)+1:=by omega
    rw[this];omega)
 have hlaw:=J8 hv hh.1 hi h1 h2;obtain⟨C,hC⟩:∃ C,(decide (i<v.keepers.length)&&(j9 v.keepers i==h))=C:=⟨_,rfl⟩;rw[hC] at hbs hlaw;have hw:IntKind.i64.wrap ((i:Int)-1)=(i:Int)-1:=dL ⟨by omega,by omega⟩;refine fZ (af:=S1) rfl (by simp[S1]) ?_;try simp only[↓QA,QB,seval,eP,S1,hp]
 refine aE hbs rfl (aM (eY sF v.keepers) (aM (cE .i64 h) (aM (v:=.func 308 [] []) ⟨⟨trivial,trivial⟩,rfl⟩ bM))) ?_;cases C
 ·simp only[Bool.false_eq_true,if_false] at hlaw;try simp only[↓QA,QB,seval,eP,hw]
  refine gB [] (by first|rfl|simp) ?_;rw[hlaw];try simp only[QS,QC,seval,eP]
 ·simp only[if_true] at hlaw;try simp only[↓QA,QB,seval,eP]
  refine gB [] (by first|rfl|simp) ?_;rw[hlaw];try simp only[QS,QC,seval,eP]
end Go.Am.Room.Do
namespace Go.Am.Room.Do
def mM:=zz @dB (zz @aY (zz @bA (zz @bK (zz @dO (zz @bN (zz @bL (zz @List.length_append.{0} (zz @NM (zz @MX (zz @OH (zz @KC (zz @OV (zz @NT (zz @N7 (zz @OK (zz @O3 (zz @eW (zz @kR (zz @Nat.add_lt_add_iff_left (zz @Nat.lt_add_right_iff_pos (zz @Nat.mul_one (zz @Int.toNat_natCast (zz @j4 (zz @lA (zz @lB (zz @jI (@pL)))))))))))))))))))))))))))
theorem xM{S:List Ask->St}{v:Voy}{b p m N:Nat}(hR:MemAt S (db v b m) (tEs v []) p m N)(hv:Vd v)(hb:ButIs b [])(n:Nat)(hn:n<v.lots.toNat)(A:List Ask):
  BH T (.func 169 [] []) [.ptr p 0,.int .i64 n] (S A) (.int .i64 (iC v n:Int)) (S (oQ hv n A)):=by
 have hal:=zJ hR hv hb n hn A;obtain⟨A2,hA2⟩:∃ A2,oQ hv n A=A2:=⟨_,rfl⟩;obtain⟨F,hF⟩:∃ F,iA v n=F:=⟨_,rfl⟩;obtain⟨f,hfe⟩:∃ f,rZ v n=f:=⟨_,rfl⟩;have hff:∀ i,f i=F i &&& 15:=fun i=>by rw[<-hfe,<-hF];rfl
 have hFl:∀ i,i<26->F i<32:=fun i _=>by
  have e:=A8 hv n (TL v []) f0;have:iA v n=((TL v []).foldl (fun x a=>(jR hv n a x).1) f0).1:=e.symm;rw[<-hF,this];exact ((TL v []).foldl (fun x a=>(jR hv n a x).1) f0).2 i
 have hfl:∀ i,f i<2^4:=fun i=>by rw[<-hfe];exact n6 v n i
 have hcs:iC v n=xR f 26:=by rw[<-hfe];rfl
 rw[hA2] at hal ⊢;rw[hF] at hal;rw[hcs];refine rI hR (af:=UF) rfl (by simp[UF]) ?_
 (repeat (first|simp only[↓QA,QB,reduceLT,reduceIte,reduceEqDiff,reduceAdd,reduceLeDiff,reduceMul,Nat.reduceBEq,mM,hR.len,hR.base,hR.base0,hR.bset,hR.bset0,hR.at1,hR.at0,UF]|refine rd0 rfl ?_))
 refine dR hal ?_
 (repeat (first|simp only[↓QA,QB,reduceLT,reduceIte,reduceEqDiff,reduceAdd,reduceLeDiff,reduceMul,Nat.reduceBEq,mM,hR.len,hR.base,hR.base0,hR.bset,hR.bset0,hR.at1,hR.at0]|refine rd0 rfl ?_))
 refine cY (S:=Nat) 0 (fun k=>k<=26) (fun k=>26-k)
  (fun k=>[(4,.int .i64 (xR f k:Int)),(9,.agg (dK F)),(10,.int .i64 k)]) (fun _=>S A2) (Nat.zero_le _) rfl ?_ fun k hk=>?_
 ·try simp only[aD,QE,reduceLT,reduceIte,reduceEqDiff,reduceAdd,reduceLeDiff,reduceMul,Nat.reduceBEq,mM,hR.len,hR.base,hR.base0,hR.bset,hR.bset0,hR.at1,hR.at0,xR]
  try simp
 ·(repeat (first|simp only[↓QA,QB,reduceLT,reduceIte,reduceEqDiff,reduceAdd,reduceLeDiff,reduceMul,Nat.reduceBEq,mM,hR.len,hR.base,hR.base0,hR.bset,hR.bset0,hR.at1,hR.at0,PI]|refine rd0 rfl ?_))
  refine aG (fun hd=>?_) fun hd=>?_
  ·have hk1:k<26:=by simp at hd;omega
   have hw:=cB hk1 (by omega);have i1:(0:Int)<=(k:Int)/\(k:Int)<((26:Nat):Int):=⟨by omega,by omega⟩;have hg:=j6 F hk1;have h1:=hFl k hk1;have h2:=yF hfl k;have h3:=hfl k;have hand:cA .and (.int .i64 ((F k:Nat):Int)) (.int .i64 15)=some (.int .i64 ((f k:Nat):Int)):=by rw[hff];exact QJ (F k) 15 (by omega) (by omega)
   have hor:=JR (xR f k) (f k) (by omega) (by omega);have hst:xR f (k+1)=xR f k|||f k:=rfl
   (repeat (first|simp only[↓QA,QB,reduceLT,reduceIte,reduceEqDiff,reduceAdd,reduceLeDiff,reduceMul,Nat.reduceBEq,mM,hR.len,hR.base,hR.base0,hR.bset,hR.bset0,hR.at1,hR.at0,i1,hg,hand,hor,LF]|refine rd0 rfl ?_))
   refine⟨k+1,by omega,by omega,?_⟩;try simp only[aD,QE,reduceLT,reduceIte,reduceEqDiff,reduceAdd,reduceLeDiff,reduceMul,Nat.reduceBEq,mM,hR.len,hR.base,hR.base0,hR.bset,hR.bset0,hR.at1,hR.at0,hw,hst]
   try simp
  ·have hk1:k=26:=by simp at hd;omega
   subst hk1
   (repeat (first|simp only[↓QA,QB,reduceLT,reduceIte,reduceEqDiff,reduceAdd,reduceLeDiff,reduceMul,Nat.reduceBEq,mM,hR.len,hR.base,hR.base0,hR.bset,hR.bset0,hR.at1,hR.at0]|refine rd0 rfl ?_))
   exact⟨_,[],rfl,by simp,by try simp only[QS,QC,reduceLT,reduceIte,reduceEqDiff,reduceAdd,reduceLeDiff,reduceMul,Nat.reduceBEq,mM,hR.len,hR.base,hR.base0,hR.bset,hR.bset0,hR.at1,hR.at0]⟩
end Go.Am.Room.Do
namespace Go.Am.Room.Do
def eN:=zz @cN (zz @aP (zz @dB (zz @aY (zz @bA (zz @bK (zz @dO (zz @bN (zz @bL (zz @List.length_append.{0} (zz @eW (zz @kR (zz @Nat.add_lt_add_iff_left (zz @Nat.lt_add_right_iff_pos (zz @Nat.mul_one (@Int.toNat_natCast)))))))))))))))
theorem nW(v:Voy)(n:Int)(hf:Fits v):aV T 156 [encVoy v,.int .i64 n] (jG (lD v n)):=by
 refine aS (af:=SC) rfl (by simp[SC]) dd ?_
 (repeat (first|simp only[↓QA,QB,seval,eN,SC]|refine rd0 rfl ?_))
 refine dR (lC _ v n hf) ?_;simp only[jA,kM];by_cases h0:cW v n=0
 ·obtain⟨ha,hne⟩:=gE h0;obtain⟨hv,hn0,hn1⟩:=nU ha;have hdr:=hv.ndr;obtain⟨N,rfl⟩:∃ N:Nat,n=N:=⟨n.toNat,by omega⟩;have hN:N<v.lots.toNat:=by omega
  have hm:lD v N=(eA v (aI v []) N,0):=by rw[lD,if_pos h0,Int.toNat_natCast]
  have hcd:=xM (tS [.cells (aB v)] v) hv JE N hN (mP v);have hcl:iC v N<16:=yF (n:=4) (n6 v N) 26;have hlo:=oW (iC v N) v.doors.length (by omega) (by omega);rw[A3 hv hN] at hlo;obtain⟨A,hA⟩:∃ A,oQ hv N (mP v)=A:=⟨_,rfl⟩;obtain⟨C,hC⟩:∃ C,iC v N=C:=⟨_,rfl⟩;rw[hA,hC] at hcd;rw[hC] at hlo;rw[if_pos h0,if_pos h0,hm];simp only[n5] at hcd ⊢;try simp only[↓QA,QB,seval,eN] at hcd
  (repeat (first|simp only[↓QA,QB,seval,eN,show ((0:Int)==0)=true from rfl]|refine rd0 rfl ?_))
  refine uC hcd ?_
  (repeat (first|simp only[↓QA,QB,seval,eN]|refine rd0 rfl ?_))
  ((first|refine aE (hlo) rfl dd ?_|refine aQ (hlo) rfl dd ?_);(repeat (first|simp only[↓QA,QB,seval,eN,jG]|refine rd0 rfl ?_)))
 ·have h0':(cW v n==0)=false:=by simpa using h0
  have hm:lD v n=([],cW v n):=by rw[lD,if_neg h0]
  rw[if_neg h0,if_neg h0,hm]
  (repeat (first|simp only[↓QA,QB,seval,eN,h0',jG]|refine rd0 rfl ?_))
  try rfl
theorem U4(g:Int->Nat)(l:List Int){k:Nat}(h:k<l.length):orL g (l.take (k+1)) 0=orL g (l.take k) 0|||2^g l[k]:=by
 rw[orL,List.take_add_one,List.getElem?_eq_getElem h,List.foldl_append];rfl
theorem rM(v:Voy)(n:Int)(hf:Fits v):aV T 43 [encVoy v,.int .i64 n] (jG (jX v n)):=by
 refine aS (af:=a43) rfl (by simp[a43]) dd ?_
 (repeat (first|simp only[↓QA,QB,seval,eN,a43]|refine rd0 rfl ?_))
 refine dR (lC _ v n hf) ?_;simp only[jA,kM];by_cases h0:cW v n=0
 ·obtain⟨ha,hne⟩:=gE h0;obtain⟨hv,hn0,hn1⟩:=nU ha;have hdr:=hv.ndr;have hkp:=hv.nkp;have hhr:=hv.hours;obtain⟨N,rfl⟩:∃ N:Nat,n=N:=⟨n.toNat,by omega⟩;have hN:N<v.lots.toNat:=by omega
  have hm:jX v N=(jU v (eA v (aI v []) N),0):=by rw[jX,if_pos h0,Int.toNat_natCast]
  have hcd:=xM (tS [.cells (aB v)] v) hv JE N hN (mP v);have hcl:iC v N<16:=yF (n:=4) (n6 v N) 26;have hlo:=oW (iC v N) v.doors.length (by omega) (by omega);rw[A3 hv hN] at hlo;have hds:(eA v (aI v []) N).length<=4:=by
   refine Nat.le_trans (List.length_filter_le _ _) ?_;rw[iK];omega
  have hdi:∀ d∈eA v (aI v []) N,0<=d/\d<v.doors.length:=fun d hd=>(AM.1 hd).1
  obtain⟨ds,hdse⟩:∃ ds,eA v (aI v []) N=ds:=⟨_,rfl⟩;rw[hdse] at hlo hds hdi hm;obtain⟨A,hA⟩:∃ A,oQ hv N (mP v)=A:=⟨_,rfl⟩;obtain⟨C,hC⟩:∃ C,iC v N=C:=⟨_,rfl⟩;rw[hA,hC] at hcd;rw[hC] at hlo;obtain⟨g,hg⟩:∃ g:Int->Nat,(fun d=>(eS v (aT v d)).toNat)=g:=⟨_,rfl⟩;have hgk:∀ d,eS v (aT v d)=((g d:Nat):Int):=fun d=>by
   have:=(rR hv (aT v d)).1;rw[<-hg];simp only;omega
  have hg5:∀ d,g d<5:=fun d=>by have:=(rR hv (aT v d)).2;have:=hgk d;omega
  have hor32:∀ l:List Int,orL g l 0<2^5:=fun l=>VI (by omega) fun d _=>hg5 d
  have hlo2:=oW (orL g ds 0) v.keepers.length (by have:=hor32 ds;omega) (by omega);have hwl:=NG hv ds;rw[hg] at hwl;rw[hwl] at hlo2;have hkm:=fun h hh=>WN [.cells (aB v),.cells (aB v),.cells (aB v),.map (tEs v [] A),.cells (db v 0 3)] 4 v 0 3 rfl hv h hh
  rw[if_pos h0,if_pos h0,hm];simp only[n5] at hcd ⊢;try simp only[↓QA,QB,seval,eN] at hcd hkm
  (repeat (first|simp only[↓QA,QB,seval,eN,show ((0:Int)==0)=true from rfl]|refine rd0 rfl ?_))
  refine uC hcd ?_
  (repeat (first|simp only[↓QA,QB,seval,eN]|refine rd0 rfl ?_))
  ((first|refine aE (hlo) rfl dd ?_|refine aQ (hlo) rfl dd ?_);(repeat (first|simp only[↓QA,QB,seval,eN]|refine rd0 rfl ?_)))
  refine cY (S:=Nat) 0 (fun k=>k<=ds.length) (fun k=>ds.length-k)
   (fun k=>[(2,.ptr 0 0),(8,.func 168 [.ptr 4 0] []),(9,.int .i64 (orL g (ds.take k) 0:Int)),(29,aK ds),(30,.int .i64 ds.length),(31,.int .i64 k)])
   (fun k=>[.cells (aB v),.cells (aB v),.cells (aB v),.map (tEs v [] A),.cells (db v 0 3)]) (Nat.zero_le _) (by simp[aB,aK]) ?_ fun k hk=>?_
  ·try simp only[aD,QE,seval,eN,aK,List.take_zero,orL,List.foldl_nil]
   try simp
  ·(repeat (first|simp only[↓QA,QB,seval,eN,aA8]|refine rd0 rfl ?_))
   refine aG (fun hd=>?_) fun hd=>?_
   ·have hk1:k<ds.length:=by simpa using hd
    have hw:=cB hk1 (by omega);have hdd:=hdi _ (List.getElem_mem hk1);have hst:=U4 g ds hk1;obtain⟨d,hde⟩:∃ d,ds[k]=d:=⟨_,rfl⟩;rw[hde] at hdd hst;have hd0:0<=d:=hdd.1;have hd1:d.toNat<v.doors.length:=by omega
    have hdh:aT v d=v.doors[d.toNat].hour:=by simp[aT,hd1]
    have hrg:=hv.dr _ (List.getElem_mem hd1);have hkd:=hkm v.doors[d.toNat].hour (by omega);have hgd:=hgk d;have hgl:=hg5 d;rw[hdh] at hgd;rw[hgd] at hkd;have h1:=hor32 (ds.take k);have hp2:2^g d<2^5:=Nat.pow_lt_pow_right (by omega) hgl;have hsh:=v5 (g d) (by omega);have hor:=JR (orL g (ds.take k) 0) (2^g d) (by omega) (by omega)
    (repeat (first|simp only[↓QA,QB,seval,eN,hk1,hde,zH,hd0,hd1]|refine rd0 rfl ?_))
    refine dJ hkd ?_
    (repeat (first|simp only[↓QA,QB,seval,eN,hk1,hde,zH,hd0,hd1,hsh,hor]|refine rd0 rfl ?_))
    refine⟨k+1,by omega,by omega,?_⟩;try simp only[aD,QE,seval,eN,hw,hst]
    try simp[aO,okVs,okV]
   ·have hk1:k=ds.length:=by simp at hd;omega
    rw[hk1,List.take_length]
    (repeat (first|simp only[↓QA,QB,seval,eN]|refine rd0 rfl ?_))
    ((first|refine aE (hlo2) rfl dd ?_|refine aQ (hlo2) rfl dd ?_);(repeat (first|simp only[↓QA,QB,seval,eN,jG]|refine rd0 rfl ?_)))
 ·have h0':(cW v n==0)=false:=by simpa using h0
  have hm:jX v n=([],cW v n):=by rw[jX,if_neg h0]
  rw[if_neg h0,if_neg h0,hm]
  (repeat (first|simp only[↓QA,QB,seval,eN,h0',jG]|refine rd0 rfl ?_))
  try rfl
end Go.Am.Room.Do
namespace Go.Am.Room
theorem TB{X:Type}{M:Type}{S:X->M->St}{obj:List AV}{es:M->List (AV×AV)}{p m N:Nat}(hS:∀ x,MemAt (S x) obj es p m N)(hK:∀ x A y B k i,N<=k->i<N->dN (S x A) (S y B) k i)(hpl:p<N)(U UD:X->St)(n:Nat)(hU:∀ x,(U x).length=n)(hUD:∀ x,(UD x).length=n)(ok:∀ x y,y∈U x->∀ k,N<=k->aO k y)(okD:∀ x y,y∈UD x->∀ k,N<=k->aO k y)(env:Env)(ps:List Nat)(a bb:ACode)(st st':LS)(pe pe':Option AJump):
  Fam1 (fun x A=>S x A++(U x++[.cells [.ptr p 0],.loop st pe env ps a bb])) (fun x A=>S x A++(UD x++[.cells [.ptr p 0],.loop st' pe' env ps a bb])) obj es p m (N+n) (N+n+2):=by
 have low:∀ (x:X) (A:M) (y:X) (B:M) (C D:St) (k i:Nat),N<=k->i<N->dN (S x A++C) (S y B++D) k i:=by
  intro x A y B C D k i hk hi;have e1:(S x A++C)[i]? = (S x A)[i]?:=List.getElem?_append_left (by rw[(hS x).len];exact hi);have e2:(S y B++D)[i]? = (S y B)[i]?:=List.getElem?_append_left (by rw[(hS y).len];exact hi);have:=hK x A y B k i hk hi;simp only[dN,e1,e2] at this ⊢;exact this
 have high:∀ (P Q:St) (C D:St) (l1 l2:ABlk) (k i:Nat),P.length=N->Q.length=N->C.length=n->D.length=n->(∀ y∈D,aO k y)->N<=i->i<N+n+2->(l1=l2\/∃ st pe st' pe' env ps a b,l1 = .loop st pe env ps a b/\l2 = .loop st' pe' env ps a b) ->
   dN (P++(C++[.cells [.ptr p 0],l1])) (Q++(D++[.cells [.ptr p 0],l2])) k i:=by
  intro P Q C D l1 l2 k i hP hQ hA hB hk h1 h2 hl;have e1:(P++(C++[.cells [.ptr p 0],l1]))[i]? = (C++[.cells [.ptr p 0],l1])[i-N]?:=by rw[List.getElem?_append_right (by rw[hP];exact h1),hP]
  have e2:(Q++(D++[.cells [.ptr p 0],l2]))[i]? = (D++[.cells [.ptr p 0],l2])[i-N]?:=by rw[List.getElem?_append_right (by rw[hQ];exact h1),hQ]
  simp only[dN,e1,e2];obtain⟨j,hj⟩:∃ j,i-N=j:=⟨_,rfl⟩;rw[hj];by_cases hjn:j<n
  ·right;left;have hb:j<D.length:=by omega
   refine⟨D[j],?_,hk _ (List.getElem_mem hb)⟩;rw[List.getElem?_append_left hb,List.getElem?_eq_getElem hb]
  ·have:j=n\/j=n+1:=by omega
   rcases this with rfl|rfl
   ·left;rw[List.getElem?_append_right (by omega),List.getElem?_append_right (by omega),hA,hB];simp
   ·rw[List.getElem?_append_right (by omega),List.getElem?_append_right (by omega),hA,hB];simp only[Nat.add_sub_cancel_left,List.getElem?_cons_succ,List.getElem?_cons_zero];rcases hl with rfl|⟨_,_,_,_,_,_,_,_,rfl,rfl⟩
    ·exact .inl rfl
    ·exact .inr (.inr ⟨_,_,_,_,_,_,_,_,rfl,rfl⟩)
 refine⟨fun x=>?_,fun x A=>?_,fun x A=>?_,fun x A y B k i hk hi=>?_,fun x A y B k i hk hi=>?_,by omega,by omega⟩
 ·have:=(hS x).app (U x++[.cells [.ptr p 0],.loop st pe env ps a bb]);rw[List.length_append,hU] at this;exact this
 ·simp[(hS x).len,hUD];omega
 ·have e:N+n=(S x A).length+n:=by rw[(hS x).len]
  rw[e,qV];have:n=(U x).length:=by rw[hU]
  rw[this];exact EB _ _
 ·by_cases h:i<N
  ·exact low _ _ _ _ _ _ _ _ (by omega) h
  ·exact high _ _ _ _ _ _ _ _ ((hS x).len A) ((hS y).len B) (hU x) (hU y) (fun z hz=>ok y z hz k (by omega)) (by omega) hi (.inl rfl)
 ·by_cases h:i<N
  ·exact low _ _ _ _ _ _ _ _ (by omega) h
  ·exact high _ _ _ _ _ _ _ _ ((hS x).len A) ((hS y).len B) (hU x) (hUD y) (fun z hz=>okD y z hz k (by omega)) (by omega) hi (.inr ⟨_,_,_,_,_,_,_,_,rfl,rfl⟩)
theorem NO{X M:Type}{S:X->M->St}{obj:List AV}{es:M->List (AV×AV)}{p m N:Nat}(hS:∀ x,MemAt (S x) obj es p m N)(U UD:X->St)(n:Nat)(hU:∀ x,(U x).length=n)(hUD:∀ x,(UD x).length=n)(J:AJump)(e:Env)(k:Nat)(ps:List Nat)(a bb:ACode)(g:FuncId)(ek:Env.get e k = .func g [] [.ptr (N+n) 0])(r:X×Bool)(B':M)(x:X)(B:M)(hrun:Run T (.call g [.yield (N+n+1),.ptr (N+n) 0] (S x B++(U x++[.cells [.ptr p 0],.loop .ready none e ps a bb]))) fun o=>∃ τ',o.σ=Fam1.out (fun x A=>S x A++(U x++[.cells [.ptr p 0],.loop .ready none e ps a bb])) (fun x A=>S x A++(UD x++[.cells [.ptr p 0],.loop .done (some J) e ps a bb])) r B'++τ')(K:KJ)(hT:∀ τ,r.2=true->K none e (S r.1 B'++(U r.1++(.cells [.ptr p 0]::.dead::τ))))(hD:∀ τ,r.2=false->K (some J) e (S r.1 B'++(UD r.1++(.cells [.ptr p 0]::.dead::τ)))):
  rK (K:=⟨K⟩) T (.rangeFunc (.t k) ps a bb) e (S x B++(U x++[.cells [.ptr p 0]])):=by
 have hlen:(S x B++(U x++[ABlk.cells [.ptr p 0]])).length=N+n+1:=by simp[(hS x).len,hU];omega
 have hout:∀ (A W:St) (lp:ABlk) (τ':St),A.length=N->W.length=n->(A++(W++[ABlk.cells [.ptr p 0],lp])++τ')[N+n+1]? = some lp/\(A++(W++[ABlk.cells [.ptr p 0],lp])++τ').set (N+n+1) .dead=A++(W++(.cells [.ptr p 0]::.dead::τ')):=by
  intro A W lp τ' hA hW;have h1:N+n+1=(A++W).length+1:=by simp[hA,hW]
  have h2:A++(W++[ABlk.cells [.ptr p 0],lp])++τ'=(A++W)++(.cells [.ptr p 0]::lp::τ'):=by simp
  rw[h1,h2];constructor
  ·rw[tB];rfl
  ·rw[m4];simp
 refine ES (by rw[VE,ek]) (by
  rw[hlen,List.append_assoc (S x B),List.append_assoc (U x)]
  exact hrun) fun o ho=>?_
 obtain⟨τ',hσ⟩:=ho;rw[hlen,hσ];cases hr2:r.2
 ·have hD':=hD τ' hr2;obtain⟨g1,g2⟩:=hout (S r.1 B') (UD r.1) (.loop .done (some J) e ps a bb) τ' ((hS _).len _) (hUD _);simp only[Fam1.out,hr2,Bool.false_eq_true,if_false];rw[g1,g2];exact⟨_,_,_,_,_,_,rfl,by simp,hD'⟩
 ·have hT':=hT τ' hr2;obtain⟨g1,g2⟩:=hout (S r.1 B') (U r.1) (.loop .ready none e ps a bb) τ' ((hS _).len _) (hU _);simp only[Fam1.out,hr2,if_true];rw[g1,g2];exact⟨_,_,_,_,_,_,rfl,by simp,hT'⟩
theorem JO{X A M:Type}{S:X->M->St}{obj:List AV}{es:M->List (AV×AV)}{p m N:Nat}(hS:∀ x,MemAt (S x) obj es p m N)(U UD:X->St)(n:Nat)(hU:∀ x,(U x).length=n)(hUD:∀ x,(UD x).length=n)(J:AJump)(e:Env)(ps:List Nat)(args:A->Bool->Option Nat->List AV)(hps:∀ t fl tk,ps.length=(args t fl tk).length)(a bb:ACode){P:A->Prop}{f:A->X->X×Bool}(h:∀ t,P t->∀ (fl:Bool) (tk:Option Nat) x B τ,wp T a (iH e ps (args t fl tk)) (S x B++(U x++(.cells [.ptr p 0]::.loop .ready none e ps a bb::τ))) (fun j e' σ'=>j=none/\σ'=S x B++(U x++(.cells [.ptr p 0]::.loop .ready none e ps a bb::τ)) /\
   wp T bb e' (S x B++(U x++(.cells [.ptr p 0]::.loop .busy none e ps a bb::τ))) (fun j e'' σ''=>((f t x).2=true/\j=none/\∃ τ',σ''=S (f t x).1 B++(U (f t x).1++(.cells [.ptr p 0]::.loop .busy none e ps a bb::(τ++τ')))) \/
    ((f t x).2=false/\j=some J/\∃ τ',σ''=S (f t x).1 B++(UD (f t x).1++(.cells [.ptr p 0]::.loop .busy none e ps a bb::(τ++τ'))))))):
  tZ (fun x B=>S x B++(U x++[.cells [.ptr p 0],.loop .ready none e ps a bb])) (fun x B=>S x B++(UD x++[.cells [.ptr p 0],.loop .done (some J) e ps a bb])) (N+n+1) args P f:=by
 intro t ht fl tk x B τ;have hget:∀ (A W:St) (lp:ABlk) (υ:St),A.length=N->W.length=n->(A++(W++(ABlk.cells [.ptr p 0]::lp::υ)))[N+n+1]? = some lp:=by
  intro A W lp υ hA hW;have h1:N+n+1=(A++W).length+1:=by simp[hA,hW]
  rw[h1,<-List.append_assoc,tB];rfl
 have hset:∀ (A W:St) (lp l2:ABlk) (υ:St),A.length=N->W.length=n->(A++(W++(ABlk.cells [.ptr p 0]::lp::υ))).set (N+n+1) l2=A++(W++(ABlk.cells [.ptr p 0]::l2::υ)):=by
  intro A W lp l2 υ hA hW;have h1:N+n+1=(A++W).length+1:=by simp[hA,hW]
  rw[h1,<-List.append_assoc,m4];simp
 obtain⟨r,hr⟩:∃ r,f t x=r:=⟨_,rfl⟩;have h:=h t ht fl tk x B τ;rw[hr] at h ⊢;have hst:(fun x B=>S x B++(U x++[ABlk.cells [.ptr p 0],.loop .ready none e ps a bb])) x B++τ=S x B++(U x++(.cells [.ptr p 0]::.loop .ready none e ps a bb::τ)):=by simp
 rw[hst];refine .round (env:=e) (ps:=ps) (a:=a) (b:=bb)
  (R:=fun o=>o.j=none/\o.σ=S x B++(U x++(.cells [.ptr p 0]::.loop .ready none e ps a bb::τ))/\wp T bb o.env (S x B++(U x++(.cells [.ptr p 0]::.loop .busy none e ps a bb::τ))) (fun j e'' σ''=>(r.2=true/\j=none/\∃ τ',σ''=S r.1 B++(U r.1++(.cells [.ptr p 0]::.loop .busy none e ps a bb::(τ++τ')))) \/
    (r.2=false/\j=some J/\∃ τ',σ''=S r.1 B++(UD r.1++(.cells [.ptr p 0]::.loop .busy none e ps a bb::(τ++τ'))))))
  (S:=fun o=>(r.2=true/\o.j=none/\∃ τ',o.σ=S r.1 B++(U r.1++(.cells [.ptr p 0]::.loop .busy none e ps a bb::(τ++τ'))))\/(r.2=false/\o.j=some J/\∃ τ',o.σ=S r.1 B++(UD r.1++(.cells [.ptr p 0]::.loop .busy none e ps a bb::(τ++τ'))))) (hget _ _ _ _ ((hS _).len _) (hU _)) (by rw[hps t fl tk]) (i3 h fun o ho=>ho) ?_ ?_ ?_
 ·rintro o ⟨hj,hσ,_⟩;exact⟨hj,by rw[hσ];exact hget _ _ _ _ ((hS _).len _) (hU _)⟩
 ·rintro o ⟨_,hσ,hw⟩;rw[hσ,hset _ _ _ _ _ ((hS _).len _) (hU _)];exact i3 hw fun o ho=>ho
 ·rintro o (⟨hr2,hj,τ',hσ⟩|⟨hr2,hj,τ',hσ⟩)
  ·rw[hσ,hj,hget _ _ _ _ ((hS _).len _) (hU _),hset _ _ _ _ _ ((hS _).len _) (hU _)];refine⟨rfl,by rw[hr2];rfl,τ',?_⟩;simp[Fam1.out,hr2]
  ·rw[hσ,hj,hget _ _ _ _ ((hS _).len _) (hUD _),hset _ _ _ _ _ ((hS _).len _) (hUD _)];refine⟨rfl,by rw[hr2];rfl,τ',?_⟩;simp[Fam1.out,hr2]
end Go.Am.Room
namespace Go.Am.Room.Do
def kN:=zz @cN (zz @aP (zz @dB (zz @aY (zz @bA (zz @bK (zz @dO (zz @bN (zz @bL (zz @List.length_append.{0} (zz @eW (zz @kR (zz @Nat.add_lt_add_iff_left (zz @Nat.lt_add_right_iff_pos (zz @Nat.mul_one (zz @Int.toNat_natCast (zz @uZ (@vK)))))))))))))))))
theorem aQH{v:Voy}:mZ v 0=(dG v).2.2:=by
 unfold mZ;split
 ·rename_i h;have:=(gM h).lots;rw[if_pos (eI.2 ⟨by omega,by omega⟩)];exact h.symm
 ·rfl
theorem xO(v:Voy):cW v 0=gG v:=by rw[cW,aQH];rfl
def WR(a b:Int):Int:=Go.Am.bits .and .i64 a b
def orI(a b:Int):Int:=Go.Am.bits .or .i64 a b
theorem T7(a b:Int):cA .and (.int .i64 a) (.int .i64 b)=some (.int .i64 (WR a b)):=by simp[cA,eJ,WR]
theorem aBJ(a b:Int):cA .or (.int .i64 a) (.int .i64 b)=some (.int .i64 (orI a b)):=by simp[cA,eJ,orI]
theorem PM(a b:Nat)(ha:a<9223372036854775808)(hb:b<9223372036854775808):WR a b=((a &&& b:Nat):Int):=by
 have:=QJ a b ha hb;rw[T7] at this;simpa using this
theorem aAH(a b:Nat)(ha:a<4611686018427387904)(hb:b<4611686018427387904):orI a b=((a|||b:Nat):Int):=by
 have:=JR a b ha hb;rw[aBJ] at this;simpa using this
def opF(op:Nat)(x:Int×Int):(Int×Int)×Bool:=((WR x.1 op,orI x.2 op),true)
theorem KL:∀ (l:List Nat) (a b:Nat),a<16->b<16->(∀ t∈l,t<16)->l.foldl (fun x op=>(opF op x).1) (((a:Nat):Int),((b:Nat):Int))=(((l.foldl (fun a op=>a &&& op) a:Nat):Int),((l.foldl (fun a op=>a|||op) b:Nat):Int))/\l.foldl (fun a op=>a &&& op) a<16/\l.foldl (fun a op=>a|||op) b<16
 |[],a,b,ha,hb,_=>⟨rfl,ha,hb⟩
 |op::l,a,b,ha,hb,h=>by
  have ho:=h op (by simp);have h1:a &&& op<16:=Nat.lt_of_le_of_lt Nat.and_le_left ha;have h2:b|||op<16:=Nat.or_lt_two_pow (n:=4) hb ho;have ih:=KL l (a &&& op) (b|||op) h1 h2 fun t ht=>h t (by simp[ht])
  simp only[List.foldl_cons];have e:(opF op (((a:Nat):Int),((b:Nat):Int))).1=(((a &&& op:Nat):Int),((b|||op:Nat):Int)):=by
   simp only[opF,PM a op (by omega) (by omega),aAH b op (by omega) (by omega)]
  rw[e];exact ih
def opU(x:Int×Int):St:=[.cells [.int .i64 x.1],.cells [.int .i64 x.2]]
theorem RW(N:Nat)(x:Int×Int)(y:ABlk)(hy:y∈opU x)(k:Nat)(hk:N<=k):aO k y:=by
 simp only[opU,List.mem_cons,List.not_mem_nil,or_false] at hy;rcases hy with rfl|rfl<;>simp[aO,okVs,okV]
theorem y5(v:Voy)(hf:Fits v):aV T 157 [encVoy v] (DT (lU v)):=by
 refine aS (af:=VK) rfl (by simp[VK]) dd ?_
 (repeat (first|simp only[↓QA,QB,seval,kN,VK]|refine rd0 rfl ?_))
 refine dR (lC _ v 0 hf) ?_;simp only[jA,kM,xO];by_cases h0:gG v=0
 ·obtain⟨ha,hne⟩:=gE h0;have hv:=gM ha;have hdr:=hv.ndr;obtain⟨D,hD⟩:∃ D,v.doors.length=D:=⟨_,rfl⟩;rw[hD] at hdr;obtain⟨U,hU⟩:∃ U,2^D-1=U:=⟨_,rfl⟩;have hp4:2^D<=2^4:=Nat.pow_le_pow_right (by omega) hdr;have hpos:=Nat.two_pow_pos D;have hsh:=v5 D (by omega);have hwU:IntKind.i64.wrap (((2^D:Nat):Int)-1)=(U:Int):=by
   have:((2^D:Nat):Int)-1=(U:Int):=by omega
   rw[this];exact dL ⟨by omega,by omega⟩
  have hl1:=RP hv;have hl2:=YU hv;obtain⟨hfd,hb1,hb2⟩:=KL (TL v []) U 0 (by omega) (by omega) fun t ht=>(UZ hv t ht).1
  rw[hD,hU] at hl1;rw[hD] at hl2;obtain⟨P,hP⟩:∃ P,(TL v []).foldl (fun a op=>a &&& op) U=P:=⟨_,rfl⟩;obtain⟨Q,hQ⟩:∃ Q,(TL v []).foldl (fun a op=>a|||op) 0=Q:=⟨_,rfl⟩;rw[hP] at hl1 hfd hb1;rw[hQ] at hl2 hfd hb2;have hm:lU v=(lst D P,lst D Q,0):=by rw[lU,if_pos h0,hD,hl1,hl2]
  have hlo1:=oW P D (by omega) (by omega);have hlo2:=oW Q D (by omega) (by omega);have hgo:cZ opF (TL v []) ((U:Int),((0:Nat):Int))=(((P:Int),(Q:Int)),true):=by rw[tX (fun _ _=>rfl),hfd]
  rw[if_pos h0,if_pos h0,hm];have hR:=tS [.cells (aB v)] v;have hrng:=oJ hR hv JE opU opU 2 (fun _=>rfl) (fun _=>rfl) (RW _) (RW _) .ret (P:=fun _=>True) (f:=opF);simp only[n5] at hrng ⊢;simp only[aP] at hrng
  (repeat (first|simp only[↓QA,QB,seval,kN,show ((0:Int)==0)=true from rfl,hD,hsh,hwU]|refine rd0 rfl ?_))
  refine uD rfl (by simp[BE]) ?_
  (repeat (first|simp only[↓QA,QB,seval,kN,BE]|refine rd0 rfl ?_))
  refine hrng _ 23 [24,25] _ _ ?_ ?_ (fun _ _=>trivial) ((U:Int),((0:Nat):Int)) (mP v) _ ?_ ?_
  ·try simp only[aD,QE,seval,kN]
  ·refine v9 hR opU opU 2 (fun _=>rfl) (fun _=>rfl) .ret _ _ (pO v []) (fun _ _ _=>rfl) _ _ ?_;intro t _ fl tk x B τ;simp only[iH,pO,n5,opU,aP]
   (repeat (first|simp only[↓QA,QB,seval,kN,UE,T7,aBJ]|refine rd0 rfl ?_))
   exact .inl ⟨rfl,[],by simp[opF]⟩
  ·intro τ h2;rw[hgo];simp only[opU]
   (repeat (first|simp only[↓QA,QB,seval,kN,hD]|refine rd0 rfl ?_))
   ((first|refine aE (hlo1) rfl dd ?_|refine aQ (hlo1) rfl dd ?_);(repeat (first|simp only[↓QA,QB,seval,kN,hD]|refine rd0 rfl ?_)))
   ((first|refine aE (hlo2) rfl dd ?_|refine aQ (hlo2) rfl dd ?_);(repeat (first|simp only[↓QA,QB,seval,kN,hD,DT]|refine rd0 rfl ?_)))
  ·intro τ h2;rw[hgo] at h2;cases h2
 ·have h0':(gG v==0)=false:=by simpa using h0
  have hm:lU v=([],[],gG v):=by rw[lU,if_neg h0]
  rw[if_neg h0,if_neg h0,hm]
  (repeat (first|simp only[↓QA,QB,seval,kN,h0',DT]|refine rd0 rfl ?_))
  try rfl
end Go.Am.Room.Do
namespace Go.Am.Room.Do
def dC:=zz @cN (zz @aP (zz @dB (zz @aY (zz @bA (zz @bK (zz @dO (zz @bN (zz @bL (zz @List.length_append.{0} (zz @eW (zz @kR (zz @Nat.add_lt_add_iff_left (zz @Nat.lt_add_right_iff_pos (zz @Nat.mul_one (zz @Int.toNat_natCast (zz @uZ (@vK)))))))))))))))))
theorem GR:∀ a b:List Int,decide (BG a b<0)=less a b
 |[],[]=>rfl
 |[],b::bs=>rfl
 |a::az,[]=>rfl
 |a::az,b::bs=>by
  have ih:=GR az bs;simp only[BG,less,BP];by_cases h1:a<b
  ·simp[h1,show ¬a=b by omega]
  ·by_cases h2:b<a
   ·simp[h1,h2,show ¬a=b by omega]
   ·have:a=b:=by omega
    subst this;simp[ih]
theorem vM(a b:List Int)(ha:a.length<9223372036854775808)(hb:b.length<9223372036854775808):aV T 163 [aK a,aK b] (.bool (dD a b)):=by
 refine aS (af:=JS) rfl (by simp[JS]) dd ?_;by_cases h1:a.length<b.length
 ·have g1:decide ((a.length:Int)<(b.length:Int))=true:=by simp;omega
  have e:dD a b=true:=by rw[dD,if_neg (by omega)];simp[h1]
  rw[e];try simp only[↓QA,QB,seval,dC,JS,g1]
 ·have g1:decide ((a.length:Int)<(b.length:Int))=false:=by simp;omega
  by_cases h2:a.length=b.length
  ·have g2:((a.length:Int)==(b.length:Int))=true:=by simp;omega
   have e:dD a b=less a b:=by rw[dD,if_pos h2]
   have hn:=GR a b;rw[e];try simp only[↓QA,QB,seval,dC,JS,g1,g2]
   (refine aE (YE a b ha hb) rfl dd ?_;try simp only[↓QA,QB,seval,dC,g1,g2,hn])
  ·have g2:((a.length:Int)==(b.length:Int))=false:=by simp;omega
   have e:dD a b=false:=by rw[dD,if_neg h2];simp[h1]
   rw[e];try simp only[↓QA,QB,seval,dC,JS,g1,g2]
theorem BD{X:Type}{S:X->List Ask->St}{v:Voy}{b p m N:Nat}{bl:List Int}(hS:∀ x,MemAt (S x) (db v b m) (tEs v bl) p m N)(hK:∀ x A y B k i,N<=k->i<N->dN (S x A) (S y B) k i)(hpl:p<N)(hv:Vd v)(hb:ButIs b bl)(U UD:X->St)(n:Nat)(hU:∀ x,(U x).length=n)(hUD:∀ x,(UD x).length=n)(ok:∀ x y,y∈U x->∀ k,N<=k->aO k y)(okD:∀ x y,y∈UD x->∀ k,N<=k->aO k y)(J:AJump){P:Nat->Prop}{f:Nat->X->X×Bool}(e:Env)(k:Nat)(ps:List Nat)(a bb:ACode)(ek:Env.get e k = .func 410 [] [.ptr (N+n) 0])(hy:tZ (fun x B=>S x B++(U x++[.cells [.ptr p 0],.loop .ready none e ps a bb])) (fun x B=>S x B++(UD x++[.cells [.ptr p 0],.loop .done (some J) e ps a bb])) (N+n+1) (pO v bl) P f)(hP:∀ t∈TL v bl,P t)(x:X)(A:List Ask)(K:KJ)(hT:∀ τ,(cZ f (TL v bl) x).2=true->K none e (S (cZ f (TL v bl) x).1 (gR v bl f x A).1.2++(U (cZ f (TL v bl) x).1++(.cells [.ptr p 0]::.dead::τ))))(hD:∀ τ,(cZ f (TL v bl) x).2=false->K (some J) e (S (cZ f (TL v bl) x).1 (gR v bl f x A).1.2++(UD (cZ f (TL v bl) x).1++(.cells [.ptr p 0]::.dead::τ)))):
  rK (K:=⟨K⟩) T (.rangeFunc (.t k) ps a bb) e (S x A++(U x++[.cells [.ptr p 0]])):=by
 have hrun:=wW (TB hS hK hpl U UD n hU hUD ok okD e ps a bb .ready .done none (some J)) hv hb hy (fun a ha hl=>hP a (List.mem_filter.2 ⟨ha,hl⟩)) x A;rw[xI] at hrun;exact NO hS U UD n hU hUD J e k ps a bb 410 ek (cZ f (TL v bl) x) (gR v bl f x A).1.2 x A hrun K hT hD
abbrev Bst:={ l:List Int // l.length<=60 }×Bool
def mB(x:Bst):AV:=match x.2 with
 |true=>.lit [] true none
 |false=>aK x.1.1
theorem TQ(x:Bst)(k:Nat):okV k (mB x):=by
 obtain⟨l,b⟩:=x;cases b
 ·exact DL (k6 l.1) k
 ·simp[mB,okV,okVs]
def w5{v:Voy}(hv:Vd v)(op:Nat)(x:Bst):Bst×Bool :=
 (if (x.2||dD (lst v.doors.length (kG op (eO v v.doors.length))) x.1.1)=true then (⟨lst v.doors.length (kG op (eO v v.doors.length)),Nat.le_trans (uG _ _) (Nat.le_trans hv.ndr (by omega))⟩,false) else x,true)
theorem GL{v:Voy}(hv:Vd v):∀ (l:List Nat) (x:Bst),((l.foldl (fun x op=>(w5 hv op x).1) x).1.1,(l.foldl (fun x op=>(w5 hv op x).1) x).2)=l.foldl (fun x op=>wJ (lst v.doors.length (kG op (eO v v.doors.length))) x) (x.1.1,x.2)
 |[],x=>rfl
 |op::l,x=>by
  simp only[List.foldl_cons];rw[GL hv l]
  congr 1
  simp only[w5,wJ];split<;>rfl
def bU(s:Nat)(x:Bst):St:=[.cells [.int .i64 s],.cells [.bool x.2]]
theorem aBY(N s:Nat)(x:Bst)(y:ABlk)(hy:y∈bU s x)(k:Nat)(hk:N<=k):aO k y:=by
 simp only[bU,List.mem_cons,List.not_mem_nil,or_false] at hy;rcases hy with rfl|rfl<;>simp[aO,okVs,okV]
def bS(v:Voy)(x:Bst)(A:List Ask):St:=n5 [.cells (aB v),.cells [mB x]] v A
theorem aJP(v:Voy)(x:Bst):MemAt (bS v x) (db v 0 4) (tEs v []) 5 4 6:=tS [.cells (aB v),.cells [mB x]] v
theorem ZC(v:Voy)(x:Bst)(A:List Ask)(y:Bst)(B:List Ask)(k i:Nat)(hk:6<=k)(hi:i<6):dN (bS v x A) (bS v y B) k i:=by
 match i,hi with
 |0,_=>exact .inl rfl
 |1,_=>exact .inr (.inl ⟨_,rfl,TQ y k,trivial⟩)
 |2,_=>exact .inl rfl
 |3,_=>exact .inl rfl
 |4,_=>exact .inr (.inl ⟨_,rfl,JY v [] B k⟩)
 |5,_=>exact .inl rfl
theorem OL(x:Bst):bD 1 (mB x)=true:=by
 obtain⟨l,b⟩:=x;cases b<;>simp[mB,aK,bD,AV.cells,AV.cell]
theorem zA(v:Voy)(hf:Fits v):aV T 158 [encVoy v] (jG (nM v)):=by
 refine aS (af:=VQ) rfl (by simp[VQ]) dd ?_
 (repeat (first|simp only[↓QA,QB,seval,dC,VQ]|refine rd0 rfl ?_))
 refine dR (lC _ v 0 hf) ?_;simp only[jA,kM,xO];by_cases h0:gG v=0
 ·obtain⟨ha,hne⟩:=gE h0;have hv:=gM ha;have hdr:=hv.ndr;have hs:=BV hne;have hlaw:=H9 hv hs;obtain⟨W,hW⟩:∃ W,(TL v []).foldl (fun x op=>(w5 hv op x).1) (⟨[],by simp⟩,true)=W:=⟨_,rfl⟩;have hfd:=GL hv (TL v []) (⟨[],by simp⟩,true);rw[hW] at hfd;have hW1:W.1.1=yD v (aI v []):=by rw[<-hlaw,<-hfd]
  have hW2:W.2=false:=by
   have e:TL v []≠[]:=by
    intro e;have:=EG hv [];rw[e] at this;simp[iB,<-this] at hs
   have h2:=congrArg Prod.snd hfd;simp only at h2;rw[h2];cases hT:TL v [] with
   |nil=>exact absurd hT e
   |cons op l =>
    simp only[List.foldl_cons];have e1:wJ (lst v.doors.length (kG op (eO v v.doors.length))) ([],true)=(lst v.doors.length (kG op (eO v v.doors.length)),false):=rfl;have e2:∀ (l:List Nat) (b:List Int),(l.foldl (fun x op=>wJ (lst v.doors.length (kG op (eO v v.doors.length))) x) (b,false)).2=false:=by
     intro l
     induction l with
     |nil=>intro b;rfl
     |cons a l ih =>
      intro b;simp only[List.foldl_cons];have:∃ c,wJ (lst v.doors.length (kG a (eO v v.doors.length))) (b,false)=(c,false):=by
       simp only[wJ];split
       ·exact⟨_,rfl⟩
       ·exact⟨_,rfl⟩
      obtain⟨c,hc⟩:=this;rw[hc,ih]
    rw[e1,e2]
  have hm:nM v=(W.1.1,0):=by rw[nM,if_pos h0,hW1]
  have hgo:cZ (w5 hv) (TL v []) (⟨[],by simp⟩,true)=(W,true):=by rw[tX (fun _ _=>rfl),hW]
  have hWa:mB W=aK W.1.1:=by simp only[mB,hW2]
  obtain⟨SU,hSU⟩:∃ SU,eO v v.doors.length=SU:=⟨_,rfl⟩;have hSl:SU<16:=by rw[<-hSU];exact Nat.lt_of_lt_of_le (rS v _) (show 2^v.doors.length<=2^4 from Nat.pow_le_pow_right (by omega) hdr)
  rw[if_pos h0,if_pos h0,hm];have hR:=aJP v;have hrng:=BD hR (ZC v) (by omega) hv JE (bU SU) (bU SU) 2 (fun _=>rfl) (fun _=>rfl) (aBY _ SU) (aBY _ SU) .ret (P:=fun t=>t<16) (f:=w5 hv);simp only[bS,n5] at hrng ⊢;simp only[aP] at hrng
  (repeat (first|simp only[↓QA,QB,seval,dC,show ((0:Int)==0)=true from rfl]|refine rd0 rfl ?_))
  refine cY (S:=Nat) 0 (fun k=>k<=v.doors.length) (fun k=>v.doors.length-k)
   (fun k=>[(1,.ptr 0 0),(2,.ptr 1 0),(4,.ptr 5 0),(5,.ptr 6 0),(20,.lit (v.doors.map eF) false none),(21,.int .i64 v.doors.length),(22,.int .i64 k)])
   (fun k=>[.cells (aB v),.cells [.lit [] true none],.cells (aB v),.cells (aB v),.map (tEs v [] (mP v)),.cells (db v 0 4),.cells [.int .i64 (eO v k:Int)]]) (Nat.zero_le _) (by simp[aB,aK,eO]) ?_ fun k hk=>?_
  ·try simp only[aD,QE,seval,dC]
   try simp
  ·(repeat (first|simp only[↓QA,QB,seval,dC,PV]|refine rd0 rfl ?_))
   refine aG (fun hd=>?_) fun hd=>?_
   ·have hk1:k<v.doors.length:=by simpa using hd
    have hw:=cB hk1 (by omega);have hse:m8 v (k:Int)=v.doors[k].sure:=CZ hk1;obtain⟨y,hye⟩:∃ y,v.doors[k]=y:=⟨_,rfl⟩;rw[hye] at hse;have hst:eO v (k+1)=eO v k|||(if m8 v (k:Int)=true then 2^k else 0):=rfl;rw[hse] at hst;have hp2:2^k<=2^4:=Nat.pow_le_pow_right (by omega) (by omega);have hul:=rS v k;have hsh:=v5 k (by omega);have hor:=JR (eO v k) (2^k) (by omega) (by omega);cases hys:y.sure
    ·rw[hys] at hst;simp only[Bool.false_eq_true,if_false,Nat.or_zero] at hst
     (repeat (first|simp only[↓QA,QB,seval,dC,hk1,hye,hys,show (false==true)=false from rfl,Bool.and_false]|refine rd0 rfl ?_))
     refine⟨k+1,by omega,by omega,?_⟩;try simp only[aD,QE,seval,dC,hw,hst]
     try simp[aO,okVs,okV]
    ·rw[hys] at hst;simp only[if_true] at hst
     (repeat (first|simp only[↓QA,QB,seval,dC,hk1,hye,hys,show (true==true)=true from rfl,hsh,hor]|refine rd0 rfl ?_))
     refine⟨k+1,by omega,by omega,?_⟩;try simp only[aD,QE,seval,dC,hw,hst]
     try simp[aO,okVs,okV]
   ·have hk1:k=v.doors.length:=by simp at hd;omega
    rw[hk1,hSU]
    (repeat (first|simp only[↓QA,QB,seval,dC]|refine rd0 rfl ?_))
    refine uD rfl (by simp[BE]) ?_
    (repeat (first|simp only[↓QA,QB,seval,dC,BE]|refine rd0 rfl ?_))
    refine hrng _ 38 [39,40] _ _ ?_ ?_ (fun t ht=>(UZ hv t ht).1) (⟨[],by simp⟩,true) (mP v) _ ?_ ?_
    ·try simp only[aD,QE,seval,dC]
    ·refine JO hR (bU SU) (bU SU) 2 (fun _=>rfl) (fun _=>rfl) .ret _ _ (pO v []) (fun _ _ _=>rfl) _ _ ?_;intro t ht fl tk x B τ;have hnot:=VJ t SU (by omega) (by omega);have hal:=LT t SU;have hlo:=oW (kG t SU) v.doors.length (by omega) (by omega);have hll:=uG v.doors.length (kG t SU);have hbs:w5 hv t x=(if (x.2||dD (lst v.doors.length (kG t SU)) x.1.1)=true then (⟨lst v.doors.length (kG t SU),Nat.le_trans (uG _ _) (Nat.le_trans hv.ndr (by omega))⟩,false) else x,true):=by
      rw[<-hSU];rfl
     obtain⟨r,hr⟩:∃ r,w5 hv t x=r:=⟨_,rfl⟩;rw[hr] at hbs ⊢;have hcb:=OL x;obtain⟨⟨l,hl⟩,fst⟩:=x;simp only[iH,pO,bS,n5,bU,aP]
     (repeat (first|simp only[↓QA,QB,seval,dC,QX,hnot]|refine rd0 rfl ?_))
     ((first|refine aE (hlo) rfl dd ?_|refine aQ (hlo) rfl dd ?_);(repeat (first|simp only[↓QA,QB,seval,dC]|refine rd0 rfl ?_)))
     cases fst
     ·have hx:mB (⟨l,hl⟩,false)=aK l:=rfl;rw[hx] at hcb ⊢
      (repeat (first|simp only[↓QA,QB,seval,dC,hcb]|refine rd0 rfl ?_))
      ((first|refine aE (vM (lst v.doors.length (kG t SU)) l (by omega) (by omega)) rfl dd ?_|refine aQ (vM (lst v.doors.length (kG t SU)) l (by omega) (by omega)) rfl dd ?_);(repeat (first|simp only[↓QA,QB,seval,dC]|refine rd0 rfl ?_)))
      cases hfw:dD (lst v.doors.length (kG t SU)) l
      ·simp only[Bool.false_or,hfw,Bool.false_eq_true,if_false] at hbs;subst hbs
       (repeat (first|simp only[↓QA,QB,seval,dC,hcb]|refine rd0 rfl ?_))
       exact .inl ⟨[],by simp[hx,aK]⟩
      ·simp only[Bool.false_or,hfw,if_true] at hbs;subst hbs
       (repeat (first|simp only[↓QA,QB,seval,dC,hcb]|refine rd0 rfl ?_))
       exact .inl ⟨[],by simp[mB,aK]⟩
     ·simp only[Bool.true_or,if_true] at hbs;subst hbs
      (repeat (first|simp only[↓QA,QB,seval,dC,hcb]|refine rd0 rfl ?_))
      exact .inl ⟨[],by simp[mB,aK]⟩
    ·intro τ h2;rw[hgo];simp only[bU,hWa]
     (repeat (first|simp only[↓QA,QB,seval,dC,jG]|refine rd0 rfl ?_))
    ·intro τ h2;rw[hgo] at h2;cases h2
 ·have h0':(gG v==0)=false:=by simpa using h0
  have hm:nM v=([],gG v):=by rw[nM,if_neg h0]
  rw[if_neg h0,if_neg h0,hm]
  (repeat (first|simp only[↓QA,QB,seval,dC,h0',jG]|refine rd0 rfl ?_))
  try rfl
end Go.Am.Room.Do
namespace Go.Am.Room.Do
def cI:=zz @cN (zz @aP (zz @dB (zz @aY (zz @bA (zz @bK (zz @dO (zz @bN (zz @bL (zz @List.length_append.{0} (zz @eW (zz @kR (zz @Nat.add_lt_add_iff_left (zz @Nat.lt_add_right_iff_pos (zz @Nat.mul_one (zz @Int.toNat_natCast (zz @j4 (zz @lA (zz @lB (zz @jI (@pL))))))))))))))))))))
def spH(hs:List Int):Nat->Int×Int
 |0=>(-1,(hs.length:Int))
 |k+1=>(cJ hs k,eU hs (cJ hs k))
theorem PA(hs:List Int)(k:Nat):0<=cJ hs k:=(t7 hs k).1.1
theorem TO(hs:List Int)(k:Nat):spH hs (k+1)=if (spH hs k).1<0\/eU hs (k:Int)<(spH hs k).2 then ((k:Int),eU hs (k:Int)) else spH hs k:=by
 cases k with
 |zero=>rw[if_pos (.inl (show (-1:Int)<0 by decide))];rfl
 |succ j =>
  have h0:=PA hs j;by_cases h3:eU hs ((j:Int)+1)<eU hs (cJ hs j)
  ·have e:cJ hs (j+1)=(j:Int)+1:=by simp only[cJ];rw[if_pos h3]
   rw[if_pos (.inr (show eU hs ((j+1:Nat):Int)<eU hs (cJ hs j) from h3))];show (cJ hs (j+1),eU hs (cJ hs (j+1)))=_
   rw[e];rfl
  ·have e:cJ hs (j+1)=cJ hs j:=by simp only[cJ];rw[if_neg h3]
   rw[if_neg (show ¬((spH hs (j+1)).1<0\/eU hs ((j+1:Nat):Int)<(spH hs (j+1)).2) from fun h=>h.elim (fun h=>absurd (show cJ hs j<0 from h) (by omega)) h3)];show (cJ hs (j+1),eU hs (cJ hs (j+1)))=_
   rw[e];rfl
theorem sG(v:Voy)(n:Int)(hf:Fits v):aV T 159 [encVoy v,.int .i64 n] (nH (nY v n)):=by
 refine aS (af:=T3) rfl (by simp[T3]) dd ?_
 (repeat (first|simp only[↓QA,QB,reduceLT,reduceIte,reduceEqDiff,reduceAdd,reduceLeDiff,reduceMul,Nat.reduceBEq,cI,T3]|refine rd0 rfl ?_))
 refine dR (lC _ v n hf) ?_;simp only[jA,kM];by_cases h0:cW v n=0
 ·obtain⟨ha,hne⟩:=gE h0;obtain⟨hv,hn0,hn1⟩:=nU ha;have hhr:=hv.hours;obtain⟨N,rfl⟩:∃ N:Nat,n=N:=⟨n.toNat,by omega⟩;have hN:N<v.lots.toNat:=by omega
  have hm:nY v N=sD v (sV v (aI v []) N):=by rw[nY,if_pos h0,Int.toNat_natCast]
  have hal:=zJ (tS [.cells (aB v)] v) hv JE N hN (mP v);have hlen:=EL hv hN;have hlv:=fun a ha=>JT hv hN (a:=a) ha
  have hcl:=EX (iA v N) 26;obtain⟨F,hF⟩:∃ F,iA v N=F:=⟨_,rfl⟩;obtain⟨A,hA⟩:∃ A,oQ hv N (mP v)=A:=⟨_,rfl⟩;obtain⟨hs,hhs⟩:∃ hs,sV v (aI v []) N=hs:=⟨_,rfl⟩;rw[hA,hF] at hal;rw[hF,hhs] at hlen hlv;rw[hF] at hcl;rw[hhs] at hm;obtain⟨C,hC⟩:∃ C,oT F 26=C:=⟨_,rfl⟩;rw[hC] at hlen hlv hcl;rw[if_pos h0,if_pos h0,hm];simp only[n5] at hal ⊢;try simp only[↓QA,QB,reduceLT,reduceIte,reduceEqDiff,reduceAdd,reduceLeDiff,reduceMul,Nat.reduceBEq,cI] at hal
  (repeat (first|simp only[↓QA,QB,reduceLT,reduceIte,reduceEqDiff,reduceAdd,reduceLeDiff,reduceMul,Nat.reduceBEq,cI,show ((0:Int)==0)=true from rfl]|refine rd0 rfl ?_))
  refine dR hal ?_
  (repeat (first|simp only[↓QA,QB,reduceLT,reduceIte,reduceEqDiff,reduceAdd,reduceLeDiff,reduceMul,Nat.reduceBEq,cI]|refine rd0 rfl ?_))
  refine qO 8 1 [] rfl ?_;refine cY (S:=Nat×Bool) (0,false) (fun a=>a.1<=26) (fun a=>26-a.1)
   (fun a=>[(2,.ptr 0 0),(8,.lit ((oT F a.1).map (.int .i64)) false (some 5)),(27,.agg (dK F)),(28,.int .i64 a.1)])
   (fun a=>[.cells (aB v),.cells (aB v),.cells (aB v),.map (tEs v [] A),.cells (db v 0 3),.tok 1 (oT F a.1).length a.2]) (Nat.zero_le _) (by simp[aB,aK,oT,aR]) ?_ fun a hk=>?_
  ·try simp only[aD,QE,reduceLT,reduceIte,reduceEqDiff,reduceAdd,reduceLeDiff,reduceMul,Nat.reduceBEq,cI,oT,aR,List.filter_nil,List.map_nil]
   try simp
  ·obtain⟨k,ex⟩:=a;simp only at hk
   (repeat (first|simp only[↓QA,QB,reduceLT,reduceIte,reduceEqDiff,reduceAdd,reduceLeDiff,reduceMul,Nat.reduceBEq,cI,PP]|refine rd0 rfl ?_))
   refine aG (fun hd=>?_) fun hd=>?_
   ·have hk1:k<26:=by simp at hd;omega
    have hw:=cB hk1 (by omega);have i1:(0:Int)<=(k:Int)/\(k:Int)<((26:Nat):Int):=⟨by omega,by omega⟩;have hg:=j6 F hk1;have hst:=OB F k;have hln:=EX F k;have ap:=fun (b0 b1 b2 b3 b4:ABlk) (τ:St)=>sE (σ:=b0::b1::b2::b3::b4::.tok 1 (oT F k).length ex::τ) (t:=5) (ex:=ex) (sz:=1) (b:=8) (xs:=(oT F k).map (.int .i64)) (ys:=[.int .i64 k]) (f:=true) (tk:=none) ⟨pD _,by simp[aF,AV.cells,AV.cell],by simp[room];omega,by simp[room];omega⟩ (by simp) (oT F k).length (by simp) rfl
    cases h1:(((F k:Nat):Int)==0)
    ·have h1':F k≠0:=by simp at h1;omega
     rw[if_pos h1'] at hst
     (repeat (first|simp only[↓QA,QB,reduceLT,reduceIte,reduceEqDiff,reduceAdd,reduceLeDiff,reduceMul,Nat.reduceBEq,cI,i1,hg,h1,LF,ap]|refine rd0 rfl ?_))
     refine⟨(k+1,true),by simp only;omega,by simp only;omega,?_⟩;try simp only[aD,QE,reduceLT,reduceIte,reduceEqDiff,reduceAdd,reduceLeDiff,reduceMul,Nat.reduceBEq,cI,hw,hst,List.map_append,List.map_cons,List.map_nil,List.length_append]
     try simp[aO,okVs,okV]
    ·have h1':¬F k≠0:=by simp at h1;omega
     rw[if_neg h1',List.append_nil] at hst
     (repeat (first|simp only[↓QA,QB,reduceLT,reduceIte,reduceEqDiff,reduceAdd,reduceLeDiff,reduceMul,Nat.reduceBEq,cI,i1,hg,h1,LF]|refine rd0 rfl ?_))
     refine⟨(k+1,ex),by simp only;omega,by simp only;omega,?_⟩;try simp only[aD,QE,reduceLT,reduceIte,reduceEqDiff,reduceAdd,reduceLeDiff,reduceMul,Nat.reduceBEq,cI,hw,hst]
     try simp[aO,okVs,okV]
   ·have hk1:k=26:=by simp at hd;omega
    subst hk1;rw[hC];cases h1:((C.length:Int)==1)
    ·have h1':¬hs.length=1:=by rw[<-hlen];intro e;rw[e] at h1;simp at h1
     have hsp:sD v hs=(cJ hs v.hours.toNat,eU hs (cJ hs v.hours.toNat),0):=by rw[sD,if_neg h1']
     obtain⟨H,hH⟩:∃ H:Nat,v.hours=(H:Int):=⟨v.hours.toNat,by omega⟩;have hHn:v.hours.toNat=H:=by omega
     have hwH:IntKind.i64.wrap ((H:Int)+1)=((H+1:Nat):Int):=cB (show H<H+1 by omega) (by omega);have hC0:((C.length:Nat):Int)=(spH hs 0).2:=by simp only[spH];omega
     rw[hsp,hHn]
     (repeat (first|simp only[↓QA,QB,reduceLT,reduceIte,reduceEqDiff,reduceAdd,reduceLeDiff,reduceMul,Nat.reduceBEq,cI,h1,hH,hwH]|refine rd0 rfl ?_))
     refine cY (S:=Nat) 0 (fun k=>k<=H+1) (fun k=>H+1-k)
      (fun k=>[(4,.int .i64 (spH hs k).1),(5,.int .i64 (spH hs k).2),(8,.lit (C.map (.int .i64)) false (some 5)),(46,.int .i64 ((H+1:Nat):Int)),(47,.int .i64 k)])
      (fun _=>[.cells (aB v),.cells (aB v),.cells (aB v),.map (tEs v [] A),.cells (db v 0 3),.tok 1 C.length ex]) (Nat.zero_le _) (by simp[aB,aK,hH]) ?_ fun k hk=>?_
     ·try simp only[aD,QE,reduceLT,reduceIte,reduceEqDiff,reduceAdd,reduceLeDiff,reduceMul,Nat.reduceBEq,cI,<-hC0]
      try simp[spH]
     ·obtain⟨s,hse⟩:∃ s,spH hs k=s:=⟨_,rfl⟩;rw[hse]
      (repeat (first|simp only[↓QA,QB,reduceLT,reduceIte,reduceEqDiff,reduceAdd,reduceLeDiff,reduceMul,Nat.reduceBEq,cI,SE]|refine rd0 rfl ?_))
      refine aG (fun hd2=>?_) fun hd2=>?_
      ·have hk2:k<H+1:=by simp at hd2;omega
       have hw:=cB hk2 (by omega);have hlvk:=hlv (k:Int) (by omega);obtain⟨q,hq⟩:∃ q:Int->Bool,(fun h=>decide (h<=(k:Int)))=q:=⟨_,rfl⟩;have hqd:∀ x,q x=decide (x<=(k:Int)):=fun x=>by rw[<-hq]
       rw[hq] at hlvk
       (repeat (first|simp only[↓QA,QB,reduceLT,reduceIte,reduceEqDiff,reduceAdd,reduceLeDiff,reduceMul,Nat.reduceBEq,cI]|refine rd0 rfl ?_))
       refine cY (S:=Nat) 0 (fun i=>i<=C.length) (fun i=>C.length-i)
        (fun i=>[(4,.int .i64 s.1),(5,.int .i64 s.2),(8,.lit (C.map (.int .i64)) false (some 5)),(11,.int .i64 k),(12,.int .i64 (((C.take i).filter q).length:Int)),(46,.int .i64 ((H+1:Nat):Int)),(47,.int .i64 k),(50,.lit (C.map (.int .i64)) false (some 5)),(51,.int .i64 C.length),(52,.int .i64 i)])
        (fun _=>[.cells (aB v),.cells (aB v),.cells (aB v),.map (tEs v [] A),.cells (db v 0 3),.tok 1 C.length ex]) (Nat.zero_le _) (by simp[aB,aK]) ?_ fun i hi=>?_
       ·try simp only[aD,QE,reduceLT,reduceIte,reduceEqDiff,reduceAdd,reduceLeDiff,reduceMul,Nat.reduceBEq,cI,List.take_zero,List.filter_nil]
        try simp
       ·have hfl:((C.take i).filter q).length<=C.length:=Nat.le_trans (List.length_filter_le _ _) (by simp;omega)
        (repeat (first|simp only[↓QA,QB,reduceLT,reduceIte,reduceEqDiff,reduceAdd,reduceLeDiff,reduceMul,Nat.reduceBEq,cI,RI]|refine rd0 rfl ?_))
        refine aG (fun hd3=>?_) fun hd3=>?_
        ·have hi1:i<C.length:=by simpa using hd3
         have hwi:=cB hi1 (by omega);have hst:((C.take (i+1)).filter q).length=((C.take i).filter q).length+(if q C[i]=true then 1 else 0):=by
          rw[List.take_add_one,List.getElem?_eq_getElem hi1];simp only[Option.toList_some,List.filter_append,List.length_append,List.filter_cons,List.filter_nil];split<;>rfl
         obtain⟨x,hx⟩:∃ x,C[i]=x:=⟨_,rfl⟩;obtain⟨c,hce⟩:∃ c,((C.take i).filter q).length=c:=⟨_,rfl⟩;rw[hx,hce,hqd] at hst;rw[hce] at hfl;have hwc:IntKind.i64.wrap ((c:Int)+1)=((c+1:Nat):Int):=cB (show c<c+1 by omega) (by omega);rw[hce];cases h2:decide (x<=(k:Int))
         ·rw[h2] at hst;simp only[Bool.false_eq_true,if_false,Nat.add_zero] at hst
          (repeat (first|simp only[↓QA,QB,reduceLT,reduceIte,reduceEqDiff,reduceAdd,reduceLeDiff,reduceMul,Nat.reduceBEq,cI,hi1,hx,h2]|refine rd0 rfl ?_))
          refine⟨i+1,by omega,by omega,?_⟩;try simp only[aD,QE,reduceLT,reduceIte,reduceEqDiff,reduceAdd,reduceLeDiff,reduceMul,Nat.reduceBEq,cI,hwi,hst]
          try simp[aO,okVs,okV]
         ·rw[h2] at hst;simp only[if_true] at hst
          (repeat (first|simp only[↓QA,QB,reduceLT,reduceIte,reduceEqDiff,reduceAdd,reduceLeDiff,reduceMul,Nat.reduceBEq,cI,hi1,hx,h2,hwc]|refine rd0 rfl ?_))
          refine⟨i+1,by omega,by omega,?_⟩;try simp only[aD,QE,reduceLT,reduceIte,reduceEqDiff,reduceAdd,reduceLeDiff,reduceMul,Nat.reduceBEq,cI,hwi,hst]
          try simp[aO,okVs,okV]
        ·have hi1:i=C.length:=by simp at hd3;omega
         rw[hi1,List.take_length];rw[hi1,List.take_length] at hfl;obtain⟨c,hce⟩:∃ c,(C.filter q).length=c:=⟨_,rfl⟩;rw[hce] at hlvk hfl ⊢;have hwm:IntKind.i64.wrap ((C.length:Int)-(c:Int))=(C.length:Int)-(c:Int):=dL ⟨by omega,by omega⟩;have hnx:spH hs (k+1)=if s.1<0\/eU hs k<s.2 then ((k:Int),eU hs k) else s:=by
          rw[TO,hse]
         obtain⟨lv,hle⟩:∃ lv,eU hs (k:Int)=lv:=⟨_,rfl⟩;rw[hle] at hnx hlvk;cases h2:decide (s.1<0)
         ·have h2':¬s.1<0:=by simpa using h2
          cases h3:decide (lv<s.2)
          ·have h3':¬lv<s.2:=by simpa using h3
           rw[if_neg (by rintro (h|h)<;>omega)] at hnx
           (repeat (first|simp only[↓QA,QB,reduceLT,reduceIte,reduceEqDiff,reduceAdd,reduceLeDiff,reduceMul,Nat.reduceBEq,cI,hwm,h2,vX,<-hlvk,h3]|refine rd0 rfl ?_))
           refine⟨k+1,by omega,by omega,?_⟩;try simp only[aD,QE,reduceLT,reduceIte,reduceEqDiff,reduceAdd,reduceLeDiff,reduceMul,Nat.reduceBEq,cI,hw,hnx]
           try simp[aO,okVs,okV]
          ·have h3':lv<s.2:=by simpa using h3
           rw[if_pos (.inr h3')] at hnx
           (repeat (first|simp only[↓QA,QB,reduceLT,reduceIte,reduceEqDiff,reduceAdd,reduceLeDiff,reduceMul,Nat.reduceBEq,cI,hwm,h2,vX,<-hlvk,h3]|refine rd0 rfl ?_))
           refine⟨k+1,by omega,by omega,?_⟩;try simp only[aD,QE,reduceLT,reduceIte,reduceEqDiff,reduceAdd,reduceLeDiff,reduceMul,Nat.reduceBEq,cI,hw,hnx]
           try simp[aO,okVs,okV]
         ·have h2':s.1<0:=by simpa using h2
          rw[if_pos (.inl h2')] at hnx
          (repeat (first|simp only[↓QA,QB,reduceLT,reduceIte,reduceEqDiff,reduceAdd,reduceLeDiff,reduceMul,Nat.reduceBEq,cI,hwm,h2,vX,<-hlvk]|refine rd0 rfl ?_))
          refine⟨k+1,by omega,by omega,?_⟩;try simp only[aD,QE,reduceLT,reduceIte,reduceEqDiff,reduceAdd,reduceLeDiff,reduceMul,Nat.reduceBEq,cI,hw,hnx]
          try simp[aO,okVs,okV]
      ·have hk2:k=H+1:=by simp at hd2;omega
       subst hk2;subst hse
       (repeat (first|simp only[↓QA,QB,reduceLT,reduceIte,reduceEqDiff,reduceAdd,reduceLeDiff,reduceMul,Nat.reduceBEq,cI,spH,nH]|refine rd0 rfl ?_))
    ·have h1':hs.length=1:=by simp at h1;omega
     have hsp:sD v hs=(0,0,9):=by rw[sD,if_pos h1']
     rw[hsp]
     (repeat (first|simp only[↓QA,QB,reduceLT,reduceIte,reduceEqDiff,reduceAdd,reduceLeDiff,reduceMul,Nat.reduceBEq,cI,h1,nH]|refine rd0 rfl ?_))
 ·have h0':(cW v n==0)=false:=by simpa using h0
  have hm:nY v n=(0,0,cW v n):=by rw[nY,if_neg h0]
  rw[if_neg h0,if_neg h0,hm]
  (repeat (first|simp only[↓QA,QB,reduceLT,reduceIte,reduceEqDiff,reduceAdd,reduceLeDiff,reduceMul,Nat.reduceBEq,cI,h0',nH]|refine rd0 rfl ?_))
end Go.Am.Room.Do
namespace Go.Am.Room
variable {α:Type}
def sQ(c:α->List AV):List α->List AV
 |[]=>[]
 |y::l=>c y++sQ c l
structure Cells (enc:α->AV) (c:α->List AV) (sz:Nat):Prop where
 agg:∀ x,enc x = .agg (c x)
 len:∀ x,(c x).length=sz
 one:sz≠1/\sz≠0
 cell:∀ x,(c x).all (·.cell)=true
 data:∀ x,gV (enc x)
variable {enc:α->AV} {c:α->List AV} {sz:Nat}
theorem CU(h:Cells enc c sz):∀ l,(sQ c l).length=l.length*sz
 |[]=>by simp[sQ]
 |y::l=>by simp only[sQ,List.length_append,h.len,List.length_cons,CU h l,Nat.add_mul];omega
theorem CR(h:Cells enc c sz):∀ l:List α,(l.map enc).flatMap AV.cells=sQ c l
 |[]=>rfl
 |y::l=>by rw[List.map_cons,List.flatMap_cons,CR h l,h.agg];rfl
theorem N5(h:Cells enc c sz)(l:List α):aF sz (l.map enc)=true:=n9 sz enc l fun y=>by
 rw[h.agg];simp only[bD,AV.cells,h.len,beq_self_eq_true,Bool.true_and];exact h.cell y
theorem zF(h:Cells enc c sz)(m:Nat)(hc:∀ x,okVs m (c x)):∀ l,okVs m (sQ c l)
 |[]=>trivial
 |y::l=>AU (hc y) (zF h m hc l)
end Go.Am.Room
namespace Go.Am.Room.Do
def cQ:=zz @cN (zz @aP (zz @dB (zz @aY (zz @bA (zz @bK (zz @dO (zz @bN (zz @bL (zz @List.length_append.{0} (zz @eW (zz @kR (zz @Nat.add_lt_add_iff_left (zz @Nat.lt_add_right_iff_pos (zz @Nat.mul_one (@Int.toNat_natCast)))))))))))))))
def yQ(x:Look):List AV:=[.int .i64 x.lot,.int .i64 x.hour,.bool x.turned]
theorem uS:Cells bY yQ 3:=⟨fun x=>by simp only[bY,yQ],fun x=>rfl,by decide,fun x=>rfl,nK⟩
theorem NB(m:Nat)(x:Look):okVs m (yQ x):=⟨trivial,trivial,trivial,trivial⟩
def E2:List AV:=[.int .i64 0,.int .i64 0,.bool false]
theorem I7(b0:ABlk)(l:List Look):pH 3 [b0,.cells (List.replicate l.length E2).flatten] (.ref 1 0 l.length 3) (.lit (l.map bY) false none)=some (.int .i64 l.length,[b0,.cells (sQ yQ l)]):=by
 have h1:aF 3 (l.map bY)=true:=N5 uS l;have h2:(l.map bY).take l.length=l.map bY:=List.take_of_length_le (by simp);have h3:=CU uS l;have h4:((List.replicate l.length E2).flatten).length=l.length*3:=by simp[E2]
 have h5:dF (List.replicate l.length E2).flatten 0 (sQ yQ l)=some (sQ yQ l):=by
  simp only[dF];rw[if_pos (by omega),List.drop_of_length_le (by omega)];simp
 have h6:=CR uS l;simp[pH,kT,pW,h1,aL,h2,h5,h6]
def AQ(σ:St)(v:Voy)(b:Nat)(bl:List Int)(A:List Ask):St:=σ++[.cells (aB v),.map (tEs v bl A),.cells (db v b (σ.length+1))]
theorem ZI(σ:St)(v:Voy)(b:Nat)(bl:List Int):MemAt (AQ σ v b bl) (db v b (σ.length+1)) (tEs v bl) (σ.length+2) (σ.length+1) (σ.length+3) :=
 ⟨fun M=>by simp[AQ],fun M=>by simp[AQ,qV,QO,RB],fun M=>by rw[AQ,tB];rfl,fun M M'=>by rw[AQ,AQ,m4];rfl,fun A k=>JY v bl A k,by omega,by omega⟩
theorem BX(v:Voy)(hf:Fits v):aV T 41 [encVoy v] (jG (yH v)):=by
 refine aS (af:=a41) rfl (by simp[a41]) dd ?_;try simp only[↓QA,QB,seval,cQ,a41]
 (refine aE (HN v hf) rfl dd ?_;try simp only[↓QA,QB,seval,cQ,nH])
 cases h0:((dG v).2.2==0)
 ·have h0':(dG v).2.2≠0:=by simpa using h0
  have hwo:yH v=([],(dG v).2.2):=if_neg h0';rw[hwo];try simp only[↓QA,QB,seval,cQ,h0,jG]
  try rfl
 ·have h0':(dG v).2.2=0:=by simpa using h0
  have hwo:yH v=(AN v,0):=if_pos h0';have hv:=gM h0';have hnl:=hv.nlk;have hwf:=G8 hv;rw[<-aDL _ _ (by omega)] at hwf;rw[hwo];obtain⟨W,hW⟩:∃ W,AN v=W:=⟨_,rfl⟩;rw[hW] at hwf ⊢;have hcp:=fun b0=>I7 b0 v.looks
  obtain⟨LC,hLC⟩:∃ LC,sQ yQ v.looks=LC:=⟨_,rfl⟩;have hLCo:∀ k,okVs k LC:=fun k=>by rw[<-hLC];exact zF uS k (NB k) v.looks
  rw[hLC] at hcp;obtain⟨n,hn⟩:∃ n,v.looks.length=n:=⟨_,rfl⟩;rw[hn] at hcp hwf hnl;have hmk:uA 24 (.int .i64 n) (.int .i64 n)=some n:=by simp[uA,room];omega
  have hp:2^n<=2^5:=Nat.pow_le_pow_right (by omega) hnl;have hshl:=v5 n (by omega);obtain⟨P,hP⟩:∃ P,2^n=P:=⟨_,rfl⟩;have hbl:∀ s,s<P->ButIs s (lst n s):=fun s hs=>Z4 hnl (by omega)
  rw[hP] at hp hshl hwf;simp only[E2] at hcp;obtain⟨q,hq⟩:∃ q,iB v=q:=⟨_,rfl⟩;have hqd:∀ l,(!(aI v l).isEmpty)=q l:=fun l=>by rw[<-hq];rfl
  rw[hq] at hwf;try simp only[↓QA,QB,seval,cQ,h0,hn,hmk,hcp,hshl]
  refine cY (S:=Nat×Option (List Int)) (0,none) (fun x=>x.1<=P/\kQ q n (P-x.1) x.1 x.2=some W/\(x.2.getD []).length<=n/\∀ b,x.2=some b->q b=true) (fun x=>P-x.1)
   (fun x=>[(1,.ptr 0 0),(2,aK (x.2.getD [])),(4,.ref 1 0 n 3),(5,.bool x.2.isSome),(27,.int .i64 P),(28,.int .i64 x.1)])
   (fun x=>[.cells (aB v),.cells LC]) ⟨by simp,by simpa using hwf,by simp,fun b hb=>by cases hb⟩ (by simp[aB,aK]) ?_ fun x hx=>?_
  ·try simp only[aD,QE,seval,cQ,aK,v6 (show 1<2 by omega)]
   try simp[clr,clrs]
  ·obtain⟨s,o⟩:=x;obtain⟨hs,hfo,hol,hob⟩:=hx;simp only at hs hfo hol hob;try simp only[↓QA,QB,seval,cQ,aB6]
   refine aG (fun h=>?_) fun h=>?_
   ·have hs1:s<P:=by simpa using h
    have hw:=cB hs1 (by omega);have hll:=uG n s;have hso:=B9 (ZI [.cells (aB v),.cells LC] v s (lst n s)) hv (hbl s hs1) [];have hlk:=EY [.cells (aB v),.cells LC] v s;have hlo:=oW s n (by omega) (by omega);rw[hqd] at hso;rw[show P-s=(P-(s+1))+1 by omega] at hfo;simp only[kQ] at hfo;rw[<-TP q o _ hob] at hfo;obtain⟨L,hL⟩:∃ L,lst n s=L:=⟨_,rfl⟩;rw[hL] at hfo hll hso hlo;have e0:tEs v L []=[]:=rfl;simp only[AQ,zY,e0] at hso hlk;try simp only[↓QA,QB,seval,cQ] at hso hlk
    try simp only[↓QA,QB,seval,cQ,Option.getD_some]
    (refine aE (hlo) rfl dd ?_;try simp only[↓QA,QB,seval,cQ])
    cases o with
    |none =>
     have hst:K8 q none L=if q L=true then some L else none:=rfl
     try simp only[↓QA,QB,seval,cQ,Option.isSome_none,Option.getD_none]
     refine dR hlk ?_;try simp only[↓QA,QB,seval,cQ]
     refine dR hso ?_;cases hqL:q L
     ·rw[hqL] at hst;simp only[Bool.false_eq_true,if_false] at hst;rw[hst] at hfo;try simp only[↓QA,QB,seval,cQ,hw]
      refine⟨(s+1,none),⟨by simp only;omega,hfo,by simp,fun b hb=>by cases hb⟩,by simp only;omega,?_⟩;try simp only[aD,QE,seval,cQ,hw,v6 (show 1<2 by omega)]
      try simp[aK,aO,hLCo]
     ·rw[hqL] at hst;simp only[if_true] at hst;rw[hst] at hfo;try simp only[↓QA,QB,seval,cQ,hw]
      refine⟨(s+1,some L),⟨by simp only;omega,hfo,by simpa using hll,fun b hb=>by cases hb;exact hqL⟩,by simp only;omega,?_⟩;try simp only[aD,QE,seval,cQ,hw,v6 (show 1<2 by omega)]
      try simp[aK,aO,hLCo]
    |some b =>
     simp only[Option.getD_some] at hol;have hst:K8 q (some b) L=if (dD L b&&q L)=true then some L else some b:=rfl
     simp only[Option.isSome_some,Option.getD_some];try simp only[↓QA,QB,seval,cQ,Option.isSome_some,Option.getD_some]
     (refine aE (vM L b (by omega) (by omega)) rfl dd ?_;try simp only[↓QA,QB,seval,cQ,Option.isSome_some,Option.getD_some])
     cases hfw:dD L b
     ·rw[hfw] at hst;simp only[Bool.false_and,Bool.false_eq_true,if_false] at hst;rw[hst] at hfo;try simp only[↓QA,QB,seval,cQ,hw,Option.isSome_some,Option.getD_some]
      refine⟨(s+1,some b),⟨by simp only;omega,hfo,by simpa using hol,hob⟩,by simp only;omega,?_⟩;try simp only[aD,QE,seval,cQ,hw,v6 (show 1<2 by omega)]
      try simp[aK,aO,hLCo]
     ·rw[hfw,Bool.true_and] at hst;try simp only[↓QA,QB,seval,cQ,Option.isSome_some,Option.getD_some]
      refine dR hlk ?_;try simp only[↓QA,QB,seval,cQ,Option.isSome_some,Option.getD_some]
      refine dR hso ?_;cases hqL:q L
      ·rw[hqL] at hst;simp only[Bool.false_eq_true,if_false] at hst;rw[hst] at hfo;try simp only[↓QA,QB,seval,cQ,hw,Option.isSome_some,Option.getD_some]
       refine⟨(s+1,some b),⟨by simp only;omega,hfo,by simpa using hol,hob⟩,by simp only;omega,?_⟩;try simp only[aD,QE,seval,cQ,hw,v6 (show 1<2 by omega)]
       try simp[aK,aO,hLCo]
      ·rw[hqL] at hst;simp only[if_true] at hst;rw[hst] at hfo;try simp only[↓QA,QB,seval,cQ,hw,Option.isSome_some,Option.getD_some]
       refine⟨(s+1,some L),⟨by simp only;omega,hfo,by simpa using hll,fun b hb=>by cases hb;exact hqL⟩,by simp only;omega,?_⟩;try simp only[aD,QE,seval,cQ,hw,v6 (show 1<2 by omega)]
       try simp[aK,aO,hLCo]
   ·have hs1:s=P:=by simp at h;omega
    rw[hs1,Nat.sub_self] at hfo;simp only[kQ] at hfo;subst hfo;try simp only[↓QA,QB,seval,cQ,Option.getD_some,jG]
end Go.Am.Room.Do
set_option maxRecDepth 8000
namespace Go.Am.Room.Do
def yB:=zz @cN (zz @aP (zz @dB (zz @aY (zz @bA (zz @bK (zz @dO (zz @bN (zz @bL (zz @eW (@List.length_append.{0}))))))))))
theorem j3(h:Int):aV T 154 [.int .i64 h] (bY ⟨0,h,false⟩):=by
 refine aS (af:=T4) rfl (by simp[T4]) dd ?_;try simp only[↓QA,QB,seval,yB,T4]
theorem jP(h:Int):aV T 155 [.int .i64 h] (bY ⟨0,h,true⟩):=by
 refine aS (af:=TW) rfl (by simp[TW]) dd ?_;try simp only[↓QA,QB,seval,yB,TW]
theorem rC(l:List Look):aV T 153 [.lit (l.map bY) false none] (encVoy (exV l)):=by
 refine aS (af:=PQ) rfl (by simp[PQ]) dd ?_;try simp only[↓QA,QB,seval,yB,PQ]
 (refine aE (uP 2 4) rfl dd ?_;try simp only[↓QA,QB,seval,yB,exV,TC,SA,LL,List.map_cons,List.map_nil])
theorem dQ(l:List Look)(h:l.length<=100:=by decide):Fits (exV l):=⟨by simp[exV],by simp[exV],by simp[exV];omega,fun k hk=>by
 simp only[exV,List.mem_cons,List.not_mem_nil,or_false] at hk
 rcases hk with rfl|rfl|rfl<;>decide⟩
def C9(v:Voy):Bool:=decide ((dG v).2.2=0)&&iB v []
end Go.Am.Room.Do
namespace Go.Am.Room.Do
def b7:=zz @cN (zz @aP (zz @dB (zz @aY (zz @bA (zz @bK (zz @dO (zz @bN (zz @bL (zz @eW (@List.length_append.{0}))))))))))
set_option maxHeartbeats 1000000 in
theorem nD:aV T 39 [] (.bool true):=by
 refine aS (af:=a39) rfl (by simp[a39]) bM ?_
 (repeat (first|simp only[↓QA,QB,seval,b7,a39]|refine rd0 rfl ?_))
 refine cS (rC []) (by simp[clr,clrs]) (by simp[okV,okVs]) ?_
 (repeat (first|simp only[↓QA,QB,seval,b7]|refine rd0 rfl ?_))
 ((first|refine aE (j3 6) rfl dd ?_|refine aQ (j3 6) rfl dd ?_);(repeat (first|simp only[↓QA,QB,seval,b7]|refine rd0 rfl ?_)))
 ((first|refine aE (jP 10) rfl dd ?_|refine aQ (jP 10) rfl dd ?_);(repeat (first|simp only[↓QA,QB,seval,b7]|refine rd0 rfl ?_)))
 refine cS (rC [⟨0,6,false⟩,⟨0,10,true⟩]) (by simp[clr,clrs,bY]) (by simp[okV,okVs]) ?_
 (repeat (first|simp only[↓QA,QB,seval,b7]|refine rd0 rfl ?_))
 ((first|refine aE (j3 6) rfl dd ?_|refine aQ (j3 6) rfl dd ?_);(repeat (first|simp only[↓QA,QB,seval,b7]|refine rd0 rfl ?_)))
 ((first|refine aE (jP 10) rfl dd ?_|refine aQ (jP 10) rfl dd ?_);(repeat (first|simp only[↓QA,QB,seval,b7]|refine rd0 rfl ?_)))
 ((first|refine aE (jP 3) rfl dd ?_|refine aQ (jP 3) rfl dd ?_);(repeat (first|simp only[↓QA,QB,seval,b7]|refine rd0 rfl ?_)))
 refine cS (rC [⟨0,6,false⟩,⟨0,10,true⟩,⟨0,3,true⟩]) (by simp[clr,clrs,bY]) (by simp[okV,okVs]) ?_
 (repeat (first|simp only[↓QA,QB,seval,b7]|refine rd0 rfl ?_))
 ((first|refine aE (jJ (exV []) 0 (dQ _)) rfl dd ?_|refine aQ (jJ (exV []) 0 (dQ _)) rfl dd ?_);(repeat (first|simp only[↓QA,QB,seval,b7,x1,pU]|refine rd0 rfl ?_)))
 ((first|refine aE (jJ exL 0 (dQ _)) rfl dd ?_|refine aQ (jJ exL 0 (dQ _)) rfl dd ?_);(repeat (first|simp only[↓QA,QB,seval,b7,x2,pU]|refine rd0 rfl ?_)))
 ((first|refine aE (nW exL 0 (dQ _)) rfl dd ?_|refine aQ (nW exL 0 (dQ _)) rfl dd ?_);(repeat (first|simp only[↓QA,QB,seval,b7,x3,jG]|refine rd0 rfl ?_)))
 ((first|refine aE (rM exL 0 (dQ _)) rfl dd ?_|refine aQ (rM exL 0 (dQ _)) rfl dd ?_);(repeat (first|simp only[↓QA,QB,seval,b7,x4,jG]|refine rd0 rfl ?_)))
 ((first|refine aE (y5 (exV []) (dQ _)) rfl dd ?_|refine aQ (y5 (exV []) (dQ _)) rfl dd ?_);(repeat (first|simp only[↓QA,QB,seval,b7,x5,DT]|refine rd0 rfl ?_)))
 ((first|refine aE (zA exL (dQ _)) rfl dd ?_|refine aQ (zA exL (dQ _)) rfl dd ?_);(repeat (first|simp only[↓QA,QB,seval,b7,x6,jG]|refine rd0 rfl ?_)))
 ((first|refine aE (sG (exV []) 0 (dQ _)) rfl dd ?_|refine aQ (sG (exV []) 0 (dQ _)) rfl dd ?_);(repeat (first|simp only[↓QA,QB,seval,b7,x7,nH]|refine rd0 rfl ?_)))
 ((first|refine aE (BX exW (dQ _)) rfl dd ?_|refine aQ (BX exW (dQ _)) rfl dd ?_);(repeat (first|simp only[↓QA,QB,seval,b7,x8,jG]|refine rd0 rfl ?_)))
 ((first|refine aE (nW exW 0 (dQ _)) rfl dd ?_|refine aQ (nW exW 0 (dQ _)) rfl dd ?_);(repeat (first|simp only[↓QA,QB,seval,b7,x9,jG]|refine rd0 rfl ?_)))
 ((first|refine aE (j3 12) rfl dd ?_|refine aQ (j3 12) rfl dd ?_);(repeat (first|simp only[↓QA,QB,seval,b7]|refine rd0 rfl ?_)))
 refine cS (rC [⟨0,12,false⟩]) (by simp[clr,clrs,bY]) (by simp[okV,okVs]) ?_
 (repeat (first|simp only[↓QA,QB,seval,b7]|refine rd0 rfl ?_))
 ((first|refine aE (sG exN 0 (dQ _)) rfl dd ?_|refine aQ (sG exN 0 (dQ _)) rfl dd ?_);(repeat (first|simp only[↓QA,QB,seval,b7,x10,nH]|refine rd0 rfl ?_)))
 ((first|refine aE (j3 12) rfl dd ?_|refine aQ (j3 12) rfl dd ?_);(repeat (first|simp only[↓QA,QB,seval,b7]|refine rd0 rfl ?_)))
 refine cS (rC [⟨0,12,false⟩]) (by simp[clr,clrs,bY]) (by simp[okV,okVs]) ?_
 (repeat (first|simp only[↓QA,QB,seval,b7]|refine rd0 rfl ?_))
 ((first|refine aE (jJ exN 0 (dQ _)) rfl dd ?_|refine aQ (jJ exN 0 (dQ _)) rfl dd ?_);(repeat (first|simp only[↓QA,QB,seval,b7,x11,pU]|refine rd0 rfl ?_)))
 ((first|refine aE (uP 4 12) rfl dd ?_|refine aQ (uP 4 12) rfl dd ?_);(repeat (first|simp only[↓QA,QB,seval,b7]|refine rd0 rfl ?_)))
 ((first|refine aE (uP 7 9) rfl dd ?_|refine aQ (uP 7 9) rfl dd ?_);(repeat (first|simp only[↓QA,QB,seval,b7]|refine rd0 rfl ?_)))
 ((first|refine cS (iF [1] [1] (by simp) (by simp)) (by simp[clr,clrs,aK]) (by simp[okV,okVs]) ?_|refine pG (iF [1] [1] (by simp) (by simp)) (by simp[clr,clrs,aK]) (by simp[okV,okVs]) ?_);(repeat (first|simp only[↓QA,QB,seval,b7,eq_self]|refine rd0 rfl ?_)))
 ((first|refine cS (iF [1] [1] (by simp) (by simp)) (by simp[clr,clrs,aK]) (by simp[okV,okVs]) ?_|refine pG (iF [1] [1] (by simp) (by simp)) (by simp[clr,clrs,aK]) (by simp[okV,okVs]) ?_);(repeat (first|simp only[↓QA,QB,seval,b7,eq_self]|refine rd0 rfl ?_)))
 ((first|refine cS (iF [0,2] [0,2] (by simp) (by simp)) (by simp[clr,clrs,aK]) (by simp[okV,okVs]) ?_|refine pG (iF [0,2] [0,2] (by simp) (by simp)) (by simp[clr,clrs,aK]) (by simp[okV,okVs]) ?_);(repeat (first|simp only[↓QA,QB,seval,b7,eq_self]|refine rd0 rfl ?_)))
 ((first|refine cS (iF [0,1,2] [0,1,2] (by simp) (by simp)) (by simp[clr,clrs,aK]) (by simp[okV,okVs]) ?_|refine pG (iF [0,1,2] [0,1,2] (by simp) (by simp)) (by simp[clr,clrs,aK]) (by simp[okV,okVs]) ?_);(repeat (first|simp only[↓QA,QB,seval,b7,eq_self]|refine rd0 rfl ?_)))
 ((first|refine cS (iF [1] [1] (by simp) (by simp)) (by simp[clr,clrs,aK]) (by simp[okV,okVs]) ?_|refine pG (iF [1] [1] (by simp) (by simp)) (by simp[clr,clrs,aK]) (by simp[okV,okVs]) ?_);(repeat (first|simp only[↓QA,QB,seval,b7,eq_self]|refine rd0 rfl ?_)))
 ((first|refine cS (iF [2] [2] (by simp) (by simp)) (by simp[clr,clrs,aK]) (by simp[okV,okVs]) ?_|refine pG (iF [2] [2] (by simp) (by simp)) (by simp[clr,clrs,aK]) (by simp[okV,okVs]) ?_);(repeat (first|simp only[↓QA,QB,seval,b7,eq_self]|refine rd0 rfl ?_)))
theorem aR7{n m:Nat}(h:m<=n)(p:Int->Bool):((aR 0 m).filter p).length<=n:=by
 have:=List.length_filter_le p (aR 0 m);rw[iK] at this;omega
theorem J5(v:Voy)(n:Int):(jX v n).1.length<=5:=by
 unfold jX;split
 ·rename_i h0;exact aR7 (nU (gE h0).1).1.nkp.2 _
 ·simp
end Go.Am.Room.Do
namespace Go.Am.Room.Do
theorem zU{v:Voy}:C9 v=true↔(dG v).2.2=0/\iB v []=true:=by simp[C9]
theorem aDE{v:Voy}(h:C9 v=true):fV v 0=0:=by
 have:=(zU.1 h).2;simp only[iB,Bool.not_eq_true'] at this;simp[fV,this]
theorem aTC{v:Voy}(h:C9 v=true){n:Nat}(hn:n<v.lots.toNat):cW v n=0:=by
 have:inR (n:Int) 0 (v.lots-1)=true:=eI.2 (by omega);rw[cW,mZ,if_pos (zU.1 h).1,this];exact aDE h
theorem yO{a:Int}{n:Nat}(ha:0<=a)(hn:0<n):∃ j:Nat,a.tmod (n:Int)=(j:Int)/\j<n:=by
 refine⟨(a.tmod n).toNat,?_,?_⟩
 ·have:=Int.tmod_nonneg (n:Int) ha;omega
 ·have:=Int.tmod_nonneg (n:Int) ha;have:=Int.tmod_lt_of_pos a (show (0:Int)<n by omega);omega
theorem SW{v:Voy}(h:C9 v=true){n:Nat}(hn:n<v.lots.toNat):jX v n=(jU v (eA v (aI v []) n),0):=by
 rw[jX,if_pos (aTC h hn),Int.toNat_natCast]
theorem HK(n:Nat)(p:Int->Bool):iI n (-1) ((aR 0 n).filter p)=true:=mX _ _ _ 0 _ (by omega) (by omega)
end Go.Am.Room.Do
namespace Go.Am.Room.Do
def cX:=zz @cN (zz @aP (zz @dB (zz @aY (zz @bA (zz @bK (zz @dO (zz @bN (zz @bL (zz @eW (zz @List.length_append.{0} (zz @WI (zz @uV (zz @yE (zz @uI (zz @E7 (zz @qZ (zz @lL (zz @aMC (@Int.toNat_natCast)))))))))))))))))))
structure Paid:Prop where
 awake:aV T 62 [] (.bool true)
 paid:∀ (m lo hi k:Nat),m<=4->lo<=k->k<=hi->hi<m->∃ F,gV F/\aV T 66 [.int .i64 m,.agg [.int .i64 lo,.int .i64 hi]] F/\aV T 65 [F,.int .i64 k] (.bool true)
theorem vQ{m:Nat}:∀ {l:List Int} {last k:Int},iI m last l=true->k∈l->last<k/\k<m:=by
 intro l
 induction l with
 |nil=>intro last k _ h;cases h
 |cons a l ih =>
  intro last k h hk;simp only[iI,Bool.and_eq_true,decide_eq_true_eq] at h;rcases List.mem_cons.1 hk with rfl|hk
  ·omega
  ·have:=ih h.2 hk;omega
theorem Y3{m:Nat}{l:List Int}(h:iI m (-1) l=true){k:Int}(hk:k∈l)(h0:0<l.length)(h1:l.length-1<l.length):l[0]<=k/\k<=l[l.length-1]:=by
 obtain⟨i,hi,rfl⟩:=List.getElem_of_mem hk;have key:∀ (l:List Int) (last:Int),iI m last l=true->∀ (i j:Nat) (hi:i<l.length) (hj:j<l.length),i<=j->l[i]<=l[j]:=by
  intro l
  induction l with
  |nil=>intro last _ i j hi;simp at hi
  |cons a l ih =>
   intro last h i j hi hj hij;simp only[iI,Bool.and_eq_true,decide_eq_true_eq] at h;cases i with
   |zero =>
    cases j with
    |zero=>exact Int.le_refl _
    |succ j =>
     have:=(vQ h.2 (List.getElem_mem (by simpa using hj):l[j]'(by simpa using hj)∈l)).1;simp only[List.getElem_cons_zero,List.getElem_cons_succ];omega
   |succ i =>
    cases j with
    |zero=>omega
    |succ j=>simpa using ih a h.2 i j (by simpa using hi) (by simpa using hj) (by omega)
 exact⟨key l _ h 0 i h0 hi (by omega),key l _ h i (l.length-1) hi h1 (by omega)⟩
set_option maxHeartbeats 4000000 in
theorem topdoors_ok(hpd:Paid)(v:Voy)(b:Nat)(x:List Int)(hf:Fits v)(hb:b<256)(hx:aBB x):aV T 9 [encVoy v,.int .u8 b,u8s x] (.bool true):=by
 refine aS (af:=a9) rfl (by simp[a9]) dd ?_;have hxl:=hx.2;have hkl:=hf.keepers;have awk:=hpd.awake
 (repeat (first|simp only[↓QA,QB,reduceLT,reduceIte,reduceEqDiff,reduceAdd,reduceLeDiff,reduceMul,Nat.reduceBEq,cX,a9,u8s]|refine rd0 rfl ?_))
 ((first|refine aE (w7 v hf) rfl dd ?_|refine aQ (w7 v hf) rfl dd ?_);(repeat (first|simp only[↓QA,QB,reduceLT,reduceIte,reduceEqDiff,reduceAdd,reduceLeDiff,reduceMul,Nat.reduceBEq,cX,nH,u8s]|refine rd0 rfl ?_)))
 by_cases hc:(dG v).2.2=0
 ·have g1:((dG v).2.2==0)=true:=by rw[hc];rfl
  by_cases hk4:4<v.keepers.length
  ·have g2:decide ((v.keepers.length:Int) > 4)=true:=by simp;omega
   (repeat (first|simp only[↓QA,QB,reduceLT,reduceIte,reduceEqDiff,reduceAdd,reduceLeDiff,reduceMul,Nat.reduceBEq,cX,g1,g2]|refine rd0 rfl ?_))
   refine aE nD rfl bM ?_
   (repeat (first|simp only[↓QA,QB,reduceLT,reduceIte,reduceEqDiff,reduceAdd,reduceLeDiff,reduceMul,Nat.reduceBEq,cX]|refine rd0 rfl ?_))
   refine aE awk rfl bM ?_
   (repeat (first|simp only[↓QA,QB,reduceLT,reduceIte,reduceEqDiff,reduceAdd,reduceLeDiff,reduceMul,Nat.reduceBEq,cX]|refine rd0 rfl ?_))
  ·have g2:decide ((v.keepers.length:Int) > 4)=false:=by simp;omega
   have hv:=gM hc;have htr:=JL v hv [] (by simp);have htl:=AD hv []
   (repeat (first|simp only[↓QA,QB,reduceLT,reduceIte,reduceEqDiff,reduceAdd,reduceLeDiff,reduceMul,Nat.reduceBEq,cX,g1,g2]|refine rd0 rfl ?_))
   refine cS htr (KO v) (yU v) ?_
   (repeat (first|simp only[↓QA,QB,reduceLT,reduceIte,reduceEqDiff,reduceAdd,reduceLeDiff,reduceMul,Nat.reduceBEq,cX]|refine rd0 rfl ?_))
   by_cases hA0:aI v []=[]
   ·have g3:(((aI v []).length:Int)==0)=true:=by rw[hA0];rfl
    (repeat (first|simp only[↓QA,QB,reduceLT,reduceIte,reduceEqDiff,reduceAdd,reduceLeDiff,reduceMul,Nat.reduceBEq,cX,g3]|refine rd0 rfl ?_))
    refine aE nD rfl bM ?_
    (repeat (first|simp only[↓QA,QB,reduceLT,reduceIte,reduceEqDiff,reduceAdd,reduceLeDiff,reduceMul,Nat.reduceBEq,cX]|refine rd0 rfl ?_))
    refine aE awk rfl bM ?_
    (repeat (first|simp only[↓QA,QB,reduceLT,reduceIte,reduceEqDiff,reduceAdd,reduceLeDiff,reduceMul,Nat.reduceBEq,cX]|refine rd0 rfl ?_))
   ·have g3:(((aI v []).length:Int)==0)=false:=beq_eq_false_iff_ne.2 (by have:=List.length_pos_iff.2 hA0;omega);have hsome:iB v []=true:=rH.2 (List.exists_mem_of_ne_nil _ hA0);have hs:C9 v=true:=zU.2 ⟨hc,hsome⟩;have hlo:=hv.lots;have hkp:=hv.nkp;obtain⟨L,hL⟩:∃ L:Nat,v.lots=(L:Int):=⟨v.lots.toNat,by omega⟩;obtain⟨n,hnj,hnl⟩:=yO (a:=(b:Int)) (by omega) (show 0<L by omega);have hn:n<v.lots.toNat:=by omega
    have hne:v.lots≠0:=by omega
    rw[<-hL] at hnj;have hwb:IntKind.i64.wrap (b:Int)=b:=dL ⟨by omega,by omega⟩;have okz:((0:Int)==0)=true:=rfl;have e1:=SW hs hn;have hrise:iI v.keepers.length (-1) (jU v (eA v (aI v []) n))=true:=HK _ _;have hwl:=J5 v n;rw[e1] at hwl;have hTok:∀ t∈aI v [],TOk v t:=fun t ht=>aF3 hv ht
    have hinw0:=fun (w:Tn) (hw:w∈cP (aI v []) n) (h:w.hour≠-1)=>VV hv hn hw h
    have hmt:∀ w:Tn,(∃ t∈aI v [],w∈bZ v (n:Int) t.op [])->w∈cP (aI v []) n:=fun w h=>(fC hn).2 h
    have hta:∀ t∈aI v [],(t.turns[n]?).getD []=bZ v (n:Int) t.op []:=fun t ht=>A0 ht hn
    have htn:∀ t∈aI v [],bZ v (n:Int) t.op []≠[]:=fun t ht=>(fF.1 ht).2.2 n hn
    obtain⟨A,hA⟩:∃ A,aI v []=A:=⟨_,rfl⟩;obtain⟨W,hW⟩:∃ W,jU v (eA v A n)=W:=⟨_,rfl⟩;simp only[hA] at hA0 htr htl g3 e1 hrise hwl hTok hinw0 hmt hta htn;rw[hW] at e1 hrise hwl;simp only[hW] at hinw0;have hrA:(A.length:Int)≠0:=by have:=List.length_pos_iff.2 hA0;omega
    (repeat (first|simp only[↓QA,QB,reduceLT,reduceIte,reduceEqDiff,reduceAdd,reduceLeDiff,reduceMul,Nat.reduceBEq,cX,hA,g3,hwb,TR _ _ _ hne,hnj]|refine rd0 rfl ?_))
    refine cS htr (KO v) (yU v) ?_
    (repeat (first|simp only[↓QA,QB,reduceLT,reduceIte,reduceEqDiff,reduceAdd,reduceLeDiff,reduceMul,Nat.reduceBEq,cX]|refine rd0 rfl ?_))
    cases h0:decide ((x.length:Int) > 0)
    case' false =>
     have hv0:∀ m:Nat,0<m->∃ j:Nat,(0:Int).tmod (m:Int)=(j:Int)/\j<m:=fun m hm=>yO (Int.le_refl _) hm
     have hv1:=hv0
     (repeat (first|simp only[↓QA,QB,reduceLT,reduceIte,reduceEqDiff,reduceAdd,reduceLeDiff,reduceMul,Nat.reduceBEq,cX,h0]|refine rd0 rfl ?_))
    case' true =>
     have hx0:0<x.length:=by simpa using h0
     have hlt:x.length-1<x.length:=by omega
     have i0:xS 1 (List.map (AV.int .u8) x) 0 none=some (.lptr (List.map (AV.int .u8) x) 0 0 none):=zG (k:=0) hx0 (fun _=>rfl);have k0:(List.map (AV.int .u8) x)[0]? = some (.int .u8 (x[0]'hx0)):=y9 hx0;have i1:xS 1 (List.map (AV.int .u8) x) ((x.length-1:Nat):Int) none=some (.lptr (List.map (AV.int .u8) x) (x.length-1) 0 none):=zG hlt (fun _=>rfl);have k1:(List.map (AV.int .u8) x)[x.length-1]? = some (.int .u8 (x[x.length-1]'hlt)):=y9 hlt;have b0:=hx.1 _ (List.getElem_mem hx0);have b1:=hx.1 _ (List.getElem_mem hlt);have r0:IntKind.i64.wrap (x[0]'hx0)=x[0]'hx0:=dL ⟨by omega,by omega⟩;have r1:IntKind.i64.wrap (x[x.length-1]'hlt)=x[x.length-1]'hlt:=dL ⟨by omega,by omega⟩;have rl:IntKind.i64.wrap ((x.length:Int)-1)=((x.length-1:Nat):Int):=by rw[dL ⟨by omega,by omega⟩];omega
     have hv0:∀ m:Nat,0<m->∃ j:Nat,(x[0]'hx0).tmod (m:Int)=(j:Int)/\j<m:=fun m hm=>yO b0.1 hm
     have hv1:∀ m:Nat,0<m->∃ j:Nat,(x[x.length-1]'hlt).tmod (m:Int)=(j:Int)/\j<m:=fun m hm=>yO b1.1 hm
     (repeat (first|simp only[↓QA,QB,reduceLT,reduceIte,reduceEqDiff,reduceAdd,reduceLeDiff,reduceMul,Nat.reduceBEq,cX,h0,i0,k0,rl,i1,k1,r0,r1]|refine rd0 rfl ?_))
    all_goals
     obtain⟨i,hij,hil⟩:=hv0 A.length (List.length_pos_iff.2 hA0);have htm:=List.getElem_mem hil;obtain⟨t,hte⟩:∃ t,A[i]=t:=⟨_,rfl⟩;rw[hte] at htm;have htk:=hTok t htm;have hnt:n<t.turns.length:=by rw[htk.len];exact hn
     obtain⟨ts,htse⟩:∃ ts,t.turns[n]=ts:=⟨_,rfl⟩;have htg:(t.turns[n]?).getD []=ts:=by rw[List.getElem?_eq_getElem hnt,htse];rfl
     have hts:ts=bZ v (n:Int) t.op []:=by rw[<-htg];exact hta t htm
     have htsne:ts≠[]:=by rw[hts];exact htn t htm
     have htsl:ts.length<=37:=htk.tn _ (by rw[<-htse];exact List.getElem_mem hnt);obtain⟨j,hjj,hjl⟩:=hv1 ts.length (List.length_pos_iff.2 htsne);have hwm:=List.getElem_mem hjl;obtain⟨w,hwe⟩:∃ w,ts[j]=w:=⟨_,rfl⟩;rw[hwe,hts] at hwm;have hinw:=hinw0 w (hmt w ⟨t,htm,hwm⟩);have hrT:(ts.length:Int)≠0:=by have:=List.length_pos_iff.2 htsne;omega
     (repeat (first|simp only[↓QA,QB,reduceLT,reduceIte,reduceEqDiff,reduceAdd,reduceLeDiff,reduceMul,Nat.reduceBEq,cX,TR _ _ _ hrA,hij,hil,hte]|refine rd0 rfl ?_))
     refine E3 [.cells [.int .i64 0,.int .i64 0]] rfl ?_
     (repeat (first|simp only[↓QA,QB,reduceLT,reduceIte,reduceEqDiff,reduceAdd,reduceLeDiff,reduceMul,Nat.reduceBEq,cX,hnt,htse,TR _ _ _ hrT,hjj,hjl,hwe]|refine rd0 rfl ?_))
     ((first|refine aE (rM v n hf) rfl dd ?_|refine aQ (rM v n hf) rfl dd ?_);(repeat (first|simp only[↓QA,QB,reduceLT,reduceIte,reduceEqDiff,reduceAdd,reduceLeDiff,reduceMul,Nat.reduceBEq,cX,jG,e1,okz]|refine rd0 rfl ?_)))
     ((first|refine aE (CJ W v.keepers.length (by omega)) rfl dd ?_|refine aQ (CJ W v.keepers.length (by omega)) rfl dd ?_);(repeat (first|simp only[↓QA,QB,reduceLT,reduceIte,reduceEqDiff,reduceAdd,reduceLeDiff,reduceMul,Nat.reduceBEq,cX,hrise]|refine rd0 rfl ?_)))
     cases h2:(w.hour==-1)
     ·have h2':w.hour≠-1:=by simpa using h2
      obtain⟨q1,q2,q3,q4⟩:=hinw h2';have hd0:0<=w.door:=q3.1;have hd1:w.door.toNat<v.doors.length:=by omega
      have hdh:aT v w.door=v.doors[w.door.toNat].hour:=by simp[aT,hd1]
      obtain⟨K,hK⟩:∃ K,eS v (aT v w.door)=K:=⟨_,rfl⟩;rw[hK] at q2;have hhas:W.contains K=true:=by rw[List.contains_iff_mem];exact q2
      have hKe:eS v v.doors[w.door.toNat].hour=K:=by rw[<-hdh];exact hK
      have hW0:0<W.length:=List.length_pos_iff.2 (List.ne_nil_of_mem q2);have hW1:W.length-1<W.length:=by omega
      have hle:=Y3 hrise q2 hW0 hW1;have hlo0:=vQ hrise (List.getElem_mem hW0);have hlo1:=vQ hrise (List.getElem_mem hW1);have iW0:xS 1 (List.map (AV.int .i64) W) 0 none=some (.lptr (List.map (AV.int .i64) W) 0 0 none):=zG (k:=0) hW0 (fun _=>rfl);have kW0:(List.map (AV.int .i64) W)[0]? = some (.int .i64 (W[0]'hW0)):=y9 hW0;have iW1:xS 1 (List.map (AV.int .i64) W) ((W.length-1:Nat):Int) none=some (.lptr (List.map (AV.int .i64) W) (W.length-1) 0 none):=zG hW1 (fun _=>rfl);have kW1:(List.map (AV.int .i64) W)[W.length-1]? = some (.int .i64 (W[W.length-1]'hW1)):=y9 hW1;have rW:IntKind.i64.wrap ((W.length:Int)-1)=((W.length-1:Nat):Int):=by rw[dL ⟨by omega,by omega⟩];omega
      obtain⟨lo,hlo⟩:∃ lo:Nat,W[0]'hW0=(lo:Int):=⟨(W[0]'hW0).toNat,by omega⟩;obtain⟨hi,hhi⟩:∃ hi:Nat,W[W.length-1]'hW1=(hi:Int):=⟨(W[W.length-1]'hW1).toNat,by omega⟩;obtain⟨k,hk⟩:∃ k:Nat,K=(k:Int):=⟨K.toNat,by omega⟩;rw[hlo] at hle hlo0 kW0;rw[hhi] at hle hlo1 kW1;rw[hk] at hle hhas;obtain⟨F,hF,hp1,hp2⟩:=hpd.paid v.keepers.length lo hi k (by omega) (by omega) (by omega) (by omega)
      haveI:Dat F:=⟨hF⟩
      (repeat (first|simp only[↓QA,QB,reduceLT,reduceIte,reduceEqDiff,reduceAdd,reduceLeDiff,reduceMul,Nat.reduceBEq,cX,h2,zH,hd0,hd1]|refine rd0 rfl ?_))
      ((first|refine aE (uR v v.doors[w.door.toNat].hour hf) rfl dd ?_|refine aQ (uR v v.doors[w.door.toNat].hour hf) rfl dd ?_);(repeat (first|simp only[↓QA,QB,reduceLT,reduceIte,reduceEqDiff,reduceAdd,reduceLeDiff,reduceMul,Nat.reduceBEq,cX,hKe,zH,hd0,hd1]|refine rd0 rfl ?_)))
      ((first|refine aE (EE W K (by omega)) rfl dd ?_|refine aQ (EE W K (by omega)) rfl dd ?_);(repeat (first|simp only[↓QA,QB,reduceLT,reduceIte,reduceEqDiff,reduceAdd,reduceLeDiff,reduceMul,Nat.reduceBEq,cX,hhas,iW0,kW0,rW,iW1,kW1,hk]|refine rd0 rfl ?_)))
      ((first|refine aE (hp1) rfl dd ?_|refine aQ (hp1) rfl dd ?_);(repeat (first|simp only[↓QA,QB,reduceLT,reduceIte,reduceEqDiff,reduceAdd,reduceLeDiff,reduceMul,Nat.reduceBEq,cX,iW0,kW0,rW,iW1,kW1,hk]|refine rd0 rfl ?_)))
      ((first|refine aE (hp2) rfl dd ?_|refine aQ (hp2) rfl dd ?_);(repeat (first|simp only[↓QA,QB,reduceLT,reduceIte,reduceEqDiff,reduceAdd,reduceLeDiff,reduceMul,Nat.reduceBEq,cX,iW0,kW0,rW,iW1,kW1,hk]|refine rd0 rfl ?_)))
      ((first|refine aE (nD) rfl dd ?_|refine aQ (nD) rfl dd ?_);(repeat (first|simp only[↓QA,QB,reduceLT,reduceIte,reduceEqDiff,reduceAdd,reduceLeDiff,reduceMul,Nat.reduceBEq,cX,iW0,kW0,rW,iW1,kW1,hk]|refine rd0 rfl ?_)))
      ((first|refine aE (awk) rfl dd ?_|refine aQ (awk) rfl dd ?_);(repeat (first|simp only[↓QA,QB,reduceLT,reduceIte,reduceEqDiff,reduceAdd,reduceLeDiff,reduceMul,Nat.reduceBEq,cX,iW0,kW0,rW,iW1,kW1,hk]|refine rd0 rfl ?_)))
     ·(repeat (first|simp only[↓QA,QB,reduceLT,reduceIte,reduceEqDiff,reduceAdd,reduceLeDiff,reduceMul,Nat.reduceBEq,cX,h2]|refine rd0 rfl ?_))
      refine aE nD rfl bM ?_
      (repeat (first|simp only[↓QA,QB,reduceLT,reduceIte,reduceEqDiff,reduceAdd,reduceLeDiff,reduceMul,Nat.reduceBEq,cX]|refine rd0 rfl ?_))
      refine aE awk rfl bM ?_
      (repeat (first|simp only[↓QA,QB,reduceLT,reduceIte,reduceEqDiff,reduceAdd,reduceLeDiff,reduceMul,Nat.reduceBEq,cX]|refine rd0 rfl ?_))
 ·have g1:((dG v).2.2==0)=false:=by simpa using hc
  (repeat (first|simp only[↓QA,QB,reduceLT,reduceIte,reduceEqDiff,reduceAdd,reduceLeDiff,reduceMul,Nat.reduceBEq,cX,g1]|refine rd0 rfl ?_))
  refine aE nD rfl bM ?_
  (repeat (first|simp only[↓QA,QB,reduceLT,reduceIte,reduceEqDiff,reduceAdd,reduceLeDiff,reduceMul,Nat.reduceBEq,cX]|refine rd0 rfl ?_))
  refine aE awk rfl bM ?_
  (repeat (first|simp only[↓QA,QB,reduceLT,reduceIte,reduceEqDiff,reduceAdd,reduceLeDiff,reduceMul,Nat.reduceBEq,cX]|refine rd0 rfl ?_))
end Go.Am.Room.Do
