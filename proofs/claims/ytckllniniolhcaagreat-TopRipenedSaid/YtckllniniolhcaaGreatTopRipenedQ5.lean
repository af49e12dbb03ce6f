/- A part of the proof of TopRipened: an abstract machine, or what functions come to on it. -/
import Derived.Test.YtckllniniolhcaaGreatTopRipenedQ4
open Nat (reduceLT reduceEqDiff reduceAdd reduceLeDiff reduceMul)
set_option linter.unusedVariables false
set_option linter.unusedSimpArgs false
set_option linter.defProp false
set_option maxRecDepth 4000
namespace Go.Am.Room.Tr
def fO:=zz @encNet_eq (zz @netCells_eq (zz @encRail_eq (zz @encTram_eq (zz @encSeen_eq (zz @aJ (zz @S_mapRail (zz @S_mapTram (zz @S_mapSeen (zz @bZ (zz @bY (zz @Nat.not_lt_zero (zz @encState_eq (zz @S_mapState (@HU))))))))))))))
def gL(x:Stay):AV:=.agg [.int .i64 x.tram,.int .i64 x.rail,.int .i64 x.frm,.int .i64 x.til]
theorem bR(x:Stay):gL x = .agg [.int .i64 x.tram,.int .i64 x.rail,.int .i64 x.frm,.int .i64 x.til]:=by simp only[gL]
theorem CP(x:Stay):j8 (gL x):=gQ (aT (bJ _ _) (aT (bJ _ _) (aT (bJ _ _) (aT (bJ _ _) a9))))
instance (x:Stay):Dat (gL x):=⟨CP x⟩
instance (l:List Stay):Dats (l.map gL):=⟨bH CP l⟩
theorem cP(σ:St)(m d:Nat)(l:List Stay):cI σ m d (l.map gL)=some (l.map gL):=iZ (bH CP l) σ m d
def KR(l:List Stay):AV:=.lit (l.map gL) false none
theorem RS(l:List Stay):KR l = .lit (l.map gL) false none:=by simp only[KR]
theorem GG(l:List Stay):aM 4 (l.map gL)=true:=pD 4 gL l fun x=>by simp[bV,gL,AV.cells,AV.cell]
theorem GK{α:Type}{p:α->Bool}{l:List α}{k:Nat}(h:k<l.length):(l.take (k+1)).any p=((l.take k).any p||p l[k]):=by
 rw[List.take_succ_eq_append_getElem h,List.any_append];simp
def rL(ss:List Stay)(rail m s r:Int)(k:Nat)(n:Int):Prop:=(n=r/\(ss.take k).any (jP rail r m)=false)\/(r<n/\uY ss rail m s n)
theorem YW(ss:List Stay)(rail ready m B:Int)(hl:ss.length<9223372036854775808)(hB:∀ x∈ss,x.til<=B)(h0:0<=ready)(hr:ready<=B)(hB2:B<=1000)(hm:0<=m/\m<=20):
  cV T 194 [.lit (ss.map gL) false none,.int .i64 rail,.int .i64 ready,.int .i64 m] (.int .i64 (lC ss rail ready m)):=by
 refine aR (af:=aBT) rfl (by simp[aBT]) dd ?_;have hfi:=C6 (rail:=rail) (m:=m) hB (show B<=ready+1000 by omega);obtain⟨Z,hZ⟩:∃ Z,lC ss rail ready m=Z:=⟨_,rfl⟩;rw[hZ] at hfi ⊢;try simp only[↓QA,QB,seval,fO,bR,cP,aBT]
 refine bC (S:=Int) ready (fun r=>uY ss rail m ready r) (fun r=>(B-r).toNat)
  (fun r=>[(0,.lit (ss.map gL) false none),(1,.int .i64 rail),(2,.int .i64 r),(3,.int .i64 m)]) (fun _=>[]) (JK _ _ _ _) rfl ?_ fun r hb=>?_
 ·try simp only[aB,QE,seval,fO,bR,cP]
  try simp
 ·have hrB:=ER hB hb hr;have hr0:=hb.1;have hwm:IntKind.i64.wrap (r+m)=r+m:=bM ⟨by omega,by omega⟩;try simp only[↓QA,QB,seval,fO,bR,cP,aBQ]
  refine bC (S:=Nat×Int) (0,r) (fun a=>a.1<=ss.length/\rL ss rail m ready r a.1 a.2) (fun a=>ss.length-a.1)
   (fun a=>[(0,.lit (ss.map gL) false none),(1,.int .i64 rail),(2,.int .i64 r),(3,.int .i64 m),(9,.int .i64 a.2),(10,.int .i64 a.1)]) (fun _=>[]) ⟨by simp,.inl ⟨rfl,by simp⟩⟩ rfl ?_ fun a ha=>?_
  ·try simp only[aB,QE,seval,fO,bR,cP]
   try simp
  ·obtain⟨k,n⟩:=a;obtain⟨hk,hlk⟩:=ha;simp only at hk hlk;try simp only[↓QA,QB,seval,fO,bR,cP,aDI]
   refine aE (fun h=>?_) fun h=>?_
   ·have hk1:k<ss.length:=by simpa using h
    have hw:=bD hk1 hl;obtain⟨x,hx⟩:∃ x,ss[k]=x:=⟨_,rfl⟩;have hxm:x∈ss:=by rw[<-hx];exact List.getElem_mem hk1
    have hat:=GK (p:=jP rail r m) hk1;rw[hx] at hat
    have no:jP rail r m x=false->rL ss rail m ready r (k+1) n:=fun q=>by
     rcases hlk with⟨e,a⟩|e
     ·exact .inl ⟨e,by rw[hat,a,q];rfl⟩
     ·exact .inr e
    have yes:jP rail r m x=true->rL ss rail m ready r (k+1) (max n x.til):=fun q=>by
     have q1:=BM q;have q2:=J5 hb hxm (Int.le_refl r) q (fun y h1 h2=>by omega);right;refine⟨by omega,?_⟩;rcases hlk with⟨e,_⟩|⟨e1,e2⟩
     ·rw[Int.max_eq_right (by omega)];exact q2
     ·by_cases hc:n<=x.til
      ·rw[Int.max_eq_right hc];exact q2
      ·rw[Int.max_eq_left (by omega)];exact e2
    have hcl:jP rail r m x=((x.rail==rail)&&decide (x.frm<r+m)&&decide (r<x.til)):=by
     have:decide (x.rail=rail)=(x.rail==rail):=by rw[Bool.eq_iff_iff];simp
     rw[jP,this]
    try simp only[↓QA,QB,seval,fO,bR,cP,hk1,hx]
    cases q1:(x.rail==rail)
    ·have nn:=no (by rw[hcl,q1];simp);try simp only[↓QA,QB,seval,fO,bR,cP,q1,hw]
     refine⟨(k+1,n),⟨by simp only;omega,nn⟩,by simp only;omega,?_⟩;try simp only[aB,QE,seval,fO,bR,cP,hw]
     try simp[aF]
    ·cases q2:decide (x.frm<r+m)
     ·have nn:=no (by rw[hcl,q1,q2];simp);try simp only[↓QA,QB,seval,fO,bR,cP,q1,hw,hwm,q2]
      refine⟨(k+1,n),⟨by simp only;omega,nn⟩,by simp only;omega,?_⟩;try simp only[aB,QE,seval,fO,bR,cP,hw]
      try simp[aF]
     ·cases q3:decide (r<x.til)
      ·have nn:=no (by rw[hcl,q1,q2,q3];simp);try simp only[↓QA,QB,seval,fO,bR,cP,q1,hw,hwm,q2,q3]
       refine⟨(k+1,n),⟨by simp only;omega,nn⟩,by simp only;omega,?_⟩;try simp only[aB,QE,seval,fO,bR,cP,hw]
       try simp[aF]
      ·have nn:=yes (by rw[hcl,q1,q2,q3];simp);try simp only[↓QA,QB,seval,fO,bR,cP,q1,hw,hwm,q2,q3]
       refine⟨(k+1,max n x.til),⟨by simp only;omega,nn⟩,by simp only;omega,?_⟩;try simp only[aB,QE,seval,fO,bR,cP,hw]
       try simp[aF]
   ·have hk1:k=ss.length:=by simp at h;omega
    rw[hk1] at hlk;rcases hlk with⟨e,a⟩|⟨e1,e2⟩
    ·rw[List.take_length] at a;have hz:=JQ hfi (JB hb a);subst e;have g:(n==n)=true:=by simp
     try simp only[↓QA,QB,seval,fO,bR,cP,g,hz]
    ·have g:(n==r)=false:=by simp;omega
     have hnB:=ER hB e2 hr;try simp only[↓QA,QB,seval,fO,bR,cP,g]
     refine⟨n,e2,by omega,?_⟩;try simp only[aB,QE,seval,fO,bR,cP]
     try simp[aF]
theorem rown_ok(v:Net)(hv:Vd v):cV T 52 [encNet v] (aY (lL v)):=by
 refine aR (af:=a52) rfl (by simp[a52]) dd ?_;have hnt:=hv.ntr;try simp only[↓QA,QB,seval,fO,bR,cP,a52]
 refine jN 3 1 [] rfl ?_;refine bC (S:=Nat×Bool) (0,false) (fun a=>a.1<=v.trams.length) (fun a=>v.trams.length-a.1)
  (fun a=>[(1,.ptr 0 0),(3,.lit (((v.trams.take a.1).map Tram.path).map ints) false (some 1)),(4,.int .i64 a.1)]) (fun a=>[.cells (netCells v),.tok 1 a.1 a.2]) (Nat.zero_le _) (by simp[netCells,ints]) ?_ fun a ha=>?_
 ·try simp only[aB,QE,seval,fO,bR,cP]
  try simp
 ·obtain⟨k,ex⟩:=a;simp only at ha;try simp only[↓QA,QB,seval,fO,bR,cP,aJI]
  refine aE (fun h=>?_) fun h=>?_
  ·have hk1:k<v.trams.length:=by simpa using h
   have hw:=bD hk1 (by omega);have htk:(v.trams.take (k+1)).map Tram.path=(v.trams.take k).map Tram.path++[v.trams[k].path]:=by
    rw[List.take_succ_eq_append_getElem hk1,List.map_append];rfl
   have hlen:((v.trams.take k).map Tram.path).length=k:=by simp;omega
   obtain⟨t,ht⟩:∃ t,v.trams[k]=t:=⟨_,rfl⟩;rw[ht] at htk;obtain⟨P,hP⟩:∃ P,(v.trams.take k).map Tram.path=P:=⟨_,rfl⟩;rw[hP] at htk hlen;have a2:=fun (b0:ABlk) (τ:St)=>kC (σ:=b0::.tok 1 k ex::τ) (t:=1) (ex:=ex) (sz:=1) (b:=24) (xs:=P.map ints) (ys:=[.lit (t.path.map (.int .i64)) false none]) (f:=true) (tk:=none) ⟨kA P,by simp[aM,AV.cells,AV.cell],by simp[room];omega,by simp[room];omega⟩ (by simp) k (by simp[hlen]) rfl
   rw[hP];try simp only[↓QA,QB,seval,fO,bR,cP,hk1,ht,ints,a2]
   refine⟨(k+1,true),by simp only;omega,by simp only;omega,?_⟩;try simp only[aB,QE,seval,fO,bR,cP,hw,htk,aY,ints,List.map_append,List.map_cons,List.map_nil]
   try simp[aF]
  ·have hk1:k=v.trams.length:=by simp at h;omega
   rw[hk1,List.take_length];try simp only[↓QA,QB,seval,fO,bR,cP,aY,lL]
   try try simp only[QS,QC,seval,fO,bR,cP]
end Go.Am.Room.Tr
namespace Go.Am.Room.Tr
def eC:=zz @encNet_eq (zz @netCells_eq (zz @encRail_eq (zz @encTram_eq (zz @encSeen_eq (zz @aJ (zz @S_mapRail (zz @S_mapTram (zz @S_mapSeen (zz @bZ (zz @bY (zz @Nat.not_lt_zero (zz @encState_eq (zz @S_mapState (zz @bR (zz @cP (@HU))))))))))))))))
structure StOk (v:Net) (s:State):Prop where
 cl:s.closed.length=v.rails.length
 mi:s.mins.length=v.rails.length
 bd:∀ i (h:i<s.mins.length),1<=s.mins[i]/\s.mins[i]<=20
theorem ZC{v:Net}{s:State}(hs:StOk v s){R:Nat}(h1:R<s.closed.length)(h2:R<s.mins.length):eff s (R:Int)=if s.closed[R]=true then 0 else s.mins[R]:=by
 simp[eff,h1,h2]
theorem UH{v:Net}{s:State}(hs:StOk v s):HI v (eff s):=by
 intro r h0 h1;obtain⟨R,rfl⟩:∃ R:Nat,r=R:=⟨r.toNat,by omega⟩;have c1:=hs.cl;have c2:=hs.mi;rw[ZC hs (by omega) (by omega)];have:=hs.bd R (by omega);split<;>omega
def aIW(x:List Stay×List Int):AV:=.tuple [KR x.1,ints x.2]
theorem aGT{p:List Int}{f:Int->Bool}{k:Nat}(h:k=p.length):(p.take k).any f=p.any f:=by rw[h,List.take_length]
theorem OI(v:Net)(m:Int->Int)(ps:List (List Int))(k:Nat):fM v m ps (k+1)=((oZ m k (rH v k) (fR ps k) (fM v m ps k).1).1,(fM v m ps k).2++[(oZ m k (rH v k) (fR ps k) (fM v m ps k).1).2]):=rfl
theorem aG0(v:Net)(hv:Vd v)(s:State)(hs:StOk v s)(ps:List (List Int))(hp:RunOk v ps):cV T 51 [encNet v,eU s,aY ps] (aIW (fM v (eff s) ps v.trams.length)):=by
 refine aR (af:=a51) rfl (by simp[a51]) dd ?_;have hnt:=hv.ntr;have hpl:=hp.len;have c1:=hs.cl;have c2:=hs.mi;have hbd:=SO hv (UH hs) hp;obtain⟨m,hm⟩:∃ m,eff s=m:=⟨_,rfl⟩;have hmb:=UH hs;have hea:=fun R h1 h2=>ZC hs (R:=R) h1 h2
 rw[hm] at hmb hbd;simp only[hm] at hea ⊢
 (repeat (first|simp only[↓QA,QB,seval,eC,a51,aY]|refine rd0 rfl ?_))
 refine jN 8 4 [] rfl ?_
 (repeat (first|simp only[↓QA,QB,seval,eC]|refine rd0 rfl ?_))
 refine jN 9 1 [] rfl ?_;refine bC (S:=Nat×Bool×Bool) (0,false,false) (fun a=>a.1<=v.trams.length) (fun a=>v.trams.length-a.1)
  (fun a=>[(2,aY ps),(3,.ptr 0 0),(4,.ptr 1 0),(8,.lit ((fM v m ps a.1).1.map gL) false (some 2)),(9,.lit ((fM v m ps a.1).2.map (.int .i64)) false (some 3)),(10,.int .i64 a.1)])
  (fun a=>[.cells (netCells v),.cells [.lit (s.closed.map .bool) false none,ints s.mins],.tok 4 (fM v m ps a.1).1.length a.2.1,.tok 1 a.1 a.2.2]) (Nat.zero_le _) (by simp[netCells,ints,fM]) ?_ fun a ha=>?_
 ·try simp only[aB,QE,seval,eC,aY,ints]
  try simp[fM]
 ·obtain⟨i,ex,ex2⟩:=a;simp only at ha
  (repeat (first|simp only[↓QA,QB,seval,eC,aJ5,aY]|refine rd0 rfl ?_))
  refine aE (fun h=>?_) fun h=>?_
  ·have hi1:i<v.trams.length:=by simpa using h
   have hwi:=bD hi1 (by omega);have hip:i<ps.length:=by omega
   obtain⟨b1,b2⟩:=hbd i (by omega);have hlc:=run_len v m ps i;have hsu:=OI v m ps i;have hto:=DN hv hi1;have hpm:=FK hp hi1;have hp4:=hp.few _ hpm;have hpr:=hp.rails _ hpm;have hpe:fR ps i=ps[i]:=by simp[fR,hip]
   rw[DC hi1,hpe] at hsu;rw[hpe] at hp4 hpr;obtain⟨t,ht⟩:∃ t,v.trams[i]=t:=⟨_,rfl⟩;obtain⟨p,hpp⟩:∃ p,ps[i]=p:=⟨_,rfl⟩;rw[ht] at hto hsu;rw[hpp] at hp4 hpr hsu;have hlv:=hto.leaves;obtain⟨L,hL⟩:∃ L,t.leaves=L:=⟨_,rfl⟩;rw[hL] at hlv hsu;obtain⟨SS,hSS⟩:∃ SS,(fM v m ps i).1=SS:=⟨_,rfl⟩;obtain⟨OO,hOO⟩:∃ OO,(fM v m ps i).2=OO:=⟨_,rfl⟩;rw[hSS] at b1 hsu;rw[hOO] at b2 hlc hsu;have hgo:oZ m i L p SS=if p.any (fun r=>m r==0)=true then (SS,-1) else pJ m i p L SS:=rfl
   rw[hSS,hOO];obtain⟨R,hR⟩:∃ R,oZ m i L p SS=R:=⟨_,rfl⟩;rw[hR] at hsu hgo;have hsu1:(fM v m ps (i+1)).1=R.1:=by rw[hsu]
   have hsu2:(fM v m ps (i+1)).2=OO++[R.2]:=by rw[hsu]
   have aO:=fun (b0 b1 b2:ABlk) (τ:St) (ex2:Bool)=>kC (σ:=b0::b1::b2::.tok 1 i ex2::τ) (t:=3) (ex:=ex2) (sz:=1) (b:=8) (xs:=OO.map (.int .i64)) (ys:=[.int .i64 R.2]) (f:=true) (tk:=none) ⟨jW OO,by simp[aM,AV.cells,AV.cell],by simp[room];omega,by simp[room];omega⟩ (by simp) i (by simp[hlc]) rfl
   (repeat (first|simp only[↓QA,QB,seval,eC,hi1,ht,hL,hip,hpp,aY]|refine rd0 rfl ?_))
   refine bC (S:=Nat) 0 (fun k=>k<=p.length) (fun k=>p.length-k)
    (fun k=>[(2,aY ps),(3,.ptr 0 0),(4,.ptr 1 0),(8,.lit (SS.map gL) false (some 2)),(9,.lit (OO.map (.int .i64)) false (some 3)),(10,.int .i64 i),(11,.int .i64 (if (p.take k).any (fun r=>m r==0)=true then -1 else L)),(12,.int .i64 k)])
    (fun k=>[.cells (netCells v),.cells [.lit (s.closed.map .bool) false none,ints s.mins],.tok 4 SS.length ex,.tok 1 i ex2]) (Nat.zero_le _) (by simp[netCells,ints]) ?_ fun k hk=>?_
   ·try simp only[aB,QE,seval,eC,aY,ints]
    try simp
   ·(repeat (first|simp only[↓QA,QB,seval,eC,aIS,aY,hip,hpp]|refine rd0 rfl ?_))
    refine aE (fun h2=>?_) fun h2=>?_
    ·have hk1:k<p.length:=by simpa using h2
     have hwk:=bD hk1 (by omega);have hat:=GK (p:=fun r=>m r==0) hk1;have hpk:=hpr _ (List.getElem_mem hk1);obtain⟨r,hr⟩:∃ r:Nat,p[k]=(r:Int):=⟨p[k].toNat,by omega⟩;rw[hr] at hat hpk;have hr1:r<s.closed.length:=by omega
     have hr2:r<s.mins.length:=by omega
     have hmr:=hea r hr1 hr2;have hmi:=hs.bd r hr2;obtain⟨cb,hcb⟩:∃ cb,s.closed[r]=cb:=⟨_,rfl⟩;rw[hcb] at hmr
     (repeat (first|simp only[↓QA,QB,seval,eC,hk1,hr,hr1,hcb,hip,hpp]|refine rd0 rfl ?_))
     cases cb
     ·have h0:(m (r:Int)==0)=false:=by rw[hmr];simp;omega
      rw[h0,Bool.or_false] at hat
      (repeat (first|simp only[↓QA,QB,seval,eC,hwk]|refine rd0 rfl ?_))
      refine⟨k+1,by omega,by omega,?_⟩;try simp only[aB,QE,seval,eC,hwk,hat,aY,ints]
      try simp[aF]
     ·have h0:(m (r:Int)==0)=true:=by rw[hmr];simp
      rw[h0,Bool.or_true] at hat
      (repeat (first|simp only[↓QA,QB,seval,eC,hwk]|refine rd0 rfl ?_))
      refine⟨k+1,by omega,by omega,?_⟩;try simp only[aB,QE,seval,eC,hwk,hat,aY,ints]
      try simp[aF]
    ·have hk1:k=p.length:=by simp at h2;omega
     rw[aGT hk1];cases hc:p.any (fun r=>m r==0)
     ·rw[hc] at hgo;simp only[Bool.false_eq_true,if_false] at hgo ⊢
      (repeat (first|simp only[↓QA,QB,seval,eC]|refine rd0 rfl ?_))
      refine bC (S:=Nat×Int×List Stay×Bool) (0,L,SS,ex) (fun a=>a.1<=p.length/\0<=a.2.1/\a.2.1<=60+20*(4*i+a.1:Nat)/\StaysOk a.2.2.1 (4*i+a.1)/\pJ m i (p.drop a.1) a.2.1 a.2.2.1=R) (fun a=>p.length-a.1)
       (fun a=>[(2,aY ps),(3,.ptr 0 0),(4,.ptr 1 0),(8,.lit (a.2.2.1.map gL) false (some 2)),(9,.lit (OO.map (.int .i64)) false (some 3)),(10,.int .i64 i),(11,.int .i64 a.2.1),(13,.int .i64 a.1)])
       (fun a=>[.cells (netCells v),.cells [.lit (s.closed.map .bool) false none,ints s.mins],.tok 4 a.2.2.1.length a.2.2.2,.tok 1 i ex2]) ⟨by simp,by simp only;omega,by simp only;omega,b1,hgo.symm⟩ (by simp[netCells,ints]) ?_ fun a ha=>?_
      ·try simp only[aB,QE,seval,eC,aY,ints]
       try simp
      ·obtain⟨j,at_,SS,ex⟩:=a;obtain⟨hj,ha0,ha1,hso,hgo⟩:=ha;simp only at hj ha0 ha1 hso hgo;have hne:(at_==-1)=false:=by simp;omega
       by_cases hj1:j<p.length
       ·have g:decide ((j:Int)<(p.length:Int))=true:=by simp;omega
        have hwj:=bD hj1 (by omega);have hpk:=hpr _ (List.getElem_mem hj1);rw[List.drop_eq_getElem_cons hj1] at hgo;obtain⟨r,hr⟩:∃ r:Nat,p[j]=(r:Int):=⟨p[j].toNat,by omega⟩;rw[hr] at hpk hgo;have hr1:r<s.closed.length:=by omega
        have hr2:r<s.mins.length:=by omega
        have hmr:=hea r hr1 hr2;have hmi:=hs.bd r hr2;have hopen:s.closed[r]=false:=by
         rw[List.any_eq_false] at hc;have:=hc _ (List.getElem_mem hj1);rw[hr,hmr] at this;cases hq:s.closed[r]
         ·rfl
         ·rw[hq] at this;simp at this
        rw[hopen] at hmr;simp only[Bool.false_eq_true,if_false] at hmr;obtain⟨M,hM⟩:∃ M,s.mins[r]=M:=⟨_,rfl⟩;rw[hM] at hmr hmi;simp only[pJ,hmr] at hgo;obtain⟨f1,f2,f3⟩:=L8 (rail:=(r:Int)) (m:=M) hso (by omega) ha0 ha1;have hsl:=hso.len;have hfr:=YW SS r at_ M (60+20*((4*i+j:Nat):Int)) (by omega) hso.til ha0 ha1 (by omega) (by omega);obtain⟨F,hF⟩:∃ F,lC SS r at_ M=F:=⟨_,rfl⟩;rw[hF] at hgo f2 f3 hfr;have hwF:IntKind.i64.wrap (F+M)=F+M:=bM ⟨by omega,by omega⟩;have a8:=fun (b0 b1:ABlk) (τ:St)=>kC (σ:=b0::b1::.tok 4 SS.length ex::τ) (t:=2) (ex:=ex) (sz:=4) (b:=32) (xs:=SS.map gL) (ys:=[.agg [.int .i64 i,.int .i64 r,.int .i64 F,.int .i64 (F+M)]]) (f:=true) (tk:=none) ⟨GG SS,by simp[aM,bV,AV.cells,AV.cell],by simp[room];omega,by simp[room];omega⟩ (by simp) SS.length (by simp) rfl
        (repeat (first|simp only[↓QA,QB,seval,eC,UB,aY,hip,hpp,g,hne,hj1,hr,hr2,hM,ints]|refine rd0 rfl ?_))
        ((first|refine yE (hfr) (by try simp only[QS,QC,seval,eC]) trivial ?_|refine AS (hfr) (by try simp only[QS,QC,seval,eC]) trivial ?_);(repeat (first|simp only[↓QA,QB,seval,eC,hj1,hr,hr2,hM,ints,hwF,a8,hwj]|refine rd0 rfl ?_)))
        refine⟨(j+1,F+M,SS++[⟨i,r,F,F+M⟩],true),⟨by simp only;omega,by simp only;omega,by simp only;omega,?_,hgo⟩,by simp only;omega,?_⟩
        ·refine⟨by simp;omega,fun x hx=>?_,fun x hx=>?_⟩
         ·rcases List.mem_append.1 hx with hx|hx
          ·have:=hso.til x hx;simp only;omega
          ·simp only[List.mem_singleton] at hx;subst hx;simp only;omega
         ·rcases List.mem_append.1 hx with hx|hx
          ·exact hso.frm x hx
          ·simp only[List.mem_singleton] at hx;subst hx;simp only;omega
        ·try simp only[aB,QE,seval,eC,hwj,aY,ints,List.map_append,List.map_cons,List.map_nil]
         try simp[aF]
       ·have g:decide ((j:Int)<(p.length:Int))=false:=by simp;omega
        rw[List.drop_eq_nil_of_le (by omega),pJ] at hgo;subst hgo
        (repeat (first|simp only[↓QA,QB,seval,eC,UB,aY,hip,hpp,g,aO,hwi]|refine rd0 rfl ?_))
        refine⟨(i+1,ex,true),by simp only;omega,by simp only;omega,?_⟩;try simp only[aB,QE,seval,eC,hwi,hsu1,hsu2,aY,ints,List.map_append,List.map_cons,List.map_nil]
        try simp[aF]
     ·rw[hc] at hgo;simp only[if_true] at hgo ⊢;subst hgo;have hne:((-1:Int)==-1)=true:=by decide
      (repeat (first|simp only[↓QA,QB,seval,eC]|refine rd0 rfl ?_))
      refine bC (S:=Unit) () (fun a=>True) (fun a=>0)
       (fun a=>[(2,aY ps),(3,.ptr 0 0),(4,.ptr 1 0),(8,.lit (SS.map gL) false (some 2)),(9,.lit (OO.map (.int .i64)) false (some 3)),(10,.int .i64 i),(11,.int .i64 (-1)),(13,.int .i64 0)])
       (fun a=>[.cells (netCells v),.cells [.lit (s.closed.map .bool) false none,ints s.mins],.tok 4 SS.length ex,.tok 1 i ex2]) trivial (by simp[netCells,ints]) ?_ fun a ha=>?_
      ·try simp only[aB,QE,seval,eC,aY,ints]
       try simp
      ·(repeat (first|simp only[↓QA,QB,seval,eC,UB,aY,hip,hpp,hne]|refine rd0 rfl ?_))
       cases hg:decide ((0:Int)<(p.length:Int))
       ·(repeat (first|simp only[↓QA,QB,seval,eC,hg,hne,aO,hwi]|refine rd0 rfl ?_))
        refine⟨(i+1,ex,true),by simp only;omega,by simp only;omega,?_⟩;try simp only[aB,QE,seval,eC,hwi,hsu1,hsu2,aY,ints,List.map_append,List.map_cons,List.map_nil]
        try simp[aF]
       ·(repeat (first|simp only[↓QA,QB,seval,eC,hg,hne,aO,hwi]|refine rd0 rfl ?_))
        refine⟨(i+1,ex,true),by simp only;omega,by simp only;omega,?_⟩;try simp only[aB,QE,seval,eC,hwi,hsu1,hsu2,aY,ints,List.map_append,List.map_cons,List.map_nil]
        try simp[aF]
  ·have hi1:i=v.trams.length:=by simp at h;omega
   rw[hi1]
   (repeat (first|simp only[↓QA,QB,seval,eC,aIW,RS]|refine rd0 rfl ?_))
   try try simp only[QS,QC,seval,eC]
end Go.Am.Room.Tr
namespace Go.Am.Room.Tr
def fT:=zz @encNet_eq (zz @netCells_eq (zz @encRail_eq (zz @encTram_eq (zz @encSeen_eq (zz @aJ (zz @S_mapRail (zz @S_mapTram (zz @S_mapSeen (zz @bZ (zz @bY (zz @Nat.not_lt_zero (zz @encState_eq (zz @S_mapState (zz @bR (zz @cP (zz @HU (@statesAV_eq)))))))))))))))))
instance (l:List Bool):Dats (l.map .bool):=⟨bH xZ l⟩
theorem aJ4{v:Net}(hv:Vd v):∀ k,k<=v.rails.length->∀ s∈p9 v.rails k,∀ i (h:i<s.mins.length),1<=s.mins[i]/\s.mins[i]<=20
 |0,_,s,hs,i,h=>by simp[p9] at hs;subst hs;simp at h
 |k+1,hk,s,hs,i,h=>by
  have hk1:k<v.rails.length:=by omega
  rw[CN hk1] at hs;simp only[List.mem_flatMap,EH,List.mem_map,List.mem_filter] at hs;obtain⟨s0,hs0,m,hm,c,_,rfl⟩:=hs;have hl0:=(zX k (by omega) s0 hs0).2.1;simp only[List.length_append,List.length_cons,List.length_nil] at h;by_cases e:i=s0.mins.length
  ·subst e;have:=(hv.ra _ (List.getElem_mem hk1)).mins;have:=qU.1 hm;simp;omega
  ·have hi:i<s0.mins.length:=by omega
   have:=aJ4 hv k (by omega) s0 hs0 i hi;simp only[List.getElem_append_left hi];exact this
theorem JV{v:Net}(hv:Vd v){s:State}(h:s∈lI v):StOk v s:=by
 have hl:=qW h;exact⟨hl.1,hl.2,aJ4 hv _ (Nat.le_refl _) s h⟩
theorem G9{v:Net}(hv:Vd v):(lI v).length<=1024 :=
 Nat.le_trans (HM (fun r hr=>(hv.ra r hr).mins.2.2.2) _) (Nat.le_trans (Nat.pow_le_pow_right (by omega) hv.nra) (by decide))
theorem SC{v:Net}(hv:Vd v)(but:List Int):(truths v but).length<=1024:=Nat.le_trans (List.length_filter_le _ _) (G9 hv)
theorem truth_ok{v:Net}(hv:Vd v){bl:List Int}{s:State}(h:s∈truths v bl):StOk v s:=JV hv (List.mem_filter.1 h).1
theorem VK(v:Net)(s:State):(comesOf v s).length=v.trams.length:=run_len _ _ _ _
theorem aFM{cs:List Int}{t:Nat}(h:t<cs.length):comeAt cs (t:Int)=cs[t]:=by simp[comeAt,h]
def PT(v:Net)(s:State):List AV:=(fM v (eff s) (lL v) v.trams.length).1.map gL
theorem rrun_own(v:Net)(hv:Vd v)(s:State)(hs:StOk v s):cV T 51 [encNet v,eU s,aY (lL v)] (.tuple [.lit (PT v s) false none,ints (comesOf v s)]):=aG0 v hv s hs (lL v) (aET hv)
def qQ(v:Net)(but cs:List Int)(n:Nat):Bool:=(List.range n).all fun k=>match v.seen[k]? with|some x=>but.contains (k:Int)||comeAt cs x.tram==x.minute|none=>true
theorem zL(v:Net)(but cs:List Int):qQ v but cs v.seen.length=mQ v but cs:=rfl
theorem DU{v:Net}{k:Nat}(hk:k<v.seen.length)(but cs:List Int):qQ v but cs (k+1)=(qQ v but cs k&&(but.contains (k:Int)||comeAt cs v.seen[k].tram==v.seen[k].minute)):=by
 simp[qQ,List.range_succ,List.all_append,hk]
theorem rtruths_ok(v:Net)(hv:Vd v)(but:List Int)(hbu:but.length<9223372036854775808):cV T 49 [encNet v,ints but] (statesAV (truths v but)):=by
 refine aR (af:=a49) rfl (by simp[a49]) dd ?_;have hse:=hv.nse;have hwl:=G9 hv;have hwo:=fun s=>JV hv (s:=s)
 have hst:=S0 v hv;have how:=rown_ok v hv;obtain⟨R,hR⟩:∃ R,truths v but=R:=⟨_,rfl⟩;have hRl:=SC hv but;rw[hR] at hRl ⊢;have hR':[]++((lI v).drop 0).filter (fun s=>mQ v but (comesOf v s))=R:=hR;obtain⟨W,hW⟩:∃ W,lI v=W:=⟨_,rfl⟩;rw[hW] at hwl hst hR';simp only[hW] at hwo;obtain⟨PO,hPO⟩:∃ PO,lL v=PO:=⟨_,rfl⟩
 (repeat (first|simp only[↓QA,QB,seval,fT,a49]|refine rd0 rfl ?_))
 ((first|refine aD (hst) rfl dd ?_|refine aG (hst) rfl dd ?_);(repeat (first|simp only[↓QA,QB,seval,fT]|refine rd0 rfl ?_)))
 refine jN 6 2 [] rfl ?_;refine bC (S:=Nat×List State×Bool) (0,[],false) (fun a=>a.1<=W.length/\a.2.1++(W.drop a.1).filter (fun s=>mQ v but (comesOf v s))=R) (fun a=>W.length-a.1)
  (fun a=>[(1,ints but),(2,.ptr 0 0),(5,statesAV W),(6,.lit (a.2.1.map eU) false (some 1)),(7,.int .i64 a.1)])
  (fun a=>[.cells (netCells v),.tok 2 a.2.1.length a.2.2]) ⟨Nat.zero_le _,hR'⟩ (by simp[netCells,ints]) ?_ fun a ha=>?_
 ·try simp only[aB,QE,seval,fT]
  try simp
 ·obtain⟨k,acc,ex⟩:=a;obtain⟨hk,hacc⟩:=ha;simp only at hk hacc
  (repeat (first|simp only[↓QA,QB,seval,fT,aJV]|refine rd0 rfl ?_))
  refine aE (fun hd=>?_) fun hd=>?_
  ·have hk1:k<W.length:=by simpa using hd
   have hw:=bD hk1 (by omega);have hso:=hwo _ (List.getElem_mem hk1);obtain⟨s,hs⟩:∃ s,W[k]=s:=⟨_,rfl⟩;rw[hs] at hso;rw[List.drop_eq_getElem_cons hk1,hs,List.filter_cons] at hacc;have hal:acc.length<=1024:=by
    have:=congrArg List.length hacc;simp only[List.length_append] at this;omega
   have hrun:=rrun_own v hv s hso;have hcl:=VK v s;obtain⟨C,hC⟩:∃ C,comesOf v s=C:=⟨_,rfl⟩;obtain⟨SS,hSS⟩:∃ SS,PT v s=SS:=⟨_,rfl⟩;rw[hPO] at hrun how;rw[hC] at hrun hcl hacc;rw[hSS] at hrun;simp only[encState_eq] at hrun;have hap:=fun (b0:ABlk) (τ:St)=>kC (σ:=b0::.tok 2 acc.length ex::τ) (t:=1) (ex:=ex) (sz:=2) (b:=48) (xs:=acc.map eU) (ys:=[.agg [.lit (s.closed.map .bool) false none,.lit (s.mins.map (.int .i64)) false none]]) (f:=true) (tk:=none) ⟨vA acc,by simp[aM,bV,AV.cells,AV.cell],by simp[room];omega,by simp[room];omega⟩ (by simp) acc.length (by simp) rfl
   (repeat (first|simp only[↓QA,QB,seval,fT,hk1,hs,ints]|refine rd0 rfl ?_))
   ((first|refine aD (how) rfl dd ?_|refine aG (how) rfl dd ?_);(repeat (first|simp only[↓QA,QB,seval,fT,hk1,hs,ints]|refine rd0 rfl ?_)))
   ((first|refine aD (hrun) rfl dd ?_|refine aG (hrun) rfl dd ?_);(repeat (first|simp only[↓QA,QB,seval,fT,hk1,hs,ints]|refine rd0 rfl ?_)))
   refine bC (S:=Nat) 0 (fun j=>j<=v.seen.length) (fun j=>v.seen.length-j)
    (fun j=>[(1,ints but),(2,.ptr 0 0),(5,statesAV W),(6,.lit (acc.map eU) false (some 1)),(7,.int .i64 k),(9,ints C),(10,.bool (qQ v but C j)),(11,.int .i64 j)])
    (fun j=>[.cells (netCells v),.tok 2 acc.length ex]) (Nat.zero_le _) (by simp[netCells,ints]) ?_ fun j hj=>?_
   ·try simp only[aB,QE,seval,fT,ints]
    try simp[qQ]
   ·(repeat (first|simp only[↓QA,QB,seval,fT,aJA]|refine rd0 rfl ?_))
    refine aE (fun h2=>?_) fun h2=>?_
    ·have hj1:j<v.seen.length:=by simpa using h2
     have hwj:=bD hj1 (by omega);have hsu:=DU hj1 but C;have hsx:=hv.se _ (List.getElem_mem hj1);obtain⟨x,hx⟩:∃ x,v.seen[j]=x:=⟨_,rfl⟩;rw[hx] at hsu hsx;obtain⟨t,ht⟩:∃ t:Nat,x.tram=t:=⟨x.tram.toNat,by omega⟩;rw[ht] at hsu hsx;have htl:t<C.length:=by omega
     rw[aFM htl] at hsu;obtain⟨q,hq⟩:∃ q,qQ v but C j=q:=⟨_,rfl⟩;rw[hq] at hsu;rw[hq];cases q
     ·rw[Bool.false_and] at hsu
      (repeat (first|simp only[↓QA,QB,seval,fT,hwj]|refine rd0 rfl ?_))
      refine⟨j+1,by omega,by omega,?_⟩;try simp only[aB,QE,seval,fT,hwj,hsu,ints]
      try simp[aF]
     ·rw[Bool.true_and] at hsu
      (repeat (first|simp only[↓QA,QB,seval,fT]|refine rd0 rfl ?_))
      ((first|refine aD (CT but (j:Int) hbu) rfl dd ?_|refine aG (CT but (j:Int) hbu) rfl dd ?_);(repeat (first|simp only[↓QA,QB,seval,fT]|refine rd0 rfl ?_)))
      cases hb:but.contains (j:Int)
      ·rw[hb,Bool.false_or] at hsu
       (repeat (first|simp only[↓QA,QB,seval,fT,hj1,hx,ht,htl,hwj]|refine rd0 rfl ?_))
       refine⟨j+1,by omega,by omega,?_⟩;try simp only[aB,QE,seval,fT,hwj,hsu,ints]
       try simp[aF]
      ·rw[hb,Bool.true_or] at hsu
       (repeat (first|simp only[↓QA,QB,seval,fT,hwj]|refine rd0 rfl ?_))
       refine⟨j+1,by omega,by omega,?_⟩;try simp only[aB,QE,seval,fT,hwj,hsu,ints]
       try simp[aF]
    ·have hj1:j=v.seen.length:=by simp at h2;omega
     rw[hj1,zL];cases hc:mQ v but C
     ·rw[hc] at hacc;simp only[Bool.false_eq_true,if_false] at hacc
      (repeat (first|simp only[↓QA,QB,seval,fT,hw]|refine rd0 rfl ?_))
      refine⟨(k+1,acc,ex),⟨by simp only;omega,hacc⟩,by simp only;omega,?_⟩;try simp only[aB,QE,seval,fT,hw,ints]
      try simp[aF]
     ·rw[hc] at hacc;simp only[if_true] at hacc
      (repeat (first|simp only[↓QA,QB,seval,fT,hk1,hs,ints,hap,hw]|refine rd0 rfl ?_))
      refine⟨(k+1,acc++[s],true),⟨by simp only;omega,by rw[<-hacc];simp⟩,by simp only;omega,?_⟩;try simp only[aB,QE,seval,fT,hw,ints,List.map_append,List.map_cons,List.map_nil]
      try simp[aF]
  ·have hk1:k=W.length:=by simp at hd;omega
   rw[hk1,List.drop_length] at hacc;simp only[List.filter_nil,List.append_nil] at hacc;subst hacc
   (repeat (first|simp only[↓QA,QB,seval,fT]|refine rd0 rfl ?_))
   try try simp only[QS,QC,seval,fT]
theorem net_nil1(v:Net):clrs [encNet v,.lit [] true none]=[encNet v,ints []]:=by simp[clrs,(FQ v).2,clr,ints]
theorem net_nil1_ok(v:Net):okVs 0 [encNet v,.lit [] true none]:=⟨(FQ v).1,by simp[okV,okVs],trivial⟩
def fB(fine:Nat->Bool):Nat->Nat×Nat->Nat×Nat
 |0,x=>x
 |k+1,x=>if fine k=true then (EI (fB fine k x).1 (2^k),(fB fine k x).2) else ((fB fine k x).1,(fB fine k x).2|||2^k)
theorem tS(fine:Nat->Bool){n:Nat}{x:Nat×Nat}(h:x.1<2^n/\x.2<2^n):∀ k,k<=n->(fB fine k x).1<2^n/\(fB fine k x).2<2^n
 |0,_=>h
 |k+1,hk=>by
  obtain⟨h1,h2⟩:=tS fine h k (by omega);simp only[fB];split
  ·exact⟨Nat.lt_of_le_of_lt (UG _ _) h1,h2⟩
  ·exact⟨h1,Nat.or_lt_two_pow h2 (Nat.pow_lt_pow_right (by omega) (by omega))⟩
theorem FY(fine:Nat->Bool){n:Nat}(hn:n<=60){x:Nat×Nat}(h:x.1<2^n/\x.2<2^n)(i:Nat):∀ k,k<=n->(fB fine k x).1.testBit i=(x.1.testBit i&&!(decide (i<k)&&fine i))/\(fB fine k x).2.testBit i=(x.2.testBit i||(decide (i<k)&&!fine i))
 |0,_=>by simp[fB]
 |k+1,hk=>by
  obtain⟨h1,h2⟩:=FY fine hn h i k (by omega);obtain⟨l1,l2⟩:=tS fine h k (by omega);have hp:=kZ (show k<=60 by omega);have hpn:=kZ hn;simp only[fB];by_cases e:i=k
  ·subst e;cases hf:fine i
   ·simp only[Bool.false_eq_true,if_false];rw[Nat.testBit_or,h1,h2,Nat.testBit_two_pow_self];simp
   ·simp only[if_true];rw[GU (by omega) _ _ (by omega),h1,h2,Nat.testBit_two_pow_self];simp
  ·have hd:decide (i<k+1)=decide (i<k):=by rw[decide_eq_decide];omega
   split
   ·rw[GU (by omega) _ _ (by omega),h1,h2,Nat.testBit_two_pow_of_ne (Ne.symm e),hd];simp
   ·rw[Nat.testBit_or,h1,h2,Nat.testBit_two_pow_of_ne (Ne.symm e),hd];simp
abbrev B64:={ x:Nat×Nat // x.1<2^6/\x.2<2^6 }
def sH{A:Type}(fine:A->Nat->Bool)(n:Nat)(a:A)(x:B64):B64×Bool:=if hn:n<=6 then (⟨fB (fine a) n x.1,tS (fine a) x.2 n hn⟩,true) else (x,true)
theorem G4{A:Type}(fine:A->Nat->Bool)(n:Nat)(a:A)(x:B64):(sH fine n a x).2=true:=by unfold sH;split<;>rfl
theorem C9{A:Type}(fine:A->Nat->Bool){n:Nat}(hn:n<=6)(a:A)(x:B64):(sH fine n a x).1.1=fB (fine a) n x.1:=by unfold sH;rw[dif_pos hn]
def pK{A:Type}(fine:A->Nat->Bool)(n:Nat)(l:List A)(x:B64):B64:=l.foldl (fun x a=>(sH fine n a x).1) x
theorem C2{A:Type}(fine:A->Nat->Bool){n:Nat}(hn:n<=6){i:Nat}(hi:i<n):∀ (l:List A) (x:B64),(pK fine n l x).1.1.testBit i=(x.1.1.testBit i&&l.all fun a=>!fine a i)/\(pK fine n l x).1.2.testBit i=(x.1.2.testBit i||l.any fun a=>!fine a i)
 |[],x=>by simp[pK]
 |a::l,x=>by
  obtain⟨h1,h2⟩:=C2 fine hn hi l (sH fine n a x).1;obtain⟨q1,q2⟩:=FY (fine a) (n:=6) (by omega) x.2 i n hn;simp only[pK,List.foldl_cons,List.all_cons,List.any_cons] at h1 h2 ⊢;rw[h1,h2,C9 fine hn,q1,q2];simp only[hi,decide_true,Bool.true_and];exact⟨by rw[Bool.and_assoc],by rw[Bool.or_assoc]⟩
def nB(n:Nat)(hn:n<=6):B64:=⟨(2^n-1,0),by
 have:2^n<=2^6:=Nat.pow_le_pow_right (by omega) hn;have:=Nat.two_pow_pos n
 exact⟨by simp only;omega,by simp⟩⟩
theorem OT{A:Type}(fine:A->Nat->Bool){n:Nat}(hn:n<=6)(l:List A):lst n (pK fine n l (nB n hn)).1.1=(aL 0 n).filter (fun i=>l.all fun a=>!fine a i.toNat)/\lst n (pK fine n l (nB n hn)).1.2=(aL 0 n).filter (fun i=>l.any fun a=>!fine a i.toNat):=by
 simp only[lst];constructor
 ·refine List.filter_congr fun x hx=>?_
  have hxr:=(bI _ _ _).1 hx;have hi:x.toNat<n:=by omega
  rw[<-pR,(C2 fine hn hi l _).1];simp only[nB,Nat.testBit_two_pow_sub_one,hi,decide_true,Bool.true_and]
 ·refine List.filter_congr fun x hx=>?_
  have hxr:=(bI _ _ _).1 hx;have hi:x.toNat<n:=by omega
  rw[<-pR,(C2 fine hn hi l _).2];simp only[nB,Nat.zero_testBit,Bool.false_or]
def jG(v:Net)(c:List Int)(t:Nat):Bool:=mH v t (comeAt (eH v c) t)
theorem OW{v:Net}{bl:List Int}{t:Nat}:∀ s∈truths v bl,KF v (t:Int) s = !jG v (vT s) t:=fun s hs=>by
 have hl:=yB hs;simp only[KF,jG,tM (show s.closed.length=s.mins.length by omega),Int.toNat_natCast]
theorem O9{v:Net}(hv:Vd v)(h3:v.trams.length<=6):lst v.trams.length (pK (jG v) v.trams.length (TL v []) (nB _ h3)).1.1=aA7 v (truths v [])/\lst v.trams.length (pK (jG v) v.trams.length (TL v []) (nB _ h3)).1.2=NH v (truths v []):=by
 obtain⟨h1,h2⟩:=OT (jG v) h3 (TL v []);rw[h1,h2,aA7,NH];constructor
 ·refine List.filter_congr fun x hx=>?_
  have hxr:=(bI _ _ _).1 hx;obtain⟨t,rfl⟩:∃ t:Nat,x=t:=⟨x.toNat,by omega⟩;rw[M1,Int.toNat_natCast];exact (S7 hv [] _ _ OW).symm
 ·refine List.filter_congr fun x hx=>?_
  have hxr:=(bI _ _ _).1 hx;obtain⟨t,rfl⟩:∃ t:Nat,x=t:=⟨x.toNat,by omega⟩;rw[LG,Int.toNat_natCast];exact (aEO hv [] _ _ OW).symm
def kO(c:List Int)(r:Nat):Bool:=!((c[r]?).getD 0==0)
theorem HT{v:Net}(hv:Vd v){bl:List Int}{r:Nat}(hr:r<v.rails.length):∀ s∈truths v bl,BZ (r:Int) s = !kO (vT s) r:=fun s hs=>by
 have hs1:=(List.mem_filter.1 hs).1;have hl:=qW hs1;have hst:∀ k,k<=v.rails.length->∀ s∈p9 v.rails k,∀ i,i<k->1<=(s.mins[i]?).getD 0:=by
  intro k
  induction k with
  |zero=>intro _ s _ i hi;omega
  |succ k ih =>
   intro hk s h i hi;have hk1:k<v.rails.length:=by omega
   simp only[p9,List.getElem?_eq_getElem hk1,List.mem_flatMap,EH,List.mem_map,List.mem_filter] at h;obtain⟨s0,hs0,m,hm,c,_,rfl⟩:=h;have hl0:=(zX k (by omega) s0 hs0).2.1;by_cases e:i=k
   ·subst e;rw[GE hl0];have:=(hv.ra _ (List.getElem_mem hk1)).mins;have:=qU.1 hm;omega
   ·rw[List.getElem?_append_left (by omega)];exact ih (by omega) s0 hs0 i (by omega)
 have hm:=hst v.rails.length (Nat.le_refl _) s hs1 r hr;have he:=congrFun (SD (s:=s) (by omega)) (r:Int);simp only[rlI,Int.toNat_natCast] at he;simp only[kO,<-he,eff,BZ,Int.toNat_natCast,Bool.not_not];split
 ·rename_i h;rw[h];rfl
 ·rename_i h;rw[Bool.not_eq_true] at h;rw[h];symm;simp only[beq_eq_false_iff_ne];omega
theorem aCM{v:Net}(hv:Vd v)(h6:v.rails.length<=6):lst v.rails.length (pK kO v.rails.length (TL v []) (nB _ h6)).1.1=XM v (truths v [])/\lst v.rails.length (pK kO v.rails.length (TL v []) (nB _ h6)).1.2=aM7 v (truths v []):=by
 obtain⟨h1,h2⟩:=OT kO h6 (TL v []);rw[h1,h2,XM,aM7];constructor
 ·refine List.filter_congr fun x hx=>?_
  have hxr:=(bI _ _ _).1 hx;obtain⟨t,rfl⟩:∃ t:Nat,x=t:=⟨x.toNat,by omega⟩;rw[Int.toNat_natCast];exact (S7 hv [] _ _ (HT hv (by omega))).symm
 ·refine List.filter_congr fun x hx=>?_
  have hxr:=(bI _ _ _).1 hx;obtain⟨t,rfl⟩:∃ t:Nat,x=t:=⟨x.toNat,by omega⟩;rw[Int.toNat_natCast];exact (aEO hv [] _ _ (HT hv (by omega))).symm
def H9(v:Net)(l:List (List Int))(t:Nat):List Int:=l.map fun c=>comeAt (eH v c) t
theorem aGD{v:Net}(hv:Vd v)(bl:List Int)(t:Nat)(x:Int):x∈atsIn v (truths v bl) t↔x∈H9 v (TL v bl) t:=by
 simp only[atsIn,H9,List.mem_map];constructor
 ·rintro⟨s,hs,rfl⟩;have hl:=yB hs;exact⟨_,A9 hs,by rw[tM (by omega)]⟩
 ·rintro⟨c,hc,rfl⟩;obtain⟨s,hs,rfl⟩:=vX hv hc;have hl:=yB hs;exact⟨s,hs,by rw[tM (by omega)]⟩
theorem R8{l k:List Int}(h:∀ x,x∈l↔x∈k):comesS l=comesS k:=by
 have h1:gH (fJ l)=gH (fJ k):=aCG fun x=>by simp only[fJ,List.mem_filter,h]
 have h2:fF (fJ l).length l.length=fF (fJ k).length k.length:=R4 (fun x hx=>⟨x,(h x).1 hx,rfl⟩) (fun x hx=>⟨x,(h x).2 hx,rfl⟩);rw[comesS,comesS,h1,h2]
def aBN(a:Int)(x:Span×Bool×Bool):Span×Bool×Bool:=if a = -1 then (x.1,x.2.1,true) else if x.2.1=false then (⟨a,a⟩,true,x.2.2) else (kI x.1 a,true,x.2.2)
theorem SQ(l:List Int)(a:Int):gH (l++[a])=if l=[] then ⟨a,a⟩ else kI (gH l) a:=by
 cases l with
 |nil=>simp[gH]
 |cons x l=>simp[gH,List.foldl_append]
theorem aDV(l:List Int):∀ (k:List Int),l.foldl (fun x a=>aBN a x) (gH (fJ k),!(fJ k).isEmpty,k.contains (-1))=(gH (fJ (k++l)),!(fJ (k++l)).isEmpty,(k++l).contains (-1)):=by
 induction l with
 |nil=>intro k;simp
 |cons a l ih =>
  intro k;rw[List.foldl_cons,show k++a::l=(k++[a])++l by simp,<-ih (k++[a])]
  congr 1
  simp only[fJ,List.filter_append,aBN];by_cases h:a = -1
  ·subst h;simp
  ·have hc:(k++[a]).contains (-1)=k.contains (-1):=by
    rw[Bool.eq_iff_iff,List.contains_iff_mem,List.contains_iff_mem];simp;omega
   have hf:[a].filter (fun c=>!decide (c = -1))=[a]:=by simp[h]
   rw[hf,hc,SQ,if_neg h];by_cases h2:k.filter (fun c=>!decide (c = -1))=[]
   ·simp[h2]
   ·have:(k.filter (fun c=>!decide (c = -1))).isEmpty=false:=by simpa using h2
    simp[h2,this]
theorem aGU(l:List Int):l.foldl (fun x a=>aBN a x) (⟨0,0⟩,false,false)=(gH (fJ l),!(fJ l).isEmpty,l.contains (-1)):=aDV l []
theorem OH{l:List Int}(h:l≠[]):fF (fJ l).length l.length=if l.contains (-1)=false then 1 else if (fJ l).isEmpty=true then 2 else 0:=by
 have h1:fF (fJ l).length l.length=1↔∀ x∈l,(!decide (x = -1))=true:=oY;have h2:fF (fJ l).length l.length=2↔l≠[]/\∀ x∈l,(!decide (x = -1))=false:=n7;have h3:=lG (fJ l).length l.length;have he:(fJ l).isEmpty=true↔∀ x∈l,(!decide (x = -1))=false:=by
  rw[List.isEmpty_iff,fJ,List.filter_eq_nil_iff];simp
 by_cases a:l.contains (-1)=false
 ·rw[if_pos a];refine h1.2 fun x hx=>?_
  simp only[Bool.not_eq_true',decide_eq_false_iff_not];rintro rfl;rw[<-Bool.not_eq_true,List.contains_iff_mem] at a;exact a hx
 ·rw[if_neg a];have n1:¬fF (fJ l).length l.length=1:=by
   rw[h1];intro q;rw[Bool.not_eq_false,List.contains_iff_mem] at a;have:=q _ a;simp at this
  by_cases b:(fJ l).isEmpty=true
  ·rw[if_pos b];exact h2.2 ⟨h,he.1 b⟩
  ·rw[if_neg b];rcases h3 with h3|h3|h3
   ·exact h3
   ·exact absurd h3 n1
   ·exact absurd (he.2 (h2.1 h3).2) b
end Go.Am.Room.Tr
namespace Go.Am.Room.Tr
def j5(x:List Int×List Int×Int):AV:=.tuple [ints x.1,ints x.2.1,.int .i64 x.2.2]
def lX(x:Int×Int):AV:=.tuple [.int .i64 x.1,.int .i64 x.2]
def encSIE(x:Span×Int×Int):AV:=.tuple [cG x.1,.int .i64 x.2.1,.int .i64 x.2.2]
end Go.Am.Room.Tr
namespace Go.Am.Room.Tr
theorem NN{n:Nat}{k:Nat}(h:k<n)(p:Int->Bool):(aL (k:Int) ((n:Int)-k).toNat).filter p=(if p (k:Int)=true then [(k:Int)] else [])++(aL ((k+1:Nat):Int) ((n:Int)-((k+1:Nat):Int)).toNat).filter p:=by
 rw[uR (by omega),List.filter_cons,show (k:Int)+1=((k+1:Nat):Int) by omega];split<;>rfl
theorem W9{n k:Nat}(h:k=n)(p:Int->Bool):(aL (k:Int) ((n:Int)-k).toNat).filter p=[]:=by
 rw[uM (by omega)];rfl
theorem KG{v:Net}{l:List Int}{k:Nat}(h:k<l.length)(b:Int):lM v (l.drop k) b=lM v (l.drop (k+1)) (if b<0\/DQ v l[k].toNat<DQ v b.toNat then l[k] else b):=by
 rw[List.drop_eq_getElem_cons h,lM]
theorem aA2{v:Net}{t:Nat}(h:t<v.trams.length):DQ v t=v.trams[t].due:=by simp[DQ,h]
theorem aGG{v:Net}{l:List State}:∀ t∈NH v l,0<=t/\t<v.trams.length:=fun t ht=>by
 have:=(bI _ _ _).1 (List.mem_filter.1 ht).1;omega
theorem aB4(v:Net)(l:List State):(NH v l).length<=v.trams.length:=by
 have:=List.length_filter_le (LG v l) (aL 0 v.trams.length);rw[jS] at this;exact this
end Go.Am.Room.Tr
namespace Go.Am.Room.Tr
theorem OP(l:List State):j8 (statesAV l):=gG uH l
instance (l:List State):Dat (statesAV l):=⟨OP l⟩
instance (l:List (List (List Int))):Dats (l.map aY):=⟨bH zJ l⟩
theorem cT(l:List (List Int)):aY l = .lit (l.map ints) false none:=by simp only[aY]
def A7(x:List (List Int)×List Int×Int):AV:=.tuple [aY x.1,ints x.2.1,.int .i64 x.2.2]
def sU(v:Net)(cs:List Int)(n:Nat):Bool:=(List.range n).all fun t=>mH v t (comeAt cs t)
theorem N8(v:Net)(cs:List Int)(n:Nat):sU v cs (n+1)=(sU v cs n&&mH v n (comeAt cs n)):=by simp[sU,List.range_succ,List.all_append]
theorem UR{v:Net}{cs:List Int}{k:Nat}(h:sU v cs k=false){j:Nat}(hj:k<=j):sU v cs j=false:=by
 simp only[sU,List.all_eq_false,List.mem_range] at h ⊢;obtain⟨a,ha,h1⟩:=h;exact⟨a,by omega,h1⟩
theorem JP{v:Net}{t:Nat}{z:Tram}(h:v.trams[t]? = some z)(c:Int):mH v t c=(!decide (c = -1)&&decide (c<=z.due)):=by simp only[mH,DQ,h]
theorem P1{v:Net}{t:Nat}(h:t<v.trams.length):fR (lL v) t=v.trams[t].path:=by simp[fR,lL,h]
theorem TW{ps:List (List Int)}{t:Nat}(h:t<ps.length):fR ps t=ps[t]:=by simp[fR,h]
def aG6(v:Net)(ps:List (List Int))(t:Int):Bool:=!decide (fR ps t.toNat=fR (lL v) t.toNat)
theorem KW{v:Net}{t:Nat}(h:t<v.trams.length):iP v t=v.trams[t].frm:=by simp[iP,h]
end Go.Am.Room.Tr
namespace Go.Am.Room.Tr
instance (l:List (List Int)):Dats (l.map ints):=⟨bH iT l⟩
def sE(x:List Int×Int):AV:=.tuple [ints x.1,.int .i64 x.2]
def FO(x:Int×Int×Int):AV:=.tuple [.int .i64 x.1,.int .i64 x.2.1,.int .i64 x.2.2]
theorem xJ{v:Net}(h:iL v=0):Vd v/\truths v []≠[]:=by
 have hta:iL v=bS v (check v).2.2:=rfl;rw[hta,bS] at h;split at h
 ·rename_i q;refine⟨vd_of_check q,fun e=>?_⟩;rw[e] at h;simp at h
 ·rename_i q;exact absurd h q
end Go.Am.Room.Tr
namespace Go.Am.Room.Tr
def y7(v:Net)(r:Int)(k:Nat):Nat:=((List.range k).filter fun t=>(eX v (iP v t) [r]).isEmpty).length
theorem QX(v:Net)(r:Int)(k:Nat):y7 v r (k+1)=y7 v r k+(if (eX v (iP v k) [r]).isEmpty=true then 1 else 0):=by
 rw[y7,List.range_succ,List.filter_append,List.length_append,y7];by_cases e:(eX v (iP v k) [r]).isEmpty=true
 ·simp[e]
 ·simp[e]
theorem YG(v:Net)(r:Int)(k:Nat):y7 v r k<=k:=by
 have:=List.length_filter_le (fun t=>(eX v (iP v t) [r]).isEmpty) (List.range k);rw[List.length_range] at this;exact this
theorem NG{v:Net}{k:Nat}(h:k<v.rails.length)(b:Int×Int):wM v (aL (k:Int) ((v.rails.length:Int)-k).toNat) b=wM v (aL ((k+1:Nat):Int) ((v.rails.length:Int)-((k+1:Nat):Int)).toNat) (if v.rails[k].shut=1 then b else if b.1<0\/b.2<GN v k then ((k:Int),GN v k) else b):=by
 rw[uR (by omega),wM,show (k:Int)+1=((k+1:Nat):Int) by omega,EW h]
end Go.Am.Room.Tr
namespace Go.Am.Room.Tr
def iK{α:Type}(p:α->Bool):List α->Nat->Int
 |[],_=>-1
 |x::xs,k=>if p x then k else iK p xs (k+1)
theorem nE{α:Type}(p:α->Bool):∀ (l:List α) (k:Nat),decide (0<=iK p l k)=l.any p
 |[],k=>by simp[iK]
 |x::xs,k=>by
  cases h:p x
  ·simp[iK,h,nE p xs (k+1)]
  ·simp[iK,h]
theorem CA(σ:St)(f:AV)(l:List Int)(p:Int->Bool)(hl:l.length<9223372036854775808)(hk:oS σ f)(h:∀ x∈l,eS T f [.int .i64 x] σ (.bool (p x))):eS T (.func 257 [] []) [ints l,f] σ (.int .i64 (iK p l 0)):=by
 refine bN (af:=PG) rfl (by simp[PG]) ?_;have hk0:=hk.nil;try simp only[↓QA,QB,seval,PG]
 refine bC (S:=Nat) 0 (fun k=>k<=l.length/\iK p (l.drop k) k=iK p l 0) (fun k=>l.length-k) (fun k=>[(0,ints l),(1,f),(7,.int .i64 l.length),(8,.int .i64 k)]) (fun _=>σ) ⟨Nat.zero_le _,by simp⟩ rfl ?_ fun k hk1=>?_
 ·try simp only[aB,QE,seval]
  try simp
 ·obtain⟨hkl,hi⟩:=hk1;try simp only[↓QA,QB,seval,SJ]
  refine aE (fun hd=>?_) fun hd=>?_
  ·have hlt:k<l.length:=by simpa using hd
   rw[List.drop_eq_getElem_cons hlt] at hi;simp only[iK] at hi;have hw:=bD hlt hl;try simp only[↓QA,QB,seval,hlt]
   refine aS (h l[k] (List.getElem_mem hlt)) ?_;try simp only[↓QA,QB,seval]
   cases hp:p l[k]
   ·try simp only[↓QA,QB,seval,hw]
    refine⟨k+1,⟨by omega,by rw[<-hi,hp];rfl⟩,by omega,?_⟩;try simp only[aB,QE,seval,hw,hk0,Nat.le_refl]
   ·try simp only[↓QA,QB,seval]
    refine bU [] (by first|rfl|simp) ?_;rw[<-hi,hp];try simp only[QS,QC,seval]
  ·have hlt:k=l.length:=by simp at hd;omega
   try simp only[↓QA,QB,seval]
   refine bU [] (by first|rfl|simp) ?_;rw[<-hi,hlt,List.drop_length];try simp only[QS,QC,seval,iK]
theorem k9(σ:St)(f:AV)(l:List Int)(p:Int->Bool)(hl:l.length<9223372036854775808)(hk:oS σ f)(h:∀ x∈l,eS T f [.int .i64 x] σ (.bool (p x))):eS T (.func 356 [] []) [ints l,f] σ (.bool (l.any p)):=by
 refine bN (af:=MP) rfl (by simp[MP]) ?_;try simp only[↓QA,QB,seval,MP]
 refine aS (CA σ f l p hl hk h) ?_;try simp only[↓QA,QB,seval]
 refine bU [] (by first|rfl|simp) ?_;rw[<-nE p l 0];try simp only[QS,QC,seval]
def g8(lo hi n:Int):Bool:=decide (n<lo)||decide (hi<n)
theorem zF(lo hi n:Int):eS T (.func 429 [] [.ptr 0 0,.ptr 1 0]) [.int .i64 n] [.cells [.int .i64 lo],.cells [.int .i64 hi]] (.bool (g8 lo hi n)):=by
 refine bN (af:=ZW) rfl (by simp[ZW]) ?_;try simp only[↓QA,QB,seval,ZW]
 refine aE (fun h=>?_) fun h=>?_
 all_goals
  try simp only[↓QA,QB,seval,h]
  refine bU [] (by first|rfl|simp) ?_;try simp only[QS,QC,seval,g8,h]
  try simp
def j6(lo hi:Int)(ns:List Int):Bool:=ns.any (g8 lo hi)
theorem cE(lo hi:Int)(ns:List Int)(hl:ns.length<9223372036854775808):cV T 317 [.int .i64 lo,.int .i64 hi,ints ns] (.bool (j6 lo hi ns)):=by
 refine aR (af:=aEQ) rfl (by simp[aEQ]) dd ?_;try simp only[↓QA,QB,seval,aEQ]
 refine aS (k9 _ _ ns (g8 lo hi) hl (fun τ=>?_) fun x _=>zF lo hi x) ?_
 ·try simp only[QS,QC,seval]
 ·try simp only[↓QA,QB,seval,j6]
theorem KU(lo hi n:Int):eS T (.func 378 [] [.ptr 0 0,.ptr 1 0]) [.int .i64 n] [.cells [.int .i64 lo],.cells [.int .i64 hi]] (.bool (g8 lo hi n)):=by
 refine bN (af:=ML) rfl (by simp[ML]) ?_;try simp only[↓QA,QB,seval,ML]
 refine aE (fun h=>?_) fun h=>?_
 all_goals
  try simp only[↓QA,QB,seval,h]
  refine bU [] (by first|rfl|simp) ?_;try simp only[QS,QC,seval,g8,h]
  try simp
theorem RP(lo hi:Int)(ns:List Int)(hl:ns.length<9223372036854775808):cV T 244 [.int .i64 lo,.int .i64 hi,ints ns] (.bool (j6 lo hi ns)):=by
 refine aR (af:=M8) rfl (by simp[M8]) dd ?_;try simp only[↓QA,QB,seval,M8]
 refine aS (k9 _ _ ns (g8 lo hi) hl (fun τ=>?_) fun x _=>KU lo hi x) ?_
 ·try simp only[QS,QC,seval]
 ·try simp only[↓QA,QB,seval,j6]
theorem oP (s:ByteArray):∀ n k,k≤n→fP s k=false→fP s n=false
  | 0, k, h, h1 => by have : k = 0 := by omega
                      subst this;exact h1
  |n+1,k,h,h1=>by
    by_cases hk:k=n+1
    · subst hk;exact h1
    · simp [fP,oP s n k (by omega) h1]
theorem gB(lo hi n:Int):j6 lo hi [n] = !inR n lo hi:=by
 rw[Bool.eq_iff_iff];simp[j6,g8,inR]
theorem BO(lo hi n m:Int):j6 lo hi [n,m]=(!inR n lo hi||!inR m lo hi):=by
 rw[Bool.eq_iff_iff];simp[j6,g8,inR]
theorem vQ(s:ByteArray)(hs:s.size<9223372036854775808):cV T 111 [.str s] (.bool (lT s)):=by
 refine aR (af:=OA) rfl (by simp[OA]) dd ?_;try simp only[↓QA,QB,seval,OA]
 refine bC (S:=Nat) 0 (fun k=>k<=s.size/\fP s k=true) (fun k=>s.size-k) (fun k=>[(0,.str s),(7,.ptr 0 0)]) (fun k=>[.siter s k]) ⟨Nat.zero_le _,rfl⟩ rfl ?_ fun k hk=>?_
 ·try simp only[aB,QE,seval]
  try simp
 ·obtain⟨hkl,hok⟩:=hk;by_cases hk1:k<s.size
  ·obtain⟨R,hR⟩:∃ R:Int,((Utf8.decode s k).1:Int)=R:=⟨_,rfl⟩;obtain⟨W,hW⟩:∃ W,(Utf8.decode s k).2=W:=⟨_,rfl⟩;have hstep:fP s (k+1)=vO k (eP s k):=by simp[fP,hok]
   have hbl:=CM s k;have key:(97<=R/\R<=122\/0<k/\(R=46\/48<=R/\R<=57))->W=1/\fP s (k+1)=true:=by
    intro h;by_cases hb:eP s k<128
    ·have:=pX hk1 hb;rw[this] at hR hW;have hR':R=eP s k:=by simp at hR;omega
     refine⟨hW.symm,?_⟩;rw[hstep,vO,<-hR'];simp[inR];omega
    ·have:=D2 hk1 (by omega);omega
   have key2:¬(97<=R/\R<=122\/0<k/\(R=46\/48<=R/\R<=57))->lT s=false:=by
    intro h;have:fP s (k+1)=false:=by
     rw[hstep,vO];by_cases hb:eP s k<128
     ·have:=pX hk1 hb;rw[this] at hR hW;have hR':R=eP s k:=by simp at hR;omega
      rw[<-hR'];simp[inR];omega
     ·simp[inR];omega
    simp[lT,oP s s.size (k+1) (by omega) this]
   have go:∀ (e:Env),W=1/\fP s (k+1)=true->Env.get e 0 = .str s->Env.get e 7 = .ptr 0 0->∃ s',(s'<=s.size/\fP s s'=true)/\s.size-s'<s.size-k/\aB [.siter s k] e [.siter s (k+W)] [(0,.str s),(7,.ptr 0 0)] [.siter s s']:=by
    intro e h e0 e7;refine⟨k+1,⟨by omega,h.2⟩,by omega,?_⟩;try simp only[aB,QE,seval,e0,e7,h.1]
    try simp[aF]
   try simp only[↓QA,QB,seval,H1,OY hk1,hR,hW]
   cases h1:decide (97<=R)
   ·have h1':¬97<=R:=by simpa using h1
    try simp only[↓QA,QB,seval,h1]
    cases h3:((k:Int)==0)
    ·have h3':0<k:=by simp at h3;omega
     try simp only[↓QA,QB,seval,h3]
     cases h4:(R==46)
     ·have h4':R≠46:=by simpa using h4
      try simp only[↓QA,QB,seval,h4]
      cases h5:decide (R<48)
      ·have h5':¬R<48:=by simpa using h5
       try simp only[↓QA,QB,seval,h5]
       cases h6:decide (57<R)
       ·have h6':¬57<R:=by simpa using h6
        try simp only[↓QA,QB,seval,h6]
        exact go _ (key (by omega)) (by try simp only[aB,QE,seval]) (by try simp only[aB,QE,seval])
       ·have h6':57<R:=by simpa using h6
        rw[key2 (by omega)];try simp only[↓QA,QB,seval,h6]
      ·have h5':R<48:=by simpa using h5
       rw[key2 (by omega)];try simp only[↓QA,QB,seval,h5]
     ·have h4':R=46:=by simpa using h4
      try simp only[↓QA,QB,seval,h4]
      exact go _ (key (by omega)) (by try simp only[aB,QE,seval]) (by try simp only[aB,QE,seval])
    ·have h3':k=0:=by simp at h3;omega
     rw[key2 (by omega)];try simp only[↓QA,QB,seval,h3]
   ·have h1':97<=R:=by simpa using h1
    try simp only[↓QA,QB,seval,h1]
    cases h2:decide (R<=122)
    ·have h2':¬R<=122:=by simpa using h2
     try simp only[↓QA,QB,seval,h2]
     cases h3:((k:Int)==0)
     ·have h3':0<k:=by simp at h3;omega
      try simp only[↓QA,QB,seval,h3]
      cases h4:(R==46)
      ·have h4':R≠46:=by simpa using h4
       try simp only[↓QA,QB,seval,h4]
       cases h5:decide (R<48)
       ·have h5':¬R<48:=by simpa using h5
        try simp only[↓QA,QB,seval,h5]
        cases h6:decide (57<R)
        ·have h6':¬57<R:=by simpa using h6
         try simp only[↓QA,QB,seval,h6]
         exact go _ (key (by omega)) (by try simp only[aB,QE,seval]) (by try simp only[aB,QE,seval])
        ·have h6':57<R:=by simpa using h6
         rw[key2 (by omega)];try simp only[↓QA,QB,seval,h6]
       ·have h5':R<48:=by simpa using h5
        rw[key2 (by omega)];try simp only[↓QA,QB,seval,h5]
      ·have h4':R=46:=by simpa using h4
       try simp only[↓QA,QB,seval,h4]
       exact go _ (key (by omega)) (by try simp only[aB,QE,seval]) (by try simp only[aB,QE,seval])
     ·have h3':k=0:=by simp at h3;omega
      rw[key2 (by omega)];try simp only[↓QA,QB,seval,h3]
    ·have h2':R<=122:=by simpa using h2
     try simp only[↓QA,QB,seval,h2]
     exact go _ (key (by omega)) (by try simp only[aB,QE,seval]) (by try simp only[aB,QE,seval])
  ·have hk2:k=s.size:=by omega
   try simp only[↓QA,QB,seval,H1,PM hk1]
   (refine bT (RP 1 16 [(s.size:Int)] (by simp)) (by simp[clr,clrs,ints]) (by simp[okV,okVs]) ?_;try simp only[↓QA,QB,seval])
   rw[gB];try simp only[↓QA,QB,seval]
   simp[lT,<-hk2,hok]
def lU(x:Int×Int):AV:=.tuple [.int .i64 x.1,.int .i64 x.2]
theorem rJ{α:Type}(f:α->ByteArray)(s:ByteArray):∀ l:List α,l.any (fun x=>decide (f x=s))=decide (jQ s (l.map f)≠(l.map f).length)
 |[]=>by simp[jQ]
 |x::xs=>by
  simp only[List.any_cons,rJ f s xs,List.map_cons,jQ,List.length_cons];by_cases h:f x=s
  ·simp[h]
  ·simp[h]
end Go.Am.Room.Tr
namespace Go.Am.Room.Tr
def cW:=zz @Int.toNat_natCast (@List.length_append.{0})
theorem wW(n:Int):cV T 386 [.int .i64 n] (.bool false):=by
 refine aR (af:=P0) rfl (by simp[P0]) dd ?_;try simp only[↓QA,QB,seval,cW,P0]
 try simp
def rU(a b:Int):Int:=if a<b then -1 else if b<a then 1 else 0
theorem P7(a b:Int):cV T 254 [.int .i64 a,.int .i64 b] (.int .i64 (rU a b)):=by
 refine aR (af:=OE) rfl (by simp[OE]) dd ?_;try simp only[↓QA,QB,seval,cW,OE]
 (refine aD (wW a) rfl dd ?_;try simp only[↓QA,QB,seval,cW])
 (refine aD (wW b) rfl dd ?_;try simp only[↓QA,QB,seval,cW])
 cases h1:decide (a<b)
 ·have h1':¬a<b:=by simpa using h1
  try simp only[↓QA,QB,seval,cW]
  cases h2:decide (b<a)
  ·have h2':¬b<a:=by simpa using h2
   try simp only[↓QA,QB,seval,cW]
   simp[rU,h1',h2']
  ·have h2':b<a:=by simpa using h2
   try simp only[↓QA,QB,seval,cW]
   simp[rU,h1',h2']
 ·have h1':a<b:=by simpa using h1
  try simp only[↓QA,QB,seval,cW]
  simp[rU,h1']
def qZ:List Int->List Int->Int
 |[],[]=>0
 |[],_::_=>-1
 |_::_,[]=>1
 |a::az,b::bs=>if rU a b=0 then qZ az bs else rU a b
theorem tR:∀ a b:List Int,decide (0<qZ a b)=less b a
 |[],[]=>rfl
 |[],b::bs=>rfl
 |a::az,[]=>rfl
 |a::az,b::bs=>by
  have ih:=tR az bs;simp only[qZ,less,rU];by_cases h1:a<b
  ·simp[h1,show ¬b=a by omega];omega
  ·by_cases h2:b<a
   ·simp[h1,h2,show ¬b=a by omega]
   ·have:b=a:=by omega
    subst this;simp[ih]
theorem BX(a b:List Int)(ha:a.length<9223372036854775808)(hb:b.length<9223372036854775808):cV T 118 [ints a,ints b] (.int .i64 (qZ a b)):=by
 refine aR (af:=M0) rfl (by simp[M0]) dd ?_;try simp only[↓QA,QB,seval,cW,M0]
 refine bC (S:=Nat) 0 (fun k=>k<=a.length/\k<=b.length/\qZ (a.drop k) (b.drop k)=qZ a b) (fun k=>a.length-k) (fun k=>[(0,ints a),(1,ints b),(9,ints a),(10,.int .i64 a.length),(11,.int .i64 k)]) (fun _=>[]) ⟨by simp,by simp,by simp⟩ rfl ?_ fun k hk=>?_
 ·try simp only[aB,QE,seval,cW]
  try simp
 ·obtain⟨hk,hkb,hq⟩:=hk;try simp only[↓QA,QB,seval,cW,QY]
  refine aE (fun h=>?_) fun h=>?_
  ·have hk1:k<a.length:=by simpa using h
   have hw:=bD hk1 ha;rw[List.drop_eq_getElem_cons hk1] at hq;try simp only[↓QA,QB,seval,cW,hk1]
   refine aE (fun h2=>?_) fun h2=>?_
   ·have hk2:k=b.length:=by simp at h2;omega
    have hd:b.drop k=[]:=by rw[hk2,List.drop_length]
    rw[hd] at hq;simp only[qZ] at hq;try simp only[↓QA,QB,seval,cW,hk1,<-hq]
   ·have hk2:k<b.length:=by simp at h2;omega
    rw[List.drop_eq_getElem_cons hk2] at hq;simp only[qZ] at hq;try simp only[↓QA,QB,seval,cW,hk1,hk2]
    (refine aD (P7 a[k] b[k]) rfl dd ?_;try simp only[↓QA,QB,seval,cW,hk1,hk2])
    cases h3:(rU a[k] b[k]==0)
    ·have h3':rU a[k] b[k]≠0:=by simpa using h3
     rw[if_neg h3'] at hq;try simp only[↓QA,QB,seval,cW,h3,hk1,hk2,hq]
    ·have h3':rU a[k] b[k]=0:=by simpa using h3
     rw[if_pos h3'] at hq;try simp only[↓QA,QB,seval,cW,h3,hk1,hk2]
     refine⟨k+1,⟨by omega,by omega,hq⟩,by omega,?_⟩;try simp only[aB,QE,seval,cW,hw]
  ·have hk1:k=a.length:=by simp at h;omega
   rw[hk1,List.drop_length] at hq;try simp only[↓QA,QB,seval,cW]
   refine aE (fun h2=>?_) fun h2=>?_
   ·have hk2:a.length<b.length:=by simpa using h2
    rw[List.drop_eq_getElem_cons hk2] at hq;try simp only[↓QA,QB,seval,cW,<-hq,qZ]
   ·have hk2:a.length=b.length:=by simp at h2;omega
    rw[hk2,List.drop_length] at hq;try simp only[↓QA,QB,seval,cW,<-hq,qZ]
theorem xG(s n:Nat)(hs:s<9223372036854775808)(hn:n<=60):cV T 322 [.int .i64 s,.int .i64 n] (ints (lst n s)):=by
 refine aR (af:=YL) rfl (by simp[YL]) dd ?_;try simp only[↓QA,QB,seval,cW,YL]
 obtain⟨R,hRR⟩:∃ R,lst n s=R:=⟨_,rfl⟩;have hRR':[]++(aL ((0:Nat):Int) (n-0)).filter (fun i=>decide (s/2^i.toNat%2=1))=R:=hRR;rw[hRR];refine jN 4 1 [] rfl ?_;refine bC (S:=Nat×List Int×Bool) (0,[],false) (fun x=>x.1<=n/\x.2.1.length<=x.1/\x.2.1++(aL (x.1:Int) (n-x.1)).filter (fun i=>decide (s/2^i.toNat%2=1))=R) (fun x=>n-x.1)
  (fun x=>[(0,.int .i64 s),(4,.lit (x.2.1.map (.int .i64)) false (some 0)),(6,.int .i64 n),(7,.int .i64 x.1)]) (fun x=>[.tok 1 x.2.1.length x.2.2]) ⟨by simp,by simp,hRR'⟩ rfl ?_ fun x hx=>?_
 ·try simp only[aB,QE,seval,cW]
  try simp
 ·obtain⟨k,acc,ex⟩:=x;obtain⟨hk,hal,hacc⟩:=hx;simp only at hk hal hacc;try simp only[↓QA,QB,seval,cW,aDW]
  refine aE (fun h=>?_) fun h=>?_
  ·have hk1:k<n:=by simpa using h
   have hw:=bD hk1 (by omega);rw[show n-k=(n-(k+1))+1 by omega] at hacc;simp only[aL,List.filter_cons,Int.toNat_natCast] at hacc;rw[show ((k:Int)+1)=((k+1:Nat):Int) by omega] at hacc;have vs:=N7 s k (by omega);have va:=FF (s/2^k) (Nat.lt_of_le_of_lt (Nat.div_le_self _ _) hs);have hbit:(((s/2^k%2:Nat):Int)==1)=decide (s/2^k%2=1):=by
    generalize s/2^k%2=q;rw[Bool.eq_iff_iff,beq_iff_eq,decide_eq_true_eq];omega
   try simp only[↓QA,QB,seval,cW,vs,va,hbit]
   cases hb:decide (s/2^k%2=1)
   ·simp only[hb,Bool.false_eq_true,if_false] at hacc;try simp only[↓QA,QB,seval,cW,hw]
    refine⟨(k+1,acc,ex),⟨by simp only;omega,by simp only;omega,by simpa using hacc⟩,by simp only;omega,?_⟩;try simp only[aB,QE,seval,cW,hw,lB]
    try simp[aF]
   ·simp only[hb,if_true] at hacc;have hap:=fun (τ:St)=>kV (σ:=.tok 1 acc.length ex::τ) (l:=acc) (a:=(k:Int)) (ex:=ex) (t:=0) (by omega) rfl
    try simp only[↓QA,QB,seval,cW,hw,hap]
    refine⟨(k+1,acc++[(k:Int)],true),⟨by simp only;omega,by simp only[List.length_append,List.length_cons,List.length_nil];omega,by
     rw[<-hacc];simp⟩,by simp only;omega,?_⟩
    try simp only[aB,QE,seval,cW,hw,lB,List.map_append,List.map_cons,List.map_nil]
    try simp[aF]
  ·have hk1:k=n:=by simp at h;omega
   rw[hk1] at hacc;simp only[Nat.sub_self,aL,List.filter_nil,List.append_nil] at hacc;try simp only[↓QA,QB,seval,cW,hacc,ints]
end Go.Am.Room.Tr
namespace Go.Am.Room.Tr
def dU:=zz @encNet_eq (zz @netCells_eq (zz @encRail_eq (zz @encTram_eq (zz @encSeen_eq (zz @aJ (zz @S_mapRail (zz @S_mapTram (zz @S_mapSeen (zz @bZ (zz @bY (@Nat.not_lt_zero)))))))))))
theorem aAY(r:Rail)(s:Int):cV T 483 [encRail r,.int .i64 s] (.int .i64 (dP r s)):=by
 refine aR (af:=X4) rfl (by simp[X4]) dd ?_;try simp only[↓QA,QB,seval,dU,X4]
 cases h1:(s==r.a)
 ·have h1':s≠r.a:=by simpa using h1
  try simp only[↓QA,QB,seval,dU,h1]
  cases h2:(s==r.b)
  ·have h2':s≠r.b:=by simpa using h2
   try simp only[↓QA,QB,seval,dU,h2]
   simp[dP,h1',h2']
  ·have h2':s=r.b:=by simpa using h2
   try simp only[↓QA,QB,seval,dU,h2]
   simp only[dP,if_neg h1',if_pos h2']
 ·have h1':s=r.a:=by simpa using h1
  try simp only[↓QA,QB,seval,dU,h1]
  simp only[dP,if_pos h1']
structure MetIs (b:Nat) (met:List Int):Prop where
 lt:b<2^6
 bit:∀ i:Nat,i<6->b.testBit i=met.contains (i:Int)
theorem TI{b:Nat}{met:List Int}(h:MetIs b met){x:Nat}(hx:x<6):MetIs (b|||2^x) (met++[(x:Int)]):=by
 refine⟨Nat.or_lt_two_pow h.lt (Nat.pow_lt_pow_right (by omega) hx),fun i hi=>?_⟩;rw[Nat.testBit_or,h.bit i hi,Nat.testBit_two_pow,Bool.eq_iff_iff];simp;rw[or_congr_right];omega
theorem aFO{x:Nat}(hx:x<6):MetIs (2^x) [(x:Int)]:=by
 have:=TI (b:=0) (met:=[]) ⟨by simp,fun i _=>by simp⟩ hx;simpa using this
theorem aH6{b:Nat}{met:List Int}(h:MetIs b met){i:Nat}(hi:i<6):(((b/2^i%2:Nat):Int)==0) = !met.contains (i:Int):=by
 have e:(((b/2^i%2:Nat):Int)==0) = !b.testBit i:=by
  rw[pR,MD,Bool.eq_iff_iff];simp
 rw[e,h.bit i hi]
theorem aHT{v:Net}{r:Rail}(h:RailOk v r)(s:Int):-1<=dP r s/\dP r s<v.stations:=by
 have h1:=h.a;have h2:=h.b;unfold dP;split
 ·omega
 ·split<;>omega
theorem U7{v:Net}{p:List Int}{k:Nat}(hk:k<p.length)(s:Int)(met:List Int):g9 v (p.drop k) s met=if s=0\/dP (eW v p[k]) s<0\/met.contains (dP (eW v p[k]) s)=true then none else g9 v (p.drop (k+1)) (dP (eW v p[k]) s) (met++[dP (eW v p[k]) s]):=by
 rw[List.drop_eq_getElem_cons hk,g9]
def whB(o:Option Int)(p:List Int):Bool:=match o with|some o=>o==0&&!p.isEmpty|none=>false
def bgB(o:Option Int):Bool:=match o with|some o=>!(o==0)|none=>false
theorem JE(v:Net)(hst:2<=v.stations/\v.stations<=5)(hra:∀ r∈v.rails,RailOk v r)(s:Nat)(hs:s<5)(p:List Int)(hp:∀ r∈p,0<=r/\r<v.rails.length)(hl:p.length<9223372036854775808):
  cV T 426 [encNet v,.int .i64 s,ints p] (.tuple [.bool (iN v s p),.bool (fX v s p)]):=by
 refine aR (af:=ZO) rfl (by simp[ZO]) dd ?_;obtain⟨R,hR⟩:∃ R,g9 v p s [(s:Int)]=R:=⟨_,rfl⟩;have hwb:iN v s p=whB R p:=by rw[<-hR];rfl
 have hbb:fX v s p=bgB R:=by rw[<-hR];rfl
 rw[hwb,hbb];have hsh:=rB s (by omega);try simp only[↓QA,QB,seval,dU,ZO,hsh]
 refine bC (S:=Nat×Nat×Nat×List Int) (0,s,2^s,[(s:Int)]) (fun a=>a.1<=p.length/\a.2.1<5/\MetIs a.2.2.1 a.2.2.2/\g9 v (p.drop a.1) (a.2.1:Int) a.2.2.2=R) (fun a=>p.length-a.1)
  (fun a=>[(1,.int .i64 (a.2.1:Nat)),(2,ints p),(3,.ptr 0 0),(8,.int .i64 (a.2.2.1:Nat)),(13,ints p),(14,.int .i64 p.length),(15,.int .i64 a.1)]) (fun a=>[.cells (netCells v)]) ⟨Nat.zero_le _,hs,aFO (by omega),by simpa using hR⟩ (by simp[netCells,ints]) ?_ fun a ha=>?_
 ·try simp only[aB,QE,seval,dU,ints]
  try simp
 ·obtain⟨k,c,b,met⟩:=a;obtain⟨hk,hc,hm,hq⟩:=ha;simp only at hk hc hm hq;try simp only[↓QA,QB,seval,dU,W2]
  refine aE (fun h=>?_) fun h=>?_
  ·have hk1:k<p.length:=by simpa using h
   have hw:=bD hk1 hl;rw[U7 hk1] at hq;have hpk:=hp _ (List.getElem_mem hk1);obtain⟨r,hr⟩:∃ r:Nat,p[k]=(r:Int):=⟨p[k].toNat,by omega⟩;rw[hr] at hpk hq;have hr1:r<v.rails.length:=by omega
   rw[EW hr1] at hq;have hro:=hra _ (List.getElem_mem hr1);obtain⟨z,hz⟩:∃ z,v.rails[r]=z:=⟨_,rfl⟩;rw[hz] at hq hro;have hov:=aAY z c;have hoi:=aHT hro (c:Int);obtain⟨o,ho⟩:∃ o,dP z (c:Int)=o:=⟨_,rfl⟩;rw[ho] at hq hov hoi;have hc0:((c:Int)==0)=decide (c=0):=MD c;try simp only[↓QA,QB,seval,dU,hk1,hr]
   cases q1:((c:Int)==0)
   ·have q1':¬(c:Int)=0:=by simpa using q1
    try simp only[↓QA,QB,seval,dU,hr1,hz]
    (refine aD (hov) rfl dd ?_;try simp only[↓QA,QB,seval,dU,hr1,hz])
    cases q2:decide ((0:Int)<=o)
    ·have q2':¬0<=o:=by simpa using q2
     rw[if_pos (.inr (.inl (by omega)))] at hq;try simp only[↓QA,QB,seval,dU,q2]
     rw[<-hq];try rfl
    ·have q2':0<=o:=by simpa using q2
     obtain⟨O,rfl⟩:∃ O:Nat,o=(O:Int):=⟨o.toNat,by omega⟩;have hO:O<5:=by omega
     have hb:=hm.lt;have vs:=N7 b O (by omega);have va:=FF (b/2^O) (Nat.lt_of_le_of_lt (Nat.div_le_self _ _) (by omega));have vb:=aH6 hm (show O<6 by omega);have hsh:=rB O (by omega);have hp2:=kZ (show O<=60 by omega);have hor:=S4 b (2^O) (by omega) (by omega);cases q3:met.contains (O:Int)
     ·rw[q3] at vb;rw[if_neg (by rw[not_or,not_or];exact⟨q1',by omega,by rw[q3];simp⟩)] at hq;try simp only[↓QA,QB,seval,dU,q2,vs,va,vb,hsh,hor,hw]
      refine⟨(k+1,O,b|||2^O,met++[(O:Int)]),⟨by simp only;omega,hO,TI hm (by omega),hq⟩,by simp only;omega,?_⟩;try simp only[aB,QE,seval,dU,hw,ints]
      try simp[aF]
     ·rw[q3] at vb;rw[if_pos (.inr (.inr q3))] at hq;try simp only[↓QA,QB,seval,dU,q2,vs,va,vb]
      rw[<-hq];try rfl
   ·have q1':(c:Int)=0:=by simpa using q1
    rw[if_pos (.inl q1')] at hq;try simp only[↓QA,QB,seval,dU]
    rw[<-hq];try rfl
  ·have hk1:k=p.length:=by
    have:¬k<p.length:=by simpa using h
    omega
   rw[hk1,List.drop_length,g9] at hq;have hle:decide ((0:Int)<(p.length:Int)) = !p.isEmpty:=by cases p<;>simp
   cases q1:((c:Int)==0)
   ·try simp only[↓QA,QB,seval,dU,q1]
    rw[<-hq];simp only[whB,bgB,q1];try rfl
   ·try simp only[↓QA,QB,seval,dU,q1,hle]
    rw[<-hq];simp only[whB,bgB,q1];try rfl
theorem XU(σ:St)(f:AV)(l:List Tram)(p:Tram->Bool)(hl:l.length<9223372036854775808)(hk:oS σ f)(h:∀ x∈l,eS T f [encTram x] σ (.bool (p x))):eS T (.func 482 [] []) [.lit (l.map encTram) false none,f] σ (.int .i64 (iK p l 0)):=by
 refine bN (af:=aDT) rfl (by simp[aDT]) ?_;have hk0:=hk.nil;try simp only[↓QA,QB,seval,dU,aDT]
 refine bC (S:=Nat) 0 (fun k=>k<=l.length/\iK p (l.drop k) k=iK p l 0) (fun k=>l.length-k) (fun k=>[(0,.lit (l.map encTram) false none),(1,f),(7,.int .i64 l.length),(8,.int .i64 k)]) (fun _=>σ) ⟨Nat.zero_le _,by simp⟩ rfl ?_ fun k hk1=>?_
 ·try simp only[aB,QE,seval,dU]
  try simp
 ·obtain⟨hkl,hi⟩:=hk1;try simp only[↓QA,QB,seval,dU,XL]
  refine aE (fun hd=>?_) fun hd=>?_
  ·have hlt:k<l.length:=by simpa using hd
   rw[List.drop_eq_getElem_cons hlt] at hi;simp only[iK] at hi;have hw:=bD hlt hl;try simp only[↓QA,QB,seval,dU,hlt]
   refine aS (h l[k] (List.getElem_mem hlt)) ?_;try simp only[↓QA,QB,seval,dU]
   cases hp:p l[k]
   ·try simp only[↓QA,QB,seval,dU,hw]
    refine⟨k+1,⟨by omega,by rw[<-hi,hp];rfl⟩,by omega,?_⟩;try simp only[aB,QE,seval,dU,hw,hk0,Nat.le_refl,S_mapTram]
   ·try simp only[↓QA,QB,seval,dU]
    refine bU [] (by first|rfl|simp) ?_;rw[<-hi,hp];try simp only[QS,QC,seval,dU]
  ·have hlt:k=l.length:=by simp at hd;omega
   try simp only[↓QA,QB,seval,dU]
   refine bU [] (by first|rfl|simp) ?_;rw[<-hi,hlt,List.drop_length];try simp only[QS,QC,seval,dU,iK]
theorem MR(σ:St)(f:AV)(l:List Tram)(p:Tram->Bool)(hl:l.length<9223372036854775808)(hk:oS σ f)(h:∀ x∈l,eS T f [encTram x] σ (.bool (p x))):eS T (.func 424 [] []) [.lit (l.map encTram) false none,f] σ (.bool (l.any p)):=by
 refine bN (af:=aB7) rfl (by simp[aB7]) ?_;try simp only[↓QA,QB,seval,dU,aB7]
 refine aS (XU σ f l p hl hk h) ?_;try simp only[↓QA,QB,seval,dU]
 refine bU [] (by first|rfl|simp) ?_;rw[<-nE p l 0];try simp only[QS,QC,seval,dU]
end Go.Am.Room.Tr
namespace Go.Am.Room.Tr
def aK:=zz @encNet_eq (zz @netCells_eq (zz @encRail_eq (zz @encTram_eq (zz @encSeen_eq (zz @aJ (zz @S_mapRail (zz @S_mapTram (zz @S_mapSeen (zz @bZ (zz @bY (@Nat.not_lt_zero)))))))))))
def iM{α:Type}(of:Nat->α->Int)(l:List α):Int×Int:=match aU of l 0 with|some (i,e)=>(i,e)|none=>(0,0)
theorem KH(σ:St)(f:AV)(l:List Rail)(of:Nat->Rail->Int)(hl:l.length<9223372036854775808)(hk:oS σ f)(h:∀ i (hi:i<l.length),eS T f [.int .i64 i,encRail l[i]] (σ++[.cells (encRail l[i]).cells]) (.int .i64 (of i l[i]))):eS T (.func 420 [] []) [.lit (l.map encRail) false none,f] σ (lU (iM of l)):=by
 refine bN (af:=X8) rfl (by simp[X8]) ?_;have hk0:=hk.nil;have hk2:∀ τ,cQ (σ++τ) σ.length 20 f=some f:=hk;try simp only[↓QA,QB,seval,aK,X8]
 refine bC (S:=Nat) 0 (fun k=>k<=l.length/\aU of (l.drop k) k=aU of l 0) (fun k=>l.length-k) (fun k=>[(1,f),(9,.lit (l.map encRail) false none),(10,.int .i64 l.length),(11,.int .i64 k)]) (fun _=>σ) ⟨Nat.zero_le _,by simp⟩ rfl ?_ fun k hk1=>?_
 ·try simp only[aB,QE,seval,aK]
  try simp
 ·obtain⟨hkl,hi⟩:=hk1;try simp only[↓QA,QB,seval,aK,W8]
  refine aE (fun hd=>?_) fun hd=>?_
  ·have hlt:k<l.length:=by simpa using hd
   have hs:=h k hlt;rw[eN hlt] at hi;have hw:=bD hlt hl;try simp only[↓QA,QB,seval,aK,hlt] at hs
   try simp only[↓QA,QB,seval,aK,hlt]
   refine aS hs ?_;try simp only[↓QA,QB,seval,aK]
   cases hp:(of k l[k]==0)
   ·have hp':of k l[k]≠0:=by simpa using hp
    rw[if_neg hp'] at hi;try simp only[↓QA,QB,seval,aK,hp]
    refine bU _ rfl ?_;try simp only[QS,QC,seval,aK,lU,iM,<-hi,reduceCtorEq]
   ·have hp':of k l[k]=0:=by simpa using hp
    rw[if_pos hp'] at hi;try simp only[↓QA,QB,seval,aK,hp,hw]
    refine⟨k+1,⟨by omega,hi⟩,by omega,?_⟩;try simp only[aB,QE,seval,aK,hw,hk0,hk2,Nat.le_refl,S_mapRail]
  ·have hlt:k=l.length:=by simp at hd;omega
   rw[fC hlt] at hi;try simp only[↓QA,QB,seval,aK]
   refine bU [] (by first|rfl|simp) ?_;try simp only[QS,QC,seval,aK,lU,iM,<-hi,reduceCtorEq]
theorem KT(σ:St)(f:AV)(l:List Tram)(of:Nat->Tram->Int)(hl:l.length<9223372036854775808)(hk:oS σ f)(h:∀ i (hi:i<l.length),eS T f [.int .i64 i,encTram l[i]] (σ++[.cells (encTram l[i]).cells]) (.int .i64 (of i l[i]))):eS T (.func 422 [] []) [.lit (l.map encTram) false none,f] σ (lU (iM of l)):=by
 refine bN (af:=ZN) rfl (by simp[ZN]) ?_;have hk0:=hk.nil;have hk2:∀ τ,cQ (σ++τ) σ.length 20 f=some f:=hk;try simp only[↓QA,QB,seval,aK,ZN]
 refine bC (S:=Nat) 0 (fun k=>k<=l.length/\aU of (l.drop k) k=aU of l 0) (fun k=>l.length-k) (fun k=>[(1,f),(9,.lit (l.map encTram) false none),(10,.int .i64 l.length),(11,.int .i64 k)]) (fun _=>σ) ⟨Nat.zero_le _,by simp⟩ rfl ?_ fun k hk1=>?_
 ·try simp only[aB,QE,seval,aK]
  try simp
 ·obtain⟨hkl,hi⟩:=hk1;try simp only[↓QA,QB,seval,aK,aEJ]
  refine aE (fun hd=>?_) fun hd=>?_
  ·have hlt:k<l.length:=by simpa using hd
   have hs:=h k hlt;rw[eN hlt] at hi;have hw:=bD hlt hl;try simp only[↓QA,QB,seval,aK,hlt] at hs
   try simp only[↓QA,QB,seval,aK,hlt]
   refine aS hs ?_;try simp only[↓QA,QB,seval,aK]
   cases hp:(of k l[k]==0)
   ·have hp':of k l[k]≠0:=by simpa using hp
    rw[if_neg hp'] at hi;try simp only[↓QA,QB,seval,aK,hp]
    refine bU _ rfl ?_;try simp only[QS,QC,seval,aK,lU,iM,<-hi,reduceCtorEq]
   ·have hp':of k l[k]=0:=by simpa using hp
    rw[if_pos hp'] at hi;try simp only[↓QA,QB,seval,aK,hp,hw]
    refine⟨k+1,⟨by omega,hi⟩,by omega,?_⟩;try simp only[aB,QE,seval,aK,hw,hk0,hk2,Nat.le_refl,S_mapTram]
  ·have hlt:k=l.length:=by simp at hd;omega
   rw[fC hlt] at hi;try simp only[↓QA,QB,seval,aK]
   refine bU [] (by first|rfl|simp) ?_;try simp only[QS,QC,seval,aK,lU,iM,<-hi,reduceCtorEq]
theorem LI(σ:St)(f:AV)(l:List Seen)(of:Nat->Seen->Int)(hl:l.length<9223372036854775808)(hk:oS σ f)(h:∀ i (hi:i<l.length),eS T f [.int .i64 i,encSeen l[i]] (σ++[.cells (encSeen l[i]).cells]) (.int .i64 (of i l[i]))):eS T (.func 427 [] []) [.lit (l.map encSeen) false none,f] σ (lU (iM of l)):=by
 refine bN (af:=aCT) rfl (by simp[aCT]) ?_;have hk0:=hk.nil;have hk2:∀ τ,cQ (σ++τ) σ.length 20 f=some f:=hk;try simp only[↓QA,QB,seval,aK,aCT]
 refine bC (S:=Nat) 0 (fun k=>k<=l.length/\aU of (l.drop k) k=aU of l 0) (fun k=>l.length-k) (fun k=>[(1,f),(9,.lit (l.map encSeen) false none),(10,.int .i64 l.length),(11,.int .i64 k)]) (fun _=>σ) ⟨Nat.zero_le _,by simp⟩ rfl ?_ fun k hk1=>?_
 ·try simp only[aB,QE,seval,aK]
  try simp
 ·obtain⟨hkl,hi⟩:=hk1;try simp only[↓QA,QB,seval,aK,YB]
  refine aE (fun hd=>?_) fun hd=>?_
  ·have hlt:k<l.length:=by simpa using hd
   have hs:=h k hlt;rw[eN hlt] at hi;have hw:=bD hlt hl;try simp only[↓QA,QB,seval,aK,hlt] at hs
   try simp only[↓QA,QB,seval,aK,hlt]
   refine aS hs ?_;try simp only[↓QA,QB,seval,aK]
   cases hp:(of k l[k]==0)
   ·have hp':of k l[k]≠0:=by simpa using hp
    rw[if_neg hp'] at hi;try simp only[↓QA,QB,seval,aK,hp]
    refine bU _ rfl ?_;try simp only[QS,QC,seval,aK,lU,iM,<-hi,reduceCtorEq]
   ·have hp':of k l[k]=0:=by simpa using hp
    rw[if_pos hp'] at hi;try simp only[↓QA,QB,seval,aK,hp,hw]
    refine⟨k+1,⟨by omega,hi⟩,by omega,?_⟩;try simp only[aB,QE,seval,aK,hw,hk0,hk2,Nat.le_refl,S_mapSeen]
  ·have hlt:k=l.length:=by simp at hd;omega
   rw[fC hlt] at hi;try simp only[↓QA,QB,seval,aK]
   refine bU [] (by first|rfl|simp) ?_;try simp only[QS,QC,seval,aK,lU,iM,<-hi,reduceCtorEq]
theorem MI(s:Span):(fW s 1 20=7)↔(!inR s.lo 1 20||!inR s.hi 1 20)=true:=by
 unfold fW;split
 ·rename_i h;simp[h]
 ·rename_i h;constructor
  ·intro q;split at q<;>omega
  ·intro q;exact absurd q h
theorem L4(v:Net)(W:Int)(hW:∀ s:Int,inR s 0 W=pC v s)(i:Int)(r:Rail)(b:ABlk)(τ:St):eS T (.func 421 [] [.ptr 1 0]) [.int .i64 i,encRail r] (b::.cells [.int .i64 W]::τ) (.int .i64 (dN v r)):=by
 refine bN (af:=aDL) rfl (by simp[aDL]) ?_;try simp only[↓QA,QB,seval,aK,aDL]
 (refine bT (cE 0 W [r.a,r.b] (by simp)) (by simp[clr,clrs,ints]) (by simp[okV,okVs]) ?_;try simp only[↓QA,QB,seval,aK,BO])
 rw[hW,hW];cases h1:(!pC v r.a||!pC v r.b)
 ·have h1':¬(pC v r.a=false\/pC v r.b=false):=by
   rintro (h|h)<;>rw[h] at h1<;>simp at h1
  try simp only[↓QA,QB,seval,aK]
  cases h2:(r.a==r.b)
  ·have h2':r.a≠r.b:=by simpa using h2
   try simp only[↓QA,QB,seval,aK,h2]
   (refine bT (cE 1 20 [r.mins.lo,r.mins.hi] (by simp)) (by simp[clr,clrs,ints]) (by simp[okV,okVs]) ?_;try simp only[↓QA,QB,seval,aK,BO])
   cases h3:(!inR r.mins.lo 1 20||!inR r.mins.hi 1 20)
   ·have h3':fW r.mins 1 20≠7:=fun q=>by rw[MI,h3] at q;cases q
    try simp only[↓QA,QB,seval,aK]
    (refine bT (cE 0 2 [r.shut] (by simp)) (by simp[clr,clrs,ints]) (by simp[okV,okVs]) ?_;try simp only[↓QA,QB,seval,aK,gB])
    cases h4:inR r.shut 0 2
    ·try simp only[↓QA,QB,seval,aK]
     refine bU _ rfl ?_;have:dN v r=7:=by rw[dN,if_neg h1',if_neg h2',if_pos (.inr h4)]
     rw[this];try simp only[QS,QC,seval,aK]
    ·have hlo:inR r.mins.lo 1 20=true:=by
      cases q:inR r.mins.lo 1 20
      ·rw[q] at h3;simp at h3
      ·rfl
     have hhi:inR r.mins.hi 1 20=true:=by
      cases q:inR r.mins.hi 1 20
      ·rw[q] at h3;simp at h3
      ·rfl
     rw[c9] at hlo hhi;have hw:IntKind.i64.wrap (r.mins.hi-r.mins.lo)=r.mins.hi-r.mins.lo:=bM ⟨by omega,by omega⟩;have hen:fW r.mins 1 20=if r.mins.hi<r.mins.lo then 2 else 0:=by rw[fW,h3];rfl
     simp only[Bool.not_true,uS];try simp only[↓QA,QB,seval,aK,hw]
     (refine bT (cE 0 1 [r.mins.hi-r.mins.lo] (by simp)) (by simp[clr,clrs,ints]) (by simp[okV,okVs]) ?_;try simp only[↓QA,QB,seval,aK,gB])
     cases h5:inR (r.mins.hi-r.mins.lo) 0 1
     ·have h5':¬(0<=r.mins.hi-r.mins.lo/\r.mins.hi-r.mins.lo<=1):=fun q=>by rw[<-c9,h5] at q;cases q
      try simp only[↓QA,QB,seval,aK]
      refine bU _ rfl ?_;have:dN v r=2:=by
       rw[dN,if_neg h1',if_neg h2',if_neg (by rw[not_or];exact⟨h3',by rw[h4];simp⟩),hen];split
       ·rw[if_pos (.inl (by omega))]
       ·rw[if_pos (.inr (by omega))]
      rw[this];try simp only[QS,QC,seval,aK]
     ·rw[c9] at h5;try simp only[↓QA,QB,seval,aK]
      refine bU _ rfl ?_;have:dN v r=0:=by
       rw[dN,if_neg h1',if_neg h2',if_neg (by rw[not_or];exact⟨h3',by rw[h4];simp⟩),hen,if_neg (by omega)];try rfl
      rw[this];try simp only[QS,QC,seval,aK]
   ·have h3':fW r.mins 1 20=7:=MI _ |>.2 h3;try simp only[↓QA,QB,seval,aK]
    refine bU _ rfl ?_;have:dN v r=7:=by rw[dN,if_neg h1',if_neg h2',if_pos (.inl h3')]
    rw[this];try simp only[QS,QC,seval,aK]
  ·have h2':r.a=r.b:=by simpa using h2
   try simp only[↓QA,QB,seval,aK,h2]
   refine bU _ rfl ?_;have:dN v r=2:=by rw[dN,if_neg h1',if_pos h2']
   rw[this];try simp only[QS,QC,seval,aK]
 ·have h1':pC v r.a=false\/pC v r.b=false:=by
   cases a:pC v r.a
   ·exact .inl rfl
   ·cases b:pC v r.b
    ·exact .inr rfl
    ·rw[a,b] at h1;simp at h1
  try simp only[↓QA,QB,seval,aK]
  refine bU _ rfl ?_;have:dN v r=4:=by rw[dN,if_pos h1']
  rw[this];try simp only[QS,QC,seval,aK]
theorem FR(s x:Tram)(b0 b1:ABlk)(τ:St):eS T (.func 425 [] [.ptr (τ.length+2) 0]) [encTram x] (b0::b1::(τ++[.cells (encTram s).cells])) (.bool (decide (x.name=s.name))):=by
 refine bN (af:=Y8) rfl (by simp[Y8]) ?_;try simp only[↓QA,QB,seval,aK,Y8,E2,List.length_append]
 refine bU [.cells [.str x.name,.int .i64 x.frm,.int .i64 x.leaves,.int .i64 x.due,.lit (x.path.map (.int .i64)) false none]] (by first|rfl|simp) ?_;try simp only[QS,QC,seval,aK]
theorem SN(lo hi:Int)(l:List Int):j6 lo hi l = !l.all (fun r=>inR r lo hi):=by
 rw[j6]
 induction l with
 |nil=>rfl
 |cons x l ih =>
  rw[List.any_cons,List.all_cons,ih,Bool.not_and]
  congr 1
  rw[Bool.eq_iff_iff];simp[g8,inR];try omega
theorem KZ(v:Net)(h:Fits v)(hst:2<=v.stations/\v.stations<=5)(hra:∀ r∈v.rails,RailOk v r)(i:Nat)(hi:i<v.trams.length)(τ:St):eS T (.func 423 [] [.ptr 0 0,.ptr 1 0]) [.int .i64 i,encTram v.trams[i]] (.cells (netCells v)::.cells [.int .i64 (v.stations-1)]::τ) (.int .i64 (k6 v i v.trams[i])):=by
 refine bN (af:=Z8) rfl (by simp[Z8]) ?_;have hfr:=h.rails;have hsz:=h.names _ (List.getElem_mem hi);have hpz:=h.paths _ (List.getElem_mem hi);have hts:(v.trams.take i).length<9223372036854775808:=by have:=h.trams;simp;omega
 obtain⟨s,hs⟩:∃ s,v.trams[i]=s:=⟨_,rfl⟩;have hk:k6 v i s=if fresh s.name ((v.trams.take i).map Tram.name)=0 then iO v s else fresh s.name ((v.trams.take i).map Tram.name):=rfl
 rw[hs] at hsz hpz ⊢;obtain⟨E,hE⟩:∃ E,k6 v i s=E:=⟨_,rfl⟩;rw[hE] at hk ⊢;have hwr:IntKind.i64.wrap ((v.rails.length:Int)-1)=(v.rails.length:Int)-1:=bM ⟨by omega,by omega⟩;have fin:∀ (n:Int) (b:List AV),n=E->DR (some (.int .i64 n)) (.cells (netCells v)::.cells [.int .i64 (v.stations-1)]::τ) (.cells (netCells v)::.cells [.int .i64 (v.stations-1)]::(τ++[.cells b])) (.int .i64 E):=fun n b hv=>by
  refine bU [.cells b] (by first|rfl|simp) ?_;rw[hv];try simp only[QS,QC,seval,aK]
 simp only[netCells_eq] at fin;try simp only[↓QA,QB,seval,aK,Z8]
 (refine aD (vQ s.name hsz) rfl dd ?_;try simp only[↓QA,QB,seval,aK])
 cases h1:lT s.name
 ·try simp only[↓QA,QB,seval,aK]
  exact fin _ _ (by rw[hk];simp[fresh,h1])
 ·have hc:=MR (.cells (netCells v)::.cells [.int .i64 (v.stations-1)]::(τ++[.cells (encTram s).cells])) (.func 425 [] [.ptr (τ.length+2) 0]) (v.trams.take i) (fun x=>decide (x.name=s.name)) hts (fun υ=>by try simp only[QS,QC,seval,aK,List.length_append];simp) fun x _=>FR s x _ _ τ
  try simp only[↓QA,QB,seval,aK] at hc
  try simp only[↓QA,QB,seval,aK,aB2 (enc:=encTram) (l:=v.trams) (Nat.le_of_lt hi)]
  refine aS hc ?_;rw[rJ];cases h2:decide (jQ s.name ((v.trams.take i).map Tram.name)≠((v.trams.take i).map Tram.name).length)
  ·have h2':jQ s.name ((v.trams.take i).map Tram.name)=((v.trams.take i).map Tram.name).length:=by simpa using h2
   have hf:fresh s.name ((v.trams.take i).map Tram.name)=0:=by simp only[fresh,h1,h2'];simp
   rw[hf] at hk;simp only[if_true] at hk;try simp only[↓QA,QB,seval,aK]
   (refine bT (cE 0 (v.stations-1) [s.frm] (by simp)) (by simp[clr,clrs,ints]) (by simp[okV,okVs]) ?_;try simp only[↓QA,QB,seval,aK,gB])
   have hsi:inR s.frm 0 (v.stations-1)=pC v s.frm:=rfl;rw[hsi];cases h3:pC v s.frm
   ·try simp only[↓QA,QB,seval,aK]
    exact fin _ _ (by rw[hk,iO,if_pos h3])
   ·rw[iO,if_neg (by rw[h3];simp)] at hk;try simp only[↓QA,QB,seval,aK]
    (refine bT (cE 0 60 [s.leaves] (by simp)) (by simp[clr,clrs,ints]) (by simp[okV,okVs]) ?_;try simp only[↓QA,QB,seval,aK,gB])
    cases h4:inR s.leaves 0 60
    ·try simp only[↓QA,QB,seval,aK]
     exact fin _ _ (by rw[hk,if_pos (.inl h4)])
    ·try simp only[↓QA,QB,seval,aK]
     (refine bT (cE 0 400 [s.due] (by simp)) (by simp[clr,clrs,ints]) (by simp[okV,okVs]) ?_;try simp only[↓QA,QB,seval,aK,gB])
     cases h5:inR s.due 0 400
     ·try simp only[↓QA,QB,seval,aK]
      exact fin _ _ (by rw[hk,if_pos (.inr h5)])
     ·rw[if_neg (by rw[h4,h5];simp)] at hk;try simp only[↓QA,QB,seval,aK]
      (refine bT (cE 1 4 [(s.path.length:Int)] (by simp)) (by simp[clr,clrs,ints]) (by simp[okV,okVs]) ?_;try simp only[↓QA,QB,seval,aK,gB])
      cases h6:inR s.path.length 1 4
      ·try simp only[↓QA,QB,seval,aK]
       exact fin _ _ (by rw[hk,if_pos h6])
      ·rw[if_neg (by rw[h6];simp)] at hk;try simp only[↓QA,QB,seval,aK,hwr]
       (refine aD (cE 0 ((v.rails.length:Int)-1) s.path hpz) rfl dd ?_;try simp only[↓QA,QB,seval,aK,SN])
       cases h7:s.path.all (fun r=>inR r 0 ((v.rails.length:Int)-1))
       ·rw[if_pos h7] at hk;try simp only[↓QA,QB,seval,aK]
        exact fin _ _ hk.symm
       ·rw[if_neg (by rw[h7];simp)] at hk;rw[rG] at h3;obtain⟨S,hS⟩:∃ S:Nat,s.frm=(S:Int):=⟨s.frm.toNat,by omega⟩;rw[c9] at h6
        have hld:=JE v hst hra S (by omega) s.path (fun r hr=>by
         have:=c9.1 (List.all_eq_true.1 h7 r hr)
         omega) hpz
        have hlw:jI v s.frm s.path=iN v S s.path:=by rw[hS];exact DY (by omega)
        rw[hlw] at hk;obtain⟨B,hB⟩:∃ B,iN v S s.path=B:=⟨_,rfl⟩;rw[hB] at hk hld;try simp only[↓QA,QB,seval,aK,hS]
        (refine aD (hld) rfl dd ?_;try simp only[↓QA,QB,seval,aK,hS])
        cases B
        ·try simp only[↓QA,QB,seval,aK]
         exact fin _ _ (by rw[hk];rfl)
        ·try simp only[↓QA,QB,seval,aK]
         exact fin _ _ (by rw[hk];rfl)
  ·have h2':jQ s.name ((v.trams.take i).map Tram.name)≠((v.trams.take i).map Tram.name).length:=by simpa using h2
   have hf:fresh s.name ((v.trams.take i).map Tram.name)=5:=by simp only[fresh,h1,h2',if_false];simp
   rw[hf] at hk;try simp only[↓QA,QB,seval,aK]
   exact fin _ _ (by rw[hk];simp)
theorem LJ(v:Net)(h:Fits v)(i:Nat)(x:Seen)(b:ABlk):eS T (.func 428 [] [.ptr 0 0]) [.int .i64 i,encSeen x] [.cells (netCells v),b,.cells (encSeen x).cells] (.int .i64 (lO v i x)):=by
 refine bN (af:=XX) rfl (by simp[XX]) ?_;have hfp:=h.trams;have hw:IntKind.i64.wrap ((v.trams.length:Int)-1)=(v.trams.length:Int)-1:=bM ⟨by omega,by omega⟩;try simp only[↓QA,QB,seval,aK,XX,hw]
 (refine bT (cE 0 ((v.trams.length:Int)-1) [x.tram] (by simp)) (by simp[clr,clrs,ints]) (by simp[okV,okVs]) ?_;try simp only[↓QA,QB,seval,aK,gB])
 cases h1:inR x.tram 0 ((v.trams.length:Int)-1)
 ·try simp only[↓QA,QB,seval,aK]
  refine bU _ rfl ?_;try simp only[QS,QC,seval,aK,lO,h1]
 ·try simp only[↓QA,QB,seval,aK]
  (refine bT (cE (-1) 400 [x.minute] (by simp)) (by simp[clr,clrs,ints]) (by simp[okV,okVs]) ?_;try simp only[↓QA,QB,seval,aK,gB])
  cases h2:inR x.minute (-1) 400;all_goals
   try simp only[↓QA,QB,seval,aK]
   refine bU _ rfl ?_;try simp only[QS,QC,seval,aK,lO,h1,h2,Bool.true_eq_false]
end Go.Am.Room.Tr
namespace Go.Am.Room.Tr
def f9:=zz @encNet_eq (zz @netCells_eq (zz @encRail_eq (zz @encTram_eq (zz @encSeen_eq (zz @aJ (zz @S_mapRail (zz @S_mapTram (zz @S_mapSeen (zz @bZ (zz @bY (@Nat.not_lt_zero)))))))))))
theorem n8(v:Net)(h:Fits v):cV T 316 [encNet v] (enc3 (check v)):=by
 refine aR (af:=ZF) rfl (by simp[ZF]) dd ?_;obtain⟨W,hW⟩:∃ W,IntKind.i64.wrap (v.stations-1)=W:=⟨_,rfl⟩;try simp only[↓QA,QB,seval,f9,ZF,hW]
 (refine bT (cE 2 5 [v.stations] (by simp)) (by simp[clr,clrs,ints]) (by simp[okV,okVs]) ?_;try simp only[↓QA,QB,seval,f9,gB])
 cases h1:inR v.stations 2 5
 ·try simp only[↓QA,QB,seval,f9]
  simp[check,h1,enc3]
 ·have hc:check v=gD v:=by simp only[check,h1,Bool.true_eq_false,if_false]
  rw[hc];have hst:=c9.1 h1;have hWe:W=v.stations-1:=by rw[<-hW];exact bM ⟨by omega,by omega⟩
  subst hWe;have hWs:∀ s:Int,inR s 0 (v.stations-1)=pC v s:=fun s=>rfl
  try simp only[↓QA,QB,seval,f9]
  cases h2:decide ((5:Int)<(v.rails.length:Int))
  case' true =>
   have h2':5<v.rails.length:=by first|(have:=of_decide_eq_false h2;omega)|(have:=of_decide_eq_true h2;omega)
   try simp only[↓QA,QB,seval,f9,h2]
   simp[gD,h2',enc3]
  have h2':¬5<v.rails.length:=by first|(have:=of_decide_eq_false h2;omega)|(have:=of_decide_eq_true h2;omega)
  have hc:gD v=match aU (fun _ r=>dN v r) v.rails 0 with|some (i,e)=>(2,(i:Int),e)|none=>jE v:=by simp only[gD,h2',if_false];try rfl
  rw[hc];have hf:=KH [.cells (netCells v),.cells [.int .i64 (v.stations-1)]] (.func 421 [] [.ptr 1 0]) v.rails (fun _ r=>dN v r) h.rails (fun τ=>by try simp only[QS,QC,seval,f9]) fun i hi=>L4 v _ hWs i _ _ _
  try simp only[↓QA,QB,seval,f9] at hf
  try simp only[↓QA,QB,seval,f9,h2]
  refine aS hf ?_;cases hb:aU (fun _ r=>dN v r) v.rails 0 with
  |some p =>
   obtain⟨i,e⟩:=p;have he:=fN hb;have hg:(e==0)=false:=by simpa using he
   try simp only[↓QA,QB,seval,f9,iM,hb,lU,hg,enc3]
  |none =>
   have hra:∀ r∈v.rails,RailOk v r:=fun x hx=>by
    obtain⟨k,hk,rfl⟩:=List.getElem_of_mem hx;exact KC.1 (iY hb k hk)
   try simp only[↓QA,QB,seval,f9,iM,hb,lU]
   cases h6:decide ((3:Int)<(v.trams.length:Int))
   case' true =>
    have h6':3<v.trams.length:=by first|(have:=of_decide_eq_false h6;omega)|(have:=of_decide_eq_true h6;omega)
    try simp only[↓QA,QB,seval,f9,h6]
    simp[jE,h6',enc3]
   have h6':¬3<v.trams.length:=by first|(have:=of_decide_eq_false h6;omega)|(have:=of_decide_eq_true h6;omega)
   have hc:jE v=match aU (k6 v) v.trams 0 with|some (i,e)=>(3,(i:Int),e)|none=>jF v:=by simp only[jE,h6',if_false];try rfl
   rw[hc];have hf:=KT [.cells (netCells v),.cells [.int .i64 (v.stations-1)]] (.func 423 [] [.ptr 0 0,.ptr 1 0]) v.trams (k6 v) h.trams (fun τ=>by try simp only[QS,QC,seval,f9]) fun i hi=>KZ v h hst hra i hi _
   try simp only[↓QA,QB,seval,f9] at hf
   try simp only[↓QA,QB,seval,f9,h6]
   refine aS hf ?_;cases hb:aU (k6 v) v.trams 0 with
   |some p =>
    obtain⟨i,e⟩:=p;have he:=fN hb;have hg:(e==0)=false:=by simpa using he
    try simp only[↓QA,QB,seval,f9,iM,hb,lU,hg,enc3]
   |none =>
    try simp only[↓QA,QB,seval,f9,iM,hb,lU]
    cases h7:decide ((3:Int)<(v.seen.length:Int))
    case' true =>
     have h7':3<v.seen.length:=by first|(have:=of_decide_eq_false h7;omega)|(have:=of_decide_eq_true h7;omega)
     try simp only[↓QA,QB,seval,f9,h7]
     simp[jF,h7',enc3]
    have h7':¬3<v.seen.length:=by first|(have:=of_decide_eq_false h7;omega)|(have:=of_decide_eq_true h7;omega)
    have hc:jF v=match aU (lO v) v.seen 0 with|some (i,e)=>(4,(i:Int),e)|none=>(0,0,0):=by simp only[jF,h7',if_false];try rfl
    rw[hc];have hf:=LI [.cells (netCells v),.cells [.int .i64 (v.stations-1)]] (.func 428 [] [.ptr 0 0]) v.seen (lO v) h.seen (fun τ=>by try simp only[QS,QC,seval,f9]) fun i hi=>LJ v h i _ _
    try simp only[↓QA,QB,seval,f9] at hf
    try simp only[↓QA,QB,seval,f9,h7]
    refine aS hf ?_;cases hb:aU (lO v) v.seen 0 with
    |some p =>
     obtain⟨i,e⟩:=p;have he:=fN hb;have hg:(e==0)=false:=by simpa using he
     try simp only[↓QA,QB,seval,f9,iM,hb,lU,hg,enc3]
    |none =>
     try simp only[↓QA,QB,seval,f9,iM,hb,lU,enc3]
end Go.Am.Room.Tr
namespace Go.Am.Room.Tr
def cL:=zz @encNet_eq (zz @netCells_eq (zz @encRail_eq (zz @encTram_eq (zz @encSeen_eq (zz @aJ (zz @S_mapRail (zz @S_mapTram (zz @S_mapSeen (zz @bZ (zz @bY (zz @Nat.not_lt_zero (zz @List.length_append.{0} (zz @List.length_replicate.{0} (zz @Nat.zero_add (zz @Nat.mul_one (@Int.toNat_natCast))))))))))))))))
theorem IM:∀ l:List Int,yP 1 l.length (l.map (AV.int .i64))=l.map (.int .i64)
 |[]=>rfl
 |x::l=>by simp[yP,IM l,AV.cell]
theorem RD{σ:St}{m id n:Nat}{l:List Int}(hm:¬id<m)(hn:n=l.length)(hl:aH σ id=some (l.map (.int .i64))):cQ σ m 20 (.ref id 0 n 1)=some (.lit (l.map (.int .i64)) false none):=by
 subst hn;have hv:lS σ (.ref id 0 l.length 1)=some (l.map (.int .i64)):=by simp[lS,hl,IM]
 rw[N2,if_neg hm,hv];simp[jW,lB]
theorem Y5{σ:St}{id:Nat}{l:List Int}(h:aH σ id=some (List.replicate (l.length+1) (.int .i64 0))):sS 1 σ (.ref id 0 (l.length+1) 1) (.lit (l.map (.int .i64)) false none)=some (.int .i64 l.length,σ.set id (.cells (l.map (.int .i64)++[.int .i64 0]))):=by
 have h1:=jW l;have h2:(l.map (AV.int .i64)).take (l.length+1)=l.map (.int .i64):=List.take_of_length_le (by simp);have h3:Nat.min l.length (l.length+1)=l.length:=Nat.min_eq_left (by omega);have h4:(List.replicate (l.length+1) (AV.int .i64 0)).drop l.length=[.int .i64 0]:=by rw[List.drop_replicate];simp[List.replicate]
 simp[sS,lS,AX,h1,h,iC,h2,RE,h3,h4]
theorem aF5(l:List Int)(r:Int):(l.map (AV.int .i64)++[AV.int .i64 0]).take l.length++[AV.int .i64 r]++(l.map (AV.int .i64)++[AV.int .i64 0]).drop (l.length+1)=(l++[r]).map (.int .i64):=by
 simp[List.take_append_of_le_length]
def okR(v:Net)(b:Int)(l:List Int)(r:Int):Bool:=BU v b r&&!(l.length==4)
def gF(v:Net)(b:Int)(l:List Int)(k:Int):List (List Int):=((aL k ((v.rails.length:Int)-k).toNat).filter (okR v b l)).map fun r=>l++[r]
def gW(v:Net)(b:Int)(l:List Int):List (List Int):=gF v b l 0
theorem aGJ{v:Net}{k:Nat}(h:k<v.rails.length)(b:Int)(l:List Int):gF v b l k=(if okR v b l (k:Int)=true then [l++[(k:Int)]] else [])++gF v b l ((k+1:Nat):Int):=by
 have:=uR (a:=(k:Int)) (below:=v.rails.length) (by omega);rw[gF,this,List.filter_cons,show (k:Int)+1=((k+1:Nat):Int) by omega];split<;>rfl
theorem aMV(v:Net)(b:Int)(l:List Int):gF v b l (v.rails.length:Int)=[]:=by rw[gF,uM (by omega)];rfl
theorem N1{v:Net}{b:Int}{l:List Int}(h:l.length≠4):gW v b l=NE v b l:=by
 have e:∀ r,okR v b l r=BU v b r:=fun r=>by simp[okR,h]
 simp only[gW,gF,NE,Int.sub_zero,Int.toNat_natCast]
 congr 1
 exact List.filter_congr fun r _=>e r
theorem TZ{v:Net}{b:Int}{l:List Int}(h:l.length=4):gW v b l=[]:=by
 have e:∀ r,okR v b l r=false:=fun r=>by simp[okR,h]
 simp only[gW,gF,List.map_eq_nil_iff,List.filter_eq_nil_iff];intro r _;rw[e];simp
def mP(v:Net)(s b:Int)(k:Nat):List (List Int):=if k<=4 then yR v s b k else []
def aP(v:Net)(s b:Int)(k:Nat):List (List Int):=KL v s b (min k 4)
theorem v3{v:Net}{s b:Int}(hs:s≠0){k:Nat}:∀ l∈yR v s b k,l.length=k/\∀ r∈l,0<=r/\r<v.rails.length:=fun l hl=>by
 rw[AJ hs] at hl;have:=(List.mem_filter.1 hl).1;exact⟨C5 _ _ _ _ this,GP _ _ _ _ this⟩
theorem U9{v:Net}{s b:Int}(hs:s≠0)(h5:v.rails.length<=5)(k:Nat):(yR v s b k).length<=5^k:=by
 rw[AJ hs];exact Nat.le_trans (List.length_filter_le _ _) (qH v _ h5 k)
theorem aEC{v:Net}{s b:Int}(hs:s≠0)(h5:v.rails.length<=5){k:Nat}(hk:k<=4):(KL v s b k).length<=1000:=by
 rw[LD hs k hk];exact QW h5 _ _ hk
theorem aPY{v:Net}{s b:Int}(hs:s≠0){k:Nat}:∀ l∈mP v s b k,l.length=k/\l.length<=4/\∀ r∈l,0<=r/\r<v.rails.length:=fun l hl=>by
 unfold mP at hl;split at hl
 ·have:=v3 hs l hl;exact⟨this.1,by omega,this.2⟩
 ·cases hl
theorem HA{α β:Type}{f:α->List β}:∀ {l:List α},(∀ x∈l,f x=[])->l.flatMap f=[]
 |[],_=>rfl
 |x::l,h=>by rw[List.flatMap_cons,h x (by simp),HA fun y hy=>h y (by simp[hy])];rfl
theorem UC{v:Net}{s b:Int}(hs:s≠0)(k:Nat):(mP v s b k).flatMap (fun l=>(gW v b l).filter (fX v s))=mP v s b (k+1):=by
 unfold mP;by_cases h:k<=4
 ·rw[if_pos h];by_cases h4:k=4
  ·rw[if_neg (by omega)];refine HA fun l hl=>?_
   rw[TZ (by rw[(v3 hs l hl).1,h4])];rfl
  ·rw[if_pos (by omega),yR];refine mY fun l hl=>?_
   rw[N1 (by rw[(v3 hs l hl).1];exact h4)]
 ·rw[if_neg h,if_neg (by omega)];rfl
theorem TU{v:Net}{s b:Int}(hs:s≠0)(k:Nat):aP v s b k++(mP v s b k).flatMap (fun l=>(gW v b l).filter (iN v s))=aP v s b (k+1):=by
 unfold mP aP;by_cases h:k<=4
 ·rw[if_pos h];by_cases h4:k=4
  ·subst h4;rw[HA fun l hl=>by rw[TZ (v3 hs l hl).1];rfl];simp
  ·rw[show min k 4=k by omega,show min (k+1) 4=k+1 by omega,KL]
   congr 1
   refine mY fun l hl=>?_
   rw[N1 (by rw[(v3 hs l hl).1];exact h4)]
 ·rw[if_neg h,show min k 4=4 by omega,show min (k+1) 4=4 by omega];simp
theorem M6{v:Net}{s b:Int}(hs:s≠0){k:Nat}(h:mP v s b k=[]):∀ j,mP v s b (k+j)=[]/\aP v s b (k+j)=aP v s b k
 |0=>⟨h,rfl⟩
 |j+1=>by
  obtain⟨h1,h2⟩:=M6 hs h j;have m:=UC (v:=v) (s:=s) (b:=b) hs (k+j);have a:=TU (v:=v) (s:=s) (b:=b) hs (k+j);rw[h1] at m a;simp only[List.flatMap_nil,List.append_nil] at m a;rw[show k+(j+1)=k+j+1 by omega];exact⟨m.symm,by rw[<-a,h2]⟩
theorem aJ8{v:Net}{s b:Int}(hs:s≠0){k:Nat}(h:mP v s b k=[]):aP v s b k=eX v s (tT b):=by
 rw[<-aPV v hs];by_cases hk:k<=4
 ·have:=(M6 hs h (4-k)).2;rw[show k+(4-k)=4 by omega] at this;rw[<-this];rfl
 ·rw[aP,show min k 4=4 by omega]
theorem VU{v:Net}{s:Int}{p:List Int}(h:iN v s p=true):fX v s p=false:=by
 unfold iN at h;unfold fX;split at h
 ·rename_i o ho;simp only[Bool.and_eq_true] at h;simp[ho,h.1]
 ·cases h
theorem GV(v:Net)(hv:Vd v)(s:Nat)(hs5:s<5)(b:Int):cV T 318 [encNet v,.int .i64 s,.int .i64 b] (aY (eX v s (tT b))):=by
 refine aR (af:=aDN) rfl (by simp[aDN]) dd ?_;have hnr:=hv.nra;try simp only[↓QA,QB,seval,cL,aDN]
 cases h0:((s:Int)==0)
 case' true =>
  have h0':(s:Int)=0:=by simpa using h0
  have hz:=VJ v (tT b);rw[<-h0'] at hz;rw[hz];try simp only[↓QA,QB,seval,cL,h0,cT,List.map_nil]
  try try simp only[QS,QC,seval,cL]
 have hs:(s:Int)≠0:=by simpa using h0
 obtain⟨Z,hZ⟩:∃ Z,eX v s (tT b)=Z:=⟨_,rfl⟩;have hall:=fun k=>aJ8 (v:=v) (s:=s) (b:=b) hs (k:=k)
 simp only[hZ] at hall;rw[hZ];try simp only[↓QA,QB,seval,cL,h0]
 refine jN 6 1 [] rfl ?_;refine bC (S:=Nat×Bool) (0,false) (fun a=>a.1<=5) (fun a=>5-a.1)
  (fun a=>[(1,.int .i64 s),(2,.int .i64 b),(3,.ptr 0 0),(6,.lit ((aP v s b a.1).map ints) false (some 1)),(7,aY (mP v s b a.1))])
  (fun a=>[.cells (netCells v),.tok 1 (aP v s b a.1).length a.2]) (Nat.zero_le _) (by simp[netCells,ints,aP,KL]) ?_ fun a hk=>?_
 ·try simp only[aB,QE,seval,cL]
  simp[aY,ints,mP,yR,aP,KL,clr,clrs]
 ·obtain⟨k,ex⟩:=a;simp only at hk;have hin:=aPY (v:=v) (s:=s) (b:=b) hs (k:=k);have hmn:=UC (v:=v) (s:=s) (b:=b) hs k;have han:=TU (v:=v) (s:=s) (b:=b) hs k;have hac:∀ j,(aP v s b j).length<=1000:=fun j=>aEC hs (by omega) (by omega)
  have hmc:∀ j,(mP v s b j).length<=625:=fun j=>by
   unfold mP;split
   ·exact Nat.le_trans (U9 hs (by omega) j) (Nat.le_trans (Nat.pow_le_pow_right (by omega) (by omega):5^j<=5^4) (by decide))
   ·simp
  have c1:=hac k;have c2:=hac (k+1);have c3:=hmc k;have c4:=hmc (k+1);have hfin:=hall k;have hm5:k=5->mP v s b k=[]:=fun q=>by rw[q];rfl
  obtain⟨W,hW⟩:∃ W,mP v s b k=W:=⟨_,rfl⟩;obtain⟨X,hX⟩:∃ X,mP v s b (k+1)=X:=⟨_,rfl⟩;obtain⟨O,hO⟩:∃ O,aP v s b k=O:=⟨_,rfl⟩;obtain⟨Y,hY⟩:∃ Y,aP v s b (k+1)=Y:=⟨_,rfl⟩;rw[hO] at c1 han hfin;rw[hY] at c2 han;rw[hX] at c4 hmn;rw[hW] at c3 hmn han hfin hm5;simp only[hW] at hin;rw[hW,hO];try simp only[↓QA,QB,seval,cL,aCC,aY]
  cases hne:decide ((0:Int)<(W.length:Int))
  ·have hw0:W=[]:=by
    have:¬(0:Int)<(W.length:Int):=by simpa using hne
    exact List.length_eq_zero_iff.1 (by omega)
   rw[hfin hw0];try simp only[↓QA,QB,seval,cL]
   try try simp only[QS,QC,seval,cL]
  ·have hw0:W≠[]:=by
    have:(0:Int)<(W.length:Int):=by simpa using hne
    rintro rfl;simp at this
   have hk4:k<5:=by
    by_cases q:k=5
    ·exact absurd (hm5 q) hw0
    ·omega
   try simp only[↓QA,QB,seval,cL]
   refine jN 8 1 [] rfl ?_;try simp only[↓QA,QB,seval,cL]
   refine bC (S:=Nat×List (List Int)×List (List Int)×Bool×Bool) (0,O,[],ex,false) (fun a=>a.1<=W.length/\a.2.2.1++(W.drop a.1).flatMap (fun l=>(gW v b l).filter (fX v s))=X/\a.2.1++(W.drop a.1).flatMap (fun l=>(gW v b l).filter (iN v s))=Y) (fun a=>W.length-a.1)
    (fun a=>[(1,.int .i64 s),(2,.int .i64 b),(3,.ptr 0 0),(6,.lit (a.2.1.map ints) false (some 1)),(8,.lit (a.2.2.1.map ints) false (some 2)),(22,aY W),(23,.int .i64 W.length),(24,.int .i64 a.1)])
    (fun a=>[.cells (netCells v),.tok 1 a.2.1.length a.2.2.2.1,.tok 1 a.2.2.1.length a.2.2.2.2]) ⟨Nat.zero_le _,by simpa using hmn,by simpa using han⟩ (by simp[netCells,ints]) ?_ fun a ha=>?_
   ·try simp only[aB,QE,seval,cL,aY,ints]
    try simp
   ·obtain⟨i,O,A,ex,ex2⟩:=a;obtain⟨hi,hA,hB⟩:=ha;simp only at hi hA hB;try simp only[↓QA,QB,seval,cL,aEV,aY]
    refine aE (fun h2=>?_) fun h2=>?_
    ·have hi1:i<W.length:=by simpa using h2
     have hwi:=bD hi1 (by omega);obtain⟨l,hl⟩:∃ l,W[i]=l:=⟨_,rfl⟩;obtain⟨_,hl4,hlr⟩:=hin _ (List.getElem_mem hi1);rw[hl] at hl4 hlr;rw[List.drop_eq_getElem_cons hi1,hl,List.flatMap_cons] at hA hB;obtain⟨F,hF⟩:∃ F,(W.drop (i+1)).flatMap (fun l=>(gW v b l).filter (fX v s))=F:=⟨_,rfl⟩;obtain⟨G,hG⟩:∃ G,(W.drop (i+1)).flatMap (fun l=>(gW v b l).filter (iN v s))=G:=⟨_,rfl⟩;rw[hF,gW] at hA;rw[hG,gW] at hB;have hwl:=bD (show l.length<5 by omega) (by omega);have hmk:oU 8 (.int .i64 ((l.length+1:Nat):Int)) (.int .i64 ((l.length+1:Nat):Int))=some (l.length+1):=by simp[oU,room];omega
     try simp only[↓QA,QB,seval,cL,hi1,hl,aY]
     refine bC (S:=Nat×List (List Int)×List (List Int)×Bool×Bool) (0,O,A,ex,ex2) (fun a=>a.1<=v.rails.length/\a.2.2.1++((gF v b l a.1).filter (fX v s)++F)=X/\a.2.1++((gF v b l a.1).filter (iN v s)++G)=Y) (fun a=>v.rails.length-a.1)
      (fun a=>[(1,.int .i64 s),(2,.int .i64 b),(3,.ptr 0 0),(6,.lit (a.2.1.map ints) false (some 1)),(8,.lit (a.2.2.1.map ints) false (some 2)),(10,ints l),(22,aY W),(23,.int .i64 W.length),(24,.int .i64 i),(29,.lit (v.rails.map encRail) false none),(30,.int .i64 v.rails.length),(31,.int .i64 a.1)])
      (fun a=>[.cells (netCells v),.tok 1 a.2.1.length a.2.2.2.1,.tok 1 a.2.2.1.length a.2.2.2.2]) ⟨Nat.zero_le _,hA,hB⟩ (by simp[netCells]) ?_ fun a ha=>?_
     ·try simp only[aB,QE,seval,cL,aY,ints]
      try simp
     ·obtain⟨r,O,A,ex,ex2⟩:=a;obtain⟨hr,hA,hB⟩:=ha;simp only at hr hA hB;try simp only[↓QA,QB,seval,cL,aDE,aY]
      refine aE (fun h3=>?_) fun h3=>?_
      ·have hr1:r<v.rails.length:=by simpa using h3
       have hwr:=bD hr1 (by omega);rw[aGJ hr1] at hA hB;have hok:okR v b l (r:Int)=(!((r:Int)==b)&&!(v.rails[r].shut==1)&&!((l.length:Int)==4)):=by
        rw[okR,BU,EW hr1];have e1:(v.rails[r].shut==1)=decide (v.rails[r].shut=1):=by rw[Bool.eq_iff_iff];simp
        have e2:((l.length:Int)==4)=(l.length==4):=by rw[Bool.eq_iff_iff];simp;omega
        rw[e1,e2]
       obtain⟨z,hz⟩:∃ z,v.rails[r]=z:=⟨_,rfl⟩;rw[hz] at hok;obtain⟨E,hE⟩:∃ E,gF v b l ((r+1:Nat):Int)=E:=⟨_,rfl⟩;rw[hE] at hA hB;have no:okR v b l (r:Int)=false->A++(E.filter (fX v s)++F)=X/\O++(E.filter (iN v s)++G)=Y:=fun q=>by
        rw[q] at hA hB;exact⟨by simpa using hA,by simpa using hB⟩
       try simp only[↓QA,QB,seval,cL,hr1,hz]
       cases q0:((r:Int)==b)
       ·cases q1:(z.shut==1)
        ·cases q2:((l.length:Int)==4)
         ·rw[q0,q1,q2] at hok;rw[hok] at hA hB;simp only[Bool.not_false,Bool.and_self,if_true,List.singleton_append,List.cons_append,List.filter_cons] at hA hB;have hal:A.length<=625:=by
           have:=congrArg List.length hA;simp only[List.length_append] at this;omega
          have hol:O.length<=1000:=by
           have:=congrArg List.length hB;simp only[List.length_append] at this;omega
          have hbw:=VU (v:=v) (s:=s) (p:=l++[(r:Int)])
          have hld:=JE v hv.st hv.ra s hs5 (l++[(r:Int)]) (fun x hx=>by
           rcases List.mem_append.1 hx with hx|hx
           ·exact hlr x hx
           ·simp only[List.mem_singleton] at hx;subst hx;omega) (by simp;omega)
          have hcp:=fun (b0 b1 b2 b3:ABlk)=>Y5 (σ:=[b0,b1,b2,b3,.cells (List.replicate (l.length+1) (.int .i64 0))]) (id:=4) (l:=l) rfl
          have hos:=aF5 l r;have hsr:=fun (b0 b1 b2 b3:ABlk) (m:Nat) (hm:m<=4)=>RD (σ:=[b0,b1,b2,b3,.cells ((l++[(r:Int)]).map (.int .i64))]) (m:=m) (id:=4) (n:=l.length+1) (l:=l++[(r:Int)]) (by omega) (by simp) rfl
          have i4:(0:Int)<=(l.length:Int)/\(l.length:Int)<((l.length+1:Nat):Int)/\1=1:=⟨by omega,by omega,rfl⟩;obtain⟨WB,hWB⟩:∃ WB,iN v s (l++[(r:Int)])=WB:=⟨_,rfl⟩;obtain⟨BB,hBB⟩:∃ BB,fX v s (l++[(r:Int)])=BB:=⟨_,rfl⟩;rw[hWB,hBB] at hld;rw[hWB] at hB hbw;rw[hBB] at hA hbw;have a2:=fun (b0 b1:ABlk) (τ:St)=>kC (σ:=b0::b1::.tok 1 A.length ex2::τ) (t:=2) (ex:=ex2) (sz:=1) (b:=24) (xs:=A.map ints) (ys:=[.ref 4 0 (l.length+1) 1]) (f:=true) (tk:=none) ⟨kA A,by simp[aM,AV.cells,AV.cell],by simp[room];omega,by simp[room];omega⟩ (by simp) A.length (by simp) rfl
          have a3:=fun (b0:ABlk) (τ:St)=>kC (σ:=b0::.tok 1 O.length ex::τ) (t:=1) (ex:=ex) (sz:=1) (b:=24) (xs:=O.map ints) (ys:=[.ref 4 0 (l.length+1) 1]) (f:=true) (tk:=none) ⟨kA O,by simp[aM,AV.cells,AV.cell],by simp[room];omega,by simp[room];omega⟩ (by simp) O.length (by simp) rfl
          have hml:(l++[(r:Int)]).map (AV.int .i64)=l.map (.int .i64)++[.int .i64 r]:=by simp
          try simp only[↓QA,QB,seval,cL,q0,q1,q2,hwl,hmk,RG,hcp,i4,hos]
          refine yE hld (by try simp only[QS,QC,seval,cL,hsr]) (by simp[Scal,Scals]) ?_;try simp only[↓QA,QB,seval,cL]
          cases WB
          ·cases BB
           ·try simp only[↓QA,QB,seval,cL,hwr]
            refine⟨(r+1,O,A,ex,ex2),⟨by simp only;omega,by rw[hE];simpa using hA,by rw[hE];simpa using hB⟩,by simp only;omega,?_⟩;try simp only[aB,QE,seval,cL,hwr,aY,ints]
            try simp[aF]
           ·try simp only[↓QA,QB,seval,cL,hwr,a2]
            refine⟨(r+1,O,A++[l++[(r:Int)]],ex,true),⟨by simp only;omega,by rw[hE,<-hA];simp,by rw[hE];simpa using hB⟩,by simp only;omega,?_⟩;have hs1:=RD (σ:=[.cells (netCells v),.tok 1 O.length ex,.tok 1 (A.length+1) true,.cells (encRail z).cells,.cells ((l++[(r:Int)]).map (.int .i64))]) (m:=3) (id:=4) (n:=l.length+1) (l:=l++[(r:Int)]) (by omega) (by simp) rfl;rw[hml] at hs1;try simp only[↓QA,QB,seval,cL] at hs1
            try simp only[aB,QE,seval,cL,hwr,aY,ints,hs1,List.map_append,List.map_cons,List.map_nil]
            try simp[aF]
          ·have:=hbw rfl;subst this;try simp only[↓QA,QB,seval,cL,hwr,a3]
           refine⟨(r+1,O++[l++[(r:Int)]],A,true,ex2),⟨by simp only;omega,by rw[hE];simpa using hA,by rw[hE,<-hB];simp⟩,by simp only;omega,?_⟩;have hs1:=RD (σ:=[.cells (netCells v),.tok 1 (O.length+1) true,.tok 1 A.length ex2,.cells (encRail z).cells,.cells ((l++[(r:Int)]).map (.int .i64))]) (m:=3) (id:=4) (n:=l.length+1) (l:=l++[(r:Int)]) (by omega) (by simp) rfl;rw[hml] at hs1;try simp only[↓QA,QB,seval,cL] at hs1
           try simp only[aB,QE,seval,cL,hwr,aY,ints,hs1,List.map_append,List.map_cons,List.map_nil]
           try simp[aF]
         ·have nn:=no (by rw[hok,q2];simp);try simp only[↓QA,QB,seval,cL,q0,q1,q2,hwr]
          refine⟨(r+1,O,A,ex,ex2),⟨by simp only;omega,by rw[hE];exact nn.1,by rw[hE];exact nn.2⟩,by simp only;omega,?_⟩;try simp only[aB,QE,seval,cL,hwr,aY,ints]
          try simp[aF]
        ·have nn:=no (by rw[hok,q1];simp);try simp only[↓QA,QB,seval,cL,q0,q1,hwr]
         refine⟨(r+1,O,A,ex,ex2),⟨by simp only;omega,by rw[hE];exact nn.1,by rw[hE];exact nn.2⟩,by simp only;omega,?_⟩;try simp only[aB,QE,seval,cL,hwr,aY,ints]
         try simp[aF]
       ·have nn:=no (by rw[hok,q0];simp);try simp only[↓QA,QB,seval,cL,q0,hwr]
        refine⟨(r+1,O,A,ex,ex2),⟨by simp only;omega,by rw[hE];exact nn.1,by rw[hE];exact nn.2⟩,by simp only;omega,?_⟩;try simp only[aB,QE,seval,cL,hwr,aY,ints]
        try simp[aF]
      ·have hr1:r=v.rails.length:=by simp at h3;omega
       rw[hr1,aMV] at hA hB;simp only[List.nil_append,List.filter_nil] at hA hB;try simp only[↓QA,QB,seval,cL,hwi]
       refine⟨(i+1,O,A,ex,ex2),⟨by simp only;omega,by rw[hF];exact hA,by rw[hG];exact hB⟩,by simp only;omega,?_⟩;try simp only[aB,QE,seval,cL,hwi,aY,ints]
       try simp[aF]
    ·have hi1:i=W.length:=by simp at h2;omega
     rw[hi1,List.drop_length] at hA hB;simp only[List.flatMap_nil,List.append_nil] at hA hB;subst hA hB;try simp only[↓QA,QB,seval,cL]
     refine⟨(k+1,ex),by simp only;omega,by simp only;omega,?_⟩;try simp only[aB,QE,seval,cL,hX,hY,aY,ints]
     try simp[aF]
end Go.Am.Room.Tr
namespace Go.Am.Room.Tr
def eD:=zz @encNet_eq (zz @netCells_eq (zz @encRail_eq (zz @encTram_eq (zz @encSeen_eq (zz @aJ (zz @S_mapRail (zz @S_mapTram (zz @S_mapSeen (zz @bZ (zz @bY (zz @Nat.not_lt_zero (zz @List.length_append.{0} (zz @Nat.zero_add (zz @Nat.mul_one (zz @Int.toNat_natCast (zz @dL (zz @d7 (zz @d6 (zz @iR (@d8))))))))))))))))))))
def mL(x:Stay):AV:=.agg [.int .i64 x.rail,.int .i64 x.frm,.int .i64 x.til]
theorem cJ(x:Stay):mL x = .agg [.int .i64 x.rail,.int .i64 x.frm,.int .i64 x.til]:=by simp only[mL]
theorem LV(x:Stay):j8 (mL x):=gQ (aT (bJ _ _) (aT (bJ _ _) (aT (bJ _ _) a9)))
instance (x:Stay):Dat (mL x):=⟨LV x⟩
instance (l:List Stay):Dats (l.map mL):=⟨bH LV l⟩
theorem eA(σ:St)(m d:Nat)(l:List Stay):cI σ m d (l.map mL)=some (l.map mL):=iZ (bH LV l) σ m d
theorem PN(l:List Stay):aM 3 (l.map mL)=true:=pD 3 mL l fun x=>by simp[bV,mL,AV.cells,AV.cell]
def db(v:Net)(b m:Nat):List AV:=netCells v++[.int .i64 b,.map m]
theorem dY(v:Net)(b m:Nat):(db v b m)[0]? = some (.int .i64 v.stations):=by simp[db,netCells]
theorem dW(v:Net)(b m:Nat):(db v b m)[1]? = some (.lit (v.rails.map encRail) false none):=by simp[db,netCells]
theorem dZ(v:Net)(b m:Nat):(db v b m)[2]? = some (.lit (v.trams.map encTram) false none):=by simp[db,netCells]
theorem d4(v:Net)(b m:Nat):(db v b m)[3]? = some (.lit (v.seen.map encSeen) false none):=by simp[db,netCells]
theorem d5(v:Net)(b m:Nat):(db v b m)[4]? = some (.int .i64 b):=by simp[db,netCells]
theorem dV(v:Net)(b m:Nat):(db v b m)[5]? = some (.map m):=by simp[db,netCells]
theorem Y7(ss:List Stay)(rail ready m B:Int)(hl:ss.length<9223372036854775808)(hB:∀ x∈ss,x.til<=B)(h0:0<=ready)(hr:ready<=B)(hB2:B<=1000)(hm:0<=m/\m<=20):
  cV T 488 [.lit (ss.map mL) false none,.agg [.int .i64 rail,.int .i64 ready,.int .i64 (ready+m)]] (.int .i64 (lC ss rail ready m)):=by
 refine aR (af:=aB8) rfl (by simp[aB8]) dd ?_;have hfi:=C6 (rail:=rail) (m:=m) hB (show B<=ready+1000 by omega);obtain⟨Z,hZ⟩:∃ Z,lC ss rail ready m=Z:=⟨_,rfl⟩;rw[hZ] at hfi ⊢
 (repeat (first|simp only[↓QA,QB,seval,eD,cJ,eA,dY,dW,dZ,d4,d5,dV,aB8]|refine rd0 rfl ?_))
 refine bC (S:=Int) ready (fun r=>uY ss rail m ready r) (fun r=>(B-r).toNat)
  (fun r=>[(0,.lit (ss.map mL) false none),(3,.ptr 0 0)]) (fun r=>[.cells [.int .i64 rail,.int .i64 r,.int .i64 (r+m)]]) (JK _ _ _ _) rfl ?_ fun r hb=>?_
 ·try simp only[aB,QE,seval,eD,cJ,eA,dY,dW,dZ,d4,d5,dV]
  try simp
 ·have hrB:=ER hB hb hr;have hr0:=hb.1
  (repeat (first|simp only[↓QA,QB,seval,eD,cJ,eA,dY,dW,dZ,d4,d5,dV,ZQ]|refine rd0 rfl ?_))
  refine bC (S:=Nat×Int) (0,r) (fun a=>a.1<=ss.length/\rL ss rail m ready r a.1 a.2) (fun a=>ss.length-a.1)
   (fun a=>[(0,.lit (ss.map mL) false none),(3,.ptr 0 0),(5,.ptr 1 0),(10,.lit (ss.map mL) false none),(11,.int .i64 ss.length),(12,.int .i64 a.1)]) (fun a=>[.cells [.int .i64 rail,.int .i64 a.2,.int .i64 (a.2+m)],.cells [.int .i64 rail,.int .i64 r,.int .i64 (r+m)]]) ⟨by simp,.inl ⟨rfl,by simp⟩⟩ rfl ?_ fun a ha=>?_
  ·try simp only[aB,QE,seval,eD,cJ,eA,dY,dW,dZ,d4,d5,dV]
   try simp
  ·obtain⟨k,n⟩:=a;obtain⟨hk,hlk⟩:=ha;simp only at hk hlk;have hbn:uY ss rail m ready n:=by
    rcases hlk with⟨e,_⟩|⟨_,e⟩
    ·rw[e];exact hb
    ·exact e
   have hnB:=ER hB hbn hr;have hn0:=hbn.1
   (repeat (first|simp only[↓QA,QB,seval,eD,cJ,eA,dY,dW,dZ,d4,d5,dV,X0]|refine rd0 rfl ?_))
   refine aE (fun h=>?_) fun h=>?_
   ·have hk1:k<ss.length:=by simpa using h
    have hw:=bD hk1 hl;obtain⟨x,hx⟩:∃ x,ss[k]=x:=⟨_,rfl⟩;have hxm:x∈ss:=by rw[<-hx];exact List.getElem_mem hk1
    have hat:=GK (p:=jP rail r m) hk1;rw[hx] at hat
    have no:jP rail n m x=false->rL ss rail m ready r (k+1) n:=fun q=>by
     rcases hlk with⟨e,a⟩|e
     ·subst e;exact .inl ⟨rfl,by rw[hat,a,q];rfl⟩
     ·exact .inr e
    have yes:jP rail n m x=true->rL ss rail m ready r (k+1) x.til:=fun q=>by
     have q1:=BM q;have hrn:r<=n:=by rcases hlk with⟨e,_⟩|⟨e,_⟩<;>omega
     exact .inr ⟨by omega,J5 hbn hxm (Int.le_refl n) q (fun y h1 h2=>by omega)⟩
    have hcl:jP rail n m x=((x.rail==rail)&&decide (x.frm<n+m)&&decide (n<x.til)):=by
     have:decide (x.rail=rail)=(x.rail==rail):=by rw[Bool.eq_iff_iff];simp
     rw[jP,this]
    have hxB:=hB x hxm
    (repeat (first|simp only[↓QA,QB,seval,eD,cJ,eA,dY,dW,dZ,d4,d5,dV,hk1,hx]|refine rd0 rfl ?_))
    cases q1:(x.rail==rail)
    ·have nn:=no (by rw[hcl,q1];simp)
     (repeat (first|simp only[↓QA,QB,seval,eD,cJ,eA,dY,dW,dZ,d4,d5,dV,q1,hw]|refine rd0 rfl ?_))
     refine⟨(k+1,n),⟨by simp only;omega,nn⟩,by simp only;omega,?_⟩;try simp only[aB,QE,seval,eD,cJ,eA,dY,dW,dZ,d4,d5,dV,hw]
     try simp[aF]
    ·cases q2:decide (x.frm<n+m)
     ·have nn:=no (by rw[hcl,q1,q2];simp)
      (repeat (first|simp only[↓QA,QB,seval,eD,cJ,eA,dY,dW,dZ,d4,d5,dV,q1,hw,q2]|refine rd0 rfl ?_))
      refine⟨(k+1,n),⟨by simp only;omega,nn⟩,by simp only;omega,?_⟩;try simp only[aB,QE,seval,eD,cJ,eA,dY,dW,dZ,d4,d5,dV,hw]
      try simp[aF]
     ·cases q3:decide (n<x.til)
      ·have nn:=no (by rw[hcl,q1,q2,q3];simp)
       (repeat (first|simp only[↓QA,QB,seval,eD,cJ,eA,dY,dW,dZ,d4,d5,dV,q1,hw,q2,q3]|refine rd0 rfl ?_))
       refine⟨(k+1,n),⟨by simp only;omega,nn⟩,by simp only;omega,?_⟩;try simp only[aB,QE,seval,eD,cJ,eA,dY,dW,dZ,d4,d5,dV,hw]
       try simp[aF]
      ·have hc:jP rail n m x=true:=by rw[hcl,q1,q2,q3];rfl
       have nn:=yes hc;have hlt:=BM hc;have w1:IntKind.i64.wrap (n+m-n)=m:=by rw[show n+m-n=m by omega];exact bM ⟨by omega,by omega⟩
       have w2:IntKind.i64.wrap (x.til+m)=x.til+m:=bM ⟨by omega,by omega⟩
       (repeat (first|simp only[↓QA,QB,seval,eD,cJ,eA,dY,dW,dZ,d4,d5,dV,q1,hw,q2,q3,w1,w2]|refine rd0 rfl ?_))
       refine⟨(k+1,x.til),⟨by simp only;omega,nn⟩,by simp only;omega,?_⟩;try simp only[aB,QE,seval,eD,cJ,eA,dY,dW,dZ,d4,d5,dV,hw]
       try simp[aF,okVs,okV]
   ·have hk1:k=ss.length:=by simp at h;omega
    rw[hk1] at hlk;have hrr:(rail==rail)=true:=by simp
    rcases hlk with⟨e,a⟩|⟨e1,e2⟩
    ·rw[List.take_length] at a;have hz:=JQ hfi (JB hb a);subst e;have g:(n==n)=true:=by simp
     have g2:(n+m==n+m)=true:=by simp
     (repeat (first|simp only[↓QA,QB,seval,eD,cJ,eA,dY,dW,dZ,d4,d5,dV,g,g2,hrr,hz]|refine rd0 rfl ?_))
    ·have g:(n==r)=false:=by simp;omega
     (repeat (first|simp only[↓QA,QB,seval,eD,cJ,eA,dY,dW,dZ,d4,d5,dV,g,hrr,Bool.false_and]|refine rd0 rfl ?_))
     refine⟨n,e2,by omega,?_⟩;try simp only[aB,QE,seval,eD,cJ,eA,dY,dW,dZ,d4,d5,dV]
     try simp[aF,okVs,okV]
theorem aES(v:Net)(b m p:Nat)(σ:St)(hσ:aH σ p=some (db v b m))(i:Nat)(hi:i<v.trams.length):eS T (.func 434 [.ptr p 0] []) [.int .i64 i] σ (ints (fR (lL v) i)):=by
 refine bN (af:=aCS) rfl (by simp[aCS]) ?_;rw[P1 hi];obtain⟨z,hz⟩:∃ z,v.trams[i]=z:=⟨_,rfl⟩;rw[hz];try simp only[↓QA,QB,seval,eD,cJ,eA,dY,dW,dZ,d4,d5,dV,aCS,hσ,hi,hz]
 refine bU [] (by first|rfl|simp) ?_;try simp only[QS,QC,seval,eD,cJ,eA,dY,dW,dZ,d4,d5,dV]
def dA(cs:List Int)(j:Nat):Int:=comeAt cs (j:Int)
theorem S9(cs:List Int)(x:Int){k:Nat}(hk:cs.length=k):dA (cs++[x])=iB (dA cs) k x:=by
 funext j;simp only[dA,comeAt,Int.toNat_natCast,iB];by_cases e:j=k
 ·subst e;simp[<-hk]
 ·rw[if_neg e];by_cases h:j<cs.length
  ·rw[List.getElem?_append_left h]
  ·rw[List.getElem?_eq_none (by simp;omega),List.getElem?_eq_none (by omega)]
theorem A1(f:Nat->Int)(i:Nat)(a b:Int):iB (iB f i a) i b=iB f i b:=by
 funext j;simp only[iB];split<;>rfl
theorem aD2(f:Nat->Int)(i:Nat)(a:Int):iB f i a i=a:=by simp[iB]
theorem aL1(v:Net)(m:Int->Int)(ps:List (List Int)):aZ 3 (dA (fM v m ps 0).2)=[.int .i64 0,.int .i64 0,.int .i64 0]:=by
 simp[aZ,dA,comeAt,fM,List.range_succ]
theorem U4(M:Nat->Int)(k:Nat)(σ:St)(hσ:aH σ k=some (aZ 5 M))(r:Nat)(hr:r<5):eS T (.func 487 [] [.ptr k 0]) [.int .i64 r] σ (.bool (M r==0)):=by
 refine bN (af:=aDO) rfl (by simp[aDO]) ?_;have i5:(0:Int)<=(r:Int)/\(r:Int)<((5:Nat):Int):=⟨by omega,by omega⟩;have hg:=gO 5 M hr;try simp only[↓QA,QB,reduceLT,reduceIte,reduceEqDiff,reduceAdd,reduceLeDiff,reduceMul,Nat.reduceBEq,eD,cJ,eA,dY,dW,dZ,d4,d5,dV,aDO,i5,hσ,hg]
 refine bU [] (by first|rfl|simp) ?_;try simp only[QS,QC,reduceLT,reduceIte,reduceEqDiff,reduceAdd,reduceLeDiff,reduceMul,Nat.reduceBEq,eD,cJ,eA,dY,dW,dZ,d4,d5,dV]
theorem JG(v:Net)(h:Fits v)(s:Int):cV T 183 [encNet v,.int .i64 s] (F2 (rX v s)):=by
 refine aR (af:=aAQ) rfl (by simp[aAQ]) dd ?_;obtain⟨W,hW⟩:∃ W,IntKind.i64.wrap (v.stations-1)=W:=⟨_,rfl⟩;try simp only[↓QA,QB,seval,eD,cJ,eA,dY,dW,dZ,d4,d5,dV,aAQ]
 (refine aD (n8 v h) rfl dd ?_;try simp only[↓QA,QB,seval,eD,cJ,eA,dY,dW,dZ,d4,d5,dV,enc3])
 cases h0:((check v).2.2==0)
 ·have h0':(check v).2.2≠0:=by simpa using h0
  have hp:rX v s=([],(check v).2.2):=by simp[rX,h0']
  rw[hp];try simp only[↓QA,QB,seval,eD,cJ,eA,dY,dW,dZ,d4,d5,dV,h0,F2,cT,List.map_nil]
  try rfl
 ·have h0':(check v).2.2=0:=by simpa using h0
  have hv:=vd_of_check h0';have hst:=hv.st;have hWe:IntKind.i64.wrap (v.stations-1)=v.stations-1:=bM ⟨by omega,by omega⟩;try simp only[↓QA,QB,seval,eD,cJ,eA,dY,dW,dZ,d4,d5,dV,h0,hWe]
  (refine bT (cE 0 (v.stations-1) [s] (by simp)) (by simp[clr,clrs,ints]) (by simp[okV,okVs]) ?_;try simp only[↓QA,QB,seval,eD,cJ,eA,dY,dW,dZ,d4,d5,dV,gB])
  rw[show inR s 0 (v.stations-1)=pC v s from rfl];cases h1:pC v s
  ·have hp:rX v s=([],4):=by simp[rX,h0',h1]
   rw[hp];try simp only[↓QA,QB,seval,eD,cJ,eA,dY,dW,dZ,d4,d5,dV,h0,F2,cT,List.map_nil]
   try rfl
  ·have hp:rX v s=(eX v s [],0):=by simp[rX,h0',h1]
   rw[hp];rw[rG] at h1;obtain⟨S,rfl⟩:∃ S:Nat,s=(S:Int):=⟨s.toNat,by omega⟩;have hw:=GV v hv S (by omega) (-1);have hb:tT (-1)=[]:=rfl;rw[hb] at hw;try simp only[↓QA,QB,seval,eD,cJ,eA,dY,dW,dZ,d4,d5,dV,h0]
   (refine aD (hw) rfl dd ?_;try simp only[↓QA,QB,seval,eD,cJ,eA,dY,dW,dZ,d4,d5,dV,F2,cT])
   try try simp only[QS,QC,seval,eD,cJ,eA,dY,dW,dZ,d4,d5,dV]
end Go.Am.Room.Tr
set_option maxRecDepth 8000
namespace Go.Am.Room.Tr
def fU:=zz @encNet_eq (zz @netCells_eq (zz @encRail_eq (zz @encTram_eq (zz @encSeen_eq (zz @aJ (zz @S_mapRail (zz @S_mapTram (zz @S_mapSeen (zz @bZ (zz @bY (zz @Nat.not_lt_zero (zz @List.length_append.{0} (zz @Nat.zero_add (zz @Nat.mul_one (zz @Int.toNat_natCast (zz @cJ (zz @eA (zz @dL (zz @d7 (zz @d6 (zz @iR (zz @d8 (zz @dY (zz @dW (zz @dZ (zz @d4 (zz @d5 (zz @dV (zz @Nat.add_lt_add_iff_left (@Nat.lt_add_right_iff_pos))))))))))))))))))))))))))))))
theorem OM(v:Net)(hv:Vd v)(b m0 p:Nat)(σ:St)(hσ:aH σ p=some (db v b m0))(hp:p<σ.length)(f:AV)(hk3:∀ τ n,σ.length<=n->cQ (σ++τ) n 20 f=some f)(ps:List (List Int))(hps:RunOk v ps)(hf:∀ i,i<v.trams.length->∀ τ,eS T f [.int .i64 i] (σ++τ) (ints (fR ps i)))(M:Nat->Int)(m:Int->Int)(hM:∀ i:Nat,m (i:Int)=M i)(hm:HI v m):
  eS T (.func 433 [] []) [.ptr p 0,.agg (aZ 5 M),f] σ (.agg (aZ 3 (dA (lP v ps m)))):=by
 refine bN (af:=aDH) rfl (by simp[aDH]) ?_;have hnt:=hv.ntr;have hnr:=hv.nra;have hk:oS σ f:=fun τ=>hk3 τ _ (Nat.le_refl _)
 have hk0:=hk.nil;have hk2:∀ τ n,cQ (σ++τ) (σ.length+n) 20 f=some f:=fun τ n=>hk3 τ _ (by omega)
 have hk4:∀ τ,cQ (σ++τ) σ.length 20 f=some f:=hk;have hσ2:=fun τ=>iI hσ τ
 have hbd:=SO hv hm hps;have hz:=aL1 v m ps
 (repeat (first|simp only[↓QA,QB,reduceLT,reduceIte,reduceEqDiff,reduceAdd,reduceLeDiff,reduceMul,Nat.reduceBEq,fU,aDH,hσ2,<-hz]|refine rd0 rfl ?_))
 refine jN 7 3 [] rfl ?_;refine bC (S:=Nat×Bool) (0,false) (fun a=>a.1<=v.trams.length) (fun a=>v.trams.length-a.1)
  (fun a=>[(2,f),(4,.ptr σ.length 0),(6,.ptr (σ.length+1) 0),(7,.lit ((fM v m ps a.1).1.map mL) false (some (σ.length+2))),(18,.lit (v.trams.map encTram) false none),(19,.int .i64 v.trams.length),(20,.int .i64 a.1)])
  (fun a=>σ++[.cells (aZ 5 M),.cells (aZ 3 (dA (fM v m ps a.1).2)),.tok 3 (fM v m ps a.1).1.length a.2]) (Nat.zero_le _) (by simp[fM]) ?_ fun a ha=>?_
 ·try simp only[aB,QE,reduceLT,reduceIte,reduceEqDiff,reduceAdd,reduceLeDiff,reduceMul,Nat.reduceBEq,fU,hk2,hk4]
  try simp[fM]
 ·obtain⟨i,ex⟩:=a;simp only at ha
  (repeat (first|simp only[↓QA,QB,reduceLT,reduceIte,reduceEqDiff,reduceAdd,reduceLeDiff,reduceMul,Nat.reduceBEq,fU,aAB]|refine rd0 rfl ?_))
  refine aE (fun h=>?_) fun h=>?_
  ·have hi1:i<v.trams.length:=by simpa using h
   have hwi:=bD hi1 (by omega);obtain⟨b1,b2⟩:=hbd i (by omega);have hlc:=run_len v m ps i;have hsu:=OI v m ps i;have hto:=DN hv hi1;have hpm:=FK hps hi1;have hp4:=hps.few _ hpm;have hpr:=hps.rails _ hpm;have hfp:=fun τ=>hf i hi1 τ
   rw[DC hi1] at hsu;obtain⟨t,ht⟩:∃ t,v.trams[i]=t:=⟨_,rfl⟩;obtain⟨p,hpp⟩:∃ p,fR ps i=p:=⟨_,rfl⟩;rw[ht] at hto hsu;rw[hpp] at hp4 hpr hsu;simp only[hpp] at hfp;have hlv:=hto.leaves;obtain⟨L,hL⟩:∃ L,t.leaves=L:=⟨_,rfl⟩;rw[hL] at hlv hsu;obtain⟨SS,hSS⟩:∃ SS,(fM v m ps i).1=SS:=⟨_,rfl⟩;obtain⟨OO,hOO⟩:∃ OO,(fM v m ps i).2=OO:=⟨_,rfl⟩;rw[hSS] at b1 hsu;rw[hOO] at b2 hlc hsu;have hgo:oZ m i L p SS=if p.any (fun r=>m r==0)=true then (SS,-1) else pJ m i p L SS:=rfl
   rw[hSS,hOO];obtain⟨R,hR⟩:∃ R,oZ m i L p SS=R:=⟨_,rfl⟩;rw[hR] at hsu hgo;have hsu1:(fM v m ps (i+1)).1=R.1:=by rw[hsu]
   have hsu2:dA (fM v m ps (i+1)).2=iB (dA OO) i R.2:=by rw[hsu];exact S9 OO R.2 hlc
   have i3:(0:Int)<=(i:Int)/\(i:Int)<((3:Nat):Int):=⟨by omega,by omega⟩;have c3:i+1<=3:=by omega
   have hset:=fun (g:Nat->Int) x=>oJ 3 g x (i:=i) (by omega)
   have hget:=fun (g:Nat->Int)=>gO 3 g (i:=i) (by omega)
   have hct:=fun (C:ABlk) (τ:St)=>k9 (σ++(.cells (aZ 5 M)::C::τ)) (.func 487 [] [.ptr σ.length 0]) p (fun r=>m r==0) (by omega) (fun υ=>by try simp only[QS,QC,reduceLT,reduceIte,reduceEqDiff,reduceAdd,reduceLeDiff,reduceMul,Nat.reduceBEq,fU,List.length_append];simp) (fun x hx=>by
    have hxr:=hpr x hx;obtain⟨r,rfl⟩:∃ r:Nat,x=(r:Int):=⟨x.toNat,by omega⟩;rw[hM]
    exact U4 M σ.length _ (by rw[k7];rfl) r (by omega))
   (repeat (first|simp only[↓QA,QB,reduceLT,reduceIte,reduceEqDiff,reduceAdd,reduceLeDiff,reduceMul,Nat.reduceBEq,fU,hi1,ht,hL,i3,c3,hset]|refine rd0 rfl ?_))
   refine aS (hfp _) ?_
   (repeat (first|simp only[↓QA,QB,reduceLT,reduceIte,reduceEqDiff,reduceAdd,reduceLeDiff,reduceMul,Nat.reduceBEq,fU]|refine rd0 rfl ?_))
   refine aS (hct _ _) ?_;have hwt:∀ (TB:ABlk) (K:KJ) (e:Env),Env.get e 2=f->Env.get e 4 = .ptr σ.length 0->Env.get e 6 = .ptr (σ.length+1) 0->Env.get e 7 = .lit (SS.map mL) false (some (σ.length+2))->Env.get e 8 = .int .i64 i->Env.get e 18 = .lit (v.trams.map encTram) false none->Env.get e 19 = .int .i64 v.trams.length->Env.get e 20 = .int .i64 i->Env.get e 37=ints p->Env.get e 38 = .int .i64 p.length->Env.get e 39 = .int .i64 0 ->
     p.any (fun r=>m r==0)=false->pJ m i p L SS=R ->
     (∀ e' ex',Env.get e' 2=f->Env.get e' 4 = .ptr σ.length 0->Env.get e' 6 = .ptr (σ.length+1) 0->Env.get e' 7 = .lit (R.1.map mL) false (some (σ.length+2))->Env.get e' 18 = .lit (v.trams.map encTram) false none->Env.get e' 19 = .int .i64 v.trams.length->Env.get e' 20 = .int .i64 i ->
      K (some (.exit 2)) e' (σ++[.cells (aZ 5 M),.cells (aZ 3 (iB (dA OO) i R.2)),.tok 3 R.1.length ex',TB])) ->
     rK (K:=⟨K⟩) T (.loop QO) e (σ++[.cells (aZ 5 M),.cells (aZ 3 (iB (dA OO) i L)),.tok 3 SS.length ex,TB]):=by
    intro TB K e q2 q4 q6 q7 q8 q18 q19 q20 q37 q38 q39 hc hgo hK;refine bC (S:=Nat×Int×List Stay×Bool) (0,L,SS,ex) (fun a=>a.1<=p.length/\0<=a.2.1/\a.2.1<=60+20*(4*i+a.1:Nat)/\StaysOk a.2.2.1 (4*i+a.1)/\pJ m i (p.drop a.1) a.2.1 a.2.2.1=R) (fun a=>p.length-a.1)
     (fun a=>[(2,f),(4,.ptr σ.length 0),(6,.ptr (σ.length+1) 0),(7,.lit (a.2.2.1.map mL) false (some (σ.length+2))),(8,.int .i64 i),(18,.lit (v.trams.map encTram) false none),(19,.int .i64 v.trams.length),(20,.int .i64 i),(37,ints p),(38,.int .i64 p.length),(39,.int .i64 a.1)])
     (fun a=>σ++[.cells (aZ 5 M),.cells (aZ 3 (iB (dA OO) i a.2.1)),.tok 3 a.2.2.1.length a.2.2.2,TB]) ⟨by simp,by simp only;omega,by simp only;omega,b1,hgo⟩ rfl ?_ fun a ha=>?_
    ·try simp only[aB,QE,reduceLT,reduceIte,reduceEqDiff,reduceAdd,reduceLeDiff,reduceMul,Nat.reduceBEq,fU,ints,hk2,hk4,q2,q4,q6,q7,q8,q18,q19,q20,q37,q38,q39]
     try simp[aF]
    ·obtain⟨j,at_,SS,ex⟩:=a;obtain⟨hj,ha0,ha1,hso,hgo⟩:=ha;simp only at hj ha0 ha1 hso hgo
     (repeat (first|simp only[↓QA,QB,reduceLT,reduceIte,reduceEqDiff,reduceAdd,reduceLeDiff,reduceMul,Nat.reduceBEq,fU,QO]|refine rd0 rfl ?_))
     refine aE (fun h2=>?_) fun h2=>?_
     ·have hj1:j<p.length:=by simpa using h2
      have hwj:=bD hj1 (by omega);have hpk:=hpr _ (List.getElem_mem hj1);rw[List.drop_eq_getElem_cons hj1] at hgo;obtain⟨r,hr⟩:∃ r:Nat,p[j]=(r:Int):=⟨p[j].toNat,by omega⟩;rw[hr] at hpk hgo;have hmr:=hm r hpk.1 hpk.2;have hMr:=hM r;obtain⟨Q,hQ⟩:∃ Q,M r=Q:=⟨_,rfl⟩;rw[hQ] at hMr;rw[hMr] at hmr;simp only[pJ,hMr] at hgo;obtain⟨f1,f2,f3⟩:=L8 (rail:=(r:Int)) (m:=Q) hso (by omega) ha0 ha1;have hsl:=hso.len;have hfr:=Y7 SS r at_ Q (60+20*((4*i+j:Nat):Int)) (by omega) hso.til ha0 ha1 (by omega) (by omega);obtain⟨F,hF⟩:∃ F,lC SS r at_ Q=F:=⟨_,rfl⟩;rw[hF] at hgo f2 f3 hfr;have hwF:IntKind.i64.wrap (F+Q)=F+Q:=bM ⟨by omega,by omega⟩;have hwA:IntKind.i64.wrap (at_+Q)=at_+Q:=bM ⟨by omega,by omega⟩;have i5:(0:Int)<=(r:Int)/\(r:Int)<((5:Nat):Int):=⟨by omega,by omega⟩;have hg5:=gO 5 M (show r<5 by omega);rw[hQ] at hg5;have a7:=fun (b0 b1:ABlk) (τ:St)=>kC (σ:=σ++(b0::b1::.tok 3 SS.length ex::τ)) (t:=σ.length+2) (ex:=ex) (sz:=3) (b:=24) (xs:=SS.map mL) (ys:=[.agg [.int .i64 r,.int .i64 F,.int .i64 (F+Q)]]) (f:=true) (tk:=none) ⟨PN SS,by simp[aM,bV,AV.cells,AV.cell],by simp[room];omega,by simp[room];omega⟩ (by simp) SS.length (by simp) (by rw[mZ];rfl)
      (repeat (first|simp only[↓QA,QB,reduceLT,reduceIte,reduceEqDiff,reduceAdd,reduceLeDiff,reduceMul,Nat.reduceBEq,fU,hj1,hr,i3,i5,hget,hg5,aD2,hwA]|refine rd0 rfl ?_))
      ((first|refine yE (hfr) (by try simp only[QS,QC,reduceLT,reduceIte,reduceEqDiff,reduceAdd,reduceLeDiff,reduceMul,Nat.reduceBEq,fU]) trivial ?_|refine AS (hfr) (by try simp only[QS,QC,reduceLT,reduceIte,reduceEqDiff,reduceAdd,reduceLeDiff,reduceMul,Nat.reduceBEq,fU]) trivial ?_);(repeat (first|simp only[↓QA,QB,reduceLT,reduceIte,reduceEqDiff,reduceAdd,reduceLeDiff,reduceMul,Nat.reduceBEq,fU,hj1,hr,i3,i5,c3,hget,hg5,aD2,hwA,hwF,hset,A1,a7]|refine rd0 rfl ?_)))
      refine⟨(j+1,F+Q,SS++[⟨i,r,F,F+Q⟩],true),⟨by simp only;omega,by simp only;omega,by simp only;omega,?_,hgo⟩,by simp only;omega,?_⟩
      ·refine⟨by simp;omega,fun x hx=>?_,fun x hx=>?_⟩
       ·rcases List.mem_append.1 hx with hx|hx
        ·have:=hso.til x hx;simp only;omega
        ·simp only[List.mem_singleton] at hx;subst hx;simp only;omega
       ·rcases List.mem_append.1 hx with hx|hx
        ·exact hso.frm x hx
        ·simp only[List.mem_singleton] at hx;subst hx;simp only;omega
      ·try simp only[aB,QE,reduceLT,reduceIte,reduceEqDiff,reduceAdd,reduceLeDiff,reduceMul,Nat.reduceBEq,fU,hwj,ints,hk2,hk4,List.map_append,List.map_cons,List.map_nil]
       try simp[aF,okVs,okV,pS]
     ·have hj1:j=p.length:=by
       have:¬j<p.length:=by simpa using h2
       omega
      rw[List.drop_eq_nil_of_le (by omega),pJ] at hgo;subst hgo
      (repeat (first|simp only[↓QA,QB,reduceLT,reduceIte,reduceEqDiff,reduceAdd,reduceLeDiff,reduceMul,Nat.reduceBEq,fU]|refine rd0 rfl ?_))
      refine hK _ ex ?_ ?_ ?_ ?_ ?_ ?_ ?_;all_goals try simp only[aB,QE,reduceLT,reduceIte,reduceEqDiff,reduceAdd,reduceLeDiff,reduceMul,Nat.reduceBEq,fU]
   cases hc:p.any (fun r=>m r==0)
   ·rw[hc] at hgo;simp only[Bool.false_eq_true,if_false] at hgo
    (repeat (first|simp only[↓QA,QB,reduceLT,reduceIte,reduceEqDiff,reduceAdd,reduceLeDiff,reduceMul,Nat.reduceBEq,fU]|refine rd0 rfl ?_))
    refine hwt _ _ _ ?_ ?_ ?_ ?_ ?_ ?_ ?_ ?_ ?_ ?_ ?_ hc hgo.symm ?_;all_goals try try simp only[aB,QE,reduceLT,reduceIte,reduceEqDiff,reduceAdd,reduceLeDiff,reduceMul,Nat.reduceBEq,fU,ints]
    intro e' ex' q2 q4 q6 q7 q18 q19 q20
    (repeat (first|simp only[↓QA,QB,reduceLT,reduceIte,reduceEqDiff,reduceAdd,reduceLeDiff,reduceMul,Nat.reduceBEq,fU,q2,q4,q6,q7,q18,q19,q20,hwi]|refine rd0 rfl ?_))
    refine⟨(i+1,ex'),by simp only;omega,by simp only;omega,?_⟩;try simp only[aB,QE,reduceLT,reduceIte,reduceEqDiff,reduceAdd,reduceLeDiff,reduceMul,Nat.reduceBEq,fU,q2,q4,q6,q7,q18,q19,q20,hwi,hsu1,hsu2,hk2,hk4]
    try simp[aF,okVs,okV,pS]
   ·rw[hc] at hgo;simp only[if_true] at hgo;subst hgo
    (repeat (first|simp only[↓QA,QB,reduceLT,reduceIte,reduceEqDiff,reduceAdd,reduceLeDiff,reduceMul,Nat.reduceBEq,fU,hset,i3,c3,A1,hwi]|refine rd0 rfl ?_))
    refine⟨(i+1,ex),by simp only;omega,by simp only;omega,?_⟩;try simp only[aB,QE,reduceLT,reduceIte,reduceEqDiff,reduceAdd,reduceLeDiff,reduceMul,Nat.reduceBEq,fU,hwi,hsu1,hsu2,hk2,hk4]
    try simp[aF,okVs,okV,pS]
  ·have hi1:i=v.trams.length:=by
    have:¬i<v.trams.length:=by simpa using h
    omega
   rw[hi1]
   (repeat (first|simp only[↓QA,QB,reduceLT,reduceIte,reduceEqDiff,reduceAdd,reduceLeDiff,reduceMul,Nat.reduceBEq,fU]|refine rd0 rfl ?_))
   refine bU [.cells (aZ 5 M),.cells (aZ 3 (dA (fM v m ps v.trams.length).2)),.tok 3 (fM v m ps v.trams.length).1.length ex] (by first|rfl|simp) ?_;try simp only[QS,QC,reduceLT,reduceIte,reduceEqDiff,reduceAdd,reduceLeDiff,reduceMul,Nat.reduceBEq,fU,lP]
end Go.Am.Room.Tr
namespace Go.Am.Room.Tr
def jX:=zz @encNet_eq (zz @netCells_eq (zz @encRail_eq (zz @encTram_eq (zz @encSeen_eq (zz @aJ (zz @S_mapRail (zz @S_mapTram (zz @S_mapSeen (zz @bZ (zz @bY (zz @Nat.not_lt_zero (zz @List.length_append.{0} (zz @Nat.zero_add (zz @Nat.mul_one (zz @Int.toNat_natCast (zz @dL (zz @d7 (zz @d6 (zz @iR (zz @d8 (zz @dY (zz @dW (zz @dZ (zz @d4 (zz @d5 (zz @dV (zz @Nat.add_lt_add_iff_left (@Nat.lt_add_right_iff_pos))))))))))))))))))))))))))))
def rl(l:List Int)(i:Nat):Int:=(l[i]?).getD 0
theorem J7{l:List Int}{k:Nat}(h:k<l.length):rl l k=l[k]:=by simp[rl,h]
theorem aDF(c:List Int)(i:Nat):rlI c (i:Int)=rl c i:=by simp[rlI,rl]
theorem HN{a b:List Int}(h1:a.length=b.length)(h2:a.length<=5):((List.range 5).all fun i=>rl a i==rl b i)=decide (a=b):=by
 rw[Bool.eq_iff_iff,List.all_eq_true,decide_eq_true_eq];constructor
 ·intro h;refine List.ext_getElem h1 fun i hi1 hi2=>?_
  have:=h i (by simp;omega);rw[beq_iff_eq,J7 (by omega),J7 (by omega)] at this;exact this
 ·rintro rfl i _;simp
abbrev K5:={ c:List Int // c.length=5 }
def pad(c:List Int):K5:=⟨(List.range 5).map (rl c),by simp⟩
theorem aDR(c:List Int){i:Nat}(h:i<5):rl (pad c).1 i=rl c i:=by simp[pad,rl,h]
theorem aH3(c:List Int):aZ 5 (rl (pad c).1)=aZ 5 (rl c):=SZ fun i hi=>aDR c hi
theorem UY(v:Net){c:List Int}(h:c.length<=5):eH v (pad c).1=eH v c:=by
 have:rlI (pad c).1=rlI c:=by
  funext r;simp only[rlI];by_cases hr:r.toNat<5
  ·exact aDR c hr
  ·rw[List.getElem?_eq_none (by rw[(pad c).2];omega),List.getElem?_eq_none (by omega)]
 rw[eH,eH,this]
def aIB(w:K5):AV:=.agg (aZ 5 (rl w.1))
theorem aGO(w:K5):aIB w = .agg (aZ 5 (rl w.1)):=by simp only[aIB]
def aF3(v:Net)(w:K5):AV:=.agg (aZ 3 (dA (eH v w.1)))
theorem aH8(v:Net)(w:K5):aF3 v w = .agg (aZ 3 (dA (eH v w.1))):=by simp only[aF3]
theorem F6(v:Net):KeyIs (.agg [.i,.i,.i,.i,.i]) aIB (aF3 v) where
 eq:=fun w x=>by
  have:=FA 5 (rl w.1) (rl x.1);rw[HN (by rw[w.2,x.2]) (by rw[w.2];exact Nat.le_refl _)] at this;have e:decide (w.1=x.1)=decide (w=x):=by rw[decide_eq_decide];exact Subtype.ext_iff.symm
  rw[e] at this;exact this
 dk:=fun w=>gQ (lR _ _)
 dv:=fun w=>gQ (lR _ _)
abbrev tEs(v:Net):List K5->List (AV×AV):=vD aIB (aF3 v)
def aFY(k:Nat):AV:=if k=0 then .func 484 [] [] else if k=1 then .func 485 [] [] else .func 486 [] []
def oX:List AV:=[.func 484 [] [],.func 485 [] [],.func 486 [] []]
theorem wK:oX=[.func 484 [] [],.func 485 [] [],.func 486 [] []]:=by simp only[oX]
theorem Z3{k:Nat}(h:k<3):oX[k]? = some (aFY k):=by
 have:k=0\/k=1\/k=2:=by omega
 rcases this with rfl|rfl|rfl<;>rfl
theorem J2(k:Nat)(hk:k<3)(c:Bool)(σ:St):eS T (aFY k) [.bool c] σ (.bool (yO (k:Int) c)):=by
 have:k=0\/k=1\/k=2:=by omega
 rcases this with rfl|rfl|rfl
 ·refine bN (af:=aC9) rfl (by simp[aC9]) ?_;try simp only[↓QA,QB,seval,jX,aC9]
  refine bU [] (by first|rfl|simp) ?_;cases c<;>(rw[K7];rfl)
 ·refine bN (af:=aAW) rfl (by simp[aAW]) ?_;try simp only[↓QA,QB,seval,jX,aAW]
  refine bU [] (by first|rfl|simp) ?_;cases c<;>(rw[K7];rfl)
 ·refine bN (af:=ZU) rfl (by simp[ZU]) ?_;try simp only[↓QA,QB,seval,jX,ZU]
  refine bU [] (by first|rfl|simp) ?_;cases c<;>(rw[K7];rfl)
theorem ST(σ:St):eS T (.func 431 [] []) [] σ (.agg oX):=by
 refine bN (af:=aB5) rfl (by simp[aB5]) ?_;have j0:(0:Int)<=0/\(0:Int)<((3:Nat):Int):=by decide
 have j1:(0:Int)<=1/\(1:Int)<((3:Nat):Int):=by decide
 have j2:(0:Int)<=2/\(2:Int)<((3:Nat):Int):=by decide
 have t0:Int.toNat 0=0:=rfl;have t1:Int.toNat 1=1:=rfl;have t2:Int.toNat 2=2:=rfl;try simp only[↓QA,QB,seval,jX,aB5,j0,j1,j2,t0,t1,t2]
 refine bU [.cells oX] (by first|rfl|simp[oX]) ?_;try simp only[QS,QC,seval,jX,wK,MC]
theorem aE3(v:Net)(hv:Vd v)(b m p q tt s2 s5:Nat)(bl CS:List Int)(hb:ButIs b bl)(hcl:CS.length=v.trams.length)(σ:St)(hq:aH σ q=some [.ptr p 0])(hp:aH σ p=some (db v b m))(ht:aH σ tt=some (aZ 3 (dA CS)))(hs2:s2<σ.length)(hs5:s5<σ.length)(e:Env)(K:KJ)(e1:Env.get e 1 = .ptr q 0)(e2:Env.get e 2 = .ptr s2 0)(e5:Env.get e 5 = .ptr s5 0)(e10:Env.get e 10 = .ptr tt 0)(e58:Env.get e 58 = .lit (v.seen.map encSeen) false none)(e59:Env.get e 59 = .int .i64 v.seen.length)(e60:Env.get e 60 = .int .i64 0)(hKt:mQ v bl CS=true->∀ e',Env.get e' 2 = .ptr s2 0->Env.get e' 5 = .ptr s5 0->Env.get e' 10 = .ptr tt 0->K (some (.exit 0)) e' σ)(hKf:mQ v bl CS=false->∀ e' τ',Env.get e' 9 = .bool true->K (some .ret) e' (σ++τ')):
  rK (K:=⟨K⟩) T (.loop KY) e σ:=by
 have hse:=hv.nse;have hnt:=hv.ntr;have hql:=mJ hq;have htl:=mJ ht;have hq2:=fun τ=>iI hq τ
 have hp2:=fun τ=>iI hp τ
 have ht2:=fun τ=>iI ht τ
 refine bC (S:=Nat) 0 (fun k=>k<=v.seen.length/\qQ v bl CS k=true) (fun k=>v.seen.length-k)
  (fun k=>[(1,.ptr q 0),(2,.ptr s2 0),(5,.ptr s5 0),(10,.ptr tt 0),(58,.lit (v.seen.map encSeen) false none),(59,.int .i64 v.seen.length),(60,.int .i64 k)])
  (fun k=>σ) ⟨Nat.zero_le _,rfl⟩ rfl ?_ fun k hk=>?_
 ·try simp only[aB,QE,reduceLT,reduceIte,reduceEqDiff,reduceAdd,reduceLeDiff,reduceMul,Nat.reduceBEq,jX,e1,e2,e5,e10,e58,e59,e60]
  try simp[hs2,hs5,hql,htl]
 ·obtain⟨hk,hok⟩:=hk
  (repeat (first|simp only[↓QA,QB,reduceLT,reduceIte,reduceEqDiff,reduceAdd,reduceLeDiff,reduceMul,Nat.reduceBEq,jX,KY]|refine rd0 rfl ?_))
  refine aE (fun hd=>?_) fun hd=>?_
  ·have hk1:k<v.seen.length:=by simpa using hd
   have hw:=bD hk1 (by omega);have hsu:=DU hk1 bl CS;have hsx:=hv.se _ (List.getElem_mem hk1);obtain⟨x,hx⟩:∃ x,v.seen[k]=x:=⟨_,rfl⟩;rw[hx] at hsu hsx;rw[hok,Bool.true_and] at hsu;obtain⟨t,hte⟩:∃ t:Nat,x.tram=t:=⟨x.tram.toNat,by omega⟩;rw[hte] at hsu hsx;have hdiv:b/2^k<9223372036854775808:=Nat.lt_of_le_of_lt (Nat.div_le_self _ _) hb.lt;have hbit:=hb.bit k (by omega);have vs:=N7 b k (by omega);have va:=FF (b/2^k) hdiv;have i3:(0:Int)<=(t:Int)/\(t:Int)<((3:Nat):Int):=⟨by omega,by omega⟩;have hg:=gO 3 (dA CS) (i:=t) (by omega);have hcf:dA CS t=comeAt CS (t:Int):=rfl;rw[hcf] at hg;obtain⟨C,hC⟩:∃ C,comeAt CS (t:Int)=C:=⟨_,rfl⟩;rw[hC] at hsu hg;have go:qQ v bl CS (k+1)=true->(k+1<=v.seen.length/\qQ v bl CS (k+1)=true):=fun q=>⟨by omega,q⟩
   have snp:∀ τ n,n<σ.length->cQ (σ++τ) σ.length 20 (.ptr n 0)=some (.ptr n 0):=fun τ n hn=>by rw[aJR,if_pos hn]
   cases h2:bl.contains (k:Int)
   ·rw[h2] at hbit hsu;rw[Bool.false_or] at hsu;cases h3:(C==x.minute)
    ·rw[h3] at hsu;have hqf:mQ v bl CS=false:=by
      rw[<-zL];simp only[qQ,List.all_eq_false,List.mem_range] at hsu ⊢;obtain⟨a,ha,h1⟩:=hsu;exact⟨a,by omega,h1⟩
     (repeat (first|simp only[↓QA,QB,reduceLT,reduceIte,reduceEqDiff,reduceAdd,reduceLeDiff,reduceMul,Nat.reduceBEq,jX,hk1,hx,hte,hq2,hp2,ht2,vs,va,hbit,i3,hg,h3]|refine rd0 rfl ?_))
     exact hKf hqf _ _ (by try simp only[aB,QE,reduceLT,reduceIte,reduceEqDiff,reduceAdd,reduceLeDiff,reduceMul,Nat.reduceBEq,jX])
    ·rw[h3] at hsu
     (repeat (first|simp only[↓QA,QB,reduceLT,reduceIte,reduceEqDiff,reduceAdd,reduceLeDiff,reduceMul,Nat.reduceBEq,jX,hk1,hx,hte,hq2,hp2,ht2,vs,va,hbit,i3,hg,h3]|refine rd0 rfl ?_))
     refine⟨k+1,go hsu,by omega,?_⟩;try simp only[aB,QE,reduceLT,reduceIte,reduceEqDiff,reduceAdd,reduceLeDiff,reduceMul,Nat.reduceBEq,jX,hw,snp _ _ hql,snp _ _ hs2,snp _ _ hs5,snp _ _ htl]
     try simp[aF,hs2,hs5,hql,htl]
   ·rw[h2] at hbit hsu;rw[Bool.true_or] at hsu
    (repeat (first|simp only[↓QA,QB,reduceLT,reduceIte,reduceEqDiff,reduceAdd,reduceLeDiff,reduceMul,Nat.reduceBEq,jX,hk1,hx,hte,hq2,hp2,ht2,vs,va,hbit]|refine rd0 rfl ?_))
    refine⟨k+1,go hsu,by omega,?_⟩;try simp only[aB,QE,reduceLT,reduceIte,reduceEqDiff,reduceAdd,reduceLeDiff,reduceMul,Nat.reduceBEq,jX,hw,snp _ _ hql,snp _ _ hs2,snp _ _ hs5,snp _ _ htl]
    try simp[aF,hs2,hs5,hql,htl]
  ·have hk1:k=v.seen.length:=by
    have:¬k<v.seen.length:=by simpa using hd
    omega
   rw[hk1,zL] at hok
   (repeat (first|simp only[↓QA,QB,reduceLT,reduceIte,reduceEqDiff,reduceAdd,reduceLeDiff,reduceMul,Nat.reduceBEq,jX]|refine rd0 rfl ?_))
   refine hKt hok _ ?_ ?_ ?_;all_goals try simp only[aB,QE,reduceLT,reduceIte,reduceEqDiff,reduceAdd,reduceLeDiff,reduceMul,Nat.reduceBEq,jX]
end Go.Am.Room.Tr
namespace Go.Am.Room.Tr
def eK:=zz @encNet_eq (zz @netCells_eq (zz @encRail_eq (zz @encTram_eq (zz @encSeen_eq (zz @aJ (zz @S_mapRail (zz @S_mapTram (zz @S_mapSeen (zz @bZ (zz @bY (zz @Nat.not_lt_zero (zz @List.length_append.{0} (zz @Nat.zero_add (zz @Nat.mul_one (zz @Int.toNat_natCast (zz @dL (zz @d7 (zz @d6 (zz @iR (zz @d8 (zz @dY (zz @dW (zz @dZ (zz @d4 (zz @d5 (zz @dV (zz @Nat.add_lt_add_iff_left (zz @Nat.lt_add_right_iff_pos (zz @nX (@nZ))))))))))))))))))))))))))))))
def fI{A X:Type}[DecidableEq A](f:A->X->X×Bool)(a:A)(s:Option A×X):(Option A×X)×Bool:=if s.1=some a then (s,true) else ((some a,(f a s.2).1),(f a s.2).2)
theorem rA{A X:Type}[DecidableEq A](f:A->X->X×Bool):∀ (l:List A) (o:Option A) (x:X),l.Pairwise (·≠·)->(∀ a∈l,o≠some a)->(bE (fI f) l (o,x)).1.2=(bE f l x).1/\(bE (fI f) l (o,x)).2=(bE f l x).2
 |[],o,x,_,_=>⟨rfl,rfl⟩
 |a::l,o,x,h,ho=>by
  have h0:=ho a (by simp);obtain⟨h1,h2⟩:=List.pairwise_cons.1 h;have ih:=rA f l (some a) (f a x).1 h2 fun b hb e=>h1 b hb (by simpa using e)
  simp only[bE,fI,h0,if_false];split
  ·exact ih
  ·exact⟨rfl,rfl⟩
theorem n6{A X:Type}[DecidableEq A](f:A->X->X×Bool):∀ (az:List A) (o:Option A) (x:X) (u:A),(bE (fI f) az (o,x)).1.1=some u->o=some u\/u∈az
 |[],o,x,u,h=>.inl h
 |a::az,o,x,u,h=>by
  simp only[bE,fI] at h;by_cases ho:o=some a
  ·simp only[ho,if_true] at h;rcases n6 f az (some a) x u h with h|h
   ·exact .inl (ho.trans h)
   ·exact .inr (by simp[h])
  ·simp only[ho,if_false] at h;split at h
   ·rcases n6 f az (some a) _ u h with h|h
    ·simp at h;exact .inr (by simp[h])
    ·exact .inr (by simp[h])
   ·simp at h;exact .inr (by simp[h])
theorem vR(l:List Int)(n:Int):rl (l++[n])=iB (rl l) l.length n:=by
 funext i;simp only[rl,iB];by_cases h:i=l.length
 ·subst h;simp
 ·rw[if_neg h];by_cases h2:i<l.length
  ·rw[List.getElem?_append_left h2]
  ·rw[List.getElem?_eq_none (by simp;omega),List.getElem?_eq_none (by omega)]
theorem sF(l:List Int):iB (rl l) l.length 0=rl l:=by
 funext i;simp only[iB];split
 ·rename_i h;subst h;simp[rl]
 ·rfl
def oQ{X:Type}(v:Net)(bl:List Int)(f:List Int->X->X×Bool)(c:List Int)(y:X×List K5):(X×List K5)×Bool :=
 if u9 v bl c=true then (((f c y.1).1,qP y.2 (pad c)),(f c y.1).2) else ((y.1,qP y.2 (pad c)),true)
structure LeafOk (v:Net) (c:List Int):Prop where
 len:c.length=v.rails.length
 mins:HI v (rlI c)
def tV(v:Net)(c:List Int)(_:Bool)(_:Option Nat):List AV:=[.agg (aZ 5 (rl c)),.agg (aZ 3 (dA (eH v c)))]
def LO{X:Type}(Zp ZDp:X×List K5->St)(id:Nat)(v:Net)(P:List Int->Prop)(f:List Int->X->X×Bool):Prop :=
 ∀ t,P t->∀ (y:X×List K5) τ,Run T (.callv (.yield id) [.agg (aZ 5 (rl t)),.agg (aZ 3 (dA (eH v t)))] (Zp y++τ)) fun o=>o.v = .bool (f t y.1).2/\∃ τ',o.σ=Fam.out Zp ZDp (((f t y.1).1,y.2),(f t y.1).2)++(τ++τ')
def u5(q N:Nat):AV:=.func 432 [] [.ptr q 0,.ptr (N+1) 0,.ptr (N+2) 0,.ptr (N+3) 0,.ptr N 0,.ptr (N+4) 0,.ptr (N+5) 0]
theorem rT(q N:Nat):u5 q N = .func 432 [] [.ptr q 0,.ptr (N+1) 0,.ptr (N+2) 0,.ptr (N+3) 0,.ptr N 0,.ptr (N+4) 0,.ptr (N+5) 0]:=by simp only[u5]
def iH(id q N:Nat)(o:Option (List Int))(A:Nat->Int):St:=[.cells [.yield id],.cells (aZ 5 A),.cells (aZ 5 (rl (o.getD []))),.cells [.bool o.isNone],.cells oX,.cells [u5 q N]]
theorem cX(id q N:Nat)(o:Option (List Int))(A:Nat->Int)(τ:St):iH id q N o A++τ = .cells [.yield id]::.cells (aZ 5 A)::.cells (aZ 5 (rl (o.getD [])))::.cells [.bool o.isNone]::.cells oX::.cells [u5 q N]::τ:=by simp[iH]
def w7{X:Type}(Zp ZDp:X×List K5->St)(id q N:Nat)(l:List Int)(τ:St)(r:(Option (List Int)×(X×List K5))×Bool)(o:Out):Prop :=
 o.v = .bool r.2/\∃ A τ',o.σ=Fam.out Zp ZDp (r.1.2,r.2)++(iH id q N r.1.1 A++(τ++τ'))/\(r.2=true->A=rl l)
theorem aAR{X:Type}{Zp ZDp:X×List K5->St}{v:Net}{b p m q N:Nat}{bl:List Int}(hR:Fam Zp ZDp (db v b m) p q N)(hS:∀ x,MemAt (fun A=>Zp (x,A)) (db v b m) (tEs v) p m N)(hv:Vd v)(hb:ButIs b bl){id:Nat}{P:List Int->Prop}{f:List Int->X->X×Bool}(hy:LO Zp ZDp id v P f)(c:List Int)(hc:LeafOk v c)(hP:u9 v bl c=true->P c)(o:Option (List Int))(ho:∀ u,o=some u->u.length=v.rails.length)(y:X×List K5)(τ:St):
  Run T (.callv (u5 q N) [.int .i64 c.length] (Zp y++(iH id q N o (rl c)++τ))) (w7 Zp ZDp id q N c τ (fI (oQ v bl f) c (o,y))):=by
 have hnr:=hv.nra;have hcl:=hc.len;simp only[rT];refine .callf (.call (af:=CY) rfl (by simp[CY]) (gS (K:=fun j e σ'=>(j=none\/j=some .ret)/\w7 Zp ZDp id q N c τ (fI (oQ v bl f) c (o,y)) ⟨none,[],σ',Env.get e 9⟩) ?_ fun o ho=>ho) fun w hw=>⟨hw.1,_,rfl,.inl hw.2⟩);have hE:((c.length:Int)==(v.rails.length:Int))=true:=by rw[hcl];simp
 have heq:bQ [.i,.i,.i,.i,.i] (aZ 5 (rl c)) (aZ 5 (rl (o.getD [])))=some ((List.range 5).all fun i=>rl c i==rl (o.getD []) i):=FA 5 (rl c) (rl (o.getD []));obtain⟨B,hB⟩:∃ B,((List.range 5).all fun i=>rl c i==rl (o.getD []) i)=B:=⟨_,rfl⟩;rw[hB] at heq;by_cases hu:o=some c
 ·subst hu;have hBt:B=true:=by rw[<-hB];simp
  subst hBt;have hon:fI (oQ v bl f) c (some c,y)=((some c,y),true):=by simp[fI]
  rw[hon,cX];simp only[Option.getD_some] at heq
  (repeat (first|simp only[↓QA,QB,seval,eK,hR.len,hR.base,hR.base0,hR.bset,hR.bset0,hR.at1,hR.atq1,CY,hE,heq,Option.isNone_some,Option.getD_some]|refine rd0 rfl ?_))
  exact⟨rfl,rl c,[],by simp[iH,Fam.out],fun _=>rfl⟩
 ·have hon:fI (oQ v bl f) c (o,y)=((some c,(oQ v bl f c y).1),(oQ v bl f c y).2):=by simp[fI,hu]
  have hgo:(B&&!o.isNone)=false:=by
   cases o with
   |none=>simp
   |some u =>
    have hul:=ho u rfl;have:B=decide (c=u):=by rw[<-hB];exact HN (a:=c) (b:=u) (by omega) (by omega)
    rw[this];simp only[Option.isNone_some,Bool.not_false,Bool.and_true,decide_eq_false_iff_not];rintro rfl;exact hu rfl
  rw[hon];obtain⟨x,A⟩:=y;obtain⟨A',hA'⟩:∃ A',qP A (pad c)=A':=⟨_,rfl⟩;have hper:oQ v bl f c (x,A)=if u9 v bl c=true then (((f c x).1,A'),(f c x).2) else ((x,A'),true):=by rw[oQ,hA']
  have hl1:=fun τ=>aGX (F6 v) (hS x) A τ (pad c)
  have hput:=fun τ (hw:pad c∉A)=>aL7 (F6 v) (hS x) A τ (pad c) hw
  simp only[aGO,aH8,aH3,UY v (show c.length<=5 by omega)] at hl1 hput;have hcal:=hy c;have hfit:u9 v bl c=mQ v bl (eH v c):=rfl;have hcc:(eH v c).length=v.trams.length:=run_len _ _ _ _;obtain⟨CS,hCS⟩:∃ CS,eH v c=CS:=⟨_,rfl⟩;have hrun:∀ (σ:St) (hσ:aH σ p=some (db v b m)),eS T (.func 433 [] []) [.ptr p 0,.agg (aZ 5 (rl c)),.func 434 [.ptr p 0] []] σ (.agg (aZ 3 (dA CS))):=fun σ hσ=>by
   have hpl:=mJ hσ;rw[<-hCS]
   exact OM v hv b m p σ hσ hpl _ (fun τ n hn=>by
    try simp only[QS,QC,seval,eK,hR.len,hR.base,hR.base0,hR.bset,hR.bset0,hR.at1,hR.atq1,MC]
    simp[show p<n by omega]) (lL v) (aET hv) (fun i hi τ=>aES v b m p _ (iI hσ τ) i hi) (rl c) (rlI c) (aDF c) hc.mins
  rw[hCS] at hl1 hput hfit hcc hcal;have hpN:=hR.pl;have hqN:=hR.ql;have hP':=hP;rw[hfit] at hP' hper;rw[cX]
  -- behind the look into the map: the things that were seen
  have tail:∀ (e:Env) (K:KJ),Env.get e 1 = .ptr q 0->Env.get e 2 = .ptr (N+1) 0->Env.get e 5 = .ptr N 0->Env.get e 10 = .ptr (N+(τ.length+1+1+1+1+1+1)) 0->Env.get e 58 = .lit (v.seen.map encSeen) false none->Env.get e 59 = .int .i64 v.seen.length->Env.get e 60 = .int .i64 0 ->
    (mQ v bl CS=true->∀ e',Env.get e' 2 = .ptr (N+1) 0->Env.get e' 5 = .ptr N 0->Env.get e' 10 = .ptr (N+(τ.length+1+1+1+1+1+1)) 0->K (some (.exit 0)) e' (Zp (x,A')++(iH id q N (some c) (rl c)++(τ++[.cells (aZ 3 (dA CS))])))) ->
    (mQ v bl CS=false->∀ e' τ',Env.get e' 9 = .bool true->K (some .ret) e' ((Zp (x,A')++(iH id q N (some c) (rl c)++(τ++[.cells (aZ 3 (dA CS))])))++τ')) ->
    rK (K:=⟨K⟩) T (.loop KY) e (Zp (x,A')++(iH id q N (some c) (rl c)++(τ++[.cells (aZ 3 (dA CS))]))):=by
   intro e K e1 e2 e5 e10 e58 e59 e60 hKt hKf;refine aE3 v hv b m p q (N+(τ.length+1+1+1+1+1+1)) (N+1) N bl CS hb hcc _ (hR.atq1 _ _) (hR.at1 _ _) ?_ ?_ ?_ e K e1 e2 e5 e10 e58 e59 e60 hKt hKf
   ·rw[cX,hR.base];simp only[vF];have:=k7 τ [.cells (aZ 3 (dA CS))];rw[this];rfl
   ·simp[hR.len,iH]
   ·simp[hR.len,iH]
  have hta:∀ (y:X×List K5) (b0 b1 b2 b3 b4 b5:ABlk),aH (Zp y++(b0::b1::b2::b3::b4::b5::(τ++[.cells (aZ 3 (dA CS))]))) (N+(τ.length+1+1+1+1+1+1))=some (aZ 3 (dA CS)):=fun y b0 b1 b2 b3 b4 b5=>by
   rw[hR.base];simp only[vF];rw[k7];rfl
  have htz:∀ (y:X×List K5) (b0 b1 b2 b3 b4 b5:ABlk) (cs:List AV),aH (Zp y++(b0::b1::b2::b3::b4::b5::(τ++[.cells cs]))) (N+(τ.length+1+1+1+1+1+1))=some cs:=fun y b0 b1 b2 b3 b4 b5 cs=>by
   rw[hR.base];simp only[vF];rw[k7];rfl
  have hts:∀ (y:X×List K5) (b0 b1 b2 b3 b4 b5:ABlk) (cs:List AV) (B:ABlk),(Zp y++(b0::b1::b2::b3::b4::b5::(τ++[.cells cs]))).set (N+(τ.length+1+1+1+1+1+1)) B=Zp y++(b0::b1::b2::b3::b4::b5::(τ++[B])):=fun y b0 b1 b2 b3 b4 b5 cs B=>by
   rw[hR.bset];simp only[List.set_cons_succ];rw[TR];rfl
  have hlen:∀ (y:X×List K5),(Zp y).length=N:=hR.len;by_cases hw:pad c∈A
  ·have hA2:A'=A:=by rw[<-hA',qP,if_pos hw]
   subst hA2;simp only[hw,if_true] at hl1;cases B
   ·(repeat (first|simp only[↓QA,QB,seval,eK,hR.len,hR.base,hR.base0,hR.bset,hR.bset0,hR.at1,hR.atq1,CY,hE,heq]|refine rd0 rfl ?_))
    refine rO [.cells [.int .i64 0,.int .i64 0,.int .i64 0]] rfl ?_
    (repeat (first|simp only[↓QA,QB,seval,eK,hR.len,hR.base,hR.base0,hR.bset,hR.bset0,hR.at1,hR.atq1,hl1,E5,ES,hlen,htz,hts]|refine rd0 rfl ?_))
    refine tail _ _ ?_ ?_ ?_ ?_ ?_ ?_ ?_ ?_ ?_;all_goals try try simp only[aB,QE,seval,eK,hR.len,hR.base,hR.base0,hR.bset,hR.bset0,hR.at1,hR.atq1]
    ·intro hs e' q2 q5 q10;have hc2:=fun A=>hcal (hP' hs) (x,A)
     rw[hs,if_pos rfl] at hper;rw[hper,cX]
     (repeat (first|simp only[↓QA,QB,seval,eK,hR.len,hR.base,hR.base0,hR.bset,hR.bset0,hR.at1,hR.atq1,q2,q5,q10,hta]|refine rd0 rfl ?_))
     refine .mono (hc2 _ _) fun w hw=>?_
     obtain⟨hw1,τ',hw2⟩:=hw;rw[hw1,hw2]
     (repeat (first|simp only[↓QA,QB,seval,eK,hR.len,hR.base,hR.base0,hR.bset,hR.bset0,hR.at1,hR.atq1,q2,q5,q10]|refine rd0 rfl ?_))
     exact⟨rfl,rl c,[.cells (aZ 3 (dA CS))]++τ',by simp[iH],fun _=>rfl⟩
    ·intro hs e' τ' q9;rw[hs] at hper;simp only[Bool.false_eq_true,if_false] at hper;rw[hper]
     (repeat (first|simp only[↓QA,QB,seval,eK,hR.len,hR.base,hR.base0,hR.bset,hR.bset0,hR.at1,hR.atq1,q9]|refine rd0 rfl ?_))
     exact⟨rfl,rl c,[.cells (aZ 3 (dA CS))]++τ',by simp[Fam.out],fun _=>rfl⟩
   ·rw[Bool.true_and] at hgo;have hgo':o.isNone=true:=by simpa using hgo
    (repeat (first|simp only[↓QA,QB,seval,eK,hR.len,hR.base,hR.base0,hR.bset,hR.bset0,hR.at1,hR.atq1,CY,hE,heq,hgo']|refine rd0 rfl ?_))
    refine rO [.cells [.int .i64 0,.int .i64 0,.int .i64 0]] rfl ?_
    (repeat (first|simp only[↓QA,QB,seval,eK,hR.len,hR.base,hR.base0,hR.bset,hR.bset0,hR.at1,hR.atq1,hl1,E5,ES,hlen,htz,hts]|refine rd0 rfl ?_))
    refine tail _ _ ?_ ?_ ?_ ?_ ?_ ?_ ?_ ?_ ?_;all_goals try try simp only[aB,QE,seval,eK,hR.len,hR.base,hR.base0,hR.bset,hR.bset0,hR.at1,hR.atq1]
    ·intro hs e' q2 q5 q10;have hc2:=fun A=>hcal (hP' hs) (x,A)
     rw[hs,if_pos rfl] at hper;rw[hper,cX]
     (repeat (first|simp only[↓QA,QB,seval,eK,hR.len,hR.base,hR.base0,hR.bset,hR.bset0,hR.at1,hR.atq1,q2,q5,q10,hta]|refine rd0 rfl ?_))
     refine .mono (hc2 _ _) fun w hw=>?_
     obtain⟨hw1,τ',hw2⟩:=hw;rw[hw1,hw2]
     (repeat (first|simp only[↓QA,QB,seval,eK,hR.len,hR.base,hR.base0,hR.bset,hR.bset0,hR.at1,hR.atq1,q2,q5,q10]|refine rd0 rfl ?_))
     exact⟨rfl,rl c,[.cells (aZ 3 (dA CS))]++τ',by simp[iH],fun _=>rfl⟩
    ·intro hs e' τ' q9;rw[hs] at hper;simp only[Bool.false_eq_true,if_false] at hper;rw[hper]
     (repeat (first|simp only[↓QA,QB,seval,eK,hR.len,hR.base,hR.base0,hR.bset,hR.bset0,hR.at1,hR.atq1,q9]|refine rd0 rfl ?_))
     exact⟨rfl,rl c,[.cells (aZ 3 (dA CS))]++τ',by simp[Fam.out],fun _=>rfl⟩
  ·have hA2:A'=A++[pad c]:=by rw[<-hA',qP,if_neg hw]
   subst hA2;simp only[hw,if_false] at hl1;have hput:=fun τ=>hput τ hw
   cases B
   ·(repeat (first|simp only[↓QA,QB,seval,eK,hR.len,hR.base,hR.base0,hR.bset,hR.bset0,hR.at1,hR.atq1,CY,hE,heq]|refine rd0 rfl ?_))
    refine rO [.cells [.int .i64 0,.int .i64 0,.int .i64 0]] rfl ?_
    (repeat (first|simp only[↓QA,QB,seval,eK,hR.len,hR.base,hR.base0,hR.bset,hR.bset0,hR.at1,hR.atq1,hl1,E5,ES,hlen,htz,hts]|refine rd0 rfl ?_))
    refine aS (hrun _ (hR.at1 _ _)) ?_
    (repeat (first|simp only[↓QA,QB,seval,eK,hR.len,hR.base,hR.base0,hR.bset,hR.bset0,hR.at1,hR.atq1,hlen,htz,hts,hput]|refine rd0 rfl ?_))
    refine tail _ _ ?_ ?_ ?_ ?_ ?_ ?_ ?_ ?_ ?_;all_goals try try simp only[aB,QE,seval,eK,hR.len,hR.base,hR.base0,hR.bset,hR.bset0,hR.at1,hR.atq1]
    ·intro hs e' q2 q5 q10;have hc2:=fun A=>hcal (hP' hs) (x,A)
     rw[hs,if_pos rfl] at hper;rw[hper,cX]
     (repeat (first|simp only[↓QA,QB,seval,eK,hR.len,hR.base,hR.base0,hR.bset,hR.bset0,hR.at1,hR.atq1,q2,q5,q10,hta]|refine rd0 rfl ?_))
     refine .mono (hc2 _ _) fun w hw=>?_
     obtain⟨hw1,τ',hw2⟩:=hw;rw[hw1,hw2]
     (repeat (first|simp only[↓QA,QB,seval,eK,hR.len,hR.base,hR.base0,hR.bset,hR.bset0,hR.at1,hR.atq1,q2,q5,q10]|refine rd0 rfl ?_))
     exact⟨rfl,rl c,[.cells (aZ 3 (dA CS))]++τ',by simp[iH],fun _=>rfl⟩
    ·intro hs e' τ' q9;rw[hs] at hper;simp only[Bool.false_eq_true,if_false] at hper;rw[hper]
     (repeat (first|simp only[↓QA,QB,seval,eK,hR.len,hR.base,hR.base0,hR.bset,hR.bset0,hR.at1,hR.atq1,q9]|refine rd0 rfl ?_))
     exact⟨rfl,rl c,[.cells (aZ 3 (dA CS))]++τ',by simp[Fam.out],fun _=>rfl⟩
   ·rw[Bool.true_and] at hgo;have hgo':o.isNone=true:=by simpa using hgo
    (repeat (first|simp only[↓QA,QB,seval,eK,hR.len,hR.base,hR.base0,hR.bset,hR.bset0,hR.at1,hR.atq1,CY,hE,heq,hgo']|refine rd0 rfl ?_))
    refine rO [.cells [.int .i64 0,.int .i64 0,.int .i64 0]] rfl ?_
    (repeat (first|simp only[↓QA,QB,seval,eK,hR.len,hR.base,hR.base0,hR.bset,hR.bset0,hR.at1,hR.atq1,hl1,E5,ES,hlen,htz,hts]|refine rd0 rfl ?_))
    refine aS (hrun _ (hR.at1 _ _)) ?_
    (repeat (first|simp only[↓QA,QB,seval,eK,hR.len,hR.base,hR.base0,hR.bset,hR.bset0,hR.at1,hR.atq1,hlen,htz,hts,hput]|refine rd0 rfl ?_))
    refine tail _ _ ?_ ?_ ?_ ?_ ?_ ?_ ?_ ?_ ?_;all_goals try try simp only[aB,QE,seval,eK,hR.len,hR.base,hR.base0,hR.bset,hR.bset0,hR.at1,hR.atq1]
    ·intro hs e' q2 q5 q10;have hc2:=fun A=>hcal (hP' hs) (x,A)
     rw[hs,if_pos rfl] at hper;rw[hper,cX]
     (repeat (first|simp only[↓QA,QB,seval,eK,hR.len,hR.base,hR.base0,hR.bset,hR.bset0,hR.at1,hR.atq1,q2,q5,q10,hta]|refine rd0 rfl ?_))
     refine .mono (hc2 _ _) fun w hw=>?_
     obtain⟨hw1,τ',hw2⟩:=hw;rw[hw1,hw2]
     (repeat (first|simp only[↓QA,QB,seval,eK,hR.len,hR.base,hR.base0,hR.bset,hR.bset0,hR.at1,hR.atq1,q2,q5,q10]|refine rd0 rfl ?_))
     exact⟨rfl,rl c,[.cells (aZ 3 (dA CS))]++τ',by simp[iH],fun _=>rfl⟩
    ·intro hs e' τ' q9;rw[hs] at hper;simp only[Bool.false_eq_true,if_false] at hper;rw[hper]
     (repeat (first|simp only[↓QA,QB,seval,eK,hR.len,hR.base,hR.base0,hR.bset,hR.bset0,hR.at1,hR.atq1,q9]|refine rd0 rfl ?_))
     exact⟨rfl,rl c,[.cells (aZ 3 (dA CS))]++τ',by simp[Fam.out],fun _=>rfl⟩
end Go.Am.Room.Tr
namespace Go.Am.Room.Tr
def eB:=zz @encNet_eq (zz @netCells_eq (zz @encRail_eq (zz @encTram_eq (zz @encSeen_eq (zz @aJ (zz @S_mapRail (zz @S_mapTram (zz @S_mapSeen (zz @bZ (zz @bY (zz @Nat.not_lt_zero (zz @List.length_append.{0} (zz @Nat.zero_add (zz @Nat.mul_one (zz @Int.toNat_natCast (zz @dL (zz @d7 (zz @d6 (zz @iR (zz @d8 (zz @dY (zz @dW (zz @dZ (zz @d4 (zz @d5 (zz @dV (zz @Nat.add_lt_add_iff_left (zz @Nat.lt_add_right_iff_pos (zz @nX (zz @nZ (zz @y9 (@zB))))))))))))))))))))))))))))))))
theorem aGN(k:Nat):aFY k = .func (if k=0 then 484 else if k=1 then 485 else 486) [] []:=by
 unfold aFY;split
 ·rfl
 ·split<;>rfl
def vB(v:Net)(r:Rail)(rs:List Rail)(l:List Int)(n:Int):List (List Int):=(if r.shut=1 then [] else aL n (r.mins.hi+1-n).toNat).flatMap fun n=>cC rs (l++[n])
def jL(r:Rail):List AV:=[.int .i64 r.a,.int .i64 r.b,.int .i64 r.mins.lo,.int .i64 r.mins.hi,.int .i64 r.shut]
theorem eF(r:Rail):jL r=[.int .i64 r.a,.int .i64 r.b,.int .i64 r.mins.lo,.int .i64 r.mins.hi,.int .i64 r.shut]:=by simp only[jL]
def aDS{X:Type}(Zp ZDp:X×List K5->St)(F:List Int->X×List K5->(X×List K5)×Bool)(v:Net)(q id N:Nat)(l:List Int)(r:Rail)(rs:List Rail)(τ:St)(R:(Option (List Int)×(X×List K5))×Bool)(k:Nat)(e:Env)(σ:St):Prop :=
 Env.get e 0 = .int .i64 l.length/\Env.get e 2 = .ptr (N+1) 0/\Env.get e 6 = .ptr (N+4) 0/\Env.get e 7 = .ptr (N+5) 0/\Env.get e 14 = .ptr (N+(τ.length+1+1+1+1+1+1)) 0/\∃ n o y c τ2,Env.get e 15 = .int .i64 n/\r.mins.lo<=n/\n<=r.mins.hi+1/\k=(r.mins.hi+1-n).toNat/\(∀ u,o=some u->u.length=v.rails.length) /\
   σ=Zp y++(iH id q N o (iB (rl l) l.length c)++(τ++(.cells (jL r)::τ2)))/\bE (fI F) (vB v r rs l n) (o,y)=R
theorem wY{X:Type}{Zp ZDp:X×List K5->St}{v:Net}{b p m q N:Nat}{bl:List Int}(hR:Fam Zp ZDp (db v b m) p q N)(hS:∀ x,MemAt (fun A=>Zp (x,A)) (db v b m) (tEs v) p m N)(hv:Vd v)(hb:ButIs b bl){id:Nat}{P:List Int->Prop}{f:List Int->X->X×Bool}(hy:LO Zp ZDp id v P f)(hP:∀ c,LeafOk v c->u9 v bl c=true->P c):
  ∀ (rs:List Rail) (l:List Int) (o:Option (List Int)) (y:X×List K5) (τ:St),rs=v.rails.drop l.length->l.length<=v.rails.length->(∀ i,i<l.length->0<=rl l i/\rl l i<=20)->(∀ u,o=some u->u.length=v.rails.length) ->
   Run T (.callv (u5 q N) [.int .i64 l.length] (Zp y++(iH id q N o (rl l)++τ))) (w7 Zp ZDp id q N l τ (bE (fI (oQ v bl f)) (cC rs l) (o,y)))
 |[],l,o,y,τ,hrs,hl,hbd,ho=>by
  have hl2:l.length=v.rails.length:=by
   have:=congrArg List.length hrs;simp at this;omega
  simp only[cC,IU];refine aAR hR hS hv hb hy l ⟨hl2,fun r h0 h1=>?_⟩ (hP l ⟨hl2,fun r h0 h1=>?_⟩) o ho y τ;all_goals
   have:=hbd r.toNat (by omega);simpa[rlI,rl] using this
 |r::rs,l,o,y,τ,hrs,hl,hbd,ho=>by
  have hlt:l.length<v.rails.length:=by
   have:=congrArg List.length hrs;simp at this;omega
  have hnr:=hv.nra;have hdr:=List.drop_eq_getElem_cons hlt;rw[<-hrs] at hdr;have hs:v.rails[l.length]=r:=by have:=(List.cons.inj hdr).1;exact this.symm
  have hrs2:rs=v.rails.drop (l.length+1):=(List.cons.inj hdr).2;have hra:=hv.ra _ (List.getElem_mem hlt);rw[hs] at hra;have hmi:=hra.mins;have hsh:=hra.shut;obtain⟨S,hS2⟩:∃ S:Nat,r.shut=(S:Int):=⟨r.shut.toNat,by omega⟩;have hS3:S<3:=by omega
  have hE:((l.length:Int)==(v.rails.length:Int))=false:=by simp;omega
  have i5:(0:Int)<=(l.length:Int)/\(l.length:Int)<((5:Nat):Int):=⟨by omega,by omega⟩;have c5:l.length+1<=5:=by omega
  have iS:(0:Int)<=(S:Int)/\(S:Int)<((3:Nat):Int):=⟨by omega,by omega⟩;have hcg:=Z3 hS3;have hct:=fun σ=>J2 S hS3 true σ
  have hcf:=fun σ=>J2 S hS3 false σ
  have hc1:yO (S:Int) true = !decide (S=0):=by
   have:((S:Int)=0)=(S=0):=by rw[eq_iff_iff];omega
   simp[yO]
  have hc2:yO (S:Int) false = !decide (S=1):=by
   have:((S:Int)=1)=(S=1):=by rw[eq_iff_iff];omega
   simp[yO];omega
  rw[hc1] at hct;rw[hc2] at hcf;have hcE:=aGN S;obtain⟨CF,hCF⟩:∃ CF,(if S=0 then 484 else if S=1 then 485 else 486)=CF:=⟨_,rfl⟩;rw[hCF] at hcE;rw[hcE] at hcg;simp only[hcE] at hct hcf;have hwd:IntKind.i64.wrap ((l.length:Int)+1)=((l.length+1:Nat):Int):=bD hlt (by omega)
  have ih:=fun (n:Int) (hn:0<=n/\n<=20) (o:Option (List Int)) (y:X×List K5) (τ:St) (ho:∀ u,o=some u->u.length=v.rails.length)=>wY hR hS hv hb hy hP rs (l++[n]) o y τ (by rw[hrs2];simp) (by simp;omega) (fun i hi=>by
   rw[vR];simp only[iB];by_cases e:i=l.length
   ·subst e;rw[if_pos rfl];exact hn
   ·rw[if_neg e]
    exact hbd i (by simp at hi;omega)) ho
  obtain⟨F,hF⟩:∃ F,oQ v bl f=F:=⟨_,rfl⟩;rw[hF] at ih ⊢;obtain⟨R,hRR⟩:∃ R,bE (fI F) (cC (r::rs) l) (o,y)=R:=⟨_,rfl⟩;rw[hRR];have hsplit:cC (r::rs) l=(if S=0 then [] else cC rs (l++[0]))++vB v r rs l r.mins.lo:=by
   have e0:(r.shut=0)=(S=0):=by rw[eq_iff_iff];omega
   simp only[cC,chP,List.flatMap_append,vB,jY,e0]
   congr 1
   split<;>simp
  rw[hsplit,xH] at hRR;have hht:∀ (y:X×List K5) (b0 b1 b2 b3 b4 b5:ABlk) (cs:List AV) (τ2:St),aH (Zp y++(b0::b1::b2::b3::b4::b5::(τ++(.cells cs::τ2)))) (N+(τ.length+1+1+1+1+1+1))=some cs:=fun y b0 b1 b2 b3 b4 b5 cs τ2=>by
   rw[hR.base];simp only[vF];rw[k7];rfl
  have hlen:∀ (y:X×List K5),(Zp y).length=N:=hR.len;simp only[rT];refine .callf (.call (af:=CY) rfl (by simp[CY]) (gS (K:=fun j e σ'=>(j=none\/j=some .ret)/\w7 Zp ZDp id q N l τ R ⟨none,[],σ',Env.get e 9⟩) ?_ fun o ho=>ho) fun w hw=>⟨hw.1,_,rfl,.inl hw.2⟩);have hst0:=oJ 5 (rl l) 0 (show l.length<5 by omega);rw[sF] at hst0;rw[cX]
  -- the loop over minutes
  have loop:∀ (e:Env) (K:KJ) (y:X×List K5) (o:Option (List Int)) (τ2:St),(∀ u,o=some u->u.length=v.rails.length)->Env.get e 0 = .int .i64 l.length->Env.get e 2 = .ptr (N+1) 0->Env.get e 6 = .ptr (N+4) 0->Env.get e 7 = .ptr (N+5) 0->Env.get e 14 = .ptr (N+(τ.length+1+1+1+1+1+1)) 0->Env.get e 15 = .int .i64 r.mins.lo->bE (fI F) (vB v r rs l r.mins.lo) (o,y)=R ->
    (∀ e' y' o' τ2 c,Env.get e' 0 = .int .i64 l.length->Env.get e' 2 = .ptr (N+1) 0->R=((o',y'),true)->K (some (.exit 2)) e' (Zp y'++(iH id q N o' (iB (rl l) l.length c)++(τ++(.cells (jL r)::τ2))))) ->
    (∀ e' A τ2,Env.get e' 9 = .bool false->R.2=false->K (some .ret) e' (Fam.out Zp ZDp (R.1.2,R.2)++(iH id q N R.1.1 A++(τ++(.cells (jL r)::τ2))))) ->
    rK (K:=⟨K⟩) T (.loop GT) e (Zp y++(iH id q N o (rl l)++(τ++(.cells (jL r)::τ2)))):=by
   intro e K y o τ2 ho e0 e2 e6 e7 e14 e15 hq hKx hKf;refine aI7 (aDS Zp ZDp F v q id N l r rs τ R) ?_ (r.mins.hi+1-r.mins.lo).toNat _ _ ?_
   ·rintro k e σ ⟨e0,e2,e6,e7,e14,n,o,y,c,τ2,e15,hn0,hn1,hk,ho,rfl,hq⟩;subst hk;have hst:=oJ 5 (iB (rl l) l.length c) n (show l.length<5 by omega);rw[A1,<-vR l n] at hst;rw[cX];cases hle:decide (n<=r.mins.hi)
    ·have hn2:¬n<=r.mins.hi:=by simpa using hle
     have hrn:vB v r rs l n=[]:=by
      rw[vB,qX hn2];simp
     rw[hrn] at hq;simp only[bE] at hq;try simp only[↓QA,QB,reduceLT,reduceIte,reduceEqDiff,reduceAdd,reduceLeDiff,reduceMul,Nat.reduceBEq,eB,hR.len,hR.base,hR.base0,hR.bset,hR.bset0,hR.at1,hR.atq1,GT,e0,e2,e6,e7,e14,e15,hht,eF,hle]
     have:=fun e'=>hKx e' y o τ2 c
     simp only[cX,eF] at this;refine this _ ?_ ?_ hq.symm;all_goals try simp only[aB,QE,reduceLT,reduceIte,reduceEqDiff,reduceAdd,reduceLeDiff,reduceMul,Nat.reduceBEq,eB,hR.len,hR.base,hR.base0,hR.bset,hR.bset0,hR.at1,hR.atq1,e0,e2]
    ·have hn2:n<=r.mins.hi:=by simpa using hle
     by_cases hS1:S=1
     ·have hrn:vB v r rs l n=[]:=by
       rw[vB,if_pos (by omega)];simp
      rw[hrn] at hq;simp only[bE] at hq;have hd1:(!decide (S=1))=false:=by simp[hS1]
      rw[hd1] at hcf;try simp only[↓QA,QB,reduceLT,reduceIte,reduceEqDiff,reduceAdd,reduceLeDiff,reduceMul,Nat.reduceBEq,eB,hR.len,hR.base,hR.base0,hR.bset,hR.bset0,hR.at1,hR.atq1,GT,e0,e2,e6,e7,e14,e15,hht,eF,hle,hS2,iS,hcg,Nat.add_zero]
      refine aS (hcf _) ?_;try simp only[↓QA,QB,reduceLT,reduceIte,reduceEqDiff,reduceAdd,reduceLeDiff,reduceMul,Nat.reduceBEq,eB,hR.len,hR.base,hR.base0,hR.bset,hR.bset0,hR.at1,hR.atq1,e0,e2,e6,e7,e14,e15]
      have:=fun e'=>hKx e' y o τ2 c
      simp only[cX,eF,hS2] at this;refine this _ ?_ ?_ hq.symm;all_goals try simp only[aB,QE,reduceLT,reduceIte,reduceEqDiff,reduceAdd,reduceLeDiff,reduceMul,Nat.reduceBEq,eB,hR.len,hR.base,hR.base0,hR.bset,hR.bset0,hR.at1,hR.atq1,e0,e2]
     ·have hd1:(!decide (S=1))=true:=by simp[hS1]
      rw[hd1] at hcf;have hrn:vB v r rs l n=cC rs (l++[n])++vB v r rs l (n+1):=by
       rw[vB,vB,if_neg (by omega),if_neg (by omega),nN hn2,List.flatMap_cons]
      rw[hrn,xH] at hq;have hwn:IntKind.i64.wrap (n+1)=n+1:=bM ⟨by omega,by omega⟩;have hc:=ih n ⟨by omega,by omega⟩ o y (τ++(.cells (jL r)::τ2)) ho;simp only[cX,eF,hS2,List.length_append,List.length_cons,List.length_nil,Nat.zero_add] at hc;obtain⟨r1,hr1⟩:∃ r1,bE (fI F) (cC rs (l++[n])) (o,y)=r1:=⟨_,rfl⟩;rw[hr1] at hq hc;try simp only[↓QA,QB,reduceLT,reduceIte,reduceEqDiff,reduceAdd,reduceLeDiff,reduceMul,Nat.reduceBEq,eB,hR.len,hR.base,hR.base0,hR.bset,hR.bset0,hR.at1,hR.atq1,GT,e0,e2,e6,e7,e14,e15,hht,eF,hle,hS2,iS,hcg,Nat.add_zero]
      refine aS (hcf _) ?_;try simp only[↓QA,QB,reduceLT,reduceIte,reduceEqDiff,reduceAdd,reduceLeDiff,reduceMul,Nat.reduceBEq,eB,hR.len,hR.base,hR.base0,hR.bset,hR.bset0,hR.at1,hR.atq1,e0,e2,e6,e7,e14,e15,i5,c5,hst,hwd]
      refine .mono hc fun w hw=>?_
      obtain⟨hw1,A,τ',hw2,hw3⟩:=hw;rw[hw1,hw2];cases hr2:r1.2
      ·rw[hr2] at hq;simp only[Bool.false_eq_true,if_false] at hq;try simp only[↓QA,QB,reduceLT,reduceIte,reduceEqDiff,reduceAdd,reduceLeDiff,reduceMul,Nat.reduceBEq,eB,hR.len,hR.base,hR.base0,hR.bset,hR.bset0,hR.at1,hR.atq1,e0,e2,e6,e7,e14,e15]
       subst hq;have hKf':=fun e'=>hKf e' A (τ2++τ')
       simp only[eF,hS2] at hKf';first|exact hKf' _ (by try simp only[aB,QE,reduceLT,reduceIte,reduceEqDiff,reduceAdd,reduceLeDiff,reduceMul,Nat.reduceBEq,eB,hR.len,hR.base,hR.base0,hR.bset,hR.bset0,hR.at1,hR.atq1]) trivial|exact hKf' _ (by try simp only[aB,QE,reduceLT,reduceIte,reduceEqDiff,reduceAdd,reduceLeDiff,reduceMul,Nat.reduceBEq,eB,hR.len,hR.base,hR.base0,hR.bset,hR.bset0,hR.at1,hR.atq1]) rfl|exact hKf' _ (by try simp only[aB,QE,reduceLT,reduceIte,reduceEqDiff,reduceAdd,reduceLeDiff,reduceMul,Nat.reduceBEq,eB,hR.len,hR.base,hR.base0,hR.bset,hR.bset0,hR.at1,hR.atq1])
      ·rw[hr2] at hq;simp only[if_true] at hq;have hA:=hw3 hr2;rw[hA];simp only[Fam.out,if_true];rw[cX];try simp only[↓QA,QB,reduceLT,reduceIte,reduceEqDiff,reduceAdd,reduceLeDiff,reduceMul,Nat.reduceBEq,eB,hR.len,hR.base,hR.base0,hR.bset,hR.bset0,hR.at1,hR.atq1,e0,e2,e6,e7,e14,e15,hwn]
       refine⟨(r.mins.hi+1-(n+1)).toNat,by omega,?_,?_,?_,?_,?_,n+1,r1.1.1,r1.1.2,n,τ2++τ',?_,by omega,by omega,rfl,fun u hu=>?_,?_,hq⟩
       ·try simp only[aB,QE,reduceLT,reduceIte,reduceEqDiff,reduceAdd,reduceLeDiff,reduceMul,Nat.reduceBEq,eB,hR.len,hR.base,hR.base0,hR.bset,hR.bset0,hR.at1,hR.atq1,e0]
       ·try simp only[aB,QE,reduceLT,reduceIte,reduceEqDiff,reduceAdd,reduceLeDiff,reduceMul,Nat.reduceBEq,eB,hR.len,hR.base,hR.base0,hR.bset,hR.bset0,hR.at1,hR.atq1,e2]
       ·try simp only[aB,QE,reduceLT,reduceIte,reduceEqDiff,reduceAdd,reduceLeDiff,reduceMul,Nat.reduceBEq,eB,hR.len,hR.base,hR.base0,hR.bset,hR.bset0,hR.at1,hR.atq1,e6]
       ·try simp only[aB,QE,reduceLT,reduceIte,reduceEqDiff,reduceAdd,reduceLeDiff,reduceMul,Nat.reduceBEq,eB,hR.len,hR.base,hR.base0,hR.bset,hR.bset0,hR.at1,hR.atq1,e7]
       ·try simp only[aB,QE,reduceLT,reduceIte,reduceEqDiff,reduceAdd,reduceLeDiff,reduceMul,Nat.reduceBEq,eB,hR.len,hR.base,hR.base0,hR.bset,hR.bset0,hR.at1,hR.atq1,e14]
       ·try simp only[aB,QE,reduceLT,reduceIte,reduceEqDiff,reduceAdd,reduceLeDiff,reduceMul,Nat.reduceBEq,eB,hR.len,hR.base,hR.base0,hR.bset,hR.bset0,hR.at1,hR.atq1]
       ·rw[<-hr1] at hu;rcases n6 F _ o y u hu with h|h
        ·exact ho u h
        ·have:=qC h;have hlr:l.length+1+rs.length=v.rails.length:=by rw[hrs2];simp;omega
         simp at this;omega
       ·rw[cX,vR,eF,hS2];try simp
   ·refine⟨e0,e2,e6,e7,e14,r.mins.lo,o,y,0,τ2,e15,Int.le_refl _,by omega,rfl,ho,?_,hq⟩;rw[sF]
  have fin:∀ (y:X×List K5) (o:Option (List Int)) (τ2:St),R=((o,y),true)->w7 Zp ZDp id q N l τ R ⟨none,[],Zp y++(iH id q N o (rl l)++(τ++(.cells (jL r)::τ2))),.bool true⟩:=fun y o τ2 hq=>by
   rw[hq];exact⟨rfl,rl l,.cells (jL r)::τ2,by simp[Fam.out],fun _=>rfl⟩
  by_cases hS0:S=0
  ·have hd0:(!decide (S=0))=false:=by simp[hS0]
   rw[hd0] at hct;rw[if_pos hS0] at hRR;simp only[bE,if_true] at hRR;try simp only[↓QA,QB,reduceLT,reduceIte,reduceEqDiff,reduceAdd,reduceLeDiff,reduceMul,Nat.reduceBEq,eB,hR.len,hR.base,hR.base0,hR.bset,hR.bset0,hR.at1,hR.atq1,CY,hE,hlt,hs,hlen,hS2,hht,iS,hcg,Nat.add_zero]
   refine aS (hct _) ?_;try simp only[↓QA,QB,reduceLT,reduceIte,reduceEqDiff,reduceAdd,reduceLeDiff,reduceMul,Nat.reduceBEq,eB,hR.len,hR.base,hR.base0,hR.bset,hR.bset0,hR.at1,hR.atq1,hht]
   have lp:=fun e K=>loop e K y o [] ho
   simp only[cX,eF,hS2] at lp;refine lp _ _ ?_ ?_ ?_ ?_ ?_ ?_ hRR ?_ ?_;all_goals try try simp only[aB,QE,reduceLT,reduceIte,reduceEqDiff,reduceAdd,reduceLeDiff,reduceMul,Nat.reduceBEq,eB,hR.len,hR.base,hR.base0,hR.bset,hR.bset0,hR.at1,hR.atq1]
   ·intro e' y' o' τ2 c q0 q2 hq;have hst0:=oJ 5 (iB (rl l) l.length c) 0 (show l.length<5 by omega);rw[A1,sF] at hst0;have fn:=fin y' o' τ2 hq;simp only[cX,eF,hS2] at fn;try simp only[↓QA,QB,reduceLT,reduceIte,reduceEqDiff,reduceAdd,reduceLeDiff,reduceMul,Nat.reduceBEq,eB,hR.len,hR.base,hR.base0,hR.bset,hR.bset0,hR.at1,hR.atq1,q0,q2,i5,c5,hst0]
    exact fn
   ·intro e' A τ2 q9 hq;try simp only[↓QA,QB,reduceLT,reduceIte,reduceEqDiff,reduceAdd,reduceLeDiff,reduceMul,Nat.reduceBEq,eB,hR.len,hR.base,hR.base0,hR.bset,hR.bset0,hR.at1,hR.atq1,q9]
    exact⟨by rw[hq],A,_,rfl,fun h=>by rw[hq] at h;cases h⟩
  ·have hd0:(!decide (S=0))=true:=by simp[hS0]
   rw[hd0] at hct;rw[if_neg hS0] at hRR;have hc:=ih 0 ⟨by omega,by omega⟩ o y (τ++[.cells (jL r)]) ho;have hr0:rl (l++[0])=rl l:=by rw[vR,sF]
   rw[hr0] at hc;simp only[cX,eF,hS2,List.length_append,List.length_cons,List.length_nil,Nat.zero_add] at hc;obtain⟨r1,hr1⟩:∃ r1,bE (fI F) (cC rs (l++[0])) (o,y)=r1:=⟨_,rfl⟩;rw[hr1] at hRR hc;try simp only[↓QA,QB,reduceLT,reduceIte,reduceEqDiff,reduceAdd,reduceLeDiff,reduceMul,Nat.reduceBEq,eB,hR.len,hR.base,hR.base0,hR.bset,hR.bset0,hR.at1,hR.atq1,CY,hE,hlt,hs,hlen,hS2,hht,iS,hcg,Nat.add_zero]
   refine aS (hct _) ?_;try simp only[↓QA,QB,reduceLT,reduceIte,reduceEqDiff,reduceAdd,reduceLeDiff,reduceMul,Nat.reduceBEq,eB,hR.len,hR.base,hR.base0,hR.bset,hR.bset0,hR.at1,hR.atq1,hht,i5,c5,hst0,hwd]
   refine .mono hc fun w hw=>?_
   obtain⟨hw1,A,τ',hw2,hw3⟩:=hw;rw[hw1,hw2];cases hr2:r1.2
   ·rw[hr2] at hRR;simp only[Bool.false_eq_true,if_false] at hRR;try simp only[↓QA,QB,reduceLT,reduceIte,reduceEqDiff,reduceAdd,reduceLeDiff,reduceMul,Nat.reduceBEq,eB,hR.len,hR.base,hR.base0,hR.bset,hR.bset0,hR.at1,hR.atq1]
    rw[<-hRR];exact⟨rfl,A,.cells (jL r)::τ',by simp[eF,hS2],fun h=>by cases h⟩
   ·rw[hr2] at hRR;simp only[if_true] at hRR;have hA:=hw3 hr2;rw[hr0] at hA;rw[hA];simp only[Fam.out,if_true];have ho1:∀ u,r1.1.1=some u->u.length=v.rails.length:=fun u hu=>by
     rw[<-hr1] at hu;rcases n6 F _ o y u hu with h|h
     ·exact ho u h
     ·have:=qC h;have hlr:l.length+1+rs.length=v.rails.length:=by rw[hrs2];simp;omega
      simp at this;omega
    rw[cX];try simp only[↓QA,QB,reduceLT,reduceIte,reduceEqDiff,reduceAdd,reduceLeDiff,reduceMul,Nat.reduceBEq,eB,hR.len,hR.base,hR.base0,hR.bset,hR.bset0,hR.at1,hR.atq1,hht]
    have lp:=fun e K=>loop e K r1.1.2 r1.1.1 τ' ho1
    simp only[cX,eF,hS2] at lp;refine lp _ _ ?_ ?_ ?_ ?_ ?_ ?_ hRR ?_ ?_;all_goals try try simp only[aB,QE,reduceLT,reduceIte,reduceEqDiff,reduceAdd,reduceLeDiff,reduceMul,Nat.reduceBEq,eB,hR.len,hR.base,hR.base0,hR.bset,hR.bset0,hR.at1,hR.atq1]
    ·intro e' y' o' τ2 c q0 q2 hq;have hst0:=oJ 5 (iB (rl l) l.length c) 0 (show l.length<5 by omega);rw[A1,sF] at hst0;have fn:=fin y' o' τ2 hq;simp only[cX,eF,hS2] at fn;try simp only[↓QA,QB,reduceLT,reduceIte,reduceEqDiff,reduceAdd,reduceLeDiff,reduceMul,Nat.reduceBEq,eB,hR.len,hR.base,hR.base0,hR.bset,hR.bset0,hR.at1,hR.atq1,q0,q2,i5,c5,hst0]
     exact fn
    ·intro e' A τ2 q9 hq;try simp only[↓QA,QB,reduceLT,reduceIte,reduceEqDiff,reduceAdd,reduceLeDiff,reduceMul,Nat.reduceBEq,eB,hR.len,hR.base,hR.base0,hR.bset,hR.bset0,hR.at1,hR.atq1,q9]
     exact⟨by rw[hq],A,_,rfl,fun h=>by rw[hq] at h;cases h⟩
end Go.Am.Room.Tr
namespace Go.Am.Room.Tr
def mR:=zz @encNet_eq (zz @netCells_eq (zz @encRail_eq (zz @encTram_eq (zz @encSeen_eq (zz @aJ (zz @S_mapRail (zz @S_mapTram (zz @S_mapSeen (zz @bZ (zz @bY (zz @Nat.not_lt_zero (zz @List.length_append.{0} (zz @Nat.zero_add (zz @Nat.mul_one (zz @Int.toNat_natCast (zz @dL (zz @d7 (zz @d6 (zz @iR (zz @d8 (zz @dY (zz @dW (zz @dZ (zz @d4 (zz @d5 (zz @dV (zz @Nat.add_lt_add_iff_left (zz @Nat.lt_add_right_iff_pos (zz @nX (@nZ))))))))))))))))))))))))))))))
def gY{X:Type}(v:Net)(bl:List Int)(f:List Int->X->X×Bool)(x:X)(A:List K5):(X×List K5)×Bool:=bE (oQ v bl f) (cC v.rails []) (x,A)
theorem WF{X:Type}{Zp ZDp:X×List K5->St}{v:Net}{b p m q N:Nat}{bl:List Int}(hR:Fam Zp ZDp (db v b m) p q N)(hS:∀ x,MemAt (fun A=>Zp (x,A)) (db v b m) (tEs v) p m N)(hv:Vd v)(hb:ButIs b bl){id:Nat}{P:List Int->Prop}{f:List Int->X->X×Bool}(hy:LO Zp ZDp id v P f)(hP:∀ c,LeafOk v c->u9 v bl c=true->P c)(y:X×List K5):
  Run T (.call 430 [.yield id,.ptr q 0] (Zp y)) fun o=>∃ τ',o.σ=Fam.out Zp ZDp (bE (oQ v bl f) (cC v.rails []) y)++τ':=by
 have hn:=wY hR hS hv hb hy hP v.rails [] none y [] (by simp) (by simp) (fun i hi=>by simp at hi) (fun u hu=>by cases hu);have hl:=hR.len y;have hz:[AV.int .i64 0,.int .i64 0,.int .i64 0,.int .i64 0,.int .i64 0]=aZ 5 (rl []):=by simp[aZ,rl,List.range_succ]
 obtain⟨ho1,ho2⟩:=rA (oQ v bl f) (cC v.rails []) none y (tA _ _ (fun r hr=>(hv.ra r hr).mins.1)) (fun a _ h=>by cases h);have hend:∀ w,w7 Zp ZDp id q N [] [] (bE (fI (oQ v bl f)) (cC v.rails []) (none,y)) w->∃ τ',w.σ=Fam.out Zp ZDp (bE (oQ v bl f) (cC v.rails []) y)++τ':=by
  rintro w ⟨_,A,τ',h2,_⟩;refine⟨iH id q N (bE (fI (oQ v bl f)) (cC v.rails []) (none,y)).1.1 A++([]++τ'),?_⟩;rw[h2,show ((bE (fI (oQ v bl f)) (cC v.rails []) (none,y)).1.2,(bE (fI (oQ v bl f)) (cC v.rails []) (none,y)).2)=bE (oQ v bl f) (cC v.rails []) y from Prod.ext ho1 ho2]
 rw[cX,rT] at hn;simp only[List.length_nil,Option.getD_none,Option.isNone_none] at hn;refine .call (af:=XI) rfl (by simp[XI]) (gS (K:=fun j e σ'=>(j=none\/j=some .ret)/\∃ τ',σ'=Fam.out Zp ZDp (bE (oQ v bl f) (cC v.rails []) y)++τ') ?_ fun o ho=>ho) fun o ho=>⟨ho.1,_,rfl,.inl ho.2⟩
 try simp only[↓QA,QB,seval,mR,hR.len,hR.base,hR.base0,hR.bset,hR.bset0,hR.at1,hR.at0,XI,hl,hz]
 refine aS (ST _) ?_;try simp only[↓QA,QB,seval,mR,hR.len,hR.base,hR.base0,hR.bset,hR.bset0,hR.at1,hR.at0,hl,hz,wK]
 simp only[wK] at hn;refine .mono hn fun w hw=>?_
 have:=hend w hw;try simp only[↓QA,QB,seval,mR,hR.len,hR.base,hR.base0,hR.bset,hR.bset0,hR.at1,hR.at0]
 exact this
theorem aLI{X M:Type}{Z ZD:X->M->St}{obj:List AV}{es:M->List (AV×AV)}{p m q N:Nat}(h:Fam1 Z ZD obj es p m q N):Fam (fun y:X×M=>Z y.1 y.2) (fun y=>ZD y.1 y.2) obj p q N :=
 ⟨fun y=>(h.ship y.1).len y.2,fun y=>h.lenD y.1 y.2,fun y=>(h.ship y.1).at0 y.2,fun y=>h.atq0 y.1 y.2,fun x y k i hk hi=>h.keep _ _ _ _ k i hk hi,fun x y k i hk hi=>h.keepD _ _ _ _ k i hk hi,h.pl,h.ql⟩
theorem D7{X:Type}{Z ZD:X->List K5->St}{v:Net}{b p m q N:Nat}{bl:List Int}(hF:Fam1 Z ZD (db v b m) (tEs v) p m q N)(hv:Vd v)(hb:ButIs b bl){id:Nat}{P:List Int->Prop}{f:List Int->X->X×Bool}(hy:AN Z ZD id (tV v) P f)(hP:∀ c,LeafOk v c->u9 v bl c=true->P c)(x:X)(A:List K5):
  Run T (.call 430 [.yield id,.ptr q 0] (Z x A)) fun o=>∃ τ',o.σ=Fam1.out Z ZD ((gY v bl f x A).1.1,(gY v bl f x A).2) (gY v bl f x A).1.2++τ' :=
 WF (aLI hF) (fun x=>hF.ship x) hv hb (f:=f) (fun t ht x τ=>hy t ht false none x.1 x.2 τ) hP (x,A)
theorem yV{X:Type}(v:Net)(bl:List Int)(f:List Int->X->X×Bool)(x:X)(A:List K5):((gY v bl f x A).1.1,(gY v bl f x A).2)=bE f (TL v bl) x:=by
 have key:∀ (l:List (List Int)) (x:X) (A:List K5),((bE (oQ v bl f) l (x,A)).1.1,(bE (oQ v bl f) l (x,A)).2)=bE f (l.filter (u9 v bl)) x:=by
  intro l
  induction l with
  |nil=>intro x A;rfl
  |cons c l ih =>
   intro x A;simp only[bE,List.filter_cons];cases h:u9 v bl c
   ·have hp:oQ v bl f c (x,A)=((x,qP A (pad c)),true):=by simp only[oQ,h,Bool.false_eq_true,if_false]
    rw[hp];simp only[if_true,Bool.false_eq_true,if_false];exact ih x _
   ·have hp:oQ v bl f c (x,A)=(((f c x).1,qP A (pad c)),(f c x).2):=by simp only[oQ,h,if_true]
    rw[hp];simp only[if_true,bE];split
    ·exact ih _ _
    ·rfl
 exact key _ x A
def TOk(v:Net)(bl c:List Int):Prop:=LeafOk v c/\u9 v bl c=true
theorem pN{X:Type}{S:List K5->St}{v:Net}{b p m N:Nat}{bl:List Int}(hS:MemAt S (db v b m) (tEs v) p m N)(hv:Vd v)(hb:ButIs b bl)(U UD:X->St)(n:Nat)(hU:∀ x,(U x).length=n)(hUD:∀ x,(UD x).length=n)(ok:∀ x y,y∈U x->∀ k,N<=k->aF k y)(okD:∀ x y,y∈UD x->∀ k,N<=k->aF k y)(J:AJump){f:List Int->X->X×Bool}(e:Env)(k:Nat)(ps:List Nat)(a bb:ACode)(ek:Env.get e k = .func 430 [] [.ptr (N+n) 0])(hy:AN (fun x B=>S B++(U x++[.cells [.ptr p 0],.loop .ready none e ps a bb])) (fun x B=>S B++(UD x++[.cells [.ptr p 0],.loop .done (some J) e ps a bb])) (N+n+1) (tV v) (TOk v bl) f)(x:X)(A:List K5)(K:KJ)(hT:∀ τ,(bE f (TL v bl) x).2=true->K none e (S (gY v bl f x A).1.2++(U (bE f (TL v bl) x).1++(.cells [.ptr p 0]::.dead::τ))))(hD:∀ τ,(bE f (TL v bl) x).2=false->K (some J) e (S (gY v bl f x A).1.2++(UD (bE f (TL v bl) x).1++(.cells [.ptr p 0]::.dead::τ)))):
  rK (K:=⟨K⟩) T (.rangeFunc (.t k) ps a bb) e (S A++(U x++[.cells [.ptr p 0]])):=by
 have hrun:=D7 (aHI hS U UD n hU hUD ok okD e ps a bb .ready .done none (some J)) hv hb hy (fun c h1 h2=>⟨h1,h2⟩) x A;rw[yV] at hrun;exact aB0 (A:=List Int) hS U UD n hU hUD J e k ps a bb 430 ek (bE f (TL v bl) x) (gY v bl f x A).1.2 x A hrun K hT hD
def ND(_:List Int)(x:Unit):Unit×Bool:=(x,false)
theorem WC(l:List (List Int)):(bE ND l ()).2=l.isEmpty:=by
 cases l<;>simp[bE,ND]
def PX(v:Net)(bl:List Int)(A:List K5):List K5:=(gY v bl ND () A).1.2
theorem JX{S:List K5->St}{v:Net}{b p m N:Nat}{bl:List Int}(hR:MemAt S (db v b m) (tEs v) p m N)(hv:Vd v)(hb:ButIs b bl)(A:List K5):
  yK T (.func 327 [] []) [.ptr p 0] (S A) (.bool !(truths v bl).isEmpty) (S (PX v bl A)):=by
 have hit:=WC (TL v bl);rw[TT hv] at hit;refine CR hR (af:=XC) rfl (by simp[XC]) ?_;try simp only[↓QA,QB,seval,mR,hR.len,hR.base,hR.base0,hR.bset,hR.bset0,hR.at1,hR.at0,XC]
 refine vY rfl (by simp[EJ]) ?_;try simp only[↓QA,QB,seval,mR,hR.len,hR.base,hR.base0,hR.bset,hR.bset0,hR.at1,hR.at0,EJ]
 refine pN hR hv hb (fun _:Unit=>[.cells [.bool false]]) (fun _=>[.cells [.bool true]]) 1 (fun _=>rfl) (fun _=>rfl) (fun _ y hy k _=>by simp at hy;subst hy;simp[aF,okVs,okV]) (fun _ y hy k _=>by simp at hy;subst hy;simp[aF,okVs,okV]) .ret (f:=ND) _ 4 [5,6] _ _ ?_ ?_ () A _ ?_ ?_
 ·try simp only[aB,QE,seval,mR,hR.len,hR.base,hR.base0,hR.bset,hR.bset0,hR.at1,hR.at0]
 ·refine US hR _ _ 1 (fun _=>rfl) (fun _=>rfl) .ret _ _ (tV v) (fun _ _ _=>rfl) _ _ ?_;intro t _ fl tk x A' τ;simp only[lD,tV];try simp only[↓QA,QB,seval,mR,hR.len,hR.base,hR.base0,hR.bset,hR.bset0,hR.at1,hR.at0,aAU,ND]
  exact .inr ⟨[],by simp⟩
 ·intro τ h2;rw[hit] at h2;try simp only[↓QA,QB,seval,mR,hR.len,hR.base,hR.base0,hR.bset,hR.bset0,hR.at1,hR.at0,h2]
  refine⟨_,_,rfl,rfl,?_⟩;try simp only[QS,QC,seval,mR,hR.len,hR.base,hR.base0,hR.bset,hR.bset0,hR.at1,hR.at0]
 ·intro τ h2;rw[hit] at h2;try simp only[↓QA,QB,seval,mR,hR.len,hR.base,hR.base0,hR.bset,hR.bset0,hR.at1,hR.at0,h2]
  refine⟨_,_,rfl,rfl,?_⟩;try simp only[QS,QC,seval,mR,hR.len,hR.base,hR.base0,hR.bset,hR.bset0,hR.at1,hR.at0]
end Go.Am.Room.Tr
set_option maxRecDepth 4000
namespace Go.Am.Room.Tr
def fY:=zz @encNet_eq (zz @netCells_eq (zz @encRail_eq (zz @encTram_eq (zz @encSeen_eq (zz @aJ (zz @S_mapRail (zz @S_mapTram (zz @S_mapSeen (zz @bZ (zz @bY (zz @Nat.not_lt_zero (zz @List.length_append.{0} (zz @Nat.add_lt_add_iff_left (zz @Nat.lt_add_right_iff_pos (zz @Nat.mul_one (@Int.toNat_natCast))))))))))))))))
def HF(σ:St)(v:Net)(b:Nat):St:=σ++[.cells (netCells v),.map [],.cells (db v b (σ.length+1))]
theorem PR(σ:St)(v:Net)(b:Nat):yK T (.func 326 [] []) [encNet v,.int .i64 b] σ (.ptr (σ.length+2) 0) (HF σ v b):=by
 refine .callf (.call (af:=Y4) rfl (by simp[Y4]) (gS (K:=fun j e σ1=>(j=none\/j=some .ret)/\Env.get e 4 = .ptr (σ.length+2) 0/\σ1=HF σ v b) ?_ fun o ho=>ho) fun o ho=>?_)
 ·try simp only[↓QA,QB,seval,fY,Y4,List.length_append,HF,db]
  try simp[db,netCells,ints]
 ·exact⟨ho.1,_,rfl,.inl ⟨ho.2.1,ho.2.2⟩⟩
theorem wX(v:Net)(A:List K5)(k:Nat):aF k (.map (tEs v A)):=aM9 (F6 v) A k
def nA(σ:St)(v:Net)(A:List K5):St:=σ++[.cells (netCells v),.cells (netCells v),.map (tEs v A),.cells (db v 0 (σ.length+2))]
theorem HV(σ:St)(v:Net):MemAt (nA σ v) (db v 0 (σ.length+2)) (tEs v) (σ.length+3) (σ.length+2) (σ.length+4) :=
 ⟨fun M=>by simp[nA],fun M=>by simp[nA,nG,vF,Z6],fun M=>by rw[nA,mZ];rfl,fun M M'=>by rw[nA,nA,m5];rfl,fun A k=>wX v A k,by omega,by omega⟩
def I8:List Int->Bool
 |[t,n]=>inR t 0 (n-1)
 |_=>true
def AP(v:Net)(ns:List Int):Int:=bS v (if (check v).2.2=0 then (if I8 ns=true then 0 else 4) else (check v).2.2)
theorem oT(v:Net):AP v []=iL v:=by
 have:(if (check v).2.2=0 then (if I8 []=true then 0 else 4) else (check v).2.2:Int)=(check v).2.2:=by
  split
  ·rename_i h;simp[I8,h]
  ·rfl
 rw[AP,this];rfl
theorem aBF(v:Net)(t:Int):AP v [t,v.trams.length]=m9 v t:=rfl
def pB(v:Net)(ns:List Int)(k:Nat):AV:=if AP v ns=0 then .tuple [.ptr (k+3) 0,.int .i64 0] else .tuple [.nilPtr,.int .i64 (AP v ns)]
def tD(v:Net):List K5:=PX v [] []
def uK(σ:St)(v:Net)(ns:List Int):St:=if AP v ns=0 then nA σ v (tD v) else σ
theorem nL(σ:St)(v:Net)(ns:List Int)(hns:ns=[]\/∃ t,ns=[t,(v.trams.length:Int)])(hf:Fits v):yK T (.func 319 [] []) [encNet v,.lit (ns.map (.int .i64)) true none] σ (pB v ns σ.length) (uK σ v ns):=by
 refine .callf (.call (af:=R9) rfl (by simp[R9]) (gS (K:=fun j e σ1=>(j=none\/j=some .ret)/\(if AP v ns=0 then Env.get e 4 = .ptr (σ.length+3) 0/\Env.get e 5 = .int .i64 0/\σ1=nA σ v (tD v) else Env.get e 4 = .nilPtr/\Env.get e 5 = .int .i64 (AP v ns)/\∃ τ,σ1=σ++τ)) ?_ fun o ho=>ho) fun o ho=>?_)
 ·obtain⟨E,hE⟩:∃ E,AP v ns=E:=⟨_,rfl⟩;rw[hE];rw[AP] at hE
  (repeat (first|simp only[↓QA,QB,reduceLT,reduceIte,reduceEqDiff,reduceAdd,reduceLeDiff,reduceMul,Nat.reduceBEq,fY,R9]|refine rd0 rfl ?_))
  ((first|refine aD (n8 v hf) rfl dd ?_|refine aG (n8 v hf) rfl dd ?_);(repeat (first|simp only[↓QA,QB,reduceLT,reduceIte,reduceEqDiff,reduceAdd,reduceLeDiff,reduceMul,Nat.reduceBEq,fY,enc3]|refine rd0 rfl ?_)))
  cases h0:((check v).2.2==0)
  ·have h0':(check v).2.2≠0:=by simpa using h0
   have he:E=(check v).2.2:=by rw[<-hE];simp[h0',bS]
   (repeat (first|simp only[↓QA,QB,reduceLT,reduceIte,reduceEqDiff,reduceAdd,reduceLeDiff,reduceMul,Nat.reduceBEq,fY,h0]|refine rd0 rfl ?_))
   rw[he,if_neg h0'];simp
  ·have h0':(check v).2.2=0:=by simpa using h0
   have hv:=vd_of_check h0';have hnt:=hv.ntr;rw[if_pos h0'] at hE;have hlk:=PR (σ++[.cells (netCells v)]) v 0;have hso:=JX (HV σ v) hv S8 [];have e0:tEs v []=[]:=rfl;simp only[nA,HF,e0] at hso hlk;try simp only[↓QA,QB,reduceLT,reduceIte,reduceEqDiff,reduceAdd,reduceLeDiff,reduceMul,Nat.reduceBEq,fY,List.append_assoc] at hso hlk
   have tail:I8 ns=true->(if (truths v []).isEmpty then 8 else 0)=E:=fun q=>by
    rw[q] at hE;simpa[bS] using hE
   have hk0:σ.length<σ.length+1:=by omega
   rcases hns with rfl|⟨t,rfl⟩
   ·have tl:=tail rfl;have w01:IntKind.i64.wrap ((0:Int)+1)=1:=rfl;have d01:decide ((1:Int)<((0:Nat):Int))=false:=rfl
    (repeat (first|simp only[↓QA,QB,reduceLT,reduceIte,reduceEqDiff,reduceAdd,reduceLeDiff,reduceMul,Nat.reduceBEq,fY,h0]|refine rd0 rfl ?_))
    refine bC (S:=Unit) () (fun _=>True) (fun _=>0) (fun _=>[(1,.lit [] false none),(2,.ptr σ.length 0),(9,.int .i64 0)]) (fun _=>σ++[.cells (netCells v)]) trivial (by simp[netCells,ints]) ?_ fun _ _=>?_
    ·try simp only[aB,QE,reduceLT,reduceIte,reduceEqDiff,reduceAdd,reduceLeDiff,reduceMul,Nat.reduceBEq,fY,List.map_nil]
     try simp[clr,clrs]
    ·(repeat (first|simp only[↓QA,QB,reduceLT,reduceIte,reduceEqDiff,reduceAdd,reduceLeDiff,reduceMul,Nat.reduceBEq,fY,LK,w01,d01]|refine rd0 rfl ?_))
     refine cB hlk ?_
     (repeat (first|simp only[↓QA,QB,reduceLT,reduceIte,reduceEqDiff,reduceAdd,reduceLeDiff,reduceMul,Nat.reduceBEq,fY]|refine rd0 rfl ?_))
     refine cB hso ?_;cases hs:(truths v []).isEmpty
     ·have he:E=0:=by rw[<-tl];simp[hs]
      subst he
      (repeat (first|simp only[↓QA,QB,reduceLT,reduceIte,reduceEqDiff,reduceAdd,reduceLeDiff,reduceMul,Nat.reduceBEq,fY]|refine rd0 rfl ?_))
      simp[nA,tD,netCells,ints]
     ·have he:E=8:=by rw[<-tl];simp[hs]
      subst he
      (repeat (first|simp only[↓QA,QB,reduceLT,reduceIte,reduceEqDiff,reduceAdd,reduceLeDiff,reduceMul,Nat.reduceBEq,fY]|refine rd0 rfl ?_))
      simp
   ·have w01:IntKind.i64.wrap ((0:Int)+1)=1:=rfl;have w21:IntKind.i64.wrap ((2:Int)+1)=3:=rfl;have w02:IntKind.i64.wrap ((0:Int)+2)=2:=rfl;have d12:decide ((1:Int)<((2:Nat):Int))=true:=rfl;have d32:decide ((3:Int)<((2:Nat):Int))=false:=rfl;have j0:(0:Int)<=0:=by decide
    have j1:(0:Int)<=1:=by decide
    have t0:Int.toNat 0=0:=rfl;have t1:Int.toNat 1=1:=rfl;have hwl:IntKind.i64.wrap ((v.trams.length:Int)-1)=(v.trams.length:Int)-1:=bM ⟨by omega,by omega⟩;have hix0:∀ l:List AV,yN 1 (.int .i64 t::l) 0 none=some (.lptr (.int .i64 t::l) 0 0 none):=fun l=>by simp[yN,AV.cells]
    have hix1:∀ l:List AV,yN 1 (.int .i64 t::.int .i64 (v.trams.length:Int)::l) 1 none=some (.lptr (.int .i64 t::.int .i64 (v.trams.length:Int)::l) 1 0 none):=fun l=>by simp[yN,AV.cells]
    have hpb:I8 [t,(v.trams.length:Int)]=inR t 0 ((v.trams.length:Int)-1):=rfl
    (repeat (first|simp only[↓QA,QB,reduceLT,reduceIte,reduceEqDiff,reduceAdd,reduceLeDiff,reduceMul,Nat.reduceBEq,fY,h0]|refine rd0 rfl ?_))
    refine bC (S:=Bool) false (fun b=>b=true->I8 [t,(v.trams.length:Int)]=true) (fun b=>if b then 0 else 1) (fun b=>[(1,.lit [.int .i64 t,.int .i64 v.trams.length] false none),(2,.ptr σ.length 0),(9,.int .i64 (if b then 2 else 0))]) (fun _=>σ++[.cells (netCells v)]) (fun h=>by cases h) (by simp[netCells,ints]) ?_ fun b hb=>?_
    ·try simp only[aB,QE,reduceLT,reduceIte,reduceEqDiff,reduceAdd,reduceLeDiff,reduceMul,Nat.reduceBEq,fY,List.map_nil,List.map_cons]
     try simp[clr,clrs]
    ·cases b
     ·simp only[Bool.false_eq_true,if_false]
      (repeat (first|simp only[↓QA,QB,reduceLT,reduceIte,reduceEqDiff,reduceAdd,reduceLeDiff,reduceMul,Nat.reduceBEq,fY,LK,w01,d12,hix0,hix1,hwl]|refine rd0 rfl ?_))
      ((first|refine bT (cE 0 ((v.trams.length:Int)-1) [t] (by simp)) (by simp[clr,clrs,ints]) (by simp[okV,okVs]) ?_|refine jH (cE 0 ((v.trams.length:Int)-1) [t] (by simp)) (by simp[clr,clrs,ints]) (by simp[okV,okVs]) ?_);(repeat (first|simp only[↓QA,QB,reduceLT,reduceIte,reduceEqDiff,reduceAdd,reduceLeDiff,reduceMul,Nat.reduceBEq,fY,gB,w01,d12,hix0,hix1,hwl]|refine rd0 rfl ?_)))
      cases h1:inR t 0 ((v.trams.length:Int)-1)
      ·rw[hpb,h1] at hE;have he:E=4:=by rw[<-hE];simp[bS]
       subst he
       (repeat (first|simp only[↓QA,QB,reduceLT,reduceIte,reduceEqDiff,reduceAdd,reduceLeDiff,reduceMul,Nat.reduceBEq,fY,hix0,hix1]|refine rd0 rfl ?_))
       simp
      ·(repeat (first|simp only[↓QA,QB,reduceLT,reduceIte,reduceEqDiff,reduceAdd,reduceLeDiff,reduceMul,Nat.reduceBEq,fY,hix0,hix1,w02]|refine rd0 rfl ?_))
       refine⟨true,fun _=>by rw[hpb,h1],by simp,?_⟩;try simp only[aB,QE,reduceLT,reduceIte,reduceEqDiff,reduceAdd,reduceLeDiff,reduceMul,Nat.reduceBEq,fY,w02]
       try simp[aF]
     ·have tl:=tail (hb rfl);simp only[if_true]
      (repeat (first|simp only[↓QA,QB,reduceLT,reduceIte,reduceEqDiff,reduceAdd,reduceLeDiff,reduceMul,Nat.reduceBEq,fY,LK,w21,d32]|refine rd0 rfl ?_))
      refine cB hlk ?_
      (repeat (first|simp only[↓QA,QB,reduceLT,reduceIte,reduceEqDiff,reduceAdd,reduceLeDiff,reduceMul,Nat.reduceBEq,fY]|refine rd0 rfl ?_))
      refine cB hso ?_;cases hs:(truths v []).isEmpty
      ·have he:E=0:=by rw[<-tl];simp[hs]
       subst he
       (repeat (first|simp only[↓QA,QB,reduceLT,reduceIte,reduceEqDiff,reduceAdd,reduceLeDiff,reduceMul,Nat.reduceBEq,fY]|refine rd0 rfl ?_))
       simp[nA,tD,netCells,ints]
      ·have he:E=8:=by rw[<-tl];simp[hs]
       subst he
       (repeat (first|simp only[↓QA,QB,reduceLT,reduceIte,reduceEqDiff,reduceAdd,reduceLeDiff,reduceMul,Nat.reduceBEq,fY]|refine rd0 rfl ?_))
       simp
 ·obtain⟨hj,ho⟩:=ho;by_cases he:AP v ns=0
  ·rw[if_pos he] at ho;refine⟨hj,pB v ns σ.length,?_,.inl ⟨rfl,?_⟩⟩
   ·simp[jK,qK,R9,ho.1,ho.2.1,pB,he]
   ·rw[ho.2.2,uK,if_pos he]
  ·rw[if_neg he] at ho;obtain⟨h4,h5,τ,hσ⟩:=ho;refine⟨hj,pB v ns σ.length,?_,.inr ⟨20,pB v ns σ.length,pB v ns σ.length,?_,.inl rfl,fun i hi=>.inl (by rw[hσ];exact List.getElem?_append_left hi),by rw[hσ];simp,rfl,by rw[hσ];simp[uK,he]⟩⟩
   ·simp[jK,qK,R9,h4,h5,pB,he]
   ·simp[pB,he,snap,snaps]
end Go.Am.Room.Tr
namespace Go.Am.Room
theorem XQ{X:Type}{M:Type}{S:X->M->St}{obj:List AV}{es:M->List (AV×AV)}{p m N:Nat}(hS:∀ x,MemAt (S x) obj es p m N)(hK:∀ x A y B k i,N<=k->i<N->fZ (S x A) (S y B) k i)(hpl:p<N)(U UD:X->St)(n:Nat)(hU:∀ x,(U x).length=n)(hUD:∀ x,(UD x).length=n)(ok:∀ x y,y∈U x->∀ k,N<=k->aF k y)(okD:∀ x y,y∈UD x->∀ k,N<=k->aF k y)(env:Env)(ps:List Nat)(a bb:ACode)(st st':LS)(pe pe':Option AJump):
  Fam1 (fun x A=>S x A++(U x++[.cells [.ptr p 0],.loop st pe env ps a bb])) (fun x A=>S x A++(UD x++[.cells [.ptr p 0],.loop st' pe' env ps a bb])) obj es p m (N+n) (N+n+2):=by
 have low:∀ (x:X) (A:M) (y:X) (B:M) (C D:St) (k i:Nat),N<=k->i<N->fZ (S x A++C) (S y B++D) k i:=by
  intro x A y B C D k i hk hi;have e1:(S x A++C)[i]? = (S x A)[i]?:=List.getElem?_append_left (by rw[(hS x).len];exact hi);have e2:(S y B++D)[i]? = (S y B)[i]?:=List.getElem?_append_left (by rw[(hS y).len];exact hi);have:=hK x A y B k i hk hi;simp only[fZ,e1,e2] at this ⊢;exact this
 have high:∀ (P Q:St) (C D:St) (l1 l2:ABlk) (k i:Nat),P.length=N->Q.length=N->C.length=n->D.length=n->(∀ y∈D,aF k y)->N<=i->i<N+n+2->(l1=l2\/∃ st pe st' pe' env ps a b,l1 = .loop st pe env ps a b/\l2 = .loop st' pe' env ps a b) ->
   fZ (P++(C++[.cells [.ptr p 0],l1])) (Q++(D++[.cells [.ptr p 0],l2])) k i:=by
  intro P Q C D l1 l2 k i hP hQ hA hB hk h1 h2 hl;have e1:(P++(C++[.cells [.ptr p 0],l1]))[i]? = (C++[.cells [.ptr p 0],l1])[i-N]?:=by rw[List.getElem?_append_right (by rw[hP];exact h1),hP]
  have e2:(Q++(D++[.cells [.ptr p 0],l2]))[i]? = (D++[.cells [.ptr p 0],l2])[i-N]?:=by rw[List.getElem?_append_right (by rw[hQ];exact h1),hQ]
  simp only[fZ,e1,e2];obtain⟨j,hj⟩:∃ j,i-N=j:=⟨_,rfl⟩;rw[hj];by_cases hjn:j<n
  ·right;left;have hb:j<D.length:=by omega
   refine⟨D[j],?_,hk _ (List.getElem_mem hb)⟩;rw[List.getElem?_append_left hb,List.getElem?_eq_getElem hb]
  ·have:j=n\/j=n+1:=by omega
   rcases this with rfl|rfl
   ·left;rw[List.getElem?_append_right (by omega),List.getElem?_append_right (by omega),hA,hB];simp
   ·rw[List.getElem?_append_right (by omega),List.getElem?_append_right (by omega),hA,hB];simp only[Nat.add_sub_cancel_left,List.getElem?_cons_succ,List.getElem?_cons_zero];rcases hl with rfl|⟨_,_,_,_,_,_,_,_,rfl,rfl⟩
    ·exact .inl rfl
    ·exact .inr (.inr ⟨_,_,_,_,_,_,_,_,rfl,rfl⟩)
 refine⟨fun x=>?_,fun x A=>?_,fun x A=>?_,fun x A y B k i hk hi=>?_,fun x A y B k i hk hi=>?_,by omega,by omega⟩
 ·have:=(hS x).app (U x++[.cells [.ptr p 0],.loop st pe env ps a bb]);rw[List.length_append,hU] at this;exact this
 ·simp[(hS x).len,hUD];omega
 ·have e:N+n=(S x A).length+n:=by rw[(hS x).len]
  rw[e,nG];have:n=(U x).length:=by rw[hU]
  rw[this];exact k7 _ _
 ·by_cases h:i<N
  ·exact low _ _ _ _ _ _ _ _ (by omega) h
  ·exact high _ _ _ _ _ _ _ _ ((hS x).len A) ((hS y).len B) (hU x) (hU y) (fun z hz=>ok y z hz k (by omega)) (by omega) hi (.inl rfl)
 ·by_cases h:i<N
  ·exact low _ _ _ _ _ _ _ _ (by omega) h
  ·exact high _ _ _ _ _ _ _ _ ((hS x).len A) ((hS y).len B) (hU x) (hUD y) (fun z hz=>okD y z hz k (by omega)) (by omega) hi (.inr ⟨_,_,_,_,_,_,_,_,rfl,rfl⟩)
theorem V8{X M:Type}{S:X->M->St}{obj:List AV}{es:M->List (AV×AV)}{p m N:Nat}(hS:∀ x,MemAt (S x) obj es p m N)(U UD:X->St)(n:Nat)(hU:∀ x,(U x).length=n)(hUD:∀ x,(UD x).length=n)(J:AJump)(e:Env)(k:Nat)(ps:List Nat)(a bb:ACode)(g:FuncId)(ek:Env.get e k = .func g [] [.ptr (N+n) 0])(r:X×Bool)(B':M)(x:X)(B:M)(hrun:Run T (.call g [.yield (N+n+1),.ptr (N+n) 0] (S x B++(U x++[.cells [.ptr p 0],.loop .ready none e ps a bb]))) fun o=>∃ τ',o.σ=Fam1.out (fun x A=>S x A++(U x++[.cells [.ptr p 0],.loop .ready none e ps a bb])) (fun x A=>S x A++(UD x++[.cells [.ptr p 0],.loop .done (some J) e ps a bb])) r B'++τ')(K:KJ)(hT:∀ τ,r.2=true->K none e (S r.1 B'++(U r.1++(.cells [.ptr p 0]::.dead::τ))))(hD:∀ τ,r.2=false->K (some J) e (S r.1 B'++(UD r.1++(.cells [.ptr p 0]::.dead::τ)))):
  rK (K:=⟨K⟩) T (.rangeFunc (.t k) ps a bb) e (S x B++(U x++[.cells [.ptr p 0]])):=by
 have hlen:(S x B++(U x++[ABlk.cells [.ptr p 0]])).length=N+n+1:=by simp[(hS x).len,hU];omega
 have hout:∀ (A W:St) (lp:ABlk) (τ':St),A.length=N->W.length=n->(A++(W++[ABlk.cells [.ptr p 0],lp])++τ')[N+n+1]? = some lp/\(A++(W++[ABlk.cells [.ptr p 0],lp])++τ').set (N+n+1) .dead=A++(W++(.cells [.ptr p 0]::.dead::τ')):=by
  intro A W lp τ' hA hW;have h1:N+n+1=(A++W).length+1:=by simp[hA,hW]
  have h2:A++(W++[ABlk.cells [.ptr p 0],lp])++τ'=(A++W)++(.cells [.ptr p 0]::lp::τ'):=by simp
  rw[h1,h2];constructor
  ·rw[mZ];rfl
  ·rw[m5];simp
 refine HS (by rw[PE,ek]) (by
  rw[hlen,List.append_assoc (S x B),List.append_assoc (U x)]
  exact hrun) fun o ho=>?_
 obtain⟨τ',hσ⟩:=ho;rw[hlen,hσ];cases hr2:r.2
 ·have hD':=hD τ' hr2;obtain⟨g1,g2⟩:=hout (S r.1 B') (UD r.1) (.loop .done (some J) e ps a bb) τ' ((hS _).len _) (hUD _);simp only[Fam1.out,hr2,Bool.false_eq_true,if_false];rw[g1,g2];exact⟨_,_,_,_,_,_,rfl,by simp,hD'⟩
 ·have hT':=hT τ' hr2;obtain⟨g1,g2⟩:=hout (S r.1 B') (U r.1) (.loop .ready none e ps a bb) τ' ((hS _).len _) (hU _);simp only[Fam1.out,hr2,if_true];rw[g1,g2];exact⟨_,_,_,_,_,_,rfl,by simp,hT'⟩
theorem sL{X A M:Type}{S:X->M->St}{obj:List AV}{es:M->List (AV×AV)}{p m N:Nat}(hS:∀ x,MemAt (S x) obj es p m N)(U UD:X->St)(n:Nat)(hU:∀ x,(U x).length=n)(hUD:∀ x,(UD x).length=n)(J:AJump)(e:Env)(ps:List Nat)(args:A->Bool->Option Nat->List AV)(hps:∀ t fl tk,ps.length=(args t fl tk).length)(a bb:ACode){P:A->Prop}{f:A->X->X×Bool}(h:∀ t,P t->∀ (fl:Bool) (tk:Option Nat) x B τ,wp T a (lD e ps (args t fl tk)) (S x B++(U x++(.cells [.ptr p 0]::.loop .ready none e ps a bb::τ))) (fun j e' σ'=>j=none/\∃ τ1,σ'=S x B++(U x++(.cells [.ptr p 0]::.loop .ready none e ps a bb::(τ++τ1))) /\
   wp T bb e' (S x B++(U x++(.cells [.ptr p 0]::.loop .busy none e ps a bb::(τ++τ1)))) (fun j e'' σ''=>((f t x).2=true/\j=none/\∃ τ',σ''=S (f t x).1 B++(U (f t x).1++(.cells [.ptr p 0]::.loop .busy none e ps a bb::(τ++τ')))) \/
    ((f t x).2=false/\j=some J/\∃ τ',σ''=S (f t x).1 B++(UD (f t x).1++(.cells [.ptr p 0]::.loop .busy none e ps a bb::(τ++τ'))))))):
  AN (fun x B=>S x B++(U x++[.cells [.ptr p 0],.loop .ready none e ps a bb])) (fun x B=>S x B++(UD x++[.cells [.ptr p 0],.loop .done (some J) e ps a bb])) (N+n+1) args P f:=by
 intro t ht fl tk x B τ;have hget:∀ (A W:St) (lp:ABlk) (υ:St),A.length=N->W.length=n->(A++(W++(ABlk.cells [.ptr p 0]::lp::υ)))[N+n+1]? = some lp:=by
  intro A W lp υ hA hW;have h1:N+n+1=(A++W).length+1:=by simp[hA,hW]
  rw[h1,<-List.append_assoc,mZ];rfl
 have hset:∀ (A W:St) (lp l2:ABlk) (υ:St),A.length=N->W.length=n->(A++(W++(ABlk.cells [.ptr p 0]::lp::υ))).set (N+n+1) l2=A++(W++(ABlk.cells [.ptr p 0]::l2::υ)):=by
  intro A W lp l2 υ hA hW;have h1:N+n+1=(A++W).length+1:=by simp[hA,hW]
  rw[h1,<-List.append_assoc,m5];simp
 obtain⟨r,hr⟩:∃ r,f t x=r:=⟨_,rfl⟩;have h:=h t ht fl tk x B τ;rw[hr] at h ⊢;have hst:(fun x B=>S x B++(U x++[ABlk.cells [.ptr p 0],.loop .ready none e ps a bb])) x B++τ=S x B++(U x++(.cells [.ptr p 0]::.loop .ready none e ps a bb::τ)):=by simp
 rw[hst];refine .round (env:=e) (ps:=ps) (a:=a) (b:=bb)
  (R:=fun o=>o.j=none/\∃ τ1,o.σ=S x B++(U x++(.cells [.ptr p 0]::.loop .ready none e ps a bb::(τ++τ1)))/\wp T bb o.env (S x B++(U x++(.cells [.ptr p 0]::.loop .busy none e ps a bb::(τ++τ1)))) (fun j e'' σ''=>(r.2=true/\j=none/\∃ τ',σ''=S r.1 B++(U r.1++(.cells [.ptr p 0]::.loop .busy none e ps a bb::(τ++τ')))) \/
    (r.2=false/\j=some J/\∃ τ',σ''=S r.1 B++(UD r.1++(.cells [.ptr p 0]::.loop .busy none e ps a bb::(τ++τ'))))))
  (S:=fun o=>(r.2=true/\o.j=none/\∃ τ',o.σ=S r.1 B++(U r.1++(.cells [.ptr p 0]::.loop .busy none e ps a bb::(τ++τ'))))\/(r.2=false/\o.j=some J/\∃ τ',o.σ=S r.1 B++(UD r.1++(.cells [.ptr p 0]::.loop .busy none e ps a bb::(τ++τ'))))) (hget _ _ _ _ ((hS _).len _) (hU _)) (by rw[hps t fl tk]) (gS h fun o ho=>ho) ?_ ?_ ?_
 ·rintro o ⟨hj,τ1,hσ,_⟩;exact⟨hj,by rw[hσ];exact hget _ _ _ _ ((hS _).len _) (hU _)⟩
 ·rintro o ⟨_,τ1,hσ,hw⟩;rw[hσ,hset _ _ _ _ _ ((hS _).len _) (hU _)];exact gS hw fun o ho=>ho
 ·rintro o (⟨hr2,hj,τ',hσ⟩|⟨hr2,hj,τ',hσ⟩)
  ·rw[hσ,hj,hget _ _ _ _ ((hS _).len _) (hU _),hset _ _ _ _ _ ((hS _).len _) (hU _)];refine⟨rfl,by rw[hr2];rfl,τ',?_⟩;simp[Fam1.out,hr2]
  ·rw[hσ,hj,hget _ _ _ _ ((hS _).len _) (hUD _),hset _ _ _ _ _ ((hS _).len _) (hUD _)];refine⟨rfl,by rw[hr2];rfl,τ',?_⟩;simp[Fam1.out,hr2]
end Go.Am.Room
set_option maxRecDepth 8000
namespace Go.Am.Room.Tr
def FB:=zz @encNet_eq (zz @netCells_eq (zz @encRail_eq (zz @encTram_eq (zz @encSeen_eq (zz @aJ (zz @S_mapRail (zz @S_mapTram (zz @S_mapSeen (zz @bZ (zz @bY (zz @Nat.not_lt_zero (zz @List.length_append.{0} (zz @Nat.zero_add (zz @Nat.mul_one (zz @Int.toNat_natCast (zz @dL (zz @d7 (zz @d6 (zz @iR (zz @d8 (zz @dY (zz @dW (zz @dZ (zz @d4 (zz @d5 (zz @dV (zz @Nat.add_lt_add_iff_left (@Nat.lt_add_right_iff_pos))))))))))))))))))))))))))))
theorem O2(v:Net)(b m p:Nat)(σ:St)(hσ:aH σ p=some (db v b m))(t:Nat)(ht:t<v.trams.length)(c:Int):eS T (.func 435 [.ptr p 0] []) [.int .i64 t,.int .i64 c] σ (.bool (mH v t c)):=by
 refine bN (af:=H7) rfl (by simp[H7]) ?_;have hit:=JP (v:=v) (t:=t) (z:=v.trams[t]) (by simp[ht]) c;obtain⟨z,hz⟩:∃ z,v.trams[t]=z:=⟨_,rfl⟩;rw[hz] at hit;have e:decide (c = -1)=(c==-1):=by rw[Bool.eq_iff_iff];simp
 rw[e] at hit;rw[hit];cases h:(c==-1)
 ·try simp only[↓QA,QB,seval,FB,H7,h,hσ,ht,hz]
  refine bU [] (by first|rfl|simp) ?_;try simp only[QS,QC,seval,FB]
 ·try simp only[↓QA,QB,seval,FB,H7,h]
  refine bU [] (by first|rfl|simp) ?_;try simp only[QS,QC,seval,FB,Bool.false_and]
def aGR(p:Nat):AV:=.func 435 [.ptr p 0] []
theorem KN(p:Nat):aGR p = .func 435 [.ptr p 0] []:=by simp only[aGR]
end Go.Am.Room.Tr
namespace Go.Am.Room.Tr
def pP:=zz @encNet_eq (zz @netCells_eq (zz @encRail_eq (zz @encTram_eq (zz @encSeen_eq (zz @aJ (zz @S_mapRail (zz @S_mapTram (zz @S_mapSeen (zz @bZ (zz @bY (zz @Nat.not_lt_zero (zz @List.length_append.{0} (zz @Nat.zero_add (zz @Nat.mul_one (zz @Int.toNat_natCast (zz @dL (zz @d7 (zz @d6 (zz @iR (zz @d8 (zz @dY (zz @dW (zz @dZ (zz @d4 (zz @d5 (zz @dV (zz @Nat.add_lt_add_iff_left (zz @Nat.lt_add_right_iff_pos (zz @nX (@nZ))))))))))))))))))))))))))))))
theorem H5{X:Type}{S:X->List K5->St}{v:Net}{b p m N:Nat}{bl:List Int}(hS:∀ x,MemAt (S x) (db v b m) (tEs v) p m N)(hK:∀ x A y B k i,N<=k->i<N->fZ (S x A) (S y B) k i)(hpl:p<N)(hv:Vd v)(hb:ButIs b bl)(U UD:X->St)(n:Nat)(hU:∀ x,(U x).length=n)(hUD:∀ x,(UD x).length=n)(ok:∀ x y,y∈U x->∀ k,N<=k->aF k y)(okD:∀ x y,y∈UD x->∀ k,N<=k->aF k y)(J:AJump){f:List Int->X->X×Bool}(e:Env)(k:Nat)(ps:List Nat)(a bb:ACode)(ek:Env.get e k = .func 430 [] [.ptr (N+n) 0])(hy:AN (fun x B=>S x B++(U x++[.cells [.ptr p 0],.loop .ready none e ps a bb])) (fun x B=>S x B++(UD x++[.cells [.ptr p 0],.loop .done (some J) e ps a bb])) (N+n+1) (tV v) (TOk v bl) f)(x:X)(A:List K5)(K:KJ)(hT:∀ τ,(bE f (TL v bl) x).2=true->K none e (S (bE f (TL v bl) x).1 (gY v bl f x A).1.2++(U (bE f (TL v bl) x).1++(.cells [.ptr p 0]::.dead::τ))))(hD:∀ τ,(bE f (TL v bl) x).2=false->K (some J) e (S (bE f (TL v bl) x).1 (gY v bl f x A).1.2++(UD (bE f (TL v bl) x).1++(.cells [.ptr p 0]::.dead::τ)))):
  rK (K:=⟨K⟩) T (.rangeFunc (.t k) ps a bb) e (S x A++(U x++[.cells [.ptr p 0]])):=by
 have hrun:=D7 (XQ hS hK hpl U UD n hU hUD ok okD e ps a bb .ready .done none (some J)) hv hb hy (fun c h1 h2=>⟨h1,h2⟩) x A;rw[yV] at hrun;exact V8 hS U UD n hU hUD J e k ps a bb 430 ek (bE f (TL v bl) x) (gY v bl f x A).1.2 x A hrun K hT hD
def v9(p:Nat)(x:B64):St:=[.cells [.ptr p 0],.cells [.int .i64 (x.1.1:Nat)],.cells [.int .i64 (x.1.2:Nat)],.cells [aGR p]]
theorem JC{S:List K5->St}{v:Net}{b p m N:Nat}(hR:MemAt S (db v b m) (tEs v) p m N)(hv:Vd v)(c:List Int)(x:B64)(B:List K5)(lp:ABlk)(τ:St)(e:Env)(G:Option AJump->St->Prop)(e1:Env.get e 1 = .ptr N 0)(e2:Env.get e 2 = .ptr (N+1) 0)(e3:Env.get e 3 = .ptr (N+2) 0)(e4:Env.get e 4 = .ptr (N+3) 0)(e6:Env.get e 6 = .ptr (N+(τ.length+1+1+1+1+1+1)) 0)(R:B64×Bool)(hRr:sH (jG v) v.trams.length c x=R):
  wp T SM e (S B++(v9 p x++(.cells [.ptr p 0]::lp::(τ++[.cells (aZ 3 (dA (eH v c)))])))) (fun j e'' σ''=>(R.2=true/\j=none/\∃ τ',σ''=S B++(v9 p R.1++(.cells [.ptr p 0]::lp::(τ++τ'))))\/G j σ''):=by
 have hnt:=hv.ntr;have hR1:R.1.1=fB (jG v c) v.trams.length x.1:=by rw[<-hRr,C9 (jG v) (by omega)]
 have hR2:R.2=true:=by rw[<-hRr];exact G4 _ _ _ _
 have hpl:=hR.pl;have hta:∀ (b0 b1 b2 b3 b4 b5:ABlk),aH (S B++(b0::b1::b2::b3::b4::b5::(τ++[.cells (aZ 3 (dA (eH v c)))]))) (N+(τ.length+1+1+1+1+1+1))=some (aZ 3 (dA (eH v c))):=fun b0 b1 b2 b3 b4 b5=>by
  rw[hR.base];simp only[vF];rw[k7];rfl
 have hlt:=fun k hk=>tS (jG v c) (n:=6) x.2 k hk
 simp only[v9,hR1,KN]
 (repeat (first|simp only[↓QA,QB,reduceLT,reduceIte,reduceEqDiff,reduceAdd,reduceLeDiff,reduceMul,Nat.reduceBEq,pP,hR.len,hR.base,hR.base0,hR.bset,hR.bset0,hR.at1,hR.at0,SM,e1]|refine rd0 rfl ?_))
 refine bC (S:=Nat) 0 (fun k=>k<=v.trams.length) (fun k=>v.trams.length-k)
  (fun k=>[(2,.ptr (N+1) 0),(3,.ptr (N+2) 0),(4,.ptr (N+3) 0),(6,.ptr (N+(τ.length+1+1+1+1+1+1)) 0),(27,.int .i64 v.trams.length),(28,.int .i64 k)])
  (fun k=>S B++(.cells [.ptr p 0]::.cells [.int .i64 ((fB (jG v c) k x.1).1:Nat)]::.cells [.int .i64 ((fB (jG v c) k x.1).2:Nat)]::.cells [.func 435 [.ptr p 0] []]::.cells [.ptr p 0]::lp::(τ++[.cells (aZ 3 (dA (eH v c)))]))) (Nat.zero_le _) rfl ?_ fun k hk=>?_
 ·try simp only[aB,QE,reduceLT,reduceIte,reduceEqDiff,reduceAdd,reduceLeDiff,reduceMul,Nat.reduceBEq,pP,hR.len,hR.base,hR.base0,hR.bset,hR.bset0,hR.at1,hR.at0,e2,e3,e4,e6]
  try simp
 ·(repeat (first|simp only[↓QA,QB,reduceLT,reduceIte,reduceEqDiff,reduceAdd,reduceLeDiff,reduceMul,Nat.reduceBEq,pP,hR.len,hR.base,hR.base0,hR.bset,hR.bset0,hR.at1,hR.at0,aBK]|refine rd0 rfl ?_))
  refine aE (fun hd=>?_) fun hd=>?_
  ·have hk1:k<v.trams.length:=by simpa using hd
   have hw:=bD hk1 (by omega);have hst:fB (jG v c) (k+1) x.1=if jG v c k=true then (EI (fB (jG v c) k x.1).1 (2^k),(fB (jG v c) k x.1).2) else ((fB (jG v c) k x.1).1,(fB (jG v c) k x.1).2|||2^k):=rfl
   obtain⟨l1,l2⟩:=hlt k (by omega);obtain⟨⟨Y1,Y2⟩,hY⟩:∃ Y,fB (jG v c) k x.1=Y:=⟨_,rfl⟩;rw[hY] at hst l1 l2;simp only at hst l1 l2;have hp2:=kZ (show k<=60 by omega);have hsh:=rB k (by omega);have hor:=S4 Y2 (2^k) (by omega) (by omega);have han:=HQ Y1 (2^k) (by omega) (by omega);have i3:(0:Int)<=(k:Int)/\(k:Int)<((3:Nat):Int):=⟨by omega,by omega⟩;have hg:=gO 3 (dA (eH v c)) (i:=k) (by omega);have hin:=fun σ (hσ:aH σ p=some (db v b m))=>O2 v b m p σ hσ k hk1 (dA (eH v c) k)
   have hfe:mH v k (dA (eH v c) k)=jG v c k:=rfl;rw[hY]
   (repeat (first|simp only[↓QA,QB,reduceLT,reduceIte,reduceEqDiff,reduceAdd,reduceLeDiff,reduceMul,Nat.reduceBEq,pP,hR.len,hR.base,hR.base0,hR.bset,hR.bset0,hR.at1,hR.at0,hta,i3,hg]|refine rd0 rfl ?_))
   refine kT (hin _ (hR.at1 _ _)) ?_;rw[hfe];cases hf:jG v c k
   ·rw[hf] at hst;simp only[Bool.false_eq_true,if_false] at hst
    (repeat (first|simp only[↓QA,QB,reduceLT,reduceIte,reduceEqDiff,reduceAdd,reduceLeDiff,reduceMul,Nat.reduceBEq,pP,hR.len,hR.base,hR.base0,hR.bset,hR.bset0,hR.at1,hR.at0,hta,i3,hg,hsh,hor]|refine rd0 rfl ?_))
    refine⟨k+1,by omega,by omega,?_⟩;rw[hst];try simp only[aB,QE,reduceLT,reduceIte,reduceEqDiff,reduceAdd,reduceLeDiff,reduceMul,Nat.reduceBEq,pP,hR.len,hR.base,hR.base0,hR.bset,hR.bset0,hR.at1,hR.at0,hw,hR.eqS]
    try simp[aF,okVs,okV]
    try omega
   ·rw[hf] at hst;simp only[if_true] at hst
    (repeat (first|simp only[↓QA,QB,reduceLT,reduceIte,reduceEqDiff,reduceAdd,reduceLeDiff,reduceMul,Nat.reduceBEq,pP,hR.len,hR.base,hR.base0,hR.bset,hR.bset0,hR.at1,hR.at0,hta,i3,hg,hsh,han]|refine rd0 rfl ?_))
    refine⟨k+1,by omega,by omega,?_⟩;rw[hst];try simp only[aB,QE,reduceLT,reduceIte,reduceEqDiff,reduceAdd,reduceLeDiff,reduceMul,Nat.reduceBEq,pP,hR.len,hR.base,hR.base0,hR.bset,hR.bset0,hR.at1,hR.at0,hw,hR.eqS]
    try simp[aF,okVs,okV]
    try omega
  ·have hk1:k=v.trams.length:=by
    have:¬k<v.trams.length:=by simpa using hd
    omega
   rw[hk1]
   (repeat (first|simp only[↓QA,QB,reduceLT,reduceIte,reduceEqDiff,reduceAdd,reduceLeDiff,reduceMul,Nat.reduceBEq,pP,hR.len,hR.base,hR.base0,hR.bset,hR.bset0,hR.at1,hR.at0]|refine rd0 rfl ?_))
   exact .inl ⟨hR2,[.cells (aZ 3 (dA (eH v c)))],rfl⟩
end Go.Am.Room.Tr
namespace Go.Am.Room.Tr
def t8:=zz @encNet_eq (zz @netCells_eq (zz @encRail_eq (zz @encTram_eq (zz @encSeen_eq (zz @aJ (zz @S_mapRail (zz @S_mapTram (zz @S_mapSeen (zz @bZ (zz @bY (zz @Nat.not_lt_zero (zz @List.length_append.{0} (zz @Nat.zero_add (zz @Nat.mul_one (zz @Int.toNat_natCast (zz @dL (zz @d7 (zz @d6 (zz @iR (zz @d8 (zz @dY (zz @dW (zz @dZ (zz @d4 (zz @d5 (zz @dV (zz @Nat.add_lt_add_iff_left (zz @Nat.lt_add_right_iff_pos (zz @nX (@nZ))))))))))))))))))))))))))))))
def IX(v:Net)(h:v.trams.length<=6):B64:=pK (jG v) v.trams.length (TL v []) (nB _ h)
def NA(v:Net)(h:v.trams.length<=6)(A:List K5):List K5:=(gY v [] (sH (jG v) v.trams.length) (nB _ h) A).1.2
theorem JJ{A:Type}(fine:A->Nat->Bool)(n:Nat)(l:List A)(x:B64):bE (sH fine n) l x=(pK fine n l x,true):=A4 (G4 fine n) l x
theorem IV{S:List K5->St}{v:Net}{b p m N:Nat}(hR:MemAt S (db v b m) (tEs v) p m N)(hv:Vd v)(hb:ButIs b [])(h6:v.trams.length<=6)(A:List K5):
  yK T (.func 321 [] []) [.ptr p 0] (S A) (.tuple [.int .i64 ((IX v h6).1.1:Nat),.int .i64 ((IX v h6).1.2:Nat)]) (S (NA v h6 A)):=by
 have hit:=JJ (jG v) v.trams.length (TL v []) (nB _ h6);obtain⟨Y,hY⟩:∃ Y,pK (jG v) v.trams.length (TL v []) (nB _ h6)=Y:=⟨_,rfl⟩;have hl:IX v h6=Y:=hY;rw[hY] at hit;rw[hl];have hsh:=rB v.trams.length (by omega);have hp2:=kZ (show v.trams.length<=60 by omega);have hw:IntKind.i64.wrap (((2^v.trams.length:Nat):Int)-1)=((2^v.trams.length-1:Nat):Int):=by
  have:=Nat.two_pow_pos v.trams.length;rw[bM ⟨by omega,by omega⟩];omega
 have hok:∀ (x:B64) (y:ABlk),y∈v9 p x->∀ k,N<=k->aF k y:=by
  intro x y hy k hk;have hpl:=hR.pl;simp only[v9,List.mem_cons,List.not_mem_nil,or_false] at hy;rcases hy with rfl|rfl|rfl|rfl<;>simp[aF,okVs,okV,aGR]<;>omega
 refine CR hR (af:=aBB) rfl (by simp[aBB]) ?_;have hrg:=pN hR hv hb (v9 p) (v9 p) 4 (fun _=>rfl) (fun _=>rfl) hok hok .ret (f:=sH (jG v) v.trams.length)
 (repeat (first|simp only[↓QA,QB,seval,t8,hR.len,hR.base,hR.base0,hR.bset,hR.bset0,hR.at1,hR.at0,aBB,hsh,hw]|refine rd0 rfl ?_))
 refine vY rfl (by simp[EJ]) ?_
 (repeat (first|simp only[↓QA,QB,seval,t8,hR.len,hR.base,hR.base0,hR.bset,hR.bset0,hR.at1,hR.at0,EJ]|refine rd0 rfl ?_))
 refine hrg _ 19 [20,21] _ _ ?_ ?_ (nB _ h6) A _ ?_ ?_
 ·try simp only[aB,QE,seval,t8,hR.len,hR.base,hR.base0,hR.bset,hR.bset0,hR.at1,hR.at0]
 ·refine sL (S:=fun _=>S) (fun _=>hR) (v9 p) (v9 p) 4 (fun _=>rfl) (fun _=>rfl) .ret _ _ (tV v) (fun _ _ _=>rfl) _ _ ?_;intro c _ fl tk x B τ;simp only[lD,tV];obtain⟨R,hRr⟩:∃ R,sH (jG v) v.trams.length c x=R:=⟨_,rfl⟩;rw[hRr];have lb:=fun lp e G=>JC hR hv c x B lp τ e G
  simp only[v9,KN] at lb ⊢
  (repeat (first|simp only[↓QA,QB,seval,t8,hR.len,hR.base,hR.base0,hR.bset,hR.bset0,hR.at1,hR.at0]|refine rd0 rfl ?_))
  refine⟨[.cells (aZ 3 (dA (eH v c)))],by simp,?_⟩;simp only[<-KN];refine JC hR hv c x B _ τ _ _ ?_ ?_ ?_ ?_ ?_ R hRr;all_goals try simp only[aB,QE,seval,t8,hR.len,hR.base,hR.base0,hR.bset,hR.bset0,hR.at1,hR.at0]
 ·intro τ h2;rw[hit];simp only[v9]
  (repeat (first|simp only[↓QA,QB,seval,t8,hR.len,hR.base,hR.base0,hR.bset,hR.bset0,hR.at1,hR.at0]|refine rd0 rfl ?_))
  refine⟨_,_,rfl,rfl,?_⟩;try simp only[QS,QC,seval,t8,hR.len,hR.base,hR.base0,hR.bset,hR.bset0,hR.at1,hR.at0]
 ·intro τ h2;rw[hit] at h2;cases h2
end Go.Am.Room.Tr
namespace Go.Am.Room.Tr
def eY:=zz @encNet_eq (zz @netCells_eq (zz @encRail_eq (zz @encTram_eq (zz @encSeen_eq (zz @aJ (zz @S_mapRail (zz @S_mapTram (zz @S_mapSeen (zz @bZ (zz @bY (zz @Nat.not_lt_zero (zz @List.length_append.{0} (zz @Nat.zero_add (zz @Nat.mul_one (zz @Int.toNat_natCast (zz @Nat.add_lt_add_iff_left (@Nat.lt_add_right_iff_pos)))))))))))))))))
theorem PQ(v:Net)(hf:Fits v):cV T 185 [encNet v] (j5 (DF v)):=by
 refine aR (af:=WX) rfl (by simp[WX]) dd ?_;have her:=fun σ=>nL σ v [] (.inl rfl) hf
 simp only[List.map_nil,pB,uK,oT] at her
 (repeat (first|simp only[↓QA,QB,seval,eY,WX]|refine rd0 rfl ?_))
 refine cB (her _) ?_;by_cases h0:iL v=0
 ·obtain⟨hv,hne⟩:=xJ h0;have hnt:=hv.ntr;have h6:v.trams.length<=6:=by omega
  obtain⟨hl1,hl2⟩:=O9 hv h6;have hld:=IV (HV [.cells (netCells v)] v) hv S8 h6 (tD v);have hlt:=(IX v h6).2;obtain⟨⟨⟨P,Q⟩,hPQ⟩,hY⟩:∃ Y,IX v h6=Y:=⟨_,rfl⟩;have hYl:pK (jG v) v.trams.length (TL v []) (nB _ h6)=⟨(P,Q),hPQ⟩:=hY;rw[hYl] at hl1 hl2;rw[hY] at hld;simp only at hl1 hl2 hld hPQ;have hm:DF v=(lst v.trams.length P,lst v.trams.length Q,0):=by rw[DF,if_pos h0,hl1,hl2]
  have hlo1:=xG P v.trams.length (by omega) (by omega);have hlo2:=xG Q v.trams.length (by omega) (by omega);rw[if_pos h0,if_pos h0,hm];simp only[nA] at hld ⊢;try simp only[↓QA,QB,seval,eY] at hld
  (repeat (first|simp only[↓QA,QB,seval,eY,show ((0:Int)==0)=true from rfl]|refine rd0 rfl ?_))
  refine cB hld ?_
  (repeat (first|simp only[↓QA,QB,seval,eY]|refine rd0 rfl ?_))
  ((first|refine aD (hlo1) rfl dd ?_|refine aG (hlo1) rfl dd ?_);(repeat (first|simp only[↓QA,QB,seval,eY]|refine rd0 rfl ?_)))
  ((first|refine aD (hlo2) rfl dd ?_|refine aG (hlo2) rfl dd ?_);(repeat (first|simp only[↓QA,QB,seval,eY,j5]|refine rd0 rfl ?_)))
 ·have h0':(iL v==0)=false:=by simpa using h0
  have hm:DF v=([],[],iL v):=by rw[DF,if_neg h0]
  rw[if_neg h0,if_neg h0,hm]
  (repeat (first|simp only[↓QA,QB,seval,eY,h0',j5]|refine rd0 rfl ?_))
  try rfl
theorem qF(v:Net)(hf:Fits v):cV T 186 [encNet v] (lX (pT v)):=by
 refine aR (af:=WW) rfl (by simp[WW]) dd ?_;have her:=fun σ=>nL σ v [] (.inl rfl) hf
 simp only[List.map_nil,pB,uK,oT] at her
 (repeat (first|simp only[↓QA,QB,seval,eY,WW]|refine rd0 rfl ?_))
 refine cB (her _) ?_;by_cases h0:iL v=0
 ·obtain⟨hv,hne⟩:=xJ h0;have hnt:=hv.ntr;have h6:v.trams.length<=6:=by omega
  obtain⟨hl1,hl2⟩:=O9 hv h6;have hld:=IV (HV [.cells (netCells v)] v) hv S8 h6 (tD v);obtain⟨⟨⟨P,Q⟩,hPQ⟩,hY⟩:∃ Y,IX v h6=Y:=⟨_,rfl⟩;have hYl:pK (jG v) v.trams.length (TL v []) (nB _ h6)=⟨(P,Q),hPQ⟩:=hY;rw[hYl] at hl1 hl2;rw[hY] at hld;simp only at hl1 hl2 hld hPQ;have hin:=aGG (v:=v) (l:=truths v []);have hml:=aB4 v (truths v []);have hlo2:=xG Q v.trams.length (by omega) (by omega);rw[hl2] at hlo2;obtain⟨M,hM⟩:∃ M,NH v (truths v [])=M:=⟨_,rfl⟩;have hfo:pT v=if M=[] then (0,9) else (lM v M (-1),0):=by rw[pT,if_pos h0,hM]
  rw[hM] at hlo2 hml;simp only[hM] at hin;obtain⟨Z,hZ⟩:∃ Z,lM v M (-1)=Z:=⟨_,rfl⟩;have hZM:(Z<0↔M=[]):=by
   have key:∀ (l:List Int) (b:Int),(∀ t∈l,0<=t)->(lM v l b<0↔b<0/\l=[]):=by
    intro l
    induction l with
    |nil=>intro b _;simp[lM]
    |cons t l ih =>
     intro b h;have ht:=h t (by simp);rw[lM,ih _ fun x hx=>h x (by simp[hx])];split<;>simp_all<;>omega
   rw[<-hZ,key M (-1) fun t ht=>(hin t ht).1];simp
  have hfo2:pT v=if Z<0 then (0,9) else (Z,0):=by
   rw[hfo,hZ];by_cases h:M=[]
   ·rw[if_pos h,if_pos (hZM.2 h)]
   ·rw[if_neg h,if_neg fun q=>h (hZM.1 q)]
  rw[if_pos h0,if_pos h0,hfo2];simp only[nA] at hld ⊢;try simp only[↓QA,QB,seval,eY] at hld
  (repeat (first|simp only[↓QA,QB,seval,eY,show ((0:Int)==0)=true from rfl]|refine rd0 rfl ?_))
  refine cB hld ?_
  (repeat (first|simp only[↓QA,QB,seval,eY]|refine rd0 rfl ?_))
  ((first|refine aD (hlo2) rfl dd ?_|refine aG (hlo2) rfl dd ?_);(repeat (first|simp only[↓QA,QB,seval,eY]|refine rd0 rfl ?_)))
  refine bC (S:=Nat×Int) (0,-1) (fun a=>a.1<=M.length/\a.2<v.trams.length/\lM v (M.drop a.1) a.2=Z) (fun a=>M.length-a.1)
   (fun a=>[(1,.ptr 0 0),(8,.int .i64 a.2),(28,ints M),(29,.int .i64 M.length),(30,.int .i64 a.1)]) (fun a=>[.cells (netCells v),.cells (netCells v),.cells (netCells v),.map (tEs v (NA v h6 (tD v))),.cells (db v 0 3)]) ⟨Nat.zero_le _,by simp only;omega,hZ⟩ (by simp[netCells,ints]) ?_ fun a ha=>?_
  ·try simp only[aB,QE,seval,eY,ints]
   try simp
  ·obtain⟨k,b⟩:=a;obtain⟨hk,hb,hgo⟩:=ha;simp only at hk hb hgo
   (repeat (first|simp only[↓QA,QB,seval,eY,W0]|refine rd0 rfl ?_))
   refine aE (fun h2=>?_) fun h2=>?_
   ·have hk1:k<M.length:=by simpa using h2
    have hw:=bD hk1 (by omega);have hx:=hin _ (List.getElem_mem hk1);rw[KG hk1] at hgo;obtain⟨x,hxe⟩:∃ x:Nat,M[k]=(x:Int):=⟨M[k].toNat,by omega⟩;rw[hxe] at hx hgo;have hx1:x<v.trams.length:=by omega
    (repeat (first|simp only[↓QA,QB,seval,eY,hk1,hxe]|refine rd0 rfl ?_))
    cases hbn:decide (b<0)
    ·have hbn':¬b<0:=by simpa using hbn
     obtain⟨B,rfl⟩:∃ B:Nat,b=(B:Int):=⟨b.toNat,by omega⟩;have hB1:B<v.trams.length:=by omega
     rw[Int.toNat_natCast,Int.toNat_natCast,aA2 hx1,aA2 hB1] at hgo;obtain⟨zx,hzx⟩:∃ z,v.trams[x]=z:=⟨_,rfl⟩;obtain⟨zb,hzb⟩:∃ z,v.trams[B]=z:=⟨_,rfl⟩;rw[hzx,hzb] at hgo;cases q:decide (zx.due<zb.due)
     ·have q':¬zx.due<zb.due:=by simpa using q
      rw[if_neg (by omega)] at hgo
      (repeat (first|simp only[↓QA,QB,seval,eY,hbn,hx1,hB1,hzx,hzb,q,hw]|refine rd0 rfl ?_))
      refine⟨(k+1,(B:Int)),⟨by simp only;omega,by simp only;omega,hgo⟩,by simp only;omega,?_⟩;try simp only[aB,QE,seval,eY,hw,ints]
      try simp[aF]
     ·have q':zx.due<zb.due:=by simpa using q
      rw[if_pos (.inr q')] at hgo
      (repeat (first|simp only[↓QA,QB,seval,eY,hbn,hx1,hB1,hzx,hzb,q,hw]|refine rd0 rfl ?_))
      refine⟨(k+1,(x:Int)),⟨by simp only;omega,by simp only;omega,hgo⟩,by simp only;omega,?_⟩;try simp only[aB,QE,seval,eY,hw,ints]
      try simp[aF]
    ·have hbn':b<0:=by simpa using hbn
     rw[if_pos (.inl hbn')] at hgo
     (repeat (first|simp only[↓QA,QB,seval,eY,hbn,hw]|refine rd0 rfl ?_))
     refine⟨(k+1,(x:Int)),⟨by simp only;omega,by simp only;omega,hgo⟩,by simp only;omega,?_⟩;try simp only[aB,QE,seval,eY,hw,ints]
     try simp[aF]
   ·have hk1:k=M.length:=by simp at h2;omega
    rw[hk1,List.drop_length,lM] at hgo;subst hgo;cases q:decide (b<0)
    ·have q':¬b<0:=by simpa using q
     rw[if_neg q']
     (repeat (first|simp only[↓QA,QB,seval,eY,q,lX]|refine rd0 rfl ?_))
     try try simp only[QS,QC,seval,eY]
    ·have q':b<0:=by simpa using q
     rw[if_pos q']
     (repeat (first|simp only[↓QA,QB,seval,eY,q,lX]|refine rd0 rfl ?_))
     try try simp only[QS,QC,seval,eY]
 ·have h0':(iL v==0)=false:=by simpa using h0
  have hm:pT v=(0,iL v):=by rw[pT,if_neg h0]
  rw[if_neg h0,if_neg h0,hm]
  (repeat (first|simp only[↓QA,QB,seval,eY,h0',lX]|refine rd0 rfl ?_))
  try rfl
end Go.Am.Room.Tr
namespace Go.Am.Room.Tr
def jT:=zz @encNet_eq (zz @netCells_eq (zz @encRail_eq (zz @encTram_eq (zz @encSeen_eq (zz @aJ (zz @S_mapRail (zz @S_mapTram (zz @S_mapSeen (zz @bZ (zz @bY (zz @Nat.not_lt_zero (zz @List.length_append.{0} (zz @Nat.zero_add (zz @Nat.mul_one (zz @Int.toNat_natCast (zz @Nat.add_lt_add_iff_left (zz @Nat.lt_add_right_iff_pos (zz @dL (zz @d7 (zz @d6 (zz @iR (@d8))))))))))))))))))))))
theorem CL(σ:St)(v:Net)(ns:List Int)(hns:ns=[]\/∃ t,ns=[t,(v.trams.length:Int)])(hf:Fits v)(h:AP v ns=0):yK T (.func 319 [] []) [encNet v,.lit (ns.map (.int .i64)) true none] σ (.tuple [.ptr (σ.length+3) 0,.int .i64 0]) (nA σ v (tD v)):=by
 have:=nL σ v ns hns hf
 rwa [pB,if_pos h,uK,if_pos h] at this
theorem FZ(σ:St)(v:Net)(ns:List Int)(hns:ns=[]\/∃ t,ns=[t,(v.trams.length:Int)])(hf:Fits v)(h:AP v ns≠0):yK T (.func 319 [] []) [encNet v,.lit (ns.map (.int .i64)) true none] σ (.tuple [.nilPtr,.int .i64 (AP v ns)]) σ:=by
 have:=nL σ v ns hns hf
 rwa [pB,if_neg h,uK,if_neg h] at this
abbrev Com:=Span×Bool×Bool
def cU(x:Com):St:=[.cells [.bool x.2.1],.cells [.bool x.2.2]]
theorem aJX(N:Nat)(x:Com)(y:ABlk)(hy:y∈cU x)(k:Nat)(hk:N<=k):aF k y:=by
 simp only[cU,List.mem_cons,List.not_mem_nil,or_false] at hy;rcases hy with rfl|rfl<;>simp[aF,okVs,okV]
def cS(v:Net)(t:Nat)(x:Com)(A:List K5):St:=nA [.cells (netCells v),.cells [.int .i64 t],.cells [.int .i64 x.1.lo,.int .i64 x.1.hi]] v A
theorem aIM(v:Net)(t:Nat)(x:Com):MemAt (cS v t x) (db v 0 5) (tEs v) 6 5 7:=HV [.cells (netCells v),.cells [.int .i64 t],.cells [.int .i64 x.1.lo,.int .i64 x.1.hi]] v
theorem aIL(v:Net)(t:Nat)(x:Com)(A:List K5)(y:Com)(B:List K5)(k i:Nat)(hk:7<=k)(hi:i<7):fZ (cS v t x A) (cS v t y B) k i:=by
 match i,hi with
 |0,_=>exact .inl rfl
 |1,_=>exact .inl rfl
 |2,_=>exact .inr (.inl ⟨_,rfl,by simp[aF,okVs,okV]⟩)
 |3,_=>exact .inl rfl
 |4,_=>exact .inl rfl
 |5,_=>exact .inr (.inl ⟨_,rfl,wX v B k⟩)
 |6,_=>exact .inl rfl
def aAL(v:Net)(t:Nat)(c:List Int)(x:Com):Com×Bool:=(aBN (comeAt (eH v c) (t:Int)) x,true)
theorem pcomes_ok(v:Net)(hf:Fits v)(n:Int):cV T 184 [encNet v,.int .i64 n] (encSIE (comesR v n)):=by
 refine aR (af:=aAH) rfl (by simp[aAH]) dd ?_;try simp only[↓QA,QB,reduceLT,reduceIte,reduceEqDiff,reduceAdd,reduceLeDiff,reduceMul,Nat.reduceBEq,jT,aAH]
 by_cases h0:m9 v n=0
 ·have hck:(check v).2.2=0/\inR n 0 ((v.trams.length:Int)-1)=true/\truths v []≠[]:=by
   have h1:=h0;by_cases q:(check v).2.2=0
   ·cases q2:inR n 0 ((v.trams.length:Int)-1)
    ·simp[m9,bS,q,q2] at h1
    ·refine⟨q,rfl,fun e=>?_⟩;simp[m9,bS,q,q2,e] at h1
   ·simp[m9,bS,q] at h1
  obtain⟨hc0,hin,hne⟩:=hck;have hv:=vd_of_check hc0;have hnt:=hv.ntr;rw[c9] at hin;obtain⟨t,rfl⟩:∃ t:Nat,n=t:=⟨n.toNat,by omega⟩;have htl:t<v.trams.length:=by omega
  have hmem:=R8 (aGD hv [] t);have hTne:H9 v (TL v []) t≠[]:=by
   intro e;have:TL v []=[]:=by simpa[H9] using e
   have h2:=TT hv [];rw[this] at h2;simp at h2;exact hne h2
  have hst:=OH hTne;have hca:=aGU (H9 v (TL v []) t);have hgo:=A4 (f:=aAL v t) (fun _ _=>rfl) (TL v []) (⟨0,0⟩,false,false);have hfd:(TL v []).foldl (fun x c=>(aAL v t c x).1) (⟨0,0⟩,false,false)=(H9 v (TL v []) t).foldl (fun x a=>aBN a x) (⟨0,0⟩,false,false):=by
   rw[H9,List.foldl_map];rfl
  rw[hfd,hca] at hgo;have hm:comesR v t=((comesS (H9 v (TL v []) t)).1,(comesS (H9 v (TL v []) t)).2,0):=by rw[comesR,if_pos h0,Int.toNat_natCast,hmem]
  obtain⟨AT,hAT⟩:∃ AT,H9 v (TL v []) t=AT:=⟨_,rfl⟩;rw[hAT] at hm hgo hst;have hcs:comesS AT=(gH (fJ AT),fF (fJ AT).length AT.length):=rfl;rw[hcs,hst] at hm;obtain⟨SP,hSP⟩:∃ SP,gH (fJ AT)=SP:=⟨_,rfl⟩;obtain⟨EM,hEM⟩:∃ EM,(fJ AT).isEmpty=EM:=⟨_,rfl⟩;obtain⟨SY,hSY⟩:∃ SY,AT.contains (-1)=SY:=⟨_,rfl⟩;rw[hSP,hEM,hSY] at hgo;rw[hSP,hEM,hSY] at hm;rw[hm];have her:=fun σ=>CL σ v [(t:Int),(v.trams.length:Int)] (.inr ⟨_,rfl⟩) hf h0
  simp only[List.map_nil,List.map_cons] at her;have hrng:=H5 (S:=cS v t) (aIM v t) (aIL v t) (by decide) hv S8 cU cU 2 (fun _=>rfl) (fun _=>rfl) (aJX _) (aJX _) .ret (f:=aAL v t);simp only[cS,nA] at hrng her;simp only[netCells_eq] at hrng her;refine cB (her _) ?_;try simp only[↓QA,QB,reduceLT,reduceIte,reduceEqDiff,reduceAdd,reduceLeDiff,reduceMul,Nat.reduceBEq,jT,show ((0:Int)==0)=true from rfl]
  refine vY rfl (by simp[EJ]) ?_;try simp only[↓QA,QB,reduceLT,reduceIte,reduceEqDiff,reduceAdd,reduceLeDiff,reduceMul,Nat.reduceBEq,jT,EJ]
  refine hrng _ 28 [29,30] _ _ ?_ ?_ (⟨0,0⟩,false,false) (tD v) _ ?_ ?_
  ·try simp only[aB,QE,reduceLT,reduceIte,reduceEqDiff,reduceAdd,reduceLeDiff,reduceMul,Nat.reduceBEq,jT]
  ·refine sL (aIM v t) cU cU 2 (fun _=>rfl) (fun _=>rfl) .ret _ _ (tV v) (fun _ _ _=>rfl) _ _ ?_;intro c _ fl tk x B τ;have i3:(0:Int)<=(t:Int)/\(t:Int)<((3:Nat):Int):=⟨by omega,by omega⟩;have hg:=gO 3 (dA (eH v c)) (i:=t) (by omega);have hcf:dA (eH v c) t=comeAt (eH v c) (t:Int):=rfl;rw[hcf] at hg;have hta:∀ (b0 b1 b2 b3 b4 b5 b6 b7 b8 b9 b10:ABlk),aH (b0::b1::b2::b3::b4::b5::b6::b7::b8::b9::b10::(τ++[.cells (aZ 3 (dA (eH v c)))])) (τ.length+1+1+1+1+1+1+1+1+1+1+1)=some (aZ 3 (dA (eH v c))):=fun b0 b1 b2 b3 b4 b5 b6 b7 b8 b9 b10=>by
    simp only[vF];rw[k7];rfl
   obtain⟨C,hC⟩:∃ C,comeAt (eH v c) (t:Int)=C:=⟨_,rfl⟩;have hcy:aAL v t c x=(if C = -1 then (x.1,x.2.1,true) else if x.2.1=false then (⟨C,C⟩,true,x.2.2) else (kI x.1 C,true,x.2.2),true):=by rw[aAL,hC];rfl
   rw[hC] at hg;rw[hcy];obtain⟨⟨lo,hi⟩,ru,sy⟩:=x;simp only[lD,tV,cS,nA,cU,netCells_eq];try simp only[↓QA,QB,reduceLT,reduceIte,reduceEqDiff,reduceAdd,reduceLeDiff,reduceMul,Nat.reduceBEq,jT]
   refine⟨[.cells (aZ 3 (dA (eH v c)))],by simp,?_⟩;cases q1:(C==-1)
   ·have q1':C≠-1:=by simpa using q1
    rw[if_neg q1'];cases ru
    ·try simp only[↓QA,QB,reduceLT,reduceIte,reduceEqDiff,reduceAdd,reduceLeDiff,reduceMul,Nat.reduceBEq,jT,LE,hta,i3,hg,q1]
     exact .inl ⟨[.cells (aZ 3 (dA (eH v c)))],by simp⟩
    ·try simp only[↓QA,QB,reduceLT,reduceIte,reduceEqDiff,reduceAdd,reduceLeDiff,reduceMul,Nat.reduceBEq,jT,LE,hta,i3,hg,q1]
     exact .inl ⟨[.cells (aZ 3 (dA (eH v c)))],by simp[kI]⟩
   ·have q1':C = -1:=by simpa using q1
    rw[if_pos q1'];try simp only[↓QA,QB,reduceLT,reduceIte,reduceEqDiff,reduceAdd,reduceLeDiff,reduceMul,Nat.reduceBEq,jT,LE,hta,i3,hg,q1]
    exact .inl ⟨[.cells (aZ 3 (dA (eH v c)))],by simp⟩
  ·intro τ h2;rw[hgo];simp only[cU,cS,nA,netCells_eq];cases SY
   ·try simp only[↓QA,QB,reduceLT,reduceIte,reduceEqDiff,reduceAdd,reduceLeDiff,reduceMul,Nat.reduceBEq,jT,encSIE]
    try try simp only[QS,QC,reduceLT,reduceIte,reduceEqDiff,reduceAdd,reduceLeDiff,reduceMul,Nat.reduceBEq,jT]
   ·cases EM
    ·try simp only[↓QA,QB,reduceLT,reduceIte,reduceEqDiff,reduceAdd,reduceLeDiff,reduceMul,Nat.reduceBEq,jT,encSIE,Bool.true_eq_false,Bool.false_eq_true]
     try try simp only[QS,QC,reduceLT,reduceIte,reduceEqDiff,reduceAdd,reduceLeDiff,reduceMul,Nat.reduceBEq,jT]
    ·try simp only[↓QA,QB,reduceLT,reduceIte,reduceEqDiff,reduceAdd,reduceLeDiff,reduceMul,Nat.reduceBEq,jT,encSIE,Bool.true_eq_false,Bool.false_eq_true]
     try try simp only[QS,QC,reduceLT,reduceIte,reduceEqDiff,reduceAdd,reduceLeDiff,reduceMul,Nat.reduceBEq,jT]
  ·intro τ h2;rw[hgo] at h2;cases h2
 ·have h0':(m9 v n==0)=false:=by simpa using h0
  have hm:comesR v n=(⟨0,0⟩,0,m9 v n):=by rw[comesR,if_neg h0]
  have her:=fun σ=>FZ σ v [n,(v.trams.length:Int)] (.inr ⟨n,rfl⟩) hf h0
  simp only[List.map_nil,List.map_cons,aBF] at her;rw[hm];refine cB (her _) ?_;try simp only[↓QA,QB,reduceLT,reduceIte,reduceEqDiff,reduceAdd,reduceLeDiff,reduceMul,Nat.reduceBEq,jT,h0',encSIE]
  try rfl
end Go.Am.Room.Tr
namespace Go.Am.Room.Tr
def kH:=zz @encNet_eq (zz @netCells_eq (zz @encRail_eq (zz @encTram_eq (zz @encSeen_eq (zz @aJ (zz @S_mapRail (zz @S_mapTram (zz @S_mapSeen (zz @bZ (zz @bY (zz @Nat.not_lt_zero (zz @List.length_append.{0} (zz @Nat.zero_add (zz @Nat.mul_one (zz @Int.toNat_natCast (zz @dL (zz @d7 (zz @d6 (zz @iR (zz @d8 (zz @dY (zz @dW (zz @dZ (zz @d4 (zz @d5 (zz @dV (zz @Nat.add_lt_add_iff_left (@Nat.lt_add_right_iff_pos))))))))))))))))))))))))))))
theorem KQ(v:Net)(b m p:Nat)(σ:St)(hσ:aH σ p=some (db v b m))(t:Nat)(ht:t<v.trams.length)(c:Int):eS T (.func 435 [] []) [.ptr p 0,.int .i64 t,.int .i64 c] σ (.bool (mH v t c)):=by
 refine bN (af:=H7) rfl (by simp[H7]) ?_;have hit:=JP (v:=v) (t:=t) (z:=v.trams[t]) (by simp[ht]) c;obtain⟨z,hz⟩:∃ z,v.trams[t]=z:=⟨_,rfl⟩;rw[hz] at hit;have e:decide (c = -1)=(c==-1):=by rw[Bool.eq_iff_iff];simp
 rw[e] at hit;rw[hit];cases h:(c==-1)
 ·try simp only[↓QA,QB,seval,kH,H7,h,hσ,ht,hz]
  refine bU [] (by first|rfl|simp) ?_;try simp only[QS,QC,seval,kH]
 ·try simp only[↓QA,QB,seval,kH,H7,h]
  refine bU [] (by first|rfl|simp) ?_;try simp only[QS,QC,seval,kH,Bool.false_and]
theorem NJ(a b:List Int)(ha:a.length<9223372036854775808)(hb:b.length<9223372036854775808):cV T 325 [ints a,ints b] (.bool (decide (a=b))):=by
 refine aR (af:=WV) rfl (by simp[WV]) dd ?_;by_cases h:a.length=b.length
 ·have g:((a.length:Int)==(b.length:Int))=true:=by simp;omega
  (repeat (first|simp only[↓QA,QB,seval,kH,WV,g]|refine rd0 rfl ?_))
  refine bC (S:=Nat) 0 (fun k=>k<=a.length/\a.take k=b.take k) (fun k=>a.length-k) (fun k=>[(0,ints a),(1,ints b),(12,.int .i64 a.length),(13,.int .i64 k)]) (fun _=>[]) ⟨Nat.zero_le _,by simp⟩ rfl ?_ fun k hk=>?_
  ·try simp only[aB,QE,seval,kH,ints]
   try simp
  ·obtain⟨hk,hq⟩:=hk
   (repeat (first|simp only[↓QA,QB,seval,kH,aAZ]|refine rd0 rfl ?_))
   refine aE (fun hd=>?_) fun hd=>?_
   ·have hk1:k<a.length:=by simpa using hd
    have hk2:k<b.length:=by omega
    have hw:=bD hk1 ha;obtain⟨x,hx⟩:∃ x,a[k]=x:=⟨_,rfl⟩;obtain⟨y,hy⟩:∃ y,b[k]=y:=⟨_,rfl⟩;cases q:(x==y)
    ·have q':x≠y:=by simpa using q
     have hne:decide (a=b)=false:=by
      simp only[decide_eq_false_iff_not];rintro rfl;exact q' (hx.symm.trans hy)
     rw[hne]
     (repeat (first|simp only[↓QA,QB,seval,kH,hk1,hk2,hx,hy,q]|refine rd0 rfl ?_))
    ·have q':x=y:=by simpa using q
     (repeat (first|simp only[↓QA,QB,seval,kH,hk1,hk2,hx,hy,q]|refine rd0 rfl ?_))
     refine⟨k+1,⟨by omega,by rw[List.take_succ_eq_append_getElem hk1,List.take_succ_eq_append_getElem hk2,hq,hx,hy,q']⟩,by omega,?_⟩;try simp only[aB,QE,seval,kH,hw,ints]
     try simp[aF]
   ·have hk1:k=a.length:=by
     have:¬k<a.length:=by simpa using hd
     omega
    rw[hk1,List.take_length,h,List.take_length] at hq;have he:decide (a=b)=true:=by simpa using hq
    rw[he]
    (repeat (first|simp only[↓QA,QB,seval,kH]|refine rd0 rfl ?_))
 ·have g:((a.length:Int)==(b.length:Int))=false:=by simp;omega
  have hne:decide (a=b)=false:=by
   simp only[decide_eq_false_iff_not];rintro rfl;exact h rfl
  rw[hne]
  (repeat (first|simp only[↓QA,QB,seval,kH,WV,g]|refine rd0 rfl ?_))
def mI:Option (List Int)->AV
 |none=>.lit [] true none
 |some l=>ints l
theorem HO(P:List (List Int)):(P.map some).map mI=P.map ints:=by simp[mI]
theorem V6(ps:List (List Int))(pl n k:Nat)(hn:n=ps.length)(σ:St)(h1:aH σ k=some [.ref pl 0 n 1])(h2:aH σ pl=some (ps.map ints))(i:Nat)(hi:i<ps.length):eS T (.func 436 [] [.ptr k 0]) [.int .i64 i] σ (ints (fR ps i)):=by
 refine bN (af:=ZR) rfl (by simp[ZR]) ?_;rw[TW hi];obtain⟨w,hw⟩:∃ w,ps[i]=w:=⟨_,rfl⟩;have i1:(0:Int)<=(i:Int)/\(i:Int)<(n:Int)/\1=1:=⟨by omega,by omega,rfl⟩;rw[hw];try simp only[↓QA,QB,seval,kH,ZR,h1,h2,i1,hi,hw]
 refine bU [] (by first|rfl|simp) ?_;try simp only[QS,QC,seval,kH]
end Go.Am.Room.Tr
namespace Go.Am.Room.Tr
def iE:=zz @encNet_eq (zz @netCells_eq (zz @encRail_eq (zz @encTram_eq (zz @encSeen_eq (zz @aJ (zz @S_mapRail (zz @S_mapTram (zz @S_mapSeen (zz @bZ (zz @bY (zz @Nat.not_lt_zero (zz @List.length_append.{0} (zz @Nat.zero_add (zz @Nat.mul_one (zz @Int.toNat_natCast (zz @dL (zz @d7 (zz @d6 (zz @iR (zz @d8 (zz @dY (zz @dW (zz @dZ (zz @d4 (zz @d5 (zz @dV (zz @Nat.add_lt_add_iff_left (zz @Nat.lt_add_right_iff_pos (zz @nX (@nZ))))))))))))))))))))))))))))))
def LA(v:Net)(ps:List (List Int))(c:List Int)(x:Unit):Unit×Bool:=(x,MF v ps c)
theorem OV(v:Net)(ps:List (List Int)):∀ l:List (List Int),(bE (LA v ps) l ()).2=l.all (MF v ps)
 |[]=>rfl
 |c::l=>by
  have ih:=OV v ps l;rw[List.all_cons];by_cases h:MF v ps c=true
  ·have:bE (LA v ps) (c::l) ()=bE (LA v ps) l ():=by simp only[bE,LA];exact if_pos h
   rw[this,h,Bool.true_and,ih]
  ·have:bE (LA v ps) (c::l) ()=((),false):=by simp only[bE,LA];exact if_neg h
   rw[this];rw[Bool.not_eq_true] at h;rw[h];rfl
def HE(v:Net)(ps:List (List Int))(A:List K5):List K5:=(gY v [] (LA v ps) () A).1.2
def doU(p pl n:Nat)(_:Unit):St:=[.cells [.ptr p 0],.cells [.ref pl 0 n 1],.cells [.bool false]]
theorem VG{S:List K5->St}{v:Net}{b p m N:Nat}(hR:MemAt S (db v b m) (tEs v) p m N)(hv:Vd v)(ps:List (List Int))(hps:RunOk v ps)(pl:Nat)(hpl:∀ A,aH (S A) pl=some (ps.map ints))(hplN:pl<N)(c:List Int)(hcl:c.length=v.rails.length)(hcm:HI v (rlI c))(B:List K5)(lp:ABlk)(τ:St)(e:Env)(e2:Env.get e 2 = .ptr N 0)(e3:Env.get e 3 = .ptr (N+1) 0)(e4:Env.get e 4 = .ptr (N+2) 0)(e5:Env.get e 5 = .ptr (N+(τ.length+1+1+1+1+1)) 0):
  wp T P9 e (S B++(doU p pl v.trams.length ()++(.cells [.ptr p 0]::lp::(τ++[.cells (aZ 5 (rl c))])))) (fun j e'' σ''=>(sU v (lP v ps (rlI c)) v.trams.length=true/\j=none/\∃ τ',σ''=S B++(doU p pl v.trams.length ()++(.cells [.ptr p 0]::lp::(τ++τ')))) \/
   (sU v (lP v ps (rlI c)) v.trams.length=false/\j=some .ret/\∃ τ',σ''=S B++(doU p pl v.trams.length ()++(.cells [.ptr p 0]::lp::(τ++τ'))))):=by
 have hnt:=hv.ntr;have hpN:=hR.pl;have hlen:=hps.len;have hta:∀ (b0 b1 b2 b3 b4:ABlk) (cs:List AV) (τ2:St),aH (S B++(b0::b1::b2::b3::b4::(τ++(.cells cs::τ2)))) (N+(τ.length+1+1+1+1+1))=some cs:=fun b0 b1 b2 b3 b4 cs τ2=>by
  rw[hR.base];simp only[vF];rw[k7];rfl
 have htb:∀ (b0 b1 b2 b3 b4 b5:ABlk) (cs:List AV) (τ2:St),aH (S B++(b0::b1::b2::b3::b4::(τ++(b5::.cells cs::τ2)))) (N+(τ.length+1+1+1+1+1+1))=some cs:=fun b0 b1 b2 b3 b4 b5 cs τ2=>by
  rw[hR.base];simp only[vF];have:τ++(b5::.cells cs::τ2)=(τ++[b5])++(.cells cs::τ2):=by simp
  rw[this,show τ.length+1=(τ++[b5]).length by simp,k7];rfl
 have hrun:∀ (σ:St) (k:Nat),aH σ p=some (db v b m)->aH σ pl=some (ps.map ints)->aH σ k=some [.ref pl 0 v.trams.length 1]->eS T (.func 433 [] []) [.ptr p 0,.agg (aZ 5 (rl c)),.func 436 [] [.ptr k 0]] σ (.agg (aZ 3 (dA (lP v ps (rlI c))))):=fun σ k h1 h2 h3=>by
  have hkl:=mJ h3
  exact OM v hv b m p σ h1 (mJ h1) _ (fun τ n hn=>by
   try simp only[QS,QC,reduceLT,reduceIte,reduceEqDiff,reduceAdd,reduceLeDiff,reduceMul,Nat.reduceBEq,iE,hR.len,hR.base,hR.base0,hR.bset,hR.bset0,hR.at1,hR.at0,MC]
   simp[show k<n by omega]) ps hps (fun i hi τ=>V6 ps pl v.trams.length k hlen.symm _ (iI h3 τ) (iI h2 τ) i (by omega)) (rl c) (rlI c) (aDF c) hcm
 have hcc:(lP v ps (rlI c)).length=v.trams.length:=run_len _ _ _ _;obtain⟨CS,hCS⟩:∃ CS,lP v ps (rlI c)=CS:=⟨_,rfl⟩;simp only[hCS] at hrun;rw[hCS] at hcc;rw[hCS];have hplS:∀ τ,aH (S B++τ) pl=some (ps.map ints):=fun τ=>iI (hpl B) τ
 have hk3:∀ (b0 b2 b3 b4:ABlk) (cs:List AV) (τ2:St),aH (S B++(b0::.cells cs::b2::τ2)) (N+1)=some cs:=fun b0 b2 b3 b4 cs τ2=>by rw[hR.base];rfl
 simp only[doU]
 (repeat (first|simp only[↓QA,QB,reduceLT,reduceIte,reduceEqDiff,reduceAdd,reduceLeDiff,reduceMul,Nat.reduceBEq,iE,hR.len,hR.base,hR.base0,hR.bset,hR.bset0,hR.at1,hR.at0,P9,hta,e2,e3,e4,e5]|refine rd0 rfl ?_))
 refine aS (hrun _ (N+1) (hR.at1 _ _) (hplS _) (by rw[hR.base];rfl)) ?_
 (repeat (first|simp only[↓QA,QB,reduceLT,reduceIte,reduceEqDiff,reduceAdd,reduceLeDiff,reduceMul,Nat.reduceBEq,iE,hR.len,hR.base,hR.base0,hR.bset,hR.bset0,hR.at1,hR.at0,hta,htb,e2,e3,e4,e5]|refine rd0 rfl ?_))
 refine bC (S:=Nat) 0 (fun k=>k<=v.trams.length/\sU v CS k=true) (fun k=>v.trams.length-k)
  (fun k=>[(2,.ptr N 0),(4,.ptr (N+2) 0),(6,.ptr (N+(τ.length+1+1+1+1+1+1)) 0),(21,.int .i64 v.trams.length),(22,.int .i64 k)])
  (fun k=>S B++(.cells [.ptr p 0]::.cells [.ref pl 0 v.trams.length 1]::.cells [.bool false]::.cells [.ptr p 0]::lp::(τ++[.cells (aZ 5 (rl c)),.cells (aZ 3 (dA CS))]))) ⟨Nat.zero_le _,rfl⟩ rfl ?_ fun k hk=>?_
 ·try simp only[aB,QE,reduceLT,reduceIte,reduceEqDiff,reduceAdd,reduceLeDiff,reduceMul,Nat.reduceBEq,iE,hR.len,hR.base,hR.base0,hR.bset,hR.bset0,hR.at1,hR.at0,e2,e4]
  try simp
 ·obtain⟨hk,hf⟩:=hk
  (repeat (first|simp only[↓QA,QB,reduceLT,reduceIte,reduceEqDiff,reduceAdd,reduceLeDiff,reduceMul,Nat.reduceBEq,iE,hR.len,hR.base,hR.base0,hR.bset,hR.bset0,hR.at1,hR.at0,aD9]|refine rd0 rfl ?_))
  refine aE (fun hd=>?_) fun hd=>?_
  ·have hk1:k<v.trams.length:=by simpa using hd
   have hw:=bD hk1 (by omega);have hsu:=N8 v CS k;rw[hf,Bool.true_and] at hsu;have i3:(0:Int)<=(k:Int)/\(k:Int)<((3:Nat):Int):=⟨by omega,by omega⟩;have hg:=gO 3 (dA CS) (i:=k) (by omega);have hin:=fun σ (hσ:aH σ p=some (db v b m))=>KQ v b m p σ hσ k hk1 (dA CS k)
   have hfe:mH v k (dA CS k)=mH v k (comeAt CS (k:Int)):=rfl
   (repeat (first|simp only[↓QA,QB,reduceLT,reduceIte,reduceEqDiff,reduceAdd,reduceLeDiff,reduceMul,Nat.reduceBEq,iE,hR.len,hR.base,hR.base0,hR.bset,hR.bset0,hR.at1,hR.at0,htb,i3,hg]|refine rd0 rfl ?_))
   refine kT (hin _ (hR.at1 _ _)) ?_;rw[hfe];cases hq:mH v k (comeAt CS (k:Int))
   ·rw[hq] at hsu;have hff:=UR hsu (show k+1<=v.trams.length by omega);rw[hff]
    (repeat (first|simp only[↓QA,QB,reduceLT,reduceIte,reduceEqDiff,reduceAdd,reduceLeDiff,reduceMul,Nat.reduceBEq,iE,hR.len,hR.base,hR.base0,hR.bset,hR.bset0,hR.at1,hR.at0,htb,i3,hg]|refine rd0 rfl ?_))
    exact .inr ⟨[.cells (aZ 5 (rl c)),.cells (aZ 3 (dA CS))],by simp⟩
   ·rw[hq] at hsu
    (repeat (first|simp only[↓QA,QB,reduceLT,reduceIte,reduceEqDiff,reduceAdd,reduceLeDiff,reduceMul,Nat.reduceBEq,iE,hR.len,hR.base,hR.base0,hR.bset,hR.bset0,hR.at1,hR.at0,htb,i3,hg]|refine rd0 rfl ?_))
    refine⟨k+1,⟨by omega,hsu⟩,by omega,?_⟩;try simp only[aB,QE,reduceLT,reduceIte,reduceEqDiff,reduceAdd,reduceLeDiff,reduceMul,Nat.reduceBEq,iE,hR.len,hR.base,hR.base0,hR.bset,hR.bset0,hR.at1,hR.at0,hw,hR.eqS]
    try simp[aF,okVs,okV]
    try omega
  ·have hk1:k=v.trams.length:=by
    have:¬k<v.trams.length:=by simpa using hd
    omega
   rw[hk1] at hf;rw[hf]
   (repeat (first|simp only[↓QA,QB,reduceLT,reduceIte,reduceEqDiff,reduceAdd,reduceLeDiff,reduceMul,Nat.reduceBEq,iE,hR.len,hR.base,hR.base0,hR.bset,hR.bset0,hR.at1,hR.at0]|refine rd0 rfl ?_))
   exact .inl ⟨[.cells (aZ 5 (rl c)),.cells (aZ 3 (dA CS))],by simp⟩
theorem VF{S:List K5->St}{v:Net}{b p m N:Nat}(hR:MemAt S (db v b m) (tEs v) p m N)(hv:Vd v)(hb:ButIs b [])(ps:List (List Int))(hps:RunOk v ps)(pl:Nat)(hpl:∀ A,aH (S A) pl=some (ps.map ints))(hplN:pl<N)(A:List K5):
  yK T (.func 324 [] []) [.ptr p 0,.ref pl 0 v.trams.length 1] (S A) (.bool (rM v ps)) (S (HE v ps A)):=by
 have hnt:=hv.ntr;have hpN:=hR.pl;have hlen:=hps.len;have hit:=OV v ps (TL v []);have hok:∀ (x:Unit) (y:ABlk),y∈doU p pl v.trams.length x->∀ k,N<=k->aF k y:=by
  intro x y hy k hk;simp only[doU,List.mem_cons,List.not_mem_nil,or_false] at hy;rcases hy with rfl|rfl|rfl<;>simp[aF,okVs,okV]<;>omega
 refine CR hR (af:=YI) rfl (by simp[YI]) ?_;have hrg:=pN hR hv hb (doU p pl v.trams.length) (doU p pl v.trams.length) 3 (fun _=>rfl) (fun _=>rfl) hok hok .ret (f:=LA v ps);try simp only[↓QA,QB,seval,iE,hR.len,hR.base,hR.base0,hR.bset,hR.bset0,hR.at1,hR.at0,YI]
 refine vY rfl (by simp[EJ]) ?_;try simp only[↓QA,QB,seval,iE,hR.len,hR.base,hR.base0,hR.bset,hR.bset0,hR.at1,hR.at0,EJ]
 refine hrg _ 9 [10,11] _ _ ?_ ?_ () A _ ?_ ?_
 ·try simp only[aB,QE,seval,iE,hR.len,hR.base,hR.base0,hR.bset,hR.bset0,hR.at1,hR.at0]
 ·refine sL (S:=fun _=>S) (fun _=>hR) (doU p pl v.trams.length) (doU p pl v.trams.length) 3 (fun _=>rfl) (fun _=>rfl) .ret _ _ (tV v) (fun _ _ _=>rfl) _ _ ?_;intro c hc fl tk x B τ;obtain⟨hcl,hcm⟩:=hc.1;simp only[lD,tV,doU];have hfin:LA v ps c x=((),sU v (lP v ps (rlI c)) v.trams.length):=rfl;rw[hfin];have db:=fun lp e=>VG hR hv ps hps pl hpl hplN c hcl hcm B lp τ e
  simp only[doU] at db;try simp only[↓QA,QB,seval,iE,hR.len,hR.base,hR.base0,hR.bset,hR.bset0,hR.at1,hR.at0]
  refine⟨[.cells (aZ 5 (rl c))],by simp,?_⟩;refine db _ _ ?_ ?_ ?_ ?_;all_goals try simp only[aB,QE,seval,iE,hR.len,hR.base,hR.base0,hR.bset,hR.bset0,hR.at1,hR.at0]
 ·intro τ h2;rw[hit] at h2;have h3:rM v ps=true:=h2;rw[h3];simp only[doU];try simp only[↓QA,QB,seval,iE,hR.len,hR.base,hR.base0,hR.bset,hR.bset0,hR.at1,hR.at0]
  refine⟨_,_,rfl,rfl,?_⟩;try simp only[QS,QC,seval,iE,hR.len,hR.base,hR.base0,hR.bset,hR.bset0,hR.at1,hR.at0]
 ·intro τ h2;rw[hit] at h2;have h3:rM v ps=false:=h2;rw[h3];simp only[doU];try simp only[↓QA,QB,seval,iE,hR.len,hR.base,hR.base0,hR.bset,hR.bset0,hR.at1,hR.at0]
  refine⟨_,_,rfl,rfl,?_⟩;try simp only[QS,QC,seval,iE,hR.len,hR.base,hR.base0,hR.bset,hR.bset0,hR.at1,hR.at0]
abbrev PS:=List (Option (List Int))×List K5
def TS(l:List (Option (List Int))):List (List Int):=l.map fun o=>o.getD []
theorem JM(P:List (List Int)):TS (P.map some)=P:=by
 rw[TS,List.map_map];exact List.map_id P
def EF(v:Net)(rec:Nat->PS->Bool×PS)(t left:Nat):List (List Int)->PS->Bool×PS
 |[],y=>(false,y)
 |w::ws,y =>
  if jJ v t w<=left then (if (rec (left-jJ v t w) (y.1.set t (some w),y.2)).1=true then rec (left-jJ v t w) (y.1.set t (some w),y.2) else EF v rec t left ws (rec (left-jJ v t w) (y.1.set t (some w),y.2)).2)
  else EF v rec t left ws (y.1.set t (some w),y.2)
def fnd(v:Net):Nat->Nat->Nat->PS->Bool×PS
 |0,_,left,y=>if left=0 then (rM v (TS y.1),(y.1,HE v (TS y.1) y.2)) else (false,y)
 |k+1,t,left,y=>EF v (fun left y=>fnd v k (t+1) left y) t left (eX v (iP v t) []) y
structure Fnd (v:Net) (p:List (List Int)) (t k:Nat) (y:PS):Prop where
 len:y.1.length=t+k
 pre:y.1.take t=p.map some
theorem vP{y:List (Option (List Int))}{t:Nat}{p:List (List Int)}{w:List Int}(h1:y.take t=p.map some)(h2:t<y.length):(y.set t (some w)).take (t+1)=(p++[w]).map some:=by
 have hl:(y.set t (some w)).length=y.length:=by simp
 rw[List.take_succ_eq_append_getElem (by rw[hl];exact h2)];simp[List.take_set_of_le,h1]
theorem E8(v:Net):∀ (k t left:Nat) (y:PS) (p:List (List Int)),p.length=t->Fnd v p t k y ->
  ((fnd v k t left y).1=(dfs v (rM v) k p left).isSome)/\(∀ P,dfs v (rM v) k p left=some P->(fnd v k t left y).2.1=P.map some)/\Fnd v p t k (fnd v k t left y).2
 |0,t,left,y,p,hp,hy=>by
  have hl:y.1=p.map some:=by
   rw[<-hy.pre,List.take_of_length_le (by rw[hy.len];omega)]
  simp only[fnd,dfs];by_cases h0:left=0
  ·rw[if_pos h0,hl,JM];subst h0;simp only[decide_true,Bool.true_and];cases hd:rM v p
   ·exact⟨rfl,fun P h=>(by cases h),⟨by rw[<-hl];exact hy.len,by simp only;rw[<-hl];exact hy.pre.trans hl.symm⟩⟩
   ·refine⟨rfl,fun P h=>?_,⟨by rw[<-hl];exact hy.len,by simp only;rw[<-hl];exact hy.pre.trans hl.symm⟩⟩;simp only[if_true,Option.some.injEq] at h;rw[h]
  ·rw[if_neg h0];simp only[h0,decide_false,Bool.false_and,Bool.false_eq_true,if_false];exact⟨rfl,fun P h=>(by cases h),hy⟩
 |k+1,t,left,y,p,hp,hy=>by
  simp only[fnd,dfs,hp];have key:∀ (ws:List (List Int)) (y:PS),Fnd v p t (k+1) y ->
    ((EF v (fun left y=>fnd v k (t+1) left y) t left ws y).1=(ws.findSome? fun w=>if jJ v t w<=left then dfs v (rM v) k (p++[w]) (left-jJ v t w) else none).isSome) /\
    (∀ P,(ws.findSome? fun w=>if jJ v t w<=left then dfs v (rM v) k (p++[w]) (left-jJ v t w) else none)=some P->(EF v (fun left y=>fnd v k (t+1) left y) t left ws y).2.1=P.map some)/\Fnd v p t (k+1) (EF v (fun left y=>fnd v k (t+1) left y) t left ws y).2:=by
   intro ws
   induction ws with
   |nil=>intro y hy;exact⟨rfl,fun P h=>(by cases h),hy⟩
   |cons w ws ih =>
    intro y hy;have hlt:t<y.1.length:=by have:=hy.len;omega
    have hset:Fnd v (p++[w]) (t+1) k (y.1.set t (some w),y.2):=⟨by have:=hy.len;simp;omega,vP hy.pre hlt⟩
    have hset2:Fnd v p t (k+1) (y.1.set t (some w),y.2):=⟨by have:=hy.len;simp;omega,by
     rw[<-hy.pre];simp[List.take_set_of_le]⟩
    simp only[EF,List.findSome?_cons];by_cases ho:jJ v t w<=left
    ·rw[if_pos ho,if_pos ho];obtain⟨a,b,c⟩:=E8 v k (t+1) (left-jJ v t w) (y.1.set t (some w),y.2) (p++[w]) (by simp[hp]) hset;obtain⟨R,hR⟩:∃ R,fnd v k (t+1) (left-jJ v t w) (y.1.set t (some w),y.2)=R:=⟨_,rfl⟩;rw[hR] at a b c ⊢
     have c':Fnd v p t (k+1) R.2:=⟨by have:=c.len;omega,by
      have h1:=congrArg (List.take t) c.pre;rw[List.take_take,show min t (t+1)=t by omega] at h1;rw[h1,List.map_append]
      exact List.take_left' (by simp[hp])⟩
     cases hd:dfs v (rM v) k (p++[w]) (left-jJ v t w) with
     |some P =>
      rw[hd] at a b;rw[a];simp only[Option.isSome_some,if_true];exact⟨a,fun Q h=>by rw[<-(Option.some.inj h)];exact b P rfl,c'⟩
     |none =>
      rw[hd] at a;rw[a];simp only[Option.isSome_none,Bool.false_eq_true,if_false];exact ih R.2 c'
    ·rw[if_neg ho,if_neg ho];exact ih _ hset2
  exact key _ y hy
end Go.Am.Room.Tr
set_option maxRecDepth 4000
namespace Go.Am.Room.Tr
structure Vary {Y:Type} (S:Y->St) (N:Nat):Prop where
 len:∀ y,(S y).length=N
 keep:∀ y z i,i<N->fZ (S y) (S z) N i
 eqS:∀ k,N<=k->∀ y z a b c,EqS k (S y++a) (S z++b) (S z++c)=EqS k a b c
theorem JI{Y:Type}{S:Y->St}{N:Nat}(hV:Vary S N){f:FuncId}{first cap args:List AV}{af:AFunc}{v:AV}{y z:Y}(hf:T f=some af)(hn:(first++args++cap).length<=af.ntmps)(h:wp T af.body (iG 0 (first++args++cap)) (S y) (fun j e σ1=>(j=none\/j=some .ret)/\∃ v0 τ,jK af.results e σ1=some v0/\σ1=S z++τ/\cQ σ1 N 20 v0=some v)):yK T (.func f first cap) args (S y) v (S z):=by
 refine .callf (.call hf hn (gS h fun o ho=>ho) fun o ho=>?_);obtain⟨hj,v0,τ,hres,hσ,h4⟩:=ho;refine⟨hj,v0,hres,?_⟩;unfold cQ at h4;cases hs:snap o.σ N 20 v0 with
 |none=>rw[hs] at h4;cases h4
 |some v1 =>
  rw[hs] at h4;simp at h4;refine .inr ⟨20,v1,v,by rw[hV.len];exact hs,.inr h4.symm,fun i hi=>?_,?_,rfl,?_⟩
  ·rw[hσ];rw[hV.len] at hi ⊢;have:=hV.keep y z i hi;have e2:(S z++τ)[i]? = (S z)[i]?:=List.getElem?_append_left (by rw[hV.len];exact hi);simp only[fZ,e2] at this ⊢;exact this
  ·rw[hσ,List.length_append,hV.len,hV.len];omega
  ·rw[hσ,hV.len,<-hV.len z,List.take_left]
end Go.Am.Room.Tr
set_option maxRecDepth 8000
namespace Go.Am.Room.Tr
def eO:=zz @encNet_eq (zz @netCells_eq (zz @encRail_eq (zz @encTram_eq (zz @encSeen_eq (zz @aJ (zz @S_mapRail (zz @S_mapTram (zz @S_mapSeen (zz @bZ (zz @bY (zz @Nat.not_lt_zero (zz @List.length_append.{0} (zz @Nat.zero_add (zz @Nat.mul_one (zz @Int.toNat_natCast (zz @Nat.add_lt_add_iff_left (@Nat.lt_add_right_iff_pos)))))))))))))))))
def tE(v:Net)(n:Nat):List AV:=(List.range n).map fun t=>aY (eX v (iP v t) [])
theorem aD1(v:Net){n t:Nat}(h:t<n):(tE v n)[t]? = some (aY (eX v (iP v t) [])):=by simp[tE,h]
theorem BW(l:List (Option (List Int)))(m:Nat):okVs m (l.map mI):=by
 induction l with
 |nil=>trivial
 |cons o l ih =>
  refine⟨?_,ih⟩;cases o with
  |none=>simp[mI,okV,okVs]
  |some w=>exact xN (iT w) m
theorem VL(l:List (Option (List Int))){t:Nat}(h:t<l.length)(w:List Int):(l.map mI).take t++[AV.lit (w.map (.int .i64)) false none]++(l.map mI).drop (t+1)=(l.set t (some w)).map mI:=by
 rw[List.map_set,List.set_eq_take_append_cons_drop,if_pos (by simpa using h)];simp[mI,ints]
def aC5:AV:=.func 323 [] [.ptr 10 0,.ptr 5 0,.ptr 7 0,.ptr 0 0,.ptr 11 0]
theorem kE:aC5 = .func 323 [] [.ptr 10 0,.ptr 5 0,.ptr 7 0,.ptr 0 0,.ptr 11 0]:=by simp only[aC5]
def mvS(v:Net)(y:PS):St:=[.cells (netCells v),.cells (netCells v),.cells (netCells v),.map (tEs v y.2),.cells (db v 0 3),.cells [.ptr 4 0],.cells (tE v v.trams.length),.cells [.ref 6 0 v.trams.length 1],.tok 1 0 false,.cells (y.1.map mI),.cells [.ref 9 0 v.trams.length 1],.cells [aC5]]
theorem aLV(v:Net)(l:List (Option (List Int))):MemAt (fun A=>mvS v (l,A)) (db v 0 3) (tEs v) 4 3 12 :=
 ⟨fun M=>rfl,fun M=>rfl,fun M=>rfl,fun M M'=>rfl,fun A k=>wX v A k,by omega,by omega⟩
theorem OJ(v:Net):Vary (mvS v) 12 where
 len:=fun y=>rfl
 keep:=fun y z i hi=>by
  match i,hi with
  |0,_=>exact .inl rfl
  |1,_=>exact .inl rfl
  |2,_=>exact .inl rfl
  |3,_=>exact .inr (.inl ⟨_,rfl,wX v z.2 _⟩)
  |4,_=>exact .inl rfl
  |5,_=>exact .inl rfl
  |6,_=>exact .inl rfl
  |7,_=>exact .inl rfl
  |8,_=>exact .inl rfl
  |9,_=>exact .inr (.inl ⟨_,rfl,BW z.1 _⟩)
  |10,_=>exact .inl rfl
  |11,_=>exact .inl rfl
 eqS:=fun k hk y z a b c=>by
  have h1:=wX v z.2 k;have h2:aF k (.cells (z.1.map mI)):=BW z.1 k;simp only[mvS,List.cons_append,List.nil_append,EqS,h1,h2,or_true,true_or,true_and,and_self]
theorem DM(v:Net)(hv:Vd v):∀ (k t left:Nat) (y:PS) (p:List (List Int)),t+k=v.trams.length->left<=10->p.length=t->Fnd v p t k y->(∀ w∈p,w.length<=4/\∀ r∈w,0<=r/\r<v.rails.length) ->
  yK T aC5 [.int .i64 t,.int .i64 left] (mvS v y) (.bool (fnd v k t left y).1) (mvS v (fnd v k t left y).2)
 |0,t,left,y,p,hn,hleft,hp,hF,hpin=>by
  have hnt:=hv.ntr;have hl:y.1=p.map some:=by rw[<-hF.pre,List.take_of_length_le (by rw[hF.len];omega)]
  have hro:RunOk v p:=⟨by omega,fun w hw=>(hpin w hw).1,fun w hw=>(hpin w hw).2⟩;have hE:((t:Int)==(v.trams.length:Int))=true:=by simp;omega
  obtain⟨l,A⟩:=y;simp only at hl;subst hl;have hdo:=VF (aLV v (p.map some)) hv S8 p hro 9 (fun A=>by show some _=_;rw[HO]) (by omega) A;have hr:fnd v 0 t left (p.map some,A)=if left=0 then (rM v p,(p.map some,HE v p A)) else (false,(p.map some,A)):=by simp only[fnd,JM]
  refine JI (OJ v) (af:=LU) rfl (by simp[LU]) ?_;rw[hr];cases h0:((left:Int)==0)
  ·have h0':¬left=0:=by simp at h0;omega
   rw[if_neg h0'];simp only[mvS,kE];try simp only[↓QA,QB,seval,eO,LU,hE,h0]
   exact⟨_,[],rfl,by simp,by try simp only[QS,QC,seval,eO]⟩
  ·have h0':left=0:=by simp at h0;omega
   rw[if_pos h0'];simp only[mvS,kE] at hdo ⊢;try simp only[↓QA,QB,seval,eO] at hdo
   try simp only[↓QA,QB,seval,eO,LU,hE,h0]
   refine cB hdo ?_;try simp only[↓QA,QB,seval,eO]
   exact⟨_,[],rfl,by simp,by try simp only[QS,QC,seval,eO]⟩
 |k+1,t,left,y,p,hn,hleft,hp,hF,hpin0=>by
  have hnt:=hv.ntr;have hok1:∀ A,aF 12 (.map (tEs v A)):=fun A=>wX v A 12
  have hok2:∀ l:List (Option (List Int)),aF 12 (.cells (l.map mI)):=fun l=>BW l 12
  have htt:t<v.trams.length:=by omega
  have hE:((t:Int)==(v.trams.length:Int))=false:=by simp;omega
  obtain⟨z,hz⟩:∃ z,v.trams[t]=z:=⟨_,rfl⟩;have hpth:fR (lL v) t=z.path:=by rw[P1 htt,hz]
  have hzl:=(DN hv htt).len;rw[hz] at hzl;have hfr:=KW htt;rw[hz] at hfr;have hwg:=aD1 v (n:=v.trams.length) htt;have hwi:∀ w∈eX v (iP v t) [],w.length<=4/\∀ r∈w,0<=r/\r<v.rails.length:=fun w hw=>K9 hw
  have hwc:=N0 (v:=v) (by have:=hv.nra;omega) (iP v t) [];have hr:fnd v (k+1) t left y=EF v (fun left y=>fnd v k (t+1) left y) t left (eX v (iP v t) []) y:=rfl;obtain⟨W,hW⟩:∃ W,eX v (iP v t) []=W:=⟨_,rfl⟩;rw[hW] at hwg hwc hr;simp only[hW] at hwi;obtain⟨R,hR⟩:∃ R,fnd v (k+1) t left y=R:=⟨_,rfl⟩;rw[hR] at hr;have hr':EF v (fun left y=>fnd v k (t+1) left y) t left (W.drop 0) y=R:=hr.symm;have iA:(0:Int)<=(t:Int)/\(t:Int)<(v.trams.length:Int)/\1=1:=⟨by omega,by omega,rfl⟩;have hwt:IntKind.i64.wrap ((t:Int)+1)=((t+1:Nat):Int):=bD htt (by omega);refine JI (OJ v) (af:=LU) rfl (by simp[LU]) ?_;rw[hR];simp only[mvS,kE];try simp only[↓QA,QB,seval,eO,LU,hE,iA,hwg,cT]
  refine bC (S:=Nat×PS) (0,y) (fun a=>a.1<=W.length/\Fnd v p t (k+1) a.2/\EF v (fun left y=>fnd v k (t+1) left y) t left (W.drop a.1) a.2=R) (fun a=>W.length-a.1)
   (fun a=>[(0,.int .i64 t),(1,.int .i64 left),(2,.ptr 10 0),(5,.ptr 0 0),(6,.ptr 11 0),(27,aY W),(28,.int .i64 W.length),(29,.int .i64 a.1)])
   (fun a=>mvS v a.2) ⟨Nat.zero_le _,hF,hr'⟩ (by simp[mvS,kE,netCells,ints]) ?_ fun a ha=>?_
  ·try simp only[aB,QE,seval,eO,cT]
   try simp
  ·obtain⟨j,y⟩:=a;obtain⟨hj,hF,hR⟩:=ha;simp only at hj hF hR;have hlt:t<y.1.length:=by have:=hF.len;omega
   simp only[mvS,kE];try simp only[↓QA,QB,seval,eO,aCZ,cT]
   refine aE (fun hd=>?_) fun hd=>?_
   ·have hj1:j<W.length:=by simpa using hd
    have hwj:=bD hj1 (by omega);rw[List.drop_eq_getElem_cons hj1,EF] at hR;have hwl:=hwi _ (List.getElem_mem hj1);obtain⟨w,hw⟩:∃ w,W[j]=w:=⟨_,rfl⟩;rw[hw] at hR hwl;have hpin:∀ u∈p++[w],u.length<=4/\∀ r∈u,0<=r/\r<v.rails.length:=fun u hu=>by
     rcases List.mem_append.1 hu with hu|hu
     ·exact hpin0 u hu
     ·simp only[List.mem_singleton] at hu;subst hu;exact hwl
    have hss:=VL y.1 hlt w;have i8:(0:Int)<=(t:Int)/\(t:Int)<(v.trams.length:Int)/\1=1:=iA;have c8:t+1<=y.1.length:=hlt;have hot:jJ v t w=if w=z.path then 0 else 1:=by rw[jJ,hpth]
    have heq:=NJ w z.path (by omega) (by omega);simp only[tW] at heq;try simp only[↓QA,QB,seval,eO,hj1,hw,htt,hz,cT]
    (refine aD (heq) rfl dd ?_;try simp only[↓QA,QB,seval,eO,hj1,hw,htt,hz,cT])
    cases q:decide (w=z.path)
    ·have q':¬w=z.path:=by simpa using q
     rw[if_neg q'] at hot;rw[hot] at hR;simp only[Bool.not_false,tI];by_cases hl1:1<=left
     ·have hlo:IntKind.i64.wrap ((left:Int)-1)=((left-1:Nat):Int):=(bM ⟨by omega,by omega⟩).trans (by omega);have hle:decide ((1:Int)<=(left:Int))=true:=decide_eq_true (by omega);have hrec:=DM v hv k (t+1) (left-1) (y.1.set t (some w),y.2) (p++[w]) (by omega) (by omega) (by simp[hp]) ⟨by have:=hF.len;simp;omega,vP hF.pre hlt⟩ hpin;rw[if_pos (show 1<=left by omega)] at hR;obtain⟨Q,hQ⟩:∃ Q,fnd v k (t+1) (left-1) (y.1.set t (some w),y.2)=Q:=⟨_,rfl⟩;rw[hQ] at hrec hR;have hFQ:Fnd v p t (k+1) Q.2:=by
       have:=(E8 v k (t+1) (left-1) (y.1.set t (some w),y.2) (p++[w]) (by simp[hp]) ⟨by have:=hF.len;simp;omega,vP hF.pre hlt⟩).2.2;rw[hQ] at this;refine⟨by have:=this.len;omega,?_⟩;have h1:=congrArg (List.take t) this.pre;rw[List.take_take,show min t (t+1)=t by omega] at h1;rw[h1,List.map_append];exact List.take_left' (by simp[hp])
      obtain⟨Qb,Qy⟩:=Q;simp only[mvS,kE] at hrec;simp only at hR hFQ hrec;try simp only[↓QA,QB,seval,eO] at hrec
      try simp only[↓QA,QB,seval,eO,q,i8,c8,hss,hle,hwt,hlo,hj1,hw,htt,hz,cT]
      refine cB hrec ?_;cases Qb
      ·simp only[Bool.false_eq_true,if_false] at hR;try simp only[↓QA,QB,seval,eO,hwj]
       refine⟨(j+1,Qy),⟨by simp only;omega,hFQ,hR⟩,by simp only;omega,?_⟩;try simp only[aB,QE,seval,eO,hwj,cT]
       try simp only[hok1,hok2,or_true,true_or,and_self,true_and]
      ·simp only[if_true] at hR;subst hR;try simp only[↓QA,QB,seval,eO]
       exact⟨_,[],rfl,by simp[mvS,kE],by try simp only[QS,QC,seval,eO]⟩
     ·have hle:decide ((1:Int)<=(left:Int))=false:=by simp;omega
      rw[if_neg hl1] at hR;try simp only[↓QA,QB,seval,eO,q,i8,c8,hss,hle,hwj]
      refine⟨(j+1,(y.1.set t (some w),y.2)),⟨by simp only;omega,⟨by have:=hF.len;simp;omega,by rw[<-hF.pre];simp[List.take_set_of_le]⟩,hR⟩,by simp only;omega,?_⟩;try simp only[aB,QE,seval,eO,hwj,cT]
      try simp only[hok1,hok2,or_true,true_or,and_self,true_and]
    ·have q':w=z.path:=by simpa using q
     rw[if_pos q'] at hot;rw[hot] at hR;simp only[Bool.not_true,uS];have hlo:IntKind.i64.wrap ((left:Int)-0)=((left-0:Nat):Int):=(bM ⟨by omega,by omega⟩).trans (by omega);have hle:decide ((0:Int)<=(left:Int))=true:=decide_eq_true (by omega);have hrec:=DM v hv k (t+1) (left-0) (y.1.set t (some w),y.2) (p++[w]) (by omega) (by omega) (by simp[hp]) ⟨by have:=hF.len;simp;omega,vP hF.pre hlt⟩ hpin;rw[if_pos (show 0<=left by omega)] at hR;obtain⟨Q,hQ⟩:∃ Q,fnd v k (t+1) (left-0) (y.1.set t (some w),y.2)=Q:=⟨_,rfl⟩;rw[hQ] at hrec hR;have hFQ:Fnd v p t (k+1) Q.2:=by
      have:=(E8 v k (t+1) (left-0) (y.1.set t (some w),y.2) (p++[w]) (by simp[hp]) ⟨by have:=hF.len;simp;omega,vP hF.pre hlt⟩).2.2;rw[hQ] at this;refine⟨by have:=this.len;omega,?_⟩;have h1:=congrArg (List.take t) this.pre;rw[List.take_take,show min t (t+1)=t by omega] at h1;rw[h1,List.map_append];exact List.take_left' (by simp[hp])
     obtain⟨Qb,Qy⟩:=Q;simp only[mvS,kE] at hrec;simp only at hR hFQ hrec;try simp only[↓QA,QB,seval,eO] at hrec
     try simp only[↓QA,QB,seval,eO,q,i8,c8,hss,hle,hwt,hlo,hj1,hw,htt,hz,cT]
     refine cB hrec ?_;cases Qb
     ·simp only[Bool.false_eq_true,if_false] at hR;try simp only[↓QA,QB,seval,eO,hwj]
      refine⟨(j+1,Qy),⟨by simp only;omega,hFQ,hR⟩,by simp only;omega,?_⟩;try simp only[aB,QE,seval,eO,hwj,cT]
      try simp only[hok1,hok2,or_true,true_or,and_self,true_and]
     ·simp only[if_true] at hR;subst hR;try simp only[↓QA,QB,seval,eO]
      exact⟨_,[],rfl,by simp[mvS,kE],by try simp only[QS,QC,seval,eO]⟩
   ·have hj1:j=W.length:=by
     have:¬j<W.length:=by simpa using hd
     omega
    rw[hj1,List.drop_length,EF] at hR;subst hR;try simp only[↓QA,QB,seval,eO]
    exact⟨_,[],rfl,by simp[mvS,kE],by try simp only[QS,QC,seval,eO]⟩
end Go.Am.Room.Tr
namespace Go.Am.Room.Tr
def eI:=zz @encNet_eq (zz @netCells_eq (zz @encRail_eq (zz @encTram_eq (zz @encSeen_eq (zz @aJ (zz @S_mapRail (zz @S_mapTram (zz @S_mapSeen (zz @bZ (zz @bY (zz @Nat.not_lt_zero (zz @List.length_append.{0} (zz @List.length_replicate.{0} (zz @Nat.zero_add (zz @Nat.mul_one (zz @Int.toNat_natCast (zz @Nat.add_lt_add_iff_left (@Nat.lt_add_right_iff_pos))))))))))))))))))
theorem v7(x:AV)(n:Nat):(List.replicate n [x]).flatten=List.replicate n x:=by
 induction n with
 |zero=>rfl
 |succ n ih=>simp[List.replicate_succ,ih]
theorem I9:∀ l:List (List Int),yP 1 l.length (l.map ints)=l.map ints
 |[]=>rfl
 |x::l=>by simp[yP,I9 l,AV.cell,ints]
theorem aK4{σ:St}{m id n:Nat}{l:List (List Int)}(hm:¬id<m)(hn:n=l.length)(hl:aH σ id=some (l.map ints)):cQ σ m 20 (.ref id 0 n 1)=some (.lit (l.map ints) false none):=by
 subst hn;have hv:lS σ (.ref id 0 l.length 1)=some (l.map ints):=by simp[lS,hl,I9]
 rw[N2,if_neg hm,hv];simp[kA,XK]
def pI(v:Net)(n k:Nat):List AV:=(List.range n).map fun t=>if t<k then aY (eX v (iP v t) []) else .lit [] true none
theorem aMF(v:Net)(n:Nat):pI v n 0=List.replicate n (.lit [] true none):=by simp[pI,List.map_const']
theorem aBS(v:Net)(n:Nat):pI v n n=tE v n:=List.map_congr_left fun t ht=>by
 rw[if_pos (by simpa using ht)]
theorem w6(v:Net)(n k:Nat):(pI v n k).length=n:=by simp[pI]
theorem aIE(v:Net)(n k m:Nat):okVs m (pI v n k):=by
 have key:∀ l:List Nat,okVs m (l.map fun t=>if t<k then aY (eX v (iP v t) []) else AV.lit [] true none):=by
  intro l
  induction l with
  |nil=>trivial
  |cons t l ih =>
   refine⟨?_,ih⟩;simp only;split
   ·exact xN (zJ _) m
   ·simp[okV,okVs]
 exact key _
theorem aBD(v:Net){n k:Nat}(h:k<n):(pI v n k).take k++[aY (eX v (iP v k) [])]++(pI v n k).drop (k+1)=pI v n (k+1):=by
 have h1:(pI v n k).take k++[aY (eX v (iP v k) [])]++(pI v n k).drop (k+1)=(pI v n k).set k (aY (eX v (iP v k) [])):=by
  rw[List.set_eq_take_append_cons_drop,if_pos (by rw[w6];exact h)];simp
 rw[h1];refine List.ext_getElem? fun j=>?_
 by_cases hj:j<n
 ·rw[List.getElem?_set];by_cases e:k=j
  ·subst e;simp[w6,hj,pI]
  ·rw[if_neg e];simp only[pI,List.getElem?_map,List.getElem?_range hj,Option.map_some];by_cases h2:j<k
   ·simp[h2,show j<k+1 by omega]
   ·simp[h2,show ¬j<k+1 by omega]
 ·rw[List.getElem?_eq_none (by rw[List.length_set,w6];omega),List.getElem?_eq_none (by rw[w6];omega)]
theorem N9(v:Net)(hf:Fits v):cV T 187 [encNet v] (A7 (uE v)):=by
 refine aR (af:=X6) rfl (by simp[X6]) dd ?_
 (repeat (first|simp only[↓QA,QB,reduceLT,reduceIte,reduceEqDiff,reduceAdd,reduceLeDiff,reduceMul,Nat.reduceBEq,eI,X6]|refine rd0 rfl ?_))
 by_cases h0:iL v=0
 ·obtain⟨hv,hne⟩:=xJ h0;have hnt:=hv.ntr;have her:=CL [.cells (netCells v)] v [] (.inl rfl) hf (by rw[oT];exact h0);have hsome:∀ p,vM v (truths v [])=some p->uE v=(p,pZ v p,0):=fun p hp=>by rw[uE,if_pos h0,hp]
  have hnone:vM v (truths v [])=none->uE v=([],[],9):=fun hp=>by rw[uE,if_pos h0,hp]
  have hbp:=aG3 hv;obtain⟨MO,hMO⟩:∃ MO,uE v=MO:=⟨_,rfl⟩;rw[hMO] at hnone;simp only[hMO] at hsome;rw[hMO];obtain⟨W,hW⟩:∃ W,vM v (truths v [])=W:=⟨_,rfl⟩;rw[hW] at hbp hnone;simp only[hW] at hsome;simp only[nA,List.map_nil] at her;simp only[netCells_eq] at her;try simp only[↓QA,QB,reduceLT,reduceIte,reduceEqDiff,reduceAdd,reduceLeDiff,reduceMul,Nat.reduceBEq,eI] at her
  have hwi:∀ (n:Nat),n=v.trams.length->True:=fun _ _=>trivial
  have hmk:oU 24 (.int .i64 v.trams.length) (.int .i64 v.trams.length)=some v.trams.length:=by simp[oU,room];omega
  have hok1:∀ A k,aF k (.map (tEs v A)):=fun A k=>wX v A k
  have hok2:∀ (l:List (Option (List Int))) k,aF k (.cells (l.map mI)):=fun l k=>BW l k
  have hok3:∀ k m,aF m (.cells (pI v v.trams.length k)):=fun k m=>aIE v _ k m
  refine cB her ?_
  (repeat (first|simp only[↓QA,QB,reduceLT,reduceIte,reduceEqDiff,reduceAdd,reduceLeDiff,reduceMul,Nat.reduceBEq,eI,show ((0:Int)==0)=true from rfl,hmk,v7,<-aMF v]|refine rd0 rfl ?_))
  refine jN 3 1 [] rfl ?_;refine bC (S:=Nat) 0 (fun k=>k<=v.trams.length) (fun k=>v.trams.length-k)
   (fun k=>[(1,.ptr 0 0),(3,.lit [] false (some 8)),(5,.ptr 5 0),(6,.ptr 7 0),(27,.lit (v.trams.map encTram) false none),(28,.int .i64 v.trams.length),(29,.int .i64 k)])
   (fun k=>[.cells (netCells v),.cells (netCells v),.cells (netCells v),.map (tEs v (tD v)),.cells (db v 0 3),.cells [.ptr 4 0],.cells (pI v v.trams.length k),.cells [.ref 6 0 v.trams.length 1],.tok 1 0 false]) (Nat.zero_le _) (by simp[netCells,ints]) ?_ fun k hk=>?_
  ·try simp only[aB,QE,reduceLT,reduceIte,reduceEqDiff,reduceAdd,reduceLeDiff,reduceMul,Nat.reduceBEq,eI]
   try simp
  ·(repeat (first|simp only[↓QA,QB,reduceLT,reduceIte,reduceEqDiff,reduceAdd,reduceLeDiff,reduceMul,Nat.reduceBEq,eI,aB3]|refine rd0 rfl ?_))
   refine aE (fun hd=>?_) fun hd=>?_
   ·have hk1:k<v.trams.length:=by simpa using hd
    have hw:=bD hk1 (by omega);have hfr:=KW hk1;have hto:=(DN hv hk1).frm;obtain⟨z,hz⟩:∃ z,v.trams[k]=z:=⟨_,rfl⟩;rw[hz] at hfr hto;obtain⟨S,hS⟩:∃ S:Nat,z.frm=(S:Int):=⟨z.frm.toNat,by omega⟩;have hst:=hv.st;have hpw:=GV v hv S (by omega) (-1);have hb1:tT (-1)=[]:=rfl;have hfs:=aBD v hk1;rw[hb1,<-hS,<-hfr] at hpw;rw[hfr,hS] at hpw;rw[hfr,hS] at hfs;obtain⟨Y,hY⟩:∃ Y,eX v (S:Int) []=Y:=⟨_,rfl⟩;rw[hY] at hpw hfs;have iA:(0:Int)<=(k:Int)/\(k:Int)<(v.trams.length:Int)/\1=1:=⟨by omega,by omega,rfl⟩;have hfl:=w6 v v.trams.length k;have c8:k+1<=v.trams.length:=hk1;simp only[cT] at hpw hfs
    (repeat (first|simp only[↓QA,QB,reduceLT,reduceIte,reduceEqDiff,reduceAdd,reduceLeDiff,reduceMul,Nat.reduceBEq,eI,hk1,hz,hS]|refine rd0 rfl ?_))
    ((first|refine aD (hpw) rfl dd ?_|refine aG (hpw) rfl dd ?_);(repeat (first|simp only[↓QA,QB,reduceLT,reduceIte,reduceEqDiff,reduceAdd,reduceLeDiff,reduceMul,Nat.reduceBEq,eI,hk1,hz,hS,iA,hfl,c8,hfs,hw]|refine rd0 rfl ?_)))
    refine⟨k+1,by omega,by omega,?_⟩;try simp only[aB,QE,reduceLT,reduceIte,reduceEqDiff,reduceAdd,reduceLeDiff,reduceMul,Nat.reduceBEq,eI,hw]
    try simp only[hok3,or_true,true_or,and_self,true_and]
   ·have hk1:k=v.trams.length:=by
     have:¬k<v.trams.length:=by simpa using hd
     omega
    rw[hk1,aBS];have hwn:IntKind.i64.wrap ((v.trams.length:Int)+1)=((v.trams.length+1:Nat):Int):=by rw[bM ⟨by omega,by omega⟩];omega
    have hrep:List.replicate v.trams.length (AV.lit [] true none)=(List.replicate v.trams.length none).map mI:=by simp[mI]
    have hF0:Fnd v [] 0 v.trams.length (List.replicate v.trams.length none,tD v):=⟨by simp,by simp⟩
    (repeat (first|simp only[↓QA,QB,reduceLT,reduceIte,reduceEqDiff,reduceAdd,reduceLeDiff,reduceMul,Nat.reduceBEq,eI,hmk,v7,hrep,hwn]|refine rd0 rfl ?_))
    refine bC (S:=Nat×PS) (0,(List.replicate v.trams.length none,tD v)) (fun a=>a.1<=v.trams.length+1/\Fnd v [] 0 v.trams.length a.2/\zI v (rM v) (v.trams.length+1-a.1) a.1=W) (fun a=>v.trams.length+1-a.1)
     (fun a=>[(1,.ptr 0 0),(3,.lit [] false (some 8)),(9,.ptr 10 0),(10,.ptr 11 0),(49,.int .i64 ((v.trams.length+1:Nat):Int)),(50,.int .i64 a.1)])
     (fun a=>mvS v a.2) ⟨Nat.zero_le _,hF0,hbp.symm⟩ (by simp[mvS,kE,netCells,ints]) ?_ fun a ha=>?_
    ·try simp only[aB,QE,reduceLT,reduceIte,reduceEqDiff,reduceAdd,reduceLeDiff,reduceMul,Nat.reduceBEq,eI]
     try simp[clr,clrs]
    ·obtain⟨m,y⟩:=a;obtain⟨hm,hF,hq⟩:=ha;simp only at hm hF hq;cases hml:decide ((m:Int)<((v.trams.length+1:Nat):Int))
     ·have hm1:m=v.trams.length+1:=by
       have:¬(m:Int)<((v.trams.length+1:Nat):Int):=by simpa using hml
       omega
      rw[hm1,Nat.sub_self,zI] at hq;have hres:=hnone hq.symm;subst hres;simp only[mvS,kE]
      (repeat (first|simp only[↓QA,QB,reduceLT,reduceIte,reduceEqDiff,reduceAdd,reduceLeDiff,reduceMul,Nat.reduceBEq,eI,Q8,hml,A7,cT,List.map_nil]|refine rd0 rfl ?_))
      try try simp only[QS,QC,reduceLT,reduceIte,reduceEqDiff,reduceAdd,reduceLeDiff,reduceMul,Nat.reduceBEq,eI]
     ·have hm1:m<v.trams.length+1:=by
       have:(m:Int)<((v.trams.length+1:Nat):Int):=by simpa using hml
       omega
      have hwm:=bD hm1 (by omega);rw[show v.trams.length+1-m=(v.trams.length+1-(m+1))+1 by omega,zI] at hq;have hfd:=DM v hv v.trams.length 0 m y [] (by omega) (by omega) rfl hF (fun w hw=>by cases hw);obtain⟨l1,l2,l3⟩:=E8 v v.trams.length 0 m y [] rfl hF;obtain⟨⟨Rb,Ry⟩,hRe⟩:∃ R,fnd v v.trams.length 0 m y=R:=⟨_,rfl⟩;rw[hRe] at l1 l2 l3 hfd;simp only at l1 l2 l3 hfd;simp only[mvS,kE] at hfd ⊢;try simp only[↓QA,QB,reduceLT,reduceIte,reduceEqDiff,reduceAdd,reduceLeDiff,reduceMul,Nat.reduceBEq,eI] at hfd
      have h00:((0:Nat):Int)=0:=rfl;rw[h00] at hfd
      (repeat (first|simp only[↓QA,QB,reduceLT,reduceIte,reduceEqDiff,reduceAdd,reduceLeDiff,reduceMul,Nat.reduceBEq,eI,Q8,hml]|refine rd0 rfl ?_))
      refine cB hfd ?_;cases hdf:dfs v (rM v) v.trams.length [] m with
      |none =>
       rw[hdf] at l1 hq;simp only[Option.isSome_none] at l1 hq;subst l1
       (repeat (first|simp only[↓QA,QB,reduceLT,reduceIte,reduceEqDiff,reduceAdd,reduceLeDiff,reduceMul,Nat.reduceBEq,eI,hwm]|refine rd0 rfl ?_))
       refine⟨(m+1,Ry),⟨by simp only;omega,l3,hq⟩,by simp only;omega,?_⟩;try simp only[aB,QE,reduceLT,reduceIte,reduceEqDiff,reduceAdd,reduceLeDiff,reduceMul,Nat.reduceBEq,eI,hwm]
       try simp only[hok1,hok2,or_true,true_or,and_self,true_and]
      |some P =>
       rw[hdf] at l1 hq;have l2:=l2 P hdf;simp only[Option.isSome_some] at l1 hq;subst l1;have hres:=hsome P hq.symm;subst hres;obtain⟨Rl,RA⟩:=Ry;simp only at l2 l3;subst l2;have hPl:P.length=v.trams.length:=by have:=l3.len;simpa using this
       have hPin:∀ w∈P,w.length<=4:=fun w hw=>by
        have h1:=hdf;rw[FI,<-DE] at h1;exact (aHD (List.mem_of_find?_eq_some h1)).few w hw
       obtain⟨A,hA⟩:∃ A,pZ v P=A:=⟨_,rfl⟩;have hA':[]++(aL ((0:Nat):Int) ((v.trams.length:Int)-((0:Nat):Int)).toNat).filter (aG6 v P)=A:=by rw[<-hA,pZ,hPl];simp;rfl
       rw[hA,HO]
       (repeat (first|simp only[↓QA,QB,reduceLT,reduceIte,reduceEqDiff,reduceAdd,reduceLeDiff,reduceMul,Nat.reduceBEq,eI,hPl]|refine rd0 rfl ?_))
       refine bC (S:=Nat×List Int×Bool) (0,[],false) (fun a=>a.1<=v.trams.length/\a.2.1++(aL (a.1:Int) ((v.trams.length:Int)-a.1).toNat).filter (aG6 v P)=A/\a.2.1.length<=a.1) (fun a=>v.trams.length-a.1)
        (fun a=>[(1,.ptr 0 0),(3,.lit (a.2.1.map (.int .i64)) false (some 8)),(9,.ptr 10 0),(57,.ref 9 0 v.trams.length 1),(58,.int .i64 v.trams.length),(59,.int .i64 a.1)])
        (fun a=>[.cells (netCells v),.cells (netCells v),.cells (netCells v),.map (tEs v RA),.cells (db v 0 3),.cells [.ptr 4 0],.cells (tE v v.trams.length),.cells [.ref 6 0 v.trams.length 1],.tok 1 a.2.1.length a.2.2,.cells (P.map ints),.cells [.ref 9 0 v.trams.length 1],.cells [aC5]]) ⟨Nat.zero_le _,hA',by simp⟩ (by simp[netCells,ints,kE]) ?_ fun a ha=>?_
       ·try simp only[aB,QE,reduceLT,reduceIte,reduceEqDiff,reduceAdd,reduceLeDiff,reduceMul,Nat.reduceBEq,eI,gV (show 9<12 by omega)]
        try simp
       ·obtain⟨t,acc,ex⟩:=a;obtain⟨ht,hacc,hal⟩:=ha;simp only at ht hacc hal
        (repeat (first|simp only[↓QA,QB,reduceLT,reduceIte,reduceEqDiff,reduceAdd,reduceLeDiff,reduceMul,Nat.reduceBEq,eI,YS]|refine rd0 rfl ?_))
        refine aE (fun hd=>?_) fun hd=>?_
        ·have ht1:t<v.trams.length:=by simpa using hd
         have hw:=bD ht1 (by omega);have htp:t<P.length:=by omega
         rw[NN ht1] at hacc;have hmv:aG6 v P (t:Int) = !decide (P[t]=v.trams[t].path):=by rw[aG6,Int.toNat_natCast,TW htp,P1 ht1]
         have hpl:=hPin _ (List.getElem_mem htp);have htl:=(DN hv ht1).len;obtain⟨z,hz⟩:∃ z,v.trams[t]=z:=⟨_,rfl⟩;obtain⟨p,hpe⟩:∃ p,P[t]=p:=⟨_,rfl⟩;rw[hz,hpe] at hmv;rw[hz] at htl;rw[hpe] at hpl;have iA:(0:Int)<=(t:Int)/\(t:Int)<(v.trams.length:Int)/\1=1:=⟨by omega,by omega,rfl⟩;have heq:=NJ p z.path (by omega) (by omega);simp only[tW] at heq;have hap:=fun (b0 b1 b2 b3 b4 b5 b6 b7:ABlk) (τ:St)=>kV (σ:=b0::b1::b2::b3::b4::b5::b6::b7::.tok 1 acc.length ex::τ) (l:=acc) (a:=(t:Int)) (ex:=ex) (t:=8) (by omega) rfl
         (repeat (first|simp only[↓QA,QB,reduceLT,reduceIte,reduceEqDiff,reduceAdd,reduceLeDiff,reduceMul,Nat.reduceBEq,eI,iA,htp,hpe,ht1,hz,tW]|refine rd0 rfl ?_))
         ((first|refine aD (heq) rfl dd ?_|refine aG (heq) rfl dd ?_);(repeat (first|simp only[↓QA,QB,reduceLT,reduceIte,reduceEqDiff,reduceAdd,reduceLeDiff,reduceMul,Nat.reduceBEq,eI,iA,htp,hpe,ht1,hz,tW]|refine rd0 rfl ?_)))
         cases q:decide (p=z.path)
         ·rw[hmv,q] at hacc;simp only[Bool.not_false,tI]
          (repeat (first|simp only[↓QA,QB,reduceLT,reduceIte,reduceEqDiff,reduceAdd,reduceLeDiff,reduceMul,Nat.reduceBEq,eI,hap,hw]|refine rd0 rfl ?_))
          refine⟨(t+1,acc++[(t:Int)],true),⟨by simp only;omega,by simpa using hacc,by simp;omega⟩,by simp only;omega,?_⟩;try simp only[aB,QE,reduceLT,reduceIte,reduceEqDiff,reduceAdd,reduceLeDiff,reduceMul,Nat.reduceBEq,eI,hw,lB,gV (show 9<12 by omega),List.map_append,List.map_cons,List.map_nil]
          try simp[aF]
         ·rw[hmv,q] at hacc;simp only[Bool.not_true,uS]
          (repeat (first|simp only[↓QA,QB,reduceLT,reduceIte,reduceEqDiff,reduceAdd,reduceLeDiff,reduceMul,Nat.reduceBEq,eI,hw]|refine rd0 rfl ?_))
          refine⟨(t+1,acc,ex),⟨by simp only;omega,by simpa using hacc,by simp only;omega⟩,by simp only;omega,?_⟩;try simp only[aB,QE,reduceLT,reduceIte,reduceEqDiff,reduceAdd,reduceLeDiff,reduceMul,Nat.reduceBEq,eI,hw,lB,gV (show 9<12 by omega)]
          try simp[aF]
        ·have ht1:t=v.trams.length:=by
          have:¬t<v.trams.length:=by simpa using hd
          omega
         rw[W9 ht1,List.append_nil] at hacc;subst hacc;have hsr:=fun (b0 b1 b2 b3 b4 b5 b6 b7 b8:ABlk) (τ:St)=>aK4 (σ:=b0::b1::b2::b3::b4::b5::b6::b7::b8::.cells (P.map ints)::τ) (m:=0) (id:=9) (n:=v.trams.length) (l:=P) (by omega) hPl.symm rfl
         (repeat (first|simp only[↓QA,QB,reduceLT,reduceIte,reduceEqDiff,reduceAdd,reduceLeDiff,reduceMul,Nat.reduceBEq,eI,A7,cT,tW]|refine rd0 rfl ?_))
         try try simp only[QS,QC,reduceLT,reduceIte,reduceEqDiff,reduceAdd,reduceLeDiff,reduceMul,Nat.reduceBEq,eI,hsr]
 ·have h0':(iL v==0)=false:=by simpa using h0
  have her:=FZ [.cells (netCells v)] v [] (.inl rfl) hf (by rw[oT];exact h0);rw[oT] at her;have hm:uE v=([],[],iL v):=by rw[uE,if_neg h0]
  rw[hm];simp only[List.map_nil] at her;simp only[netCells_eq] at her;refine cB her ?_
  (repeat (first|simp only[↓QA,QB,reduceLT,reduceIte,reduceEqDiff,reduceAdd,reduceLeDiff,reduceMul,Nat.reduceBEq,eI,h0',A7,cT,List.map_nil]|refine rd0 rfl ?_))
  try rfl
end Go.Am.Room.Tr
namespace Go.Am.Room.Tr
def sG:=zz @encNet_eq (zz @netCells_eq (zz @encRail_eq (zz @encTram_eq (zz @encSeen_eq (zz @aJ (zz @S_mapRail (zz @S_mapTram (zz @S_mapSeen (zz @bZ (zz @bY (zz @Nat.not_lt_zero (zz @List.length_append.{0} (zz @Nat.zero_add (zz @Nat.mul_one (zz @Int.toNat_natCast (zz @dL (zz @d7 (zz @d6 (zz @iR (zz @d8 (zz @Nat.add_lt_add_iff_left (zz @Nat.lt_add_right_iff_pos (zz @nX (@nZ))))))))))))))))))))))))
def v5(x:B64):St:=[.cells [.int .i64 (x.1.1:Nat)],.cells [.int .i64 (x.1.2:Nat)]]
theorem UW{v:Net}(hv:Vd v)(c:List Int)(x:B64)(B:List K5)(lp:ABlk)(τ:St)(e:Env)(G:Option AJump->St->Prop)(e1:Env.get e 1 = .ptr 0 0)(e6:Env.get e 6 = .ptr 5 0)(e7:Env.get e 7 = .ptr 6 0)(e8:Env.get e 8 = .ptr (τ.length+9) 0)(R:B64×Bool)(hRr:sH kO v.rails.length c x=R):
  wp T Q3 e (nA [.cells (netCells v)] v B++(v5 x++(.cells [.ptr 4 0]::lp::(τ++[.cells (aZ 5 (rl c))])))) (fun j e'' σ''=>(R.2=true/\j=none/\∃ τ',σ''=nA [.cells (netCells v)] v B++(v5 R.1++(.cells [.ptr 4 0]::lp::(τ++τ'))))\/G j σ''):=by
 have hnt:=hv.nra;have hR1:R.1.1=fB (kO c) v.rails.length x.1:=by rw[<-hRr,C9 kO (by omega)]
 have hR2:R.2=true:=by rw[<-hRr];exact G4 _ _ _ _
 have hlt:=fun k hk=>tS (kO c) (n:=6) x.2 k hk
 have hta:∀ (b0 b1 b2 b3 b4 b5 b6 b7 b8:ABlk),aH (b0::b1::b2::b3::b4::b5::b6::b7::b8::(τ++[.cells (aZ 5 (rl c))])) (τ.length+9)=some (aZ 5 (rl c)):=fun b0 b1 b2 b3 b4 b5 b6 b7 b8=>by
  simp only[vF];rw[k7];rfl
 simp only[v5,hR1,nA,netCells_eq]
 (repeat (first|simp only[↓QA,QB,reduceLT,reduceIte,reduceEqDiff,reduceAdd,reduceLeDiff,reduceMul,Nat.reduceBEq,sG,Q3,e1]|refine rd0 rfl ?_))
 refine bC (S:=Nat) 0 (fun k=>k<=v.rails.length) (fun k=>v.rails.length-k)
  (fun k=>[(1,.ptr 0 0),(6,.ptr 5 0),(7,.ptr 6 0),(8,.ptr (τ.length+9) 0),(29,.int .i64 v.rails.length),(30,.int .i64 k)])
  (fun k=>nA [.cells (netCells v)] v B++(.cells [.int .i64 ((fB (kO c) k x.1).1:Nat)]::.cells [.int .i64 ((fB (kO c) k x.1).2:Nat)]::.cells [.ptr 4 0]::lp::(τ++[.cells (aZ 5 (rl c))]))) (Nat.zero_le _) (by simp[nA,netCells,fB]) ?_ fun k hk=>?_
 ·try simp only[aB,QE,reduceLT,reduceIte,reduceEqDiff,reduceAdd,reduceLeDiff,reduceMul,Nat.reduceBEq,sG,e1,e6,e7,e8]
  try simp
 ·(repeat (first|simp only[↓QA,QB,reduceLT,reduceIte,reduceEqDiff,reduceAdd,reduceLeDiff,reduceMul,Nat.reduceBEq,sG,aAD,nA]|refine rd0 rfl ?_))
  refine aE (fun hd=>?_) fun hd=>?_
  ·have hk1:k<v.rails.length:=by simpa using hd
   have hw:=bD hk1 (by omega);have hst:fB (kO c) (k+1) x.1=if kO c k=true then (EI (fB (kO c) k x.1).1 (2^k),(fB (kO c) k x.1).2) else ((fB (kO c) k x.1).1,(fB (kO c) k x.1).2|||2^k):=rfl
   obtain⟨l1,l2⟩:=hlt k (by omega);obtain⟨⟨Y1,Y2⟩,hY⟩:∃ Y,fB (kO c) k x.1=Y:=⟨_,rfl⟩;rw[hY] at hst l1 l2;simp only at hst l1 l2;have hp2:=kZ (show k<=60 by omega);have hsh:=rB k (by omega);have hor:=S4 Y2 (2^k) (by omega) (by omega);have han:=HQ Y1 (2^k) (by omega) (by omega);have i3:(0:Int)<=(k:Int)/\(k:Int)<((5:Nat):Int):=⟨by omega,by omega⟩;have hg:=gO 5 (rl c) (i:=k) (by omega);have hop:kO c k = !(rl c k==0):=rfl;rw[hY];cases hf:(rl c k==0)
   ·rw[hop,hf] at hst;simp only[Bool.not_false,if_true] at hst
    (repeat (first|simp only[↓QA,QB,reduceLT,reduceIte,reduceEqDiff,reduceAdd,reduceLeDiff,reduceMul,Nat.reduceBEq,sG,hta,i3,hg,hsh,han,hf]|refine rd0 rfl ?_))
    refine⟨k+1,by omega,by omega,?_⟩;rw[hst];try simp only[aB,QE,reduceLT,reduceIte,reduceEqDiff,reduceAdd,reduceLeDiff,reduceMul,Nat.reduceBEq,sG,hw]
    try simp[aF,okVs,okV]
    try omega
   ·rw[hop,hf] at hst;simp only[Bool.not_true,Bool.false_eq_true,if_false] at hst
    (repeat (first|simp only[↓QA,QB,reduceLT,reduceIte,reduceEqDiff,reduceAdd,reduceLeDiff,reduceMul,Nat.reduceBEq,sG,hta,i3,hg,hsh,hor,hf]|refine rd0 rfl ?_))
    refine⟨k+1,by omega,by omega,?_⟩;rw[hst];try simp only[aB,QE,reduceLT,reduceIte,reduceEqDiff,reduceAdd,reduceLeDiff,reduceMul,Nat.reduceBEq,sG,hw]
    try simp[aF,okVs,okV]
    try omega
  ·have hk1:k=v.rails.length:=by
    have:¬k<v.rails.length:=by simpa using hd
    omega
   rw[hk1]
   (repeat (first|simp only[↓QA,QB,reduceLT,reduceIte,reduceEqDiff,reduceAdd,reduceLeDiff,reduceMul,Nat.reduceBEq,sG]|refine rd0 rfl ?_))
   exact .inl ⟨hR2,[.cells (aZ 5 (rl c))],rfl⟩
end Go.Am.Room.Tr
namespace Go.Am.Room.Tr
def n4:=zz @encNet_eq (zz @netCells_eq (zz @encRail_eq (zz @encTram_eq (zz @encSeen_eq (zz @aJ (zz @S_mapRail (zz @S_mapTram (zz @S_mapSeen (zz @bZ (zz @bY (zz @Nat.not_lt_zero (zz @List.length_append.{0} (zz @Nat.zero_add (zz @Nat.mul_one (zz @Int.toNat_natCast (zz @dL (zz @d7 (zz @d6 (zz @iR (zz @d8 (zz @Nat.add_lt_add_iff_left (zz @Nat.lt_add_right_iff_pos (zz @nX (@nZ))))))))))))))))))))))))
theorem PA(v:Net)(hf:Fits v):cV T 188 [encNet v] (j5 (C4 v)):=by
 refine aR (af:=aA3) rfl (by simp[aA3]) dd ?_
 (repeat (first|simp only[↓QA,QB,seval,n4,aA3]|refine rd0 rfl ?_))
 by_cases h0:iL v=0
 ·obtain⟨hv,hne⟩:=xJ h0;have hnt:=hv.nra;have h6:v.rails.length<=6:=by omega
  obtain⟨hl1,hl2⟩:=aCM hv h6;have hit:=JJ kO v.rails.length (TL v []) (nB _ h6);obtain⟨⟨⟨P,Q⟩,hPQ⟩,hY⟩:∃ Y,pK kO v.rails.length (TL v []) (nB _ h6)=Y:=⟨_,rfl⟩;rw[hY] at hl1 hl2 hit;simp only at hl1 hl2 hPQ;have hm:C4 v=(lst v.rails.length P,lst v.rails.length Q,0):=by rw[C4,if_pos h0,hl1,hl2]
  have hlo1:=xG P v.rails.length (by omega) (by omega);have hlo2:=xG Q v.rails.length (by omega) (by omega);have hsh:=rB v.rails.length (by omega);have hp2:=kZ (show v.rails.length<=60 by omega);have hw:IntKind.i64.wrap (((2^v.rails.length:Nat):Int)-1)=((2^v.rails.length-1:Nat):Int):=by
   have:=Nat.two_pow_pos v.rails.length;rw[bM ⟨by omega,by omega⟩];omega
  have hok:∀ (x:B64) (y:ABlk),y∈v5 x->∀ k,5<=k->aF k y:=by
   intro x y hy k hk;simp only[v5,List.mem_cons,List.not_mem_nil,or_false] at hy;rcases hy with rfl|rfl<;>simp[aF,okVs,okV]
  have hR:=HV [.cells (netCells v)] v;have hrng:=pN hR hv S8 v5 v5 2 (fun _=>rfl) (fun _=>rfl) hok hok .ret (f:=sH kO v.rails.length);have her:=fun σ=>CL σ v [] (.inl rfl) hf (by rw[oT];exact h0)
  simp only[List.map_nil] at her;rw[hm];simp only[nA] at hrng her;simp only[netCells_eq] at hrng her;refine cB (her _) ?_
  (repeat (first|simp only[↓QA,QB,seval,n4,show ((0:Int)==0)=true from rfl,hsh,hw]|refine rd0 rfl ?_))
  refine vY rfl (by simp[EJ]) ?_
  (repeat (first|simp only[↓QA,QB,seval,n4,EJ]|refine rd0 rfl ?_))
  refine hrng _ 24 [25,26] _ _ ?_ ?_ (nB _ h6) (tD v) _ ?_ ?_
  ·try simp only[aB,QE,seval,n4]
  ·refine sL (S:=fun _=>nA [.cells (netCells v)] v) (fun _=>hR) v5 v5 2 (fun _=>rfl) (fun _=>rfl) .ret _ _ (tV v) (fun _ _ _=>rfl) _ _ ?_;intro c _ fl tk x B τ;simp only[lD,tV];obtain⟨R,hRr⟩:∃ R,sH kO v.rails.length c x=R:=⟨_,rfl⟩;rw[hRr];have lb:=fun lp e G=>UW hv c x B lp τ e G
   simp only[v5,nA,netCells_eq] at lb ⊢
   (repeat (first|simp only[↓QA,QB,seval,n4]|refine rd0 rfl ?_))
   refine⟨[.cells (aZ 5 (rl c))],by simp,?_⟩;refine lb _ _ _ ?_ ?_ ?_ ?_ R hRr;all_goals try simp only[aB,QE,seval,n4]
  ·intro τ h2;rw[hit];simp only[v5]
   (repeat (first|simp only[↓QA,QB,seval,n4]|refine rd0 rfl ?_))
   ((first|refine aD (hlo1) rfl dd ?_|refine aG (hlo1) rfl dd ?_);(repeat (first|simp only[↓QA,QB,seval,n4]|refine rd0 rfl ?_)))
   ((first|refine aD (hlo2) rfl dd ?_|refine aG (hlo2) rfl dd ?_);(repeat (first|simp only[↓QA,QB,seval,n4,j5]|refine rd0 rfl ?_)))
  ·intro τ h2;rw[hit] at h2;cases h2
 ·have her:=fun σ=>FZ σ v [] (.inl rfl) hf (by rw[oT];exact h0)
  simp only[List.map_nil,oT] at her;have h0':(iL v==0)=false:=by simpa using h0
  have hm:C4 v=([],[],iL v):=by rw[C4,if_neg h0]
  rw[hm];refine cB (her _) ?_
  (repeat (first|simp only[↓QA,QB,seval,n4,h0',j5]|refine rd0 rfl ?_))
  try rfl
end Go.Am.Room.Tr
namespace Go.Am.Room.Tr
def eQ:=zz @encNet_eq (zz @netCells_eq (zz @encRail_eq (zz @encTram_eq (zz @encSeen_eq (zz @aJ (zz @S_mapRail (zz @S_mapTram (zz @S_mapSeen (zz @bZ (zz @bY (zz @Nat.not_lt_zero (zz @List.length_append.{0} (zz @Nat.zero_add (zz @Nat.mul_one (@Int.toNat_natCast)))))))))))))))
theorem I5(v:Net)(hf:Fits v):cV T 189 [encNet v] (FO (w8 v)):=by
 refine aR (af:=aA6) rfl (by simp[aA6]) dd ?_;try simp only[↓QA,QB,seval,eQ,aA6]
 (refine aD (n8 v hf) rfl dd ?_;try simp only[↓QA,QB,seval,eQ,enc3])
 cases h0:((check v).2.2==0)
 ·have h0':(check v).2.2≠0:=by simpa using h0
  have hr:w8 v=(0,0,(check v).2.2):=by rw[w8,if_neg h0']
  rw[hr];try simp only[↓QA,QB,seval,eQ,h0,FO]
  try rfl
 ·have h0':(check v).2.2=0:=by simpa using h0
  have hv:=vd_of_check h0';have hnr:=hv.nra;have hnt:=hv.ntr;obtain⟨R,hR⟩:∃ R,B5 v=R:=⟨_,rfl⟩;have hr:w8 v=if R.1<0 then (0,0,9) else (R.1,R.2,0):=by rw[w8,if_pos h0',hR]
  have hR':wM v (aL ((0:Nat):Int) ((v.rails.length:Int)-((0:Nat):Int)).toNat) (-1,0)=R:=by rw[<-hR,B5];simp
  rw[hr];try simp only[↓QA,QB,seval,eQ,h0]
  refine bC (S:=Nat×Int×Int) (0,-1,0) (fun a=>a.1<=v.rails.length/\wM v (aL (a.1:Int) ((v.rails.length:Int)-a.1).toNat) a.2=R) (fun a=>v.rails.length-a.1)
   (fun a=>[(1,.ptr 0 0),(2,.int .i64 a.2.1),(3,.int .i64 a.2.2),(4,.int .i64 (check v).2.2),(20,.lit (v.rails.map encRail) false none),(21,.int .i64 v.rails.length),(22,.int .i64 a.1)]) (fun _=>[.cells (netCells v)]) ⟨Nat.zero_le _,hR'⟩ (by simp[netCells,ints]) ?_ fun a ha=>?_
  ·try simp only[aB,QE,seval,eQ]
   try simp
  ·obtain⟨k,b,c⟩:=a;obtain⟨hk,hq⟩:=ha;simp only at hk hq;try simp only[↓QA,QB,seval,eQ,XN]
   refine aE (fun h2=>?_) fun h2=>?_
   ·have hk1:k<v.rails.length:=by simpa using h2
    have hw:=bD hk1 (by omega);rw[NG hk1] at hq;obtain⟨z,hz⟩:∃ z,v.rails[k]=z:=⟨_,rfl⟩;rw[hz] at hq;obtain⟨C,hC⟩:∃ C,GN v k=C:=⟨_,rfl⟩;rw[hC] at hq;try simp only[↓QA,QB,seval,eQ,hk1,hz]
    cases q1:(z.shut==1)
    ·have q1':z.shut≠1:=by simpa using q1
     rw[if_neg q1'] at hq;try simp only[↓QA,QB,seval,eQ,q1]
     refine bC (S:=Nat) 0 (fun j=>j<=v.trams.length) (fun j=>v.trams.length-j)
      (fun j=>[(1,.ptr 0 0),(2,.int .i64 b),(3,.int .i64 c),(4,.int .i64 (check v).2.2),(5,.int .i64 k),(7,.int .i64 (y7 v k j:Nat)),(20,.lit (v.rails.map encRail) false none),(21,.int .i64 v.rails.length),(22,.int .i64 k),(31,.lit (v.trams.map encTram) false none),(32,.int .i64 v.trams.length),(33,.int .i64 j)]) (fun _=>[.cells (netCells v),.cells (encRail z).cells]) (Nat.zero_le _) (by simp[netCells,ints,y7,encRail,AV.cells]) ?_ fun j hj=>?_
     ·try simp only[aB,QE,seval,eQ,y7]
      try simp
     ·try simp only[↓QA,QB,seval,eQ,XD]
      refine aE (fun h3=>?_) fun h3=>?_
      ·have hj1:j<v.trams.length:=by simpa using h3
       have hwj:=bD hj1 (by omega);have hcl:=YG v k j;have hs:=QX v k j;have hwc:=bD (show y7 v k j<v.trams.length by omega) (by omega);have hwt:=(DN hv hj1).frm;have hst:=hv.st;rw[KW hj1] at hs;obtain⟨y,hy⟩:∃ y,v.trams[j]=y:=⟨_,rfl⟩;rw[hy] at hs hwt;obtain⟨f,hf1,hf2⟩:∃ f:Nat,y.frm=f/\f<5:=⟨y.frm.toNat,by omega,by omega⟩;rw[hf1] at hs;have hpw:=GV v hv f hf2 k;rw[show tT (k:Int)=[(k:Int)] by rw[tT,if_neg (by omega)]] at hpw;obtain⟨W,hW⟩:∃ W,eX v f [(k:Int)]=W:=⟨_,rfl⟩;rw[hW] at hpw hs;have hwe:(((W.length:Nat):Int)==0)=W.isEmpty:=by cases W<;>simp<;>omega
       try simp only[↓QA,QB,seval,eQ,hj1,hy,hf1]
       (refine aD (hpw) rfl dd ?_;try simp only[↓QA,QB,seval,eQ,cT,hwe])
       cases hse:W.isEmpty
       ·rw[hse] at hs;simp only[Bool.false_eq_true,if_false,Nat.add_zero] at hs;try simp only[↓QA,QB,seval,eQ,hwj]
        refine⟨j+1,by omega,by omega,?_⟩;rw[hs];try simp only[aB,QE,seval,eQ,hwj]
        try simp[aF]
       ·rw[hse] at hs;simp only[if_true] at hs;try simp only[↓QA,QB,seval,eQ,hwj,hwc]
        refine⟨j+1,by omega,by omega,?_⟩;rw[hs];try simp only[aB,QE,seval,eQ,hwj,hwc]
        try simp[aF]
      ·have hj1:j=v.trams.length:=by
        have:¬j<v.trams.length:=by simpa using h3
        omega
       rw[hj1];have hCC:((y7 v k v.trams.length:Nat):Int)=C:=by rw[<-hC];rfl
       rw[hCC];try simp only[↓QA,QB,seval,eQ]
       cases q2:decide (b<0)
       ·have q2':¬b<0:=by simpa using q2
        cases q3:decide (c<C)
        ·have q3':¬c<C:=by simpa using q3
         rw[if_neg (by simp only;omega)] at hq;try simp only[↓QA,QB,seval,eQ,q2,q3,hw]
         refine⟨(k+1,b,c),⟨by simp only;omega,hq⟩,by simp only;omega,?_⟩;try simp only[aB,QE,seval,eQ,hw]
         try simp[aF]
        ·have q3':c<C:=by simpa using q3
         rw[if_pos (.inr q3')] at hq;try simp only[↓QA,QB,seval,eQ,q2,q3,hw]
         refine⟨(k+1,(k:Int),C),⟨by simp only;omega,hq⟩,by simp only;omega,?_⟩;try simp only[aB,QE,seval,eQ,hw]
         try simp[aF]
       ·have q2':b<0:=by simpa using q2
        rw[if_pos (.inl q2')] at hq;try simp only[↓QA,QB,seval,eQ,q2,hw]
        refine⟨(k+1,(k:Int),C),⟨by simp only;omega,hq⟩,by simp only;omega,?_⟩;try simp only[aB,QE,seval,eQ,hw]
        try simp[aF]
    ·have q1':z.shut=1:=by simpa using q1
     rw[if_pos q1'] at hq;try simp only[↓QA,QB,seval,eQ,q1,hw]
     refine⟨(k+1,b,c),⟨by simp only;omega,hq⟩,by simp only;omega,?_⟩;try simp only[aB,QE,seval,eQ,hw]
     try simp[aF]
   ·have hk1:k=v.rails.length:=by
     have:¬k<v.rails.length:=by simpa using h2
     omega
    rw[uM (by omega),wM] at hq;subst hq;cases q:decide (b<0)
    ·have q':¬b<0:=by simpa using q
     rw[if_neg (by simpa using q')];try simp only[↓QA,QB,seval,eQ,q,FO]
     try rfl
    ·have q':b<0:=by simpa using q
     rw[if_pos (by simpa using q')];try simp only[↓QA,QB,seval,eQ,q,FO]
     try rfl
theorem aHW{v:Net}(hv:Vd v):cC v.rails []≠[]:=by
 have:v.rails.map (fun r=>if r.shut=1 then 0 else r.mins.lo)∈cC v.rails []:=(mE _ _ _).2 ⟨_,rfl,by simp,fun i h hr=>by
  have h2:=(hv.ra _ (List.getElem_mem hr)).mins;rw[List.getElem?_eq_getElem (by simpa using hr),Option.getD_some,List.getElem_map];obtain⟨z,hz⟩:∃ z,v.rails[i]=z:=⟨_,rfl⟩;rw[hz] at h2 ⊢;simp only[chP,List.mem_append];by_cases q:z.shut=1
  ·rw[if_pos q,if_neg (by omega)];exact .inl (by simp)
  ·rw[if_neg q,if_neg q]
   exact .inr (qU.2 ⟨Int.le_refl _,by omega⟩)⟩
 exact List.ne_nil_of_mem this
theorem X9{v:Net}{but:List Int}(h:∀ k,k<v.seen.length->but.contains (k:Int)=true)(cs:List Int):mQ v but cs=true:=by
 rw[mQ,List.all_eq_true];intro k hk;have hk2:k<v.seen.length:=by simpa using hk
 rw[List.getElem?_eq_getElem hk2];simp only[h k hk2,Bool.true_or]
theorem GX{v:Net}(hv:Vd v){but:List Int}(h:∀ k,k<v.seen.length->but.contains (k:Int)=true):lA v but=true:=by
 obtain⟨c,hc⟩:=List.exists_mem_of_ne_nil _ (aHW hv);have ht:c∈TL v but:=List.mem_filter.2 ⟨hc,X9 h _⟩;obtain⟨s,hs,_⟩:=vX hv ht;rw[lA];cases hh:truths v but with
 |nil=>rw[hh] at hs;cases hs
 |cons a b=>rfl
theorem CW{v:Net}(hv:Vd v):∀ c∈dM v.seen.length v.seen.length,lA v c=true:=fun c hc=>by
 have hl:=hv.nse;exact GX hv fun k hk=>A3 ⟨v.seen.length,by omega⟩ c hc ⟨k,by omega⟩ hk
theorem kJ(f:List Int->Bool)(n:Nat):∀ k m,cR f n (k+1) m=(cR f n k m).or ((dM n (m+k)).find? f)
 |0,m=>by simp only[cR,Nat.add_zero];cases (dM n m).find? f<;>rfl
 |k+1,m=>by
  rw[cR,kJ f n k (m+1)];rw[show cR f n (k+1) m=(match (dM n m).find? f with|some l=>some l|none=>cR f n k (m+1)) from rfl];rw[show m+1+k=m+(k+1) by omega];cases (dM n m).find? f<;>rfl
theorem vL{v:Net}(hv:Vd v):cR (lA v) v.seen.length (v.seen.length+1) 0=some (qR v):=by
 have hl:=hv.nse;have h1:=DO ⟨v.seen.length,by omega⟩;simp only at h1;obtain⟨w,hw⟩:=List.length_eq_one_iff.1 h1;have hs:=CW hv w (by rw[hw];simp);rw[kJ,qR,Nat.zero_add,hw];cases cR (lA v) v.seen.length v.seen.length 0 with
 |some l=>rfl
 |none=>simp[hs]
end Go.Am.Room.Tr
namespace Go.Am.Room.Tr
def bW:=zz @encNet_eq (zz @netCells_eq (zz @encRail_eq (zz @encTram_eq (zz @encSeen_eq (zz @aJ (zz @S_mapRail (zz @S_mapTram (zz @S_mapSeen (zz @List.length_append.{0} (zz @Nat.mul_one (zz @Int.toNat_natCast (zz @bZ (zz @bY (@lB))))))))))))))
def eL(σ:St)(v:Net)(b:Nat)(A:List K5):St:=σ++[.cells (netCells v),.map (tEs v A),.cells (db v b (σ.length+1))]
theorem aG7(σ:St)(v:Net)(b:Nat):MemAt (eL σ v b) (db v b (σ.length+1)) (tEs v) (σ.length+2) (σ.length+1) (σ.length+3) :=
 ⟨fun M=>by simp[eL],fun M=>by simp[eL,nG,vF,Z6],fun M=>by rw[eL,mZ];rfl,fun M M'=>by rw[eL,eL,m5];rfl,fun A k=>wX v A k,by omega,by omega⟩
theorem tQ(v:Net)(hf:Fits v):cV T 190 [encNet v] (sE (pQ v)):=by
 refine aR (af:=YQ) rfl (by simp[YQ]) dd ?_;try simp only[↓QA,QB,seval,bW,YQ]
 (refine aD (n8 v hf) rfl dd ?_;try simp only[↓QA,QB,seval,bW,enc3])
 cases h0:((check v).2.2==0)
 ·have h0':(check v).2.2≠0:=by simpa using h0
  have hwo:pQ v=([],(check v).2.2):=if_neg h0';rw[hwo];try simp only[↓QA,QB,seval,bW,h0,sE]
  try rfl
 ·have h0':(check v).2.2=0:=by simpa using h0
  have hwo:pQ v=(qR v,0):=if_pos h0';have hv:=vd_of_check h0';have hnl:=hv.nse;have hwf:=vL hv;rw[<-YN _ _ (by omega)] at hwf;rw[hwo];obtain⟨W,hW⟩:∃ W,qR v=W:=⟨_,rfl⟩;rw[hW] at hwf ⊢;obtain⟨n,hn⟩:∃ n,v.seen.length=n:=⟨_,rfl⟩;rw[hn] at hwf hnl;have hp:2^n<=2^3:=Nat.pow_le_pow_right (by omega) hnl;have hshl:=rB n (by omega);obtain⟨P,hP⟩:∃ P,2^n=P:=⟨_,rfl⟩;have hbl:∀ s,s<P->ButIs s (lst n s):=fun s hs=>T7 (by omega) (by omega)
  rw[hP] at hp hshl hwf;obtain⟨q,hq⟩:∃ q,lA v=q:=⟨_,rfl⟩;have hqd:∀ l,(!(truths v l).isEmpty)=q l:=fun l=>by rw[<-hq];rfl
  rw[hq] at hwf;try simp only[↓QA,QB,seval,bW,h0,hn,hshl]
  refine bC (S:=Nat×Option (List Int)) (0,none) (fun x=>x.1<=P/\lQ q n (P-x.1) x.1 x.2=some W/\(x.2.getD []).length<=n) (fun x=>P-x.1)
   (fun x=>[(1,.ptr 0 0),(2,ints (x.2.getD [])),(4,.bool x.2.isSome),(19,.int .i64 P),(20,.int .i64 x.1)])
   (fun x=>[.cells (netCells v)]) ⟨by simp,by simpa using hwf,by simp⟩ (by simp[netCells,ints]) ?_ fun x hx=>?_
  ·try simp only[aB,QE,seval,bW,ints,Option.getD_none,Option.isSome_none]
   try simp[clr,clrs]
  ·obtain⟨s,o⟩:=x;obtain⟨hs,hfo,hol⟩:=hx;simp only at hs hfo hol;try simp only[↓QA,QB,seval,bW,aCE]
   refine aE (fun h=>?_) fun h=>?_
   ·have hs1:s<P:=by simpa using h
    have hw:=bD hs1 (by omega);have hll:=BC n s;have hlk:=PR [.cells (netCells v)] v s;have hso:=JX (aG7 [.cells (netCells v)] v s) hv (hbl s hs1) [];have e0:tEs v []=[]:=rfl;rw[hqd] at hso;have hlo:=xG s n (by omega) (by omega);rw[show P-s=(P-(s+1))+1 by omega] at hfo;simp only[lQ] at hfo;obtain⟨L,hL⟩:∃ L,lst n s=L:=⟨_,rfl⟩;rw[hL] at hfo hll hlo hso;obtain⟨qL,hqL⟩:∃ x,q L=x:=⟨_,rfl⟩;rw[hqL] at hso;simp only[eL,HF,e0] at hso hlk;try simp only[↓QA,QB,seval,bW,List.cons_append,List.nil_append,List.length_cons,List.length_nil] at hso hlk
    try simp only[↓QA,QB,seval,bW,hn,Option.getD_some]
    (refine aD (hlo) rfl dd ?_;try simp only[↓QA,QB,seval,bW])
    cases o with
    |none =>
     have hst:gZ q none L=if q L=true then some L else none:=rfl
     try simp only[↓QA,QB,seval,bW,Option.isSome_none,Option.getD_none]
     refine cB hlk ?_;try simp only[↓QA,QB,seval,bW]
     refine cB hso ?_;try simp only[↓QA,QB,seval,bW]
     cases qL
     ·rw[hqL] at hst;simp only[Bool.false_eq_true,if_false] at hst;rw[hst] at hfo;try simp only[↓QA,QB,seval,bW,hw]
      refine⟨(s+1,none),⟨by simp only;omega,hfo,by simp⟩,by simp only;omega,?_⟩;try simp only[aB,QE,seval,bW,hw,Option.isSome_none,Option.getD_none]
      try simp[ints,aF]
     ·rw[hqL] at hst;simp only[if_true] at hst;rw[hst] at hfo;try simp only[↓QA,QB,seval,bW,hw]
      refine⟨(s+1,some L),⟨by simp only;omega,hfo,by simpa using hll⟩,by simp only;omega,?_⟩;try simp only[aB,QE,seval,bW,hw,Option.isSome_some,Option.getD_some]
      try simp[ints,aF]
    |some b =>
     simp only[Option.getD_some] at hol;simp only[Option.isSome_some,tI];try simp only[↓QA,QB,seval,bW,Option.isSome_some,Option.getD_some]
     have fin:∀ (hfw:dJ b L=false),gZ q (some b) L=if q L=true then some L else some b:=fun hfw=>by simp only[gZ,hfw];rfl
     cases h1:decide ((b.length:Int)<(L.length:Int))
     ·have h1':¬b.length<L.length:=by simpa using h1
      try simp only[↓QA,QB,seval,bW,Option.getD_some,h1]
      cases h2:((L.length:Int)==(b.length:Int))
      ·have h2':¬b.length=L.length:=by intro h;rw[h] at h2;simp at h2
       have hst:=fin (by simp[dJ,h1',h2']);try simp only[↓QA,QB,seval,bW,h2]
       refine cB hlk ?_;try simp only[↓QA,QB,seval,bW]
       refine cB hso ?_;try simp only[↓QA,QB,seval,bW]
       cases qL
       ·rw[hqL] at hst;simp only[Bool.false_eq_true,if_false] at hst;rw[hst] at hfo;try simp only[↓QA,QB,seval,bW,hw]
        refine⟨(s+1,some b),⟨by simp only;omega,hfo,by simpa using hol⟩,by simp only;omega,?_⟩;try simp only[aB,QE,seval,bW,hw,Option.isSome_some,Option.getD_some]
        try simp[ints,aF]
       ·rw[hqL] at hst;simp only[if_true] at hst;rw[hst] at hfo;try simp only[↓QA,QB,seval,bW,hw]
        refine⟨(s+1,some L),⟨by simp only;omega,hfo,by simpa using hll⟩,by simp only;omega,?_⟩;try simp only[aB,QE,seval,bW,hw,Option.isSome_some,Option.getD_some]
        try simp[ints,aF]
      ·have h2':b.length=L.length:=by simp at h2;omega
       try simp only[↓QA,QB,seval,bW,Option.getD_some,h2]
       (refine aD (BX L b (by omega) (by omega)) rfl dd ?_;try simp only[↓QA,QB,seval,bW,tR,Option.getD_some])
       cases h3:less b L
       ·have hst:=fin (by simp[dJ,h2',h3]);try simp only[↓QA,QB,seval,bW,h3]
        refine cB hlk ?_;try simp only[↓QA,QB,seval,bW]
        refine cB hso ?_;try simp only[↓QA,QB,seval,bW]
        cases qL
        ·rw[hqL] at hst;simp only[Bool.false_eq_true,if_false] at hst;rw[hst] at hfo;try simp only[↓QA,QB,seval,bW,hw]
         refine⟨(s+1,some b),⟨by simp only;omega,hfo,by simpa using hol⟩,by simp only;omega,?_⟩;try simp only[aB,QE,seval,bW,hw,Option.isSome_some,Option.getD_some]
         try simp[ints,aF]
        ·rw[hqL] at hst;simp only[if_true] at hst;rw[hst] at hfo;try simp only[↓QA,QB,seval,bW,hw]
         refine⟨(s+1,some L),⟨by simp only;omega,hfo,by simpa using hll⟩,by simp only;omega,?_⟩;try simp only[aB,QE,seval,bW,hw,Option.isSome_some,Option.getD_some]
         try simp[ints,aF]
       ·have hfw:dJ b L=true:=by simp[dJ,h2',h3]
        have hst:gZ q (some b) L=some b:=by simp only[gZ,hfw,if_true]
        rw[hst] at hfo;try simp only[↓QA,QB,seval,bW,h3,hw]
        refine⟨(s+1,some b),⟨by simp only;omega,hfo,by simpa using hol⟩,by simp only;omega,?_⟩;try simp only[aB,QE,seval,bW,hw,Option.isSome_some,Option.getD_some]
        try simp[ints,aF]
     ·have h1':b.length<L.length:=by simpa using h1
      have h2':¬b.length=L.length:=by omega
      have hfw:dJ b L=true:=by simp[dJ,h1',h2']
      have hst:gZ q (some b) L=some b:=by simp only[gZ,hfw,if_true]
      rw[hst] at hfo;try simp only[↓QA,QB,seval,bW,h1,hw]
      refine⟨(s+1,some b),⟨by simp only;omega,hfo,by simpa using hol⟩,by simp only;omega,?_⟩;try simp only[aB,QE,seval,bW,hw,Option.isSome_some,Option.getD_some]
      try simp[ints,aF]
   ·have hs1:s=P:=by simp at h;omega
    rw[hs1,Nat.sub_self] at hfo;simp only[lQ] at hfo;subst hfo;try simp only[↓QA,QB,seval,bW,sE,Option.getD_some]
    try try simp only[QS,QC,seval,bW]
end Go.Am.Room.Tr
namespace Go.Am.Room.Tr
def U2:=zz @aJ (@List.length_append.{0})
theorem fG(a b:Int):cV T 192 [.int .i64 a,.int .i64 b] (cG ⟨a,b⟩):=by
 refine aR (af:=aCU) rfl (by simp[aCU]) dd ?_;try simp only[↓QA,QB,seval,U2,aCU]
def u8s(l:List Int):AV:=.lit (l.map (.int .u8)) false none
theorem GC(l:List Int):j8 (u8s l):=gG (bJ .u8) l
instance (l:List Int):Dat (u8s l):=⟨GC l⟩
end Go.Am.Room.Tr
namespace Go.Am.Room.Tr
def iU:=zz @encNet_eq (zz @netCells_eq (zz @encRail_eq (zz @encTram_eq (zz @encSeen_eq (zz @aJ (zz @S_mapRail (zz @S_mapTram (zz @S_mapSeen (zz @bZ (@List.length_append.{0}))))))))))
theorem J0(p n:Int):cV T 182 [.int .i64 p,.int .i64 n] (encSeen ⟨p,n⟩):=by
 refine aR (af:=aAA) rfl (by simp[aAA]) dd ?_;try simp only[↓QA,QB,seval,iU,aAA]
theorem BK(o:Bool)(l:List Seen):cV T 181 [.bool o,.lit (l.map encSeen) false none] (encNet (exN o l)):=by
 refine aR (af:=ZH) rfl (by simp[ZH]) dd ?_
 (repeat (first|simp only[↓QA,QB,seval,iU,ZH]|refine rd0 rfl ?_))
 ((first|refine aD (fG 5 6) rfl dd ?_|refine aG (fG 5 6) rfl dd ?_);(repeat (first|simp only[↓QA,QB,seval,iU]|refine rd0 rfl ?_)))
 ((first|refine aD (fG 4 4) rfl dd ?_|refine aG (fG 4 4) rfl dd ?_);(repeat (first|simp only[↓QA,QB,seval,iU]|refine rd0 rfl ?_)))
 ((first|refine aD (fG 12 12) rfl dd ?_|refine aG (fG 12 12) rfl dd ?_);(repeat (first|simp only[↓QA,QB,seval,iU]|refine rd0 rfl ?_)))
 ((first|refine aD (fG 3 3) rfl dd ?_|refine aG (fG 3 3) rfl dd ?_);(repeat (first|simp only[↓QA,QB,seval,iU]|refine rd0 rfl ?_)))
 cases o
 ·(repeat (first|simp only[↓QA,QB,seval,iU,exN,XB,QI,List.map_cons,List.map_nil]|refine rd0 rfl ?_))
  simp[N2,lS,aH,yP,aM,AV.cells,AV.cell,C1,MJ,T3,TK,TX,L5,S_mapSeen,ints]
 ·have i0:(0:Int)<=0/\(0:Int)<((4:Nat):Int):=by decide
  have i2:(0:Int)<=2/\(2:Int)<((4:Nat):Int):=by decide
  (repeat (first|simp only[↓QA,QB,seval,iU,exN,XB,QI,List.map_cons,List.map_nil,i0,i2,List.flatMap_cons,List.flatMap_nil,AV.cells,Int.toNat_zero,show (2:Int).toNat=2 from rfl]|refine rd0 rfl ?_))
  simp[N2,lS,aH,yP,aM,AV.cells,AV.cell,C1,MJ,T3,TK,TX,L5,S_mapSeen,ints]
theorem bF(o:Bool)(l:List Seen)(h:l.length<=100:=by decide):Fits (exN o l):=⟨by simp[exN],by simp[exN],by simp[exN];omega,fun k hk=>by
 simp only[exN,List.mem_cons,List.not_mem_nil,or_false] at hk;rcases hk with rfl|rfl<;>decide,fun k hk=>by
 simp only[exN,List.mem_cons,List.not_mem_nil,or_false] at hk
 rcases hk with rfl|rfl<;>decide⟩
def someV(v:Net):Bool:=decide ((check v).2.2=0)&&lA v []
theorem aIK(a b:List (List Int))(ha:a.length<9223372036854775808)(hb:b.length<9223372036854775808)(hl:∀ r∈a,r.length<9223372036854775808)(hm:∀ r∈b,r.length<9223372036854775808):cV T 191 [aY a,aY b] (.bool (decide (a=b))):=by
 refine aR (af:=aDJ) rfl (by simp[aDJ]) dd ?_;have hlb:=aF7 a.length b.length
 (repeat (first|simp only[↓QA,QB,seval,iU,aDJ,cT]|refine rd0 rfl ?_))
 refine bC (S:=Nat×Bool) (0,decide (a.length=b.length)) (fun x=>x.1<=a.length/\(x.2=true->a.length=b.length/\a.take x.1=b.take x.1)/\(x.2=false->a≠b)) (fun x=>a.length+1-x.1-(if x.2=true then 0 else 1))
  (fun x=>[(0,aY a),(1,aY b),(5,.bool x.2),(6,.int .i64 x.1)]) (fun _=>[]) ⟨by simp,by simp,fun h e=>by rw[e] at h;simp at h⟩ rfl ?_ fun x hx=>?_
 ·try simp only[aB,QE,seval,iU,cT,hlb]
  try simp
 ·obtain⟨k,o⟩:=x;obtain⟨hk,h1,h2⟩:=hx;simp only at hk h1 h2
  (repeat (first|simp only[↓QA,QB,seval,iU,aEE,cT]|refine rd0 rfl ?_))
  cases o
  ·have hne:=h2 rfl;have:decide (a=b)=false:=by simpa using hne
   rw[this]
   (repeat (first|simp only[↓QA,QB,seval,iU]|refine rd0 rfl ?_))
  ·obtain⟨hle,htk⟩:=h1 rfl
   (repeat (first|simp only[↓QA,QB,seval,iU,cT]|refine rd0 rfl ?_))
   refine aE (fun h=>?_) fun h=>?_
   ·have hk1:k<a.length:=by simpa using h
    have hk2:k<b.length:=by omega
    have hw:=bD hk1 ha;have hio:=gK a[k] b[k] (hl _ (List.getElem_mem hk1)) (hm _ (List.getElem_mem hk2))
    (repeat (first|simp only[↓QA,QB,seval,iU,hk1,hk2,cT]|refine rd0 rfl ?_))
    ((first|refine aD (hio) rfl dd ?_|refine aG (hio) rfl dd ?_);(repeat (first|simp only[↓QA,QB,seval,iU,hk1,hk2]|refine rd0 rfl ?_)))
    refine⟨(k+1,decide (a[k]=b[k])),⟨by simp only;omega,fun q=>⟨hle,?_⟩,fun q e=>?_⟩,?_,?_⟩
    ·rw[List.take_succ_eq_append_getElem hk1,List.take_succ_eq_append_getElem hk2,htk];simp only[decide_eq_true_eq] at q;rw[q]
    ·subst e;simp at q
    ·simp only;split<;>omega
    ·try simp only[aB,QE,seval,iU,hw,cT]
   ·have hk1:k=a.length:=by simp at h;omega
    have:a=b:=by
     rw[hk1,List.take_length] at htk;rw[htk,hle,List.take_length]
    rw[decide_eq_true this]
    (repeat (first|simp only[↓QA,QB,seval,iU]|refine rd0 rfl ?_))
theorem DH{v:Net}{but:List Int}:lA v but=true↔truths v but≠[]:=by
 rw[lA];cases truths v but<;>simp
theorem some_iff{v:Net}:someV v=true↔(check v).2.2=0/\truths v []≠[]:=by
 rw[someV,Bool.and_eq_true,decide_eq_true_eq,DH]
theorem aKD{v:Net}(hs:someV v=true){t:Nat}(ht:t<v.trams.length):m9 v (t:Int)=0:=by
 obtain⟨hc,hne⟩:=some_iff.1 hs;have hin:inR (t:Int) 0 ((v.trams.length:Int)-1)=true:=c9.2 (by omega);simp[m9,bS,hc,hne,hin]
theorem comes_tr{v:Net}(hs:someV v=true){t:Nat}(ht:t<v.trams.length):comesR v (t:Int)=((comesS (atsIn v (truths v []) t)).1,(comesS (atsIn v (truths v []) t)).2,0):=by
 rw[comesR,if_pos (aKD hs ht),Int.toNat_natCast]
theorem aEI{l:List Int}{c:Int}:c∈fJ l↔c∈l/\c≠-1:=by
 rw[fJ,List.mem_filter];simp
theorem comes_span{l:List Int}{c:Int}(h:c∈l)(hc:c≠-1):(comesS l).1.lo<=c/\c<=(comesS l).1.hi:=by
 have hm:=aEI.2 ⟨h,hc⟩;exact (kS (List.ne_nil_of_mem hm)).2.2 _ hm
theorem how_must{l:List Int}(h:l≠[]):(comesS l).2=1↔∀ c∈l,c≠-1:=by
 simp only[comesS,fF];have hf:(fJ l).length=l.length↔∀ c∈l,c≠-1:=by
  rw[fJ,List.length_filter_eq_length_iff];simp
 constructor
 ·intro q;split at q
  ·rename_i q2;exact hf.1 (by simpa using q2)
  ·split at q<;>cases q
 ·intro q;rw[if_pos (by have:=hf.2 q;simpa using this)]
end Go.Am.Room.Tr
namespace Go.Am.Room.Fa
theorem aA8{v:Farm}{ts:List Truth}{p d:Nat}:eG v ts p d=1↔∀ n∈dO ts p d,∀ w,v.way.lo<=w->w<=v.way.hi->v.full<=n/\n+w<=v.ripe:=by
 rw[eG,oY];simp only[kF,uT,List.mem_flatMap,List.mem_map,jV];constructor
 ·intro h n hn w hw0 hw1;have:=h (nF v n w) ⟨n,hn,w,⟨hw0,hw1⟩,rfl⟩;simpa[nF] using this
 ·rintro h _ ⟨n,hn,w,⟨hw0,hw1⟩,rfl⟩;have:=h n hn w hw0 hw1;simpa[nF] using this
theorem YY{v:Farm}(hv:Vd v){ts:List Truth}(hts:∀ t∈ts,TOk v t)(hne:ts≠[]){p d:Nat}(hp:p<v.plots.length):kF v ts p d≠[]:=by
 have hfn:=xT hts hne hp d;rw[kF];cases hfi:dO ts p d with
 |nil=>exact absurd hfi hfn
 |cons a b =>
  have:jY v.way≠[]:=List.ne_nil_of_mem (jV.2 ⟨Int.le_refl _,hv.way.2.1⟩);simp[uT,this]
theorem aEB{v:Farm}(hv:Vd v){ts:List Truth}(hts:∀ t∈ts,TOk v t)(hne:ts≠[]){p d:Nat}(hp:p<v.plots.length):eG v ts p d=2↔∀ n∈dO ts p d,∀ w,v.way.lo<=w->w<=v.way.hi->¬(v.full<=n/\n+w<=v.ripe):=by
 have hgne:=YY hv hts hne (d:=d) hp;rw[eG,n7];simp only[kF,uT,List.mem_flatMap,List.mem_map,jV];constructor
 ·rintro⟨_,h⟩ n hn w hw0 hw1 hc;have:=h (nF v n w) ⟨n,hn,w,⟨hw0,hw1⟩,rfl⟩;simp[nF,hc.1,hc.2] at this
 ·intro h;refine⟨hgne,?_⟩;rintro _ ⟨n,hn,w,⟨hw0,hw1⟩,rfl⟩;have:=h n hn w hw0 hw1;rw[id,Bool.eq_false_iff];intro hc;simp[nF] at hc;exact this hc
theorem RW(v:Farm)(ts:List Truth)(p d:Nat):eG v ts p d=0\/eG v ts p d=1\/eG v ts p d=2:=lG _ _
end Go.Am.Room.Fa
