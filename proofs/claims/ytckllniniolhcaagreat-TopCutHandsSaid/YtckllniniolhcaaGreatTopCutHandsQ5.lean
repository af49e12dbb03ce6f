/- A part of the proof of TopCutHands: an abstract machine, or what functions come to on it. -/
import Derived.Test.YtckllniniolhcaaGreatTopCutHandsQ4
open Nat (reduceLT reduceEqDiff reduceAdd reduceLeDiff reduceMul)
set_option linter.unusedVariables false
set_option linter.unusedSimpArgs false
set_option linter.defProp false
set_option maxRecDepth 8000
namespace Go.Am.Room.Fa
def aP:=zz @bR (zz @aH (zz @bS (zz @bQ (zz @aR (zz @cB (zz @cA (zz @cC (zz @List.length_append.{0} (zz @Nat.mul_one (zz @Int.toNat_natCast (zz @eJ (zz @jZ (zz @gT (zz @gZ (zz @hJ (zz @gR (zz @gS (zz @gW (zz @gY (zz @gV (zz @gX (@tF))))))))))))))))))))))
set_option maxHeartbeats 2000000 in
theorem pB(v:Farm)(da hands:Int)(hf:Fits v):cE T 26 [encFarm v,.int .i64 da,.int .i64 hands] (mA (mF v da hands)):=by
 refine aZ (af:=a26) rfl (by simp[a26]) dd ?_;obtain⟨E,hE⟩:∃ E,mX v da hands=E:=⟨_,rfl⟩;have hask:=RA v da hands;rw[hE] at hask;have hun:=fun σ=>qW [da,(v.rain.length:Int),hands,400] σ
 have hu1:=fun (q:Nat) (σ:St) hq=>nY [da,(v.rain.length:Int),hands,400] (by simp) q σ hq
 simp only[tH,List.map_cons,List.map_nil] at hun hu1
 (repeat (first|simp only[↓QA,QB,seval,aP,a26]|refine rd0 rfl ?_))
 refine iC (hun _) ?_
 (repeat (first|simp only[↓QA,QB,seval,aP]|refine rd0 rfl ?_))
 by_cases h0':E=0
 ·subst h0';have hE2:=hE;obtain⟨hw,hne⟩:=iV hE2;obtain⟨hw2,hh0,hh1⟩:=pP hw;obtain⟨ha,hd0,hd1⟩:=pP hw2;have hv:=vd_of_check ha;have hnr:=hv.nra;have hnp:=hv.npl;have hwy:=hv.way;have hm:mF v da hands=uV v (aO v []) da.toNat (mI v (aO v []) da.toNat hands):=by rw[mF,hE,if_pos rfl]
  rw[hm];simp only[eI] at hd1;obtain⟨d,rfl⟩:∃ d:Nat,da=d:=⟨da.toNat,by omega⟩;rw[Int.toNat_natCast];have hen:=nL hf (plot:=-1099511627776) (eo:=jK [(d:Int),(v.rain.length:Int),hands,400]) (F:=.func 233 [] [.ptr 1 0]) (σ:=[.cells (aB v),.cells [.lit [.int .i64 d,.int .i64 v.rain.length,.int .i64 hands,.int .i64 400] true none]]) (fun τ=>hu1 _ _ rfl) hask;have hgo:=fun (P:Nat) (hP:P<v.plots.length) (τ:St)=>qS v hv (aO v []) (fun t ht=>CO hv ht) hne 0 4 5 ([.cells (aB v),.cells [.lit [.int .i64 d,.int .i64 v.rain.length,.int .i64 hands,.int .i64 400] true none],.cells (aB v),.cells (aB v),.map ((aO v []).map kvT),.cells (db v 0 4)]++τ) ⟨rfl,rfl⟩ P d hP (by omega)
  have hsb:=fun (P:Nat) (hP:P<v.plots.length)=>B4 hv (fun t ht=>BN hv (but:=[]) ht) hne hP (show d<=v.rain.length by omega)
  try simp only[↓QA,QB,seval,aP,eB,List.cons_append,List.nil_append,List.length_cons,List.length_nil] at hen
  refine iC hen ?_;have hee:=UO (q:=fun c=>jE v (aO v []) c d hands) (sh:=fun c=>(aU v (aO v []) c d).length) (show v.plots.length<=6 by omega);rw[<-C8] at hee;have hei:mI v (aO v []) d hands=(uG v.plots.length).foldl (nP (fun c=>jE v (aO v []) c d hands) (fun c=>(aU v (aO v []) c d).length)) none:=hee;have hhands:=fun (p:Nat) (hp:p<v.plots.length)=>(D9 hv hp).2
  obtain⟨ts,hts⟩:∃ ts,aO v []=ts:=⟨_,rfl⟩;rw[hts] at hne ⊢;simp only[hts] at hei;simp only[hts,aH,List.cons_append,List.nil_append] at hgo;simp only[hts] at hsb;obtain⟨R,hR⟩:∃ R,mI v ts d hands=R:=⟨_,rfl⟩;rw[hR] at hei ⊢;obtain⟨f,hfe⟩:∃ f,nP (fun c=>jE v ts c d hands) (fun c=>(aU v ts c d).length)=f:=⟨_,rfl⟩;rw[hfe,uG] at hei;have hfst:∀ o c,f o c=nP (fun c=>jE v ts c d hands) (fun c=>(aU v ts c d).length) o c:=fun o c=>by rw[hfe]
  have hcp:=fun b0 b1 b2 b3 b4 b5=>MV b0 b1 b2 b3 b4 b5 v.plots
  have hfh:=fun (k:Nat) (hk:k<v.plots.length)=>C1 v.plots k hk
  have hPCo:∀ k,okVs k (fL kD v.plots):=fun k=>vE iW k (FI k) v.plots
  have hPCl:=pL iW v.plots;obtain⟨PC,hPC⟩:∃ PC,fL kD v.plots=PC:=⟨_,rfl⟩;rw[hPC] at hPCl;simp only[hPC] at hcp hfh hPCo;obtain⟨n,hn⟩:∃ n,v.plots.length=n:=⟨_,rfl⟩;have hmk:v4 40 (.int .i64 n) (.int .i64 n)=some n:=by simp[v4,room];omega
  simp only[KK,hn] at hcp;rw[hn] at hnp hei hPCl;have hp:2^n<=2^4:=Nat.pow_le_pow_right (by omega) hnp;have hshl:=yM n (by omega);obtain⟨Q,hQ⟩:∃ Q,2^n=Q:=⟨_,rfl⟩;rw[hQ] at hp hshl hei
  (repeat (first|simp only[↓QA,QB,seval,aP,hn,hmk,hcp]|refine rd0 rfl ?_))
  refine b9 (S:=Nat×Nat×Nat) (0,0,0) (fun a=>a.1<=n/\vR a.1 (fun p=>lX v ts p d) a.2.1/\vR a.1 (fun p=>!GX v ts p d) a.2.2) (fun a=>n-a.1)
   (fun a=>[(1,.int .i64 d),(2,.int .i64 hands),(3,.ptr 0 0),(6,.lit [] false none),(7,.lit [] false none),(9,.ptr 5 0),(10,.int .i64 a.2.1),(11,.int .i64 a.2.2),(12,.ref 6 0 n 4),(47,.int .i64 n),(48,.int .i64 a.1)])
   (fun a=>[.cells (aB v),.cells [.lit [.int .i64 d,.int .i64 v.rain.length,.int .i64 hands,.int .i64 400] true none],.cells (aB v),.cells (aB v),.map (ts.map kvT),.cells (db v 0 4),.cells PC]) ⟨Nat.zero_le _,⟨by simp,fun i=>by simp⟩,⟨by simp,fun i=>by simp⟩⟩ (by simp[aH]) ?_ fun a ha=>?_
  ·try simp only[aD,QE,seval,aP,fO (show 6<7 by omega)]
   try simp[clr,clrs]
  ·obtain⟨k,g,th⟩:=a;obtain⟨hk,hg,hth⟩:=ha;simp only at hk hg hth
   (repeat (first|simp only[↓QA,QB,seval,aP,aC3]|refine rd0 rfl ?_))
   refine aF (fun h=>?_) fun h=>?_
   ·have hk1:k<n:=by simpa using h
    have hw:=bJ hk1 (by omega);have hgk:=hgo k (by omega);have hb:=hsb k (by omega);obtain⟨g1,g2⟩:=E2 hg;obtain⟨t1,t2⟩:=E2 hth;have hge:lX v ts k d=decide ((jV ts k d).hi+v.way.hi<=v.ripe):=rfl;have hwe:(!GX v ts k d)=decide ((jV ts k d).lo<v.full):=by
     rw[GX,Bool.eq_iff_iff];simp
    simp only[hge] at g1 g2;simp only[hwe] at t1 t2;obtain⟨s,hs⟩:∃ s,jV ts k d=s:=⟨_,rfl⟩;simp only[hs] at hgk hb g1 g2 t1 t2;have hwx:IntKind.i64.wrap (s.hi+v.way.hi)=s.hi+v.way.hi:=bL ⟨by omega,by omega⟩;have hg4:g<16:=Nat.lt_of_lt_of_le hg.1 (show 2^k<=2^4 from Nat.pow_le_pow_right (by omega) (by omega));have ht4:th<16:=Nat.lt_of_lt_of_le hth.1 (show 2^k<=2^4 from Nat.pow_le_pow_right (by omega) (by omega));have hk4:2^k<=2^4:=Nat.pow_le_pow_right (by omega) (by omega);have vsh:=yM k (by omega);have vog:=WG g (2^k) (by omega) (by omega);have vot:=WG th (2^k) (by omega) (by omega)
    (repeat (first|simp only[↓QA,QB,seval,aP]|refine rd0 rfl ?_))
    refine aT (hgk _) ?_;cases h5:decide (s.hi+v.way.hi<=v.ripe)
    ·cases h6:decide (s.lo<v.full)
     ·(repeat (first|simp only[↓QA,QB,seval,aP,hwx,h5,h6,hw]|refine rd0 rfl ?_))
      refine⟨(k+1,g,th),⟨by simp only;omega,g2 h5,t2 h6⟩,by simp only;omega,?_⟩;try simp only[aD,QE,seval,aP,hw,fO (show 6<7 by omega)]
      try simp[aY]
     ·(repeat (first|simp only[↓QA,QB,seval,aP,hwx,h5,h6,vsh,vot,hw]|refine rd0 rfl ?_))
      refine⟨(k+1,g,th|||2^k),⟨by simp only;omega,g2 h5,t1 h6⟩,by simp only;omega,?_⟩;try simp only[aD,QE,seval,aP,hw,fO (show 6<7 by omega)]
      try simp[aY]
    ·cases h6:decide (s.lo<v.full)
     ·(repeat (first|simp only[↓QA,QB,seval,aP,hwx,h5,h6,vsh,vog,hw]|refine rd0 rfl ?_))
      refine⟨(k+1,g|||2^k,th),⟨by simp only;omega,g1 h5,t2 h6⟩,by simp only;omega,?_⟩;try simp only[aD,QE,seval,aP,hw,fO (show 6<7 by omega)]
      try simp[aY]
     ·(repeat (first|simp only[↓QA,QB,seval,aP,hwx,h5,h6,vsh,vog,vot,hw]|refine rd0 rfl ?_))
      refine⟨(k+1,g|||2^k,th|||2^k),⟨by simp only;omega,g1 h5,t1 h6⟩,by simp only;omega,?_⟩;try simp only[aD,QE,seval,aP,hw,fO (show 6<7 by omega)]
      try simp[aY]
   ·have hk1:k=n:=by simp at h;omega
    rw[hk1] at hg hth;have hg4:g<16:=Nat.lt_of_lt_of_le hg.1 (by omega);have ht4:th<16:=Nat.lt_of_lt_of_le hth.1 (by omega)
    (repeat (first|simp only[↓QA,QB,seval,aP,hshl]|refine rd0 rfl ?_))
    refine b9 (S:=Nat×Option (List Int)) (0,none) (fun a=>a.1<=Q/\(((List.range Q).drop a.1).map (lst n)).foldl f a.2=R/\(a.2.getD []).length<=n) (fun a=>Q-a.1)
     (fun a=>[(2,.int .i64 hands),(6,aG (a.2.getD [])),(7,aG (aU v ts (a.2.getD []) d)),(10,.int .i64 g),(11,.int .i64 th),(12,.ref 6 0 n 4),(15,.bool a.2.isSome),(80,.int .i64 Q),(81,.int .i64 a.1)])
     (fun a=>[.cells (aB v),.cells [.lit [.int .i64 d,.int .i64 v.rain.length,.int .i64 hands,.int .i64 400] true none],.cells (aB v),.cells (aB v),.map (ts.map kvT),.cells (db v 0 4),.cells PC]) ⟨Nat.zero_le _,by simpa using hei.symm,by simp⟩ (by simp[aH]) ?_ fun a ha=>?_
    ·have hso:aU v ts [] d=[]:=rfl;try simp only[aD,QE,seval,aP,fO (show 6<7 by omega),Option.getD_none,Option.isSome_none,hso,aG,hk1]
     try simp[clr,clrs]
    ·obtain⟨s,o⟩:=a;obtain⟨hs,hq,hol⟩:=ha;simp only at hs hq hol
     (repeat (first|simp only[↓QA,QB,seval,aP,aD2]|refine rd0 rfl ?_))
     refine aF (fun h2=>?_) fun h2=>?_
     ·have hs1:s<Q:=by simpa using h2
      have hw:=bJ hs1 (by omega);have hs2:s<2^n:=by omega
      have hr1:s<(List.range Q).length:=by simpa using hs1
      rw[List.drop_eq_getElem_cons hr1,List.getElem_range,List.map_cons,List.foldl_cons,hfst] at hq;have hll:=AO n s;have hlr:∀ x∈lst n s,0<=x/\x<n:=fun x hx=>by have:=(w6.1 hx).1;omega
      have hn1:=kU s n (by omega) (by omega);have hn2:=kU (s &&& th) n (Nat.lt_of_le_of_lt Nat.and_le_left (by omega)) (by omega);have hla:lst n (s &&& th)=aU v ts (lst n s) d:=aBE hth;rw[hla] at hn2;have vand:=aKO s th (by omega) (by omega);have vann:=T4 s g (by omega) (by omega);have hzi:=T0 hs2 (by omega) hg;have hslen:(aU v ts (lst n s) d).length<=n:=Nat.le_trans (List.length_filter_le _ _) hll;obtain⟨L,hL⟩:∃ L,lst n s=L:=⟨_,rfl⟩;rw[hL] at hq hll hlr hn1 hn2 hzi hslen;have hzb:(((HB s g:Nat):Int)==0)=L.all (fun p=>lX v ts p.toNat d):=by
       rw[Bool.eq_iff_iff,List.all_eq_true,<-hzi];simp
      obtain⟨SL,hSL⟩:∃ SL,aU v ts L d=SL:=⟨_,rfl⟩;rw[hSL] at hn2 hslen;obtain⟨H,hH⟩:∃ H,lF v L=H:=⟨_,rfl⟩;have hdo:jE v ts L d hands=(decide (hands<=H)&&L.all fun p=>lX v ts p.toNat d):=by rw[jE,hH]
      (repeat (first|simp only[↓QA,QB,seval,aP]|refine rd0 rfl ?_))
      ((first|refine aE (hn1) rfl dd ?_|refine aN (hn1) rfl dd ?_);(repeat (first|simp only[↓QA,QB,seval,aP,vand]|refine rd0 rfl ?_)))
      ((first|refine aE (hn2) rfl dd ?_|refine aN (hn2) rfl dd ?_);(repeat (first|simp only[↓QA,QB,seval,aP,aG]|refine rd0 rfl ?_)))
      refine b9 (S:=Nat×Int) (0,0) (fun a=>a.1<=L.length/\a.2+lF v (L.drop a.1)=H/\0<=a.2/\a.2<=99*a.1) (fun a=>L.length-a.1)
       (fun a=>[(2,.int .i64 hands),(6,aG (o.getD [])),(7,aG (aU v ts (o.getD []) d)),(10,.int .i64 g),(11,.int .i64 th),(12,.ref 6 0 n 4),(15,.bool o.isSome),(16,.int .i64 s),(17,aG L),(18,aG SL),(19,.int .i64 a.2),(80,.int .i64 Q),(81,.int .i64 s),(94,aG L),(95,.int .i64 L.length),(96,.int .i64 a.1)])
       (fun a=>[.cells (aB v),.cells [.lit [.int .i64 d,.int .i64 v.rain.length,.int .i64 hands,.int .i64 400] true none],.cells (aB v),.cells (aB v),.map (ts.map kvT),.cells (db v 0 4),.cells PC]) ⟨Nat.zero_le _,by simpa using hH,Int.le_refl _,by simp⟩ (by simp[aH]) ?_ fun a ha=>?_
      ·try simp only[aD,QE,seval,aP,fO (show 6<7 by omega),aG]
       try simp
      ·obtain⟨j,sum⟩:=a;obtain⟨hj,hsum,hs0,hs9⟩:=ha;simp only at hj hsum hs0 hs9
       (repeat (first|simp only[↓QA,QB,seval,aP,aDU,aG]|refine rd0 rfl ?_))
       refine aF (fun h3=>?_) fun h3=>?_
       ·have hj1:j<L.length:=by simpa using h3
        have hwj:=bJ hj1 (by omega);have hpr:=hlr _ (List.getElem_mem hj1);obtain⟨p,hpe⟩:∃ p:Nat,L[j]=(p:Int):=⟨L[j].toNat,by omega⟩;have hpp:p<v.plots.length:=by omega
        have hfp:=hfh p hpp;have hhp:=hhands p hpp;rw[List.drop_eq_getElem_cons hj1,lF,hpe,H9 hpp] at hsum;obtain⟨y,hy⟩:∃ y,v.plots[p].hands=y:=⟨_,rfl⟩;rw[hy] at hhp hsum hfp;have hwn:IntKind.i64.wrap (sum+y)=sum+y:=bL ⟨by omega,by omega⟩;have i1:(0:Int)<=(p:Int)/\(p:Int)<((n:Nat):Int)/\4=4:=⟨by omega,by omega,rfl⟩
        (repeat (first|simp only[↓QA,QB,seval,aP,hj1,hpe,i1,Nat.zero_add,hfp,hwn,hwj,aG]|refine rd0 rfl ?_))
        refine⟨(j+1,sum+y),⟨by simp only;omega,by simp only;omega,by simp only;omega,by simp only;omega⟩,by simp only;omega,?_⟩;try simp only[aD,QE,seval,aP,hwj,hwn,fO (show 6<7 by omega),aG]
        try simp[aY]
       ·have hj1:j=L.length:=by simp at h3;omega
        rw[hj1,List.drop_length] at hsum;simp only[lF,Int.add_zero] at hsum;subst hsum;cases hga:L.all (fun p=>lX v ts p.toNat d)
        ·have hst:nP (fun c=>jE v ts c d hands) (fun c=>(aU v ts c d).length) o L=o:=by
          have hd0:jE v ts L d hands=false:=by rw[hdo,hga,Bool.and_false]
          simp[nP,hd0]
         rw[hst] at hq
         (repeat (first|simp only[↓QA,QB,seval,aP,vann,hzb,hga,hw,aG]|refine rd0 rfl ?_))
         refine⟨(s+1,o),⟨by simp only;omega,hq,hol⟩,by simp only;omega,?_⟩;try simp only[aD,QE,seval,aP,hw,fO (show 6<7 by omega),aG]
         try simp[aY]
        ·cases hlt:decide (sum<hands)
         ·have hd1:jE v ts L d hands=true:=by
           have:¬sum<hands:=by simpa using hlt
           have e:decide (hands<=sum)=true:=by simp;omega
           rw[hdo,hga,e];rfl
          have hsN:nP (fun c=>jE v ts c d hands) (fun c=>(aU v ts c d).length) none L=some L:=by simp[nP,hd1]
          have hsS:∀ b,nP (fun c=>jE v ts c d hands) (fun c=>(aU v ts c d).length) (some b) L=if SL.length<(aU v ts b d).length\/(SL.length=(aU v ts b d).length/\cU L b=true) then some L else some b:=fun b=>by simp only[nP,hd1,if_true,hSL]
          (repeat (first|simp only[↓QA,QB,seval,aP,vann,hzb,hga,hlt,aG]|refine rd0 rfl ?_))
          cases h1:decide (((SL.length:Nat):Int)<((aU v ts (o.getD []) d).length:Int))
          ·have h1':¬SL.length<(aU v ts (o.getD []) d).length:=by simpa using h1
           (repeat (first|simp only[↓QA,QB,seval,aP,h1,aG]|refine rd0 rfl ?_))
           cases h2:(((SL.length:Nat):Int)==((aU v ts (o.getD []) d).length:Int))
           ·have h2':¬SL.length=(aU v ts (o.getD []) d).length:=by intro h;rw[h] at h2;simp at h2
            have hb:¬(SL.length<(aU v ts (o.getD []) d).length\/(SL.length=(aU v ts (o.getD []) d).length/\cU L (o.getD [])=true)):=by rintro (h|⟨h,_⟩);exact h1' h;exact h2' h
            (repeat (first|simp only[↓QA,QB,seval,aP,h1,h2,aG]|refine rd0 rfl ?_))
            cases o with
            |none =>
             rw[hsN] at hq
             (repeat (first|simp only[↓QA,QB,seval,aP,Option.isSome_none,hw,aG]|refine rd0 rfl ?_))
             refine⟨(s+1,some L),⟨by simp only;omega,hq,by simpa using hll⟩,by simp only;omega,?_⟩;try simp only[aD,QE,seval,aP,hw,fO (show 6<7 by omega),aG,Option.isSome_some,Option.getD_some,hSL]
             try simp[aY]
            |some b =>
             simp only[Option.getD_some] at hol hb;rw[hsS,if_neg hb] at hq
             (repeat (first|simp only[↓QA,QB,seval,aP,Option.isSome_some,Option.getD_some,hw,aG]|refine rd0 rfl ?_))
             refine⟨(s+1,some b),⟨by simp only;omega,hq,by simpa using hol⟩,by simp only;omega,?_⟩;try simp only[aD,QE,seval,aP,hw,fO (show 6<7 by omega),aG,Option.isSome_some,Option.getD_some]
             try simp[aY]
           ·have h2':SL.length=(aU v ts (o.getD []) d).length:=by simp at h2;omega
            (repeat (first|simp only[↓QA,QB,seval,aP,h1,h2,aG]|refine rd0 rfl ?_))
            cases h3:decide (((L.length:Nat):Int)<((o.getD []).length:Int))
            ·have h3':¬L.length<(o.getD []).length:=by simpa using h3
             (repeat (first|simp only[↓QA,QB,seval,aP,h3,aG]|refine rd0 rfl ?_))
             cases h4:(((L.length:Nat):Int)==((o.getD []).length:Int))
             ·have h4':¬L.length=(o.getD []).length:=by intro h;rw[h] at h4;simp at h4
              have hb:¬(SL.length<(aU v ts (o.getD []) d).length\/(SL.length=(aU v ts (o.getD []) d).length/\cU L (o.getD [])=true)):=by
               rintro (h|⟨_,h⟩)
               ·exact h1' h
               ·rw[cU,if_neg h4'] at h;exact h3' (by simpa using h)
              (repeat (first|simp only[↓QA,QB,seval,aP,h3,h4,aG]|refine rd0 rfl ?_))
              cases o with
              |none =>
               rw[hsN] at hq
               (repeat (first|simp only[↓QA,QB,seval,aP,Option.isSome_none,hw,aG]|refine rd0 rfl ?_))
               refine⟨(s+1,some L),⟨by simp only;omega,hq,by simpa using hll⟩,by simp only;omega,?_⟩;try simp only[aD,QE,seval,aP,hw,fO (show 6<7 by omega),aG,Option.isSome_some,Option.getD_some,hSL]
               try simp[aY]
              |some b =>
               simp only[Option.getD_some] at hol hb;rw[hsS,if_neg hb] at hq
               (repeat (first|simp only[↓QA,QB,seval,aP,Option.isSome_some,Option.getD_some,hw,aG]|refine rd0 rfl ?_))
               refine⟨(s+1,some b),⟨by simp only;omega,hq,by simpa using hol⟩,by simp only;omega,?_⟩;try simp only[aD,QE,seval,aP,hw,fO (show 6<7 by omega),aG,Option.isSome_some,Option.getD_some]
               try simp[aY]
             ·have h4':L.length=(o.getD []).length:=by simp at h4;omega
              (repeat (first|simp only[↓QA,QB,seval,aP,h3,h4,aG]|refine rd0 rfl ?_))
              ((first|refine aE (F7 L (o.getD []) (by omega) (by omega)) rfl dd ?_|refine aN (F7 L (o.getD []) (by omega) (by omega)) rfl dd ?_);(repeat (first|simp only[↓QA,QB,seval,aP,K3,h3,h4,aG]|refine rd0 rfl ?_)))
              cases h5:less L (o.getD [])
              ·have hb:¬(SL.length<(aU v ts (o.getD []) d).length\/(SL.length=(aU v ts (o.getD []) d).length/\cU L (o.getD [])=true)):=by
                rintro (h|⟨_,h⟩)
                ·exact h1' h
                ·rw[cU,if_pos h4',h5] at h;cases h
               (repeat (first|simp only[↓QA,QB,seval,aP,h5,aG]|refine rd0 rfl ?_))
               cases o with
               |none =>
                rw[hsN] at hq
                (repeat (first|simp only[↓QA,QB,seval,aP,Option.isSome_none,hw,aG]|refine rd0 rfl ?_))
                refine⟨(s+1,some L),⟨by simp only;omega,hq,by simpa using hll⟩,by simp only;omega,?_⟩;try simp only[aD,QE,seval,aP,hw,fO (show 6<7 by omega),aG,Option.isSome_some,Option.getD_some,hSL]
                try simp[aY]
               |some b =>
                simp only[Option.getD_some] at hol hb;rw[hsS,if_neg hb] at hq
                (repeat (first|simp only[↓QA,QB,seval,aP,Option.isSome_some,Option.getD_some,hw,aG]|refine rd0 rfl ?_))
                refine⟨(s+1,some b),⟨by simp only;omega,hq,by simpa using hol⟩,by simp only;omega,?_⟩;try simp only[aD,QE,seval,aP,hw,fO (show 6<7 by omega),aG,Option.isSome_some,Option.getD_some]
                try simp[aY]
              ·have hb:(SL.length<(aU v ts (o.getD []) d).length\/(SL.length=(aU v ts (o.getD []) d).length/\cU L (o.getD [])=true)):=.inr ⟨h2',by rw[cU,if_pos h4',h5]⟩
               (repeat (first|simp only[↓QA,QB,seval,aP,h5,aG]|refine rd0 rfl ?_))
               cases o with
               |none =>
                rw[hsN] at hq
                (repeat (first|simp only[↓QA,QB,seval,aP,Option.isSome_none,hw,aG]|refine rd0 rfl ?_))
                refine⟨(s+1,some L),⟨by simp only;omega,hq,by simpa using hll⟩,by simp only;omega,?_⟩;try simp only[aD,QE,seval,aP,hw,fO (show 6<7 by omega),aG,Option.isSome_some,Option.getD_some,hSL]
                try simp[aY]
               |some b =>
                simp only[Option.getD_some] at hol hb;rw[hsS,if_pos hb] at hq
                (repeat (first|simp only[↓QA,QB,seval,aP,Option.isSome_some,Option.getD_some,hw,aG]|refine rd0 rfl ?_))
                refine⟨(s+1,some L),⟨by simp only;omega,hq,by simpa using hll⟩,by simp only;omega,?_⟩;try simp only[aD,QE,seval,aP,hw,fO (show 6<7 by omega),aG,Option.isSome_some,Option.getD_some,hSL]
                try simp[aY]
            ·have h3':L.length<(o.getD []).length:=by simpa using h3
             have hb:(SL.length<(aU v ts (o.getD []) d).length\/(SL.length=(aU v ts (o.getD []) d).length/\cU L (o.getD [])=true)):=.inr ⟨h2',by rw[cU,if_neg (by omega)];simpa using h3'⟩
             (repeat (first|simp only[↓QA,QB,seval,aP,h3,aG]|refine rd0 rfl ?_))
             cases o with
             |none =>
              rw[hsN] at hq
              (repeat (first|simp only[↓QA,QB,seval,aP,Option.isSome_none,hw,aG]|refine rd0 rfl ?_))
              refine⟨(s+1,some L),⟨by simp only;omega,hq,by simpa using hll⟩,by simp only;omega,?_⟩;try simp only[aD,QE,seval,aP,hw,fO (show 6<7 by omega),aG,Option.isSome_some,Option.getD_some,hSL]
              try simp[aY]
             |some b =>
              simp only[Option.getD_some] at hol hb;rw[hsS,if_pos hb] at hq
              (repeat (first|simp only[↓QA,QB,seval,aP,Option.isSome_some,Option.getD_some,hw,aG]|refine rd0 rfl ?_))
              refine⟨(s+1,some L),⟨by simp only;omega,hq,by simpa using hll⟩,by simp only;omega,?_⟩;try simp only[aD,QE,seval,aP,hw,fO (show 6<7 by omega),aG,Option.isSome_some,Option.getD_some,hSL]
              try simp[aY]
          ·have h1':SL.length<(aU v ts (o.getD []) d).length:=by simpa using h1
           have hb:(SL.length<(aU v ts (o.getD []) d).length\/(SL.length=(aU v ts (o.getD []) d).length/\cU L (o.getD [])=true)):=.inl h1'
           (repeat (first|simp only[↓QA,QB,seval,aP,h1,aG]|refine rd0 rfl ?_))
           cases o with
           |none =>
            rw[hsN] at hq
            (repeat (first|simp only[↓QA,QB,seval,aP,Option.isSome_none,hw,aG]|refine rd0 rfl ?_))
            refine⟨(s+1,some L),⟨by simp only;omega,hq,by simpa using hll⟩,by simp only;omega,?_⟩;try simp only[aD,QE,seval,aP,hw,fO (show 6<7 by omega),aG,Option.isSome_some,Option.getD_some,hSL]
            try simp[aY]
           |some b =>
            simp only[Option.getD_some] at hol hb;rw[hsS,if_pos hb] at hq
            (repeat (first|simp only[↓QA,QB,seval,aP,Option.isSome_some,Option.getD_some,hw,aG]|refine rd0 rfl ?_))
            refine⟨(s+1,some L),⟨by simp only;omega,hq,by simpa using hll⟩,by simp only;omega,?_⟩;try simp only[aD,QE,seval,aP,hw,fO (show 6<7 by omega),aG,Option.isSome_some,Option.getD_some,hSL]
            try simp[aY]
         ·have hst:nP (fun c=>jE v ts c d hands) (fun c=>(aU v ts c d).length) o L=o:=by
           have:sum<hands:=by simpa using hlt
           have e:decide (hands<=sum)=false:=by simp;omega
           have hd0:jE v ts L d hands=false:=by rw[hdo,e,Bool.false_and]
           simp[nP,hd0]
          rw[hst] at hq
          (repeat (first|simp only[↓QA,QB,seval,aP,vann,hzb,hga,hlt,hw,aG]|refine rd0 rfl ?_))
          refine⟨(s+1,o),⟨by simp only;omega,hq,hol⟩,by simp only;omega,?_⟩;try simp only[aD,QE,seval,aP,hw,fO (show 6<7 by omega),aG]
          try simp[aY]
     ·have hs1:s=Q:=by simp at h2;omega
      have hdr:(List.range Q).drop s=[]:=by rw[List.drop_eq_nil_iff];simp;omega
      rw[hdr] at hq;simp only[List.map_nil,List.foldl_nil] at hq;subst hq;cases o with
      |none =>
       (repeat (first|simp only[↓QA,QB,seval,aP,Option.isSome_none,Option.getD_none,uV,mA,aG,List.map_nil]|refine rd0 rfl ?_))
       try rfl
      |some b =>
       (repeat (first|simp only[↓QA,QB,seval,aP,Option.isSome_some,Option.getD_some,uV,mA]|refine rd0 rfl ?_))
       try try simp only[QS,QC,seval,aP]
 ·have hm:mF v da hands=([],[],E):=by rw[mF,hE,if_neg h0']
  have hg:(E==0)=false:=by simpa using h0'
  rw[hm];refine iU (kT hf (fun τ=>hu1 _ _ rfl) hask h0') ?_
  (repeat (first|simp only[↓QA,QB,seval,aP,hg,mA]|refine rd0 rfl ?_))
  try rfl
end Go.Am.Room.Fa
namespace Go.Am.Room.Fa
def QY:=zz @aR (@List.length_append.{0})
theorem iI(a b:Int):cE T 79 [.int .i64 a,.int .i64 b] (cT ⟨a,b⟩):=by
 refine aZ (af:=a79) rfl (by simp[a79]) dd ?_;try simp only[↓QA,QB,seval,QY,a79]
end Go.Am.Room.Fa
namespace Go.Am.Room.Fa
def lE:=zz @bR (zz @aH (zz @bS (zz @bQ (zz @aR (zz @cB (zz @cA (zz @cC (zz @eJ (@List.length_append.{0})))))))))
theorem tZ(p d n:Int):cE T 73 [.int .i64 p,.int .i64 d,.int .i64 n] (dP ⟨p,d,n⟩):=by
 refine aZ (af:=a73) rfl (by simp[a73]) dd ?_;try simp only[↓QA,QB,seval,lE,a73]
theorem xR(l:List Look):cE T 72 [.lit (l.map dP) false none] (encFarm (exF l)):=by
 refine aZ (af:=a72) rfl (by simp[a72]) dd ?_;try simp only[↓QA,QB,seval,lE,a72]
 (refine aE (iI 1 1) rfl dd ?_;try simp only[↓QA,QB,seval,lE])
 (refine aE (iI 0 1) rfl dd ?_;try simp only[↓QA,QB,seval,lE])
 (refine aE (iI 0 0) rfl dd ?_;try simp only[↓QA,QB,seval,lE])
 (refine aE (iI 1 2) rfl dd ?_;try simp only[↓QA,QB,seval,lE])
 (refine aE (iI 0 1) rfl dd ?_;try simp only[↓QA,QB,seval,lE])
 (refine aE (iI 2 3) rfl dd ?_;try simp only[↓QA,QB,seval,lE])
 (refine aE (iI 1 2) rfl dd ?_;try simp only[↓QA,QB,seval,lE])
 (refine aE (iI 0 1) rfl dd ?_;try simp only[↓QA,QB,seval,lE,exF,TV,YI,VC,List.map_cons,List.map_nil])
 try simp[aJ5,jJ,aM,rT,aI,AV.cells,AV.cell,HE,OC,aDN,aDD,aCO,LZ,cA,aG,List.flatMap_cons,List.flatMap_nil]
theorem dX(l:List Look)(h:l.length<=100:=by decide):Fits (exF l):=⟨by simp[exF],by simp[exF],by simp[exF];omega,fun k hk=>by
 simp only[exF,List.mem_cons,List.not_mem_nil,or_false] at hk
 rcases hk with rfl|rfl|rfl<;>decide⟩
def PH(v:Farm):Bool:=decide ((check v).2.2=0)&&sD v []
end Go.Am.Room.Fa
namespace Go.Am.Room.Fa
def dD:=zz @bR (zz @aH (zz @bS (zz @bQ (zz @aR (zz @cB (zz @cA (zz @cC (zz @eJ (@List.length_append.{0})))))))))
set_option maxHeartbeats 1000000 in
theorem awake_ok:cE T 12 [] (.bool true):=by
 refine aZ (af:=a12) rfl (by simp[a12]) bA ?_
 (repeat (first|simp only[↓QA,QB,seval,dD,a12]|refine rd0 rfl ?_))
 refine bE (xR []) (by simp[clr,clrs]) (by simp[okV,okVs]) ?_
 (repeat (first|simp only[↓QA,QB,seval,dD]|refine rd0 rfl ?_))
 ((first|refine aE (tZ 1 3 2) rfl dd ?_|refine aN (tZ 1 3 2) rfl dd ?_);(repeat (first|simp only[↓QA,QB,seval,dD]|refine rd0 rfl ?_)))
 refine bE (xR [⟨1,3,2⟩]) (by simp[clr,clrs,dP]) (by simp[okV,okVs]) ?_
 (repeat (first|simp only[↓QA,QB,seval,dD]|refine rd0 rfl ?_))
 ((first|refine aE (tZ 1 3 2) rfl dd ?_|refine aN (tZ 1 3 2) rfl dd ?_);(repeat (first|simp only[↓QA,QB,seval,dD]|refine rd0 rfl ?_)))
 ((first|refine aE (tZ 0 1 3) rfl dd ?_|refine aN (tZ 0 1 3) rfl dd ?_);(repeat (first|simp only[↓QA,QB,seval,dD]|refine rd0 rfl ?_)))
 refine bE (xR [⟨1,3,2⟩,⟨0,1,3⟩]) (by simp[clr,clrs,dP]) (by simp[okV,okVs]) ?_
 (repeat (first|simp only[↓QA,QB,seval,dD]|refine rd0 rfl ?_))
 ((first|refine aE (uB (exF []) 1 4 (dX _)) rfl dd ?_|refine aN (uB (exF []) 1 4 (dX _)) rfl dd ?_);(repeat (first|simp only[↓QA,QB,seval,dD,x1,wP]|refine rd0 rfl ?_)))
 ((first|refine aE (uB exL 1 4 (dX _)) rfl dd ?_|refine aN (uB exL 1 4 (dX _)) rfl dd ?_);(repeat (first|simp only[↓QA,QB,seval,dD,x2,wP]|refine rd0 rfl ?_)))
 ((first|refine aE (AK (exF []) 0 4 (dX _)) rfl dd ?_|refine aN (AK (exF []) 0 4 (dX _)) rfl dd ?_);(repeat (first|simp only[↓QA,QB,seval,dD,x3,rZ]|refine rd0 rfl ?_)))
 ((first|refine aE (AK (exF []) 0 3 (dX _)) rfl dd ?_|refine aN (AK (exF []) 0 3 (dX _)) rfl dd ?_);(repeat (first|simp only[↓QA,QB,seval,dD,x4,rZ]|refine rd0 rfl ?_)))
 ((first|refine aE (IP (exF []) 0 (dX _)) rfl dd ?_|refine aN (IP (exF []) 0 (dX _)) rfl dd ?_);(repeat (first|simp only[↓QA,QB,seval,dD,x5,mA]|refine rd0 rfl ?_)))
 ((first|refine aE (v3 (exF []) 0 (dX _)) rfl dd ?_|refine aN (v3 (exF []) 0 (dX _)) rfl dd ?_);(repeat (first|simp only[↓QA,QB,seval,dD,x6,rZ]|refine rd0 rfl ?_)))
 ((first|refine aE (pB (exF []) 4 50 (dX _)) rfl dd ?_|refine aN (pB (exF []) 4 50 (dX _)) rfl dd ?_);(repeat (first|simp only[↓QA,QB,seval,dD,x7,mA]|refine rd0 rfl ?_)))
 ((first|refine aE (pB (exF []) 4 80 (dX _)) rfl dd ?_|refine aN (pB (exF []) 4 80 (dX _)) rfl dd ?_);(repeat (first|simp only[↓QA,QB,seval,dD,x8,mA]|refine rd0 rfl ?_)))
 ((first|refine aE (B5 exL 1 (dX _)) rfl dd ?_|refine aN (B5 exL 1 (dX _)) rfl dd ?_);(repeat (first|simp only[↓QA,QB,seval,dD,x9,wP]|refine rd0 rfl ?_)))
 ((first|refine aE (xH exL 1 (dX _)) rfl dd ?_|refine aN (xH exL 1 (dX _)) rfl dd ?_);(repeat (first|simp only[↓QA,QB,seval,dD,x10,wO]|refine rd0 rfl ?_)))
 ((first|refine aE (EF exW (dX _)) rfl dd ?_|refine aN (EF exW (dX _)) rfl dd ?_);(repeat (first|simp only[↓QA,QB,seval,dD,x11,wO]|refine rd0 rfl ?_)))
 ((first|refine aE (v3 exW 0 (dX _)) rfl dd ?_|refine aN (v3 exW 0 (dX _)) rfl dd ?_);(repeat (first|simp only[↓QA,QB,seval,dD,x12,rZ]|refine rd0 rfl ?_)))
 ((first|refine aE (iI 3 6) rfl dd ?_|refine aN (iI 3 6) rfl dd ?_);(repeat (first|simp only[↓QA,QB,seval,dD]|refine rd0 rfl ?_)))
 ((first|refine aE (iI 4 5) rfl dd ?_|refine aN (iI 4 5) rfl dd ?_);(repeat (first|simp only[↓QA,QB,seval,dD]|refine rd0 rfl ?_)))
 ((first|refine bE (eL [4] [4] (by simp) (by simp)) (by simp[clr,clrs,aG]) (by simp[okV,okVs]) ?_|refine fZ (eL [4] [4] (by simp) (by simp)) (by simp[clr,clrs,aG]) (by simp[okV,okVs]) ?_);(repeat (first|simp only[↓QA,QB,seval,dD,eq_self]|refine rd0 rfl ?_)))
 ((first|refine bE (eL [4,5] [4,5] (by simp) (by simp)) (by simp[clr,clrs,aG]) (by simp[okV,okVs]) ?_|refine fZ (eL [4,5] [4,5] (by simp) (by simp)) (by simp[clr,clrs,aG]) (by simp[okV,okVs]) ?_);(repeat (first|simp only[↓QA,QB,seval,dD,eq_self]|refine rd0 rfl ?_)))
 ((first|refine bE (eL [0,1] [0,1] (by simp) (by simp)) (by simp[clr,clrs,aG]) (by simp[okV,okVs]) ?_|refine fZ (eL [0,1] [0,1] (by simp) (by simp)) (by simp[clr,clrs,aG]) (by simp[okV,okVs]) ?_);(repeat (first|simp only[↓QA,QB,seval,dD,eq_self]|refine rd0 rfl ?_)))
 ((first|refine bE (eL [1] [1] (by simp) (by simp)) (by simp[clr,clrs,aG]) (by simp[okV,okVs]) ?_|refine fZ (eL [1] [1] (by simp) (by simp)) (by simp[clr,clrs,aG]) (by simp[okV,okVs]) ?_);(repeat (first|simp only[↓QA,QB,seval,dD,eq_self]|refine rd0 rfl ?_)))
 ((first|refine aE (iI 0 0) rfl dd ?_|refine aN (iI 0 0) rfl dd ?_);(repeat (first|simp only[↓QA,QB,seval,dD]|refine rd0 rfl ?_)))
 ((first|refine bE (eL [1] [1] (by simp) (by simp)) (by simp[clr,clrs,aG]) (by simp[okV,okVs]) ?_|refine fZ (eL [1] [1] (by simp) (by simp)) (by simp[clr,clrs,aG]) (by simp[okV,okVs]) ?_);(repeat (first|simp only[↓QA,QB,seval,dD,eq_self]|refine rd0 rfl ?_)))
 ((first|refine bE (eL [1] [1] (by simp) (by simp)) (by simp[clr,clrs,aG]) (by simp[okV,okVs]) ?_|refine fZ (eL [1] [1] (by simp) (by simp)) (by simp[clr,clrs,aG]) (by simp[okV,okVs]) ?_);(repeat (first|simp only[↓QA,QB,seval,dD,eq_self]|refine rd0 rfl ?_)))
theorem NF(v:Farm)(l:List Truth)(d:Nat)(hands:Int)(hn:v.plots.length<=6):vO (fun c=>jE v l c d hands) (fun c=>(aU v l c d).length) (fN v.plots.length) (mI v l d hands):=by
 have h1:=BM (fun c=>jE v l c d hands) (fun c=>(aU v l c d).length) (fN v.plots.length) [] none (by rw[List.nil_append];exact oU hn (v.plots.length+1) 0 (by omega)) (fun c hc=>by cases hc);rw[List.nil_append,<-C8] at h1;exact h1
theorem YR{n:Nat}{c:List Int}(h:c∈fN n):c.length<=n/\∀ x∈c,0<=x/\x<n:=by
 obtain⟨i,_,hi,hc⟩:=kL.1 h;have:=fG n i c hc;exact⟨by omega,this.2⟩
end Go.Am.Room.Fa
namespace Go.Am
variable {T:FuncId->Option AFunc}
end Go.Am
namespace Go.Am
variable {T:FuncId->Option AFunc}
def R9:ACode->List ACode->ACode
 |a,[]=>a
 |a,b::l=>.seq a (R9 b l)
theorem LA{R:Env->St->Prop}:∀ (az:List ACode) (a:ACode) (e:Env) (σ:St),wp T (R9 a az) e σ (fun j e' σ'=>j=none/\R e' σ')->Run T (.chain (a::az) e σ) fun o=>o.j=none/\R o.env o.σ
 |[],a,e,σ,h=>.chainCons (eP h fun o ho=>ho) (fun o ho _=>.chainNil ⟨rfl,ho.2⟩) fun o ho hj=>absurd ho.1 hj
 |b::l,a,e,σ,h=>by
  refine .chainCons (eP (show wp T a e σ _ from by simpa only [R9,wp] using h) fun o ho=>ho) (fun o ho hj=>?_) fun o ho hj=>?_
  ·rw[hj] at ho;simp only[rC] at ho;exact LA l b _ _ ho
  ·cases hq:o.j with
   |none=>exact absurd hq hj
   |some q=>rw[hq] at ho;simp only[rC] at ho;exact absurd ho.1 (by simp)
theorem aHQ{a c:ACode}(az:List ACode){e:Env}{σ:St}{Q:Out->Prop}(R S:Env->St->Prop)(h:wp T (R9 a az) e σ fun j e' σ'=>j=none/\R e' σ')(h2:∀ e' σ',R e' σ'->∃ env1 σ1 env2 σ2,vS σ e' σ' env1 σ1/\((env2=env1/\σ2=σ1)\/KA σ.length env1 σ1 env2 σ2\/(env2=env1/\Frost σ.length env1 σ1 σ2))/\S env2 σ2)(h3:∀ e σ,S e σ->Run T (.code c e σ) Q):Run T (.code (MH (a::az) c) e σ) Q :=
 Run.chain (a0:=a) (az:=az) (c:=c) (R:=fun o=>o.j=none/\R o.env o.σ) (S:=S) (LA az a e σ h) (fun o ho hj=>absurd ho.1 hj) (fun o ho _=>h2 _ _ ho.2) h3
end Go.Am
namespace Go.Am.Room.Fa
theorem FR:∀ n m:Fin 6,∀ c∈cW n m,qF n (-1) c=true:=by decide +kernel
theorem QK{v:Farm}{but:List Int}:sD v but=true↔aO v but≠[]:=by
 rw[sD];cases aO v but<;>simp
theorem IY{v:Farm}:PH v=true↔(check v).2.2=0/\aO v []≠[]:=by
 rw[PH,Bool.and_eq_true,decide_eq_true_eq,QK]
theorem aF4{v:Farm}(h:aO v []≠[]):dJ v 0=0:=by
 simp[dJ,h]
theorem OE{n m:Int}(h:0<=n/\n<=m):m9 n m 0=0:=by
 rw[m9,if_pos rfl,if_pos (cH.2 h)]
theorem TJ{v:Farm}(hs:PH v=true){d:Nat}{h:Int}(hd:d<=v.rain.length)(hh:0<=h/\h<=400):mF v (d:Int) h=uV v (aO v []) d (mI v (aO v []) d h):=by
 obtain⟨hc,hne⟩:=IY.1 hs;have:mX v (d:Int) h=0:=by rw[mX,hc,OE (by simp only[eI];omega),OE hh,aF4 hne]
 rw[mF,if_pos this,Int.toNat_natCast]
end Go.Am.Room.Fa
namespace Go.Am.Room.Fa
theorem GE{a:Int}(ha:0<=a){n:Nat}(hn:0<n):∃ j:Nat,a.tmod (n:Int)=(j:Int)/\j<n:=by
 obtain⟨k,rfl⟩:∃ k:Nat,a=k:=⟨a.toNat,by omega⟩;refine⟨k%n,?_,Nat.mod_lt _ hn⟩;rw[Int.tmod_eq_emod_of_nonneg (by omega)];norm_cast
end Go.Am.Room.Fa
namespace Go.Am.Room.Fa
theorem R7{v:Farm}(hn:v.plots.length<=6)(ts:List Truth)(d:Nat)(h:Int){O:List Int}(hO:O∈fN v.plots.length):
  (mI v ts d h=none/\jE v ts O d h=false)\/∃ b,mI v ts d h=some b/\b∈fN v.plots.length/\jE v ts b d h=true /\
   (jE v ts O d h=true->(aU v ts b d).length<(aU v ts O d).length\/((aU v ts b d).length=(aU v ts O d).length/\cU O b=false)):=by
 have hb:=NF v ts d h hn;cases hE:mI v ts d h with
 |none=>rw[hE] at hb;exact .inl ⟨rfl,hb O hO⟩
 |some b =>
  rw[hE] at hb;refine .inr ⟨b,rfl,hb.1,hb.2.1,fun hq=>?_⟩;rcases hb.2.2 O hO hq with h1|⟨h1,h2⟩
  ·exact .inl h1
  ·refine .inr ⟨h1,?_⟩;rcases h2 with h2|h2
   ·rw[h2];exact mT _
   ·cases hf:cU O b
    ·rfl
    ·have:=lO h2 hf;rw[mT] at this;cases this
theorem YC{n:Nat}(hn:n<6){c:List Int}(h:c∈fN n):qF n (-1) c=true:=by
 obtain⟨i,_,hi,hc⟩:=kL.1 h;exact FR ⟨n,by omega⟩ ⟨i,by omega⟩ c hc
def hUp(g:Nat->Int)(k:Nat)(ps:List Plot):List Plot:=ps.mapIdx fun i p=>if i<k then { p with hands:=g i } else p
theorem k9(g:Nat->Int)(k:Nat)(ps:List Plot):(hUp g k ps).length=ps.length:=by simp[hUp]
theorem B6(g:Nat->Int)(k:Nat)(ps:List Plot){i:Nat}(h:i<ps.length):(hUp g k ps)[i]'(by rw[k9];exact h)=if i<k then { ps[i] with hands:=g i } else ps[i]:=by simp[hUp]
theorem aJ7(g:Nat->Int)(ps:List Plot):hUp g 0 ps=ps:=by
 refine List.ext_getElem (k9 _ _ _) fun i h1 h2=>?_
 rw[B6 g 0 ps h2,if_neg (by omega)]
theorem Z4(g:Nat->Int){k:Nat}(ps:List Plot)(h:k<ps.length):(hUp g k ps)[k]'(by rw[k9];exact h)=ps[k]:=by
 rw[B6 g k ps h,if_neg (by omega)]
theorem YX(g:Nat->Int){k:Nat}(ps:List Plot)(h:k<ps.length):(hUp g k ps).set k { ps[k] with hands:=g k }=hUp g (k+1) ps:=by
 refine List.ext_getElem (by simp[k9]) fun i h1 h2=>?_
 have h3:i<ps.length:=by rw[k9] at h2;exact h2
 rw[List.getElem_set,B6 g (k+1) ps h3];by_cases e:k=i
 ·subst e;rw[if_pos rfl,if_pos (by omega)]
 ·rw[if_neg e,B6 g k ps h3];by_cases h4:i<k
  ·rw[if_pos h4,if_pos (by omega)]
  ·rw[if_neg h4,if_neg (by omega)]
def hF(v:Farm)(g:Nat->Int):Farm:={ v with plots:=hUp g v.plots.length v.plots }
theorem IN(v:Farm)(g:Nat->Int){i:Nat}(h:i<v.plots.length):(hF v g).plots[i]'(by simp[hF,k9];exact h)={ v.plots[i] with hands:=g i }:=by
 have:=B6 g v.plots.length v.plots h;rw[if_pos h] at this;exact this
theorem lY(v:Farm)(g:Nat->Int):(hF v g).plots.length=v.plots.length:=k9 _ _ _
theorem Q5(v:Farm)(g:Nat->Int)(p:Nat):nI (hF v g) p=nI v p:=by
 by_cases h:p<v.plots.length
 ·have h1:p<(hF v g).plots.length:=by rw[lY];exact h
  simp only[nI,List.getElem?_eq_getElem h,List.getElem?_eq_getElem h1];rw[IN v g h]
 ·have h1:¬p<(hF v g).plots.length:=by rw[lY];exact h
  simp only[nI,List.getElem?_eq_none (show v.plots.length<=p by omega),List.getElem?_eq_none (show (hF v g).plots.length<=p by omega)]
theorem M3(v:Farm)(g:Nat->Int)(p:Nat)(rain but:List Int):bC (hF v g) p rain but=bC v p rain but:=by
 unfold bC;rw[Q5];rfl
theorem RL(v:Farm)(g:Nat->Int)(but:List Int):aO (hF v g) but=aO v but:=by
 have h:gG (hF v g) but=gG v but:=by
  funext rain;unfold gG;rw[lY];simp only[M3]
 unfold aO;rw[h];rfl
theorem X3(v:Farm)(g:Nat->Int)(k:Nat):((hF v g).plots.take k).map Plot.name=(v.plots.take k).map Plot.name:=by
 rw[List.map_take,List.map_take]
 congr 1
 refine List.ext_getElem (by simp[lY]) fun i h1 h2=>?_
 have h3:i<v.plots.length:=by simpa using h2
 rw[List.getElem_map,List.getElem_map,IN v g h3]
theorem aDV{v:Farm}(h:Vd v){g:Nat->Int}(hg:∀ i,i<v.plots.length->1<=g i/\g i<=12):Vd (hF v g) where
 nra:=h.nra
 ra:=h.ra
 full:=h.full
 ripe:=h.ripe
 way:=h.way
 npl:=by rw[lY];exact h.npl
 pl:=fun i hi=>by
  have hi2:i<v.plots.length:=by rw[lY] at hi;exact hi
  have hp:=h.pl i hi2;have hg1:inR (g i) 1 99=true:=cH.2 (by have:=hg i hi2;omega);rw[IN v g hi2];unfold kI at hp ⊢;rw[X3];simp only;split at hp
  ·rename_i h1;rw[if_pos h1];unfold DJ at hp ⊢;simp only[hg1];split at hp
   ·omega
   ·rename_i h2;simp only[not_or] at h2;have he:eI (hF v g)=eI v:=rfl;rw[he,if_neg (by simp[h2.1])];exact hp
  ·rename_i h1;exact absurd hp h1
 nlk:=h.nlk
 lk:=fun x hx=>by
  have:=h.lk x hx;rw[lY];exact this
theorem aBB{v:Farm}(h:Fits v)(g:Nat->Int):Fits (hF v g):=⟨h.rain,by rw[lY];exact h.plots,h.looks,fun p hp=>by
 obtain⟨i,hi,rfl⟩:=List.getElem_of_mem hp;have hi2:i<v.plots.length:=by rw[lY] at hi;exact hi
 have:=h.names _ (List.getElem_mem hi2);rw[IN v g hi2]
 exact this⟩
theorem Y7{v:Farm}(hv:Vd v)(hne:aO v []≠[]){g:Nat->Int}(hg:∀ i,i<v.plots.length->1<=g i/\g i<=12):PH (hF v g)=true :=
 IY.2 ⟨by rw[JN (aDV hv hg)],by rw[RL];exact hne⟩
theorem W3(v:Farm)(g:Nat->Int){p:Nat}(h:p<v.plots.length):A4 (hF v g) (p:Int)=g p:=by
 have h1:p<(hF v g).plots.length:=by rw[lY];exact h
 rw[H9 h1,IN v g h]
theorem GI:∀ (l:List Int) (s:Int×Int),(Ha.joinAll l s).1<=s.1/\∀ x∈l,(Ha.joinAll l s).1<=x
 |[],s=>⟨Int.le_refl _,by simp⟩
 |x::l,s=>by
  obtain⟨h1,h2⟩:=GI l (min s.1 x,max s.2 x);have e:Ha.joinAll (x::l) s=Ha.joinAll l (min s.1 x,max s.2 x):=rfl;rw[e];simp only at h1;refine⟨by omega,fun y hy=>?_⟩;rcases List.mem_cons.1 hy with rfl|hy
  ·omega
  ·exact h2 y hy
theorem PQ:∀ (l:List Int) (s:Int×Int),1<=s.1->(∀ x∈l,1<=x)->1<=(Ha.joinAll l s).1
 |[],s,h,_=>h
 |x::l,s,h,hl=>by
  have e:Ha.joinAll (x::l) s=Ha.joinAll l (min s.1 x,max s.2 x):=rfl;rw[e];have:=hl x (by simp);exact PQ l _ (by simp only;omega) fun y hy=>hl y (by simp[hy])
theorem PT{l:Ha.HLot}(hv:Ha.Vd l){w:List Int}(h:w∈Ha.waysOf l):w.length=l.bunches.length/\∀ x∈w,1<=x/\x<=12:=Ha.felt_in hv (List.mem_filter.1 h).1
theorem aIF{l:Ha.HLot}{w:List Int}(h:w∈Ha.waysOf l)(i:Nat):(Ha.handsS l i).1<=Ha.gF w i:=(GI _ _).2 _ (List.mem_map.2 ⟨w,h,rfl⟩)
theorem VE{l:Ha.HLot}(hv:Ha.Vd l){i:Nat}(hi:i<l.bunches.length):1<=(Ha.handsS l i).1/\(Ha.handsS l i).1<=12:=by
 refine⟨PQ _ _ (by simp) fun x hx=>?_,(GI _ _).1⟩;obtain⟨w,hw,rfl⟩:=List.mem_map.1 hx;obtain⟨h1,h2⟩:=PT hv hw;have hi2:i<w.length:=by omega
 have:Ha.gF w i=w[i]:=by simp[Ha.gF,hi2]
 rw[this];exact (h2 _ (List.getElem_mem hi2)).1
def rS(w:List Int):List Int->Int
 |[]=>0
 |c::l=>Ha.gF w c.toNat+rS w l
theorem S6{v:Farm}{l:Ha.HLot}{w:List Int}(hw:w∈Ha.waysOf l):∀ c:List Int,(∀ x∈c,0<=x/\x<v.plots.length)->lF (hF v fun i=>(Ha.handsS l i).1) c<=rS w c
 |[],_=>by simp[lF,rS]
 |x::c,h=>by
  obtain⟨h1,h2⟩:=h x (by simp);have ih:=S6 (v:=v) hw c fun y hy=>h y (by simp[hy])
  obtain⟨p,hp⟩:∃ p:Nat,x=p:=⟨x.toNat,by omega⟩;subst hp;have hh:=W3 v (fun i=>(Ha.handsS l i).1) (p:=p) (by omega);have hl:=aIF hw p;simp only[lF,rS,hh,Int.toNat_natCast];omega
end Go.Am.Room.Fa
noncomputable section
namespace Go.Am.Ex
inductive N16 (α:Type) where
 |mk (a0 a1 a2 a3 a4 a5 a6 a7 a8 a9 aa ab ac ad ae af:α)
inductive Dg where
 |d0
 |d1
 |d2
 |d3
 |d4
 |d5
 |d6
 |d7
 |d8
 |d9
 |da
 |db
 |dc
 |dd
 |de
 |df
def Dg.nat:Dg->Nat
 |.d0=>0
 |.d1=>1
 |.d2=>2
 |.d3=>3
 |.d4=>4
 |.d5=>5
 |.d6=>6
 |.d7=>7
 |.d8=>8
 |.d9=>9
 |.da=>10
 |.db=>11
 |.dc=>12
 |.dd=>13
 |.de=>14
 |.df=>15
instance:DecidableEq Dg:=fun a b=>decidable_of_iff (a.nat=b.nat) ⟨fun h=>by cases a<;>cases b<;>first|rfl|(exact absurd h (by decide)),fun h=>by rw[h]⟩
namespace N16
variable {α:Type}
def g0(b:N16 α):α:=N16.rec (fun a0 a1 a2 a3 a4 a5 a6 a7 a8 a9 aa ab ac ad ae af=>a0) b
def p0(v:α)(b:N16 α):N16 α:=N16.rec (fun a0 a1 a2 a3 a4 a5 a6 a7 a8 a9 aa ab ac ad ae af=>.mk v a1 a2 a3 a4 a5 a6 a7 a8 a9 aa ab ac ad ae af) b
def g1(b:N16 α):α:=N16.rec (fun a0 a1 a2 a3 a4 a5 a6 a7 a8 a9 aa ab ac ad ae af=>a1) b
def p1(v:α)(b:N16 α):N16 α:=N16.rec (fun a0 a1 a2 a3 a4 a5 a6 a7 a8 a9 aa ab ac ad ae af=>.mk a0 v a2 a3 a4 a5 a6 a7 a8 a9 aa ab ac ad ae af) b
def g2(b:N16 α):α:=N16.rec (fun a0 a1 a2 a3 a4 a5 a6 a7 a8 a9 aa ab ac ad ae af=>a2) b
def p2(v:α)(b:N16 α):N16 α:=N16.rec (fun a0 a1 a2 a3 a4 a5 a6 a7 a8 a9 aa ab ac ad ae af=>.mk a0 a1 v a3 a4 a5 a6 a7 a8 a9 aa ab ac ad ae af) b
def g3(b:N16 α):α:=N16.rec (fun a0 a1 a2 a3 a4 a5 a6 a7 a8 a9 aa ab ac ad ae af=>a3) b
def p3(v:α)(b:N16 α):N16 α:=N16.rec (fun a0 a1 a2 a3 a4 a5 a6 a7 a8 a9 aa ab ac ad ae af=>.mk a0 a1 a2 v a4 a5 a6 a7 a8 a9 aa ab ac ad ae af) b
def g4(b:N16 α):α:=N16.rec (fun a0 a1 a2 a3 a4 a5 a6 a7 a8 a9 aa ab ac ad ae af=>a4) b
def p4(v:α)(b:N16 α):N16 α:=N16.rec (fun a0 a1 a2 a3 a4 a5 a6 a7 a8 a9 aa ab ac ad ae af=>.mk a0 a1 a2 a3 v a5 a6 a7 a8 a9 aa ab ac ad ae af) b
def g5(b:N16 α):α:=N16.rec (fun a0 a1 a2 a3 a4 a5 a6 a7 a8 a9 aa ab ac ad ae af=>a5) b
def p5(v:α)(b:N16 α):N16 α:=N16.rec (fun a0 a1 a2 a3 a4 a5 a6 a7 a8 a9 aa ab ac ad ae af=>.mk a0 a1 a2 a3 a4 v a6 a7 a8 a9 aa ab ac ad ae af) b
def g6(b:N16 α):α:=N16.rec (fun a0 a1 a2 a3 a4 a5 a6 a7 a8 a9 aa ab ac ad ae af=>a6) b
def p6(v:α)(b:N16 α):N16 α:=N16.rec (fun a0 a1 a2 a3 a4 a5 a6 a7 a8 a9 aa ab ac ad ae af=>.mk a0 a1 a2 a3 a4 a5 v a7 a8 a9 aa ab ac ad ae af) b
def g7(b:N16 α):α:=N16.rec (fun a0 a1 a2 a3 a4 a5 a6 a7 a8 a9 aa ab ac ad ae af=>a7) b
def p7(v:α)(b:N16 α):N16 α:=N16.rec (fun a0 a1 a2 a3 a4 a5 a6 a7 a8 a9 aa ab ac ad ae af=>.mk a0 a1 a2 a3 a4 a5 a6 v a8 a9 aa ab ac ad ae af) b
def g8(b:N16 α):α:=N16.rec (fun a0 a1 a2 a3 a4 a5 a6 a7 a8 a9 aa ab ac ad ae af=>a8) b
def p8(v:α)(b:N16 α):N16 α:=N16.rec (fun a0 a1 a2 a3 a4 a5 a6 a7 a8 a9 aa ab ac ad ae af=>.mk a0 a1 a2 a3 a4 a5 a6 a7 v a9 aa ab ac ad ae af) b
def g9(b:N16 α):α:=N16.rec (fun a0 a1 a2 a3 a4 a5 a6 a7 a8 a9 aa ab ac ad ae af=>a9) b
def p9(v:α)(b:N16 α):N16 α:=N16.rec (fun a0 a1 a2 a3 a4 a5 a6 a7 a8 a9 aa ab ac ad ae af=>.mk a0 a1 a2 a3 a4 a5 a6 a7 a8 v aa ab ac ad ae af) b
def ga(b:N16 α):α:=N16.rec (fun a0 a1 a2 a3 a4 a5 a6 a7 a8 a9 aa ab ac ad ae af=>aa) b
def pa(v:α)(b:N16 α):N16 α:=N16.rec (fun a0 a1 a2 a3 a4 a5 a6 a7 a8 a9 aa ab ac ad ae af=>.mk a0 a1 a2 a3 a4 a5 a6 a7 a8 a9 v ab ac ad ae af) b
def gb(b:N16 α):α:=N16.rec (fun a0 a1 a2 a3 a4 a5 a6 a7 a8 a9 aa ab ac ad ae af=>ab) b
def pb(v:α)(b:N16 α):N16 α:=N16.rec (fun a0 a1 a2 a3 a4 a5 a6 a7 a8 a9 aa ab ac ad ae af=>.mk a0 a1 a2 a3 a4 a5 a6 a7 a8 a9 aa v ac ad ae af) b
def gc(b:N16 α):α:=N16.rec (fun a0 a1 a2 a3 a4 a5 a6 a7 a8 a9 aa ab ac ad ae af=>ac) b
def pc(v:α)(b:N16 α):N16 α:=N16.rec (fun a0 a1 a2 a3 a4 a5 a6 a7 a8 a9 aa ab ac ad ae af=>.mk a0 a1 a2 a3 a4 a5 a6 a7 a8 a9 aa ab v ad ae af) b
def gd(b:N16 α):α:=N16.rec (fun a0 a1 a2 a3 a4 a5 a6 a7 a8 a9 aa ab ac ad ae af=>ad) b
def pd(v:α)(b:N16 α):N16 α:=N16.rec (fun a0 a1 a2 a3 a4 a5 a6 a7 a8 a9 aa ab ac ad ae af=>.mk a0 a1 a2 a3 a4 a5 a6 a7 a8 a9 aa ab ac v ae af) b
def ge(b:N16 α):α:=N16.rec (fun a0 a1 a2 a3 a4 a5 a6 a7 a8 a9 aa ab ac ad ae af=>ae) b
def pe(v:α)(b:N16 α):N16 α:=N16.rec (fun a0 a1 a2 a3 a4 a5 a6 a7 a8 a9 aa ab ac ad ae af=>.mk a0 a1 a2 a3 a4 a5 a6 a7 a8 a9 aa ab ac ad v af) b
def gf(b:N16 α):α:=N16.rec (fun a0 a1 a2 a3 a4 a5 a6 a7 a8 a9 aa ab ac ad ae af=>af) b
def pf(v:α)(b:N16 α):N16 α:=N16.rec (fun a0 a1 a2 a3 a4 a5 a6 a7 a8 a9 aa ab ac ad ae af=>.mk a0 a1 a2 a3 a4 a5 a6 a7 a8 a9 aa ab ac ad ae v) b
def sel(d:Dg):N16 α->α:=Dg.rec g0 g1 g2 g3 g4 g5 g6 g7 g8 g9 ga gb gc gd ge gf d
def put(d:Dg):α->N16 α->N16 α:=Dg.rec p0 p1 p2 p3 p4 p5 p6 p7 p8 p9 pa pb pc pd pe pf d
theorem sel_put(d d':Dg)(v:α)(b:N16 α):sel d' (put d v b)=if d=d' then v else sel d' b:=by
 cases b;cases d<;>cases d'<;>rfl
def all(v:α):N16 α:=.mk v v v v v v v v v v v v v v v v
theorem sel_all(d:Dg)(v:α):sel d (all v)=v:=by cases d<;>rfl
end N16
def dig(n:Nat):Dg:=cond (Nat.beq n 0) .d0 (cond (Nat.beq n 1) .d1 (cond (Nat.beq n 2) .d2 (cond (Nat.beq n 3) .d3 (cond (Nat.beq n 4) .d4 (cond (Nat.beq n 5) .d5 (cond (Nat.beq n 6) .d6 (cond (Nat.beq n 7) .d7 (cond (Nat.beq n 8) .d8 (cond (Nat.beq n 9) .d9 (cond (Nat.beq n 10) .da (cond (Nat.beq n 11) .db (cond (Nat.beq n 12) .dc (cond (Nat.beq n 13) .dd (cond (Nat.beq n 14) .de (cond (Nat.beq n 15) .df (.d0))))))))))))))))
theorem OZ:∀ n,n<16->(dig n).nat=n:=by decide
theorem xD{n m:Nat}(hn:n<16)(hm:m<16)(h:dig n=dig m):n=m:=by rw[<-OZ n hn,<-OZ m hm,h]
abbrev Tre:=N16 (N16 AV)
def Tre.none:Tre:=.all (.all .undef)
def Tre.get(e:Tre)(t:Nat):AV:=cond (Nat.ble t 255) (N16.sel (dig (Nat.mod t 16)) (N16.sel (dig (Nat.div t 16)) e)) .undef
def Tre.put(e:Tre)(t:Nat)(v:AV):Tre:=N16.put (dig (Nat.div t 16)) (N16.put (dig (Nat.mod t 16)) v (N16.sel (dig (Nat.div t 16)) e)) e
theorem Tre.get_none(t:Nat):Tre.get .none t = .undef:=by
 unfold Tre.get Tre.none;cases Nat.ble t 255<;>simp[N16.sel_all]
theorem Tre.get_put(e:Tre)(t:Nat)(v:AV)(ht:Nat.ble t 255=true)(s:Nat):Tre.get (Tre.put e t v) s=if t=s then v else Tre.get e s:=by
 have h1:t<=255:=Nat.le_of_ble_eq_true ht;unfold Tre.get Tre.put;cases hs:Nat.ble s 255 with
 |false =>
  have:t≠s:=fun h=>by rw[h,hs] at ht;cases ht
  rw[if_neg this];rfl
 |true =>
  have h2:s<=255:=Nat.le_of_ble_eq_true hs;simp only[cond_true,N16.sel_put];by_cases hd:dig (Nat.div t 16)=dig (Nat.div s 16)
  ·have e1:t/16=s/16:=xD (by omega) (by omega) hd;rw[if_pos hd,N16.sel_put];by_cases hm:dig (Nat.mod t 16)=dig (Nat.mod s 16)
   ·have e2:t%16=s%16:=xD (Nat.mod_lt _ (by omega)) (Nat.mod_lt _ (by omega)) hm;rw[if_pos hm,if_pos (by omega)]
   ·rw[if_neg hm,if_neg (fun h=>hm (by rw[h])),hd]
  ·rw[if_neg hd,if_neg (fun h=>hd (by rw[h]))]
def kH(env:Env)(e:Tre):Prop:=∀ t,Env.get env t=Tre.get e t
theorem kH.put{env:Env}{e:Tre}(h:kH env e)(t:Nat)(v:AV)(ht:Nat.ble t 255=true):kH (Env.put env (some t) v) (Tre.put e t v):=by
 intro s;rw[Tre.get_put e t v ht];simp only[Env.put,Env.get];split
 ·rfl
 ·exact h s
def nth{α:Type}(l:List α):Nat->Option α:=List.rec (motive:=fun _=>Nat->Option α) (fun _=>none) (fun x _ ih n=>Nat.rec (some x) (fun m _=>ih m) n) l
theorem yW{α:Type}:∀ (l:List α) (n:Nat),nth l n=l[n]?
 |[],n=>by simp[nth]
 |x::l,0=>by rw[List.getElem?_cons_zero];rfl
 |x::l,n+1=>by rw[List.getElem?_cons_succ,<-yW l n];rfl
def aIA{α:Type}(x:α)(l:List α):Nat->List α:=List.rec (motive:=fun _=>Nat->List α) (fun _=>[]) (fun y ys ih n=>Nat.rec (x::ys) (fun m _=>y::ih m) n) l
theorem OB{α:Type}(x:α):∀ (l:List α) (n:Nat),aIA x l n=l.set n x
 |[],n=>by simp[aIA]
 |y::l,0=>by rw[List.set_cons_zero];rfl
 |y::l,n+1=>by rw[List.set_cons_succ,<-OB x l n];rfl
def nS{α:Type}(l:List α):Nat:=List.rec 0 (fun _ _ ih=>Nat.add ih 1) l
theorem iH{α:Type}:∀ l:List α,nS l=l.length
 |[]=>rfl
 |x::l=>by rw[List.length_cons,<-iH l];rfl
def snoc{α:Type}(x:α)(l:List α):List α:=List.rec [x] (fun y _ ih=>y::ih) l
theorem OY{α:Type}(x:α):∀ l:List α,snoc x l=l++[x]
 |[]=>rfl
 |y::l=>by rw[List.cons_append,<-OY x l];rfl
def NJ{α:Type}(l k:List α):List α:=List.rec k (fun y _ ih=>y::ih) l
theorem qJ{α:Type}(k:List α):∀ l:List α,NJ l k=l++k
 |[]=>rfl
 |y::l=>by rw[List.cons_append,<-qJ k l];rfl
def aJX{α β:Type}(f:α->β)(l:List α):List β:=List.rec [] (fun y _ ih=>f y::ih) l
theorem OJ{α β:Type}(f:α->β):∀ l:List α,aJX f l=l.map f
 |[]=>rfl
 |y::l=>by rw[List.map_cons,<-OJ f l];rfl
def OG{α:Type}(l:List α):Nat->List α:=List.rec (motive:=fun _=>Nat->List α) (fun _=>[]) (fun y ys ih n=>Nat.rec (y::ys) (fun m _=>ih m) n) l
theorem B3{α:Type}:∀ (l:List α) (n:Nat),OG l n=l.drop n
 |[],n=>by simp[OG]
 |y::l,0=>by rw[List.drop_zero];rfl
 |y::l,n+1=>by rw[List.drop_succ_cons,<-B3 l n];rfl
def VB{α:Type}(l:List α):Nat->List α:=List.rec (motive:=fun _=>Nat->List α) (fun _=>[]) (fun y _ ih n=>Nat.rec [] (fun m _=>y::ih m) n) l
theorem JY{α:Type}:∀ (l:List α) (n:Nat),VB l n=l.take n
 |[],n=>by simp[VB]
 |y::l,0=>by rw[List.take_zero];rfl
 |y::l,n+1=>by rw[List.take_succ_cons,<-JY l n];rfl
def LF{α:Type}(f:α->Bool)(l:List α):Bool:=List.rec true (fun y _ ih=>cond (f y) ih false) l
theorem F2{α:Type}(f:α->Bool):∀ l:List α,LF f l=l.all f
 |[]=>rfl
 |y::l=>by rw[List.all_cons,<-F2 f l];simp only[LF];cases f y<;>rfl
section
variable {R:Type}
def aL9(v:AV):(IntKind->Int->R)->R->R:=AV.rec (motive_1:=fun _=>(IntKind->Int->R)->R->R) (motive_2:=fun _=>PUnit) (fun _ d=>d) (fun k n K d=>K k n) (fun _ _ d=>d) (fun _ _ d=>d) (fun _ _ _ _ _ _ d=>d) (fun _ d=>d) (fun _ _ d=>d) (fun _ _ _ d=>d) (fun _ d=>d) (fun _ _ _ _ _ _ d=>d) (fun _ _ _ _ _ d=>d) (fun _ _ _ _ _ d=>d) (fun _ _ d=>d) (fun _ d=>d) (fun _ _ _ d=>d) (fun _ _ _ d=>d) ⟨⟩ (fun _ _ _ _=>⟨⟩) v
theorem aAS(v:AV)(K:IntKind->Int->R)(d:R):aL9 v K d=match v with|.int k n=>K k n|_=>d:=by cases v<;>rfl
def FE(v:AV):(Bool->R)->R->R:=AV.rec (motive_1:=fun _=>(Bool->R)->R->R) (motive_2:=fun _=>PUnit) (fun _ d=>d) (fun _ _ _ d=>d) (fun b K d=>K b) (fun _ _ d=>d) (fun _ _ _ _ _ _ d=>d) (fun _ d=>d) (fun _ _ d=>d) (fun _ _ _ d=>d) (fun _ d=>d) (fun _ _ _ _ _ _ d=>d) (fun _ _ _ _ _ d=>d) (fun _ _ _ _ _ d=>d) (fun _ _ d=>d) (fun _ d=>d) (fun _ _ _ d=>d) (fun _ _ _ d=>d) ⟨⟩ (fun _ _ _ _=>⟨⟩) v
theorem wF(v:AV)(K:Bool->R)(d:R):FE v K d=match v with|.bool b=>K b|_=>d:=by cases v<;>rfl
def PA(v:AV):(FuncId->List AV->List AV->R)->R->R:=AV.rec (motive_1:=fun _=>(FuncId->List AV->List AV->R)->R->R) (motive_2:=fun _=>PUnit) (fun _ d=>d) (fun _ _ _ d=>d) (fun _ _ d=>d) (fun _ _ d=>d) (fun f a c _ _ K d=>K f a c) (fun _ d=>d) (fun _ _ d=>d) (fun _ _ _ d=>d) (fun _ d=>d) (fun _ _ _ _ _ _ d=>d) (fun _ _ _ _ _ d=>d) (fun _ _ _ _ _ d=>d) (fun _ _ d=>d) (fun _ d=>d) (fun _ _ _ d=>d) (fun _ _ _ d=>d) ⟨⟩ (fun _ _ _ _=>⟨⟩) v
theorem CJ(v:AV)(K:FuncId->List AV->List AV->R)(d:R):PA v K d=match v with|.func f a c=>K f a c|_=>d:=by cases v<;>rfl
def NN(v:AV):(Nat->R)->R->R:=AV.rec (motive_1:=fun _=>(Nat->R)->R->R) (motive_2:=fun _=>PUnit) (fun _ d=>d) (fun _ _ _ d=>d) (fun _ _ d=>d) (fun _ _ d=>d) (fun _ _ _ _ _ _ d=>d) (fun _ d=>d) (fun i K d=>K i) (fun _ _ _ d=>d) (fun _ d=>d) (fun _ _ _ _ _ _ d=>d) (fun _ _ _ _ _ d=>d) (fun _ _ _ _ _ d=>d) (fun _ _ d=>d) (fun _ d=>d) (fun _ _ _ d=>d) (fun _ _ _ d=>d) ⟨⟩ (fun _ _ _ _=>⟨⟩) v
theorem ET(v:AV)(K:Nat->R)(d:R):NN v K d=match v with|.yield i=>K i|_=>d:=by cases v<;>rfl
def UN(v:AV):(Nat->Nat->R)->R->R:=AV.rec (motive_1:=fun _=>(Nat->Nat->R)->R->R) (motive_2:=fun _=>PUnit) (fun _ d=>d) (fun _ _ _ d=>d) (fun _ _ d=>d) (fun _ _ d=>d) (fun _ _ _ _ _ _ d=>d) (fun _ d=>d) (fun _ _ d=>d) (fun i o K d=>K i o) (fun _ d=>d) (fun _ _ _ _ _ _ d=>d) (fun _ _ _ _ _ d=>d) (fun _ _ _ _ _ d=>d) (fun _ _ d=>d) (fun _ d=>d) (fun _ _ _ d=>d) (fun _ _ _ d=>d) ⟨⟩ (fun _ _ _ _=>⟨⟩) v
theorem AN(v:AV)(K:Nat->Nat->R)(d:R):UN v K d=match v with|.ptr i o=>K i o|_=>d:=by cases v<;>rfl
def PR(v:AV):(List AV->Nat->Nat->Option Nat->R)->R->R:=AV.rec (motive_1:=fun _=>(List AV->Nat->Nat->Option Nat->R)->R->R) (motive_2:=fun _=>PUnit) (fun _ d=>d) (fun _ _ _ d=>d) (fun _ _ d=>d) (fun _ _ d=>d) (fun _ _ _ _ _ _ d=>d) (fun _ d=>d) (fun _ _ d=>d) (fun _ _ _ d=>d) (fun _ d=>d) (fun xs i o tk _ K d=>K xs i o tk) (fun _ _ _ _ _ d=>d) (fun _ _ _ _ _ d=>d) (fun _ _ d=>d) (fun _ d=>d) (fun _ _ _ d=>d) (fun _ _ _ d=>d) ⟨⟩ (fun _ _ _ _=>⟨⟩) v
theorem C9(v:AV)(K:List AV->Nat->Nat->Option Nat->R)(d:R):PR v K d=match v with|.lptr xs i o tk=>K xs i o tk|_=>d:=by cases v<;>rfl
def yL(v:AV):(List AV->Bool->Option Nat->R)->R->R:=AV.rec (motive_1:=fun _=>(List AV->Bool->Option Nat->R)->R->R) (motive_2:=fun _=>PUnit) (fun _ d=>d) (fun _ _ _ d=>d) (fun _ _ d=>d) (fun _ _ d=>d) (fun _ _ _ _ _ _ d=>d) (fun _ d=>d) (fun _ _ d=>d) (fun _ _ _ d=>d) (fun _ d=>d) (fun _ _ _ _ _ _ d=>d) (fun xs fl tk _ K d=>K xs fl tk) (fun _ _ _ _ _ d=>d) (fun _ _ d=>d) (fun _ d=>d) (fun _ _ _ d=>d) (fun _ _ _ d=>d) ⟨⟩ (fun _ _ _ _=>⟨⟩) v
theorem xI(v:AV)(K:List AV->Bool->Option Nat->R)(d:R):yL v K d=match v with|.lit xs fl tk=>K xs fl tk|_=>d:=by cases v<;>rfl
def W5(v:AV):(Nat->Nat->Nat->Nat->R)->R->R:=AV.rec (motive_1:=fun _=>(Nat->Nat->Nat->Nat->R)->R->R) (motive_2:=fun _=>PUnit) (fun _ d=>d) (fun _ _ _ d=>d) (fun _ _ d=>d) (fun _ _ d=>d) (fun _ _ _ _ _ _ d=>d) (fun _ d=>d) (fun _ _ d=>d) (fun _ _ _ d=>d) (fun _ d=>d) (fun _ _ _ _ _ _ d=>d) (fun _ _ _ _ _ d=>d) (fun i o l z K d=>K i o l z) (fun _ _ d=>d) (fun _ d=>d) (fun _ _ _ d=>d) (fun _ _ _ d=>d) ⟨⟩ (fun _ _ _ _=>⟨⟩) v
theorem GL(v:AV)(K:Nat->Nat->Nat->Nat->R)(d:R):W5 v K d=match v with|.ref i o l z=>K i o l z|_=>d:=by cases v<;>rfl
def aII(v:AV):(List AV->R)->R->R:=AV.rec (motive_1:=fun _=>(List AV->R)->R->R) (motive_2:=fun _=>PUnit) (fun _ d=>d) (fun _ _ _ d=>d) (fun _ _ d=>d) (fun _ _ d=>d) (fun _ _ _ _ _ _ d=>d) (fun _ d=>d) (fun _ _ d=>d) (fun _ _ _ d=>d) (fun _ d=>d) (fun _ _ _ _ _ _ d=>d) (fun _ _ _ _ _ d=>d) (fun _ _ _ _ _ d=>d) (fun _ _ d=>d) (fun _ d=>d) (fun cs _ K d=>K cs) (fun _ _ _ d=>d) ⟨⟩ (fun _ _ _ _=>⟨⟩) v
theorem ZG(v:AV)(K:List AV->R)(d:R):aII v K d=match v with|.agg cs=>K cs|_=>d:=by cases v<;>rfl
def MP(v:AV):(List AV->R)->R->R:=AV.rec (motive_1:=fun _=>(List AV->R)->R->R) (motive_2:=fun _=>PUnit) (fun _ d=>d) (fun _ _ _ d=>d) (fun _ _ d=>d) (fun _ _ d=>d) (fun _ _ _ _ _ _ d=>d) (fun _ d=>d) (fun _ _ d=>d) (fun _ _ _ d=>d) (fun _ d=>d) (fun _ _ _ _ _ _ d=>d) (fun _ _ _ _ _ d=>d) (fun _ _ _ _ _ d=>d) (fun _ _ d=>d) (fun _ d=>d) (fun _ _ _ d=>d) (fun vs _ K d=>K vs) ⟨⟩ (fun _ _ _ _=>⟨⟩) v
theorem FG(v:AV)(K:List AV->R)(d:R):MP v K d=match v with|.tuple vs=>K vs|_=>d:=by cases v<;>rfl
def kG(b:ABlk):(List AV->R)->R->R:=ABlk.rec (motive:=fun _=>(List AV->R)->R->R) (fun cs K d=>K cs) (fun _ _ d=>d) (fun _ _ _ _ d=>d) (fun _ _ _ d=>d) (fun _ _ _ _ _ d=>d) (fun _ _ _ _ _ _ _ d=>d) (fun _ d=>d) b
theorem yR(b:ABlk)(K:List AV->R)(d:R):kG b K d=match b with|.cells cs=>K cs|_=>d:=by cases b<;>rfl
def EE(b:ABlk):(LS->Option AJump->Env->List Nat->ACode->ACode->R)->R->R:=ABlk.rec (motive:=fun _=>(LS->Option AJump->Env->List Nat->ACode->ACode->R)->R->R) (fun _ _ d=>d) (fun _ _ d=>d) (fun _ _ _ _ d=>d) (fun _ _ _ d=>d) (fun _ _ _ _ _ d=>d) (fun s p e q a b K d=>K s p e q a b) (fun _ d=>d) b
theorem H5(b:ABlk)(K:LS->Option AJump->Env->List Nat->ACode->ACode->R)(d:R):EE b K d=match b with|.loop s p e q a b=>K s p e q a b|_=>d:=by cases b<;>rfl
def PF(k:IntKind):Bool:=IntKind.rec false false false true false false false false k
theorem SZ{k:IntKind}(h:PF k=true):k = .i64:=by cases k<;>first|rfl|(cases h;done)
def aHT(n:Int):(Nat->R)->R->R:=Int.rec (motive:=fun _=>(Nat->R)->R->R) (fun m K d=>K m) (fun _ _ d=>d) n
theorem aA9(n:Int)(K:Nat->R)(d:R):(∃ m:Nat,n=m/\aHT n K d=K m)\/aHT n K d=d:=by
 cases n with
 |ofNat m=>exact .inl ⟨m,rfl,rfl⟩
 |negSucc m=>exact .inr rfl
end
def eT{α R:Type}(d:R)(x:Option α)(K:α->R):R:=Option.rec d (fun y=>K y) x
theorem cV{α R:Type}(d:R)(x:Option α)(K:α->R):eT d x K=match x with|some y=>K y|none=>d:=by cases x<;>rfl
def nE{R:Type}(n:Nat)(K:Nat->R):R:=Nat.rec (K 0) (fun m _=>K (Nat.succ m)) n
theorem jQ{R:Type}(n:Nat)(K:Nat->R):nE n K=K n:=by cases n<;>rfl
def odv(x:AOpd):Tre->AV:=AOpd.rec (fun t e=>Tre.get e t) (fun v _=>v) x
theorem gM{env:Env}{e:Tre}(h:kH env e)(x:AOpd):odv x e=x.ev env:=by
 cases x with
 |t n=>exact (h n).symm
 |c v=>rfl
def QF(xs:List AOpd)(e:Tre):List AV:=List.rec [] (fun x _ ih=>odv x e::ih) xs
theorem w7{env:Env}{e:Tre}(h:kH env e):∀ xs:List AOpd,QF xs e=xs.map (·.ev env)
 |[]=>rfl
 |x::xs=>by rw[List.map_cons,<-w7 h xs,<-gM h];rfl
def IC(e:Tre)(ts:List Nat):Env:=List.rec [] (fun t _ ih=>(t,Tre.get e t)::ih) ts
theorem yA{env:Env}{e:Tre}(h:kH env e):∀ (ts:List Nat) (t:Nat),t∈ts->Env.get (IC e ts) t=Env.get env t
 |s::ts,t,ht=>by
  have e1:IC e (s::ts)=(s,Tre.get e s)::IC e ts:=rfl;rw[e1,Env.get];split
  ·rename_i hs;subst hs;exact (h _).symm
  ·rename_i hs;refine yA h ts t ?_;rcases List.mem_cons.1 ht with rfl|ht
   ·exact absurd rfl hs
   ·exact ht
inductive SS where
 |mk (n:Nat) (t:N16 (N16 (N16 (Option ABlk))))
def SS.len(s:SS):Nat:=SS.rec (fun n _=>n) s
def SS.tree(s:SS):N16 (N16 (N16 (Option ABlk))):=SS.rec (fun _ t=>t) s
def BZ(t:N16 (N16 (N16 (Option ABlk))))(i:Nat):Option ABlk:=N16.sel (dig (Nat.mod i 16)) (N16.sel (dig (Nat.mod (Nat.div i 16) 16)) (N16.sel (dig (Nat.div i 256)) t))
def L8(t:N16 (N16 (N16 (Option ABlk))))(i:Nat)(b:Option ABlk):N16 (N16 (N16 (Option ABlk))) :=
 N16.put (dig (Nat.div i 256)) (N16.put (dig (Nat.mod (Nat.div i 16) 16)) (N16.put (dig (Nat.mod i 16)) b (N16.sel (dig (Nat.mod (Nat.div i 16) 16)) (N16.sel (dig (Nat.div i 256)) t))) (N16.sel (dig (Nat.div i 256)) t)) t
theorem EK(t:N16 (N16 (N16 (Option ABlk)))){i j:Nat}(b:Option ABlk)(hi:i<=4095)(hj:j<=4095):BZ (L8 t i b) j=if i=j then b else BZ t j:=by
 unfold BZ L8;rw[N16.sel_put];by_cases h1:dig (Nat.div i 256)=dig (Nat.div j 256)
 ·have e1:i/256=j/256:=xD (by omega) (by omega) h1;rw[if_pos h1,N16.sel_put];by_cases h2:dig (Nat.mod (Nat.div i 16) 16)=dig (Nat.mod (Nat.div j 16) 16)
  ·have e2:i/16%16=j/16%16:=xD (Nat.mod_lt _ (by omega)) (Nat.mod_lt _ (by omega)) h2;rw[if_pos h2,N16.sel_put];by_cases h3:dig (Nat.mod i 16)=dig (Nat.mod j 16)
   ·have e3:i%16=j%16:=xD (Nat.mod_lt _ (by omega)) (Nat.mod_lt _ (by omega)) h3;rw[if_pos h3,if_pos (by omega)]
   ·rw[if_neg h3,if_neg (fun h=>h3 (by rw[h])),h2,h1]
  ·rw[if_neg h2,if_neg (fun h=>h2 (by rw[h])),h1]
 ·rw[if_neg h1,if_neg (fun h=>h1 (by rw[h]))]
def SS.get(s:SS)(i:Nat):Option ABlk:=cond (Nat.ble i 4095) (BZ s.tree i) none
def SS.set(s:SS)(i:Nat)(b:ABlk):SS:=SS.rec (fun n t=>.mk n (L8 t i (some b))) s
def SS.new:SS:=.mk 0 (.all (.all (.all none)))
def CN{R:Type}(d:R)(s:SS)(b:ABlk)(K:SS->R):R:=SS.rec (fun n t=>cond (Nat.ble n 4095) (nE (Nat.add n 1) fun m=>K (.mk m (L8 t n (some b)))) d) s
def dG(σ:St)(s:SS):Prop:=σ.length=s.len/\∀ i,σ[i]? = s.get i
theorem dG.new:dG [] SS.new:=⟨rfl,fun i=>by
 simp only[SS.get,SS.new,SS.tree,BZ,N16.sel_all]
 cases Nat.ble i 4095<;>rfl⟩
theorem dG.small{σ:St}{s:SS}(h:dG σ s){i:Nat}{b:ABlk}(hb:σ[i]? = some b):i<=4095:=by
 rw[h.2 i,SS.get] at hb;cases hi:Nat.ble i 4095 with
 |true=>exact Nat.le_of_ble_eq_true hi
 |false=>rw[hi] at hb;cases hb
theorem dG.set{σ:St}{s:SS}(h:dG σ s){i:Nat}{b0:ABlk}(hb:σ[i]? = some b0)(b:ABlk):dG (σ.set i b) (s.set i b):=by
 have hi:=h.small hb;have hl:=(List.getElem?_eq_some_iff.1 hb).1;obtain⟨n,t⟩:=s;refine⟨by rw[List.length_set];exact h.1,fun j=>?_⟩;have hj:=h.2 j;show _=cond (Nat.ble j 4095) (BZ (L8 t i (some b)) j) none
 cases hjb:Nat.ble j 4095 with
 |true =>
  rw[cond_true,EK t (some b) hi (Nat.le_of_ble_eq_true hjb)];by_cases e:i=j
  ·subst e;rw[if_pos rfl,List.getElem?_set_self hl]
  ·rw[if_neg e,List.getElem?_set_ne e,hj];show cond (Nat.ble j 4095) (BZ t j) none=_
   rw[hjb];rfl
 |false =>
  have e:i≠j:=fun e=>by subst e;rw[Nat.ble_eq_true_of_le hi] at hjb;cases hjb
  rw[List.getElem?_set_ne e,hj];show cond (Nat.ble j 4095) (BZ t j) none=_
  rw[hjb];rfl
theorem sL{σ:St}{s:SS}{α:Type}{b:ABlk}{K:SS->Option α}{r:α}(h:dG σ s)(hr:CN none s b K=some r):∃ s',dG (σ++[b]) s'/\K s'=some r:=by
 obtain⟨n,t⟩:=s;have hr':cond (Nat.ble n 4095) (nE (Nat.add n 1) fun m=>K (.mk m (L8 t n (some b)))) none=some r:=hr;cases hn:Nat.ble n 4095 with
 |false=>rw[hn] at hr';cases hr'
 |true =>
  rw[hn,cond_true,jQ] at hr';refine⟨_,⟨?_,fun j=>?_⟩,hr'⟩
  ·rw[List.length_append];have:=h.1;show σ.length+1=n+1;rw[this];rfl
  ·have hl:σ.length=n:=h.1;have hj:=h.2 j;show _=cond (Nat.ble j 4095) (BZ (L8 t n (some b)) j) none
   cases hjb:Nat.ble j 4095 with
   |true =>
    rw[cond_true,EK t (some b) (Nat.le_of_ble_eq_true hn) (Nat.le_of_ble_eq_true hjb)];have hj':σ[j]? = BZ t j:=by rw[hj];show cond (Nat.ble j 4095) (BZ t j) none=_;rw[hjb];rfl
    by_cases e:n=j
    ·subst e;rw[if_pos rfl,List.getElem?_append_right (by omega)];simp[hl]
    ·rw[if_neg e,<-hj'];rcases Nat.lt_or_ge j n with q|q
     ·rw[List.getElem?_append_left (by omega)]
     ·rw[List.getElem?_append_right (by omega),List.getElem?_eq_none (by simp;omega),List.getElem?_eq_none (by omega)]
   |false =>
    have hn':=Nat.le_of_ble_eq_true hn;have hj4:4095<j:=by
     rcases Nat.lt_or_ge 4095 j with q|q
     ·exact q
     ·rw[Nat.ble_eq_true_of_le q] at hjb;cases hjb
    rw[List.getElem?_eq_none (by simp;omega)];rfl
def PP(s:SS)(n:Nat):Nat->List ABlk:=Nat.rec (motive:=fun _=>Nat->List ABlk) (fun _=>[]) (fun _ ih i=>eT [] (s.get i) fun b=>b::ih (Nat.add i 1)) n
def Q3(s:SS):St:=PP s s.len 0
theorem H2{σ:St}{s:SS}(h:dG σ s):∀ (k i:Nat),i+k=σ.length->PP s k i=σ.drop i
 |0,i,hi=>by rw[List.drop_eq_nil_of_le (by omega)];rfl
 |k+1,i,hi=>by
  have e:PP s (k+1) i=eT [] (s.get i) fun b=>b::PP s k (i+1):=rfl
  rw[e,<-h.2 i,List.getElem?_eq_getElem (by omega),cV];simp only;rw[H2 h k (i+1) (by omega)];exact (List.drop_eq_getElem_cons (by omega)).symm
theorem A2{σ:St}{s:SS}(h:dG σ s):Q3 s=σ:=by
 unfold Q3;rw[H2 h _ 0 (by rw[Nat.zero_add];exact h.1.symm)];rfl
def HS{α:Type}(σ:List ABlk):SS->(SS->Option α)->Option α:=List.rec (motive:=fun _=>SS->(SS->Option α)->Option α) (fun s K=>K s) (fun b _ ih s K=>CN none s b fun s=>ih s K) σ
theorem wH{α:Type}{K:SS->Option α}{r:α}:∀ {τ σ:St} {s:SS},dG σ s->HS τ s K=some r->∃ s',dG (σ++τ) s'/\K s'=some r
 |[],σ,s,h,hr=>⟨s,by rw[List.append_nil];exact h,hr⟩
 |b::τ,σ,s,h,hr=>by
  have hr':CN none s b (fun s=>HS τ s K)=some r:=hr;obtain⟨s',h1,h2⟩:=sL h hr';obtain⟨s2,h3,h4⟩:=wH h1 h2;exact⟨s2,by rw[List.append_assoc] at h3;exact h3,h4⟩
abbrev RR:=Option (AV×SS)
abbrev KV:=AV->SS->RR
def bv(r:Option AV)(s:SS)(K:KV):RR:=Option.rec none (fun v=>K v s) r
theorem kZ(v:AV)(s:SS)(K:KV):bv (some v) s K=K v s:=rfl
theorem aI1{o:Option AV}{s:SS}{K:KV}{r:AV×SS}(h:bv o s K=some r):∃ v,o=some v/\K v s=some r:=by
 cases o with
 |none=>cases h
 |some v=>exact⟨v,rfl,h⟩
def bnd(r:RR)(K:KV):RR:=Option.rec none (fun p=>Prod.rec (fun v s=>K v s) p) r
theorem NE{r:RR}{K:KV}{x:AV×SS}(h:bnd r K=some x):∃ v s,r=some (v,s)/\K v s=some x:=by
 cases r with
 |none=>cases h
 |some p=>exact⟨p.1,p.2,rfl,h⟩
def bnO{R:Type}(r:Option (AV×St))(K:AV->St->Option R):Option R:=Option.rec none (fun p=>Prod.rec (fun v s=>K v s) p) r
theorem aFH{R:Type}{r:Option (AV×St)}{K:AV->St->Option R}{x:R}(h:bnO r K=some x):∃ v s,r=some (v,s)/\K v s=some x:=by
 cases r with
 |none=>cases h
 |some p=>exact⟨p.1,p.2,rfl,h⟩
def Did(q:AOp)(env:Env)(σ:St)(K:KV)(r:AV×SS):Prop:=∃ v σ' s',aop q env σ=some (v,σ')/\dG σ' s'/\K v s'=some r
theorem E3{q:AOp}{env:Env}{σ s:St}{v:AV}(hq:aop q env σ=some (v,s))(h1:q.acts=false)(h2:q.allocs=false):s=σ:=by
 cases q<;>simp only[AOp.acts,AOp.allocs] at h1 h2<;>first|(cases h1;done)|(cases h2;done)|skip
 all_goals
  simp only[aop] at hq
  repeat' split at hq
  all_goals first|(cases hq;done)|(cases hq;rfl)
def R5(q:AOp)(e:Tre)(s:SS)(K:KV):RR:=bnO (aop q (IC e q.tmps) (Q3 s)) fun v σ'=>cond (cond q.acts true q.allocs) (HS σ' SS.new fun s'=>K v s') (K v s)
theorem tY{env:Env}{e:Tre}{σ:St}{s:SS}(h:kH env e)(hs:dG σ s){q:AOp}{K:KV}{r:AV×SS}(hr:R5 q e s K=some r):Did q env σ K r:=by
 unfold R5 at hr;rw[tX (fun t ht=>yA h _ t ht),A2 hs] at hr;obtain⟨v,σ',h1,h2⟩:=aFH hr;cases ha:q.acts with
 |true =>
  rw[ha] at h2;obtain⟨s',h3,h4⟩:=wH dG.new h2;exact⟨v,σ',s',h1,h3,h4⟩
 |false =>
  cases hb:q.allocs with
  |true =>
   rw[ha,hb] at h2;obtain⟨s',h3,h4⟩:=wH dG.new h2;exact⟨v,σ',s',h1,h3,h4⟩
  |false =>
   rw[ha,hb] at h2;have:=E3 h1 ha hb;subst this;exact⟨v,σ',s,h1,hs,h2⟩
def oP(v:AV):List AV:=aII v (fun cs=>cs) [v]
theorem pC(v:AV):oP v=v.cells:=by cases v<;>rfl
def LJ(v:AV):Bool:=AV.rec (motive_1:=fun _=>Bool) (motive_2:=fun _=>PUnit) false (fun _ _=>true) (fun _=>true) (fun _=>true) (fun _ _ _ _ _=>true) true (fun _=>true) (fun _ _=>true) true (fun _ _ _ _ _=>true) (fun _ _ _ _=>true) (fun _ _ _ _=>true) (fun _=>true) true (fun _ _=>false) (fun _ _=>false) ⟨⟩ (fun _ _ _ _=>⟨⟩) v
theorem SM(v:AV):LJ v=v.cell:=by cases v<;>rfl
theorem aMF(m n:Nat):(m==n)=Nat.beq m n:=by
 cases h:Nat.beq m n with
 |true=>simpa using Nat.eq_of_beq_eq_true h
 |false=>simpa using Nat.ne_of_beq_eq_false h
def HK(n:Nat)(v:AV):Bool:=cond (Nat.beq (nS (oP v)) n) (LF LJ (oP v)) false
theorem GV(n:Nat)(v:AV):HK n v=(v.cells.length==n&&v.cells.all (·.cell)):=by
 unfold HK;rw[iH,pC,F2];have e:LJ=(·.cell):=funext SM;rw[e];cases h:Nat.beq v.cells.length n with
 |true=>have:(v.cells.length==n)=true:=(aMF _ _).trans h;rw[this];rfl
 |false=>have:(v.cells.length==n)=false:=(aMF _ _).trans h;rw[this];rfl
def tJ(sh:Option Nat):List AV->Nat->(AV->RR)->RR :=
 Option.rec (motive:=fun _=>List AV->Nat->(AV->RR)->RR) (fun cs off K=>eT none (nth cs off) K)
  (fun n cs off K=>cond (Nat.ble (Nat.add off n) (nS cs)) (cond (Nat.beq n (nS cs)) (K (.agg cs)) (K (.agg (VB (OG cs off) n)))) none) sh
theorem vM(sh:Option Nat)(cs:List AV)(off:Nat)(K:AV->RR):tJ sh cs off K=match dQ sh cs off with|some v=>K v|none=>none:=by
 cases sh with
 |none=>unfold tJ dQ;simp only[cV,yW];cases cs[off]?<;>rfl
 |some n =>
  unfold tJ dQ;simp only[iH,JY,B3];cases h:Nat.ble (Nat.add off n) cs.length with
  |true =>
   have h1:off+n<=cs.length:=Nat.le_of_ble_eq_true h;rw[if_pos h1];cases h2:Nat.beq n cs.length with
   |true =>
    have h3:n=cs.length:=Nat.eq_of_beq_eq_true h2;have h4:off=0:=by omega
    subst h4;subst h3;simp
   |false=>rfl
  |false =>
   have h1:¬off+n<=cs.length:=fun h'=>by rw[show Nat.ble (Nat.add off n) cs.length=true from Nat.ble_eq_true_of_le h'] at h;cases h
   rw[if_neg h1];rfl
def SR(sh:Option Nat)(s:SS)(v:AV)(K:KV):RR :=
 UN v (fun id off=>eT none (s.get id) fun b=>kG b (fun cs=>tJ sh cs off fun w=>K w s) none)
  (PR v (fun xs i off _=>eT none (nth xs i) fun x=>tJ sh (oP x) off fun w=>K w s) none)
theorem WD(sh:Option Nat){σ:St}{s:SS}(hs:dG σ s)(v:AV)(K:KV):SR sh s v K=bv (jC sh σ v) s K:=by
 unfold SR;cases v<;>simp only[AN,C9,jC,aM,cV,yW,<-hs.2]<;>try rfl
 case ptr id off =>
  cases h:σ[id]? with
  |none=>rfl
  |some b =>
   simp only[yR];cases b<;>try rfl
   rename_i cs;simp only[vM];cases dQ sh cs off<;>rfl
 case lptr xs i off tk =>
  cases h:xs[i]? with
  |none=>rfl
  |some x =>
   simp only[vM,pC];cases dQ sh x.cells off<;>rfl
def xV(cs:List AV)(off:Nat)(v:AV):Option (List AV) :=
 cond (Nat.beq (nS (oP v)) 1) (cond (Nat.ble (Nat.add off 1) (nS cs)) (eT none (nth (oP v) 0) fun x=>some (aIA x cs off)) none) (eG cs off (oP v))
theorem FP(cs:List AV)(off:Nat)(v:AV):xV cs off v=eG cs off v.cells:=by
 unfold xV;rw[iH,iH,pC];cases h:Nat.beq v.cells.length 1 with
 |false=>rfl
 |true =>
  have h1:v.cells.length=1:=Nat.eq_of_beq_eq_true h;obtain⟨x,hx⟩:∃ x,v.cells=[x]:=List.length_eq_one_iff.1 h1;rw[hx];simp only[cond_true,eG,List.length_cons,List.length_nil,yW,cV,OB];cases h2:Nat.ble (Nat.add off 1) cs.length with
  |true =>
   have h3:off+1<=cs.length:=Nat.le_of_ble_eq_true h2;rw[if_pos (by simpa using h3)];simp only[cond_true,List.getElem?_cons_zero];rw[List.set_eq_take_append_cons_drop,if_pos (by omega)];simp
  |false =>
   have h3:¬off+1<=cs.length:=fun h'=>by rw[show Nat.ble (Nat.add off 1) cs.length=true from Nat.ble_eq_true_of_le h'] at h2;cases h2
   rw[if_neg (by simpa using h3)];rfl
def NT(n:Nat)(s:SS)(a v:AV)(K:KV):RR :=
 UN a (fun id off=>cond (HK n v) (eT none (s.get id) fun b=>kG b (fun cs=>eT none (xV cs off v) fun cs'=>K (.tuple []) (s.set id (.cells cs'))) none) none) none
theorem SF{n:Nat}{σ:St}{s:SS}(hs:dG σ s){a v:AV}{K:KV}{r:AV×SS}(hr:NT n s a v K=some r):∃ σ' s',j7 n σ a v=some σ'/\dG σ' s'/\K (.tuple []) s'=some r:=by
 unfold NT at hr;cases a<;>simp only[AN] at hr<;>try (cases hr;done)
 rename_i id off;simp only[j7,aM];rw[GV] at hr;cases hf:(v.cells.length==n&&v.cells.all (·.cell)) with
 |false=>rw[hf] at hr;cases hr
 |true =>
  rw[hf,cond_true,cV,<-hs.2] at hr;simp only[if_true];cases h:σ[id]? with
  |none=>rw[h] at hr;cases hr
  |some b =>
   rw[h] at hr;simp only[yR] at hr;cases b<;>try (cases hr;done)
   rename_i cs;simp only[FP,cV] at hr ⊢;cases hc:eG cs off v.cells with
   |none=>rw[hc] at hr;cases hr
   |some cs'=>rw[hc] at hr;exact⟨_,_,rfl,hs.set h _,hr⟩
def big:Nat:=9223372036854775807
theorem bJ{m:Nat}(h:Nat.ble m big=true):IntKind.i64.wrap (m:Int)=m:=by
 have h1:m<=9223372036854775807:=Nat.le_of_ble_eq_true h;unfold IntKind.wrap;have e1:(2^IntKind.i64.bits:Int)=18446744073709551616:=by decide
 have e2:(2^(IntKind.i64.bits-1):Int)=9223372036854775808:=by decide
 rw[e1,e2];have e3:(m:Int)%18446744073709551616=m:=by omega
 simp only[e3];rw[if_neg (by simp;omega)]
def H6(b:Bool)(s:SS)(K:KV):RR:=cond b (K (.bool true) s) (K (.bool false) s)
theorem t8(b:Bool)(s:SS)(K:KV):H6 b s K=K (.bool b) s:=by cases b<;>rfl
def KF(n:Nat)(s:SS)(K:KV):RR:=nE n fun n=>K (.int .i64 (.ofNat n)) s
theorem tI(n:Nat)(s:SS)(K:KV):KF n s K=K (.int .i64 n) s:=by unfold KF;rw[jQ];rfl
abbrev FB:=Nat->Nat->SS->KV->RR->RR
def aC4:FB:=fun m n s K d=>cond (Nat.ble (Nat.add m n) big) (KF (Nat.add m n) s K) d
def aDG:FB:=fun m n s K d=>cond (Nat.ble n m) (cond (Nat.ble m big) (KF (Nat.sub m n) s K) d) d
def aCR:FB:=fun m n s K d=>cond (Nat.ble (Nat.mul m n) big) (KF (Nat.mul m n) s K) d
def aED:FB:=fun m n s K d=>cond (Nat.beq n 0) d (cond (Nat.ble m big) (KF (Nat.div m n) s K) d)
def aDA:FB:=fun m n s K d=>cond (Nat.beq n 0) d (KF (Nat.mod m n) s K)
def aDE:FB:=fun m n s K d=>H6 (Nat.ble (Nat.add m 1) n) s K
def aD7:FB:=fun m n s K d=>H6 (Nat.ble m n) s K
def aDZ:FB:=fun m n s K d=>H6 (Nat.ble (Nat.add n 1) m) s K
def aDS:FB:=fun m n s K d=>H6 (Nat.ble n m) s K
def zN:FB:=fun _ _ _ _ d=>d
def z0(op:BinOp):FB:=BinOp.rec aC4 aDG aCR aED aDA zN zN zN zN zN zN zN zN aDE aD7 aDZ aDS op
def s8(op:BinOp)(s:SS)(x y:AV)(K:KV):RR:=bv (cY op x y) s K
theorem EJ{m n:Nat}(h:Nat.ble m n=false):n<m:=by
 rcases Nat.lt_or_ge n m with h'|h'
 ·exact h'
 ·rw[Nat.ble_eq_true_of_le h'] at h;cases h
theorem AQ(m n:Nat):Nat.ble m n=decide ((m:Int)<=n):=by
 cases h:Nat.ble m n with
 |true=>have:=Nat.le_of_ble_eq_true h;simp;omega
 |false=>have:=EJ h;simp;omega
theorem Y0(op:BinOp)(m n:Nat)(s:SS)(K:KV):z0 op m n s K (s8 op s (.int .i64 m) (.int .i64 n) K)=s8 op s (.int .i64 m) (.int .i64 n) K:=by
 cases op<;>try rfl
 case add =>
  simp only[z0,aC4];cases h:Nat.ble (Nat.add m n) big with
  |false=>rfl
  |true =>
   simp only[cond_true,tI,s8,cY,fF,if_true,kZ];have:IntKind.i64.wrap ((m:Int)+n)=((Nat.add m n:Nat):Int):=by have:=bJ h;rw[<-this];congr 1
   rw[this]
 case sub =>
  simp only[z0,aDG];cases h:Nat.ble n m with
  |false=>rfl
  |true =>
   cases h2:Nat.ble m big with
   |false=>rfl
   |true =>
    have h3:=Nat.le_of_ble_eq_true h;have h4:=Nat.le_of_ble_eq_true h2;have h5:Nat.ble (m-n) big=true:=Nat.ble_eq_true_of_le (by omega);simp only[cond_true,tI,s8,cY,fF,if_true,kZ];have:IntKind.i64.wrap ((m:Int)-n)=((Nat.sub m n:Nat):Int):=by
     have:=bJ h5;rw[show ((Nat.sub m n:Nat):Int)=((m-n:Nat):Int) from rfl,<-this]
     congr 1
     omega
    rw[this]
 case mul =>
  simp only[z0,aCR];cases h:Nat.ble (Nat.mul m n) big with
  |false=>rfl
  |true =>
   simp only[cond_true,tI,s8,cY,fF,if_true,kZ];have:IntKind.i64.wrap ((m:Int)*n)=((Nat.mul m n:Nat):Int):=by have:=bJ h;rw[<-this];congr 1
   rw[this]
 case quo =>
  simp only[z0,aED];cases h:Nat.beq n 0 with
  |true=>rfl
  |false =>
   have h1:n≠0:=Nat.ne_of_beq_eq_false h;cases h2:Nat.ble m big with
   |false=>rfl
   |true =>
    have h4:=Nat.le_of_ble_eq_true h2;have h5:Nat.ble (m/n) big=true:=Nat.ble_eq_true_of_le (Nat.le_trans (Nat.div_le_self _ _) h4);have h6:¬((n:Int)=0):=by omega
    simp only[cond_true,cond_false,tI,s8,cY,fF,if_true,if_neg h6,kZ];have:IntKind.i64.wrap ((m:Int).tdiv n)=((Nat.div m n:Nat):Int):=by
     have:=bJ h5;rw[show ((Nat.div m n:Nat):Int)=((m/n:Nat):Int) from rfl,<-this]
     congr 1
    rw[this]
 case rem =>
  simp only[z0,aDA];cases h:Nat.beq n 0 with
  |true=>rfl
  |false =>
   have h1:n≠0:=Nat.ne_of_beq_eq_false h;have h6:¬((n:Int)=0):=by omega
   simp only[cond_false,tI,s8,cY,fF,if_true,if_neg h6,kZ];rfl
 case lss =>
  simp only[z0,aDE,t8,AQ,s8,cY,fF,if_true,kZ];rfl
 case leq =>
  simp only[z0,aD7,t8,AQ,s8,cY,fF,if_true,kZ]
 case gtr =>
  simp only[z0,aDZ,t8,AQ,s8,cY,fF,if_true,kZ];rfl
 case geq =>
  simp only[z0,aDS,t8,AQ,s8,cY,fF,if_true,kZ];try rfl
def IK(x:AV):Option Nat:=AV.rec (motive_1:=fun _=>Option Nat) (motive_2:=fun _=>PUnit) none (fun k n=>cond (PF k) (Int.rec (fun m=>some m) (fun _=>none) n) none) (fun _=>none) (fun _=>none) (fun _ _ _ _ _=>none) none (fun _=>none) (fun _ _=>none) none (fun _ _ _ _ _=>none) (fun _ _ _ _=>none) (fun _ _ _ _=>none) (fun _=>none) none (fun _ _=>none) (fun _ _=>none) ⟨⟩ (fun _ _ _ _=>⟨⟩) x
theorem J5{x:AV}{m:Nat}(h:IK x=some m):x = .int .i64 m:=by
 cases x<;>try (cases h;done)
 rename_i k n;have h':cond (PF k) (Int.rec (fun m=>some m) (fun _=>none) n:Option Nat) none=some m:=h;cases hk:PF k with
 |false=>rw[hk] at h';cases h'
 |true =>
  rw[hk] at h';cases SZ hk;cases n with
  |ofNat q=>cases h';rfl
  |negSucc q=>cases h'
def U3(x y:AV)(K:Nat->Nat->RR)(d:RR):RR:=eT d (IK x) fun m=>eT d (IK y) fun n=>K m n
theorem ON(x y:AV)(K:Nat->Nat->RR)(d:RR):(∃ m n:Nat,x = .int .i64 m/\y = .int .i64 n/\U3 x y K d=K m n)\/U3 x y K d=d:=by
 unfold U3;cases hx:IK x with
 |none=>right;rfl
 |some m =>
  cases hy:IK y with
  |none=>right;rfl
  |some n=>left;exact⟨m,n,J5 hx,J5 hy,rfl⟩
def aGP(op:BinOp)(s:SS)(x y:AV)(K:KV):RR:=U3 x y (fun m n=>z0 op m n s K (s8 op s x y K)) (s8 op s x y K)
theorem Z7(op:BinOp)(s:SS)(x y:AV)(K:KV):aGP op s x y K=s8 op s x y K:=by
 unfold aGP;rcases ON x y (fun m n=>z0 op m n s K (s8 op s x y K)) (s8 op s x y K) with⟨m,n,rfl,rfl,h⟩|h
 ·rw[h];exact Y0 op m n s K
 ·exact h
def I7(sh:EqTy)(neg:Bool)(s:SS)(x y:AV)(K:KV):RR:=bv (match iG sh x y with|some b=>some (.bool (if neg then !b else b))|none=>none) s K
def aIK(sh:EqTy)(neg:Bool)(s:SS)(x y:AV)(K:KV):RR :=
 EqTy.rec (fun k=>SK.rec (U3 x y (fun m n=>H6 (cond neg (not (Nat.beq m n)) (Nat.beq m n)) s K) (I7 sh neg s x y K)) (I7 sh neg s x y K) (I7 sh neg s x y K) k) (fun _=>I7 sh neg s x y K) sh
theorem S3(m n:Nat):Nat.beq m n=((m:Int)==n):=by
 cases h:Nat.beq m n with
 |true=>have:=Nat.eq_of_beq_eq_true h;subst this;simp
 |false=>have:=Nat.ne_of_beq_eq_false h;symm;simp;omega
theorem aAZ(sh:EqTy)(neg:Bool)(s:SS)(x y:AV)(K:KV):aIK sh neg s x y K=I7 sh neg s x y K:=by
 unfold aIK;cases sh with
 |agg ks=>rfl
 |one k =>
  cases k<;>try rfl
  simp only;rcases ON x y (fun m n=>H6 (cond neg (not (Nat.beq m n)) (Nat.beq m n)) s K) (I7 (.one .i) neg s x y K) with⟨m,n,rfl,rfl,h⟩|h
  ·rw[h,t8];simp only[I7,iG,fS,if_true,kZ,S3];cases neg<;>rfl
  ·exact h
def TT(s:SS)(y:AV):Option (List AV) :=
 yL y (fun ys _ _=>some ys) (W5 y (fun id off l z=>eT none (s.get id) fun b=>kG b (fun cs=>cond (Nat.ble (Nat.add off (Nat.mul l z)) (nS cs)) (some (rT z l (OG cs off))) none) none) none)
theorem TR{σ:St}{s:SS}(hs:dG σ s)(y:AV):TT s y=jJ σ y:=by
 unfold TT;cases y<;>simp only[xI,GL,jJ];rename_i id off l z;simp only[cV,<-hs.2,aM];cases σ[id]? with
 |none=>rfl
 |some b =>
  simp only[yR];cases b<;>try rfl
  rename_i cs;simp only[iH,B3];cases h:Nat.ble (Nat.add off (Nat.mul l z)) cs.length with
  |true=>have h':off+l*z<=cs.length:=Nat.le_of_ble_eq_true h;rw[if_pos h'];rfl
  |false=>have h':cs.length<off+l*z:=EJ h;rw[if_neg (by omega)];rfl
theorem N4(n:Nat)(xs:List AV):LF (HK n) xs=aI n xs:=by
 have h1:HK n=fun x=>x.cells.length==n&&x.cells.all (·.cell):=funext fun x=>GV n x
 rw[F2,h1];rfl
def aMT{R:Type}(b:ABlk):(Nat->Nat->R)->R->R:=ABlk.rec (motive:=fun _=>(Nat->Nat->R)->R->R) (fun _ _ d=>d) (fun _ _ d=>d) (fun sz n _ K d=>K sz n) (fun _ _ _ d=>d) (fun _ _ _ _ _ d=>d) (fun _ _ _ _ _ _ _ d=>d) (fun _ d=>d) b
theorem YY{R:Type}(b:ABlk)(K:Nat->Nat->R)(d:R):aMT b K d=match b with|.tok sz n _=>K sz n|_=>d:=by cases b<;>rfl
def I6:Nat:=140737488355328
theorem I0:I6=room:=by decide
def aD5(sz:Nat)(s:SS)(xs ys:List AV)(full:Bool)(tk:Option Nat)(m:Nat)(K:KV):RR :=
 cond full (nE s.len fun n=>CN none s (.tok sz m true) fun s'=>K (.lit (NJ xs ys) false (some n)) s')
  (eT none tk fun t=>eT none (s.get t) fun b=>aMT b (fun sz' n=>cond (Nat.beq sz' sz) (cond (Nat.beq n (nS xs)) (K (.lit (NJ xs ys) false (some t)) (s.set t (.tok sz m true))) none) none) none)
def HJ(sz bytes:Nat)(s:SS)(x y:AV)(K:KV):RR :=
 yL x (fun xs full tk=>eT none (TT s y) fun ys=>cond (Nat.beq (nS ys) 0) (K (.lit xs full tk) s)
  (cond (rI sz y) (cond (LF (HK sz) xs) (cond (LF (HK sz) ys) (nE (Nat.add (nS xs) (nS ys)) fun m=>cond (Nat.ble (Nat.mul m bytes) I6) (cond (Nat.ble m I6) (aD5 sz s xs ys full tk m K) none) none) none) none) none)) none
theorem LX{sz bytes:Nat}{σ:St}{s:SS}(hs:dG σ s){x y:AV}{K:KV}{r:AV×SS}(hr:HJ sz bytes s x y K=some r):∃ v σ' s',bW sz bytes σ x y=some (v,σ')/\dG σ' s'/\K v s'=some r:=by
 unfold HJ at hr;rw[xI] at hr;split at hr
 ·rename_i xs full tk;rw[cV,TR hs] at hr;split at hr
  ·rename_i ys hv;simp only[iH,N4,jQ] at hr;have h0:bW sz bytes σ (.lit xs full tk) y=if ys.length=0 then some (.lit xs full tk,σ) else
    if (rI sz y&&aI sz xs&&aI sz ys&&decide ((xs.length+ys.length)*bytes<=room)&&decide (xs.length+ys.length<=room))=true then
     if full=true then some (.lit (xs++ys) false (some σ.length),σ++[.tok sz (xs.length+ys.length) true])
     else match tk with
      |some t=>match σ[t]? with
       |some (.tok sz' n _)=>if sz'=sz/\n=xs.length then some (.lit (xs++ys) false (some t),σ.set t (.tok sz (xs.length+ys.length) true)) else none
       |_=>none
      |none=>none
    else none:=by unfold bW;rw[hv];rfl
   rw[h0];cases hz:Nat.beq ys.length 0 with
   |true=>rw[hz] at hr;rw[if_pos (Nat.eq_of_beq_eq_true hz)];exact⟨_,σ,s,rfl,hs,hr⟩
   |false =>
    rw[hz] at hr;rw[if_neg (Nat.ne_of_beq_eq_false hz)];simp only[cond_false] at hr;cases c1:rI sz y with
    |false=>rw[c1] at hr;cases hr
    |true =>
    cases c2:aI sz xs with
    |false=>rw[c1,c2] at hr;cases hr
    |true =>
    cases c3:aI sz ys with
    |false=>rw[c1,c2,c3] at hr;cases hr
    |true =>
    rw[c1,c2,c3] at hr;simp only[cond_true] at hr;cases c4:Nat.ble (Nat.mul (Nat.add xs.length ys.length) bytes) I6 with
    |false=>rw[c4] at hr;cases hr
    |true =>
    cases c5:Nat.ble (Nat.add xs.length ys.length) I6 with
    |false=>rw[c4,c5] at hr;cases hr
    |true =>
    rw[c4,c5] at hr;simp only[cond_true] at hr;have d4:(xs.length+ys.length)*bytes<=room:=by rw[<-I0];exact Nat.le_of_ble_eq_true c4
    have d5:xs.length+ys.length<=room:=by rw[<-I0];exact Nat.le_of_ble_eq_true c5
    rw[if_pos (by simp[d4,d5])];unfold aD5 at hr;cases full with
    |true =>
     simp only[cond_true,jQ,qJ,if_true] at hr ⊢;obtain⟨s',h1,h2⟩:=sL hs hr;rw[<-hs.1] at h2;exact⟨_,_,s',rfl,h1,h2⟩
    |false =>
     simp only[cond_false,cV,qJ,<-hs.2,iH] at hr;rw[if_neg (by simp)];cases tk with
     |none=>cases hr
     |some t =>
      simp only at hr ⊢;cases hb:σ[t]? with
      |none=>rw[hb] at hr;cases hr
      |some b =>
       rw[hb] at hr;simp only[YY] at hr;cases b<;>try (cases hr;done)
       rename_i sz' n ex;simp only at hr ⊢;cases e1:Nat.beq sz' sz with
       |false=>rw[e1] at hr;cases hr
       |true =>
        cases e2:Nat.beq n xs.length with
        |false=>rw[e1,e2] at hr;cases hr
        |true =>
         rw[e1,e2] at hr;rw[if_pos ⟨Nat.eq_of_beq_eq_true e1,Nat.eq_of_beq_eq_true e2⟩];exact⟨_,_,_,rfl,hs.set hb _,hr⟩
  ·cases hr
 ·cases hr
abbrev CC:=AV->List AV->SS->RR
abbrev Arm:=CC->Tre->SS->KV->RR
def jG(q:AOp):Arm:=fun _ e s K=>R5 q e s K
def aMB(x:AOpd):Arm:=fun _ e s K=>K (odv x e) s
def aD9(c a b:AOpd):Arm:=fun _ e s K=>FE (odv c e) (fun t=>cond t (K (odv a e) s) (K (odv b e) s)) none
def TN(z:List AV):Arm:=fun _ e s K=>nE s.len fun n=>CN none s (.cells z) fun s'=>K (.ptr n 0) s'
def aL5(n:Nat)(x:AOpd):Arm:=fun _ e s K=>cond (HK n (odv x e)) (nE s.len fun n=>CN none s (.cells (oP (odv x e))) fun s'=>K (.ptr n 0) s') none
def aH4(z:List AV)(ps:List (Nat×Nat×AOpd)):Arm:=jG (.build z ps)
def XP(sz:Nat)(xs:List AOpd):Arm:=fun _ e s K=>cond (LF (HK sz) (QF xs e)) (K (.lit (QF xs e) true none) s) none
def aFJ(sz:Nat)(xs:List AOpd):Arm:=jG (.mkref sz xs)
def aDC(sh:Option Nat)(x:AOpd):Arm:=fun _ e s K=>SR sh s (odv x e) K
def S4(n:Nat)(a x:AOpd):Arm:=fun _ e s K=>NT n s (odv a e) (odv x e) K
def E0(x:AOpd):Arm:=fun _ e s K=>UN (odv x e) (fun i o=>K (.ptr i o) s) (PR (odv x e) (fun xs i o t=>K (.lptr xs i o t) s) (PA (odv x e) (fun f a b=>K (.func f a b) s) (NN (odv x e) (fun i=>K (.yield i) s) none)))
def aKU(op:BinOp)(x y:AOpd):Arm:=fun _ e s K=>aGP op s (odv x e) (odv y e) K
def aLR(sh:EqTy)(neg:Bool)(x y:AOpd):Arm:=fun _ e s K=>aIK sh neg s (odv x e) (odv y e) K
def aKY(x:AOpd):Arm:=fun _ e s K=>FE (odv x e) (fun b=>H6 (not b) s K) none
def aPA(x:AOpd):Arm:=jG (.neg x)
def aKQ(k:IntKind)(x:AOpd):Arm:=jG (.conv k x)
def X0(f:FuncId)(a b:List AOpd):Arm:=fun _ e s K=>K (.func f (QF a e) (QF b e)) s
def aFD:Arm:=jG .mkmap
def XI(z:List AV)(n:Nat)(l c:AOpd):Arm:=jG (.mkslice z n l c)
def Y3(sz:Nat)(x:AOpd)(l h m:Option AOpd):Arm:=jG (.slicev sz x l h m)
def aA7(n sz:Nat)(x:AOpd)(l h:Option AOpd):Arm:=jG (.slicea n sz x l h)
def XN(x:AOpd)(off:Nat):Arm:=fun _ e s K=>UN (odv x e) (fun i o=>K (.ptr i (Nat.add o off)) s) (PR (odv x e) (fun xs i o t=>K (.lptr xs i (Nat.add o off) t) s) none)
def T7(x:AOpd)(off:Nat)(sh:Option Nat):Arm:=fun _ e s K=>aII (odv x e) (fun cs=>tJ sh cs off fun w=>K w s) none
def MJ(sz:Nat)(x i:AV)(s:SS)(K:KV)(d:RR):RR :=
 aL9 i (fun _ n=>aHT n (fun j=>yL x (fun xs _ t=>eT none (nth xs j) fun y=>cond (Nat.beq (nS (oP y)) sz) (K (.lptr xs j 0 t) s) none)
  (W5 x (fun id off len sz'=>cond (Nat.beq sz' sz) (cond (Nat.ble (Nat.add j 1) len) (nE (Nat.add off (Nat.mul j sz)) fun o=>K (.ptr id o) s) none) none) d)) d) d
def XV(arr:Option Nat)(sz:Nat)(x i:AOpd):Arm :=
 Option.rec (motive:=fun _=>Arm) (fun _ e s K=>MJ sz (odv x e) (odv i e) s K (R5 (.iaddr none sz x i) e s K)) (fun n=>jG (.iaddr (some n) sz x i)) arr
def aG4(n sz:Nat)(sh:Option Nat)(x i:AOpd):Arm:=jG (.index n sz sh x i)
def ZK(x i:AOpd):Arm:=jG (.sindex x i)
def aBR(sh:EqTy)(ok:Bool)(z:AV)(m k:AOpd):Arm:=jG (.lookup sh ok z m k)
def aB2(sh:EqTy)(m k v:AOpd):Arm:=jG (.mapset sh m k v)
def aBC(x:AOpd):Arm:=jG (.srange x)
def aHB(x:AOpd):Arm:=jG (.snext x)
def aAN(x:AOpd):Arm:=jG (.mrange x)
def aEH(x:AOpd):Arm:=fun _ _ _ _=>none
def aGA(x:AOpd):Arm:=jG (.entry x)
def aJR(x:AOpd)(i:Nat):Arm:=fun _ e s K=>MP (odv x e) (fun vs=>eT none (nth vs i) fun v=>K v s) none
def aJT(x:AV)(s:SS)(K:KV)(d:RR):RR:=yL x (fun xs _ _=>KF (nS xs) s K) (W5 x (fun _ _ l _=>K (.int .i64 (.ofNat l)) s) d)
def aLQ(k:Nat)(x:AOpd):Arm:=fun _ e s K=>cond (Nat.beq k 1) (aJT (odv x e) s K (R5 (.len k x) e s K)) (R5 (.len k x) e s K)
def OT(sz bytes:Nat)(x y:AOpd):Arm:=fun _ e s K=>HJ sz bytes s (odv x e) (odv y e) K
def aE3(sz bytes:Nat)(x y:AOpd):Arm:=jG (.apref sz bytes x y)
def aMH(sz:Nat)(x y:AOpd):Arm:=jG (.copy sz x y)
def aN4(xs:List AOpd):Arm:=jG (.min xs)
def aPB(xs:List AOpd):Arm:=jG (.max xs)
def VG(f:AOpd)(args:List AOpd):Arm:=fun C e s K=>bnd (C (odv f e) (QF args e) s) K
def gE(q:AOp):Arm:=AOp.rec (motive:=fun _=>Arm) aMB aD9 TN aL5 aH4 XP aFJ aDC S4 E0 aKU aLR aKY aPA aKQ X0 aFD XI Y3 aA7 XN T7 XV aG4 ZK aBR aB2 aBC aHB aAN aEH aGA aJR aLQ OT aE3 aMH aN4 aPB VG q
theorem RH{sz:Nat}{x i:AOpd}{env:Env}{σ:St}{s:SS}{K:KV}{d:RR}{r:AV×SS}(hs:dG σ s)(hd:d=some r->Did (.iaddr none sz x i) env σ K r)(hr:MJ sz (x.ev env) (i.ev env) s K d=some r):Did (.iaddr none sz x i) env σ K r:=by
 unfold MJ at hr;unfold Did at hd ⊢;simp only[aop] at hd ⊢;generalize i.ev env=iv at *;generalize x.ev env=xv at *;cases iv<;>try exact hd hr
 rename_i k n;simp only[aAS] at hr
 rcases aA9 n (fun j=>yL xv (fun xs _ t=>eT none (nth xs j) fun y=>cond (Nat.beq (nS (oP y)) sz) (K (.lptr xs j 0 t) s) none)
  (W5 xv (fun id off len sz'=>cond (Nat.beq sz' sz) (cond (Nat.ble (Nat.add j 1) len) (nE (Nat.add off (Nat.mul j sz)) fun o=>K (.ptr id o) s) none) none) d)) d with⟨j,rfl,h⟩|h
 ·rw[h] at hr;cases xv<;>try exact hd hr
  case lit xs fl tk =>
   simp only[xI,cV,yW,iH,pC] at hr;simp only[eQ,Int.toNat_natCast];cases hx:xs[j]? with
   |none=>rw[hx] at hr;cases hr
   |some y =>
    rw[hx] at hr;simp only at hr ⊢;cases hb:Nat.beq y.cells.length sz with
    |true =>
     rw[hb] at hr;have:y.cells.length=sz:=Nat.eq_of_beq_eq_true hb;rw[if_pos ⟨by omega,this⟩];exact⟨_,σ,s,rfl,hs,hr⟩
    |false=>rw[hb] at hr;cases hr
  case ref id off len sz' =>
   simp only[xI,GL,jQ] at hr;simp only[eQ,Int.toNat_natCast];cases hb:Nat.beq sz' sz with
   |true =>
    have e1:sz'=sz:=Nat.eq_of_beq_eq_true hb;cases hl:Nat.ble (Nat.add j 1) len with
    |true =>
     rw[hb,hl] at hr;have e2:j+1<=len:=Nat.le_of_ble_eq_true hl;rw[if_pos ⟨by omega,by omega,e1⟩];exact⟨_,σ,s,rfl,hs,hr⟩
    |false=>rw[hb,hl] at hr;cases hr
   |false=>rw[hb] at hr;cases hr
 ·rw[h] at hr;exact hd hr
theorem did{q:AOp}{env:Env}{σ:St}{s:SS}{K:KV}{r:AV×SS}{o:Option AV}(hs:dG σ s)(ha:aop q env σ=match o with|some v=>some (v,σ)|none=>none)(hr:bv o s K=some r):Did q env σ K r:=by
 obtain⟨v,rfl,h⟩:=aI1 hr;exact⟨v,σ,s,ha,hs,h⟩
theorem sP{C:CC}{q:AOp}{env:Env}{e:Tre}{σ:St}{s:SS}{K:KV}{r:AV×SS}(h:kH env e)(hs:dG σ s)(hq:∀ f args,q≠.call f args)(hr:gE q C e s K=some r):Did q env σ K r:=by
 cases q
 case mov x=>simp only[gE,aMB,gM h] at hr;exact⟨_,σ,s,rfl,hs,hr⟩
 case pick c a b =>
  simp only[gE,aD9,gM h,wF] at hr;split at hr
  ·rename_i t hc;cases t<;>exact⟨_,σ,s,by simp only[aop,hc],hs,hr⟩
  ·cases hr
 case alloc z =>
  simp only[gE,TN,jQ] at hr;obtain⟨s',h1,h2⟩:=sL hs hr;rw[<-hs.1] at h2;exact⟨_,_,s',rfl,h1,h2⟩
 case box n x =>
  simp only[gE,aL5,gM h,jQ,GV,pC] at hr;cases hc:((x.ev env).cells.length==n&&(x.ev env).cells.all (·.cell)) with
  |false=>rw[hc] at hr;cases hr
  |true =>
   rw[hc] at hr;obtain⟨s',h1,h2⟩:=sL hs hr;rw[<-hs.1] at h2;exact⟨_,_,s',by simp only[aop];rw[if_pos hc],h1,h2⟩
 case mklit sz xs =>
  simp only[gE,XP,w7 h,N4] at hr;cases hc:aI sz (xs.map (·.ev env)) with
  |false=>rw[hc] at hr;cases hr
  |true=>rw[hc] at hr;exact⟨_,σ,s,by simp only[aop];rw[if_pos hc],hs,hr⟩
 case load sh x =>
  simp only[gE,aDC,gM h,WD sh hs] at hr;exact did hs rfl hr
 case store n a x =>
  simp only[gE,S4,gM h] at hr;obtain⟨σ',s',h1,h2,h3⟩:=SF hs hr;exact⟨_,σ',s',by simp only[aop,h1],h2,h3⟩
 case nilCheck x =>
  simp only[gE,E0,gM h,AN,C9,CJ,ET] at hr;cases hx:x.ev env<;>rw[hx] at hr<;>first|(cases hr;done)|exact⟨_,σ,s,by simp only[aop,hx],hs,hr⟩
 case bin op x y =>
  simp only[gE,aKU,gM h,Z7,s8] at hr;exact did hs rfl hr
 case eql sh neg x y =>
  simp only[gE,aLR,gM h,aAZ,I7] at hr;refine did hs ?_ hr;simp only[aop];cases iG sh (x.ev env) (y.ev env)<;>rfl
 case not x =>
  simp only[gE,aKY,gM h,wF,t8] at hr;cases hx:x.ev env<;>rw[hx] at hr<;>first|(cases hr;done)|exact⟨_,σ,s,by simp only[aop,hx],hs,hr⟩
 case mkfun f a b=>simp only[gE,X0,w7 h] at hr;exact⟨_,σ,s,rfl,hs,hr⟩
 case faddr x off =>
  simp only[gE,XN,gM h,AN,C9] at hr;cases hx:x.ev env<;>rw[hx] at hr<;>first|(cases hr;done)|exact⟨_,σ,s,by simp only[aop,hx];rfl,hs,hr⟩
 case field x off sh =>
  simp only[gE,T7,gM h,ZG,vM] at hr;cases hx:x.ev env<;>rw[hx] at hr<;>try (cases hr;done)
  rename_i cs;simp only at hr;cases hc:dQ sh cs off with
  |none=>rw[hc] at hr;cases hr
  |some v=>rw[hc] at hr;exact⟨v,σ,s,by simp only[aop,hx,hc],hs,hr⟩
 case iaddr arr sz x i =>
  cases arr with
  |none=>simp only[gE,XV,gM h] at hr;exact RH hs (fun hd=>tY h hs hd) hr
  |some n=>exact tY h hs hr
 case ext x i =>
  simp only[gE,aJR,gM h,FG,cV,yW] at hr;cases hx:x.ev env<;>rw[hx] at hr<;>try (cases hr;done)
  rename_i vs;simp only at hr;cases hc:vs[i]? with
  |none=>rw[hc] at hr;cases hr
  |some v=>rw[hc] at hr;exact⟨v,σ,s,by simp only[aop,hx,hc],hs,hr⟩
 case len k x =>
  simp only[gE,aLQ,gM h] at hr;cases hk:Nat.beq k 1 with
  |false=>rw[hk] at hr;exact tY h hs hr
  |true =>
   have:=Nat.eq_of_beq_eq_true hk;subst this;simp only[hk,cond_true,aJT,xI,GL,tI,iH] at hr;cases hx:x.ev env<;>rw[hx] at hr<;>first|exact tY h hs hr|exact⟨_,σ,s,by first|(simp only[aop,hx,gO];done)|(simp only[aop,hx,gO];rfl),hs,hr⟩
 case append sz bytes x y =>
  simp only[gE,OT,gM h] at hr;exact LX hs hr
 case mnext x=>cases hr
 case call f args=>exact absurd rfl (hq _ _)
 case mkmap=>exact tY (q:=.mkmap) h hs hr
 all_goals exact tY h hs hr
abbrev KE:=Tre->SS->RR
def wV(d:Option Nat)(v:AV)(e:Tre)(K:Tre->RR):RR:=Option.rec (K e) (fun t=>cond (Nat.ble t 255) (K (Tre.put e t v)) none) d
theorem lA{d:Option Nat}{v:AV}{e:Tre}{K:Tre->RR}{r:AV×SS}{env:Env}(h:kH env e)(hr:wV d v e K=some r):∃ e',kH (Env.put env d v) e'/\K e'=some r:=by
 cases d with
 |none=>exact⟨e,h,hr⟩
 |some t =>
  simp only[wV] at hr;cases ht:Nat.ble t 255 with
  |false=>rw[ht] at hr;cases hr
  |true=>rw[ht] at hr;exact⟨_,h.put t v ht,hr⟩
def GY(v:AV)(w:Bool)(A B:Unit->RR):RR:=FE v (fun b=>cond b (cond w (A ()) (B ())) (cond w (B ()) (A ()))) (MP v (fun vs=>List.rec (B ()) (fun _ _ _=>none) vs) none)
def aCX(v:AV)(w:Bool):Option Bool:=match v with|.bool b=>some (b==w)|.tuple []=>some false|_=>none
theorem P6{v:AV}{w:Bool}{A B:Unit->RR}{r:AV×SS}(h:GY v w A B=some r):
  (aCX v w=some true/\A ()=some r)\/(aCX v w=some false/\B ()=some r):=by
 unfold GY at h;simp only[wF,FG] at h;cases v<;>try (cases h;done)
 case bool b=>simp only at h;cases b<;>cases w<;>first|exact .inl ⟨rfl,h⟩|exact .inr ⟨rfl,h⟩
 case tuple vs =>
  simp only at h;cases vs with
  |nil=>exact .inr ⟨rfl,h⟩
  |cons x xs=>exact absurd h (by simp)
def JT(g:Option (Nat×Bool))(e:Tre)(A B:Unit->RR):RR:=Option.rec (A ()) (fun p=>Prod.rec (fun t w=>GY (Tre.get e t) w A B) p) g
theorem II{o:AOper}{env:Env}{e:Tre}{A B:Unit->RR}{r:AV×SS}(h:kH env e)(hr:JT o.guard e A B=some r):
  (o.wanted env=some true/\A ()=some r)\/(o.wanted env=some false/\B ()=some r):=by
 obtain⟨dst,q,g⟩:=o;cases g with
 |none=>exact .inl ⟨rfl,hr⟩
 |some p =>
  obtain⟨t,w⟩:=p;have:=P6 (show GY (Tre.get e t) w A B=some r from hr);rw[<-h t] at this;exact this
def aK5(C:CC)(o:AOper)(e:Tre)(s:SS)(K:KE):RR :=
 AOper.rec (fun dst q g=>JT g e (fun _=>gE q C e s fun v s'=>wV dst v e fun e'=>K e' s') (fun _=>wV dst (.tuple []) e fun e'=>K e' s)) o
def aAB(C:CC)(os:List AOper):Tre->SS->KE->RR:=List.rec (motive:=fun _=>Tre->SS->KE->RR) (fun e s K=>K e s) (fun o _ ih e s K=>aK5 C o e s fun e s=>ih e s K) os
variable {T:FuncId->Option AFunc}
abbrev RD:=Nat->SS->Bool
def chk(r:RR):Bool:=Option.rec false (fun _=>true) r
def aCF(C:CC)(q:AOp)(lo hi:Nat)(e:Tre)(v:AV):RD:=fun j s =>
 cond (cond (Nat.ble lo j) (Nat.ble j hi) false) (chk (gE q C e s fun w _=>cond (eqVF 100000 w v) (some (.undef,SS.new)) none)) true
def WJ(rd:RD)(hist:List SS):Nat->Bool:=List.rec (motive:=fun _=>Nat->Bool) (fun _=>true) (fun s _ ih j=>cond (rd j s) (ih (Nat.add j 1)) false) hist
theorem O9(rd:RD):∀ (hist:List SS) (k:Nat),WJ rd hist k=true->∀ j s,hist[j]? = some s->rd (k+j) s=true
 |[],k,_,j,s,h=>by simp at h
 |t::hist,k,h,j,s,hs=>by
  have h':cond (rd k t) (WJ rd hist (k+1)) false=true:=h;cases hr:rd k t with
  |false=>rw[hr] at h';cases h'
  |true =>
   rw[hr] at h';cases j with
   |zero=>simp at hs;subst hs;exact hr
   |succ j=>have:=O9 rd hist (k+1) h' j s (by simpa using hs);rw[show k+(j+1)=k+1+j from by omega];exact this
def DD(rds:List RD)(hist:List SS):Bool:=List.rec true (fun rd _ ih=>cond (WJ rd hist 0) ih false) rds
def aKJ(rd:RD)(r:ARead):Prop:=∀ j σ s,dG σ s->r.lo<=j->j<=r.hi->rd j s=true->aop r.op r.env σ=some (r.v,σ)
def yF(hist:List St)(hs:List SS):Prop:=hist.length=hs.length/\∀ (j:Nat) (σ:St),hist[j]? = some σ->∃ s,hs[j]? = some s/\dG σ s
theorem yF.snoc{hist:List St}{hs:List SS}(h:yF hist hs){σ:St}{s:SS}(hl:dG σ s):yF (hist++[σ]) (Ex.snoc s hs):=by
 rw[OY];refine⟨by simp[h.1],fun j τ hj=>?_⟩;rcases Nat.lt_or_ge j hist.length with q|q
 ·rw[List.getElem?_append_left q] at hj;rw[List.getElem?_append_left (by rw[<-h.1];exact q)];exact h.2 j τ hj
 ·rw[List.getElem?_append_right q] at hj;have e:j=hist.length:=by
   rcases Nat.lt_or_ge (j-hist.length) 1 with q'|q'
   ·omega
   ·rw[List.getElem?_eq_none (by simpa using q')] at hj;cases hj
  subst e;simp only[Nat.sub_self,List.getElem?_cons_zero,Option.some.injEq] at hj;subst hj;rw[h.1,List.getElem?_append_right (Nat.le_refl _)];exact⟨s,by simp,hl⟩
def YG:List RD->List ARead->Prop
 |[],[]=>True
 |rd::rds,r::rs=>aKJ rd r/\YG rds rs
 |_,_=>False
theorem EU{hist:List St}{hs:List SS}(hh:yF hist hs):∀ {rds:List RD} {rs:List ARead},YG rds rs->DD rds hs=true->∀ r∈rs,ARead.ok r hist
 |[],[],_,_,r,hm=>by cases hm
 |rd::rds,r0::rs,h,hk,r,hm=>by
  have hk':cond (WJ rd hs 0) (DD rds hs) false=true:=hk;cases h0:WJ rd hs 0 with
  |false=>rw[h0] at hk';cases hk'
  |true =>
   rw[h0] at hk';rcases List.mem_cons.1 hm with rfl|hm
   ·intro j σ h1 h2 h3;obtain⟨s,h4,h5⟩:=hh.2 j σ h3;have:=O9 rd hs 0 h0 j s h4;rw[Nat.zero_add] at this;exact h.1 j σ s h5 h1 h2 this
   ·exact EU hh h.2 hk' r hm
 |[],_::_,h,_,_,_=>h.elim
 |_::_,[],h,_,_,_=>h.elim
theorem aB6{C:CC}{q:AOp}{lo hi:Nat}{env:Env}{e:Tre}{v:AV}(h:kH env e)(hq:q.reads=true):aKJ (aCF C q lo hi e v) ⟨lo,hi,q,env,v⟩:=by
 intro j σ s hs h1 h2 h3;simp only[aCF] at h3;rw[show Nat.ble lo j=true from Nat.ble_eq_true_of_le h1,show Nat.ble j hi=true from Nat.ble_eq_true_of_le h2] at h3;simp only[cond_true] at h3;cases hx:gE q C e s (fun w _=>cond (eqVF 100000 w v) (some (.undef,SS.new)) none) with
 |none=>rw[hx] at h3;cases h3
 |some r =>
  obtain⟨w,σ',s',d1,d2,d3⟩:=sP h hs (fun f args e=>by subst e;cases hq) hx;cases he:eqVF 100000 w v with
  |false=>have d4:cond (eqVF 100000 w v) (some (AV.undef,SS.new)) none=some r:=d3;rw[he] at d4;cases d4
  |true=>rw[d1,eqVF_ok _ _ _ he,EB hq d1]
abbrev KD:=Tre->SS->Nat->List SS->List RD->RR
def UP(C:CC)(dst:Option Nat)(q:AOp)(lo hi:Nat)(e:Tre)(s:SS)(next:Nat)(hist:List SS)(rds:List RD)(K:KD):RR :=
 cond q.allocs (wV dst (.ptr next 0) e fun e'=>K e' s (Nat.add next 1) hist rds)
  (cond q.acts (gE q C e s fun v s'=>wV dst v e fun e'=>K e' s' next (snoc s' hist) rds)
   (cond q.reads (gE q C e s fun v _=>wV dst v e fun e'=>K e' s next hist (aCF C q lo hi e v::rds))
    (gE q C e s fun v _=>wV dst v e fun e'=>K e' s next hist rds)))
def IF(C:CC)(ds:List ADOper):Tre->SS->Nat->List SS->List RD->KE->RR :=
 List.rec (motive:=fun _=>Tre->SS->Nat->List SS->List RD->KE->RR) (fun e s _ hist rds K=>cond (DD rds hist) (K e s) none)
  (fun d _ ih e s next hist rds K=>ADOper.rec (fun o lo hi=>AOper.rec (fun dst q g=>JT g e (fun _=>UP C dst q lo hi e s next hist rds fun e s next hist rds=>ih e s next hist rds K)
  (fun _=>wV dst (.tuple []) e fun e'=>ih e' s (cond q.allocs (Nat.add next 1) next) (cond q.acts (snoc s hist) hist) rds K)) o) d) ds
theorem HW{σ σ':St}{l:Nat}(h:KeepS σ σ' l):KeepS σ σ' 0:=h.weak (Nat.zero_le _)
theorem oY{σ σ1 σ2:St}(h:KeepS σ σ1 0)(k:KeepS σ1 σ2 0):KeepS σ σ2 0:=HW (h.trans k)
def wW(T:FuncId->Option AFunc)(C:CC):Prop:=∀ f args σ s v s',dG σ s->C f args s=some (v,s')->∃ σ',dG σ' s'/\KeepS σ σ' 0/\Run T (.callv f args σ) fun r=>r.v=v/\r.σ=σ'
theorem A3{C:CC}(hC:wW T C):∀ {os:List AOper} {env:Env} {e:Tre} {σ:St} {s:SS} {K:KE} {r:AV×SS},kH env e->dG σ s->aAB C os e s K=some r ->
  ∃ env' e' σ' s',KeepS σ σ' 0/\Run T (.ops os env σ) (fun o=>o=⟨none,env',σ',.undef⟩)/\kH env' e'/\dG σ' s'/\K e' s'=some r
 |[],env,e,σ,s,K,r,h,hs,hr=>⟨env,e,σ,s,.refl _ _,.nil rfl,h,hs,hr⟩
 |o::os,env,e,σ,s,K,r,h,hs,hr=>by
  obtain⟨dst,q,g⟩:=o;have hr':JT g e (fun _=>gE q C e s fun v s'=>wV dst v e fun e'=>aAB C os e' s' K) (fun _=>wV dst (.tuple []) e fun e'=>aAB C os e' s K)=some r:=hr;rcases II (o:=⟨dst,q,g⟩) h hr' with⟨hw,h1⟩|⟨hw,h1⟩
  ·by_cases hc:∃ f args,q = .call f args
   ·obtain⟨f,args,rfl⟩:=hc;simp only[gE,VG,gM h,w7 h] at h1;obtain⟨v,s1,h2,h3⟩:=NE h1;obtain⟨σ1,q1,k1,r1⟩:=hC _ _ _ _ _ _ hs h2;obtain⟨e',he',h4⟩:=lA h h3;obtain⟨env2,e2,σ2,s2,k2,r2,l2,y2,x2⟩:=A3 hC he' q1 h4;exact⟨env2,e2,σ2,s2,oY k1 k2,.stepc hw rfl r1 (fun r' hr'=>by rw[hr'.1,hr'.2];exact r2),l2,y2,x2⟩
   ·obtain⟨v,σ1,s1,h2,q1,h3⟩:=sP h hs (fun f args e=>hc ⟨f,args,e⟩) h1;obtain⟨e',he',h4⟩:=lA h h3;obtain⟨env2,e2,σ2,s2,k2,r2,l2,y2,x2⟩:=A3 hC he' q1 h4;exact⟨env2,e2,σ2,s2,oY (HW (KL h2)) k2,.step hw h2 r2,l2,y2,x2⟩
  ·obtain⟨e',he',h4⟩:=lA h h1;obtain⟨env2,e2,σ2,s2,k2,r2,l2,y2,x2⟩:=A3 hC he' hs h4;exact⟨env2,e2,σ2,s2,k2,.off hw r2,l2,y2,x2⟩
theorem nQ{C:CC}(hC:wW T C):∀ {ds:List ADOper} {env:Env} {e:Tre} {σ:St} {s:SS} {next:Nat} {hist:List St} {hss:List SS} {rds:List RD} {rs:List ARead} {K:KE} {r:AV×SS},kH env e->dG σ s->yF hist hss->YG rds rs ->
  IF C ds e s next hss rds K=some r->∃ env' e' σ' s',KeepS σ σ' 0/\Run T (.dops ds env σ next hist rs) (fun o=>o=⟨none,env',σ',.undef⟩)/\kH env' e'/\dG σ' s'/\K e' s'=some r
 |[],env,e,σ,s,next,hist,hss,rds,rs,K,r,h,hs,hh,hrd,hr=>by
  have hr':cond (DD rds hss) (K e s) none=some r:=hr;cases hk:DD rds hss with
  |false=>rw[hk] at hr';cases hr'
  |true=>rw[hk] at hr';exact⟨env,e,σ,s,.refl _ _,.dnil (EU hh hrd hk) rfl,h,hs,hr'⟩
 |d::ds,env,e,σ,s,next,hist,hss,rds,rs,K,r,h,hs,hh,hrd,hr=>by
  obtain⟨⟨dst,q,g⟩,lo,hi⟩:=d;have hr':JT g e (fun _=>UP C dst q lo hi e s next hss rds fun e s next hist rds=>IF C ds e s next hist rds K)
   (fun _=>wV dst (.tuple []) e fun e'=>IF C ds e' s (cond q.allocs (Nat.add next 1) next) (cond q.acts (snoc s hss) hss) rds K)=some r:=hr
  rcases II (o:=⟨dst,q,g⟩) h hr' with⟨hw,h1⟩|⟨hw,h1⟩
  ·unfold UP at h1;cases hal:q.allocs with
   |true =>
    rw[hal] at h1;simp only[cond_true] at h1;obtain⟨e',he',h4⟩:=lA h h1;obtain⟨env2,e2,σ2,s2,k2,r2,l2,y2,x2⟩:=nQ hC he' hs hh hrd h4;cases q<;>first|(cases hal;done)|skip
    exact⟨env2,e2,σ2,s2,k2,.dalloc hw rfl r2,l2,y2,x2⟩
   |false =>
    rw[hal] at h1;cases hac:q.acts with
    |true =>
     rw[hac] at h1;simp only[cond_true,cond_false] at h1;by_cases hc:∃ f args,q = .call f args
     ·obtain⟨f,args,rfl⟩:=hc;simp only[gE,VG,gM h,w7 h] at h1;obtain⟨v,s1,h2,h3⟩:=NE h1;obtain⟨σ1,q1,k1,r1⟩:=hC _ _ _ _ _ _ hs h2;obtain⟨e',he',h4⟩:=lA h h3;obtain⟨env2,e2,σ2,s2,k2,r2,l2,y2,x2⟩:=nQ hC he' q1 (hh.snoc q1) hrd h4;exact⟨env2,e2,σ2,s2,oY k1 k2,.dcall hw rfl r1 r2,l2,y2,x2⟩
     ·obtain⟨v,σ1,s1,h2,q1,h3⟩:=sP h hs (fun f args e=>hc ⟨f,args,e⟩) h1;obtain⟨e',he',h4⟩:=lA h h3;obtain⟨env2,e2,σ2,s2,k2,r2,l2,y2,x2⟩:=nQ hC he' q1 (hh.snoc q1) hrd h4;exact⟨env2,e2,σ2,s2,oY (HW (KL h2)) k2,.dact hw hac h2 r2,l2,y2,x2⟩
    |false =>
     rw[hac] at h1;have hnc:∀ f args,q≠.call f args:=fun f args e=>by subst e;cases hac
     cases hre:q.reads with
     |true =>
      rw[hre] at h1;simp only[cond_true,cond_false] at h1;obtain⟨v,σ1,s1,h2,q1,h3⟩:=sP h hs hnc h1;obtain⟨e',he',h4⟩:=lA h h3;have hs1:=EB hre h2;subst hs1;obtain⟨env2,e2,σ2,s2,k2,r2,l2,y2,x2⟩:=nQ hC he' hs hh (rds:=aCF C q lo hi e v::rds) (rs:=⟨lo,hi,q,env,v⟩::rs) ⟨aB6 h hre,hrd⟩ h4;exact⟨env2,e2,σ2,s2,k2,.dread hw hre h2 r2,l2,y2,x2⟩
     |false =>
      rw[hre] at h1;simp only[cond_false] at h1;obtain⟨v,σ1,s1,h2,q1,h3⟩:=sP h hs hnc h1;obtain⟨e',he',h4⟩:=lA h h3;have hs1:=E3 h2 hac hal;subst hs1;obtain⟨env2,e2,σ2,s2,k2,r2,l2,y2,x2⟩:=nQ hC he' hs hh hrd h4;exact⟨env2,e2,σ2,s2,k2,.dpure hw (by rw[hac,hal,hre];rfl) h2 r2,l2,y2,x2⟩
  ·obtain⟨e',he',h4⟩:=lA h h1;have e1:(cond q.allocs (Nat.add next 1) next)=if q.allocs then next+1 else next:=by cases q.allocs<;>rfl
   have hh':yF (if q.acts then hist++[σ] else hist) (cond q.acts (snoc s hss) hss):=by
    cases q.acts with
    |true=>exact hh.snoc hs
    |false=>exact hh
   rw[e1] at h4;obtain⟨env2,e2,σ2,s2,k2,r2,l2,y2,x2⟩:=nQ hC he' hs hh' hrd h4;exact⟨env2,e2,σ2,s2,k2,.doff hw r2,l2,y2,x2⟩
def GM(v:AV):Bool:=AV.rec (motive_1:=fun _=>Bool) (motive_2:=fun _=>PUnit) true (fun _ _=>false) (fun _=>false) (fun _=>false) (fun _ _ _ _ _=>false) false (fun _=>false) (fun _ _=>false) false (fun _ _ _ _ _=>false) (fun _ _ _ _=>false) (fun _ _ _ _=>false) (fun _=>false) false (fun _ _=>false) (fun _ _=>false) ⟨⟩ (fun _ _ _ _=>⟨⟩) v
def DB(e:Tre)(n:Nat):Env:=Nat.rec [] (fun t ih=>cond (GM (Tre.get e t)) ih ((t,Tre.get e t)::ih)) n
theorem C7(e:Tre)(t:Nat):∀ n,Env.get (DB e n) t=if t<n then Tre.get e t else .undef
 |0=>rfl
 |n+1=>by
  have ih:=C7 e t n;have e1:DB e (n+1)=cond (GM (Tre.get e n)) (DB e n) ((n,Tre.get e n)::DB e n):=rfl;rw[e1];cases hu:GM (Tre.get e n) with
  |true =>
   have hv:Tre.get e n = .undef:=by
    cases hg:Tre.get e n<;>first|rfl|(rw[hg] at hu;cases hu)
   simp only[cond_true,ih];by_cases h1:t<n
   ·rw[if_pos h1,if_pos (by omega)]
   ·rw[if_neg h1];by_cases h2:t=n
    ·subst h2;rw[if_pos (by omega),hv]
    ·rw[if_neg (by omega)]
  |false =>
   simp only[cond_false,Env.get,ih];by_cases h2:n=t
   ·subst h2;rw[if_pos rfl,if_pos (by omega)]
   ·rw[if_neg h2];by_cases h1:t<n
    ·rw[if_pos h1,if_pos (by omega)]
    ·rw[if_neg h1,if_neg (by omega)]
def O2(e:Tre):Env:=DB e 256
theorem vN(e:Tre):kH (O2 e) e:=fun t=>by
 unfold O2;rw[C7];split
 ·rfl
 ·rename_i h;unfold Tre.get;cases hb:Nat.ble t 255 with
  |true=>have:=Nat.le_of_ble_eq_true hb;omega
  |false=>rfl
def GO(env:Env):Bool:=List.rec true (fun p _ ih=>cond (Nat.ble p.1 255) ih false) env
def aDL(env:Env):Tre:=List.rec Tre.none (fun p _ ih=>Tre.put ih p.1 p.2) env
theorem B7:∀ {env:Env},GO env=true->kH env (aDL env)
 |[],_=>fun t=>(Tre.get_none t).symm
 |(k,v)::env,h=>by
  have h':cond (Nat.ble k 255) (GO env) false=true:=h;cases hk:Nat.ble k 255 with
  |false=>rw[hk] at h';cases h'
  |true=>rw[hk] at h';exact (B7 h').put k v hk
def nD(args:List AV):Nat->Tre:=List.rec (motive:=fun _=>Nat->Tre) (fun _=>Tre.none) (fun v _ ih k=>Tre.put (ih (Nat.add k 1)) k v) args
theorem sZ:∀ {args:List AV} {k:Nat},k+args.length<=256->kH (dW k args) (nD args k)
 |[],k,_=>fun t=>(Tre.get_none t).symm
 |v::args,k,h=>by
  have h1:k+1+args.length<=256:=by simp only[List.length_cons] at h;omega
  exact (sZ h1).put k v (Nat.ble_eq_true_of_le (by simp only[List.length_cons] at h;omega))
def S0(ps:List Nat):List AV->Tre->(Tre->RR)->RR:=List.rec (motive:=fun _=>List AV->Tre->(Tre->RR)->RR) (fun _ e K=>K e) (fun p _ ih args e K=>List.rec (K e) (fun v vs _=>wV (some p) v e fun e'=>ih vs e' K) args) ps
theorem KZ:∀ {ps:List Nat} {args:List AV} {env:Env} {e:Tre} {K:Tre->RR} {r:AV×SS},kH env e->S0 ps args e K=some r->∃ e',kH (j5 env ps args) e'/\K e'=some r
 |[],args,env,e,K,r,h,hr=>⟨e,h,hr⟩
 |p::ps,[],env,e,K,r,h,hr=>⟨e,h,hr⟩
 |p::ps,v::vs,env,e,K,r,h,hr=>by
  have hr':wV (some p) v e (fun e'=>S0 ps vs e' K)=some r:=hr;obtain⟨e',he',h1⟩:=lA h hr';simp only[j5];exact KZ he' h1
abbrev KJ2:=Option AJump->Tre->SS->RR
abbrev CF:=FuncId->List AV->SS->RR
abbrev vI:=CC->CF->Tre->SS->KJ2->RR
def aLH:vI:=fun _ _ e s K=>K none e s
def aNL(os:List AOper):vI:=fun C _ e s K=>aAB C os e s (K none)
def aMQ(ds:List ADOper):vI:=fun C _ e s K=>HS (dB ds) s fun s1=>IF C ds e s1 s.len [s1] [] (K none)
def XE(A B:KJ2):KJ2:=fun j e s=>Option.rec (A none e s) (fun j=>B (some j) e s) j
def aNR(iha ihb:vI):vI:=fun C F e s K=>iha C F e s (XE (fun _ e s=>ihb C F e s K) K)
def aK1(c:AOpd)(iha ihb:vI):vI:=fun C F e s K=>FE (odv c e) (fun t=>cond t (iha C F e s K) (ihb C F e s K)) none
def aMO(id:Nat)(K:KJ2):KJ2:=fun j e s=>Option.rec (K none e s) (fun q=>AJump.rec (K (some .ret) e s) (fun i=>cond (Nat.beq i id) (K none e s) (K (some (.exit i)) e s)) q) j
def aFQ(id:Nat)(ihb:vI):vI:=fun C F e s K=>ihb C F e s (aMO id K)
def O0(B:Tre->SS->KJ2->RR)(K:KJ2)(n:Nat):Tre->SS->RR:=Nat.rec (motive:=fun _=>Tre->SS->RR) (fun _ _=>none) (fun _ ih e s=>B e s (XE (fun _ e s=>ih e s) K)) n
def aKC(ihb:vI):vI:=fun C F e s K=>O0 (ihb C F) K 1000000 e s
def lsK(s:LS)(A:RR):RR:=LS.rec A none A s
def LM(f:AOpd)(ps:List Nat)(a b:ACode):vI:=fun _ F e s K =>
 PA (odv f e) (fun g first cap=>nE s.len fun n=>CN none s (.loop .ready none (O2 e) ps a b) fun s0=>bnd (F g (NJ (NJ first [.yield n]) cap) s0) fun _ s1 =>
  eT none (s1.get n) fun blk=>EE blk (fun st pend _ _ _ _=>lsK st (K pend e (s1.set n .dead))) none) none
def aJL(j:AJump):vI:=fun _ _ e s K=>K (some j) e s
def DO(c:ACode):vI:=ACode.rec (motive:=fun _=>vI) aLH aNL aMQ (fun _ _ iha ihb=>aNR iha ihb) (fun c _ _ iha ihb=>aK1 c iha ihb) (fun id _ ihb=>aFQ id ihb) (fun _ ihb=>aKC ihb) (fun f ps a b _ _=>LM f ps a b) aJL (fun _ ihb=>ihb) c
def FOk(T:FuncId->Option AFunc)(F:CF):Prop:=∀ f args σ s v s',dG σ s->F f args s=some (v,s')->∃ σ',dG σ' s'/\KeepS σ σ' 0/\Run T (.call f args σ) fun r=>r.v=v/\r.σ=σ'
def aHL(T:FuncId->Option AFunc)(c:ACode)(env:Env)(σ:St)(K:KJ2)(r:AV×SS):Prop :=
 ∃ j env' e' σ' s',KeepS σ σ' 0/\Run T (.code c env σ) (fun o=>o=⟨j,env',σ',.undef⟩)/\kH env' e'/\dG σ' s'/\K j e' s'=some r
theorem YN{C:CC}{F:CF}(hC:wW T C)(hF:FOk T F):∀ (c:ACode) {env:Env} {e:Tre} {σ:St} {s:SS} {K:KJ2} {r:AV×SS},kH env e->dG σ s->DO c C F e s K=some r->aHL T c env σ K r:=by
 intro c
 induction c with
 |skip=>intro env e σ s K r h hs hr;exact⟨none,env,e,σ,s,.refl _ _,.skip rfl,h,hs,hr⟩
 |reg os =>
  intro env e σ s K r h hs hr;obtain⟨env2,e2,σ2,s2,k2,r2,l2,y2,x2⟩:=A3 hC h hs hr;exact⟨none,env2,e2,σ2,s2,k2,.reg r2,l2,y2,x2⟩
 |dreg ds =>
  intro env e σ s K r h hs hr;have hr':HS (dB ds) s (fun s1=>IF C ds e s1 s.len [s1] [] (K none))=some r:=hr;obtain⟨s1,q1,q2⟩:=wH hs hr';rw[<-hs.1] at q2
  obtain⟨env2,e2,σ2,s2,k2,r2,l2,y2,x2⟩:=nQ hC h q1 (hist:=[σ++dB ds]) ⟨rfl,fun j τ hj=>by
   cases j with
   |zero=>simp only[List.getElem?_cons_zero,Option.some.injEq] at hj;subst hj;exact⟨s1,rfl,q1⟩
   |succ j=>simp at hj⟩ (rds:=[]) (rs:=[]) trivial q2
  exact⟨none,env2,e2,σ2,s2,oY (.app _ _ _) k2,.dreg r2,l2,y2,x2⟩
 |seq a b iha ihb =>
  intro env e σ s K r h hs hr;obtain⟨j,env1,e1,σ1,s1,k1,r1,l1,y1,x1⟩:=iha h hs hr;cases j with
  |none =>
   obtain⟨j,env2,e2,σ2,s2,k2,r2,l2,y2,x2⟩:=ihb l1 y1 x1;exact⟨j,env2,e2,σ2,s2,oY k1 k2,.seq r1 (fun o ho _=>by subst ho;exact r2) fun o ho hj=>by subst ho;exact absurd rfl hj,l2,y2,x2⟩
  |some j=>exact⟨some j,env1,e1,σ1,s1,k1,.seq r1 (fun o ho hj=>by subst ho;cases hj) fun o ho hj=>ho,l1,y1,x1⟩
 |cond x a b iha ihb =>
  intro env e σ s K r h hs hr;have hr':FE (odv x e) (fun t=>cond t (DO a C F e s K) (DO b C F e s K)) none=some r:=hr;rw[wF,gM h] at hr';split at hr'
  ·rename_i t hx;cases t with
   |true =>
    obtain⟨j,env2,e2,σ2,s2,k2,r2,l2,y2,x2⟩:=iha h hs hr';exact⟨j,env2,e2,σ2,s2,k2,.cond true hx r2,l2,y2,x2⟩
   |false =>
    obtain⟨j,env2,e2,σ2,s2,k2,r2,l2,y2,x2⟩:=ihb h hs hr';exact⟨j,env2,e2,σ2,s2,k2,.cond false hx r2,l2,y2,x2⟩
  ·cases hr'
 |block id b ihb =>
  intro env e σ s K r h hs hr;obtain⟨j,env',e',σ',s',k,r1,he',hs',h1⟩:=ihb h hs hr;cases j with
  |none=>exact⟨none,env',e',σ',s',k,.block r1 fun o ho=>by subst ho;simp,he',hs',h1⟩
  |some q =>
   cases q with
   |ret=>exact⟨some .ret,env',e',σ',s',k,.block r1 fun o ho=>by subst ho;simp,he',hs',h1⟩
   |exit i =>
    have h1':cond (Nat.beq i id) (K none e' s') (K (some (.exit i)) e' s')=some r:=h1;cases hi:Nat.beq i id with
    |true =>
     have:=Nat.eq_of_beq_eq_true hi;subst this;rw[hi] at h1';exact⟨none,env',e',σ',s',k,.block r1 fun o ho=>by subst ho;simp,he',hs',h1'⟩
    |false =>
     have:=Nat.ne_of_beq_eq_false hi;rw[hi] at h1';exact⟨some (.exit i),env',e',σ',s',k,.block r1 fun o ho=>by subst ho;simp[this],he',hs',h1'⟩
 |loop b ihb =>
  intro env e σ s K r h hs hr;have key:∀ n {env:Env} {e:Tre} {σ:St} {s:SS},kH env e->dG σ s->O0 (DO b C F) K n e s=some r->aHL T (.loop b) env σ K r:=by
   intro n
   induction n with
   |zero=>intro env e σ s h hs hr;cases hr
   |succ n ih =>
    intro env e σ s h hs hr;obtain⟨j,env1,e1,σ1,s1,k1,r1,l1,y1,x1⟩:=ihb (K:=XE (fun _ e s=>O0 (DO b C F) K n e s) K) h hs hr;cases j with
    |none =>
     obtain⟨j,env2,e2,σ2,s2,k2,r2,l2,y2,x2⟩:=ih l1 y1 x1;exact⟨j,env2,e2,σ2,s2,oY k1 k2,.loop r1 (fun o ho _=>by subst ho;exact r2) fun o ho hj=>by subst ho;exact absurd rfl hj,l2,y2,x2⟩
    |some j=>exact⟨some j,env1,e1,σ1,s1,k1,.loop r1 (fun o ho hj=>by subst ho;cases hj) fun o ho hj=>ho,l1,y1,x1⟩
  exact key 1000000 h hs (show O0 (DO b C F) K 1000000 e s=some r from hr)
 |rangeFunc f ps a b _ _ =>
  intro env e σ s K r h hs hr;have hr':LM f ps a b C F e s K=some r:=hr;unfold LM at hr';rw[CJ,gM (vN e)] at hr';split at hr'
  ·rename_i g first cap hf
   rw[jQ] at hr';obtain⟨s0,q0,hr'⟩:=sL hs hr';obtain⟨v,s1,h1,h2⟩:=NE hr';rw[qJ,qJ,<-hs.1] at h1;obtain⟨σ1,q1,k1,r1⟩:=hF _ _ _ _ _ _ q0 h1;simp only[<-hs.1,cV,H5,<-q1.2] at h2;split at h2
   ·rename_i blk hb;split at h2
    ·rename_i st pend env' ps' a' b';have hst:st≠.busy:=fun hst=>by subst hst;cases h2
     have h3:K pend e (s1.set σ.length .dead)=some r:=by cases st<;>first|exact h2|exact absurd rfl hst
     refine⟨pend,O2 e,e,σ1.set σ.length .dead,s1.set σ.length .dead,⟨?_,fun i hi=>absurd hi (Nat.not_lt_zero _),fun i st2 pe2 env2 ps2 x y hlt q=>?_⟩,.reenv (fun t=>by rw[h t,vN e t]) (.rangeFunc hf r1 fun o ho=>?_),vN e,q1.set hb _,h3⟩
     ·have:=k1.len;simp at this ⊢;omega
     ·rw[List.getElem?_set_ne (by omega)] at q;obtain⟨st',pe',q'⟩:=k1.loops i st2 pe2 env2 ps2 x y (by simp;omega) q;rw[List.getElem?_append_left hlt] at q';exact⟨st',pe',q'⟩
     ·obtain⟨rfl,hσ⟩:=ho;subst hσ;exact⟨st,pend,env',ps',a',b',hb,hst,rfl⟩
    ·cases h2
   ·cases h2
  ·cases hr'
 |jump j=>intro env e σ s K r h hs hr;exact⟨some j,env,e,σ,s,.refl _ _,.jump rfl,h,hs,hr⟩
 |scope b ihb =>
  intro env e σ s K r h hs hr;obtain⟨j,env2,e2,σ2,s2,k2,r2,l2,y2,x2⟩:=ihb h hs hr;exact⟨j,env2,e2,σ2,s2,k2,.scope r2,l2,y2,x2⟩
def aIR:AV->Bool:=AV.rec (motive_1:=fun _=>Bool) (motive_2:=fun _=>Bool) true (fun _ _=>true) (fun _=>true) (fun _=>true) (fun _ _ _ x y=>cond x y false) true (fun _=>false) (fun _ _=>false) true (fun _ _ _ tk x=>Option.rec x (fun _=>false) tk) (fun _ _ tk x=>Option.rec x (fun _=>false) tk) (fun _ _ _ _=>false) (fun _=>false) true (fun _ x=>x) (fun _ x=>x) true (fun _ _ x y=>cond x y false)
def uL:List AV->Bool:=AV.rec_1 (motive_1:=fun _=>Bool) (motive_2:=fun _=>Bool) true (fun _ _=>true) (fun _=>true) (fun _=>true) (fun _ _ _ x y=>cond x y false) true (fun _=>false) (fun _ _=>false) true (fun _ _ _ tk x=>Option.rec x (fun _=>false) tk) (fun _ _ tk x=>Option.rec x (fun _=>false) tk) (fun _ _ _ _=>false) (fun _=>false) true (fun _ x=>x) (fun _ x=>x) true (fun _ _ x y=>cond x y false)
mutual
theorem datA_ok:∀ v:AV,aIR v=true->okV 0 v
 |.undef,_|.int _ _,_|.bool _,_|.str _,_|.nilFunc,_|.nilPtr,_|.nilMap,_=>trivial
 |.func f a b,h=>by
  have h':cond (uL a) (uL b) false=true:=h;cases ha:uL a with
  |false=>rw[ha] at h';cases h'
  |true=>rw[ha] at h';exact⟨datAs_ok a ha,datAs_ok b h'⟩
 |.yield i,h|.ptr i _,h|.ref i _ _ _,h|.map i,h=>by cases h
 |.lptr xs i o tk,h=>by
  cases tk with
  |none=>exact⟨fun t e=>(by cases e),datAs_ok xs h⟩
  |some t=>cases h
 |.lit xs fl tk,h=>by
  cases tk with
  |none=>exact⟨fun t e=>(by cases e),datAs_ok xs h⟩
  |some t=>cases h
 |.agg cs,h=>datAs_ok cs h
 |.tuple cs,h=>datAs_ok cs h
theorem datAs_ok:∀ vs:List AV,uL vs=true->okVs 0 vs
 |[],_=>trivial
 |v::vs,h=>by
  have h':cond (aIR v) (uL vs) false=true:=h;cases ha:aIR v with
  |false=>rw[ha] at h';cases h'
  |true=>rw[ha] at h';exact⟨datA_ok v ha,datAs_ok vs h'⟩
end
def aBA(σ:St)(rf:List AV->Option (List AV))(id off len sz:Nat):Option AV :=
 eT none (jJ σ (.ref id off len sz)) fun xs=>cond (decide (0<sz)&&aI sz xs) (eT none (rf xs) fun ys=>some (.lit ys false none)) none
def aGS(σ:St)(rf:List AV->Option (List AV)):AV->Option AV:=AV.rec (motive_1:=fun _=>Option AV) (motive_2:=fun _=>Option (List AV))
 (some .undef) (fun k n=>some (.int k n)) (fun b=>some (.bool b)) (fun s=>some (.str s)) (fun f _ _ x y=>eT none x fun x=>eT none y fun y=>some (.func f x y)) (some .nilFunc) (fun _=>none) (fun _ _=>none) (some .nilPtr)
 (fun _ i o _ x=>eT none x fun x=>some (.lptr x i o none)) (fun _ fl _ x=>eT none x fun x=>some (.lit x fl none)) (fun id off len sz=>aBA σ rf id off len sz) (fun _=>none) (some .nilMap) (fun _ x=>eT none x fun x=>some (.agg x)) (fun _ x=>eT none x fun x=>some (.tuple x)) (some []) (fun _ _ x y=>eT none x fun x=>eT none y fun y=>some (x::y))
def xK(σ:St)(rf:List AV->Option (List AV)):List AV->Option (List AV):=AV.rec_1 (motive_1:=fun _=>Option AV) (motive_2:=fun _=>Option (List AV))
 (some .undef) (fun k n=>some (.int k n)) (fun b=>some (.bool b)) (fun s=>some (.str s)) (fun f _ _ x y=>eT none x fun x=>eT none y fun y=>some (.func f x y)) (some .nilFunc) (fun _=>none) (fun _ _=>none) (some .nilPtr)
 (fun _ i o _ x=>eT none x fun x=>some (.lptr x i o none)) (fun _ fl _ x=>eT none x fun x=>some (.lit x fl none)) (fun id off len sz=>aBA σ rf id off len sz) (fun _=>none) (some .nilMap) (fun _ x=>eT none x fun x=>some (.agg x)) (fun _ x=>eT none x fun x=>some (.tuple x)) (some []) (fun _ _ x y=>eT none x fun x=>eT none y fun y=>some (x::y))
def Z3(σ:St)(d:Nat):List AV->Option (List AV):=Nat.rec (fun _=>none) (fun _ ih=>xK σ ih) d
def snp(σ:St)(d:Nat):AV->Option AV:=aGS σ (Z3 σ d)
mutual
theorem snpV_ok (σ:St) (d:Nat) (rf:List AV->Option (List AV)) (hrf:∀ xs ys,rf xs=some ys->∃ d',d=d'+1/\snaps σ 0 d' xs=some ys):∀ v v':AV,aGS σ rf v=some v'->snap σ 0 d v=some v'
 |.undef,v',h=>by simp only[snap];exact h
 |.int _ _,v',h=>by simp only[snap];exact h
 |.bool _,v',h=>by simp only[snap];exact h
 |.str _,v',h=>by simp only[snap];exact h
 |.nilFunc,v',h=>by simp only[snap];exact h
 |.nilPtr,v',h=>by simp only[snap];exact h
 |.nilMap,v',h=>by simp only[snap];exact h
 |.func f a b,v',h=>by
  have h':(eT none (xK σ rf a) fun x=>eT none (xK σ rf b) fun y=>some (AV.func f x y))=some v':=h;rw[cV] at h';split at h'
  ·rename_i x hx;rw[cV] at h';split at h'
   ·rename_i y hy;simp only[snap,snpVs_ok σ d rf hrf a _ hx,snpVs_ok σ d rf hrf b _ hy];exact h'
   ·cases h'
  ·cases h'
 |.yield _,v',h=>by cases h
 |.ptr _ _,v',h=>by cases h
 |.map _,v',h=>by cases h
 |.lptr xs i o tk,v',h=>by
  have h':(eT none (xK σ rf xs) fun x=>some (AV.lptr x i o none))=some v':=h;rw[cV] at h';split at h'
  ·rename_i x hx;simp only[snap,snpVs_ok σ d rf hrf xs _ hx];cases tk<;>exact h'
  ·cases h'
 |.lit xs fl tk,v',h=>by
  have h':(eT none (xK σ rf xs) fun x=>some (AV.lit x fl none))=some v':=h;rw[cV] at h';split at h'
  ·rename_i x hx;simp only[snap,snpVs_ok σ d rf hrf xs _ hx];cases tk<;>exact h'
  ·cases h'
 |.ref id off len sz,v',h=>by
  have h':aBA σ rf id off len sz=some v':=h;unfold aBA at h';rw[cV] at h';split at h'
  ·rename_i xs hv;cases hc:decide (0<sz)&&aI sz xs with
   |false=>rw[hc] at h';cases h'
   |true =>
    rw[hc,cond_true,cV] at h';split at h'
    ·rename_i ys hy;obtain⟨d',rfl,hs⟩:=hrf _ _ hy;simp only[snap];rw[if_neg (Nat.not_lt_zero _)];simp only[hv,hc,if_true,hs];exact h'
    ·cases h'
  ·cases h'
 |.agg cs,v',h=>by
  have h':(eT none (xK σ rf cs) fun x=>some (AV.agg x))=some v':=h;rw[cV] at h';split at h'
  ·rename_i x hx;simp only[snap,snpVs_ok σ d rf hrf cs _ hx];exact h'
  ·cases h'
 |.tuple cs,v',h=>by
  have h':(eT none (xK σ rf cs) fun x=>some (AV.tuple x))=some v':=h;rw[cV] at h';split at h'
  ·rename_i x hx;simp only[snap,snpVs_ok σ d rf hrf cs _ hx];exact h'
  ·cases h'
theorem snpVs_ok (σ:St) (d:Nat) (rf:List AV->Option (List AV)) (hrf:∀ xs ys,rf xs=some ys->∃ d',d=d'+1/\snaps σ 0 d' xs=some ys):∀ vs vs':List AV,xK σ rf vs=some vs'->snaps σ 0 d vs=some vs'
 |[],vs',h=>by simp only[snaps];exact h
 |v::vs,vs',h=>by
  have h':(eT none (aGS σ rf v) fun x=>eT none (xK σ rf vs) fun y=>some (x::y))=some vs':=h;rw[cV] at h';split at h'
  ·rename_i x hx;rw[cV] at h';split at h'
   ·rename_i y hy;simp only[snaps,snpV_ok σ d rf hrf v _ hx,snpVs_ok σ d rf hrf vs _ hy];exact h'
   ·cases h'
  ·cases h'
end
theorem N5(σ:St):∀ (d:Nat) (xs ys:List AV),Z3 σ d xs=some ys->∃ d',d=d'+1/\snaps σ 0 d' xs=some ys
 |0,xs,ys,h=>by cases h
 |d+1,xs,ys,h=>⟨d,rfl,snpVs_ok σ d (Z3 σ d) (N5 σ d) xs ys h⟩
theorem VY{σ:St}{d:Nat}{v v':AV}(h:snp σ d v=some v'):snap σ 0 d v=some v':=snpV_ok σ d (Z3 σ d) (N5 σ d) v v' h
def OF(r:ARes):Nat:=ARes.rec (fun t=>t) (fun t _=>t) r
theorem rX{env env':Env}{σ:St}:∀ {rs:List ARes},(∀ t∈rs.map OF,Env.get env t=Env.get env' t)->kJ env σ rs=kJ env' σ rs
 |[],_=>rfl
 |.tmp t::rs,h=>by
  simp only[kJ];rw[rX (rs:=rs) fun t ht=>h t (List.mem_cons_of_mem _ ht),h t (by simp[OF])]
 |.cell t sh::rs,h=>by
  simp only[kJ];rw[rX (rs:=rs) fun t ht=>h t (List.mem_cons_of_mem _ ht),h t (by simp[OF])]
def aBL(rs:List ARes)(e:Tre)(σ:St):Option AV:=gD rs (IC e (aJX OF rs)) σ
theorem GZ{env:Env}{e:Tre}(h:kH env e)(rs:List ARes)(σ:St):aBL rs e σ=gD rs env σ:=by
 unfold aBL gD;rw[OJ,rX fun t ht=>yA h _ t ht]
def aEV(j:Option AJump)(A:RR):RR:=Option.rec A (fun q=>AJump.rec A (fun _=>none) q) j
theorem G6{j:Option AJump}{A:RR}{r:AV×SS}(h:aEV j A=some r):(j=none\/j=some .ret)/\A=some r:=by
 cases j with
 |none=>exact⟨.inl rfl,h⟩
 |some q =>
  cases q with
  |ret=>exact⟨.inr rfl,h⟩
  |exit i=>cases h
def aAX(rs:List ARes):KJ2:=fun j e s=>aEV j (eT none (aBL rs e (Q3 s)) fun v=>eT (some (.undef,.mk 1 (.all (.all (.all none))))) (snp (Q3 s) 20 v) fun w=>some (w,SS.new))
def aCA(rs:List ARes):KJ2:=fun j e s=>aEV j (eT none (aBL rs e (Q3 s)) fun v=>some (v,s))
def aLD(r:RR)(s:SS)(alt:Unit->RR):RR:=Option.rec none (fun p=>Prod.rec (fun v s1=>SS.rec (fun n _=>cond (Nat.beq n 0) (some (v,s)) (alt ())) s1) p) r
abbrev Bdy:=ACode->Tre->SS->KJ2->RR
def goF(q:Bool)(B:Bdy)(args:List AV)(s:SS)(n:Nat)(rs:List ARes)(b:ACode):RR :=
 cond (cond (Nat.ble (nS args) 255) (Nat.ble (nS args) n) false)
  (cond (cond q false (uL args)) (aLD (B b (nD args 0) SS.new (aAX rs)) s fun _=>B b (nD args 0) s (aCA rs)) (B b (nD args 0) s (aCA rs))) none
def OS(T:FuncId->Option AFunc)(N:FuncId->Bool)(B:Bdy):CF:=fun f args s=>eT none (T f) fun af=>AFunc.rec (fun n rs b=>goF (N f) B args s n rs b) af
def FT(s:LS)(p:Option AJump)(A:RR):RR:=LS.rec (Option.rec A (fun _=>none) p) none none s
def XS(s:LS)(p:Option AJump)(A:RR):RR:=LS.rec none (Option.rec A (fun _=>none) p) none s
def LQ(B:Bdy)(id:Nat)(args:List AV)(s:SS):RR :=
 eT none (s.get id) fun blk=>EE blk (fun st pe env ps a b=>FT st pe (cond (Nat.beq (nS ps) (nS args)) (cond (GO env) (S0 ps args (aDL env) fun e1 =>
  B a e1 s fun j e2 s1=>Option.rec (eT none (s1.get id) fun blk1=>EE blk1 (fun st1 pe1 _ _ _ _=>FT st1 pe1 (B b e2 (s1.set id (.loop .busy none env ps a b)) fun j2 _ s2 =>
   eT none (s2.get id) fun blk2=>EE blk2 (fun st2 pe2 _ _ _ _=>XS st2 pe2 (Option.rec (some (.bool true,s2.set id (.loop .ready none env ps a b))) (fun q=>some (.bool false,s2.set id (.loop .done (some q) env ps a b))) j2)) none)) none) (fun _=>none) j) none) none)) none
def NG(T:FuncId->Option AFunc)(N:FuncId->Bool)(B:Bdy):CC:=fun f args s=>PA f (fun g first cap=>OS T N B g (NJ (NJ first args) cap) s) (NN f (fun id=>LQ B id args s) none)
def VS(T:FuncId->Option AFunc)(N:FuncId->Bool)(k:Nat):Bdy:=Nat.rec (fun _ _ _ _=>none) (fun _ ih c=>DO c (NG T N ih) (OS T N ih)) k
def BOk(T:FuncId->Option AFunc)(B:Bdy):Prop:=∀ c {env:Env} {e:Tre} {σ:St} {s:SS} {K:KJ2} {r:AV×SS},kH env e->dG σ s->B c e s K=some r->aHL T c env σ K r
theorem JH{N:FuncId->Bool}{B:Bdy}(hB:BOk T B):FOk T (OS T N B):=by
 intro f args σ s v s' hs h;unfold OS at h;rw[cV] at h;split at h
 ·rename_i af haf;obtain⟨n,rs,b⟩:=af;have h':goF (N f) B args s n rs b=some (v,s'):=h;unfold goF at h';rw[iH] at h';cases h1:Nat.ble args.length 255 with
  |false=>rw[h1] at h';cases h'
  |true =>
   rw[h1] at h';cases h2:Nat.ble args.length n with
   |false=>rw[h2] at h';cases h'
   |true =>
    rw[h2] at h';simp only[cond_true] at h';have hl:args.length<=n:=Nat.le_of_ble_eq_true h2;have hL:kH (dW 0 args) (nD args 0):=sZ (by have:=Nat.le_of_ble_eq_true h1;omega);have opn:B b (nD args 0) s (aCA rs)=some (v,s')->∃ σ',dG σ' s'/\KeepS σ σ' 0/\Run T (.call f args σ) fun r=>r.v=v/\r.σ=σ':=by
     intro hb;obtain⟨j,env2,e2,σ2,s2,k2,r2,l2,y2,x2⟩:=hB b hL hs hb;obtain⟨hj,h4⟩:=G6 x2;rw[cV,GZ l2,A2 y2] at h4;split at h4
     ·rename_i w hw;cases h4;exact⟨σ2,y2,k2,.call haf hl r2 fun o ho=>by subst ho;exact⟨hj,v,hw,.inl ⟨rfl,rfl⟩⟩⟩
     ·cases h4
    cases hq:cond (N f) false (uL args) with
    |false=>rw[hq] at h';exact opn h'
    |true =>
     rw[hq] at h';have hd:uL args=true:=by
      cases hn:N f with
      |true=>rw[hn] at hq;cases hq
      |false=>rw[hn] at hq;exact hq
     simp only[cond_true] at h';cases hp:B b (nD args 0) SS.new (aAX rs) with
     |none=>rw[hp] at h';cases h'
     |some p =>
      obtain⟨w,s1⟩:=p;obtain⟨n1,t1⟩:=s1;rw[hp] at h';have h3:cond (Nat.beq n1 0) (some (w,s)) (B b (nD args 0) s (aCA rs))=some (v,s'):=h';cases hn:Nat.beq n1 0 with
      |false=>rw[hn] at h3;exact opn h3
      |true =>
       rw[hn] at h3;simp only[cond_true,Option.some.injEq,Prod.mk.injEq] at h3;obtain⟨rfl,rfl⟩:=h3;have hn0:n1=0:=Nat.eq_of_beq_eq_true hn;obtain⟨j,env2,e2,σ2,s2,k2,r2,l2,y2,x2⟩:=hB b hL dG.new hp;obtain⟨hj,h4⟩:=G6 x2;rw[cV,GZ l2,A2 y2] at h4;split at h4
       ·rename_i u hu;rw[cV] at h4;split at h4
        ·rename_i u' hu';simp only[Option.some.injEq,Prod.mk.injEq] at h4;obtain⟨rfl,_⟩:=h4;refine⟨σ,hs,.refl _ _,.frame (datAs_ok _ hd) (.inl rfl) (R:=fun o=>o.v=u'/\o.σ=[]) (.call haf hl r2 fun o ho=>?_) fun o ho=>⟨ho.2,ho.1,rfl⟩⟩;subst ho;exact⟨hj,u,hu,.inr ⟨20,u',u',VY hu',.inl rfl,fun i hi=>absurd hi (Nat.not_lt_zero _),Nat.zero_le _,rfl,rfl⟩⟩
        ·simp only[Option.some.injEq,Prod.mk.injEq,SS.mk.injEq] at h4;omega
       ·cases h4
 ·cases h
theorem BH{s:LS}{p:Option AJump}{A:RR}{r:AV×SS}(h:FT s p A=some r):s = .ready/\p=none/\A=some r:=by
 cases s<;>cases p<;>first|exact⟨rfl,rfl,h⟩|(cases h;done)
theorem Q6{s:LS}{p:Option AJump}{A:RR}{r:AV×SS}(h:XS s p A=some r):s = .busy/\p=none/\A=some r:=by
 cases s<;>cases p<;>first|exact⟨rfl,rfl,h⟩|(cases h;done)
theorem LR{σ:St}{s:SS}(hs:dG σ s){id:Nat}{r:AV×SS}{K:LS->Option AJump->Env->List Nat->ACode->ACode->RR}(h:(eT none (s.get id) fun blk=>EE blk K none)=some r):
  ∃ st pe env ps a b,σ[id]? = some (.loop st pe env ps a b)/\K st pe env ps a b=some r:=by
 rw[cV,<-hs.2] at h;split at h
 ·rename_i blk hb;rw[H5] at h;split at h
  ·rename_i st pe env ps a b;exact⟨st,pe,env,ps,a,b,hb,h⟩
  ·cases h
 ·cases h
theorem P9{B:Bdy}(hB:BOk T B){id:Nat}{args:List AV}{σ:St}{s:SS}{v:AV}{s':SS}(hs:dG σ s)(h:LQ B id args s=some (v,s')):∃ σ',dG σ' s'/\KeepS σ σ' 0/\Run T (.callv (.yield id) args σ) fun r=>r.v=v/\r.σ=σ':=by
 unfold LQ at h;obtain⟨st,pe,env,ps,a,b,hl,h⟩:=LR hs h;obtain⟨rfl,rfl,h⟩:=BH h;rw[iH,iH] at h;cases hn:Nat.beq ps.length args.length with
 |false=>rw[hn] at h;cases h
 |true =>
  rw[hn,cond_true] at h;have hn':ps.length=args.length:=Nat.eq_of_beq_eq_true hn;cases hk:GO env with
  |false=>rw[hk] at h;cases h
  |true =>
   rw[hk,cond_true] at h;obtain⟨e1,he1,h⟩:=KZ (B7 hk) h;obtain⟨j1,env1,e1',σ1,s1,k1,r1,l1,y1,x1⟩:=hB a he1 hs h;cases j1 with
   |some q=>cases x1
   |none =>
    obtain⟨st1,pe1,env1',ps1,a1,b1,hl1,x1⟩:=LR y1 x1;obtain⟨rfl,rfl,x1⟩:=BH x1;have hid:id<σ.length:=(List.getElem?_eq_some_iff.1 hl).1;obtain⟨st0,pe0,q0⟩:=k1.loops id _ _ _ _ _ _ hid hl1;rw[hl] at q0;cases q0;obtain⟨j2,env2,e2,σ2,s2,k2,r2,l2,y2,x2⟩:=hB b l1 (y1.set hl1 _) x1;obtain⟨st2,pe2,env2',ps2,a2,b2,hl2,x2⟩:=LR y2 x2;obtain⟨rfl,rfl,x2⟩:=Q6 x2;have kb:KeepS σ1 (σ1.set id (.loop .busy none env ps a b)) id:=.setLoop hl1;have hid1:id<σ1.length:=(List.getElem?_eq_some_iff.1 hl1).1;obtain⟨st1,pe1,q1⟩:=k2.loops id _ _ _ _ _ _ (by simpa using hid1) hl2;rw[List.getElem?_set_self hid1] at q1;cases q1;have kk:∀ st pe,KeepS σ (σ2.set id (.loop st pe env ps a b)) 0:=fun st pe=>oY (oY (oY k1 (HW kb)) k2) (HW (KeepS.setLoop (st:=st) (pe:=pe) hl2))
    have fin:∀ Q:Out->Prop,Q ⟨none,[],σ2.set id (.loop (if j2=none then .ready else .done) j2 env ps a b),.bool (decide (j2=none))⟩->Run T (.callv (.yield id) args σ) Q:=fun Q hq =>
     .round hl hn' r1 (fun o ho=>by subst ho;exact⟨rfl,hl1⟩) (fun o ho=>by subst ho;exact r2) fun o ho=>by subst ho;exact⟨hl2,hq⟩
    cases j2 with
    |none =>
     have x3:some (AV.bool true,s2.set id (.loop .ready none env ps a b))=some (v,s'):=x2;cases x3;exact⟨_,y2.set hl2 _,kk _ _,fin _ ⟨rfl,rfl⟩⟩
    |some q =>
     have x3:some (AV.bool false,s2.set id (.loop .done (some q) env ps a b))=some (v,s'):=x2;cases x3;exact⟨_,y2.set hl2 _,kk _ _,fin _ ⟨rfl,rfl⟩⟩
theorem R6{N:FuncId->Bool}{B:Bdy}(hB:BOk T B):wW T (NG T N B):=by
 intro f args σ s v s' hs h;unfold NG at h;rw[CJ] at h;split at h
 ·rename_i g first cap
  rw[qJ,qJ] at h;obtain⟨σ',q,k,r⟩:=JH hB _ _ _ _ _ _ hs h;exact⟨σ',q,k,.callf r⟩
 ·rw[ET] at h;split at h
  ·exact P9 hB hs h
  ·cases h
theorem A8{N:FuncId->Bool}:∀ k,BOk T (VS T N k)
 |0=>fun c env e σ s K r h hs hr=>by cases hr
 |k+1=>fun c env e σ s K r h hs hr=>YN (R6 (A8 k)) (JH (A8 k)) c h hs hr
end Go.Am.Ex
noncomputable section
namespace Go.Am
end Go.Am
namespace Go.Am.Ex
variable {T:FuncId->Option AFunc} {N:FuncId->Bool}
def WL(r:RR):Option AV:=Option.rec none (fun p=>Prod.rec (fun v s=>SS.rec (fun n _=>cond (Nat.beq n 0) (some v) none) s) p) r
theorem X2{r:RR}{v:AV}(h:WL r=some v):∃ t,r=some (v,.mk 0 t):=by
 cases r with
 |none=>cases h
 |some p =>
  obtain⟨w,n,t⟩:=p;have h':cond (Nat.beq n 0) (some w) none=some v:=h;cases hn:Nat.beq n 0 with
  |false=>rw[hn] at h';cases h'
  |true =>
   rw[hn] at h';cases h';have:=Nat.eq_of_beq_eq_true hn;subst this;exact⟨t,rfl⟩
def WC(T:FuncId->Option AFunc)(N:FuncId->Bool)(k:Nat)(f:FuncId)(args:List AV):Option AV :=
 cond (uL args) (eT none (T f) fun af=>AFunc.rec (fun n rs b=>cond (cond (Nat.ble (nS args) 255) (Nat.ble (nS args) n) false) (WL (VS T N k b (nD args 0) SS.new (aAX rs))) none) af) none
theorem ZU{k:Nat}{f:FuncId}{args:List AV}{v w:AV}(h:WC T N k f args=some v)(hw:w=v\/w=clr v)(σ:St):Run T (.call f args σ) fun o=>o.v=w/\o.σ=σ:=by
 unfold WC at h;cases hd:uL args with
 |false=>rw[hd] at h;cases h
 |true =>
  rw[hd,cond_true,cV] at h;split at h
  ·rename_i af haf;obtain⟨n,rs,b⟩:=af;have h:cond (cond (Nat.ble (nS args) 255) (Nat.ble (nS args) n) false) (WL (VS T N k b (nD args 0) SS.new (aAX rs))) none=some v:=h;rw[iH] at h;cases h1:Nat.ble args.length 255 with
   |false=>rw[h1] at h;cases h
   |true =>
    cases h2:Nat.ble args.length n with
    |false=>rw[h1,h2] at h;cases h
    |true =>
     rw[h1,h2] at h;simp only[cond_true] at h;have hl:args.length<=n:=Nat.le_of_ble_eq_true h2;have hL:kH (dW 0 args) (nD args 0):=sZ (by have:=Nat.le_of_ble_eq_true h1;omega);obtain⟨t,hr⟩:=X2 h;obtain⟨j,env2,e2,σ2,s2,k2,r2,l2,y2,x2⟩:=A8 k b hL dG.new hr;obtain⟨hj,h4⟩:=G6 x2;rw[cV,GZ l2,A2 y2] at h4;split at h4
     ·rename_i u hu;rw[cV] at h4;split at h4
      ·rename_i u' hu';simp only[Option.some.injEq,Prod.mk.injEq] at h4;obtain⟨rfl,_⟩:=h4;refine .frame (datAs_ok _ hd) (.inl rfl) (R:=fun o=>o.v=w/\o.σ=[]) (.call haf hl r2 fun o ho=>?_) fun o ho=>⟨ho.2,ho.1,rfl⟩
       subst ho;exact⟨hj,u,hu,.inr ⟨20,u',w,VY hu',hw,fun i hi=>absurd hi (Nat.not_lt_zero _),Nat.zero_le _,rfl,rfl⟩⟩
      ·simp only[Option.some.injEq,Prod.mk.injEq,SS.mk.injEq] at h4;omega
     ·cases h4
  ·cases h
theorem P3{k:Nat}{f:FuncId}{args:List AV}{v:AV}(h:WC T N k f args=some v):cE T f args (clr v):=fun σ=>ZU h (.inr rfl) σ
end Go.Am.Ex
set_option maxRecDepth 100000
namespace Go.Am.Room.Ha
open Ex
def np(f:FuncId):Bool:=cond (Nat.beq f 114) true (cond (Nat.beq f 240) true (cond (Nat.beq f 250) true (Nat.beq f 115)))
theorem AH{k:Nat}{f:FuncId}{args:List AV}{w:AV}(h:(WC T np k f args).map clr=some w):cE T f args w:=by
 cases hr:WC T np k f args with
 |none=>rw[hr] at h;cases h
 |some v =>
  rw[hr] at h;injection h with h
  subst h;exact P3 hr
def exL(c:List Ct):HLot:=⟨[⟨⟨#[110,105,110,101]⟩,9,1⟩,⟨⟨#[101,105,103,104,116]⟩,8,3⟩,⟨⟨#[115,101,118,101,110]⟩,7,3⟩],[⟨⟨9,10⟩,⟨0,0⟩⟩,⟨⟨8,9⟩,⟨1,2⟩⟩,⟨⟨7,8⟩,⟨0,4⟩⟩,⟨⟨6,7⟩,⟨2,2⟩⟩],⟨3,18⟩::c⟩
theorem aPJ:cE T 103 [.lit [] false none] (encHLot (exL [])):=AH (k:=60) (by kernel_rfl)
theorem aNH:cE T 103 [.lit [encCt ⟨12,13⟩] false none] (encHLot (exL [⟨12,13⟩])):=AH (k:=60) (by kernel_rfl)
theorem aPW:cE T 103 [.lit [encCt ⟨1,8⟩] false none] (encHLot (exL [⟨1,8⟩])):=AH (k:=60) (by kernel_rfl)
theorem aAG:cE T 25 [encHLot (exL []),.int .i64 0] (.tuple [cT ⟨9,10⟩,.int .i64 0]):=AH (k:=60) (by kernel_rfl)
theorem aBW:cE T 25 [encHLot (exL [⟨1,8⟩]),.int .i64 0] (.tuple [cT ⟨0,0⟩,.int .i64 8]):=AH (k:=60) (by kernel_rfl)
theorem aIB:cE T 104 [encHLot (exL []),.int .i64 2] (.tuple [aG [-1,1,2],.int .i64 0]):=AH (k:=60) (by kernel_rfl)
end Go.Am.Room.Ha
namespace Go.Am.Room.Ha
open Ex
theorem aF0:cE T 105 [encHLot (exL []),.int .i64 0] (.tuple [cT ⟨9,18⟩,.int .i64 0]):=AH (k:=60) (by kernel_rfl)
theorem WM:cE T 106 [encHLot (exL [⟨12,13⟩])] (.tuple [aG [3],aG [2,3],.int .i64 0]):=AH (k:=60) (by kernel_rfl)
theorem aKM:cE T 108 [encHLot (exL [])] (.tuple [.int .i64 0,.int .i64 4,.int .i64 0]):=AH (k:=60) (by kernel_rfl)
theorem aIN:cE T 109 [encHLot (exL [⟨1,8⟩])] (.tuple [aG [1],.int .i64 0]):=AH (k:=60) (by kernel_rfl)
end Go.Am.Room.Ha
namespace Go.Am.Room.Ha
open Ex
theorem aFR:cE T 107 [encHLot (exL []),.int .i64 1,.int .i64 18] (.tuple [aG [0,1],.int .i64 0]):=AH (k:=60) (by kernel_rfl)
theorem aE6:cE T 107 [encHLot (exL []),.int .i64 1,.int .i64 19] (.tuple [aG [],.int .i64 9]):=AH (k:=60) (by kernel_rfl)
end Go.Am.Room.Ha
set_option maxRecDepth 8000
namespace Go.Am.Room.Ha
def dZ:=zz @encHLot_eq (zz @aR (zz @eJ (@List.length_append.{0})))
theorem E8(l:HLot):lM (lotCells l):=aV (dV v6 _) (aV (dV v7 _) (aV (dV wN _) bA))
instance (l:HLot):Dats (lotCells l):=⟨E8 l⟩
theorem fQ(l:HLot)(σ:St)(m d:Nat):bZ σ m d (lotCells l)=some (lotCells l):=i8 (E8 l) σ m d
theorem dH(l:HLot):(lotCells l).length=3:=rfl
theorem cR(l:HLot):(lotCells l).take 3=lotCells l:=rfl
theorem cQ(l:HLot):(lotCells l).drop 3=[]:=rfl
theorem cO(l:HLot):bI (lotCells l)=true:=by simp[bI,lotCells,AV.cell]
theorem JE(a b:Int):cE T 110 [.int .i64 a,.int .i64 b] (cT ⟨a,b⟩):=by
 refine aZ (af:=a110) rfl (by simp[a110]) dd ?_;try simp only[↓QA,QB,seval,dZ,dH,cR,cQ,cO,fQ,a110]
set_option maxHeartbeats 4000000 in
theorem awake_ok:cE T 23 [] (.bool true):=by
 refine aZ (af:=a23) rfl (by simp[a23]) bA ?_;have l0:=aPJ;have l1:=aNH;have l2:=aPW;have h0:=aAG;have h2:=aBW;have h3:=aIB;have h4:=aF0;have h5:=WM;have h6:=aKM;have h7:=aIN;have h8:=aFR;have h9:=aE6;have s1:=JE 9 10;have s2:=JE 9 18;have n1:cE T 111 [.str ⟨#[97,46,57]⟩] (.bool true):=Fa.handname_ok ⟨#[97,46,57]⟩ (by decide);have n2:cE T 111 [.str ⟨#[46,97]⟩] (.bool false):=Fa.handname_ok ⟨#[46,97]⟩ (by decide);simp only[encHLot_eq,aR,encCt_eq] at l0 l1 l2 h0 h2 h3 h4 h5 h6 h7 h8 h9 s1 s2
 (repeat (first|simp only[↓QA,QB,seval,dZ,dH,cR,cQ,cO,fQ,a23]|refine rd0 rfl ?_))
 ((first|refine bE (l0) (by simp[clr,clrs,aG]) (by simp[okV,okVs]) ?_|refine fZ (l0) (by simp[clr,clrs,aG]) (by simp[okV,okVs]) ?_);(repeat (first|simp only[↓QA,QB,seval,dZ,dH,cR,cQ,cO,fQ]|refine rd0 rfl ?_)))
 ((first|refine bE (l1) (by simp[clr,clrs,aG]) (by simp[okV,okVs]) ?_|refine fZ (l1) (by simp[clr,clrs,aG]) (by simp[okV,okVs]) ?_);(repeat (first|simp only[↓QA,QB,seval,dZ,dH,cR,cQ,cO,fQ]|refine rd0 rfl ?_)))
 ((first|refine bE (l2) (by simp[clr,clrs,aG]) (by simp[okV,okVs]) ?_|refine fZ (l2) (by simp[clr,clrs,aG]) (by simp[okV,okVs]) ?_);(repeat (first|simp only[↓QA,QB,seval,dZ,dH,cR,cQ,cO,fQ]|refine rd0 rfl ?_)))
 ((first|refine aE (h0) rfl dd ?_|refine aN (h0) rfl dd ?_);(repeat (first|simp only[↓QA,QB,seval,dZ,dH,cR,cQ,cO,fQ]|refine rd0 rfl ?_)))
 ((first|refine aE (h3) rfl dd ?_|refine aN (h3) rfl dd ?_);(repeat (first|simp only[↓QA,QB,seval,dZ,dH,cR,cQ,cO,fQ]|refine rd0 rfl ?_)))
 ((first|refine aE (h4) rfl dd ?_|refine aN (h4) rfl dd ?_);(repeat (first|simp only[↓QA,QB,seval,dZ,dH,cR,cQ,cO,fQ]|refine rd0 rfl ?_)))
 ((first|refine aE (h5) rfl dd ?_|refine aN (h5) rfl dd ?_);(repeat (first|simp only[↓QA,QB,seval,dZ,dH,cR,cQ,cO,fQ]|refine rd0 rfl ?_)))
 ((first|refine aE (h8) rfl dd ?_|refine aN (h8) rfl dd ?_);(repeat (first|simp only[↓QA,QB,seval,dZ,dH,cR,cQ,cO,fQ]|refine rd0 rfl ?_)))
 ((first|refine aE (h9) rfl dd ?_|refine aN (h9) rfl dd ?_);(repeat (first|simp only[↓QA,QB,seval,dZ,dH,cR,cQ,cO,fQ]|refine rd0 rfl ?_)))
 ((first|refine aE (h6) rfl dd ?_|refine aN (h6) rfl dd ?_);(repeat (first|simp only[↓QA,QB,seval,dZ,dH,cR,cQ,cO,fQ]|refine rd0 rfl ?_)))
 ((first|refine aE (h7) rfl dd ?_|refine aN (h7) rfl dd ?_);(repeat (first|simp only[↓QA,QB,seval,dZ,dH,cR,cQ,cO,fQ]|refine rd0 rfl ?_)))
 ((first|refine aE (h2) rfl dd ?_|refine aN (h2) rfl dd ?_);(repeat (first|simp only[↓QA,QB,seval,dZ,dH,cR,cQ,cO,fQ]|refine rd0 rfl ?_)))
 ((first|refine aE (s1) rfl dd ?_|refine aN (s1) rfl dd ?_);(repeat (first|simp only[↓QA,QB,seval,dZ,dH,cR,cQ,cO,fQ]|refine rd0 rfl ?_)))
 ((first|refine bE (eL [-1,1,2] [-1,1,2] (by simp) (by simp)) (by simp[clr,clrs,aG]) (by simp[okV,okVs]) ?_|refine fZ (eL [-1,1,2] [-1,1,2] (by simp) (by simp)) (by simp[clr,clrs,aG]) (by simp[okV,okVs]) ?_);(repeat (first|simp only[↓QA,QB,seval,dZ,dH,cR,cQ,cO,fQ,eq_self]|refine rd0 rfl ?_)))
 ((first|refine aE (s2) rfl dd ?_|refine aN (s2) rfl dd ?_);(repeat (first|simp only[↓QA,QB,seval,dZ,dH,cR,cQ,cO,fQ]|refine rd0 rfl ?_)))
 ((first|refine bE (eL [3] [3] (by simp) (by simp)) (by simp[clr,clrs,aG]) (by simp[okV,okVs]) ?_|refine fZ (eL [3] [3] (by simp) (by simp)) (by simp[clr,clrs,aG]) (by simp[okV,okVs]) ?_);(repeat (first|simp only[↓QA,QB,seval,dZ,dH,cR,cQ,cO,fQ,eq_self]|refine rd0 rfl ?_)))
 ((first|refine bE (eL [2,3] [2,3] (by simp) (by simp)) (by simp[clr,clrs,aG]) (by simp[okV,okVs]) ?_|refine fZ (eL [2,3] [2,3] (by simp) (by simp)) (by simp[clr,clrs,aG]) (by simp[okV,okVs]) ?_);(repeat (first|simp only[↓QA,QB,seval,dZ,dH,cR,cQ,cO,fQ,eq_self]|refine rd0 rfl ?_)))
 ((first|refine bE (eL [0,1] [0,1] (by simp) (by simp)) (by simp[clr,clrs,aG]) (by simp[okV,okVs]) ?_|refine fZ (eL [0,1] [0,1] (by simp) (by simp)) (by simp[clr,clrs,aG]) (by simp[okV,okVs]) ?_);(repeat (first|simp only[↓QA,QB,seval,dZ,dH,cR,cQ,cO,fQ,eq_self]|refine rd0 rfl ?_)))
 ((first|refine bE (eL [1] [1] (by simp) (by simp)) (by simp[clr,clrs,aG]) (by simp[okV,okVs]) ?_|refine fZ (eL [1] [1] (by simp) (by simp)) (by simp[clr,clrs,aG]) (by simp[okV,okVs]) ?_);(repeat (first|simp only[↓QA,QB,seval,dZ,dH,cR,cQ,cO,fQ,eq_self]|refine rd0 rfl ?_)))
 ((first|refine aE (n1) rfl dd ?_|refine aN (n1) rfl dd ?_);(repeat (first|simp only[↓QA,QB,seval,dZ,dH,cR,cQ,cO,fQ]|refine rd0 rfl ?_)))
 ((first|refine aE (n2) rfl dd ?_|refine aN (n2) rfl dd ?_);(repeat (first|simp only[↓QA,QB,seval,dZ,dH,cR,cQ,cO,fQ]|refine rd0 rfl ?_)))
end Go.Am.Room.Ha
namespace Go.Am.Room.Fa
def fB:=zz @bR (zz @aH (zz @bS (zz @bQ (zz @Ha.encHLot_eq (zz @Ha.lotCells_eq (zz @Ha.encGd_eq (zz @Ha.encBn_eq (zz @Ha.encCt_eq (zz @lS (zz @s9 (zz @aR (zz @cB (zz @cA (zz @cC (zz @F0 (zz @Ha.S_mapGd (zz @Ha.S_mapBn (zz @Ha.S_mapCt (zz @eJ (zz @List.length_append.{0} (@Int.toNat_natCast)))))))))))))))))))))
theorem GC(l:Ha.HLot):clrs [Ha.encHLot l,.lit [] true none]=[Ha.encHLot l,aG []]:=by simp[clrs,(Ha.data_hlot l).2,clr,aG]
theorem uX(l:Ha.HLot):okVs 0 [Ha.encHLot l,.lit [] true none]:=⟨(Ha.data_hlot l).1,by simp[okV,okVs],trivial⟩
def FX(v:Farm)(l:Ha.HLot):Prop:=(check v).2.2=0/\(Ha.check l).2.2=0/\v.plots.length<=l.bunches.length/\Ha.waysOf l≠[]/\aO v []≠[]
set_option maxHeartbeats 1000000 in
theorem aB5(v:Farm)(l:Ha.HLot)(D H W:Nat)(hf:Fits v)(hl:Ha.Fits l)(hb:¬FX v l):cE T 4 [encFarm v,Ha.encHLot l,.agg [.int .u8 D,.int .u16 H,.int .u16 W]] (.bool true):=by
 refine aZ (af:=a4) rfl (by simp[a4]) dd ?_;have hpl:=hf.plots;have hbl:=hl.bunches;try simp only[↓QA,QB,seval,fB,a4]
 (refine aE (refcheck_ok v hf) rfl dd ?_;try simp only[↓QA,QB,seval,fB,enc3])
 (refine aE (Ha.refcheck_ok l hl) rfl dd ?_;try simp only[↓QA,QB,seval,fB,Ha.enc3])
 by_cases hc:(check v).2.2=0
 ·have g1:((check v).2.2==0)=true:=by rw[hc];rfl
  by_cases hg:(Ha.check l).2.2=0
  ·have g2:((Ha.check l).2.2==0)=true:=by rw[hg];rfl
   have hv:=vd_of_check hc;have hw:=Ha.vd_of_check hg;by_cases hn:v.plots.length<=l.bunches.length
   ·have g3:decide ((l.bunches.length:Int)<(v.plots.length:Int))=false:=by simp;omega
    have hwy:=Ha.rways_ok l hw;have htr:=BU v hv [] (by simp);try simp only[↓QA,QB,seval,fB,g1,g2,g3]
    refine bE hwy (GC l) (uX l) ?_;by_cases hne:Ha.waysOf l=[]
    ·have g4:(((Ha.waysOf l).length:Int)==0)=true:=by rw[hne];rfl
     try simp only[↓QA,QB,seval,fB,g4,bD]
     refine aE Ha.awake_ok rfl bA ?_;try simp only[↓QA,QB,seval,fB]
     refine aE awake_ok rfl bA ?_;try simp only[↓QA,QB,seval,fB]
    ·have g4:(((Ha.waysOf l).length:Int)==0)=false:=beq_eq_false_iff_ne.2 (by have:=List.length_pos_iff.2 hne;omega);by_cases hme:aO v []=[]
     ·have g7:(((aO v []).length:Int)==0)=true:=by rw[hme];rfl
      try simp only[↓QA,QB,seval,fB,g4,bD]
      refine bE htr (BO v) (sE v) ?_;try simp only[↓QA,QB,seval,fB,g7]
      refine aE Ha.awake_ok rfl bA ?_;try simp only[↓QA,QB,seval,fB]
      refine aE awake_ok rfl bA ?_;try simp only[↓QA,QB,seval,fB]
     ·exact absurd ⟨hc,hg,hn,hne,hme⟩ hb
   ·have g3:decide ((l.bunches.length:Int)<(v.plots.length:Int))=true:=by simp;omega
    try simp only[↓QA,QB,seval,fB,g1,g2,g3]
    refine aE Ha.awake_ok rfl bA ?_;try simp only[↓QA,QB,seval,fB]
    refine aE awake_ok rfl bA ?_;try simp only[↓QA,QB,seval,fB]
  ·have g2:((Ha.check l).2.2==0)=false:=beq_eq_false_iff_ne.2 hg;try simp only[↓QA,QB,seval,fB,g1,g2]
   refine aE Ha.awake_ok rfl bA ?_;try simp only[↓QA,QB,seval,fB]
   refine aE awake_ok rfl bA ?_;try simp only[↓QA,QB,seval,fB]
 ·have g1:((check v).2.2==0)=false:=beq_eq_false_iff_ne.2 hc;try simp only[↓QA,QB,seval,fB,g1]
  refine aE Ha.awake_ok rfl bA ?_;try simp only[↓QA,QB,seval,fB]
  refine aE awake_ok rfl bA ?_;try simp only[↓QA,QB,seval,fB]
def fC(v:Farm)(pl:AV):List AV:=[.lit (v.rain.map cT) false none,.int .i64 v.full,.int .i64 v.ripe,.int .i64 v.way.lo,.int .i64 v.way.hi,pl,.lit (v.looks.map dP) false none]
theorem BP(v:Farm)(pl:AV):fC v pl=[.lit (v.rain.map cT) false none,.int .i64 v.full,.int .i64 v.ripe,.int .i64 v.way.lo,.int .i64 v.way.hi,pl,.lit (v.looks.map dP) false none]:=by simp only[fC]
def gK(l:Ha.HLot)(i:Nat):Int:=(Ha.handsS l i).1
def CR(v:Farm)(l:Ha.HLot)(D H W:Nat)(e:Env)(σ:St):Prop :=
  Env.get e 3 = .ptr 0 0/\Env.get e 4 = .ptr 1 0/\Env.get e 5 = .ptr 2 0/\Env.get e 13=bD (Ha.waysOf l) /\
    ((v.plots=[]/\σ=[.cells (fC v (.lit [] true none)),.cells (Ha.lotCells l),.cells [.int .u8 D,.int .u16 H,.int .u16 W]]) \/
     (v.plots≠[]/\σ=[.cells (fC v (.ref 3 0 v.plots.length 4)),.cells (Ha.lotCells l),.cells [.int .u8 D,.int .u16 H,.int .u16 W],.cells (fL kD (hUp (gK l) v.plots.length v.plots))]))
def CS(v:Farm)(l:Ha.HLot)(D H W:Nat)(e:Env)(σ:St):Prop :=
 Env.get e 3 = .ptr 0 0/\Env.get e 4 = .ptr 1 0/\Env.get e 5 = .ptr 2 0/\Env.get e 13=bD (Ha.waysOf l)/\σ=[.cells (aB (hF v (gK l))),.cells (Ha.lotCells l),.cells [.int .u8 D,.int .u16 H,.int .u16 W]]
theorem PZ{σ:St}{m:Nat}{v w:AV}(h:b8 σ m 20 v=some w):L5 σ m v w:=by
 unfold b8 at h;cases hs:snap σ m 20 v with
 |none=>rw[hs] at h;cases h
 |some v1 =>
  rw[hs] at h;injection h with h
  exact .inr ⟨20,v1,hs,.inr h.symm⟩
theorem PD(v:Farm)(g:Nat->Int)(σ:St)(pl:AV)(h:L5 σ 3 pl (.lit ((hF v g).plots.map bY) false none)):PO σ 3 (fC v pl) (aB (hF v g)):=by
 have h1:okV 3 (.lit (v.rain.map cT) false none):=okV_up _ (dV pT v.rain).1;have h2:okV 3 (.lit (v.looks.map dP) false none):=okV_up _ (dV pS v.looks).1;exact⟨.inl ⟨rfl,h1⟩,.inl ⟨rfl,trivial⟩,.inl ⟨rfl,trivial⟩,.inl ⟨rfl,trivial⟩,.inl ⟨rfl,trivial⟩,h,.inl ⟨rfl,h2⟩,trivial⟩
theorem IU(l:Ha.HLot)(m:Nat):okVs m (Ha.lotCells l):=okVs_up (m:=m) _ (Ha.data_hlot l).1
theorem XW{v:Farm}{l:Ha.HLot}{D H W:Nat}{e:Env}{σ:St}(h:CR v l D H W e σ):
  ∃ env1 σ1 env2 σ2,vS [] e σ env1 σ1/\((env2=env1/\σ2=σ1)\/KA 0 env1 σ1 env2 σ2\/(env2=env1/\Frost 0 env1 σ1 σ2))/\CS v l D H W env2 σ2:=by
 obtain⟨e3,e4,e5,e13,h⟩:=h;refine⟨[(3,.ptr 0 0),(4,.ptr 1 0),(5,.ptr 2 0),(13,bD (Ha.waysOf l))],[.cells (aB (hF v (gK l))),.cells (Ha.lotCells l),.cells [.int .u8 D,.int .u16 H,.int .u16 W]],_,_,?_,.inl ⟨rfl,rfl⟩,rfl,rfl,rfl,rfl,rfl⟩;have hE:HX σ 3 e [(3,.ptr 0 0),(4,.ptr 1 0),(5,.ptr 2 0),(13,bD (Ha.waysOf l))] :=
  ⟨.inl ⟨e3.symm,by rw[e3];simp[okV]⟩,.inl ⟨e4.symm,by rw[e4];simp[okV]⟩,.inl ⟨e5.symm,by rw[e5];simp[okV]⟩,.inl ⟨e13.symm,by rw[e13];exact okV_up _ (dV iY (Ha.waysOf l)).1⟩,trivial⟩
 rcases h with⟨hp,rfl⟩|⟨hp,rfl⟩
 ·refine⟨by simp,by simp,hE,fun i hi=>?_⟩
  match i,hi with
  |0,_ =>
   refine⟨_,rfl,.inr (.inr ⟨_,_,rfl,rfl,PD v _ _ _ (PZ ?_),.inl (by simp)⟩)⟩;have:(hF v (gK l)).plots=[]:=List.eq_nil_of_length_eq_zero (by rw[lY,hp];rfl);rw[this];simp[LZ,OC]
  |1,_=>exact⟨_,rfl,.inr (.inl ⟨rfl,IU l _⟩)⟩
  |2,_=>exact⟨_,rfl,.inr (.inl ⟨rfl,by simp[aY,okVs,okV]⟩)⟩
  |i+3,h=>simp at h;omega
 ·refine⟨by simp,by simp,hE,fun i hi=>?_⟩
  match i,hi with
  |0,_ =>
   refine⟨_,rfl,.inr (.inr ⟨_,_,rfl,rfl,PD v _ _ _ (.inr ⟨20,_,?_,.inl rfl⟩),.inl (by simp)⟩)⟩;have e1:v.plots.length=(hUp (gK l) v.plots.length v.plots).length:=(k9 _ _ _).symm;have:=H0 iW (σ:=[.cells (fC v (.ref 3 0 v.plots.length 4)),.cells (Ha.lotCells l),.cells [.int .u8 D,.int .u16 H,.int .u16 W],.cells (fL kD (hUp (gK l) v.plots.length v.plots))]) (m:=3) (id:=3) (d:=19) (l:=hUp (gK l) v.plots.length v.plots) (by omega) rfl;rw[k9] at this;exact this
  |1,_=>exact⟨_,rfl,.inr (.inl ⟨rfl,IU l _⟩)⟩
  |2,_=>exact⟨_,rfl,.inr (.inl ⟨rfl,by simp[aY,okVs,okV]⟩)⟩
  |i+3,h=>simp at h;omega
end Go.Am.Room.Fa
namespace Go.Am.Room.Fa
def i5:=zz @bR (zz @aH (zz @bS (zz @bQ (zz @Ha.encHLot_eq (zz @Ha.lotCells_eq (zz @Ha.encGd_eq (zz @Ha.encBn_eq (zz @Ha.encCt_eq (zz @lS (zz @s9 (zz @aR (zz @cB (zz @cA (zz @cC (zz @F0 (zz @Ha.S_mapGd (zz @Ha.S_mapBn (zz @Ha.S_mapCt (zz @eJ (zz @List.length_append.{0} (zz @Int.toNat_natCast (@BP))))))))))))))))))))))
theorem NP(v:Farm)(l:Ha.HLot)(D H W:Nat)(hl:Ha.Fits l)(hw:Ha.Vd l)(hnp:v.plots.length<=4)(hn:v.plots.length<=l.bunches.length)(hne:Ha.waysOf l≠[])(hp:v.plots≠[])(e:Env)(K:KJ)(e3:Env.get e 3 = .ptr 0 0)(e4:Env.get e 4 = .ptr 1 0)(e5:Env.get e 5 = .ptr 2 0)(e13:Env.get e 13=bD (Ha.waysOf l))(e14:Env.get e 14 = .int .i64 0)(hK:∀ e',CR v l D H W e' [.cells (fC v (.ref 3 0 v.plots.length 4)),.cells (Ha.lotCells l),.cells [.int .u8 D,.int .u16 H,.int .u16 W],.cells (fL kD (hUp (gK l) v.plots.length v.plots))]->K (some (.exit 0)) e' [.cells (fC v (.ref 3 0 v.plots.length 4)),.cells (Ha.lotCells l),.cells [.int .u8 D,.int .u16 H,.int .u16 W],.cells (fL kD (hUp (gK l) v.plots.length v.plots))]):
  rK (K:=⟨K⟩) T (.loop aAY) e [.cells (fC v (.ref 3 0 v.plots.length 4)),.cells (Ha.lotCells l),.cells [.int .u8 D,.int .u16 H,.int .u16 W],.cells (fL kD v.plots)]:=by
 have hnb:=hw.nbn;have hh0:=aJ7 (gK l) v.plots;obtain⟨P,hP⟩:∃ P,v.plots.length=P:=⟨_,rfl⟩;have hhl:∀ i,(hUp (gK l) i v.plots).length=P:=fun i=>by rw[k9,hP]
 have hfl:∀ i,(fL kD (hUp (gK l) i v.plots)).length=P*4:=fun i=>by rw[pL iW,hhl]
 rw[hP] at hK hn hnp ⊢;refine b9 (S:=Nat) 0 (fun k=>k<=P) (fun k=>P-k) (fun k=>[(3,.ptr 0 0),(4,.ptr 1 0),(5,.ptr 2 0),(13,bD (Ha.waysOf l)),(14,.int .i64 k)])
  (fun k=>[.cells (fC v (.ref 3 0 P 4)),.cells (Ha.lotCells l),.cells [.int .u8 D,.int .u16 H,.int .u16 W],.cells (fL kD (hUp (gK l) k v.plots))]) (Nat.zero_le _) (by rw[hh0]) ?_ fun k hk=>?_
 ·try simp only[aD,QE,seval,i5,e3,e4,e5,e13,e14]
  try simp
 try simp only[↓QA,QB,seval,i5,aAY]
 refine aF (fun h2=>?_) fun h2=>?_
 ·have hk1:k<P:=by simpa using h2
  have hkv:k<v.plots.length:=by omega
  have hkb:k<l.bunches.length:=by omega
  have hwk:=bJ hk1 (by omega);have hh:=Ha.phands_ok l hl hw hne k hkb;have hlo:=VE hw hkb;have hin:=cH.2 hlo;have i1:(0:Int)<=(k:Int)/\(k:Int)<((P:Nat):Int)/\4=4:=⟨by omega,by omega,rfl⟩;have c1:k*4+4<=P*4:=by omega
  have hat:=JZ iW (hUp (gK l) k v.plots) k (by rw[hhl];omega);rw[Z4 (gK l) v.plots hkv] at hat
  have hset:=FD iW (hUp (gK l) k v.plots) k { v.plots[k] with hands:=gK l k } (by rw[hhl];omega);rw[YX (gK l) v.plots hkv] at hset;obtain⟨y,hy⟩:∃ y,v.plots[k]=y:=⟨_,rfl⟩;rw[hy] at hat hset;have hlk:gK l k=(Ha.handsS l k).1:=rfl;rw[hlk] at hset;obtain⟨Q,hQ⟩:∃ Q,Ha.handsS l k=Q:=⟨_,rfl⟩;rw[hQ] at hh hin hset;simp only[kD] at hat hset;try simp only[↓QA,QB,seval,i5]
  (refine aE (hh) rfl dd ?_;try simp only[↓QA,QB,seval,i5,show ((0:Int)==0)=true from rfl])
  try simp only[↓QA,QB,seval,i5,show ((0:Int)==0)=true from rfl]
  (refine aE (fK Q.1 1 12) rfl dd ?_;try simp only[↓QA,QB,seval,i5,hin])
  try simp only[↓QA,QB,seval,i5,i1,c1,hfl,hat,hset,hwk]
  refine⟨k+1,by omega,by omega,?_⟩;try simp only[aD,QE,seval,i5,hwk,bD]
  have:=vE iW 4 (FI 4) (hUp (gK l) (k+1) v.plots);try simp[aY,okVs,okV,this]
 ·have hk1:k=P:=by simp at h2;omega
  subst hk1;have hk:=hK;simp only[BP,Ha.lotCells_eq] at hk;try simp only[↓QA,QB,seval,i5]
  refine hk _ ⟨?_,?_,?_,?_,.inr ⟨hp,?_⟩⟩
  ·try simp only[aD,QE,seval,i5]
  ·try simp only[aD,QE,seval,i5]
  ·try simp only[aD,QE,seval,i5]
  ·try simp only[aD,QE,seval,i5]
  ·rw[hP];simp only[BP,Ha.lotCells_eq]
end Go.Am.Room.Fa
namespace Go.Am.Room.Fa
def bM:=zz @bR (zz @aH (zz @bS (zz @bQ (zz @Ha.encHLot_eq (zz @Ha.lotCells_eq (zz @Ha.encGd_eq (zz @Ha.encBn_eq (zz @Ha.encCt_eq (zz @lS (zz @s9 (zz @aR (zz @cB (zz @cA (zz @cC (zz @F0 (zz @Ha.S_mapGd (zz @Ha.S_mapBn (zz @Ha.S_mapCt (zz @eJ (zz @List.length_append.{0} (zz @Int.toNat_natCast (@BP))))))))))))))))))))))
theorem EV(w:List Int)(x:Int):∀ l:List Int,rS w (l++[x])=rS w l+Ha.gF w x.toNat
 |[]=>by simp[rS]
 |y::l=>by simp only[List.cons_append,rS,EV w x l];omega
theorem PM{w:List Int}(hw:∀ x∈w,1<=x/\x<=12):∀ l:List Int,0<=rS w l/\rS w l<=12*l.length
 |[]=>by simp[rS]
 |y::l=>by
  have:=PM hw l;have:=Ha.gF_bd hw y.toNat
  simp only[rS,List.length_cons];omega
set_option maxHeartbeats 4000000 in
theorem JK(v:Farm)(l:Ha.HLot)(D H W:Nat)(hf:Fits v)(hl:Ha.Fits l)(hD:D<256)(hH:H<65536)(hWb:W<65536)(hb:FX v l):cE T 4 [encFarm v,Ha.encHLot l,.agg [.int .u8 D,.int .u16 H,.int .u16 W]] (.bool true):=by
 obtain⟨hc,hg,hn,hne,hme⟩:=hb;have hv:=vd_of_check hc;have hw:=Ha.vd_of_check hg;have hnp:=hv.npl;have hnb:=hw.nbn;have hnr:=hv.nra;have hck:=refcheck_ok v hf;have hcl:=Ha.refcheck_ok l hl;have g1:((check v).2.2==0)=true:=by rw[hc];rfl
 have g2:((Ha.check l).2.2==0)=true:=by rw[hg];rfl
 have g3:decide ((l.bunches.length:Int)<(v.plots.length:Int))=false:=by simp;omega
 have g4:(((Ha.waysOf l).length:Int)==0)=false:=beq_eq_false_iff_ne.2 (by have:=List.length_pos_iff.2 hne;omega);have g7:(((aO v []).length:Int)==0)=false:=beq_eq_false_iff_ne.2 (by have:=List.length_pos_iff.2 hme;omega);have hwy:=Ha.rways_ok l hw;have htr:=BU v hv [] (by simp);refine T8 (af:=a4) rfl (by simp[a4]) dd ?_;simp only[a4];refine aHQ [_,_,_,_,_,_,_] (CR v l D H W) (CS v l D H W) ?_ (fun e σ h=>XW h) ?_
 ·by_cases hp:v.plots=[]
  ·have hnil:List.map bY v.plots=[]:=by rw[hp];rfl
   have hap0:∀ σ:St,j8 4 40 σ (.lit [] true none) (.lit [] false none)=some (.lit [] true none,σ):=fun σ=>by simp[j8,jJ]
   simp only[R9]
   (repeat (first|simp only[↓QA,QB,seval,bM,dW]|refine rd0 rfl ?_))
   ((first|refine aE (hck) rfl dd ?_|refine aN (hck) rfl dd ?_);(repeat (first|simp only[↓QA,QB,seval,bM,enc3]|refine rd0 rfl ?_)))
   ((first|refine aE (hcl) rfl dd ?_|refine aN (hcl) rfl dd ?_);(repeat (first|simp only[↓QA,QB,seval,bM,Ha.enc3]|refine rd0 rfl ?_)))
   (repeat (first|simp only[↓QA,QB,seval,bM,g1,g2,g3]|refine rd0 rfl ?_))
   refine bE hwy (GC l) (uX l) ?_
   (repeat (first|simp only[↓QA,QB,seval,bM,g4,bD]|refine rd0 rfl ?_))
   refine bE htr (BO v) (sE v) ?_
   (repeat (first|simp only[↓QA,QB,seval,bM,g7,hnil,hap0]|refine rd0 rfl ?_))
   refine b9 (S:=Unit) () (fun _=>True) (fun _=>0) (fun _=>[(3,.ptr 0 0),(4,.ptr 1 0),(5,.ptr 2 0),(13,bD (Ha.waysOf l)),(14,.int .i64 0)])
    (fun _=>[.cells (fC v (.lit [] true none)),.cells (Ha.lotCells l),.cells [.int .u8 D,.int .u16 H,.int .u16 W]]) trivial (by simp only[BP,Ha.lotCells_eq]) ?_ fun _ _=>?_
   ·try simp only[aD,QE,seval,bM,bD]
    try simp
   ·(repeat (first|simp only[↓QA,QB,seval,bM,aAY,show decide ((0:Int)<((0:Nat):Int))=false from rfl]|refine rd0 rfl ?_))
    refine⟨?_,?_,?_,?_,.inl ⟨hp,?_⟩⟩
    ·try simp only[aD,QE,seval,bM]
    ·try simp only[aD,QE,seval,bM]
    ·try simp only[aD,QE,seval,bM]
    ·try simp only[aD,QE,seval,bM]
    ·simp only[BP,Ha.lotCells_eq]
  ·have hap:=fun σ:St=>JP iW (b:=40) (σ:=σ) hp (by simp[room];omega) (by simp[room];omega)
   have hlp:=NP v l D H W hl hw hnp hn hne hp;simp only[BP,Ha.lotCells_eq] at hlp;simp only[R9]
   (repeat (first|simp only[↓QA,QB,seval,bM,dW]|refine rd0 rfl ?_))
   ((first|refine aE (hck) rfl dd ?_|refine aN (hck) rfl dd ?_);(repeat (first|simp only[↓QA,QB,seval,bM,enc3]|refine rd0 rfl ?_)))
   ((first|refine aE (hcl) rfl dd ?_|refine aN (hcl) rfl dd ?_);(repeat (first|simp only[↓QA,QB,seval,bM,Ha.enc3]|refine rd0 rfl ?_)))
   (repeat (first|simp only[↓QA,QB,seval,bM,g1,g2,g3]|refine rd0 rfl ?_))
   refine bE hwy (GC l) (uX l) ?_
   (repeat (first|simp only[↓QA,QB,seval,bM,g4,bD]|refine rd0 rfl ?_))
   refine bE htr (BO v) (sE v) ?_
   (repeat (first|simp only[↓QA,QB,seval,bM,g7,hap]|refine rd0 rfl ?_))
   refine hlp _ _ ?_ ?_ ?_ ?_ ?_ fun e' h=>?_
   ·try simp only[aD,QE,seval,bM]
   ·try simp only[aD,QE,seval,bM]
   ·try simp only[aD,QE,seval,bM]
   ·try simp only[aD,QE,seval,bM,bD]
   ·try simp only[aD,QE,seval,bM]
   (repeat (first|simp only[↓QA,QB,seval,bM]|refine rd0 rfl ?_))
   exact h
 ·rintro e σ ⟨q3,q4,q5,q13,rfl⟩;refine TF (K:=fun j e σ=>NH _ _ j e σ) ?_;have hlow:∀ i,i<v.plots.length->1<=gK l i/\gK l i<=12:=fun i hi=>VE hw (by omega)
  have hvV:=aDV hv hlow;have hsV:=Y7 hv hme hlow;have hfV:=aBB hf (gK l);have hlV:=lY v (gK l);have hrV:(hF v (gK l)).rain=v.rain:=rfl;have hle:=fun (w:List Int) (h:w∈Ha.waysOf l) (c:List Int) (hc:∀ x∈c,0<=x/\x<v.plots.length)=>S6 (v:=v) h c hc
  have hle:∀ w∈Ha.waysOf l,∀ c:List Int,(∀ x∈c,0<=x/\x<v.plots.length)->lF (hF v (gK l)) c<=rS w c:=hle;obtain⟨V,hV⟩:∃ V,hF v (gK l)=V:=⟨_,rfl⟩;rw[hV] at hvV hsV hfV hlV hrV hle;rw[hV];have hww:=fun w (h:w∈Ha.waysOf l)=>PT hw h
  have hwl0:=List.length_pos_iff.2 hne;have hwl1:(Ha.waysOf l).length<=4096:=Nat.le_trans (List.length_filter_le _ _) (Ha.felt_len hw);obtain⟨Y,hY⟩:∃ Y,Ha.waysOf l=Y:=⟨_,rfl⟩;rw[hY] at hww hle hwl0 hwl1 q13;have a1:=Ha.awake_ok;have a2:=awake_ok;have hwD:IntKind.i64.wrap (D:Int)=D:=bL ⟨by omega,by omega⟩;have hwH:IntKind.i64.wrap (H:Int)=H:=bL ⟨by omega,by omega⟩;have hwW:IntKind.i64.wrap (W:Int)=W:=bL ⟨by omega,by omega⟩;have hwr:IntKind.i64.wrap ((V.rain.length:Int)+1)=((V.rain.length+1:Nat):Int):=bJ (show V.rain.length<V.rain.length+1 by omega) (by rw[hrV];omega);have hrz:((V.rain.length+1:Nat):Int)≠0:=by omega
  have hyz:((Y.length:Nat):Int)≠0:=by omega
  obtain⟨d,hdj,hdl⟩:=GE (a:=(D:Int)) (by omega) (show 0<V.rain.length+1 by omega);obtain⟨w,hwj,hwl⟩:=GE (a:=(H:Int)) (by omega) (show 0<60 by omega);obtain⟨j,hjj,hjl⟩:=GE (a:=(W:Int)) (by omega) hwl0;have hvr:=LC .i64 (H:Int) 60 (by omega);have hwj':(H:Int).tmod 60=(w:Int):=hwj;have hdr:d<=V.rain.length:=by omega
  have e1:=TJ (h:=(w:Int)) hsV hdr (by omega);have pe:=pB V d w hfV;obtain⟨ts,htse⟩:∃ ts,aO V []=ts:=⟨_,rfl⟩;rw[htse] at e1;have okz:((0:Int)==0)=true:=rfl;rcases R7 (v:=V) (by omega) ts d w (O:=[]) (kL.2 ⟨0,by omega,by omega,ML _⟩) with⟨h1,_⟩|⟨L,h1,h2,h3,_⟩
  ·rw[h1,uV] at e1;rw[e1] at pe;simp only[mA,aG,List.map_nil] at pe
   (repeat (first|simp only[↓QA,QB,seval,bM,q3,q4,q5,q13,hwD,hwH,hwr,LC _ _ _ hrz,hvr,hdj,hwj']|refine rd0 rfl ?_))
   ((first|refine aE (pe) rfl dd ?_|refine aN (pe) rfl dd ?_);(repeat (first|simp only[↓QA,QB,seval,bM,q3,q4,q5,q13,show ((9:Int)==0)=false from rfl,show ((9:Int)==9)=true from rfl,List.length_nil,show (((0:Nat):Int)==0)=true from rfl]|refine rd0 rfl ?_)))
   refine aE a1 rfl bA ?_
   (repeat (first|simp only[↓QA,QB,seval,bM]|refine rd0 rfl ?_))
   refine aE a2 rfl bA ?_
   (repeat (first|simp only[↓QA,QB,seval,bM]|refine rd0 rfl ?_))
  ·rw[h1,uV] at e1;rw[e1] at pe;obtain⟨hLl,hLp⟩:=YR h2;have hr1:qF V.plots.length (-1) L=true:=YC (by omega) h2;rw[jE,Bool.and_eq_true,decide_eq_true_eq] at h3;have hwm:Y[j]∈Y:=List.getElem_mem hjl;have hs1:=hle _ hwm L (fun x hx=>by have:=hLp x hx;rw[hlV] at this;exact this);obtain⟨hwyl,hwyb⟩:=hww _ hwm;obtain⟨y,hy⟩:∃ y,Y[j]=y:=⟨_,rfl⟩;rw[hy] at hs1 hwyl hwyb;obtain⟨S2,hS2⟩:∃ S2,aU V ts L d=S2:=⟨_,rfl⟩;rw[hS2] at pe;have hfin:decide ((w:Int)<=rS y L)=true:=by simp;omega
   simp only[mA] at pe
   (repeat (first|simp only[↓QA,QB,seval,bM,q3,q4,q5,q13,hwD,hwH,hwr,LC _ _ _ hrz,hvr,hdj,hwj']|refine rd0 rfl ?_))
   ((first|refine aE (pe) rfl dd ?_|refine aN (pe) rfl dd ?_);(repeat (first|simp only[↓QA,QB,seval,bM,q3,q4,q5,q13,okz]|refine rd0 rfl ?_)))
   ((first|refine aE (D4 L V.plots.length (by omega)) rfl dd ?_|refine aN (D4 L V.plots.length (by omega)) rfl dd ?_);(repeat (first|simp only[↓QA,QB,seval,bM,hr1,q3,q4,q5,q13]|refine rd0 rfl ?_)))
   (repeat (first|simp only[↓QA,QB,seval,bM,q3,q4,q5,q13,hwW,LC _ _ _ hyz,hjj,hjl,hy,bD]|refine rd0 rfl ?_))
   refine b9 (S:=Nat) 0 (fun k=>k<=L.length) (fun k=>L.length-k)
    (fun k=>[(19,.int .i64 w),(20,aG L),(23,aG y),(24,.int .i64 (rS y (L.take k))),(25,.int .i64 k)]) (fun _=>[.cells (aB V),.cells (Ha.lotCells l),.cells [.int .u8 D,.int .u16 H,.int .u16 W]]) (Nat.zero_le _) (by simp only[aH,Ha.lotCells_eq]) ?_ fun k hk=>?_
   ·try simp only[aD,QE,seval,bM,rS,aG,List.take_zero]
    try simp[rS]
   (repeat (first|simp only[↓QA,QB,seval,bM,aJA]|refine rd0 rfl ?_))
   refine aF (fun h=>?_) fun h=>?_
   ·have hk1:k<L.length:=by simpa using h
    have hwk:=bJ hk1 (by omega);have hpb:=hLp _ (List.getElem_mem hk1);have hsn:=EV y L[k] (L.take k);rw[<-List.take_succ_eq_append_getElem hk1] at hsn;have hsb:=PM hwyb (L.take k);rw[List.length_take] at hsb;obtain⟨p,hp⟩:∃ p:Nat,L[k]=p:=⟨L[k].toNat,by omega⟩;rw[hp] at hpb hsn;have hpy:p<y.length:=by omega
    have hgp:Ha.gF y ((p:Nat):Int).toNat=y[p]:=by simp[Ha.gF,hpy]
    have hyb:=hwyb _ (List.getElem_mem hpy);rw[hgp] at hsn;obtain⟨z,hz⟩:∃ z,y[p]=z:=⟨_,rfl⟩;rw[hz] at hsn hyb;obtain⟨S,hS⟩:∃ S,rS y (L.take k)=S:=⟨_,rfl⟩;rw[hS] at hsn hsb;rw[hS];have hws:IntKind.i64.wrap (S+z)=S+z:=bL ⟨by omega,by omega⟩
    (repeat (first|simp only[↓QA,QB,seval,bM,hk1,hp,hpy,hz,hws]|refine rd0 rfl ?_))
    refine⟨k+1,by omega,by omega,?_⟩;try simp only[aD,QE,seval,bM,hwk,hsn]
    try simp[aY,okVs,okV]
   ·have hk1:k=L.length:=by simp at h;omega
    rw[hk1,List.take_length]
    (repeat (first|simp only[↓QA,QB,seval,bM,hfin]|refine rd0 rfl ?_))
    refine aE a1 rfl bA ?_
    (repeat (first|simp only[↓QA,QB,seval,bM]|refine rd0 rfl ?_))
    refine aE a2 rfl bA ?_
    (repeat (first|simp only[↓QA,QB,seval,bM]|refine rd0 rfl ?_))
theorem topcuthands_ok(v:Farm)(l:Ha.HLot)(D H W:Nat)(hf:Fits v)(hl:Ha.Fits l)(hD:D<256)(hH:H<65536)(hW:W<65536):cE T 4 [encFarm v,Ha.encHLot l,.agg [.int .u8 D,.int .u16 H,.int .u16 W]] (.bool true):=by
 by_cases hb:FX v l
 ·exact JK v l D H W hf hl hD hH hW hb
 ·exact aB5 v l D H W hf hl hb
end Go.Am.Room.Fa
