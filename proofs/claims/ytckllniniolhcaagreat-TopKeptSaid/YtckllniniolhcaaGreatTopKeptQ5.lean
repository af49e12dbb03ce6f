/- A part of the proof of TopKept: an abstract machine, or what functions come to on it. -/
import Derived.Test.YtckllniniolhcaaGreatTopKeptQ4
open Nat (reduceLT reduceEqDiff reduceAdd reduceLeDiff reduceMul)
set_option linter.unusedVariables false
set_option linter.unusedSimpArgs false
set_option linter.defProp false
set_option maxRecDepth 4000
namespace Go.Am.Room.Ho
def iJ:=zz @encShip_eq (zz @aL (zz @encHold_eq (zz @aW (zz @aK (zz @bF (@bE))))))
theorem A5{s:Ship}{n:Nat}(h:n<s.holds.length):dZ s (n+1)=(dZ s n).flatMap (tI s.holds[n] n):=by simp[dZ,h]
theorem ZT(x:Hold)(n:Nat)(l:List Int):(tI x n l).length<=2:=by
 simp only[tI,List.length_append];split<;>split<;>simp
theorem rL(s:Ship):∀ n,(dZ s n).length<=2^n
 |0=>by simp[dZ]
 |n+1=>by
  have h1:=rL s n;simp only[dZ];split
  ·rename_i x _;have h2:=xH (tI x n) 2 (dZ s n) fun c _=>ZT x n c
   rw[Nat.pow_succ];exact Nat.le_trans h2 (Nat.mul_le_mul_right _ h1)
  ·rw[Nat.pow_succ];omega
theorem vQ(s:Ship):∀ n,∀ c∈dZ s n,c.length<=n
 |0=>by simp[dZ]
 |n+1=>by
  intro c hc;simp only[dZ] at hc;split at hc
  ·simp only[List.mem_flatMap,tI,List.mem_append] at hc;obtain⟨d,hd,h⟩:=hc;have:=vQ s n d hd;rcases h with h|h
   ·split at h
    ·simp at h
    ·simp at h;subst h;omega
   ·split at h
    ·simp at h
    ·simp at h;subst h;simp;omega
  ·have:=vQ s n c hc;omega
theorem wI{s:Ship}(hv:Vd s):(fR s).length<=16/\∀ c∈fR s,c.length<=4:=by
 have h:=hv.nholds;refine⟨Nat.le_trans (rL s _) ?_,fun c hc=>Nat.le_trans (vQ s _ c hc) h.2⟩
 calc 2^s.holds.length<=2^4:=Nat.pow_le_pow_right (by omega) h.2
  _=16:=by decide
theorem YD(s:Ship)(hv:Vd s):cZ T 139 [encShip s] (fT (fR s)):=by
 refine aX (af:=U2) rfl (by simp[U2]) dd ?_;have hno:=hv.nholds;rw[show fR s=dZ s s.holds.length from rfl];try simp only[↓QA,QB,seval,iJ,U2]
 refine dQ (S:=Nat) 0 (fun n=>n<=s.holds.length) (fun n=>s.holds.length-n) (fun n=>[(1,.ptr 0 0),(3,fT (dZ s n)),(4,.int .i64 n)]) (fun _=>[.cells (shipCells s)]) (Nat.zero_le _) (by simp[shipCells,ints]) ?_ fun n hn=>?_
 ·try simp only[aB,QE,seval,iJ]
  simp[fT,ints,dZ,clr,clrs]
 ·try simp only[↓QA,QB,seval,iJ,Z4,fT]
  refine aJ (fun h=>?_) fun h=>?_
  ·have hn1:n<s.holds.length:=by simpa using h
   have hwn:IntKind.i64.wrap ((n:Int)+1)=((n+1:Nat):Int):=dB hn1 (by omega)
   have hsl:(dZ s n).length<=16:=Nat.le_trans (rL s n) (by
    calc 2^n<=2^4:=Nat.pow_le_pow_right (by omega) (by omega)
     _=16:=by decide)
   have hsl1:(dZ s (n+1)).length<=16:=Nat.le_trans (rL s (n+1)) (by
    calc 2^(n+1)<=2^4:=Nat.pow_le_pow_right (by omega) (by omega)
     _=16:=by decide)
   obtain⟨x,hx⟩:∃ x,s.holds[n]=x:=⟨_,rfl⟩;obtain⟨R,hR⟩:∃ R,dZ s (n+1)=R:=⟨_,rfl⟩;have hspec:=A5 hn1;rw[hR,hx] at hspec;rw[hR] at hsl1;try simp only[↓QA,QB,seval,iJ]
   refine rY 5 1 [] rfl ?_;refine dQ (S:=Nat×List (List Int)×Bool) (0,[],false) (fun k=>k.1<=(dZ s n).length/\k.2.1++((dZ s n).drop k.1).flatMap (tI x n)=R) (fun k=>(dZ s n).length-k.1)
    (fun k=>[(1,.ptr 0 0),(3,fT (dZ s n)),(4,.int .i64 n),(5,.lit (k.2.1.map ints) false (some 1)),(6,.int .i64 k.1)]) (fun k=>[.cells (shipCells s),.tok 1 k.2.1.length k.2.2]) ⟨Nat.zero_le _,by simp[hspec]⟩ (by simp[shipCells,ints]) ?_ fun k hk=>?_
   ·try simp only[aB,QE,seval,iJ,fT]
    try simp
   ·obtain⟨k,acc,ex⟩:=k;obtain⟨hk,hacc⟩:=hk;simp only at hk hacc;try simp only[↓QA,QB,seval,iJ,XV,fT]
    refine aJ (fun h2=>?_) fun h2=>?_
    ·have hk1:k<(dZ s n).length:=by simpa using h2
     have hmem:=List.getElem_mem hk1;obtain⟨c,hc⟩:∃ c,(dZ s n)[k]=c:=⟨_,rfl⟩;rw[hc] at hmem;have hlen:=vQ s n c hmem;rw[List.drop_eq_getElem_cons hk1,hc,List.flatMap_cons] at hacc;have hacl:acc.length<=16:=by
      have:=congrArg List.length hacc;simp only[List.length_append] at this;omega
     have hwk:IntKind.i64.wrap ((k:Int)+1)=((k+1:Nat):Int):=dB hk1 (by omega);have a0:∀ (σ:St),cI 1 8 σ (.lit [] true none) (.lit (c.map (.int .i64)) false none)=some ((vX 1 σ (c.map (.int .i64))).1,(vX 1 σ (c.map (.int .i64))).2):=fun σ=>O3 ⟨rfl,iU c,by simp[room];omega,by simp[room];omega⟩
     have a1:∀ (σ:St),cI 1 8 (vX 1 σ (c.map (.int .i64))).2 (vX 1 σ (c.map (.int .i64))).1 (.lit [.int .i64 n] true none)=some (.lit (c.map (.int .i64)++[.int .i64 n]) false (some σ.length),σ++[.tok 1 (c.length+1) true]):=fun σ=>by
      rw[FY ⟨iU c,by simp[aI,AV.cells,AV.cell],by simp[room];omega,by simp[room];omega⟩ (by simp)];simp
     have a2:∀ (b:ABlk) (τ:St) (ex:Bool) (xs:List AV) (m:Nat) (y:AV),xs.length=m->m<=20->aI 1 (xs++[y])=true->cI 1 24 (b::.tok 1 m ex::τ) (.lit xs false (some 1)) (.lit [y] true none)=some (.lit (xs++[y]) false (some 1),b::.tok 1 (m+1) true::τ):=fun b τ ex xs m y hm hm2 hal=>by
      simp only[aI,List.all_append,Bool.and_eq_true] at hal;rw[j8 (t:=1) (ex:=ex) (sz:=1) ⟨hal.1,hal.2,by simp[room];omega,by simp[room];omega⟩ (by simp) m hm.symm rfl];simp
     have hca:aI 1 (acc.map ints)=true:=v4 acc;have hap:=fun (b:ABlk) (τ:St) (ex:Bool) (l:List AV) (f:Bool) (t:Option Nat)=>a2 b τ ex (acc.map ints) acc.length (.lit l f t) (by simp) (by omega) (sD hca)
     have hap2:=fun (b:ABlk) (τ:St) (ex:Bool) (l l2:List AV) (f f2:Bool) (t t2:Option Nat)=>a2 b τ ex (acc.map ints++[.lit l f t]) (acc.length+1) (.lit l2 f2 t2) (by simp) (by omega) (sD (sD hca))
     by_cases d1:x.duct=1
     ·have g1:(x.duct==1)=true:=by simpa using d1
      have g0:(x.duct==0)=false:=by simp[d1]
      have hg:tI x n c=[c++[(n:Int)]]:=by simp[tI,d1]
      rw[hg] at hacc;try simp only[↓QA,QB,seval,iJ,hk1,hn1,hx,g1,g0,hc,ints,a0,a1,hap]
      refine⟨(k+1,acc++[c++[(n:Int)]],true),⟨by simp only;omega,by simpa using hacc⟩,by simp only;omega,?_⟩;try simp only[aB,QE,seval,iJ,hwk,List.map_append,List.length_append,List.map_cons,List.map_nil,fT]
      try simp[aU]
     ·have g1:(x.duct==1)=false:=by simpa using d1
      by_cases d0:x.duct=0
      ·have g0:(x.duct==0)=true:=by simpa using d0
       have hg:tI x n c=[c]:=by simp[tI,d0]
       rw[hg] at hacc;try simp only[↓QA,QB,seval,iJ,hk1,hn1,hx,g1,g0,hc,ints,hap]
       refine⟨(k+1,acc++[c],true),⟨by simp only;omega,by simpa using hacc⟩,by simp only;omega,?_⟩;try simp only[aB,QE,seval,iJ,hwk,List.map_append,List.length_append,List.map_cons,List.map_nil,fT]
       try simp[aU]
      ·have g0:(x.duct==0)=false:=by simpa using d0
       have hg:tI x n c=[c,c++[(n:Int)]]:=by simp[tI,d1,d0]
       rw[hg] at hacc;try simp only[↓QA,QB,seval,iJ,hk1,hn1,hx,g1,g0,hc,ints,hap,a0,a1,hap2]
       refine⟨(k+1,acc++[c,c++[(n:Int)]],true),⟨by simp only;omega,by simpa using hacc⟩,by simp only;omega,?_⟩;try simp only[aB,QE,seval,iJ,hwk,List.map_append,List.length_append,List.map_cons,List.map_nil,fT]
       try simp[aU]
    ·have hk1:k=(dZ s n).length:=by simp at h2;omega
     have hfin:acc=R:=by rw[<-hacc,hk1,List.drop_length];simp
     try simp only[↓QA,QB,seval,iJ]
     refine⟨n+1,by omega,by omega,?_⟩;try simp only[aB,QE,seval,iJ,hwn,fT,hfin,hR]
  ·have hn1:n=s.holds.length:=by simp at h;omega
   subst hn1;try simp only[↓QA,QB,seval,iJ,fT]
theorem QF{n s:Nat}{x:Int}:x∈lst n s↔(0<=x/\x<n)/\s.testBit x.toNat=true:=by
 simp only[lst,List.mem_filter,bP,nI];constructor
 ·rintro⟨h1,h2⟩;exact⟨by omega,h2⟩
 ·rintro⟨h1,h2⟩;exact⟨by omega,h2⟩
theorem vJ{n s i:Nat}(h:i<n):(lst n s).contains (i:Int)=s.testBit i:=by
 rw[Bool.eq_iff_iff,List.contains_iff_mem,QF];simp only[Int.toNat_natCast];constructor
 ·rintro⟨_,h2⟩;exact h2
 ·intro h2;exact⟨⟨by omega,by omega⟩,h2⟩
theorem KC{set h:Nat}:fL set h=true↔∀ i,i<h+1->set.testBit i=false:=by
 simp only[fL,decide_eq_true_eq,V2]
theorem C6{bl:List Int}{h:Nat}:cooled bl h=true↔∀ i,i<h+1->bl.contains (i:Int)=false:=by
 simp[cooled]
theorem YZ{n set h:Nat}(hh:h<n):fL set h=cooled (lst n set) h:=by
 rw[Bool.eq_iff_iff,KC,C6];constructor
 ·intro h1 i hi;rw[vJ (by omega)];exact h1 i hi
 ·intro h1 i hi;have:=h1 i hi;rwa [vJ (by omega)] at this
theorem R2{n set c h:Nat}(hh:h<n)(hs:set<9223372036854775808)(hc:c<9223372036854775808):fL (lY set c) h=cooled (restOf (lst n set) (lst n c)) h:=by
 rw[Bool.eq_iff_iff,KC,C6];have key:∀ i,i<n->((restOf (lst n set) (lst n c)).contains (i:Int))=(lY set c).testBit i:=by
  intro i hi;rw[ZS hc set i hs,<-vJ hi,<-vJ hi,Bool.eq_iff_iff];simp[restOf]
 constructor
 ·intro h1 i hi;rw[key i (by omega)];exact h1 i hi
 ·intro h1 i hi;have:=h1 i hi;rwa [key i (by omega)] at this
theorem JA(n s:Nat):lst (n+1) s=lst n s++(if s.testBit n=true then [(n:Int)] else []):=by
 simp only[lst,lV,List.filter_append,Int.zero_add]
 congr 1
 simp only[List.filter_cons,List.filter_nil,Int.toNat_natCast,nI]
theorem aDS{n s t:Nat}(h:∀ i,i<n->s.testBit i=t.testBit i):lst n s=lst n t:=by
 simp only[lst];refine List.filter_congr fun x hx=>?_
 have:=(bP _ _ _).1 hx;rw[<-nI,<-nI,h x.toNat (by omega)]
theorem aAX{n s:Nat}(h:s<2^n):lst (n+1) s=lst n s:=by
 rw[JA,Nat.testBit_lt_two_pow h];simp
theorem ZF{n s:Nat}(h:s<2^n):lst (n+1) (s|||2^n)=lst n s++[(n:Int)]:=by
 rw[JA,aDS (t:=s)]
 ·simp[Nat.testBit_or,Nat.testBit_two_pow_self]
 ·intro i hi;rw[Nat.testBit_or,Nat.testBit_two_pow_of_ne (by omega),Bool.or_false]
def goL:List Hold->Nat->List Int->List (List Int)
 |[],_,l=>[l]
 |x::xs,h,l=>(tI x h l).flatMap (goL xs (h+1))
theorem MA(s:Ship):∀ (k h:Nat),h+k=s.holds.length->(dZ s h).flatMap (goL (s.holds.drop h) h)=fR s
 |0,h,hk=>by
  have hh:h=s.holds.length:=by omega
  rw[hh,List.drop_length];have:goL [] s.holds.length=fun l=>[l]:=by funext l;rfl
  rw[this];simp[fR]
 |k+1,h,hk=>by
  have hh:h<s.holds.length:=by omega
  rw[<-MA s k (h+1) (by omega),A5 hh,List.flatMap_assoc,List.drop_eq_getElem_cons hh];rfl
theorem DC:∀ (xs:List Hold) (h set:Nat),set<2^h->goL xs h (lst h set)=(gP xs h set).map (lst (h+xs.length))
 |[],h,set,hs=>by simp[goL,gP]
 |x::xs,h,set,hs=>by
  have h1:set<2^(h+1):=by rw[Nat.pow_succ];omega
  have h2:set|||2^h<2^(h+1):=Nat.or_lt_two_pow h1 (by rw[Nat.pow_succ];have:=Nat.two_pow_pos h;omega);have i1:=DC xs (h+1) set h1;have i2:=DC xs (h+1) (set|||2^h) h2;rw[aAX hs] at i1;rw[ZF hs] at i2;have e:h+(x::xs).length=h+1+xs.length:=by simp;omega
  rw[e];simp only[goL,tI,gP,List.flatMap_append,List.map_append]
  congr 1
  ·split
   ·rfl
   ·simp[i1]
  ·split
   ·rfl
   ·simp[i2]
theorem Q6(s:Ship):fR s=(gP s.holds 0 0).map (lst s.holds.length):=by
 rw[<-MA s s.holds.length 0 (by omega),List.drop_zero];have:=DC s.holds 0 0 (by simp);rw[Nat.zero_add] at this;rw[<-this];simp[dZ,lst,aS]
def rR(s:Ship)(bl:List Int):List (Nat×Truth):=(gP s.holds 0 0).filterMap fun set=>(mN s bl (lst s.holds.length set)).map fun t=>(set,t)
theorem mW(s:Ship)(bl:List Int):(rR s bl).map (·.2)=truths s bl:=by
 simp only[rR,truths,Q6,List.filterMap_map,List.map_filterMap]
 congr 1
 funext set;simp only[Function.comp_apply,Option.map_map];cases mN s bl (lst s.holds.length set)<;>rfl
def zJ(s:Ship)(c:Nat)(q:Nat×Truth):List (List Way):=(List.range s.holds.length).map fun (h:Nat)=>((q.2.starts[h]?).getD []).map fun m=>(⟨h,m,fL (lY q.1 c) h⟩:Way)
theorem LY(s:Ship)(bl:List Int)(c set:Nat):∀ (k h:Nat),h+k=s.holds.length ->
  AX s bl c set (s.holds.drop h) h=if ((List.range' h k).all fun j=>!(startsOf s j (lst s.holds.length set) bl).isEmpty)=true then some ((List.range' h k).map fun (j:Nat)=>(startsOf s j (lst s.holds.length set) bl).map fun m=>(⟨j,m,fL (lY set c) j⟩:Way)) else none
 |0,h,hk=>by
  have hh:h=s.holds.length:=by omega
  rw[hh,List.drop_length];rfl
 |k+1,h,hk=>by
  have hh:h<s.holds.length:=by omega
  have ih:=LY s bl c set k (h+1) (by omega);rw[List.drop_eq_getElem_cons hh];have hw:mP s bl s.holds[h] h (fL set h) (fL (lY set c) h)=(startsOf s h (lst s.holds.length set) bl).map fun m=>(⟨h,m,fL (lY set c) h⟩:Way):=by
   simp only[mP,startsOf,List.getElem?_eq_getElem hh,YZ hh,yK];rfl
  simp only[AX,hw,ih,List.range'_succ,List.all_cons,List.map_cons];cases hl:startsOf s h (lst s.holds.length set) bl with
  |nil=>simp
  |cons y ys =>
   simp only[List.map_cons,reduceCtorEq,if_false,List.isEmpty_cons,Bool.not_false,Bool.true_and];split
   ·rfl
   ·rfl
theorem L7(s:Ship)(bl:List Int)(c:Nat):TL s bl c=(rR s bl).map fun q=>(q.1,zJ s c q):=by
 simp only[TL,rR,List.map_filterMap]
 congr 1
 funext set;have:=LY s bl c set s.holds.length 0 (by omega);rw[List.drop_zero,<-List.range_eq_range'] at this;rw[this];simp only[Option.map_map,mN,List.all_map];have hall:(List.range s.holds.length).all ((fun x:List Int=>!x.isEmpty)∘fun h=>startsOf s h (lst s.holds.length set) bl)=(List.range s.holds.length).all fun j=>!(startsOf s j (lst s.holds.length set) bl).isEmpty:=rfl
 rw[hall];split
 ·simp only[Option.map_some,Function.comp_apply,zJ,Option.some.injEq,Prod.mk.injEq,true_and];refine List.map_congr_left fun j hj=>?_
  have:=List.mem_range.1 hj;simp[this]
 ·rfl
theorem O6(s:Ship)(bl:List Int)(c:Nat):(TL s bl c).isEmpty=(truths s bl).isEmpty:=by
 rw[L7,<-mW];simp
end Go.Am.Room.Ho
namespace Go.Am.Room.Ho
def eE:=zz @encShip_eq (zz @aL (zz @encHold_eq (zz @aW (zz @aK (zz @bF (@bE))))))
def sW(s:Ship)(h:Nat)(c:Nat->Int)(but:List Int)(k:Nat):Bool:=(List.range k).all fun i=>match s.log[i]? with|some x=>iL h c but i x|none=>true
theorem IF{s:Ship}{k:Nat}(hk:k<s.log.length)(h:Nat)(c:Nat->Int)(but:List Int):sW s h c but (k+1)=(sW s h c but k&&iL h c but k s.log[k]):=by
 simp[sW,List.range_succ,List.all_append,hk]
theorem M3(s:Ship)(hv:Vd s)(h:Nat)(hh:h<s.holds.length)(bl but:List Int)(hb:bl.length<9223372036854775808)(hbu:but.length<9223372036854775808):
  cZ T 140 [encShip s,.int .i64 h,ints bl,ints but] (ints (startsOf s h bl but)):=by
 have hnh:=hv.nheat
 have hno:=hv.nholds;have hnl:=hv.nlog;have hst:=(hv.holds _ (List.getElem_mem hh)).start;refine aX (af:=YW) rfl (by simp[YW]) dd ?_;obtain⟨x,hx⟩:∃ x,s.holds[h]=x:=⟨_,rfl⟩;rw[hx] at hst;obtain⟨c,hc⟩:∃ c,cooled bl h=c:=⟨_,rfl⟩;obtain⟨R,hR⟩:∃ R,startsOf s h bl but=R:=⟨_,rfl⟩;obtain⟨N,hN⟩:∃ N,(x.start.hi+1-x.start.lo).toNat=N:=⟨_,rfl⟩;obtain⟨p,hp⟩:∃ p:Int->Bool,(fun n=>sP s h (marksAt s h n c) but)=p:=⟨_,rfl⟩;have hR':[]++(aS (x.start.lo+((0:Nat):Int)) (N-0)).filter p=R:=by
  rw[<-hR,<-hp,<-hN,<-hc];simp only[startsOf,List.getElem?_eq_getElem hh,hx];simp
 rw[hR]
 (repeat (first|simp only[↓QA,QB,seval,eE,YW,hh,hx]|refine rd0 rfl ?_))
 refine rY 9 1 [] rfl ?_;refine dQ (S:=Nat×List Int×Bool) (0,[],false) (fun k=>k.1<=N/\k.2.1.length<=k.1/\k.2.1++(aS (x.start.lo+(k.1:Int)) (N-k.1)).filter p=R) (fun k=>N-k.1)
  (fun k=>[(1,.int .i64 h),(2,ints bl),(3,ints but),(4,.ptr 0 0),(9,.lit (k.2.1.map (.int .i64)) false (some 1)),(10,.int .i64 (x.start.lo+(k.1:Int)))]) (fun k=>[.cells (shipCells s),.tok 1 k.2.1.length k.2.2]) ⟨Nat.zero_le _,Nat.le_refl _,hR'⟩ (by simp[shipCells,ints]) ?_ fun k hk=>?_
 ·try simp only[aB,QE,seval,eE]
  try simp
 ·obtain⟨k,acc,ex⟩:=k;obtain⟨hk,hal,hacc⟩:=hk;simp only at hk hal hacc;obtain⟨n,hn⟩:∃ n,x.start.lo+(k:Int)=n:=⟨_,rfl⟩;simp only[hn];rw[hn] at hacc
  (repeat (first|simp only[↓QA,QB,seval,eE,YI,hh,hx]|refine rd0 rfl ?_))
  refine aJ (fun hd=>?_) fun hd=>?_
  ·have hd':n<=x.start.hi:=by simpa using hd
   have hk1:k<N:=by omega
   have hn80:0<=n/\n<=80:=by omega
   have hw:IntKind.i64.wrap (n+1)=n+1:=bD ⟨by omega,by omega⟩;have hn1:x.start.lo+((k+1:Nat):Int)=n+1:=by omega
   rw[show N-k=(N-(k+1))+1 by omega] at hacc;simp only[aS,List.filter_cons] at hacc;obtain⟨L,hL⟩:∃ L,course s h n bl=L:=⟨_,rfl⟩;have hLe:L=(List.range (s.heat.length+1)).map (marksAt s h n c):=by rw[<-hL,<-hc];rfl
   have hlen:L.length=s.heat.length+1:=by rw[hLe];simp
   have hcs:=rcourse_ok s hv h (by omega) n hn80 bl hb;rw[hL] at hcs;have hap:=fun (a:Int) (τ:St)=>j8 (σ:=.cells (shipCells s)::.tok 1 acc.length ex::τ) (t:=1) (ex:=ex) (sz:=1) (b:=8) (xs:=acc.map (.int .i64)) (ys:=[.int .i64 a]) (f:=true) (tk:=none) ⟨iU acc,by simp[aI,AV.cells,AV.cell],by simp[room];omega,by simp[room];omega⟩ (by simp) acc.length (by simp) rfl
   rw[aL] at hap
   (repeat (first|simp only[↓QA,QB,seval,eE]|refine rd0 rfl ?_))
   ((first|refine aC (hcs) rfl dd ?_|refine aF (hcs) rfl dd ?_);(repeat (first|simp only[↓QA,QB,seval,eE]|refine rd0 rfl ?_)))
   refine dQ (S:=Nat) 0 (fun i=>i<=s.log.length) (fun i=>s.log.length-i)
    (fun i=>[(1,.int .i64 h),(2,ints bl),(3,ints but),(4,.ptr 0 0),(9,.lit (acc.map (.int .i64)) false (some 1)),(10,.int .i64 n),(11,ints L),(12,.bool (sW s h (marksAt s h n c) but i)),(13,.int .i64 i)]) (fun i=>[.cells (shipCells s),.tok 1 acc.length ex]) (Nat.zero_le _) (by simp[shipCells,ints]) ?_ fun i hi=>?_
   ·try simp only[aB,QE,seval,eE,sW]
    try simp
   ·(repeat (first|simp only[↓QA,QB,seval,eE,aAR]|refine rd0 rfl ?_))
    refine aJ (fun hd2=>?_) fun hd2=>?_
    ·have hi1:i<s.log.length:=by simpa using hd2
     have hwi:=dB hi1 (by omega);have hln:=hv.log _ (List.getElem_mem hi1);obtain⟨y,hy⟩:∃ y,s.log[i]=y:=⟨_,rfl⟩;have hsucc:=IF hi1 h (marksAt s h n c) but;rw[hy] at hln hsucc;have hwt:0<=y.watch/\y.watch.toNat<L.length:=by omega
     have hget:L[y.watch.toNat]=marksAt s h n c y.watch.toNat:=by simp only[hLe];simp
     have hmb:=tN hv (h:=h) hn80 c y.watch.toNat (by omega);have hyb:=hln.2.2;have hws:IntKind.i64.wrap (marksAt s h n c y.watch.toNat-y.marks)=marksAt s h n c y.watch.toNat-y.marks:=bD ⟨by omega,by omega⟩;cases h1:(y.hold==(h:Int))
     ·have h1':¬y.hold=(h:Int):=by simpa using h1
      have hl:iL h (marksAt s h n c) but i y=true:=by simp[iL,h1']
      rw[hl,Bool.and_true] at hsucc
      (repeat (first|simp only[↓QA,QB,seval,eE,hi1,hy,h1]|refine rd0 rfl ?_))
      refine⟨i+1,by omega,by omega,?_⟩;try simp only[aB,QE,seval,eE,hwi,hsucc]
      try simp[aU]
     ·have h1':y.hold=(h:Int):=by simpa using h1
      (repeat (first|simp only[↓QA,QB,seval,eE,hi1,hy,h1]|refine rd0 rfl ?_))
      ((first|refine aC (OU but i hbu) rfl dd ?_|refine aF (OU but i hbu) rfl dd ?_);(repeat (first|simp only[↓QA,QB,seval,eE,hi1,hy]|refine rd0 rfl ?_)))
      cases h2:but.contains (i:Int)
      ·have hl:iL h (marksAt s h n c) but i y=inR (marksAt s h n c y.watch.toNat-y.marks) (-1) 1:=by simp only[iL,h1',h2];simp
       rw[hl] at hsucc;cases h3:sW s h (marksAt s h n c) but i
       ·rw[h3,Bool.false_and] at hsucc
        (repeat (first|simp only[↓QA,QB,seval,eE,hi1,hy]|refine rd0 rfl ?_))
        refine⟨i+1,by omega,by omega,?_⟩;try simp only[aB,QE,seval,eE,hwi,hsucc]
        try simp[aU]
       ·rw[h3,Bool.true_and] at hsucc
        (repeat (first|simp only[↓QA,QB,seval,eE,hi1,hy,XY,hwt,hget,hws]|refine rd0 rfl ?_))
        ((first|refine aC (kJ (marksAt s h n c y.watch.toNat-y.marks) (-1) 1) rfl dd ?_|refine aF (kJ (marksAt s h n c y.watch.toNat-y.marks) (-1) 1) rfl dd ?_);(repeat (first|simp only[↓QA,QB,seval,eE,hi1,hy,XY,hwt,hget,hws]|refine rd0 rfl ?_)))
        refine⟨i+1,by omega,by omega,?_⟩;try simp only[aB,QE,seval,eE,hwi,hsucc]
        try simp[aU]
      ·have hl:iL h (marksAt s h n c) but i y=true:=by simp only[iL,h2];simp
       rw[hl,Bool.and_true] at hsucc
       (repeat (first|simp only[↓QA,QB,seval,eE,hi1,hy]|refine rd0 rfl ?_))
       refine⟨i+1,by omega,by omega,?_⟩;try simp only[aB,QE,seval,eE,hwi,hsucc]
       try simp[aU]
    ·have hi1:i=s.log.length:=by simp at hd2;omega
     subst hi1;have hpn:sW s h (marksAt s h n c) but s.log.length=p n:=by rw[<-hp];rfl
     rw[hpn];cases h4:p n
     ·rw[h4] at hacc
      (repeat (first|simp only[↓QA,QB,seval,eE]|refine rd0 rfl ?_))
      refine⟨(k+1,acc,ex),⟨by simp only;omega,by simp only;omega,by simp only[hn1];simpa using hacc⟩,by simp only;omega,?_⟩;try simp only[aB,QE,seval,eE,hw,hn1]
      try simp[aU]
     ·rw[h4] at hacc
      (repeat (first|simp only[↓QA,QB,seval,eE,hap]|refine rd0 rfl ?_))
      refine⟨(k+1,acc++[n],true),⟨by simp only;omega,by simp only[List.length_append,List.length_cons,List.length_nil];omega,by simp only[hn1];simpa using hacc⟩,by simp only;omega,?_⟩;try simp only[aB,QE,seval,eE,hw,hn1,List.map_append,List.map_cons,List.map_nil]
      try simp[aU]
  ·have hd':¬n<=x.start.hi:=by simpa using hd
   have hk1:k=N:=by omega
   rw[hk1,Nat.sub_self] at hacc;simp only[aS,List.filter_nil,List.append_nil] at hacc;subst hacc
   (repeat (first|simp only[↓QA,QB,seval,eE]|refine rd0 rfl ?_))
   try try simp only[QS,QC,seval,eE]
end Go.Am.Room.Ho
namespace Go.Am.Room.Ho
def oY:=zz @encShip_eq (zz @aL (zz @encHold_eq (zz @aW (zz @aK (zz @bF (zz @bE (zz @dA (@kO))))))))
def eW(t:Truth):AV:=.agg [ints t.blocked,fT t.starts]
theorem encTruth_eq(t:Truth):eW t = .agg [.lit (t.blocked.map (.int .i64)) false none,.lit (t.starts.map ints) false none]:=by simp only[eW,ints,fT]
theorem sN(t:Truth):jS (eW t):=iG (aD (gE _) (aD (CZ _) cM))
instance (t:Truth):Dat (eW t):=⟨sN t⟩
def truthsAV(l:List Truth):AV:=.lit (l.map eW) false none
theorem truthsAV_eq(l:List Truth):truthsAV l = .lit (l.map eW) false none:=by simp only[truthsAV]
theorem LV(l:List Truth):jS (truthsAV l):=eC sN l
instance (l:List Truth):Dat (truthsAV l):=⟨LV l⟩
instance (l:List Truth):Dats (l.map eW):=⟨cJ sN l⟩
theorem sU(σ:St)(m d:Nat)(l:List Truth):bT σ m d (l.map eW)=some (l.map eW):=gQ (cJ sN l) σ m d
def jJ(s:Ship)(bl but:List Int)(k:Nat):List (List Int):=(List.range k).map fun h=>startsOf s h bl but
def tG(s:Ship)(bl but:List Int)(k:Nat):Bool:=(jJ s bl but k).all fun x=>!x.isEmpty
theorem v7(s:Ship)(bl but:List Int)(k:Nat):jJ s bl but (k+1)=jJ s bl but k++[startsOf s k bl but]:=by simp[jJ,List.range_succ]
theorem CJ(s:Ship)(bl but:List Int)(k:Nat):tG s bl but (k+1)=(tG s bl but k&&!(startsOf s k bl but).isEmpty):=by simp[tG,v7,List.all_append]
theorem ZM {s:Ship} {bl but:List Int} {k:Nat} (h:tG s bl but k=false):∀ j,k≤j→tG s bl but j=false:=by
  intro j hj
  induction j with
  | zero => have : k = 0 := by omega
            subst this;exact h
  |succ j ih =>
    by_cases hk:k=j+1
    · subst hk;exact h
    · rw [CJ,ih (by omega),Bool.false_and]
theorem EJ(s:Ship)(but bl:List Int):mN s but bl=if tG s bl but s.holds.length=true then some ⟨bl,jJ s bl but s.holds.length⟩ else none:=rfl
theorem starts_len{s:Ship}(hv:Vd s)(h:Nat)(bl but:List Int):(startsOf s h bl but).length<=81:=by
 unfold startsOf;split
 ·rename_i x hx;have hs:=(hv.holds x (List.mem_of_getElem? hx)).start;refine Nat.le_trans (List.length_filter_le _ _) ?_;rw[kS];omega
 ·simp
theorem truths_len{s:Ship}(hv:Vd s)(but:List Int):(truths s but).length<=16:=Nat.le_trans (List.length_filterMap_le _ _) (wI hv).1
theorem SD(s:Ship)(hv:Vd s)(but:List Int)(hbu:but.length<9223372036854775808)(bl:List Int)(hbl:bl.length<=4)(k:Nat)(hk:k<(fR s).length)(hkb:(fR s)[k]=bl)(acc:List Truth)(ex:Bool)(e:Env)(K:KJ)(e1:Env.get e 1=ints but)(e2:Env.get e 2 = .ptr 0 0)(e5:Env.get e 5=fT (fR s))(e6:Env.get e 6 = .lit (acc.map eW) false (some 1))(e7:Env.get e 7 = .int .i64 k)(e8:Env.get e 8 = .ptr 2 0)(e9:Env.get e 9 = .bool true)(e10:Env.get e 10 = .int .i64 0)(hK:∀ e' xs f tk τ,(∀ t,tk=some t->2<t)->(tG s bl but s.holds.length=true->xs=(jJ s bl but s.holds.length).map ints)->Env.get e' 1=ints but->Env.get e' 2 = .ptr 0 0->Env.get e' 5=fT (fR s)->Env.get e' 6 = .lit (acc.map eW) false (some 1)->Env.get e' 7 = .int .i64 k->Env.get e' 8 = .ptr 2 0->Env.get e' 9 = .bool (tG s bl but s.holds.length) ->
   K (some (.exit 2)) e' (.cells (shipCells s)::.tok 2 acc.length ex::.cells [.lit (bl.map (.int .i64)) false none,.lit xs f tk]::τ)):
  rK (K:=⟨K⟩) T (.loop K2) e [.cells (shipCells s),.tok 2 acc.length ex,.cells [.lit (bl.map (.int .i64)) false none,.lit [] true none]]:=by
 have hno:=hv.nholds;refine dQ (S:=Nat×Bool×Option Nat×St) (0,true,none,[]) (fun a=>a.1<=s.holds.length/\∀ t,a.2.2.1=some t->2<t/\t<3+a.2.2.2.length) (fun a=>s.holds.length-a.1)
  (fun a=>[(1,ints but),(2,.ptr 0 0),(5,fT (fR s)),(6,.lit (acc.map eW) false (some 1)),(7,.int .i64 k),(8,.ptr 2 0),(9,.bool (tG s bl but a.1)),(10,.int .i64 a.1)])
  (fun a=>.cells (shipCells s)::.tok 2 acc.length ex::.cells [.lit (bl.map (.int .i64)) false none,.lit ((jJ s bl but a.1).map ints) a.2.1 a.2.2.1]::a.2.2.2) ⟨Nat.zero_le _,fun t h=>by cases h⟩ rfl ?_ fun a ha=>?_
 ·try simp only[aB,QE,seval,oY,sU,e1,e2,e5,e6,e7,e8,e9,e10]
  try simp[tG,jJ]
 ·obtain⟨h,f,tk,τ⟩:=a;obtain⟨hh,htk⟩:=ha;simp only at hh htk;by_cases hh1:h<s.holds.length
  ·have g:decide ((h:Int)<(s.holds.length:Int))=true:=by simpa using hh1
   have hw:=dB hh1 (by omega);have hsucc:=v7 s bl but h;have hall:=CJ s bl but h;cases hc:tG s bl but h
   ·have hfull:=ZM hc s.holds.length hh
    (repeat (first|simp only[↓QA,QB,seval,oY,sU,K2,g]|refine rd0 rfl ?_))
    have hk0:=hK;rw[aL,hfull] at hk0;refine hk0 _ _ f tk τ (fun t ht=>(htk t ht).1) (fun h=>by cases h) ?_ ?_ ?_ ?_ ?_ ?_ ?_;all_goals try simp only[aB,QE,seval,oY,sU]
   ·rw[hc,Bool.true_and] at hall;obtain⟨l,hl⟩:∃ l,startsOf s h bl but=l:=⟨_,rfl⟩;have hll:=starts_len hv h bl but;have hst:=M3 s hv h hh1 bl but (by omega) hbu;rw[hl] at hst hsucc hall hll;have hlenp:decide ((0:Int)<(l.length:Int)) = !l.isEmpty:=by cases l<;>simp
    obtain⟨xs,hxs⟩:∃ xs,(jJ s bl but h).map ints=xs:=⟨_,rfl⟩;have hxl:xs.length<=4:=by rw[<-hxs];simp[jJ];omega
    have hxa:aI 1 xs=true:=by rw[<-hxs];exact v4 _
    have a0:∀ (σ:St),cI 1 24 σ (.lit [] true none) (.lit xs f tk)=some ((vX 1 σ xs).1,(vX 1 σ xs).2):=fun σ=>O3 ⟨rfl,hxa,by simp[room];omega,by simp[room];omega⟩
    have a1:∀ (σ:St),cI 1 24 (vX 1 σ xs).2 (vX 1 σ xs).1 (.lit [.lit (l.map (.int .i64)) false none] true none)=some (.lit (xs++[.lit (l.map (.int .i64)) false none]) false (some σ.length),σ++[.tok 1 (xs.length+1) true]):=fun σ=>by
     rw[FY ⟨hxa,by simp[aI,AV.cells,AV.cell],by simp[room];omega,by simp[room];omega⟩ (by simp)];simp
    simp only[hxs]
    (repeat (first|simp only[↓QA,QB,seval,oY,sU,K2,g,hk,hkb,fT,ints]|refine rd0 rfl ?_))
    ((first|refine aC (hst) rfl dd ?_|refine aF (hst) rfl dd ?_);(repeat (first|simp only[↓QA,QB,seval,oY,sU,hlenp,a0,a1,hk,hkb,fT,ints]|refine rd0 rfl ?_)))
    refine⟨(h+1,false,some (τ.length+1+1+1),τ++[.tok 1 (xs.length+1) true]),⟨by simp only;omega,fun t ht=>by simp only[Option.some.injEq] at ht;subst ht;simp only[List.length_append,List.length_cons,List.length_nil];omega⟩,by simp only;omega,?_⟩;rw[hsucc,hall,List.map_append,hxs];try simp only[aB,QE,seval,oY,sU,hw,List.map_append,List.map_cons,List.map_nil,List.length_append,fT,ints]
    try simp[aU,okVs,okV]
    exact⟨tQ (cJ (aM .i64) bl) _,EE (tQ (by rw[<-hxs];exact cJ gE _) _) (tQ (aD (gE l) cM) _)⟩
  ·have g:decide ((h:Int)<(s.holds.length:Int))=false:=by simpa using hh1
   obtain rfl:h=s.holds.length:=by omega
   (repeat (first|simp only[↓QA,QB,seval,oY,sU,K2,g]|refine rd0 rfl ?_))
   have hk0:=hK;rw[aL] at hk0;refine hk0 _ _ f tk τ (fun t ht=>(htk t ht).1) (fun _=>rfl) ?_ ?_ ?_ ?_ ?_ ?_ ?_;all_goals try simp only[aB,QE,seval,oY,sU]
end Go.Am.Room.Ho
namespace Go.Am.Room.Ho
def jZ:=zz @encShip_eq (zz @aL (zz @encHold_eq (zz @aW (zz @aK (zz @bF (zz @bE (zz @dA (zz @kO (@sU)))))))))
theorem BU(l:List Truth):aI 2 (l.map eW)=true:=w7 2 eW l fun x=>by simp[cA,eW,AV.cells,AV.cell,ints,fT]
theorem rtruths_ok(s:Ship)(hv:Vd s)(but:List Int)(hbu:but.length<9223372036854775808):cZ T 32 [encShip s,ints but] (truthsAV (truths s but)):=by
 refine aX (af:=a32) rfl (by simp[a32]) dd ?_;have hno:=hv.nholds;have hss:=wI hv;obtain⟨R,hR⟩:∃ R,truths s but=R:=⟨_,rfl⟩;have hRl:=truths_len hv but;have hR':[]++((fR s).drop 0).filterMap (mN s but)=R:=hR;rw[hR] at hRl ⊢;try simp only[↓QA,QB,seval,jZ,a32]
 (refine aC (YD s hv) rfl dd ?_;try simp only[↓QA,QB,seval,jZ])
 refine rY 6 2 [] rfl ?_;refine dQ (S:=Nat×List Truth×Bool) (0,[],false) (fun a=>a.1<=(fR s).length/\a.2.1++((fR s).drop a.1).filterMap (mN s but)=R) (fun a=>(fR s).length-a.1)
  (fun a=>[(1,ints but),(2,.ptr 0 0),(5,fT (fR s)),(6,.lit (a.2.1.map eW) false (some 1)),(7,.int .i64 a.1)])
  (fun a=>[.cells (shipCells s),.tok 2 a.2.1.length a.2.2]) ⟨Nat.zero_le _,hR'⟩ (by simp[shipCells,ints]) ?_ fun a ha=>?_
 ·try simp only[aB,QE,seval,jZ]
  try simp
 ·obtain⟨k,acc,ex⟩:=a;obtain⟨hk,hacc⟩:=ha;simp only at hk hacc;try simp only[↓QA,QB,seval,jZ,aFH,fT]
  refine aJ (fun hd=>?_) fun hd=>?_
  ·have hk1:k<(fR s).length:=by simpa using hd
   have hw:=dB hk1 (by omega);obtain⟨bl,hbl⟩:∃ bl,(fR s)[k]=bl:=⟨_,rfl⟩;have hbll:=hss.2 _ (List.getElem_mem hk1);rw[hbl] at hbll;rw[List.drop_eq_getElem_cons hk1,hbl,List.filterMap_cons] at hacc;have hal:acc.length<=16:=by
    have:=congrArg List.length hacc;simp only[List.length_append] at this;omega
   have hin:=SD s hv but hbu bl hbll k hk1 hbl acc ex;rw[aL] at hin;have hap:=fun (y:AV) (hy:aI 2 [y]=true) (τ:St)=>j8 (σ:=.cells (shipCells s)::.tok 2 acc.length ex::τ) (t:=1) (ex:=ex) (sz:=2) (b:=48) (xs:=acc.map eW) (ys:=[y]) (f:=true) (tk:=none) ⟨BU acc,hy,by simp[room];omega,by simp[room];omega⟩ (by simp) acc.length (by simp) rfl
   rw[aL] at hap;have hap2:=fun (l:List AV) (f:Bool) (tk:Option Nat)=>hap (.agg [.lit (bl.map (.int .i64)) false none,.lit l f tk]) rfl
   try simp only[↓QA,QB,seval,jZ,hk1,hbl,ints,fT]
   refine hin _ _ ?_ ?_ ?_ ?_ ?_ ?_ ?_ ?_ ?_;all_goals try try simp only[aB,QE,seval,jZ,fT,ints]
   intro e' xs f tk τ htk hxs q1 q2 q5 q6 q7 q8 q9;cases hall:tG s bl but s.holds.length
   ·rw[EJ,hall] at hacc;rw[hall] at q9;try simp only[↓QA,QB,seval,jZ,q1,q2,q5,q6,q7,q8,q9,ints,fT]
    refine⟨(k+1,acc,ex),⟨by simp only;omega,by simpa using hacc⟩,by simp only;omega,?_⟩;try simp only[aB,QE,seval,jZ,q1,q2,q5,q6,q7,q8,q9,hw,ints,fT]
    try simp[aU]
   ·rw[EJ,hall] at hacc;rw[hall] at q9;rw[hxs hall];try simp only[↓QA,QB,seval,jZ,q1,q2,q5,q6,q7,q8,q9,ints,fT,hap2]
    refine⟨(k+1,acc++[⟨bl,jJ s bl but s.holds.length⟩],true),⟨by simp only;omega,by simpa using hacc⟩,by simp only;omega,?_⟩;cases tk with
    |none =>
     try simp only[aB,QE,seval,jZ,q1,q2,q5,q6,q7,q8,q9,hw,ints,fT,List.map_append,List.map_cons,List.map_nil,List.length_append,encTruth_eq,Bool.and_false]
     try simp[aU]
    |some t =>
     have h2:=htk t rfl;try simp only[aB,QE,seval,jZ,q1,q2,q5,q6,q7,q8,q9,hw,ints,fT,List.map_append,List.map_cons,List.map_nil,List.length_append,encTruth_eq,Bool.and_false,Nat.not_lt.2 (Nat.le_of_lt h2)]
     try simp[aU]
  ·have hk1:k=(fR s).length:=by simp at hd;omega
   rw[hk1,List.drop_length] at hacc;simp only[List.filterMap_nil,List.append_nil] at hacc;subst hacc;try simp only[↓QA,QB,seval,jZ,truthsAV]
   try try simp only[QS,QC,seval,jZ]
end Go.Am.Room.Ho
namespace Go.Am.Room.Ho
theorem AE{s:Ship}{n:Int}(h:errAsk s n=0):Vd s/\0<=n/\n<s.holds.length:=by
 unfold errAsk at h;split at h
 ·rename_i h0;split at h
  ·rename_i h1;have:=cG.1 h1;exact⟨vd_of_check h0,by omega,by omega⟩
  ·omega
 ·rename_i h0;exact absurd h h0
theorem xD{n most e:Int}(h:gG n most e=0):e=0/\0<=n/\n<=most:=by
 unfold gG at h;split at h
 ·rename_i h0;split at h
  ·rename_i h1;have:=cG.1 h1;exact⟨h0,by omega,by omega⟩
  ·omega
 ·rename_i h0;exact absurd h h0
theorem kV{s:Ship}{e:Int}(h:errKnown s e=0):e=0/\truths s []≠[]:=by
 unfold errKnown at h;split at h
 ·rename_i h0;split at h
  ·omega
  ·rename_i h1;exact⟨h0,by simpa using h1⟩
 ·rename_i h0;exact absurd h h0
def qU(most:Int):List Int->Nat->Int
 |[],_=>-1
 |x::xs,k=>if x<=most then k else qU most xs (k+1)
theorem AW(most:Int)(c:Nat->Int):∀ k w,qU most ((List.range' w k).map c) w=pM c most k w
 |0,w=>rfl
 |k+1,w=>by
  simp only[List.range'_succ,List.map_cons,qU,pM,AW most c k (w+1)]
theorem MX(s:Ship)(c:Nat->Int)(most:Int):qU most ((List.range (s.heat.length+1)).map c) 0=rZ s c most:=by
 rw[List.range_eq_range',AW];rfl
end Go.Am.Room.Ho
namespace Go.Am.Room.Ho
def jC:=zz @encShip_eq (zz @aL (zz @encHold_eq (zz @aW (zz @aK (zz @bF (zz @bE (zz @List.length_append.{0} (zz @dA (zz @Nat.add_lt_add_iff_left (zz @Nat.lt_add_right_iff_pos (zz @Nat.mul_one (@Int.toNat_natCast))))))))))))
theorem NX:ButIs 0 []:=⟨by omega,fun i hi=>by simp⟩
def j7(σ:St)(s:Ship)(c:Nat)(M:bQ):St:=σ++[.cells (shipCells s),.cells (shipCells s),.map (gV s M),.cells (sb s 0 c (σ.length+2))]
theorem rS(σ:St)(s:Ship)(c:Nat):ShipAt (j7 σ s c) s 0 c (σ.length+3) (σ.length+2) (σ.length+4) :=
 ⟨fun M=>by simp[j7],fun M=>by simp[j7,mA,O1,P2],fun M=>by rw[j7,sA];rfl,fun M M'=>by rw[j7,j7,lF];rfl,by omega,by omega⟩
def mJ(s:Ship)(h n most:Int):Int:=errKnown s (gG n most (errAsk s h))
def fQ(s:Ship)(h n most:Int)(k:Nat):AV:=if mJ s h n most=0 then .tuple [.ptr (k+3) 0,.int .i64 0] else .tuple [.nilPtr,.int .i64 (mJ s h n most)]
def y4(s:Ship):bQ:=JL s [] 0 []
def jH(σ:St)(s:Ship)(h n most:Int):St:=if mJ s h n most=0 then j7 σ s 0 (y4 s) else σ
theorem k8(σ:St)(s:Ship)(h n most:Int)(hf:Fits s):mH T (.func 141 [] []) [encShip s,.int .i64 h,.int .i64 n,.int .i64 most] σ (fQ s h n most σ.length) (jH σ s h n most):=by
 refine .callf (.call (af:=OL) rfl (by simp[OL]) (eG (K:=fun j e σ1=>(j=none\/j=some .ret)/\(if mJ s h n most=0 then Env.get e 8 = .ptr (σ.length+3) 0/\Env.get e 9 = .int .i64 0/\σ1=j7 σ s 0 (y4 s) else Env.get e 8 = .nilPtr/\Env.get e 9 = .int .i64 (mJ s h n most)/\∃ τ,σ1=σ++τ)) ?_ fun o ho=>ho) fun o ho=>?_)
 ·have hws:IntKind.i64.wrap ((s.holds.length:Int)-1)=(s.holds.length:Int)-1:=bD ⟨by omega,by have:=hf.holds;omega⟩;obtain⟨E,hE⟩:∃ E,mJ s h n most=E:=⟨_,rfl⟩;have hE2:errKnown s (gG n most (errAsk s h))=E:=hE;rw[hE];try simp only[↓QA,QB,seval,jC,OL]
  (refine aC (tZ s hf) rfl dd ?_;try simp only[↓QA,QB,seval,jC,enc3])
  cases h0:((check s).2.2==0)
  ·have h0':(check s).2.2≠0:=by simpa using h0
   have he:E=(check s).2.2:=by rw[<-hE2];simp[errAsk,gG,h0',errKnown]
   try simp only[↓QA,QB,seval,jC,h0]
   rw[he,if_neg h0'];simp
  ·have h0':(check s).2.2=0:=by simpa using h0
   have hv:=vd_of_check h0';try simp only[↓QA,QB,seval,jC,h0,hws]
   (refine bC (dI 0 ((s.holds.length:Int)-1) [h] (by simp)) (by simp[clr,clrs,ints]) (by simp[okV,okVs]) ?_;try simp only[↓QA,QB,seval,jC,iC])
   cases h1:inR h 0 ((s.holds.length:Int)-1)
   ·have he:E=4:=by rw[<-hE2];simp[errAsk,gG,h0',h1,errKnown]
    subst he;try simp only[↓QA,QB,seval,jC]
    simp
   ·try simp only[↓QA,QB,seval,jC]
    (refine bC (dI 0 most [n] (by simp)) (by simp[clr,clrs,ints]) (by simp[okV,okVs]) ?_;try simp only[↓QA,QB,seval,jC,iC])
    cases h2:inR n 0 most
    ·have he:E=7:=by rw[<-hE2];simp[errAsk,gG,h0',h1,h2,errKnown]
     subst he;try simp only[↓QA,QB,seval,jC]
     simp
    ·have hEk:E=errKnown s 0:=by rw[<-hE2];simp[errAsk,gG,h0',h1,h2]
     have hlk:=xY (σ++[.cells (shipCells s)]) s 0;have hso:=vP (rS σ s 0) hv [] NX (by omega) [];rw[O6] at hso;have e0:gV s []=[]:=rfl;simp only[j7,pZ,e0] at hso hlk;try simp only[↓QA,QB,seval,jC,List.append_assoc] at hso hlk
     try simp only[↓QA,QB,seval,jC]
     refine bR hlk ?_;try simp only[↓QA,QB,seval,jC]
     refine bR hso ?_;cases hs:(truths s []).isEmpty
     ·have he:E=0:=by rw[hEk];simp[errKnown,hs]
      subst he;try simp only[↓QA,QB,seval,jC]
      simp[j7,y4,shipCells,ints]
     ·have he:E=8:=by rw[hEk];simp[errKnown,hs]
      subst he;try simp only[↓QA,QB,seval,jC]
      simp
 ·obtain⟨hj,ho⟩:=ho;by_cases he:mJ s h n most=0
  ·rw[if_pos he] at ho;refine⟨hj,fQ s h n most σ.length,?_,.inl ⟨rfl,?_⟩⟩
   ·simp[eQ,jU,OL,ho.1,ho.2.1,fQ,he]
   ·rw[ho.2.2,jH,if_pos he]
  ·rw[if_neg he] at ho;obtain⟨h4,h5,τ,hσ⟩:=ho;refine⟨hj,fQ s h n most σ.length,?_,.inr ⟨20,fQ s h n most σ.length,fQ s h n most σ.length,?_,.inl rfl,fun i hi=>.inl (by rw[hσ];exact List.getElem?_append_left hi),by rw[hσ];simp,rfl,by rw[hσ];simp[jH,he]⟩⟩
   ·simp[eQ,jU,OL,h4,h5,fQ,he]
   ·simp[fQ,he,snap,snaps]
end Go.Am.Room.Ho
namespace Go.Am.Room.Ho
def gK:=zz @encShip_eq (zz @aL (zz @encHold_eq (zz @aW (zz @aK (zz @l0 (zz @bF (zz @bE (zz @List.length_append.{0} (zz @BR (zz @BJ (zz @BF (zz @BQ (zz @BM (zz @BW (zz @BV (zz @BS (zz @BL (zz @BK (zz @dA (zz @kO (zz @Nat.add_lt_add_iff_left (zz @Nat.lt_add_right_iff_pos (zz @Nat.mul_one (zz @Int.toNat_natCast (zz @jD (zz @jA (zz @sL (zz @rE (zz @qV (zz @qL (zz @qI (zz @iI (zz @L8 (zz @IN (@fD)))))))))))))))))))))))))))))))))))
theorem cX(t:Int×Int):fY t=[.int .i64 t.1,.int .i64 t.2]:=by simp only[fY]
def OO(s:Ship)(t:TV):Prop:=t.2.length=s.holds.length/\∀ ws∈t.2,ws.length<=81
theorem aAF{s:Ship}(hv:Vd s)(bl:List Int)(c:Nat):∀ t∈TL s bl c,OO s t:=by
 intro t ht;rw[L7] at ht;obtain⟨q,hq,rfl⟩:=List.mem_map.1 ht;refine⟨by simp[zJ],fun ws hw=>?_⟩;simp only[zJ,List.mem_map,List.mem_range] at hw;obtain⟨h,hh,rfl⟩:=hw;have hq2:q.2∈truths s bl:=by rw[<-mW];exact List.mem_map.2 ⟨q,hq,rfl⟩
 rw[vV hq2 hh,List.length_map];simp only[startsOf,List.getElem?_eq_getElem hh];have hs:=(hv.holds _ (List.getElem_mem hh)).start;refine Nat.le_trans (List.length_filter_le _ _) ?_;rw[kS];omega
def tH(t:TV)(h:Nat):List Way:=(t.2[h]?).getD []
def xO(s:Ship)(x:Hold)(h:Nat)(t:TV)(a:Int×Int):(Int×Int)×Bool:=((tH t h).foldl (fun a w=>dL a (yF s x (crs s w))) a,true)
def wC(N p h:Nat)(a:Int×Int):St:=[.cells [.int .i64 h],.cells (fY a),.cells [.func 286 [.ptr p 0] []]]
theorem M9{S:bQ->St}{s:Ship}{b c p m N:Nat}(hR:ShipAt S s b c p m N)(hv:Vd s)(h:Nat)(hh:h<s.holds.length)(t:TV)(ht:OO s t)(fl:Bool)(tk:Option Nat)(x:Int×Int)(M:bQ)(lp:ABlk)(τ:St)(e:Env)(G:Option AJump->St->Prop)(e3:Env.get e 3 = .ptr N 0)(e5:Env.get e 5 = .ptr (N+1) 0)(e6:Env.get e 6 = .ptr (N+2) 0)(e8:Env.get e 8 = .lit (t.2.map (fS s)) fl tk)(R:(Int×Int)×Bool)(hRr:xO s s.holds[h] h t x=R):
  wp T NB e (S M++(wC N p h x++(.cells [.ptr p 0]::lp::τ))) (fun j e'' σ''=>(R.2=true/\j=none/\∃ τ',σ''=S M++(wC N p h R.1++(.cells [.ptr p 0]::lp::(τ++τ'))))\/G j σ''):=by
 obtain⟨hl,hwl⟩:=ht;have hht:h<t.2.length:=by omega
 obtain⟨x0,hx0⟩:∃ x,s.holds[h]=x:=⟨_,rfl⟩;obtain⟨ws,hws⟩:∃ ws,t.2[h]=ws:=⟨_,rfl⟩;have hw81:=hwl _ (List.getElem_mem hht);rw[hws] at hw81;rw[hx0] at hRr;obtain⟨g,hg⟩:∃ g:Int×Int->Way->Int×Int,(fun a w=>dL a (yF s x0 (crs s w)))=g:=⟨_,rfl⟩;have hR1:R=(ws.foldl g x,true):=by
  rw[<-hRr,<-hg,<-hws];simp only[xO,tH,List.getElem?_eq_getElem hht,Option.getD_some]
 obtain⟨Y,hY⟩:∃ Y,ws.foldl g x=Y:=⟨_,rfl⟩;rw[hY] at hR1;subst hR1;simp only[wC];try simp only[↓QA,QB,seval,gK,hR.len,hR.base,hR.base0,hR.bset,hR.bset0,hR.at1,hR.at0,cX,NB,e3,e5,e6,e8,hht,hws]
 refine dQ (S:=Nat×Int×Int) (0,x) (fun a=>a.1<=ws.length/\(ws.drop a.1).foldl g a.2=Y) (fun a=>ws.length-a.1)
  (fun a=>[(3,.ptr N 0),(5,.ptr (N+1) 0),(6,.ptr (N+2) 0),(20,fS s ws),(21,.int .i64 ws.length),(22,.int .i64 a.1)])
  (fun a=>S M++(.cells [.int .i64 h]::.cells (fY a.2)::.cells [.func 286 [.ptr p 0] []]::.cells [.ptr p 0]::lp::τ)) ⟨Nat.zero_le _,by simpa using hY⟩ (by simp[fY]) ?_ fun a ha=>?_
 ·try simp only[aB,QE,seval,gK,hR.len,hR.base,hR.base0,hR.bset,hR.bset0,hR.at1,hR.at0,cX,e3,e5,e6]
  try simp
 ·obtain⟨i,x⟩:=a;obtain⟨hi,hq⟩:=ha;simp only at hi hq;try simp only[↓QA,QB,seval,gK,hR.len,hR.base,hR.base0,hR.bset,hR.bset0,hR.at1,hR.at0,cX,aA1]
  refine aJ (fun hd=>?_) fun hd=>?_
  ·have hi1:i<ws.length:=by simpa using hd
   have hw:=dB hi1 (by omega);rw[List.drop_eq_getElem_cons hi1,List.foldl_cons] at hq;have hta:=fun bb υ=>FA (S M++(.cells [.int .i64 h]::.cells (fY x)::.cells [.func 286 [.ptr p 0] []]::.cells [.ptr p 0]::lp::υ)) (N+1) x bb (by rw[hR.base];rfl)
   have hkm:=fun υ=>aG5 (S M++(.cells [.int .i64 h]::.cells (fY x)::.cells [.func 286 [.ptr p 0] []]::.cells [.ptr p 0]::lp::υ)) p s b c m (hR.at1 M _) hv h hh (crs s ws[i])
   rw[hx0] at hkm;obtain⟨v,hve⟩:∃ v,yF s x0 (crs s ws[i])=v:=⟨_,rfl⟩;rw[hve] at hkm;have hgv:g x ws[i]=dL x v:=by rw[<-hg,<-hve]
   rw[hgv] at hq;try simp only[↓QA,QB,seval,gK,hR.len,hR.base,hR.base0,hR.bset,hR.bset0,hR.at1,hR.at0,cX] at hta hkm
   try simp only[↓QA,QB,seval,gK,hR.len,hR.base,hR.base0,hR.bset,hR.bset0,hR.at1,hR.at0,cX,hi1,<-n4]
   refine bJ (hkm _) ?_;try simp only[↓QA,QB,seval,gK,hR.len,hR.base,hR.base0,hR.bset,hR.bset0,hR.at1,hR.at0,cX,hi1]
   refine bR (hta v _) ?_;try simp only[↓QA,QB,seval,gK,hR.len,hR.base,hR.base0,hR.bset,hR.bset0,hR.at1,hR.at0,cX,hw]
   refine⟨(i+1,dL x v),⟨by simp only;omega,hq⟩,by simp only;omega,?_⟩;try simp only[aB,QE,seval,gK,hR.len,hR.base,hR.base0,hR.bset,hR.bset0,hR.at1,hR.at0,cX,hw]
   try simp[aU,okVs,okV]
   try omega
  ·have hi1:i=ws.length:=by simp at hd;omega
   rw[hi1,List.drop_length] at hq;simp only[List.foldl_nil] at hq;subst hq;try simp only[↓QA,QB,seval,gK,hR.len,hR.base,hR.base0,hR.bset,hR.bset0,hR.at1,hR.at0,cX]
   exact .inl ⟨[],by simp⟩
def yL(s:Ship)(x:Hold)(bl:List Int)(c h:Nat):Int×Int:=(TL s bl c).foldl (fun a t=>(xO s x h t a).1) (0,0)
def qN(s:Ship)(x:Hold)(bl:List Int)(c h:Nat)(M:bQ):bQ:=(iR s bl c (xO s x h) (0,0) M).1.2
theorem wT{S:bQ->St}{s:Ship}{b c p m N:Nat}(hR:ShipAt S s b c p m N)(hv:Vd s)(bl:List Int)(hb:ButIs b bl)(hcl:c<1000000)(h:Nat)(hh:h<s.holds.length)(M:bQ):
  mH T (.func 142 [] []) [.ptr p 0,.int .i64 h] (S M) (.int .i64 (E6 (yL s s.holds[h] bl c h))) (S (qN s s.holds[h] bl c h M)):=by
 have hgo:=uU (f:=xO s s.holds[h] h) (fun _ _=>rfl) (TL s bl c) (0,0);have hpl:=hR.pl;have hok:∀ (x:Int×Int) (y:ABlk),y∈wC N p h x->∀ k,N<=k->aU k y:=by
  intro x y hy k hk;simp only[wC,List.mem_cons,List.not_mem_nil,or_false] at hy;rcases hy with rfl|rfl|rfl
  ·simp[aU,okVs,okV]
  ·simp[aU,okVs,okV,fY]
  ·simp[aU,okVs,okV];omega
 obtain⟨Y,hY⟩:∃ Y,yL s s.holds[h] bl c h=Y:=⟨_,rfl⟩;have hgoY:aV (xO s s.holds[h] h) (TL s bl c) (0,0)=(Y,true):=by rw[hgo,<-hY];rfl
 rw[hY];refine nO hR (af:=aA0) rfl (by simp[aA0]) ?_;try simp only[↓QA,QB,seval,gK,hR.len,hR.base,hR.base0,hR.bset,hR.bset0,hR.at1,hR.at0,cX,aA0]
 refine m6 rfl (by simp[BO]) ?_;try simp only[↓QA,QB,seval,gK,hR.len,hR.base,hR.base0,hR.bset,hR.bset0,hR.at1,hR.at0,cX,BO]
 refine gM hR hv bl hb hcl (wC N p h) (wC N p h) 3 (fun _=>rfl) (fun _=>rfl) hok hok .ret (P:=OO s) (f:=xO s s.holds[h] h) _ 14 [15,16] _ _ ?_ ?_ (aAF hv bl c) (0,0) M _ ?_ ?_
 ·try simp only[aB,QE,seval,gK,hR.len,hR.base,hR.base0,hR.bset,hR.bset0,hR.at1,hR.at0,cX]
 ·refine rC hR (wC N p h) (wC N p h) 3 (fun _=>rfl) (fun _=>rfl) .ret _ _ rfl _ _ ?_;intro t ht fl tk x M' τ;simp only[iS];try simp only[↓QA,QB,seval,gK,hR.len,hR.base,hR.base0,hR.bset,hR.bset0,hR.at1,hR.at0,cX]
  obtain⟨R,hRr⟩:∃ R,xO s s.holds[h] h t x=R:=⟨_,rfl⟩;rw[hRr];refine M9 hR hv h hh t ht fl tk x M' _ τ _ _ ?_ ?_ ?_ ?_ R hRr;all_goals try simp only[aB,QE,seval,gK,hR.len,hR.base,hR.base0,hR.bset,hR.bset0,hR.at1,hR.at0,cX]
 ·intro τ h2;rw[hgoY];simp only[wC];try simp only[↓QA,QB,seval,gK,hR.len,hR.base,hR.base0,hR.bset,hR.bset0,hR.at1,hR.at0,cX]
  refine aC (WM Y) rfl (by rw[cX];exact dd) ?_;try simp only[↓QA,QB,seval,gK,hR.len,hR.base,hR.base0,hR.bset,hR.bset0,hR.at1,hR.at0,cX]
  exact⟨_,_,rfl,rfl,by try simp only[QS,QC,seval,gK,hR.len,hR.base,hR.base0,hR.bset,hR.bset0,hR.at1,hR.at0,cX]⟩
 ·intro τ h2;rw[hgoY] at h2;cases h2
end Go.Am.Room.Ho
namespace Go.Am.Room.Ho
structure TOk (s:Ship) (t:Truth):Prop where
 len:t.starts.length=s.holds.length
 bl:t.blocked.length<=4
 st:∀ x∈t.starts,x.length<=81/\x≠[]/\∀ m∈x,0<=m/\m<=80
theorem tok_of{s:Ship}(hv:Vd s){but:List Int}{t:Truth}(h:t∈truths s but):TOk s t:=by
 obtain⟨h1,h2,h3⟩:=mem_truths.1 h;refine⟨by rw[h2];simp,(wI hv).2 _ h1,fun x hx=>?_⟩;rw[h2] at hx;obtain⟨k,hk,rfl⟩:=List.mem_map.1 hx;have hk:=List.mem_range.1 hk;refine⟨starts_len hv _ _ _,h3 k hk,fun m hm=>?_⟩;have:=((mem_starts hk).1 hm).1;have:=(hv.holds _ (List.getElem_mem hk)).start;omega
def prs(l:List Truth)(n:Nat):List (Int×List Int):=l.flatMap fun t=>((t.starts[n]?).getD []).map fun m=>(m,t.blocked)
theorem aEU{s:Ship}{l:List Truth}{n:Nat}(h:∀ t∈l,TOk s t):(prs l n).length<=l.length*81:=by
 refine xH _ 81 l fun t ht=>?_
 rw[List.length_map];by_cases hn:n<t.starts.length
 ·rw[List.getElem?_eq_getElem hn];exact ((h t ht).st _ (List.getElem_mem hn)).1
 ·rw[List.getElem?_eq_none (by omega)];simp
theorem KW(s:Ship)(l:List Truth)(h:Nat)(clear:List Int):cR s l h clear=(prs l h).map fun p=>marksAt s h p.1 (cooled (restOf p.2 clear) h):=by
 simp only[cR,prs,List.map_flatMap,List.map_map];rfl
end Go.Am.Room.Ho
namespace Go.Am.Room.Ho
def KT(x:Span×Int):AV:=.tuple [eM x.1,.int .i64 x.2]
def pT(x:Span×Int×Int):AV:=.tuple [eM x.1,.int .i64 x.2.1,.int .i64 x.2.2]
theorem SQ(x:Int):kF ⟨x,x⟩ x=⟨x,x⟩:=by simp[kF]
theorem wW{s:Ship}{bl:List Int}{q:Nat×Truth}(h:q∈rR s bl):q.1∈gP s.holds 0 0/\q.2.blocked=lst s.holds.length q.1/\q.2∈truths s bl:=by
 have h3:q.2∈truths s bl:=by rw[<-mW];exact List.mem_map.2 ⟨q,h,rfl⟩
 simp only[rR,List.mem_filterMap] at h;obtain⟨set,h1,h2⟩:=h;cases ht:mN s bl (lst s.holds.length set) with
 |none=>rw[ht] at h2;cases h2
 |some t =>
  rw[ht] at h2;simp at h2;subst h2;refine⟨h1,?_,h3⟩;simp only[mN] at ht;split at ht
  ·cases ht;rfl
  ·cases ht
theorem sM{s:Ship}(hv:Vd s)(bl:List Int)(c:Nat)(hc:c<1000000)(h:Nat)(hh:h<s.holds.length){β:Type}(F:Way->β)(G:(Nat->Int)->β)(hFG:∀ m c2,0<=m->m<=80->F ⟨h,m,c2⟩=G (marksAt s h m c2)):((TL s bl c).flatMap fun t=>tH t h).map F=(cR s (truths s bl) h (lst s.holds.length c)).map G:=by
 rw[L7,<-mW,cR,List.flatMap_map,List.flatMap_map,List.map_flatMap,List.map_flatMap];simp only[List.flatMap_def]
 congr 1
 refine List.map_congr_left fun q hq=>?_
 obtain⟨h1,h2,h3⟩:=wW hq;have hlt:=HC hv _ h1;have hco:fL (lY q.1 c) h=cooled (restOf q.2.blocked (lst s.holds.length c)) h:=by rw[h2];exact R2 hh (by omega) (by omega)
 have hw:tH (q.1,zJ s c q) h=((q.2.starts[h]?).getD []).map fun m=>(⟨h,m,fL (lY q.1 c) h⟩:Way):=by
  simp[tH,zJ,hh]
 rw[hw,List.map_map,List.map_map];refine List.map_congr_left fun m hm=>?_
 rw[vV h3 hh] at hm;have hb:=((mem_starts hh).1 hm).1;have hs:=(hv.holds _ (List.getElem_mem hh)).start;simp only[Function.comp_apply];rw[hFG m _ (by omega) (by omega),hco]
theorem u4{X:Type}(g:X->Way->X)(h:Nat):∀ (l:List TV) (x:X),l.foldl (fun x t=>(tH t h).foldl g x) x=(l.flatMap fun t=>tH t h).foldl g x
 |[],x=>rfl
 |t::l,x=>by
  simp only[List.foldl_cons,List.flatMap_cons,List.foldl_append];exact u4 g h l _
theorem sH:∀ (bs:List Bool) (y a:Nat),a+bs.length<4611686018427387904->y<=a->bs.foldl dL ((y:Int),(a:Int))=(((y+(bs.filter id).length:Nat):Int),((a+bs.length:Nat):Int))
 |[],y,a,_,_=>by simp
 |b::bs,y,a,h,hy=>by
  simp only[List.length_cons] at h;have w1:IntKind.i64.wrap ((a:Int)+1)=((a+1:Nat):Int):=by rw[bD ⟨by omega,by omega⟩];omega
  have w2:IntKind.i64.wrap ((y:Int)+1)=((y+1:Nat):Int):=by rw[bD ⟨by omega,by omega⟩];omega
  simp only[List.foldl_cons,dL,w1,w2];cases b
  ·simp only[Bool.false_eq_true,if_false];rw[sH bs y (a+1) (by omega) (by omega)];simp;omega
  ·simp only[if_true];rw[sH bs (y+1) (a+1) (by omega) (by omega)];simp;omega
theorem A1{s:Ship}(hv:Vd s)(bl:List Int)(h:Nat)(clear:List Int):(cR s (truths s bl) h clear).length<=16*81:=by
 rw[KW,List.length_map];exact Nat.le_trans (aEU fun t ht=>tok_of hv ht) (Nat.mul_le_mul_right _ (truths_len hv bl))
theorem AS(y a:Nat):E6 ((y:Int),(a:Int))=eF y a:=by
 simp only[E6,eF];by_cases h1:y=a
 ·simp[h1]
 ·have:¬(y:Int)=(a:Int):=by omega
  simp only[h1,this,if_false];by_cases h2:y=0
  ·simp[h2]
  ·have:¬(y:Int)=0:=by omega
   simp[h2,this]
theorem ET{s:Ship}(hv:Vd s)(bl:List Int)(c:Nat)(hc:c<1000000)(h:Nat)(hh:h<s.holds.length)(F:Way->Bool)(G:(Nat->Int)->Bool)(hFG:∀ m c2,0<=m->m<=80->F ⟨h,m,c2⟩=G (marksAt s h m c2)):
  (TL s bl c).foldl (fun x t=>(tH t h).foldl (fun a w=>dL a (F w)) x) (0,0)=(((((cR s (truths s bl) h (lst s.holds.length c)).filter G).length:Nat):Int),(((cR s (truths s bl) h (lst s.holds.length c)).length:Nat):Int)):=by
 rw[u4,<-List.foldl_map (f:=F) (g:=dL),sM hv bl c hc h hh F G hFG];have hl:=A1 hv bl h (lst s.holds.length c);have:=sH ((cR s (truths s bl) h (lst s.holds.length c)).map G) 0 0 (by rw[List.length_map];omega) (Nat.le_refl _);simp only[Nat.zero_add,List.length_map,List.filter_map,Int.natCast_zero] at this;rw[this]
 congr 3
theorem aB9{s:Ship}(hv:Vd s){h:Nat}(hh:h<s.holds.length)(m:Int)(c2:Bool)(h0:0<=m)(h1:m<=80):yF s s.holds[h] (crs s ⟨h,m,c2⟩)=keptOf s h (marksAt s h m c2):=by
 have hnh:=hv.nheat
 have hfr:=hv.frm;simp only[yF,keptOf,List.getElem?_eq_getElem hh];rw[Bool.eq_iff_iff,List.all_eq_true,List.all_eq_true];simp only[List.mem_range,bP];have key:∀ w:Nat,w<=s.heat.length->okW s.holds[h] (crs s ⟨h,m,c2⟩) w=inR (marksAt s h m c2 w) s.holds[h].keep.lo s.holds[h].keep.hi:=by
  intro w hw;have hc:crs s ⟨h,m,c2⟩ w=marksAt s h m c2 w:=by simp only[crs,Int.toNat_natCast];rw[Nat.min_eq_left hw]
  have hb:=tN hv (h:=h) ⟨h0,h1⟩ c2 w hw;simp only[okW,hc];by_cases hk:s.holds[h].keep.lo=0/\s.holds[h].keep.hi=80
  ·rw[hk.1,hk.2];have:inR (marksAt s h m c2 w) 0 80=true:=cG.2 ⟨hb.1,hb.2⟩;simp[this]
  ·have:(s.holds[h].keep.lo==0&&s.holds[h].keep.hi==80)=false:=by
    rw[Bool.eq_false_iff];intro h;apply hk;simpa using h
   rw[this,Bool.false_or]
 constructor
 ·intro hall w hw;have hwn:w.toNat<=s.heat.length:=by omega
  have:=hall w.toNat (by omega);rw[key _ hwn] at this;have e1:decide (s.frm<=((w.toNat:Nat):Int))=true:=by simp;omega
  have e2:decide (w.toNat<=s.heat.length)=true:=by simp;omega
  rw[e1,e2] at this;simpa using this
 ·intro hall w hw;by_cases h2:s.frm<=(w:Int)/\w<=s.heat.length
  ·have:=hall (w:Int) (by omega);simp only[Int.toNat_natCast] at this;rw[key w h2.2,this];simp
  ·have:(decide (s.frm<=(w:Int))&&decide (w<=s.heat.length))=false:=by
    rw[Bool.eq_false_iff];intro h;apply h2;simpa using h
   rw[this];rfl
theorem zQ{s:Ship}(hv:Vd s)(bl:List Int)(c:Nat)(hc:c<1000000)(h:Nat)(hh:h<s.holds.length):E6 (yL s s.holds[h] bl c h)=keepsIn s (truths s bl) h (lst s.holds.length c):=by
 have:=ET hv bl c hc h hh (fun w=>yF s s.holds[h] (crs s w)) (keptOf s h) (fun m c2 h0 h1=>aB9 hv hh m c2 h0 h1);simp only[yL,xO];rw[this,AS];rfl
theorem xU(n:Nat):lst n 0=[]:=by
 simp only[lst,List.filter_eq_nil_iff];intro x _;simp
end Go.Am.Room.Ho
namespace Go.Am.Room.Ho
def v9(x:List Int×Int):AV:=.tuple [ints x.1,.int .i64 x.2]
def encIE(x:Int×Int):AV:=.tuple [.int .i64 x.1,.int .i64 x.2]
def uL(x:List Int×List Int×Int):AV:=.tuple [ints x.1,ints x.2.1,.int .i64 x.2.2]
end Go.Am.Room.Ho
namespace Go.Am.Room.Ho
def fE:=zz @encShip_eq (zz @aL (zz @encHold_eq (zz @aW (zz @aK (zz @bF (zz @bE (zz @List.length_append.{0} (zz @dA (zz @kO (zz @Nat.add_lt_add_iff_left (zz @Nat.lt_add_right_iff_pos (zz @Nat.mul_one (@Int.toNat_natCast)))))))))))))
theorem uS(s:Ship)(M:bQ)(k:Nat):aU k (.map (gV s M))=True:=eq_true (ShipAt.memo_ok s M k)
theorem EL(s:Ship)(b c:Nat){m k:Nat}(h:m<k):aU k (.cells (sb s b c m))=True:=eq_true (aGV s b c h)
theorem IT(e:Int):gG 0 0 e=e:=by
 unfold gG;split
 ·rename_i h;rw[if_pos (by decide)];exact h.symm
 ·rfl
theorem K6(s:Ship)(n:Int):mJ s n 0 0=keepsErr s n:=by rw[mJ,IT];rfl
theorem aS0{s:Ship}:errAsk s 0=(check s).2.2:=by
 unfold errAsk;split
 ·rename_i h;have:=(vd_of_check h).nholds;rw[if_pos (cG.2 ⟨by omega,by omega⟩)];exact h.symm
 ·rfl
theorem uK(s:Ship):mJ s 0 0 0=fK s:=by rw[mJ,IT,aS0];rfl
theorem pkeeps_ok(s:Ship)(n:Int)(hf:Fits s):cZ T 33 [encShip s,.int .i64 n] (encIE (keepsOf s n)):=by
 refine aX (af:=a33) rfl (by simp[a33]) dd ?_;try simp only[↓QA,QB,seval,fE,a33]
 refine bR (k8 _ s n 0 0 hf) ?_;simp only[fQ,jH,K6];by_cases h0:keepsErr s n=0
 ·obtain⟨ha,hne⟩:=kV h0;obtain⟨hv,hn0,hn1⟩:=AE ha;obtain⟨N,rfl⟩:∃ N:Nat,n=N:=⟨n.toNat,by omega⟩;have hm:keepsOf s N=(keepsIn s (truths s []) N [],0):=by rw[keepsOf,if_pos h0,Int.toNat_natCast]
  have hN:N<s.holds.length:=by omega
  have hk:=wT (rS [.cells (shipCells s)] s 0) hv [] NX (by omega) N hN (y4 s);rw[zQ hv [] 0 (by omega) N hN,xU] at hk;rw[if_pos h0,if_pos h0,hm];simp only[j7] at hk ⊢;try simp only[↓QA,QB,seval,fE] at hk
  try simp only[↓QA,QB,seval,fE,show ((0:Int)==0)=true from rfl]
  refine bR hk ?_;try simp only[↓QA,QB,seval,fE,encIE]
 ·have h0':(keepsErr s n==0)=false:=by simpa using h0
  have hm:keepsOf s n=(0,keepsErr s n):=by rw[keepsOf,if_neg h0]
  rw[if_neg h0,if_neg h0,hm];try simp only[↓QA,QB,seval,fE,h0',encIE]
theorem EK(s:Ship)(hf:Fits s):cZ T 127 [encShip s] (uL (qJ s)):=by
 refine aX (af:=XQ) rfl (by simp[XQ]) dd ?_;try simp only[↓QA,QB,seval,fE,XQ]
 refine bR (k8 _ s 0 0 0 hf) ?_;simp only[fQ,jH,uK];by_cases h0:fK s=0
 ·obtain⟨ha,hne⟩:=kV h0;have hv:=vd_of_check ha;have hno:=hv.nholds;obtain⟨l,hle⟩:∃ l,truths s []=l:=⟨_,rfl⟩;obtain⟨p,hp⟩:∃ p:Int->Bool,(fun h=>decide (keepsIn s l h.toNat []=2))=p:=⟨_,rfl⟩;obtain⟨q,hq⟩:∃ q:Int->Bool,(fun h=>decide (keepsIn s l h.toNat []≠1))=q:=⟨_,rfl⟩;obtain⟨A,hA⟩:∃ A,(aS 0 s.holds.length).filter p=A:=⟨_,rfl⟩;obtain⟨B,hB⟩:∃ B,(aS 0 s.holds.length).filter q=B:=⟨_,rfl⟩;have hm:qJ s=(A,B,0):=by rw[qJ,if_pos h0,hle,<-hA,<-hB,<-hp,<-hq]
  rw[if_pos h0,if_pos h0,hm];simp only[j7];try simp only[↓QA,QB,seval,fE,show ((0:Int)==0)=true from rfl]
  refine rY 2 1 [] rfl ?_;refine rY 3 1 [] rfl ?_;refine dQ (S:=Nat×(List Int×Bool)×(List Int×Bool)×bQ) (0,([],false),([],false),y4 s) (fun a=>a.1<=s.holds.length/\a.2.1.1.length<=a.1/\a.2.2.1.1.length<=a.1/\a.2.1.1++(aS a.1 (s.holds.length-a.1)).filter p=A/\a.2.2.1.1++(aS a.1 (s.holds.length-a.1)).filter q=B) (fun a=>s.holds.length-a.1)
   (fun a=>[(2,.lit (a.2.1.1.map (.int .i64)) false (some 5)),(3,.lit (a.2.2.1.1.map (.int .i64)) false (some 6)),(4,.int .i64 0),(5,.ptr 4 0),(18,.int .i64 s.holds.length),(19,.int .i64 a.1)])
   (fun a=>[.cells (shipCells s),.cells (shipCells s),.cells (shipCells s),.map (gV s a.2.2.2),.cells (sb s 0 0 3),.tok 1 a.2.1.1.length a.2.1.2,.tok 1 a.2.2.1.1.length a.2.2.1.2]) ⟨Nat.zero_le _,Nat.le_refl _,Nat.le_refl _,by simpa using hA,by simpa using hB⟩ (by simp[shipCells,ints]) ?_ fun a ha=>?_
  ·try simp only[aB,QE,seval,fE]
   try simp
  ·obtain⟨h,⟨sure,ex1⟩,⟨may,ex2⟩,M⟩:=a;obtain⟨hh,hsl,hml,hs,hq2⟩:=ha;simp only at hh hsl hml hs hq2;try simp only[↓QA,QB,seval,fE,ZI]
   refine aJ (fun hd=>?_) fun hd=>?_
   ·have hh1:h<s.holds.length:=by simpa using hd
    have hw:=dB hh1 (by omega);rw[show s.holds.length-h=(s.holds.length-(h+1))+1 by omega] at hs hq2;simp only[aS,List.filter_cons] at hs hq2;obtain⟨v,hve⟩:∃ v,keepsIn s l h []=v:=⟨_,rfl⟩;have hk:=wT ((rS [.cells (shipCells s)] s 0).app [.tok 1 sure.length ex1,.tok 1 may.length ex2]) hv [] NX (by omega) h hh1 M;obtain⟨M2,hM2⟩:∃ M2,qN s s.holds[h] [] 0 h M=M2:=⟨_,rfl⟩;rw[zQ hv [] 0 (by omega) h hh1,xU,hle,hve,hM2] at hk;simp only[j7] at hk;try simp only[↓QA,QB,seval,fE] at hk
    have hpv:p (h:Int)=(v==2):=by rw[<-hp,<-hve];simp only[Int.toNat_natCast];rw[Bool.eq_iff_iff];simp
    have hqv:q (h:Int) = !(v==1):=by rw[<-hq,<-hve];simp only[Int.toNat_natCast];rw[Bool.eq_iff_iff];simp
    rw[hpv] at hs;rw[hqv] at hq2;have ap1:=fun (b0 b1 b2 b3 b4:ABlk) (τ:St)=>j8 (σ:=b0::b1::b2::b3::b4::.tok 1 sure.length ex1::τ) (t:=5) (ex:=ex1) (sz:=1) (b:=8) (xs:=sure.map (.int .i64)) (ys:=[.int .i64 h]) (f:=true) (tk:=none) ⟨iU sure,by simp[aI,AV.cells,AV.cell],by simp[room];omega,by simp[room];omega⟩ (by simp) sure.length (by simp) rfl
    have ap2:=fun (b0 b1 b2 b3 b4 b5:ABlk) (τ:St)=>j8 (σ:=b0::b1::b2::b3::b4::b5::.tok 1 may.length ex2::τ) (t:=6) (ex:=ex2) (sz:=1) (b:=8) (xs:=may.map (.int .i64)) (ys:=[.int .i64 h]) (f:=true) (tk:=none) ⟨iU may,by simp[aI,AV.cells,AV.cell],by simp[room];omega,by simp[room];omega⟩ (by simp) may.length (by simp) rfl
    try simp only[↓QA,QB,seval,fE]
    refine bR hk ?_;cases h2:(v==2)
    ·rw[h2] at hs;cases h1:(v==1)
     ·rw[h1] at hq2;try simp only[↓QA,QB,seval,fE,h1,h2,ap2]
      refine⟨(h+1,(sure,ex1),(may++[(h:Int)],true),M2),⟨by simp only;omega,by simp only;omega,by simp only[List.length_append,List.length_cons,List.length_nil];omega,by simpa using hs,by simpa using hq2⟩,by simp only;omega,?_⟩;try simp only[aB,QE,seval,fE,hw,uS,EL,List.map_append,List.map_cons,List.map_nil,List.length_append]
      try simp[aU]
     ·rw[h1] at hq2;try simp only[↓QA,QB,seval,fE,h1,h2]
      refine⟨(h+1,(sure,ex1),(may,ex2),M2),⟨by simp only;omega,by simp only;omega,by simp only;omega,by simpa using hs,by simpa using hq2⟩,by simp only;omega,?_⟩;try simp only[aB,QE,seval,fE,hw,uS,EL]
      try simp[aU]
    ·rw[h2] at hs;have h1:(v==1)=false:=by rw[beq_iff_eq] at h2;rw[h2];rfl
     rw[h1] at hq2;try simp only[↓QA,QB,seval,fE,h1,h2,ap1,ap2]
     refine⟨(h+1,(sure++[(h:Int)],true),(may++[(h:Int)],true),M2),⟨by simp only;omega,by simp only[List.length_append,List.length_cons,List.length_nil];omega,by simp only[List.length_append,List.length_cons,List.length_nil];omega,by simpa using hs,by simpa using hq2⟩,by simp only;omega,?_⟩;try simp only[aB,QE,seval,fE,hw,uS,EL,List.map_append,List.map_cons,List.map_nil,List.length_append]
     try simp[aU]
   ·have hh1:h=s.holds.length:=by simp at hd;omega
    rw[hh1,Nat.sub_self] at hs hq2;simp only[aS,List.filter_nil,List.append_nil] at hs hq2;subst hs;subst hq2;try simp only[↓QA,QB,seval,fE,uL]
    try try simp only[QS,QC,seval,fE]
 ·have h0':(fK s==0)=false:=by simpa using h0
  have hm:qJ s=([],[],fK s):=by rw[qJ,if_neg h0]
  rw[if_neg h0,if_neg h0,hm];try simp only[↓QA,QB,seval,fE,h0',uL]
  try rfl
end Go.Am.Room.Ho
namespace Go.Am.Room.Ho
def pB:=zz @encShip_eq (zz @aL (zz @encHold_eq (zz @aW (zz @aK (zz @l0 (zz @bF (zz @bE (zz @List.length_append.{0} (zz @BR (zz @BJ (zz @BF (zz @BQ (zz @BM (zz @BW (zz @BV (zz @BS (zz @BL (zz @BK (zz @dA (zz @kO (zz @Nat.add_lt_add_iff_left (zz @Nat.lt_add_right_iff_pos (zz @Nat.mul_one (zz @Int.toNat_natCast (zz @jD (zz @jA (zz @sL (zz @rE (zz @qV (zz @qL (zz @qI (zz @iI (zz @L8 (zz @IN (@fD)))))))))))))))))))))))))))))))))))
theorem lM(t:Span×Bool):jN t=[.int .i64 t.1.lo,.int .i64 t.1.hi,.bool t.2]:=by simp only[jN]
theorem DO:∀ (xs:List Int) (sp:Span),xs.foldl eY (sp,true)=(xs.foldl kF sp,true)
 |[],sp=>rfl
 |x::xs,sp=>by simp only[List.foldl_cons,eY,if_true];exact DO xs _
theorem AN(xs:List Int):(xs.foldl eY (⟨0,0⟩,false)).1=kH xs:=by
 cases xs with
 |nil=>rfl
 |cons x xs=>simp only[List.foldl_cons,eY,Bool.false_eq_true,if_false,SQ,DO,kH]
def wR(s:Ship)(h W:Nat)(t:TV)(a:Span×Bool):(Span×Bool)×Bool:=((tH t h).foldl (fun a w=>eY a (crs s w W)) a,true)
def wD(a:Span×Bool):St:=[.cells (jN a)]
theorem OH{S:bQ->St}{s:Ship}{b c p m N:Nat}(hR:ShipAt S s b c p m N)(hv:Vd s)(h:Nat)(hh:h<s.holds.length)(W:Nat)(hW:W<7)(i4 i5:Nat)(h4:∀ M τ,aE (S M++τ) i4=some [.int .i64 h])(h5:∀ M τ,aE (S M++τ) i5=some [.int .i64 W])(l4:i4<N)(l5:i5<N)(t:TV)(ht:OO s t)(fl:Bool)(tk:Option Nat)(x:Span×Bool)(M:bQ)(lp:ABlk)(τ:St)(e:Env)(G:Option AJump->St->Prop)(e4:Env.get e 4 = .ptr i4 0)(e5:Env.get e 5 = .ptr i5 0)(e10:Env.get e 10 = .ptr N 0)(e12:Env.get e 12 = .lit (t.2.map (fS s)) fl tk)(R:(Span×Bool)×Bool)(hRr:wR s h W t x=R):
  wp T MN e (S M++(wD x++(.cells [.ptr p 0]::lp::τ))) (fun j e'' σ''=>(R.2=true/\j=none/\∃ τ',σ''=S M++(wD R.1++(.cells [.ptr p 0]::lp::(τ++τ'))))\/G j σ''):=by
 obtain⟨hl,hwl⟩:=ht;have hht:h<t.2.length:=by omega
 obtain⟨ws,hws⟩:∃ ws,t.2[h]=ws:=⟨_,rfl⟩;have hw81:=hwl _ (List.getElem_mem hht);rw[hws] at hw81;obtain⟨g,hg⟩:∃ g:Span×Bool->Way->Span×Bool,(fun a w=>eY a (crs s w W))=g:=⟨_,rfl⟩;have hR1:R=(ws.foldl g x,true):=by
  rw[<-hRr,<-hg,<-hws];simp only[wR,tH,List.getElem?_eq_getElem hht,Option.getD_some]
 obtain⟨Y,hY⟩:∃ Y,ws.foldl g x=Y:=⟨_,rfl⟩;rw[hY] at hR1;subst hR1;simp only[wD]
 (repeat (first|simp only[↓QA,QB,reduceLT,reduceIte,reduceEqDiff,reduceAdd,reduceLeDiff,reduceMul,Nat.reduceBEq,pB,hR.len,hR.base,hR.base0,hR.bset,hR.bset0,hR.at1,hR.at0,lM,MN,e4,e5,e10,e12,hht,hws,h4]|refine rd0 rfl ?_))
 refine dQ (S:=Nat×Span×Bool) (0,x) (fun a=>a.1<=ws.length/\(ws.drop a.1).foldl g a.2=Y) (fun a=>ws.length-a.1)
  (fun a=>[(5,.ptr i5 0),(10,.ptr N 0),(36,fS s ws),(37,.int .i64 ws.length),(38,.int .i64 a.1)])
  (fun a=>S M++(.cells (jN a.2)::.cells [.ptr p 0]::lp::τ)) ⟨Nat.zero_le _,by simpa using hY⟩ (by simp[jN]) ?_ fun a ha=>?_
 ·try simp only[aB,QE,reduceLT,reduceIte,reduceEqDiff,reduceAdd,reduceLeDiff,reduceMul,Nat.reduceBEq,pB,hR.len,hR.base,hR.base0,hR.bset,hR.bset0,hR.at1,hR.at0,lM,e4,e5,e10]
  try simp
 ·obtain⟨i,x⟩:=a;obtain⟨hi,hq⟩:=ha;simp only at hi hq
  (repeat (first|simp only[↓QA,QB,reduceLT,reduceIte,reduceEqDiff,reduceAdd,reduceLeDiff,reduceMul,Nat.reduceBEq,pB,hR.len,hR.base,hR.base0,hR.bset,hR.bset0,hR.at1,hR.at0,lM,VM]|refine rd0 rfl ?_))
  refine aJ (fun hd=>?_) fun hd=>?_
  ·have hi1:i<ws.length:=by simpa using hd
   have hw:=dB hi1 (by omega);rw[List.drop_eq_getElem_cons hi1,List.foldl_cons] at hq;have hsa:=fun v υ=>LW (S M++(.cells (jN x)::.cells [.ptr p 0]::lp::υ)) N x v (by rw[hR.base0];rfl)
   have hgv:g x ws[i]=eY x (crs s ws[i] W):=by rw[<-hg]
   rw[hgv] at hq;have i1:(0:Int)<=(W:Int)/\(W:Int)<((7:Nat):Int):=⟨by omega,by omega⟩;have hga:=yD (crs s ws[i]) W hW;try simp only[↓QA,QB,reduceLT,reduceIte,reduceEqDiff,reduceAdd,reduceLeDiff,reduceMul,Nat.reduceBEq,pB,hR.len,hR.base,hR.base0,hR.bset,hR.bset0,hR.at1,hR.at0,lM] at hsa
   (repeat (first|simp only[↓QA,QB,reduceLT,reduceIte,reduceEqDiff,reduceAdd,reduceLeDiff,reduceMul,Nat.reduceBEq,pB,hR.len,hR.base,hR.base0,hR.bset,hR.bset0,hR.at1,hR.at0,lM,hi1,<-n4,h5,i1,hga]|refine rd0 rfl ?_))
   refine bR (hsa _ _) ?_
   (repeat (first|simp only[↓QA,QB,reduceLT,reduceIte,reduceEqDiff,reduceAdd,reduceLeDiff,reduceMul,Nat.reduceBEq,pB,hR.len,hR.base,hR.base0,hR.bset,hR.bset0,hR.at1,hR.at0,lM,hw]|refine rd0 rfl ?_))
   refine⟨(i+1,eY x (crs s ws[i] W)),⟨by simp only;omega,hq⟩,by simp only;omega,?_⟩;try simp only[aB,QE,reduceLT,reduceIte,reduceEqDiff,reduceAdd,reduceLeDiff,reduceMul,Nat.reduceBEq,pB,hR.len,hR.base,hR.base0,hR.bset,hR.bset0,hR.at1,hR.at0,lM,hw]
   try simp[aU,okVs,okV]
   try omega
  ·have hi1:i=ws.length:=by simp at hd;omega
   rw[hi1,List.drop_length] at hq;simp only[List.foldl_nil] at hq;subst hq
   (repeat (first|simp only[↓QA,QB,reduceLT,reduceIte,reduceEqDiff,reduceAdd,reduceLeDiff,reduceMul,Nat.reduceBEq,pB,hR.len,hR.base,hR.base0,hR.bset,hR.bset0,hR.at1,hR.at0,lM]|refine rd0 rfl ?_))
   exact .inl ⟨[],by simp⟩
end Go.Am.Room.Ho
namespace Go.Am.Room.Ho
def pN:=zz @encShip_eq (zz @aL (zz @encHold_eq (zz @aW (zz @aK (zz @l0 (zz @bF (zz @bE (zz @List.length_append.{0} (zz @dA (zz @kO (zz @Nat.add_lt_add_iff_left (zz @Nat.lt_add_right_iff_pos (zz @Nat.mul_one (zz @Int.toNat_natCast (zz @jD (@jA))))))))))))))))
def yV(s:Ship)(bl:List Int)(c h W:Nat):Span×Bool:=(TL s bl c).foldl (fun a t=>(wR s h W t a).1) (⟨0,0⟩,false)
theorem S6{s:Ship}(hv:Vd s)(h:Nat)(hh:h<s.holds.length)(W:Nat)(hW:W<=s.heat.length):(yV s [] 0 h W).1=kH ((cR s (truths s []) h []).map fun c=>c W):=by
 have hwc:=sM hv [] 0 (by omega) h hh (fun w=>crs s w W) (fun c=>c W) (fun m c2 _ _=>by simp only[crs,Int.toNat_natCast];rw[Nat.min_eq_left hW]);rw[xU] at hwc;simp only[yV,wR];rw[u4,<-List.foldl_map (f:=fun w=>crs s w W) (g:=eY),hwc];exact AN _
theorem uZ(s:Ship)(n w:Int)(hf:Fits s):cZ T 124 [encShip s,.int .i64 n,.int .i64 w] (KT (rN s n w)):=by
 refine aX (af:=TY) rfl (by simp[TY]) dd ?_;try simp only[↓QA,QB,seval,pN,TY]
 refine bR (k8 _ s n w s.heat.length hf) ?_;have hE:mJ s n w s.heat.length=qX s n w:=rfl;simp only[fQ,jH,hE];by_cases h0:qX s n w=0
 ·obtain⟨hw,hne⟩:=kV h0;obtain⟨ha,hw0,hw1⟩:=xD hw;obtain⟨hv,hn0,hn1⟩:=AE ha;have hnh:=hv.nheat
  obtain⟨N,rfl⟩:∃ N:Nat,n=N:=⟨n.toNat,by omega⟩;obtain⟨W,rfl⟩:∃ W:Nat,w=W:=⟨w.toNat,by omega⟩;have hN:N<s.holds.length:=by omega
  have hW:W<=s.heat.length:=by omega
  have hlaw:=S6 hv N hN W hW;have hm:rN s N W=((yV s [] 0 N W).1,0):=by rw[rN,if_pos h0,Int.toNat_natCast,Int.toNat_natCast,hlaw]
  obtain⟨Y,hY⟩:∃ Y,yV s [] 0 N W=Y:=⟨_,rfl⟩;have hgoY:aV (wR s N W) (TL s [] 0) (⟨0,0⟩,false)=(Y,true):=by rw[uU (fun _ _=>rfl),<-hY];rfl
  rw[if_pos h0,if_pos h0,hm,hY];have hR:=rS [.cells (shipCells s),.cells [.int .i64 N],.cells [.int .i64 W],.cells [.int .i64 0,.int .i64 0]] s 0;have hrng:=gM hR hv [] NX (by omega) wD wD 1 (fun _=>rfl) (fun _=>rfl)
   (fun x y hy k _=>by simp only[wD,List.mem_cons,List.not_mem_nil,or_false] at hy;subst hy;simp[aU,okVs,okV,jN]) (fun x y hy k _=>by simp only[wD,List.mem_cons,List.not_mem_nil,or_false] at hy;subst hy;simp[aU,okVs,okV,jN])
   .ret (P:=OO s) (f:=wR s N W)
  simp only[j7] at hrng ⊢;simp only[aL] at hrng;try simp only[↓QA,QB,seval,pN,show ((0:Int)==0)=true from rfl]
  refine m6 rfl (by simp[BO]) ?_;try simp only[↓QA,QB,seval,pN,BO]
  refine hrng _ 30 [31,32] _ _ ?_ ?_ (aAF hv [] 0) (⟨0,0⟩,false) (y4 s) _ ?_ ?_
  ·try simp only[aB,QE,seval,pN]
  ·refine rC hR wD wD 1 (fun _=>rfl) (fun _=>rfl) .ret _ _ rfl _ _ ?_;intro t ht fl tk x M' τ;simp only[iS];try simp only[↓QA,QB,seval,pN]
   obtain⟨R,hRr⟩:∃ R,wR s N W t x=R:=⟨_,rfl⟩;rw[hRr];refine OH hR hv N hN W (by omega) 1 2 (fun M τ=>by simp[j7,aE]) (fun M τ=>by simp[j7,aE]) (by simp) (by simp) t ht fl tk x M' _ τ _ _ ?_ ?_ ?_ ?_ R hRr;all_goals try simp only[aB,QE,seval,pN]
  ·intro τ h2;rw[hgoY];simp only[wD,jN];try simp only[↓QA,QB,seval,pN,KT]
  ·intro τ h2;rw[hgoY] at h2;cases h2
 ·have h0':(qX s n w==0)=false:=by simpa using h0
  have hm:rN s n w=(⟨0,0⟩,qX s n w):=by rw[rN,if_neg h0]
  rw[if_neg h0,if_neg h0,hm];try simp only[↓QA,QB,seval,pN,h0',KT]
end Go.Am.Room.Ho
namespace Go.Am.Room.Ho
def kP:=zz @encShip_eq (zz @aL (zz @encHold_eq (zz @aW (zz @aK (zz @l0 (zz @bF (zz @bE (zz @List.length_append.{0} (zz @BR (zz @BJ (zz @BF (zz @BQ (zz @BM (zz @BW (zz @BV (zz @BS (zz @BL (zz @BK (zz @dA (zz @kO (zz @Nat.add_lt_add_iff_left (zz @Nat.lt_add_right_iff_pos (zz @Nat.mul_one (zz @Int.toNat_natCast (zz @jD (zz @jA (zz @sL (zz @rE (zz @qV (zz @qL (zz @qI (zz @iI (zz @L8 (zz @IN (zz @fD (zz @lM (@cX)))))))))))))))))))))))))))))))))))))
theorem aNF(i k:Nat)(h:k<=7):B8 7 1 (.ptr i 0) none (some (.int .i64 (k:Int)))=some (.ref i 0 k 1):=by
 simp[B8,qD,eZ];omega
def i8(a:(Span×Bool)×(Int×Int))(v:Int):(Span×Bool)×(Int×Int):=(if 0<=v then eY a.1 v else a.1,dL a.2 (decide (0<=v)))
def K9(s:Ship)(mo:Int)(f:Nat->Int):Int:=fW (fun n=>decide (n<=mo)) ((List.range (s.heat.length+1)).map f) 0
def wM(s:Ship)(h:Nat)(mo:Int)(t:TV)(a:(Span×Bool)×(Int×Int)):((Span×Bool)×(Int×Int))×Bool:=((tH t h).foldl (fun a w=>i8 a (K9 s mo (crs s w))) a,true)
def pU(a:(Span×Bool)×(Int×Int)):St:=[.cells (jN a.1),.cells (fY a.2)]
theorem NU{S:bQ->St}{s:Ship}{b c p m N:Nat}(hR:ShipAt S s b c p m N)(hv:Vd s)(h:Nat)(hh:h<s.holds.length)(mo:Int)(i3 i4 i5:Nat)(h3:∀ M τ,aE (S M++τ) i3=some (shipCells s))(h4:∀ M τ,aE (S M++τ) i4=some [.int .i64 h])(h5:∀ M τ,aE (S M++τ) i5=some [.int .i64 mo])(l3:i3<N)(l4:i4<N)(l5:i5<N)(t:TV)(ht:OO s t)(fl:Bool)(tk:Option Nat)(x:(Span×Bool)×(Int×Int))(M:bQ)(lp:ABlk)(τ:St)(e:Env)(G:Option AJump->St->Prop)(hix:∀ (σ:St) (i:Nat) (f:Nat->Int),aE σ i=some (gT f)->aE σ i5=some [.int .i64 mo]->gB T (.func 257 [] []) [.ref i 0 (s.heat.length+1) 1,.func 258 [] [.ptr i5 0]] σ (.int .i64 (K9 s mo f)))(e3:Env.get e 3 = .ptr i3 0)(e4:Env.get e 4 = .ptr i4 0)(e5:Env.get e 5 = .ptr i5 0)(e10:Env.get e 10 = .ptr N 0)(e11:Env.get e 11 = .ptr (N+1) 0)(e13:Env.get e 13 = .lit (t.2.map (fS s)) fl tk)(R:((Span×Bool)×(Int×Int))×Bool)(hRr:wM s h mo t x=R):
  wp T MC e (S M++(pU x++(.cells [.ptr p 0]::lp::τ))) (fun j e'' σ''=>(R.2=true/\j=none/\∃ τ',σ''=S M++(pU R.1++(.cells [.ptr p 0]::lp::(τ++τ'))))\/G j σ''):=by
 obtain⟨hl,hwl⟩:=ht;have hnh:=hv.nheat
 have hht:h<t.2.length:=by omega
 obtain⟨ws,hws⟩:∃ ws,t.2[h]=ws:=⟨_,rfl⟩;have hw81:=hwl _ (List.getElem_mem hht);rw[hws] at hw81;obtain⟨g,hg⟩:∃ g:(Span×Bool)×(Int×Int)->Way->(Span×Bool)×(Int×Int),(fun a w=>i8 a (K9 s mo (crs s w)))=g:=⟨_,rfl⟩;have hR1:R=(ws.foldl g x,true):=by
  rw[<-hRr,<-hg,<-hws];simp only[wM,tH,List.getElem?_eq_getElem hht,Option.getD_some]
 obtain⟨Y,hY⟩:∃ Y,ws.foldl g x=Y:=⟨_,rfl⟩;rw[hY] at hR1;subst hR1;simp only[aL] at h3;have hsl:=fun i=>aNF i (s.heat.length+1) (by omega)
 have hwh:IntKind.i64.wrap ((s.heat.length:Int)+1)=((s.heat.length+1:Nat):Int):=by rw[bD ⟨by omega,by omega⟩];omega
 simp only[pU];try simp only[↓QA,QB,seval,kP,hR.len,hR.base,hR.base0,hR.bset,hR.bset0,hR.at1,hR.at0,MC,e3,e4,e5,e10,e11,e13,hht,hws,h4]
 refine dQ (S:=Nat×(Span×Bool)×(Int×Int)) (0,x) (fun a=>a.1<=ws.length/\(ws.drop a.1).foldl g a.2=Y) (fun a=>ws.length-a.1)
  (fun a=>[(3,.ptr i3 0),(5,.ptr i5 0),(10,.ptr N 0),(11,.ptr (N+1) 0),(35,fS s ws),(36,.int .i64 ws.length),(37,.int .i64 a.1)])
  (fun a=>S M++(.cells (jN a.2.1)::.cells (fY a.2.2)::.cells [.ptr p 0]::lp::τ)) ⟨Nat.zero_le _,by simpa using hY⟩ (by simp[jN,fY]) ?_ fun a ha=>?_
 ·try simp only[aB,QE,seval,kP,hR.len,hR.base,hR.base0,hR.bset,hR.bset0,hR.at1,hR.at0,e3,e4,e5,e10,e11]
  try simp
 ·obtain⟨i,sp,ta⟩:=a;obtain⟨hi,hq⟩:=ha;simp only at hi hq;try simp only[↓QA,QB,seval,kP,hR.len,hR.base,hR.base0,hR.bset,hR.bset0,hR.at1,hR.at0,T9]
  refine aJ (fun hd=>?_) fun hd=>?_
  ·have hi1:i<ws.length:=by simpa using hd
   have hw:=dB hi1 (by omega);rw[List.drop_eq_getElem_cons hi1,List.foldl_cons] at hq;obtain⟨v,hve⟩:∃ v,K9 s mo (crs s ws[i])=v:=⟨_,rfl⟩;have hgv:g (sp,ta) ws[i]=i8 (sp,ta) v:=by rw[<-hg,<-hve]
   rw[hgv] at hq;have hid:=hix (S M++(.cells (jN sp)::.cells (fY ta)::.cells [.ptr p 0]::lp::(τ++[.cells (gT (crs s ws[i]))]))) (N+(τ.length+4)) (crs s ws[i]) (by rw[hR.base];simp[aE]) (h5 M _);rw[hve] at hid;have hta:=fun bb υ=>FA (S M++(.cells (jN sp)::.cells (fY ta)::.cells [.ptr p 0]::lp::υ)) (N+1) ta bb (by rw[hR.base];rfl)
   have hsa:=fun v tb υ=>LW (S M++(.cells (jN sp)::.cells (fY tb)::.cells [.ptr p 0]::lp::υ)) N sp v (by rw[hR.base0];rfl)
   try simp only[↓QA,QB,seval,kP,hR.len,hR.base,hR.base0,hR.bset,hR.bset0,hR.at1,hR.at0] at hta hsa hid
   try simp only[↓QA,QB,seval,kP,hR.len,hR.base,hR.base0,hR.bset,hR.bset0,hR.at1,hR.at0,hi1,<-n4,h3,h5,hwh,hsl]
   refine bJ hid ?_;try simp only[↓QA,QB,seval,kP,hR.len,hR.base,hR.base0,hR.bset,hR.bset0,hR.at1,hR.at0]
   refine bR (hta _ _) ?_;cases h2:decide (0<=v)
   ·have h2':¬0<=v:=by simpa using h2
    have hst:i8 (sp,ta) v=(sp,dL ta false):=by simp[i8,h2']
    rw[hst] at hq;try simp only[↓QA,QB,seval,kP,hR.len,hR.base,hR.base0,hR.bset,hR.bset0,hR.at1,hR.at0,h2,hw]
    refine⟨(i+1,sp,dL ta false),⟨by simp only;omega,hq⟩,by simp only;omega,?_⟩;try simp only[aB,QE,seval,kP,hR.len,hR.base,hR.base0,hR.bset,hR.bset0,hR.at1,hR.at0,hw]
    try simp[aU,okVs,okV]
    try omega
   ·have h2':0<=v:=by simpa using h2
    have hst:i8 (sp,ta) v=(eY sp v,dL ta true):=by simp[i8,h2']
    rw[hst] at hq;have hsa2:=hsa v (dL ta true);try simp only[↓QA,QB,seval,kP,hR.len,hR.base,hR.base0,hR.bset,hR.bset0,hR.at1,hR.at0,h2,hw]
    refine bR (hsa2 _) ?_;try simp only[↓QA,QB,seval,kP,hR.len,hR.base,hR.base0,hR.bset,hR.bset0,hR.at1,hR.at0,hw]
    refine⟨(i+1,eY sp v,dL ta true),⟨by simp only;omega,hq⟩,by simp only;omega,?_⟩;try simp only[aB,QE,seval,kP,hR.len,hR.base,hR.base0,hR.bset,hR.bset0,hR.at1,hR.at0,hw]
    try simp[aU,okVs,okV]
    try omega
  ·have hi1:i=ws.length:=by simp at hd;omega
   rw[hi1,List.drop_length] at hq;simp only[List.foldl_nil] at hq;subst hq;try simp only[↓QA,QB,seval,kP,hR.len,hR.base,hR.base0,hR.bset,hR.bset0,hR.at1,hR.at0]
   exact .inl ⟨[],by simp⟩
end Go.Am.Room.Ho
namespace Go.Am.Room.Ho
def kL:=zz @List.length_append.{0} (zz @sL (zz @Nat.mul_one (zz @Int.toNat_natCast (@Nat.zero_add))))
theorem XR(p:Int->Bool)(g:Nat->Int)(K:Nat){k:Nat}(h:k<K):fW p (((List.range K).map g).drop k) k=if p (g k)=true then (k:Int) else fW p (((List.range K).map g).drop (k+1)) (k+1):=by
 rw[List.drop_eq_getElem_cons (by simpa using h)];simp only[fW,List.getElem_map,List.getElem_range]
theorem R3(σ:St)(f:AV)(id:Nat)(g:Nat->Int)(K:Nat)(hK:K<=7)(hc:aE σ id=some (gT g))(p:Int->Bool)(hk:n9 σ f)(h:∀ x,gB T f [.int .i64 x] σ (.bool (p x))):
  gB T (.func 257 [] []) [.ref id 0 K 1,f] σ (.int .i64 (fW p ((List.range K).map g) 0)):=by
 refine dM (af:=EI) rfl (by simp[EI]) ?_;have hk0:=hk.nil;have hid:=mT hc;have hrl:∀ d (τ:St),bN (σ++τ) σ.length d (.ref id 0 K 1)=some (.ref id 0 K 1):=fun d τ=>X6 hid
 have hrl0:∀ d,bN σ σ.length d (.ref id 0 K 1)=some (.ref id 0 K 1):=fun d=>X6 hid
 obtain⟨R,hR⟩:∃ R,fW p ((List.range K).map g) 0=R:=⟨_,rfl⟩;rw[hR];try simp only[↓QA,QB,seval,kL,EI]
 refine dQ (S:=Nat) 0 (fun k=>k<=K/\fW p (((List.range K).map g).drop k) k=R) (fun k=>K-k) (fun k=>[(0,.ref id 0 K 1),(1,f),(7,.int .i64 K),(8,.int .i64 k)]) (fun _=>σ) ⟨Nat.zero_le _,by simpa using hR⟩ rfl ?_ fun k hk1=>?_
 ·try simp only[aB,QE,seval,kL]
  try simp
 ·obtain⟨hkl,hi⟩:=hk1;try simp only[↓QA,QB,seval,kL,IP]
  refine aJ (fun hd=>?_) fun hd=>?_
  ·have hlt:k<K:=by simpa using hd
   rw[XR p g K hlt] at hi;have hw:=dB hlt (by omega);have i1:(0:Int)<=(k:Int)/\(k:Int)<((K:Nat):Int)/\1=1:=⟨by omega,by omega,rfl⟩;have hg:=yD g k (by omega);try simp only[↓QA,QB,seval,kL,i1,hc,hg]
   refine bJ (h (g k)) ?_;try simp only[↓QA,QB,seval,kL]
   cases hp:p (g k)
   ·rw[hp] at hi;try simp only[↓QA,QB,seval,kL,hw]
    refine⟨k+1,⟨by omega,by simpa using hi⟩,by omega,?_⟩;try simp only[aB,QE,seval,kL,hw,hk0,hrl,hrl0,Nat.le_refl]
   ·rw[hp] at hi;try simp only[↓QA,QB,seval,kL]
    refine cY [] (by first|rfl|simp) ?_;rw[<-hi];try simp only[QS,QC,seval,kL]
  ·have hlt:k=K:=by simp at hd;omega
   rw[hlt,List.drop_of_length_le (by simp)] at hi;simp only[fW] at hi;try simp only[↓QA,QB,seval,kL]
   refine cY [] (by first|rfl|simp) ?_;rw[<-hi];try simp only[QS,QC,seval,kL]
theorem FZ(mo:Int):∀ (l:List Int) (k:Nat),fW (fun n=>decide (n<=mo)) l k=qU mo l k
 |[],k=>rfl
 |x::xs,k=>by simp[fW,qU,FZ mo xs (k+1)]
theorem aB3(s:Ship)(hv:Vd s)(mo:Int)(i5:Nat)(σ:St)(i:Nat)(f:Nat->Int)(h1:aE σ i=some (gT f))(h5:aE σ i5=some [.int .i64 mo]):
  gB T (.func 257 [] []) [.ref i 0 (s.heat.length+1) 1,.func 258 [] [.ptr i5 0]] σ (.int .i64 (K9 s mo f)):=by
 have hnh:=hv.nheat
 have hl:=mT h5;exact R3 σ _ i f (s.heat.length+1) (by omega) h1 _ (fun τ=>by try simp only[QS,QC,seval,kL,hl]) fun x=>SY σ i5 mo x h5
def rI(s:Ship)(bl:List Int)(c h:Nat)(mo:Int):(Span×Bool)×(Int×Int):=(TL s bl c).foldl (fun a t=>(wM s h mo t a).1) ((⟨0,0⟩,false),(0,0))
theorem xB:∀ (xs:List Int) (a:Span×Bool) (b:Int×Int),xs.foldl i8 (a,b)=((xs.filter fun w=>decide (0<=w)).foldl eY a,(xs.map fun w=>decide (0<=w)).foldl dL b)
 |[],a,b=>rfl
 |x::xs,a,b=>by
  simp only[List.foldl_cons,i8,List.filter_cons,List.map_cons];by_cases h:0<=x
  ·simp only[h,if_true,decide_true,List.foldl_cons];exact xB xs _ _
  ·simp only[h,if_false,decide_false];exact xB xs _ _
theorem SZ{s:Ship}(hv:Vd s)(h:Nat)(hh:h<s.holds.length)(mo:Int):
  (rI s [] 0 h mo).1.1=kH (((cR s (truths s []) h []).map fun c=>rZ s c mo).filter fun w=>decide (0<=w)) /\
  E6 (rI s [] 0 h mo).2=eF (((cR s (truths s []) h []).map fun c=>rZ s c mo).filter fun w=>decide (0<=w)).length (cR s (truths s []) h []).length:=by
 have hwc:=sM hv [] 0 (by omega) h hh (fun w=>K9 s mo (crs s w)) (fun c=>rZ s c mo) (fun m c2 h0 h1=>by
  rw[K9,FZ];have:(List.range (s.heat.length+1)).map (crs s ⟨h,m,c2⟩)=(List.range (s.heat.length+1)).map (marksAt s h m c2):=by
   refine List.map_congr_left fun w hw=>?_
   have:=List.mem_range.1 hw;simp only[crs,Int.toNat_natCast];rw[Nat.min_eq_left (by omega)]
  rw[this]
  exact MX s _ mo)
 rw[xU] at hwc;have hl:=A1 hv [] h [];simp only[rI,wM];rw[u4,<-List.foldl_map (f:=fun w=>K9 s mo (crs s w)) (g:=i8),hwc,xB];refine⟨AN _,?_⟩;have:=sH (((cR s (truths s []) h []).map fun c=>rZ s c mo).map fun w=>decide (0<=w)) 0 0 (by rw[List.length_map,List.length_map];omega) (Nat.le_refl _);simp only[Nat.zero_add,Int.natCast_zero] at this;simp only;rw[this,AS,List.filter_map,List.length_map,List.length_map,List.length_map]
 congr 2
end Go.Am.Room.Ho
namespace Go.Am.Room.Ho
def nK:=zz @encShip_eq (zz @aL (zz @encHold_eq (zz @aW (zz @aK (zz @l0 (zz @bF (zz @bE (zz @List.length_append.{0} (zz @dA (zz @kO (zz @Nat.add_lt_add_iff_left (zz @Nat.lt_add_right_iff_pos (zz @Nat.mul_one (zz @Int.toNat_natCast (zz @jD (@jA))))))))))))))))
theorem pD(s:Ship)(n mo:Int)(hf:Fits s):cZ T 125 [encShip s,.int .i64 n,.int .i64 mo] (pT (mG s n mo)):=by
 refine aX (af:=XU) rfl (by simp[XU]) dd ?_
 (repeat (first|simp only[↓QA,QB,seval,nK,XU]|refine rd0 rfl ?_))
 refine bR (k8 _ s n mo 80 hf) ?_;have hE:mJ s n mo 80=mF s n mo:=rfl;simp only[fQ,jH,hE];by_cases h0:mF s n mo=0
 ·obtain⟨hw,hne⟩:=kV h0;obtain⟨ha,hw0,hw1⟩:=xD hw;obtain⟨hv,hn0,hn1⟩:=AE ha;have hnh:=hv.nheat
  obtain⟨N,rfl⟩:∃ N:Nat,n=N:=⟨n.toNat,by omega⟩;have hN:N<s.holds.length:=by omega
  obtain⟨hlaw1,hlaw2⟩:=SZ hv N hN mo;have hm:mG s N mo=((rI s [] 0 N mo).1.1,E6 (rI s [] 0 N mo).2,0):=by rw[mG,if_pos h0,Int.toNat_natCast,hlaw1,hlaw2]
  obtain⟨Y,hY⟩:∃ Y,rI s [] 0 N mo=Y:=⟨_,rfl⟩;have hgoY:aV (wM s N mo) (TL s [] 0) ((⟨0,0⟩,false),(0,0))=(Y,true):=by rw[uU (fun _ _=>rfl),<-hY];rfl
  rw[if_pos h0,if_pos h0,hm,hY];have hR:=rS [.cells (shipCells s),.cells [.int .i64 N],.cells [.int .i64 mo],.cells [.int .i64 0,.int .i64 0]] s 0;have hok:∀ (x:(Span×Bool)×(Int×Int)) (y:ABlk),y∈pU x->∀ k,4+4<=k->aU k y:=by
   intro x y hy k _;simp only[pU,List.mem_cons,List.not_mem_nil,or_false] at hy;rcases hy with rfl|rfl<;>simp[aU,okVs,okV,jN,fY]
  have hrng:=gM hR hv [] NX (by omega) pU pU 2 (fun _=>rfl) (fun _=>rfl) hok hok .ret (P:=OO s) (f:=wM s N mo);simp only[j7] at hrng ⊢;simp only[aL] at hrng
  (repeat (first|simp only[↓QA,QB,seval,nK,show ((0:Int)==0)=true from rfl]|refine rd0 rfl ?_))
  refine m6 rfl (by simp[BO]) ?_
  (repeat (first|simp only[↓QA,QB,seval,nK,BO]|refine rd0 rfl ?_))
  refine hrng _ 29 [30,31] _ _ ?_ ?_ (aAF hv [] 0) ((⟨0,0⟩,false),(0,0)) (y4 s) _ ?_ ?_
  ·try simp only[aB,QE,seval,nK]
  ·refine rC hR pU pU 2 (fun _=>rfl) (fun _=>rfl) .ret _ _ rfl _ _ ?_;intro t ht fl tk x M' τ;simp only[iS]
   (repeat (first|simp only[↓QA,QB,seval,nK]|refine rd0 rfl ?_))
   obtain⟨R,hRr⟩:∃ R,wM s N mo t x=R:=⟨_,rfl⟩;rw[hRr];refine NU hR hv N hN mo 0 1 2 (fun M τ=>by simp[j7,aE]) (fun M τ=>by simp[j7,aE]) (fun M τ=>by simp[j7,aE]) (by simp) (by simp) (by simp) t ht fl tk x M' _ τ _ _ (aB3 s hv mo 2) ?_ ?_ ?_ ?_ ?_ ?_ R hRr;all_goals try simp only[aB,QE,seval,nK]
  ·intro τ h2;rw[hgoY];simp only[pU,jN]
   (repeat (first|simp only[↓QA,QB,seval,nK,cX]|refine rd0 rfl ?_))
   have hh:=WM Y.2;rw[cX] at hh
   ((first|refine aC (hh) rfl dd ?_|refine aF (hh) rfl dd ?_);(repeat (first|simp only[↓QA,QB,seval,nK,pT]|refine rd0 rfl ?_)))
  ·intro τ h2;rw[hgoY] at h2;cases h2
 ·have h0':(mF s n mo==0)=false:=by simpa using h0
  have hm:mG s n mo=(⟨0,0⟩,0,mF s n mo):=by rw[mG,if_neg h0]
  rw[if_neg h0,if_neg h0,hm]
  (repeat (first|simp only[↓QA,QB,seval,nK,h0',pT]|refine rd0 rfl ?_))
end Go.Am.Room.Ho
namespace Go.Am.Room.Ho
def bU:=zz @Int.toNat_natCast (@List.length_append.{0})
theorem KB(n:Int):cZ T 386 [.int .i64 n] (.bool false):=by
 refine aX (af:=Y3) rfl (by simp[Y3]) dd ?_;try simp only[↓QA,QB,seval,bU,Y3]
 try simp
def EZ(a b:Int):Int:=if a<b then -1 else if b<a then 1 else 0
theorem aK0(a b:Int):cZ T 254 [.int .i64 a,.int .i64 b] (.int .i64 (EZ a b)):=by
 refine aX (af:=U5) rfl (by simp[U5]) dd ?_;try simp only[↓QA,QB,seval,bU,U5]
 (refine aC (KB a) rfl dd ?_;try simp only[↓QA,QB,seval,bU])
 (refine aC (KB b) rfl dd ?_;try simp only[↓QA,QB,seval,bU])
 cases h1:decide (a<b)
 ·have h1':¬a<b:=by simpa using h1
  try simp only[↓QA,QB,seval,bU]
  cases h2:decide (b<a)
  ·have h2':¬b<a:=by simpa using h2
   try simp only[↓QA,QB,seval,bU]
   simp[EZ,h1',h2']
  ·have h2':b<a:=by simpa using h2
   try simp only[↓QA,QB,seval,bU]
   simp[EZ,h1',h2']
 ·have h1':a<b:=by simpa using h1
  try simp only[↓QA,QB,seval,bU]
  simp[EZ,h1']
def EW:List Int->List Int->Int
 |[],[]=>0
 |[],_::_=>-1
 |_::_,[]=>1
 |a::az,b::bs=>if EZ a b=0 then EW az bs else EZ a b
theorem E9:∀ a b:List Int,decide (0<EW a b)=less b a
 |[],[]=>rfl
 |[],b::bs=>rfl
 |a::az,[]=>rfl
 |a::az,b::bs=>by
  have ih:=E9 az bs;simp only[EW,less,EZ];by_cases h1:a<b
  ·simp[h1,show ¬b=a by omega];omega
  ·by_cases h2:b<a
   ·simp[h1,h2,show ¬b=a by omega]
   ·have:b=a:=by omega
    subst this;simp[ih]
theorem aCS(a b:List Int)(ha:a.length<9223372036854775808)(hb:b.length<9223372036854775808):cZ T 118 [ints a,ints b] (.int .i64 (EW a b)):=by
 refine aX (af:=YJ) rfl (by simp[YJ]) dd ?_;try simp only[↓QA,QB,seval,bU,YJ]
 refine dQ (S:=Nat) 0 (fun k=>k<=a.length/\k<=b.length/\EW (a.drop k) (b.drop k)=EW a b) (fun k=>a.length-k) (fun k=>[(0,ints a),(1,ints b),(9,ints a),(10,.int .i64 a.length),(11,.int .i64 k)]) (fun _=>[]) ⟨by simp,by simp,by simp⟩ rfl ?_ fun k hk=>?_
 ·try simp only[aB,QE,seval,bU]
  try simp
 ·obtain⟨hk,hkb,hq⟩:=hk;try simp only[↓QA,QB,seval,bU,ZL]
  refine aJ (fun h=>?_) fun h=>?_
  ·have hk1:k<a.length:=by simpa using h
   have hw:=dB hk1 ha;rw[List.drop_eq_getElem_cons hk1] at hq;try simp only[↓QA,QB,seval,bU,hk1]
   refine aJ (fun h2=>?_) fun h2=>?_
   ·have hk2:k=b.length:=by simp at h2;omega
    have hd:b.drop k=[]:=by rw[hk2,List.drop_length]
    rw[hd] at hq;simp only[EW] at hq;try simp only[↓QA,QB,seval,bU,hk1,<-hq]
   ·have hk2:k<b.length:=by simp at h2;omega
    rw[List.drop_eq_getElem_cons hk2] at hq;simp only[EW] at hq;try simp only[↓QA,QB,seval,bU,hk1,hk2]
    (refine aC (aK0 a[k] b[k]) rfl dd ?_;try simp only[↓QA,QB,seval,bU,hk1,hk2])
    cases h3:(EZ a[k] b[k]==0)
    ·have h3':EZ a[k] b[k]≠0:=by simpa using h3
     rw[if_neg h3'] at hq;try simp only[↓QA,QB,seval,bU,h3,hk1,hk2,hq]
    ·have h3':EZ a[k] b[k]=0:=by simpa using h3
     rw[if_pos h3'] at hq;try simp only[↓QA,QB,seval,bU,h3,hk1,hk2]
     refine⟨k+1,⟨by omega,by omega,hq⟩,by omega,?_⟩;try simp only[aB,QE,seval,bU,hw]
  ·have hk1:k=a.length:=by simp at h;omega
   rw[hk1,List.drop_length] at hq;try simp only[↓QA,QB,seval,bU]
   refine aJ (fun h2=>?_) fun h2=>?_
   ·have hk2:a.length<b.length:=by simpa using h2
    rw[List.drop_eq_getElem_cons hk2] at hq;try simp only[↓QA,QB,seval,bU,<-hq,EW]
   ·have hk2:a.length=b.length:=by simp at h2;omega
    rw[hk2,List.drop_length] at hq;try simp only[↓QA,QB,seval,bU,<-hq,EW]
theorem yW(s n:Nat)(hs:s<9223372036854775808)(hn:n<=60):cZ T 261 [.int .i64 s,.int .i64 n] (ints (lst n s)):=by
 refine aX (af:=V9) rfl (by simp[V9]) dd ?_;try simp only[↓QA,QB,seval,bU,V9]
 obtain⟨R,hRR⟩:∃ R,lst n s=R:=⟨_,rfl⟩;have hRR':[]++(aS ((0:Nat):Int) (n-0)).filter (fun i=>decide (s/2^i.toNat%2=1))=R:=hRR;rw[hRR];refine rY 4 1 [] rfl ?_;refine dQ (S:=Nat×List Int×Bool) (0,[],false) (fun x=>x.1<=n/\x.2.1.length<=x.1/\x.2.1++(aS (x.1:Int) (n-x.1)).filter (fun i=>decide (s/2^i.toNat%2=1))=R) (fun x=>n-x.1)
  (fun x=>[(0,.int .i64 s),(4,.lit (x.2.1.map (.int .i64)) false (some 0)),(6,.int .i64 n),(7,.int .i64 x.1)]) (fun x=>[.tok 1 x.2.1.length x.2.2]) ⟨by simp,by simp,hRR'⟩ rfl ?_ fun x hx=>?_
 ·try simp only[aB,QE,seval,bU]
  try simp
 ·obtain⟨k,acc,ex⟩:=x;obtain⟨hk,hal,hacc⟩:=hx;simp only at hk hal hacc;try simp only[↓QA,QB,seval,bU,VD]
  refine aJ (fun h=>?_) fun h=>?_
  ·have hk1:k<n:=by simpa using h
   have hw:=dB hk1 (by omega);rw[show n-k=(n-(k+1))+1 by omega] at hacc;simp only[aS,List.filter_cons,Int.toNat_natCast] at hacc;rw[show ((k:Int)+1)=((k+1:Nat):Int) by omega] at hacc;have vs:=IY s k (by omega);have va:=DJ (s/2^k) (Nat.lt_of_le_of_lt (Nat.div_le_self _ _) hs);have hbit:(((s/2^k%2:Nat):Int)==1)=decide (s/2^k%2=1):=by
    generalize s/2^k%2=q;rw[Bool.eq_iff_iff,beq_iff_eq,decide_eq_true_eq];omega
   try simp only[↓QA,QB,seval,bU,vs,va,hbit]
   cases hb:decide (s/2^k%2=1)
   ·simp only[hb,Bool.false_eq_true,if_false] at hacc;try simp only[↓QA,QB,seval,bU,hw]
    refine⟨(k+1,acc,ex),⟨by simp only;omega,by simp only;omega,by simpa using hacc⟩,by simp only;omega,?_⟩;try simp only[aB,QE,seval,bU,hw,uC]
    try simp[aU]
   ·simp only[hb,if_true] at hacc;have hap:=fun (τ:St)=>JP (σ:=.tok 1 acc.length ex::τ) (l:=acc) (a:=(k:Int)) (ex:=ex) (t:=0) (by omega) rfl
    try simp only[↓QA,QB,seval,bU,hw,hap]
    refine⟨(k+1,acc++[(k:Int)],true),⟨by simp only;omega,by simp only[List.length_append,List.length_cons,List.length_nil];omega,by
     rw[<-hacc];simp⟩,by simp only;omega,?_⟩
    try simp only[aB,QE,seval,bU,hw,uC,List.map_append,List.map_cons,List.map_nil]
    try simp[aU]
  ·have hk1:k=n:=by simp at h;omega
   rw[hk1] at hacc;simp only[Nat.sub_self,aS,List.filter_nil,List.append_nil] at hacc;try simp only[↓QA,QB,seval,bU,hacc,ints]
end Go.Am.Room.Ho
namespace Go.Am.Room.Ho
def aT:=zz @Int.toNat_natCast (zz @List.length_append.{0} (@uC))
structure Vary {Y:Type} (S:Y->St) (N:Nat):Prop where
 len:∀ y,(S y).length=N
 keep:∀ y z i,i<N->cE (S y) (S z) N i
 eqS:∀ k,N<=k->∀ y z a b c,EqS k (S y++a) (S z++b) (S z++c)=EqS k a b c
theorem GL{Y:Type}{S:Y->St}{N:Nat}(hV:Vary S N){f:FuncId}{first cap args:List AV}{af:AFunc}{v:AV}{y z:Y}(hf:T f=some af)(hn:(first++args++cap).length<=af.ntmps)(h:wp T af.body (eP 0 (first++args++cap)) (S y) (fun j e σ1=>(j=none\/j=some .ret)/\∃ v0 τ,eQ af.results e σ1=some v0/\σ1=S z++τ/\bN σ1 N 20 v0=some v)):mH T (.func f first cap) args (S y) v (S z):=by
 refine .callf (.call hf hn (eG h fun o ho=>ho) fun o ho=>?_);obtain⟨hj,v0,τ,hres,hσ,h4⟩:=ho;refine⟨hj,v0,hres,?_⟩;unfold bN at h4;cases hs:snap o.σ N 20 v0 with
 |none=>rw[hs] at h4;cases h4
 |some v1 =>
  rw[hs] at h4;simp at h4;refine .inr ⟨20,v1,v,by rw[hV.len];exact hs,.inr h4.symm,fun i hi=>?_,?_,rfl,?_⟩
  ·rw[hσ];rw[hV.len] at hi ⊢;have:=hV.keep y z i hi;have e2:(S z++τ)[i]? = (S z)[i]?:=List.getElem?_append_left (by rw[hV.len];exact hi);simp only[cE,e2] at this ⊢;exact this
  ·rw[hσ,List.length_append,hV.len,hV.len];omega
  ·rw[hσ,hV.len,<-hV.len z,List.take_left]
def zW:Option (List Int)->List Int->Bool
 |none,_=>false
 |some b,l=>fV b l
def SU{Y:Type}(q:List Int->Bool)(n:Nat)(nxt:Nat->Y->Y):Nat->Nat->Option (List Int)->Y->Y
 |0,_,_,y=>y
 |k+1,s,o,y=>SU q n nxt k (s+1) (iE q o (lst n s)) (if zW o (lst n s)=true then y else nxt s y)
def aFB(o:Option (List Int)):AV:=.tuple [ints (o.getD []),.bool o.isSome]
theorem A3{Y:Type}{S:Y->St}{N:Nat}(hV:Vary S N)(f:AV)(hk:∀ y,n9 (S y) f)(n:Nat)(hn:n<=6)(q:List Int->Bool)(nxt:Nat->Y->Y)(hf:∀ (set:Nat) (y:Y),set<2^n->mH T f [.int .i64 set] (S y) (.bool (q (lst n set))) (S (nxt set y)))(y0:Y):
  mH T (.func 262 [] []) [.int .i64 n,f] (S y0) (aFB (lD q n (2^n) 0 none)) (S (SU q n nxt (2^n) 0 none y0)):=by
 have hp:2^n<=2^6:=Nat.pow_le_pow_right (by omega) hn;have hshl:=C5 n (by omega);obtain⟨R,hR⟩:∃ R,lD q n (2^n) 0 none=R:=⟨_,rfl⟩;obtain⟨Z,hZ⟩:∃ Z,SU q n nxt (2^n) 0 none y0=Z:=⟨_,rfl⟩;rw[hR,hZ];obtain⟨P,hP⟩:∃ P,2^n=P:=⟨_,rfl⟩;rw[hP] at hp hshl hR hZ hf;have hlen:=hV.len;have hka:=fun y τ=>by have:=hk y τ;rwa [hV.len] at this
 have hka0:=fun y=>by have:=(hk y).nil;rwa [hV.len] at this
 have hE0:∀ y z,EqS N (S y) (S z) (S z)=True:=fun y z=>by
  have:=hV.eqS N (Nat.le_refl _) y z [] [] [];simp only[List.append_nil] at this;rw[this];simp[EqS]
 refine GL hV (af:=XK) rfl (by simp[XK]) ?_;try simp only[↓QA,QB,seval,aT,XK,hshl]
 refine dQ (S:=Nat×Option (List Int)×Y) (0,none,y0) (fun x=>x.1<=P/\lD q n (P-x.1) x.1 x.2.1=R/\(x.2.1.getD []).length<=n/\SU q n nxt (P-x.1) x.1 x.2.1 x.2.2=Z) (fun x=>P-x.1)
  (fun x=>[(0,.int .i64 n),(1,f),(4,ints (x.2.1.getD [])),(5,.bool x.2.1.isSome),(9,.int .i64 P),(10,.int .i64 x.1)]) (fun x=>S x.2.2) ⟨by simp,by simpa using hR,by simp,by simpa using hZ⟩ rfl ?_ fun x hx=>?_
 ·try simp only[aB,QE,seval,aT,ints]
  try simp[clr,clrs]
 ·obtain⟨s,o,y⟩:=x;obtain⟨hs,hq,hol,hy⟩:=hx;simp only at hs hq hol hy;try simp only[↓QA,QB,seval,aT,WD]
  refine aJ (fun h=>?_) fun h=>?_
  ·have hs1:s<P:=by simpa using h
   have hw:=dB hs1 (by omega);have hll:=PG n s;have hfs:=hf s y hs1;rw[show P-s=(P-(s+1))+1 by omega] at hq hy;simp only[lD,SU] at hq hy;obtain⟨L,hL⟩:∃ L,lst n s=L:=⟨_,rfl⟩;rw[hL] at hq hll hfs hy;have hlo:=yW s n (by omega) (by omega);rw[hL] at hlo;try simp only[↓QA,QB,seval,aT,Option.getD_some]
   (refine aC (hlo) rfl dd ?_;try simp only[↓QA,QB,seval,aT])
   cases o with
   |none =>
    have hst:iE q none L=if q L=true then some L else none:=rfl
    simp only[zW,Bool.false_eq_true,if_false] at hy;try simp only[↓QA,QB,seval,aT,Option.isSome_none,Option.getD_none]
    refine bR hfs ?_;cases hsm:q L
    ·rw[hsm] at hst;simp only[Bool.false_eq_true,if_false] at hst;rw[hst] at hq hy;try simp only[↓QA,QB,seval,aT,hw]
     refine⟨(s+1,none,nxt s y),⟨by simp only;omega,hq,by simp,hy⟩,by simp only;omega,?_⟩;try simp only[aB,QE,seval,aT,hw,hlen,Nat.le_refl,hka,hka0,hE0,hV.eqS,yU,tE]
     try simp[ints]
    ·rw[hsm] at hst;simp only[if_true] at hst;rw[hst] at hq hy;try simp only[↓QA,QB,seval,aT,hw]
     refine⟨(s+1,some L,nxt s y),⟨by simp only;omega,hq,by simpa using hll,hy⟩,by simp only;omega,?_⟩;try simp only[aB,QE,seval,aT,hw,hlen,Nat.le_refl,hka,hka0,hE0,hV.eqS,yU,tE]
     try simp[ints]
   |some b =>
    simp only[Option.getD_some] at hol;simp only[Option.isSome_some,FX];try simp only[↓QA,QB,seval,aT,Option.isSome_some,Option.getD_some]
    cases h1:decide ((b.length:Int)<(L.length:Int))
    ·have h1':¬b.length<L.length:=by simpa using h1
     try simp only[↓QA,QB,seval,aT,Option.getD_some]
     cases h2:((L.length:Int)==(b.length:Int))
     ·have h2':¬b.length=L.length:=by intro h;rw[h] at h2;simp at h2
      have hfw:fV b L=false:=by simp[fV,h1',h2']
      have hst:iE q (some b) L=if q L=true then some L else some b:=by simp only[iE,hfw];rfl
      have hpr:zW (some b) L=false:=hfw;rw[hpr] at hy;simp only[Bool.false_eq_true,if_false] at hy;try simp only[↓QA,QB,seval,aT]
      refine bR hfs ?_;cases hsm:q L
      ·rw[hsm] at hst;simp only[Bool.false_eq_true,if_false] at hst;rw[hst] at hq hy;try simp only[↓QA,QB,seval,aT,hw]
       refine⟨(s+1,some b,nxt s y),⟨by simp only;omega,hq,by simpa using hol,hy⟩,by simp only;omega,?_⟩;try simp only[aB,QE,seval,aT,hw,hlen,Nat.le_refl,hka,hka0,hE0,hV.eqS,yU,tE]
       try simp[ints]
      ·rw[hsm] at hst;simp only[if_true] at hst;rw[hst] at hq hy;try simp only[↓QA,QB,seval,aT,hw]
       refine⟨(s+1,some L,nxt s y),⟨by simp only;omega,hq,by simpa using hll,hy⟩,by simp only;omega,?_⟩;try simp only[aB,QE,seval,aT,hw,hlen,Nat.le_refl,hka,hka0,hE0,hV.eqS,yU,tE]
       try simp[ints]
     ·have h2':b.length=L.length:=by simp at h2;omega
      try simp only[↓QA,QB,seval,aT,Option.getD_some]
      (refine aC (aCS L b (by omega) (by omega)) rfl dd ?_;try simp only[↓QA,QB,seval,aT,E9,Option.getD_some])
      cases h3:less b L
      ·skip
       have hfw:fV b L=false:=by simp[fV,h2',h3]
       have hst:iE q (some b) L=if q L=true then some L else some b:=by simp only[iE,hfw];rfl
       have hpr:zW (some b) L=false:=hfw;rw[hpr] at hy;simp only[Bool.false_eq_true,if_false] at hy;try simp only[↓QA,QB,seval,aT]
       refine bR hfs ?_;cases hsm:q L
       ·rw[hsm] at hst;simp only[Bool.false_eq_true,if_false] at hst;rw[hst] at hq hy;try simp only[↓QA,QB,seval,aT,hw]
        refine⟨(s+1,some b,nxt s y),⟨by simp only;omega,hq,by simpa using hol,hy⟩,by simp only;omega,?_⟩;try simp only[aB,QE,seval,aT,hw,hlen,Nat.le_refl,hka,hka0,hE0,hV.eqS,yU,tE]
        try simp[ints]
       ·rw[hsm] at hst;simp only[if_true] at hst;rw[hst] at hq hy;try simp only[↓QA,QB,seval,aT,hw]
        refine⟨(s+1,some L,nxt s y),⟨by simp only;omega,hq,by simpa using hll,hy⟩,by simp only;omega,?_⟩;try simp only[aB,QE,seval,aT,hw,hlen,Nat.le_refl,hka,hka0,hE0,hV.eqS,yU,tE]
        try simp[ints]
      ·skip
       have hfw:fV b L=true:=by simp[fV,h2',h3]
       have hst:iE q (some b) L=some b:=by simp only[iE,hfw,if_true]
       have hpr:zW (some b) L=true:=hfw;rw[hpr] at hy;simp only[if_true] at hy;rw[hst] at hq hy;try simp only[↓QA,QB,seval,aT,hw]
       refine⟨(s+1,some b,y),⟨by simp only;omega,hq,by simpa using hol,hy⟩,by simp only;omega,?_⟩;try simp only[aB,QE,seval,aT,hw,hlen,Nat.le_refl,hka,hka0,hE0,hV.eqS,yU,tE]
       try simp[ints]
    ·have h1':b.length<L.length:=by simpa using h1
     have h2':¬b.length=L.length:=by omega
     have hfw:fV b L=true:=by simp[fV,h1',h2']
     have hst:iE q (some b) L=some b:=by simp only[iE,hfw,if_true]
     have hpr:zW (some b) L=true:=hfw;rw[hpr] at hy;simp only[if_true] at hy;rw[hst] at hq hy;try simp only[↓QA,QB,seval,aT,hw]
     refine⟨(s+1,some b,y),⟨by simp only;omega,hq,by simpa using hol,hy⟩,by simp only;omega,?_⟩;try simp only[aB,QE,seval,aT,hw,hlen,Nat.le_refl,hka,hka0,hE0,hV.eqS,yU,tE]
     try simp[ints]
  ·have hs1:s=P:=by simp at h;omega
   rw[hs1,Nat.sub_self] at hq hy;simp only[lD,SU] at hq hy;subst hq;subst hy;try simp only[↓QA,QB,seval,aT]
   refine⟨_,[],rfl,by simp,?_⟩;try simp only[QS,QC,seval,aT,aFB]
def blk(s:Ship):List Int:=(aS 0 s.holds.length).filter fun i=>(s.holds[i.toNat]?).any fun x=>decide (x.duct=1)
theorem O8{s:Ship}{h:Nat}(hh:h<s.holds.length):(h:Int)∈blk s↔s.holds[h].duct=1:=by
 simp only[blk,List.mem_filter,bP,Int.toNat_natCast,List.getElem?_eq_getElem hh,Option.any_some,decide_eq_true_eq];constructor
 ·exact fun h=>h.2
 ·exact fun h=>⟨by omega,h⟩
theorem aB8(s:Ship):blk s∈fR s:=by
 refine UW.2 ⟨?_,fun h hh _=>⟨fun h0 hm=>?_,fun h1=>(O8 hh).2 h1⟩⟩
 ·have:(aS 0 s.holds.length).filter (fun h=>(blk s).contains h)=(aS 0 s.holds.length).filter (fun i=>(s.holds[i.toNat]?).any fun x=>decide (x.duct=1)):=by
   refine List.filter_congr fun x hx=>?_
   rw[Bool.eq_iff_iff,List.contains_iff_mem];simp only[blk,List.mem_filter];exact⟨fun h=>h.2,fun h=>⟨hx,h⟩⟩
  rw[this];rfl
 ·have:=(O8 hh).1 hm;omega
theorem TH{s:Ship}(hv:Vd s){but:List Int}(hl:∀ h c,sP s h c but=true):someB s but=true:=by
 have:truths s but≠[]:=by
  refine List.ne_nil_of_mem (a:=⟨blk s,(List.range s.holds.length).map fun h=>startsOf s h (blk s) but⟩) (mem_truths.2 ⟨aB8 s,rfl,fun h hh=>?_⟩);have ho:=(hv.holds _ (List.getElem_mem hh)).start;exact List.ne_nil_of_mem ((mem_starts hh).2 ⟨⟨Int.le_refl _,ho.2.1⟩,hl _ _⟩)
 simpa[someB] using this
theorem tV(f:List Int->Bool)(n:Nat):∀ k m,dJ f n (k+1) m=(dJ f n k m).or ((dU n (m+k)).find? f)
 |0,m=>by simp only[dJ,Nat.add_zero];cases (dU n m).find? f<;>rfl
 |k+1,m=>by
  rw[dJ,tV f n k (m+1)];rw[show dJ f n (k+1) m=(match (dU n m).find? f with|some l=>some l|none=>dJ f n k (m+1)) from rfl];rw[show m+1+k=m+(k+1) by omega];cases (dU n m).find? f<;>rfl
theorem RL{s:Ship}(hv:Vd s):∀ c∈dU s.log.length s.log.length,someB s c=true:=fun c hc=>by
 have hl:=hv.nlog;refine TH hv fun h cs=>SA.2 fun i hi=>?_
 have:=H4 ⟨s.log.length,by omega⟩ c hc ⟨i,by omega⟩ hi;simp only[iL];rw[this];simp
theorem K4{s:Ship}(hv:Vd s):dJ (someB s) s.log.length (s.log.length+1) 0=some (H5 s):=by
 have hl:=hv.nlog;have h1:=KS ⟨s.log.length,by omega⟩;simp only at h1;obtain⟨w,hw⟩:=List.length_eq_one_iff.1 h1;have hs:=RL hv w (by rw[hw];simp);rw[tV,H5,Nat.zero_add,hw];cases dJ (someB s) s.log.length s.log.length 0 with
 |some l=>rfl
 |none=>simp[hs]
end Go.Am.Room.Ho
namespace Go.Am.Room.Ho
def kM:=zz @encShip_eq (zz @aL (zz @encHold_eq (zz @aW (zz @aK (zz @bF (zz @bE (zz @List.length_append.{0} (zz @dA (zz @kO (zz @Nat.add_lt_add_iff_left (zz @Nat.lt_add_right_iff_pos (zz @Nat.mul_one (@Int.toNat_natCast)))))))))))))
theorem aD3{n set:Nat}(hn:n<=5)(hs:set<2^n):ButIs set (lst n set):=by
 have hp:2^n<=2^5:=Nat.pow_le_pow_right (by omega) hn;refine⟨by omega,fun i hi=>?_⟩;have e:(((set/2^i%2:Nat):Int)==0) = !set.testBit i:=by
  rw[nI,HZ,Bool.eq_iff_iff];simp
 rw[e];by_cases h:i<n
 ·rw[vJ h]
 ·have h1:set.testBit i=false:=Nat.testBit_lt_two_pow (Nat.lt_of_lt_of_le hs (Nat.pow_le_pow_right (by omega) (by omega)));have h2:(lst n set).contains (i:Int)=false:=by
   rw[Bool.eq_false_iff];intro hc;rw[List.contains_iff_mem,QF] at hc;omega
  rw[h1,h2]
def DD(σ:St)(s:Ship)(b:Nat)(M:bQ):St:=σ++[.cells (shipCells s),.map (gV s M),.cells (sb s b 0 (σ.length+1))]
theorem aDN(σ:St)(s:Ship)(b:Nat):ShipAt (DD σ s b) s b 0 (σ.length+2) (σ.length+1) (σ.length+3) :=
 ⟨fun M=>by simp[DD],fun M=>by simp[DD,mA,O1,P2],fun M=>by rw[DD,sA];rfl,fun M M'=>by rw[DD,DD,lF];rfl,by omega,by omega⟩
theorem TN(σ:St)(i:Nat)(s:Ship)(hv:Vd s)(hi:aE σ i=some (shipCells s))(set:Nat)(hs:set<2^s.log.length):
  gB T (.func 265 [] [.ptr i 0]) [.int .i64 set] σ (.bool (someB s (lst s.log.length set))):=by
 have hb:=aD3 hv.nlog hs;have hso:=vP (aDN σ s set) hv _ hb (by omega) [];rw[O6] at hso;have hlk:=xY σ s set;have e0:gV s []=[]:=rfl;rw[aL] at hi;simp only[DD,pZ,e0] at hso hlk;try simp only[↓QA,QB,seval,kM,List.append_assoc] at hso hlk
 refine dM (af:=ZZ) rfl (by simp[ZZ]) ?_;try simp only[↓QA,QB,seval,kM,ZZ,hi]
 refine bR hlk ?_;try simp only[↓QA,QB,seval,kM]
 refine bR hso ?_;try simp only[↓QA,QB,seval,kM]
 refine cY _ rfl ?_;try simp only[QS,QC,seval,kM,someB]
theorem NZ(A:St):Vary (fun _:Unit=>A) A.length:=⟨fun _=>rfl,fun _ _ _ _=>.inl rfl,fun k _ _ _ a b c=>dA k A a b c⟩
theorem FR(s:Ship)(hf:Fits s):cZ T 129 [encShip s] (v9 (BY s)):=by
 refine aX (af:=V4) rfl (by simp[V4]) dd ?_;try simp only[↓QA,QB,seval,kM,V4]
 (refine aC (tZ s hf) rfl dd ?_;try simp only[↓QA,QB,seval,kM,enc3])
 cases h0:((check s).2.2==0)
 ·have h0':(check s).2.2≠0:=by simpa using h0
  have hwo:BY s=([],(check s).2.2):=if_neg h0';rw[hwo];try simp only[↓QA,QB,seval,kM,h0,v9]
  try rfl
 ·have h0':(check s).2.2=0:=by simpa using h0
  have hwo:BY s=(H5 s,0):=if_pos h0';have hv:=vd_of_check h0';have hnl:=hv.nlog;have hfd:=A3 (NZ [.cells (shipCells s)]) (.func 265 [] [.ptr 0 0]) (fun _ τ=>by try simp only[QS,QC,seval,kM,List.length_append]) s.log.length (by omega) (someB s) (fun _ y=>y)
   (fun set y hs=>TN _ 0 s hv (by simp[aE]) set hs) ()
  rw[WB _ _ (by omega),K4 hv] at hfd;simp only[aFB,Option.getD_some,Option.isSome_some] at hfd;rw[hwo];try simp only[↓QA,QB,seval,kM] at hfd
  try simp only[↓QA,QB,seval,kM,h0]
  refine bR hfd ?_;try simp only[↓QA,QB,seval,kM,v9]
end Go.Am.Room.Ho
namespace Go.Am.Room.Ho
def MH:Option (List Int)->List Int×Int
 |some l=>(l,0)
 |none=>([],9)
end Go.Am.Room.Ho
namespace Go.Am.Room.Ho
def lW:=zz @encShip_eq (zz @aL (zz @encHold_eq (zz @aW (zz @aK (zz @bF (zz @bE (zz @List.length_append.{0} (zz @dA (zz @kO (zz @Nat.add_lt_add_iff_left (zz @Nat.lt_add_right_iff_pos (zz @Nat.mul_one (zz @Int.toNat_natCast (@aAG))))))))))))))
theorem aBM(s:Ship)(b c d m:Nat):(sb s b c m).take 8++[.int .i64 d]++(sb s b c m).drop 9=sb s b d m:=by simp[sb,shipCells]
def k7(l:List Hold):List AV:=(l.map encHold).flatMap AV.cells
def wK(s:Ship)(y:Nat×bQ):St:=[.cells (shipCells s),.cells (shipCells s),.cells (shipCells s),.map (gV s y.2),.cells (sb s 0 y.1 3),.cells [.ptr 4 0],.cells (k7 s.holds),.cells [.ref 6 0 s.holds.length 5]]
theorem IW(s:Ship):Vary (wK s) 8:=by
 refine⟨fun _=>rfl,fun y z i hi=>?_,fun k hk y z a b c=>?_⟩
 ·have:i=3\/i=4\/(i≠3/\i≠4):=by omega
  rcases this with rfl|rfl|⟨h3,h4⟩
  ·exact .inr (.inl ⟨_,rfl,ShipAt.memo_ok s z.2 8⟩)
  ·exact .inr (.inl ⟨_,rfl,aGV s 0 z.1 (by omega)⟩)
  ·left
   match i,h3,h4 with
   |0,_,_=>rfl
   |1,_,_=>rfl
   |2,_,_=>rfl
   |3,h,_=>exact absurd rfl h
   |4,_,h=>exact absurd rfl h
   |5,_,_=>rfl
   |6,_,_=>rfl
   |7,_,_=>rfl
   |i+8,_,_=>omega
 ·simp only[wK,List.cons_append,List.nil_append,EqS,true_or,true_and,uS,EL s 0 z.1 (show 3<k by omega),or_true]
theorem aJE(s:Ship)(c:Nat):ShipAt (fun M=>wK s (c,M)) s 0 c 4 3 8:=(rS [.cells (shipCells s)] s c).app [.cells [.ptr 4 0],.cells (k7 s.holds),.cells [.ref 6 0 s.holds.length 5]]
def nF(s:Ship)(c:Nat):Nat->Nat->bQ->Bool×bQ
 |0,_,M=>(true,M)
 |k+1,h,M=>if keepsIn s (truths s []) h (lst s.holds.length c)=1 then nF s c k (h+1) (match s.holds[h]? with|some x=>qN s x [] c h M|none=>M) else (false,match s.holds[h]? with|some x=>qN s x [] c h M|none=>M)
theorem AQ(s:Ship)(c:Nat):∀ (k h:Nat) (M:bQ),(nF s c k h M).1=(List.range' h k).all fun j=>decide (keepsIn s (truths s []) j (lst s.holds.length c)=1)
 |0,h,M=>rfl
 |k+1,h,M=>by
  simp only[nF,List.range'_succ,List.all_cons];split
  ·rename_i h1;rw[AQ s c k (h+1)];simp[h1]
  ·rename_i h1;simp[h1]
def HY(s:Ship)(set:Nat)(y:Nat×bQ):Nat×bQ:=(set,(nF s set s.holds.length 0 y.2).2)
theorem I2(s:Ship)(hv:Vd s)(set:Nat)(hs:set<1000000)(y:Nat×bQ):
  mH T (.func 263 [] [.ptr 5 0,.ptr 7 0]) [.int .i64 set] (wK s y) (.bool (YM s (truths s []) (lst s.holds.length set))) (wK s (HY s set y)):=by
 obtain⟨c,M⟩:=y;have hno:=hv.nholds;have hdo:YM s (truths s []) (lst s.holds.length set)=(nF s set s.holds.length 0 M).1:=by rw[AQ,<-List.range_eq_range'];rfl
 obtain⟨R,hR⟩:∃ R,nF s set s.holds.length 0 M=R:=⟨_,rfl⟩;simp only[HY];rw[hdo,hR];have h8:=aBM s 0 c set 3;refine GL (IW s) (af:=aAV) rfl (by simp[aAV]) ?_;simp only[wK];try simp only[↓QA,QB,seval,lW,aAV,h8]
 refine dQ (S:=Nat×bQ) (0,M) (fun a=>a.1<=s.holds.length/\nF s set (s.holds.length-a.1) a.1 a.2=R) (fun a=>s.holds.length-a.1)
  (fun a=>[(1,.ptr 5 0),(11,.int .i64 s.holds.length),(12,.int .i64 a.1)]) (fun a=>wK s (set,a.2)) ⟨Nat.zero_le _,hR⟩ (by simp[wK,shipCells,ints]) ?_ fun a ha=>?_
 ·try simp only[aB,QE,seval,lW]
  try simp
 ·obtain⟨h,M1⟩:=a;obtain⟨hh,hq⟩:=ha;simp only at hh hq;simp only[wK];try simp only[↓QA,QB,seval,lW,WE]
  refine aJ (fun hd=>?_) fun hd=>?_
  ·have hh1:h<s.holds.length:=by simpa using hd
   have hw:=dB hh1 (by omega);rw[show s.holds.length-h=(s.holds.length-(h+1))+1 by omega] at hq;simp only[nF,List.getElem?_eq_getElem hh1] at hq;obtain⟨M2,hM2⟩:∃ M2,qN s s.holds[h] [] set h M1=M2:=⟨_,rfl⟩;have hk:=wT (aJE s set) hv [] NX hs h hh1 M1;rw[zQ hv [] set hs h hh1,hM2] at hk;rw[hM2] at hq;obtain⟨v,hve⟩:∃ v,keepsIn s (truths s []) h (lst s.holds.length set)=v:=⟨_,rfl⟩;rw[hve] at hk hq;simp only[wK] at hk;try simp only[↓QA,QB,seval,lW] at hk
   try simp only[↓QA,QB,seval,lW]
   refine bR hk ?_;cases h1:(v==1)
   ·have h1':v≠1:=by simpa using h1
    rw[if_neg h1'] at hq;subst hq;try simp only[↓QA,QB,seval,lW,h1]
    refine⟨_,[],rfl,by simp[wK,shipCells,ints],?_⟩;try simp only[QS,QC,seval,lW]
   ·have h1':v=1:=by simpa using h1
    rw[if_pos h1'] at hq;try simp only[↓QA,QB,seval,lW,h1,hw]
    refine⟨(h+1,M2),⟨by simp only;omega,hq⟩,by simp only;omega,?_⟩;simp only[wK];try simp only[aB,QE,seval,lW,hw,uS,EL]
    try simp[aU,okVs,okV]
  ·have hh1:h=s.holds.length:=by simp at hd;omega
   rw[hh1,Nat.sub_self] at hq;simp only[nF] at hq;subst hq;try simp only[↓QA,QB,seval,lW]
   refine⟨_,[],rfl,by simp[wK,shipCells,ints],?_⟩;try simp only[QS,QC,seval,lW]
end Go.Am.Room.Ho
namespace Go.Am.Room.Ho
def sO:=zz @encShip_eq (zz @aL (zz @aK (zz @bF (zz @bE (zz @List.length_append.{0} (zz @dA (zz @kO (zz @Nat.add_lt_add_iff_left (zz @Nat.lt_add_right_iff_pos (zz @Nat.mul_one (zz @Int.toNat_natCast (@aAG))))))))))))
def KX:List AV:=[.int .i64 0,.int .i64 0,.int .i64 0,.int .i64 0,.int .i64 0]
theorem v3:∀ l:List Hold,(k7 l).length=l.length*5
 |[]=>rfl
 |x::l=>by
  have:=v3 l;simp only[k7] at this ⊢;simp only[List.map_cons,List.flatMap_cons,List.length_append,this,encHold,AV.cells,List.length_cons,List.length_nil];omega
theorem TS(n:Nat):((List.replicate n KX).flatten).length=n*5:=by simp[KX]
theorem ML(b0 b1 b2 b3 b4 b5 b7:ABlk)(l:List Hold):sI 5 [b0,b1,b2,b3,b4,b5,.cells (List.replicate l.length KX).flatten,b7] (.ref 6 0 l.length 5) (.lit (l.map encHold) false none)=some (.int .i64 l.length,[b0,b1,b2,b3,b4,b5,.cells (k7 l),b7]):=by
 have h1:aI 5 (l.map encHold)=true:=w7 5 encHold l (fun x=>by simp[cA,encHold,AV.cells,AV.cell]);have h2:(l.map encHold).take l.length=l.map encHold:=List.take_of_length_le (by simp);have h3:=v3 l;have h4:=TS l.length;have h5:eK (List.replicate l.length KX).flatten 0 (k7 l)=some (k7 l):=by
  simp only[eK];rw[if_pos (by omega),List.drop_of_length_le (by omega)];simp
 simp only[k7] at h5 ⊢;simp[sI,lA,uT,h1,aE,h2,h5]
theorem AH(s:Ship)(hf:Fits s):cZ T 128 [encShip s] (v9 (sE s)):=by
 refine aX (af:=aBF) rfl (by simp[aBF]) dd ?_;try simp only[↓QA,QB,seval,sO,aBF]
 refine bR (k8 _ s 0 0 0 hf) ?_;simp only[fQ,jH,uK];by_cases h0:fK s=0
 ·obtain⟨ha,hne⟩:=kV h0;have hv:=vd_of_check ha;have hno:=hv.nholds;obtain⟨W,hW⟩:∃ W,dJ (YM s (truths s [])) s.holds.length (s.holds.length+1) 0=W:=⟨_,rfl⟩;have hm:sE s=MH W:=by rw[sE,if_pos h0,<-hW];rfl
  have hmk:yX 40 (.int .i64 s.holds.length) (.int .i64 s.holds.length)=some s.holds.length:=by simp[yX,room];omega
  have hp:=Nat.pow_le_pow_right (show 0<2 by omega) hno.2
  have hfd:=A3 (IW s) (.func 263 [] [.ptr 5 0,.ptr 7 0]) (fun y τ=>by
   have hl:(wK s y).length=8:=rfl;rw[hl]
   try simp only[QS,QC,seval,sO]) s.holds.length (by omega) (YM s (truths s [])) (HY s)
   (fun set y hs=>I2 s hv set (by omega) y) (0,y4 s)
  rw[WB _ _ (by omega),hW] at hfd;rw[if_pos h0,if_pos h0,hm];have hcp:=fun b0 b1 b2 b3 b4 b5 b7=>ML b0 b1 b2 b3 b4 b5 b7 s.holds
  simp only[KX] at hcp;simp only[wK,aFB] at hfd;simp only[j7];try simp only[↓QA,QB,seval,sO] at hfd
  try simp only[↓QA,QB,seval,sO,show ((0:Int)==0)=true from rfl,hmk,hcp]
  refine bR hfd ?_;cases W with
  |none =>
   try simp only[↓QA,QB,seval,sO,MH,v9,Option.isSome_none,Option.getD_none]
   try rfl
  |some l =>
   try simp only[↓QA,QB,seval,sO,MH,v9,Option.isSome_some,Option.getD_some]
   try rfl
 ·have h0':(fK s==0)=false:=by simpa using h0
  have hm:sE s=([],fK s):=by rw[sE,if_neg h0]
  rw[if_neg h0,if_neg h0,hm];try simp only[↓QA,QB,seval,sO,h0',v9]
  try rfl
end Go.Am.Room.Ho
namespace Go.Am.Room.Ho
def lH:=zz @encShip_eq (zz @aL (zz @encHold_eq (zz @aW (zz @aK (zz @bF (zz @bE (zz @List.length_append.{0} (zz @dA (zz @kO (zz @Nat.add_lt_add_iff_left (zz @Nat.lt_add_right_iff_pos (zz @Nat.mul_one (zz @Int.toNat_natCast (zz @jD (@jA)))))))))))))))
abbrev B2:=Fin 16×Fin 16
theorem aO0(a:Fin 16)(b:Nat):a.val &&& b<16:=Nat.lt_of_le_of_lt Nat.and_le_left a.isLt
theorem aR1(a:Fin 16)(b:Nat):a.val|||b%16<16:=Nat.or_lt_two_pow (n:=4) a.isLt (by omega)
def EO(t:TV)(x:B2):B2×Bool:=((⟨x.1.val &&& t.1,aO0 _ _⟩,⟨x.2.val|||t.1%16,aR1 _ _⟩),true)
def ER(x:B2):St:=[.cells [.int .i64 (x.1.val:Int)],.cells [.int .i64 (x.2.val:Int)]]
theorem aBJ{S:bQ->St}{s:Ship}{b c p m N:Nat}(hR:ShipAt S s b c p m N)(t:TV)(ht:t.1<16)(x:B2)(M:bQ)(lp:ABlk)(τ:St)(e:Env)(G:Option AJump->St->Prop)(e6:Env.get e 6 = .ptr N 0)(e7:Env.get e 7 = .ptr (N+1) 0)(e8:Env.get e 8 = .int .i64 t.1):
  wp T MU e (S M++(ER x++(.cells [.ptr p 0]::lp::τ))) (fun j e'' σ''=>((EO t x).2=true/\j=none/\∃ τ',σ''=S M++(ER (EO t x).1++(.cells [.ptr p 0]::lp::(τ++τ'))))\/G j σ''):=by
 have ha:=VU x.1.val t.1 (by omega) (by omega);have ho:=aHI x.2.val t.1 (by omega) (by omega);have hm:t.1%16=t.1:=Nat.mod_eq_of_lt ht;simp only[ER,EO,hm];try simp only[↓QA,QB,seval,lH,MU,e6,e7,e8,hR.len,hR.base,hR.base0,hR.bset,hR.bset0,ha,ho]
 exact .inl ⟨[],by simp⟩
def DX(s:Ship)(bl:List Int)(c:Nat)(a:Fin 16):B2:=(TL s bl c).foldl (fun a t=>(EO t a).1) (a,0)
theorem DL:∀ (l:List TV) (x:B2) (i:Nat),(∀ t∈l,t.1<16)->((l.foldl (fun a t=>(EO t a).1) x).1.val.testBit i=(x.1.val.testBit i&&l.all fun t=>t.1.testBit i))/\((l.foldl (fun a t=>(EO t a).1) x).2.val.testBit i=(x.2.val.testBit i||l.any fun t=>t.1.testBit i))
 |[],x,i,_=>by simp
 |t::l,x,i,h=>by
  obtain⟨h1,h2⟩:=DL l (EO t x).1 i fun u hu=>h u (List.mem_cons_of_mem _ hu)
  have hm:t.1%16=t.1:=Nat.mod_eq_of_lt (h t (by simp));simp only[List.foldl_cons,h1,h2,List.all_cons,List.any_cons];simp only[EO,hm,Nat.testBit_and,Nat.testBit_or,Bool.and_assoc,Bool.or_assoc];simp
theorem VS{s:Ship}(hv:Vd s)(bl:List Int)(c:Nat):∀ t∈TL s bl c,t.1<16:=by
 intro t ht;rw[L7] at ht;obtain⟨q,hq,rfl⟩:=List.mem_map.1 ht;exact HC hv _ (wW hq).1
theorem DP{s:Ship}(hv:Vd s)(i:Nat)(hi:i<s.holds.length):((TL s [] 0).all fun t=>t.1.testBit i)=HX (truths s []) i/\((TL s [] 0).any fun t=>t.1.testBit i)=Q1 (truths s []) i:=by
 have key:∀ q∈rR s [],q.2.blocked.contains (i:Int)=q.1.testBit i:=by
  intro q hq;rw[(wW hq).2.1,vJ hi]
 rw[L7,HX,Q1,<-mW];simp only[List.all_map,List.any_map];constructor
 ·rw[Bool.eq_iff_iff,List.all_eq_true,List.all_eq_true];constructor
  ·intro h q hq;have h1:=h q hq;simp only[Function.comp_apply] at h1 ⊢;rw[key q hq];exact h1
  ·intro h q hq;have h1:=h q hq;simp only[Function.comp_apply] at h1 ⊢;rw[key q hq] at h1;exact h1
 ·rw[Bool.eq_iff_iff,List.any_eq_true,List.any_eq_true];constructor
  ·rintro⟨q,hq,h⟩;simp only[Function.comp_apply] at h;exact⟨q,hq,by simp only[Function.comp_apply];rw[key q hq];exact h⟩
  ·rintro⟨q,hq,h⟩;simp only[Function.comp_apply] at h;rw[key q hq] at h;exact⟨q,hq,h⟩
theorem PZ{n:Nat}(h:n<=4):2^n-1<16:=by
 have:2^n<=2^4:=Nat.pow_le_pow_right (by omega) h;omega
theorem aDQ{s:Ship}(hv:Vd s):lst s.holds.length (DX s [] 0 ⟨2^s.holds.length-1,PZ hv.nholds.2⟩).1.val=(aS 0 s.holds.length).filter (HX (truths s []))/\lst s.holds.length (DX s [] 0 ⟨2^s.holds.length-1,PZ hv.nholds.2⟩).2.val=(aS 0 s.holds.length).filter (Q1 (truths s [])):=by
 constructor
 ·simp only[lst];refine List.filter_congr fun x hx=>?_
  have hb:=(bP _ _ _).1 hx;obtain⟨i,rfl⟩:∃ i:Nat,x=i:=⟨x.toNat,by omega⟩;rw[<-nI,Int.toNat_natCast,DX,(DL _ _ _ (VS hv [] 0)).1,(DP hv i (by omega)).1];have:(2^s.holds.length-1).testBit i=true:=by rw[Nat.testBit_two_pow_sub_one];simp;omega
  simp only[this,Bool.true_and]
 ·simp only[lst];refine List.filter_congr fun x hx=>?_
  have hb:=(bP _ _ _).1 hx;obtain⟨i,rfl⟩:∃ i:Nat,x=i:=⟨x.toNat,by omega⟩;rw[<-nI,Int.toNat_natCast,DX,(DL _ _ _ (VS hv [] 0)).2,(DP hv i (by omega)).2];simp
theorem BA(s:Ship)(hf:Fits s):cZ T 126 [encShip s] (uL (nP s)):=by
 refine aX (af:=Y1) rfl (by simp[Y1]) dd ?_
 (repeat (first|simp only[↓QA,QB,seval,lH,Y1]|refine rd0 rfl ?_))
 refine bR (k8 _ s 0 0 0 hf) ?_;simp only[fQ,jH,uK];by_cases h0:fK s=0
 ·obtain⟨ha,hne⟩:=kV h0;have hv:=vd_of_check ha;have hno:=hv.nholds;obtain⟨hl1,hl2⟩:=aDQ hv;obtain⟨Y,hY⟩:∃ Y,DX s [] 0 ⟨2^s.holds.length-1,PZ hv.nholds.2⟩=Y:=⟨_,rfl⟩;rw[hY] at hl1 hl2;have hm:nP s=(lst s.holds.length Y.1.val,lst s.holds.length Y.2.val,0):=by rw[nP,if_pos h0,hl1,hl2]
  obtain⟨A,hA⟩:∃ A:Fin 16,(⟨2^s.holds.length-1,PZ hv.nholds.2⟩:Fin 16)=A:=⟨_,rfl⟩;rw[hA] at hY;have hAv:A.val=2^s.holds.length-1:=by rw[<-hA]
  have hgoY:aV EO (TL s [] 0) (A,0)=(Y,true):=by rw[uU (fun _ _=>rfl),<-hY];rfl
  have hp2:2^s.holds.length<=2^4:=Nat.pow_le_pow_right (by omega) hno.2;have hpos:0<2^s.holds.length:=Nat.two_pow_pos _;have hsh:=C5 s.holds.length (by omega);have hwA:IntKind.i64.wrap (((2^s.holds.length:Nat):Int)-1)=(A.val:Int):=by
   have:((2^s.holds.length:Nat):Int)-1=(A.val:Int):=by omega
   rw[this];exact bD ⟨by omega,by omega⟩
  rw[if_pos h0,if_pos h0,hm];have hR:=rS [.cells (shipCells s)] s 0;have hok:∀ (x:B2) (y:ABlk),y∈ER x->∀ k,1+4<=k->aU k y:=by
   intro x y hy k _;simp only[ER,List.mem_cons,List.not_mem_nil,or_false] at hy;rcases hy with rfl|rfl<;>simp[aU,okVs,okV]
  have hrng:=gM hR hv [] NX (by omega) ER ER 2 (fun _=>rfl) (fun _=>rfl) hok hok .ret (P:=fun t=>t.1<16) (f:=EO);simp only[j7] at hrng ⊢;simp only[aL] at hrng
  (repeat (first|simp only[↓QA,QB,seval,lH,show ((0:Int)==0)=true from rfl,hsh,hwA]|refine rd0 rfl ?_))
  refine m6 rfl (by simp[BO]) ?_
  (repeat (first|simp only[↓QA,QB,seval,lH,BO]|refine rd0 rfl ?_))
  refine hrng _ 23 [24,25] _ _ ?_ ?_ (VS hv [] 0) (A,0) (y4 s) _ ?_ ?_
  ·try simp only[aB,QE,seval,lH]
  ·refine rC hR ER ER 2 (fun _=>rfl) (fun _=>rfl) .ret _ _ rfl _ _ ?_;intro t ht fl tk x M' τ;simp only[iS]
   (repeat (first|simp only[↓QA,QB,seval,lH]|refine rd0 rfl ?_))
   refine aBJ hR t ht x M' _ τ _ _ ?_ ?_ ?_;all_goals try simp only[aB,QE,seval,lH]
  ·intro τ h2;rw[hgoY];simp only[ER]
   (repeat (first|simp only[↓QA,QB,seval,lH]|refine rd0 rfl ?_))
   ((first|refine aC (yW Y.1.val s.holds.length (by omega) (by omega)) rfl dd ?_|refine aF (yW Y.1.val s.holds.length (by omega) (by omega)) rfl dd ?_);(repeat (first|simp only[↓QA,QB,seval,lH]|refine rd0 rfl ?_)))
   ((first|refine aC (yW Y.2.val s.holds.length (by omega) (by omega)) rfl dd ?_|refine aF (yW Y.2.val s.holds.length (by omega) (by omega)) rfl dd ?_);(repeat (first|simp only[↓QA,QB,seval,lH,uL]|refine rd0 rfl ?_)))
  ·intro τ h2;rw[hgoY] at h2;cases h2
 ·have h0':(fK s==0)=false:=by simpa using h0
  have hm:nP s=([],[],fK s):=by rw[nP,if_neg h0]
  rw[if_neg h0,if_neg h0,hm]
  (repeat (first|simp only[↓QA,QB,seval,lH,h0',uL]|refine rd0 rfl ?_))
  try rfl
def exS(l:List Line):Ship:=⟨24,4,2,[50,54,50],2,[⟨⟨30,32⟩,0,⟨22,26⟩⟩,⟨⟨30,31⟩,2,⟨22,26⟩⟩],l⟩
def exL:Ship:=exS [⟨1,1,28⟩]
def exM:Ship:=exS [⟨1,1,33⟩]
def exW:Ship:=exS [⟨1,1,28⟩,⟨2,0,40⟩]
def exK:Ship:={ exS [] with holds:=[⟨⟨30,32⟩,0,⟨22,26⟩⟩,⟨⟨30,31⟩,2,⟨80,80⟩⟩] }
theorem x1:rN (exS []) 1 2=(⟨24,35⟩,0):=by decide +kernel
theorem x2:rN exL 1 2=(⟨24,25⟩,0):=by decide +kernel
theorem x3:mG (exS []) 1 25=(⟨2,2⟩,0,0):=by decide +kernel
theorem x4:mG (exS []) 1 20=(⟨0,0⟩,2,0):=by decide +kernel
theorem x5:nP exM=([1],[1],0):=by decide +kernel
theorem x6:keepsOf exL 1=(1,0):=by decide +kernel
theorem x7:keepsOf exM 1=(2,0):=by decide +kernel
theorem x8:qJ (exS [])=([],[1],0):=by decide +kernel
theorem x9:sE (exS [])=([1],0):=by decide +kernel
theorem x10:BY exW=([1],0):=by decide +kernel
theorem x11:keepsOf exW 0=(0,8):=by decide +kernel
theorem x12:sE exK=([],9):=by decide +kernel
end Go.Am.Room.Ho
set_option maxRecDepth 8000
namespace Go.Am.Room.Ho
def TW:=zz @aK (@List.length_append.{0})
theorem dW(a b:Int):cZ T 130 [.int .i64 a,.int .i64 b] (eM ⟨a,b⟩):=by
 refine aX (af:=WV) rfl (by simp[WV]) dd ?_;try simp only[↓QA,QB,seval,TW,WV]
def u8s(l:List Int):AV:=.lit (l.map (.int .u8)) false none
theorem yP(l:List Int):jS (u8s l):=eC (aM .u8) l
instance (l:List Int):Dat (u8s l):=⟨yP l⟩
end Go.Am.Room.Ho
namespace Go.Am.Room.Ho
def nD:=zz @encShip_eq (zz @aL (zz @encHold_eq (zz @aW (zz @aK (zz @bF (zz @bE (zz @dA (@List.length_append.{0}))))))))
theorem pR(w h m:Int):cZ T 123 [.int .i64 w,.int .i64 h,.int .i64 m] (eL ⟨w,h,m⟩):=by
 refine aX (af:=aBG) rfl (by simp[aBG]) dd ?_;try simp only[↓QA,QB,seval,nD,aBG]
theorem vO(l:List Line):cZ T 122 [.lit (l.map eL) false none] (encShip (exS l)):=by
 refine aX (af:=HK) rfl (by simp[HK]) dd ?_;try simp only[↓QA,QB,seval,nD,HK]
 (refine aC (dW 30 32) rfl dd ?_;try simp only[↓QA,QB,seval,nD])
 (refine aC (dW 22 26) rfl dd ?_;try simp only[↓QA,QB,seval,nD])
 (refine aC (dW 30 31) rfl dd ?_;try simp only[↓QA,QB,seval,nD])
 (refine aC (dW 22 26) rfl dd ?_;try simp only[↓QA,QB,seval,nD])
 have r1:∀ (a:ABlk) (τ:St),bN (a::.cells (List.flatMap AV.cells [.int .i64 50,.int .i64 54,.int .i64 50])::τ) 0 20 (.ref 1 0 3 1)=some (.lit [.int .i64 50,.int .i64 54,.int .i64 50] false none):=fun a τ=>by
  rw[O9];simp[lA,aE,sV,aI,AV.cells,AV.cell];try simp only[QS,QC,seval,nD,clrs,clr]
 have r2:∀ (a b:ABlk) (τ:St) (A B:Hold),bN (a::b::.cells (List.flatMap AV.cells [.agg [.int .i64 A.start.lo,.int .i64 A.start.hi,.int .i64 A.duct,.int .i64 A.keep.lo,.int .i64 A.keep.hi],.agg [.int .i64 B.start.lo,.int .i64 B.start.hi,.int .i64 B.duct,.int .i64 B.keep.lo,.int .i64 B.keep.hi]])::τ) 0 20 (.ref 2 0 2 5)=some (.lit [.agg [.int .i64 A.start.lo,.int .i64 A.start.hi,.int .i64 A.duct,.int .i64 A.keep.lo,.int .i64 A.keep.hi],.agg [.int .i64 B.start.lo,.int .i64 B.start.hi,.int .i64 B.duct,.int .i64 B.keep.lo,.int .i64 B.keep.hi]] false none):=fun a b τ A B=>by
  rw[O9];simp[lA,aE,sV,aI,AV.cells,AV.cell];try simp only[QS,QC,seval,nD,clrs,clr]
 have r3:=fun a b τ=>r2 a b τ ⟨⟨30,32⟩,0,⟨22,26⟩⟩ ⟨⟨30,31⟩,2,⟨22,26⟩⟩
 simp only at r3;try simp only[↓QA,QB,seval,nD,r1,r3,exS,List.map_cons,List.map_nil]
theorem dF(l:List Line)(h:l.length<=100:=by decide):Fits (exS l):=⟨by simp[exS],by simp[exS],by simp[exS];omega⟩
end Go.Am.Room.Ho
namespace Go.Am.Room.Ho
def bM:=zz @encShip_eq (zz @aL (zz @encHold_eq (zz @aW (zz @aK (zz @bF (zz @bE (zz @dA (@List.length_append.{0}))))))))
def OX(n:Nat):AV:=.agg [.int .i64 24,.int .i64 4,.int .i64 2,.ref (n+1) 0 3 1,.int .i64 2,.ref (n+2) 0 2 5,.lit [] true none]
def DB(n:Nat):St:=[.cells [.int .i64 24,.int .i64 4,.int .i64 2,.ref (n+1) 0 3 1,.int .i64 2,.ref (n+2) 0 2 5,.lit [] true none],.cells [.int .i64 50,.int .i64 54,.int .i64 50],.cells [.int .i64 30,.int .i64 32,.int .i64 0,.int .i64 22,.int .i64 26,.int .i64 30,.int .i64 31,.int .i64 2,.int .i64 22,.int .i64 26]]
theorem YA(σ:St):mH T (.func 122 [] []) [.lit [] true none] σ (OX σ.length) (σ++DB σ.length):=by
 refine .callf (.call (af:=HK) rfl (by simp[HK]) (eG (K:=fun j e σ1=>(j=none\/j=some .ret)/\Env.get e 2 = .ptr σ.length 0/\σ1=σ++DB σ.length) ?_ fun o ho=>ho) fun o ho=>?_)
 ·try simp only[↓QA,QB,seval,bM,HK,List.length_append]
  (refine aC (dW 30 32) rfl dd ?_;try simp only[↓QA,QB,seval,bM])
  (refine aC (dW 22 26) rfl dd ?_;try simp only[↓QA,QB,seval,bM])
  (refine aC (dW 30 31) rfl dd ?_;try simp only[↓QA,QB,seval,bM])
  (refine aC (dW 22 26) rfl dd ?_;try simp only[↓QA,QB,seval,bM])
  simp[DB,AV.cells]
 ·obtain⟨h1,h2,h3⟩:=ho;refine⟨h1,OX σ.length,?_,.inl ⟨rfl,h3⟩⟩;rw[h3];try simp only[↓QA,QB,seval,bM,HK,h2,DB,OX]
  trace_state
theorem UV:Fits exK:=⟨by simp[exK,exS],by simp[exK],by simp[exK,exS]⟩
set_option maxHeartbeats 1000000 in
theorem awake_ok:cZ T 30 [] (.bool true):=by
 refine aX (af:=a30) rfl (by simp[a30]) cM ?_
 (repeat (first|simp only[↓QA,QB,seval,bM,a30]|refine rd0 rfl ?_))
 refine bC (vO []) (by simp[clr,clrs]) (by simp[okV,okVs]) ?_
 (repeat (first|simp only[↓QA,QB,seval,bM]|refine rd0 rfl ?_))
 ((first|refine aC (pR 1 1 28) rfl dd ?_|refine aF (pR 1 1 28) rfl dd ?_);(repeat (first|simp only[↓QA,QB,seval,bM]|refine rd0 rfl ?_)))
 refine bC (vO [⟨1,1,28⟩]) (by simp[clr,clrs,eL]) (by simp[okV,okVs]) ?_
 (repeat (first|simp only[↓QA,QB,seval,bM]|refine rd0 rfl ?_))
 ((first|refine aC (pR 1 1 33) rfl dd ?_|refine aF (pR 1 1 33) rfl dd ?_);(repeat (first|simp only[↓QA,QB,seval,bM]|refine rd0 rfl ?_)))
 refine bC (vO [⟨1,1,33⟩]) (by simp[clr,clrs,eL]) (by simp[okV,okVs]) ?_
 (repeat (first|simp only[↓QA,QB,seval,bM]|refine rd0 rfl ?_))
 ((first|refine aC (pR 1 1 28) rfl dd ?_|refine aF (pR 1 1 28) rfl dd ?_);(repeat (first|simp only[↓QA,QB,seval,bM]|refine rd0 rfl ?_)))
 ((first|refine aC (pR 2 0 40) rfl dd ?_|refine aF (pR 2 0 40) rfl dd ?_);(repeat (first|simp only[↓QA,QB,seval,bM]|refine rd0 rfl ?_)))
 refine bC (vO [⟨1,1,28⟩,⟨2,0,40⟩]) (by simp[clr,clrs,eL]) (by simp[okV,okVs]) ?_
 (repeat (first|simp only[↓QA,QB,seval,bM]|refine rd0 rfl ?_))
 ((first|refine aC (uZ (exS []) 1 2 (dF _)) rfl dd ?_|refine aF (uZ (exS []) 1 2 (dF _)) rfl dd ?_);(repeat (first|simp only[↓QA,QB,seval,bM,x1,KT]|refine rd0 rfl ?_)))
 ((first|refine aC (uZ exL 1 2 (dF _)) rfl dd ?_|refine aF (uZ exL 1 2 (dF _)) rfl dd ?_);(repeat (first|simp only[↓QA,QB,seval,bM,x2,KT]|refine rd0 rfl ?_)))
 ((first|refine aC (pD (exS []) 1 25 (dF _)) rfl dd ?_|refine aF (pD (exS []) 1 25 (dF _)) rfl dd ?_);(repeat (first|simp only[↓QA,QB,seval,bM,x3,pT]|refine rd0 rfl ?_)))
 ((first|refine aC (pD (exS []) 1 20 (dF _)) rfl dd ?_|refine aF (pD (exS []) 1 20 (dF _)) rfl dd ?_);(repeat (first|simp only[↓QA,QB,seval,bM,x4,pT]|refine rd0 rfl ?_)))
 ((first|refine aC (BA exM (dF _)) rfl dd ?_|refine aF (BA exM (dF _)) rfl dd ?_);(repeat (first|simp only[↓QA,QB,seval,bM,x5,uL]|refine rd0 rfl ?_)))
 ((first|refine aC (pkeeps_ok exL 1 (dF _)) rfl dd ?_|refine aF (pkeeps_ok exL 1 (dF _)) rfl dd ?_);(repeat (first|simp only[↓QA,QB,seval,bM,x6,encIE]|refine rd0 rfl ?_)))
 ((first|refine aC (pkeeps_ok exM 1 (dF _)) rfl dd ?_|refine aF (pkeeps_ok exM 1 (dF _)) rfl dd ?_);(repeat (first|simp only[↓QA,QB,seval,bM,x7,encIE]|refine rd0 rfl ?_)))
 ((first|refine aC (EK (exS []) (dF _)) rfl dd ?_|refine aF (EK (exS []) (dF _)) rfl dd ?_);(repeat (first|simp only[↓QA,QB,seval,bM,x8,uL]|refine rd0 rfl ?_)))
 ((first|refine aC (AH (exS []) (dF _)) rfl dd ?_|refine aF (AH (exS []) (dF _)) rfl dd ?_);(repeat (first|simp only[↓QA,QB,seval,bM,x9,v9]|refine rd0 rfl ?_)))
 ((first|refine aC (FR exW (dF _)) rfl dd ?_|refine aF (FR exW (dF _)) rfl dd ?_);(repeat (first|simp only[↓QA,QB,seval,bM,x10,v9]|refine rd0 rfl ?_)))
 ((first|refine aC (pkeeps_ok exW 0 (dF _)) rfl dd ?_|refine aF (pkeeps_ok exW 0 (dF _)) rfl dd ?_);(repeat (first|simp only[↓QA,QB,seval,bM,x11,encIE]|refine rd0 rfl ?_)))
 refine bR (YA _) ?_;simp only[List.length_cons,List.length_nil,List.cons_append,List.nil_append,OX,DB]
 (repeat (first|simp only[↓QA,QB,seval,bM]|refine rd0 rfl ?_))
 have r1:∀ (b0 b1 b2 b3 b4 b5 b6 b7 b8:ABlk) (τ:St),bN (b0::b1::b2::b3::b4::b5::b6::b7::b8::.cells [.int .i64 50,.int .i64 54,.int .i64 50]::τ) 0 20 (.ref 9 0 3 1)=some (.lit [.int .i64 50,.int .i64 54,.int .i64 50] false none):=fun b0 b1 b2 b3 b4 b5 b6 b7 b8 τ=>by
  rw[O9];simp[lA,aE,sV,aI,AV.cells,AV.cell];try simp only[QS,QC,seval,bM,clrs,clr]
 have r2:∀ (b0 b1 b2 b3 b4 b5 b6 b7 b8 b9:ABlk) (τ:St),bN (b0::b1::b2::b3::b4::b5::b6::b7::b8::b9::.cells [.int .i64 30,.int .i64 32,.int .i64 0,.int .i64 22,.int .i64 26,.int .i64 30,.int .i64 31,.int .i64 2,.int .i64 80,.int .i64 80]::τ) 0 20 (.ref 10 0 2 5)=some (.lit [.agg [.int .i64 30,.int .i64 32,.int .i64 0,.int .i64 22,.int .i64 26],.agg [.int .i64 30,.int .i64 31,.int .i64 2,.int .i64 80,.int .i64 80]] false none):=fun b0 b1 b2 b3 b4 b5 b6 b7 b8 b9 τ=>by
  rw[O9];simp[lA,aE,sV,aI,AV.cells,AV.cell];try simp only[QS,QC,seval,bM,clrs,clr]
 have hia:(if (0:Int)<=1/\(1:Int)<((2:Nat):Int) then some (AV.ptr 10 (Int.toNat 1*5)) else none)=some (.ptr 10 5):=by simp
 ((first|refine aC (dW 80 80) rfl dd ?_|refine aF (dW 80 80) rfl dd ?_);(repeat (first|simp only[↓QA,QB,seval,bM,hia]|refine rd0 rfl ?_)))
 refine QM (AH exK (UV)) ?_ ?_ ?_
 ·try simp only[QS,QC,seval,bM,r1,r2,exK,exS,List.map_cons,List.map_nil]
 ·rw[x12];exact⟨trivial,trivial,trivial⟩
 (repeat (first|simp only[↓QA,QB,seval,bM,x12,v9]|refine rd0 rfl ?_))
 ((first|refine aC (dW 24 35) rfl dd ?_|refine aF (dW 24 35) rfl dd ?_);(repeat (first|simp only[↓QA,QB,seval,bM]|refine rd0 rfl ?_)))
 ((first|refine aC (dW 24 25) rfl dd ?_|refine aF (dW 24 25) rfl dd ?_);(repeat (first|simp only[↓QA,QB,seval,bM]|refine rd0 rfl ?_)))
 ((first|refine aC (dW 2 2) rfl dd ?_|refine aF (dW 2 2) rfl dd ?_);(repeat (first|simp only[↓QA,QB,seval,bM]|refine rd0 rfl ?_)))
 ((first|refine bC (fF [1] [1] (by simp) (by simp)) (by simp[clr,clrs,ints]) (by simp[okV,okVs]) ?_|refine iT (fF [1] [1] (by simp) (by simp)) (by simp[clr,clrs,ints]) (by simp[okV,okVs]) ?_);(repeat (first|simp only[↓QA,QB,seval,bM,eq_self]|refine rd0 rfl ?_)))
 ((first|refine bC (fF [1] [1] (by simp) (by simp)) (by simp[clr,clrs,ints]) (by simp[okV,okVs]) ?_|refine iT (fF [1] [1] (by simp) (by simp)) (by simp[clr,clrs,ints]) (by simp[okV,okVs]) ?_);(repeat (first|simp only[↓QA,QB,seval,bM,eq_self,show (((0:Nat):Int)==0)=true from rfl]|refine rd0 rfl ?_)))
 ((first|refine bC (fF [1] [1] (by simp) (by simp)) (by simp[clr,clrs,ints]) (by simp[okV,okVs]) ?_|refine iT (fF [1] [1] (by simp) (by simp)) (by simp[clr,clrs,ints]) (by simp[okV,okVs]) ?_);(repeat (first|simp only[↓QA,QB,seval,bM,eq_self]|refine rd0 rfl ?_)))
 ((first|refine bC (fF [1] [1] (by simp) (by simp)) (by simp[clr,clrs,ints]) (by simp[okV,okVs]) ?_|refine iT (fF [1] [1] (by simp) (by simp)) (by simp[clr,clrs,ints]) (by simp[okV,okVs]) ?_);(repeat (first|simp only[↓QA,QB,seval,bM,eq_self]|refine rd0 rfl ?_)))
 ((first|refine bC (fF [1] [1] (by simp) (by simp)) (by simp[clr,clrs,ints]) (by simp[okV,okVs]) ?_|refine iT (fF [1] [1] (by simp) (by simp)) (by simp[clr,clrs,ints]) (by simp[okV,okVs]) ?_);(repeat (first|simp only[↓QA,QB,seval,bM,eq_self]|refine rd0 rfl ?_)))
end Go.Am.Room.Ho
namespace Go.Am.Room
def gI:=zz @aK (zz @dA (zz @List.length_append.{0} (zz @Int.toNat_natCast (zz @jK (zz @jQ (@Tu.S_u8s))))))
theorem AL(s:Ho.Ship):mQ (Ho.shipCells s):=aD (aM _ _) (aD (aM _ _) (aD (aM _ _) (aD (gE _) (aD (aM _ _) (aD (eC Ho.data_hold _) (aD (eC Ho.data_line _) cM))))))
instance (s:Ho.Ship):Dats (Ho.shipCells s):=⟨AL s⟩
theorem fN(s:Ho.Ship)(σ:St)(m d:Nat):bT σ m d (Ho.shipCells s)=some (Ho.shipCells s):=gQ (AL s) σ m d
theorem dK(s:Ho.Ship):(Ho.shipCells s).length=7:=rfl
theorem cT(s:Ho.Ship):(Ho.shipCells s).take 7=Ho.shipCells s:=rfl
theorem cU(s:Ho.Ship):(Ho.shipCells s).drop 7=[]:=rfl
theorem cS(s:Ho.Ship):aZ (Ho.shipCells s)=true:=by simp[aZ,Ho.shipCells,ints,AV.cell]
theorem iP(s:Ho.Ship):(Ho.shipCells s)[3]? = some (.lit (s.heat.map (.int .i64)) false none):=rfl
theorem iK(s:Ho.Ship):(Ho.shipCells s)[4]? = some (.int .i64 s.frm):=rfl
theorem iN(s:Ho.Ship):(Ho.shipCells s)[5]? = some (.lit (s.holds.map Ho.encHold) false none):=rfl
theorem Z2(s:Ho.Ship):clrs [.agg (Ho.shipCells s),.lit [] true none]=[Ho.encShip s,ints []]:=by
 have:=(Ho.data_ship s).2;simp only[clrs];rw[show (AV.agg (Ho.shipCells s))=Ho.encShip s from rfl,this];rfl
theorem I5(s:Ho.Ship):okVs 0 [.agg (Ho.shipCells s),.lit [] true none]:=⟨(Ho.data_ship s).1,by simp[okV,okVs],trivial⟩
def AA(F:Nat)(HL:List Int)(k:Nat):Int:=Tu.turnOf HL (F+k)%4
def khL(F:Nat)(HL:List Int)(n:Nat):List Int:=(List.range n).map (AA F HL)
theorem u7(F:Nat)(HL:List Int)(n:Nat):(khL F HL n).length=n:=by simp[khL]
theorem XW(F:Nat)(HL:List Int)(n:Nat):khL F HL (n+1)=khL F HL n++[AA F HL n]:=by simp[khL,List.range_succ]
theorem PS(F:Nat)(HL:List Int)(k:Nat):0<=AA F HL k/\AA F HL k<=3:=by unfold AA;omega
def hvK(F:Nat)(HL:List Int):Nat->AV
 |0=>.lit [] true none
 |n+1=>.lit ((khL F HL (n+1)).map (.int .i64)) false (some 5)
theorem aJV(F:Nat)(HL:List Int)(n:Nat):cA 1 (hvK F HL n)=true:=by cases n<;>simp[hvK,cA,AV.cells,AV.cell]
theorem TB(F:Nat)(HL:List Int)(n:Nat):(hvK F HL n).cells=[hvK F HL n]:=by cases n<;>rfl
def tlK:Nat->St
 |0=>[]
 |n+1=>[.tok 1 (n+1) true]
def kB(s:Ho.Ship)(x:Nat)(g:Span)(HL TL:List Int)(kp wm:Span)(F n:Nat):St :=
 .cells (Ho.shipCells s)::.cells [.int .u8 x,.int .i64 g.lo,.int .i64 g.hi,.lit (HL.map (.int .u8)) false none,.lit (TL.map (.int .u8)) false none]::.cells [.int .i64 kp.lo,.int .i64 kp.hi]::.cells [.int .i64 wm.lo,.int .i64 wm.hi] ::
  .cells [hvK F HL n,.int .i64 0,.lit [.agg [.int .i64 wm.lo,.int .i64 wm.hi]] true none,.lit [.agg [.int .i64 0,.int .i64 0,.int .i64 g.lo,.int .i64 g.hi]] true none,.lit [] true none]::tlK n
theorem BE(s:Ho.Ship)(x:Nat)(g:Span)(HL TL:List Int)(kp wm:Span)(F n:Nat):kB s x g HL TL kp wm F n =
 .cells (Ho.shipCells s)::.cells [.int .u8 x,.int .i64 g.lo,.int .i64 g.hi,.lit (HL.map (.int .u8)) false none,.lit (TL.map (.int .u8)) false none]::.cells [.int .i64 kp.lo,.int .i64 kp.hi]::.cells [.int .i64 wm.lo,.int .i64 wm.hi] ::
  .cells [hvK F HL n,.int .i64 0,.lit [.agg [.int .i64 wm.lo,.int .i64 wm.hi]] true none,.lit [.agg [.int .i64 0,.int .i64 0,.int .i64 g.lo,.int .i64 g.hi]] true none,.lit [] true none]::tlK n:=rfl
theorem aA4(F:Nat)(HL:List Int)(b0 b1 b2 b3 b4:ABlk)(n:Nat)(hn:n<=6):cI 1 8 (b0::b1::b2::b3::b4::tlK n) (hvK F HL n) (.lit [.int .i64 (AA F HL n)] true none)=some (hvK F HL (n+1),b0::b1::b2::b3::b4::tlK (n+1)):=by
 cases n with
 |zero =>
  simp only[hvK,tlK];rw[DW ⟨rfl,by simp[aI,AV.cells,AV.cell],by simp[room],by simp[room]⟩ (by simp)];simp[khL]
 |succ n =>
  simp only[hvK,tlK];rw[j8 (t:=5) (ex:=true) ⟨iU _,by simp[aI,AV.cells,AV.cell],by simp[room,u7];omega,by simp[room,u7];omega⟩ (by simp) (n+1) (by simp[u7]) rfl];simp[XW]
def KI(s:Ho.Ship)(x:Nat)(g:Span)(HL TL:List Int)(kp wm:Span)(F h:Nat)(l:List Ho.Truth)(k:Nat)(e:Env)(σ:St):Prop :=
 Env.get e 2 = .ptr 0 0/\Env.get e 3 = .ptr 1 0/\Env.get e 4 = .bool false/\Env.get e 9=Ho.truthsAV l/\Env.get e 10 = .int .i64 h/\Env.get e 15 = .ptr 4 0/\∃ n:Nat,Env.get e 16 = .int .i64 (F+n:Nat)/\F+n<=s.heat.length/\k=s.heat.length-(F+n)/\σ=kB s x g HL TL kp wm F n
theorem RV(s:Ho.Ship)(hv:Ho.Vd s)(x:Nat)(g:Span)(HL TL:List Int)(hH:Tu.Bytes HL)(kp wm:Span)(F h:Nat)(hF:s.frm=F)(l:List Ho.Truth)(e:Env)(K:KJ)(e2:Env.get e 2 = .ptr 0 0)(e3:Env.get e 3 = .ptr 1 0)(e4:Env.get e 4 = .bool false)(e9:Env.get e 9=Ho.truthsAV l)(e10:Env.get e 10 = .int .i64 h)(e15:Env.get e 15 = .ptr 4 0)(e16:Env.get e 16 = .int .i64 s.frm)(hK:∀ e',Env.get e' 2 = .ptr 0 0->Env.get e' 3 = .ptr 1 0->Env.get e' 4 = .bool false->Env.get e' 9=Ho.truthsAV l->Env.get e' 10 = .int .i64 h->Env.get e' 15 = .ptr 4 0->K (some (.exit 0)) e' (kB s x g HL TL kp wm F (s.heat.length-F))):
  rK (K:=⟨K⟩) T (.loop aJZ) e (kB s x g HL TL kp wm F 0):=by
 have hnh:=hv.nheat
 have hfr:=hv.frm;refine L9 (KI s x g HL TL kp wm F h l) ?_ (s.heat.length-F) _ _ ?_
 ·rintro k e σ ⟨e2,e3,e4,e9,e10,e15,n,e16,hn,hk,rfl⟩;subst hk;have hap:=fun b0 b1 b2 b3 b4=>aA4 F HL b0 b1 b2 b3 b4 n (by omega)
  rw[BE]
  (repeat (first|simp only[↓QA,QB,seval,gI,dK,cT,cU,cS,fN,iP,iK,iN,aJZ,e2,e3,e4,e9,e10,e15,e16]|refine rd0 rfl ?_))
  refine aJ (fun hd=>?_) fun hd=>?_
  ·have hn1:F+n<s.heat.length:=by simp at hd;omega
   have hnu:=Tu.number_ok HL (F+n) hH (by omega);have htb:=Tu.turnOf_bd hH (F+n);have hm:(Tu.turnOf HL (F+n)).tmod 4=AA F HL n:=by unfold AA;exact Int.tmod_eq_emod_of_nonneg htb.1
   have hb:=PS F HL n;have hwm:IntKind.i64.wrap (AA F HL n)=AA F HL n:=bD ⟨by omega,by omega⟩;have hw1:IntKind.i64.wrap (((F+n:Nat):Int)+1)=((F+(n+1):Nat):Int):=by rw[show ((F+(n+1):Nat):Int)=((F+n:Nat):Int)+1 by omega];exact bD ⟨by omega,by omega⟩
   simp only[Tu.u8s] at hnu
   (repeat (first|simp only[↓QA,QB,seval,gI,dK,cT,cU,cS,fN,iP,iK,iN,e2,e3,e4,e9,e10,e15,e16]|refine rd0 rfl ?_))
   ((first|refine aC (hnu) rfl dd ?_|refine aF (hnu) rfl dd ?_);(repeat (first|simp only[↓QA,QB,seval,gI,dK,cT,cU,cS,fN,iP,iK,iN,e2,e3,e4,e9,e10,e15,e16,FN _ _ _ (show (4:Int)≠0 by decide),hm,hwm,hap,hw1,aJV,TB]|refine rd0 rfl ?_)))
   refine⟨s.heat.length-(F+(n+1)),by omega,?_,?_,?_,?_,?_,?_,n+1,?_,by omega,rfl,rfl⟩
   ·try simp only[aB,QE,seval,gI,dK,cT,cU,cS,fN,iP,iK,iN,e2]
   ·try simp only[aB,QE,seval,gI,dK,cT,cU,cS,fN,iP,iK,iN,e3]
   ·try simp only[aB,QE,seval,gI,dK,cT,cU,cS,fN,iP,iK,iN,e4]
   ·try simp only[aB,QE,seval,gI,dK,cT,cU,cS,fN,iP,iK,iN,e9]
   ·try simp only[aB,QE,seval,gI,dK,cT,cU,cS,fN,iP,iK,iN,e10]
   ·try simp only[aB,QE,seval,gI,dK,cT,cU,cS,fN,iP,iK,iN,e15]
   ·try simp only[aB,QE,seval,gI,dK,cT,cU,cS,fN,iP,iK,iN]
  ·have hn1:n=s.heat.length-F:=by simp at hd;omega
   (repeat (first|simp only[↓QA,QB,seval,gI,dK,cT,cU,cS,fN,iP,iK,iN,e2,e3,e4,e9,e10,e15,e16]|refine rd0 rfl ?_))
   have hk:=hK;simp only[BE] at hk;rw[hn1];refine hk _ ?_ ?_ ?_ ?_ ?_ ?_
   ·try simp only[aB,QE,seval,gI,dK,cT,cU,cS,fN,iP,iK,iN,e2]
   ·try simp only[aB,QE,seval,gI,dK,cT,cU,cS,fN,iP,iK,iN,e3]
   ·try simp only[aB,QE,seval,gI,dK,cT,cU,cS,fN,iP,iK,iN,e4]
   ·try simp only[aB,QE,seval,gI,dK,cT,cU,cS,fN,iP,iK,iN,e9]
   ·try simp only[aB,QE,seval,gI,dK,cT,cU,cS,fN,iP,iK,iN,e10]
   ·try simp only[aB,QE,seval,gI,dK,cT,cU,cS,fN,iP,iK,iN,e15]
 ·exact⟨e2,e3,e4,e9,e10,e15,0,by rw[e16,hF];rfl,by omega,rfl,rfl⟩
end Go.Am.Room
namespace Go.Am.Room
def dE:=zz @dK (zz @cT (zz @cU (zz @cS (zz @fN (zz @iP (zz @iK (zz @iN (zz @aK (zz @dA (zz @List.length_append.{0} (zz @Int.toNat_natCast (zz @jK (zz @jQ (zz @Tu.S_u8s (@u7)))))))))))))))
theorem O4(F:Nat)(HL:List Int)(n:Nat):∃ fl tk,hvK F HL n = .lit ((khL F HL n).map (.int .i64)) fl tk:=by
 cases n with
 |zero=>exact⟨true,none,rfl⟩
 |succ n=>exact⟨false,some 5,rfl⟩
def aQJ(f:Nat->Int)(n0:Nat)(a:Int):Prop:=(a = -1/\∀ n,n<=n0->0<f n)\/∃ n:Nat,n<=n0/\a=n/\f n<=0/\∀ j,j<n->0<f j
theorem PR{H v:Nat->Int}{g:Int}:∀ n,(∀ k,k<n->0<=H k/\0<=v k)->oR H v g n<=g
 |0,_=>Int.le_refl _
 |n+1,h=>by
  have:=PR (g:=g) n fun k hk=>h k (by omega)
  have:=h n (by omega);simp only[oR];omega
def AI(f:Nat->Int)(n0:Nat)(P17:AV)(how:Int)(cL:List Int)(σ0:St)(k:Nat)(e:Env)(σ:St):Prop :=
 Env.get e 2 = .ptr 0 0/\Env.get e 15 = .ptr 4 0/\Env.get e 17=P17/\Env.get e 18 = .int .i64 how/\Env.get e 22=ints cL/\σ=σ0/\∃ (i:Nat) (b:Bool),Env.get e 23 = .int .i64 (f i)/\Env.get e 24 = .int .i64 (if b then (i:Int) else -1)/\Env.get e 25 = .int .i64 i/\i<=n0/\k=n0-i /\
  (if b then f i<=0/\∀ j,j<i->0<f j else ∀ j,j<=i->0<f j)
theorem aEH(s:Ho.Ship)(hv:Ho.Vd s)(x:Nat)(g:Span)(HL TL:List Int)(kp wm:Span)(F n0:Nat)(hF:s.frm=F)(hn0:F+n0=s.heat.length)(b5 b6:ABlk)(cL:List Int)(hcl:cL.length=s.heat.length+1)(v:Nat->Int)(hcv:∀ k (h:F+k<cL.length),k<n0->0<=cL[F+k]/\cL[F+k]<=80/\v k=cL[F+k]/14)(g0:Int)(hg0:0<=g0/\g0<=40)(H:Nat->Int)(hH:∀ k,k<n0->H k=AA F HL k)(e:Env)(K:KJ)(P17:AV)(how:Int)(b0:Bool)(e2:Env.get e 2 = .ptr 0 0)(e15:Env.get e 15 = .ptr 4 0)(e17:Env.get e 17=P17)(e18:Env.get e 18 = .int .i64 how)(e22:Env.get e 22=ints cL)(e23:Env.get e 23 = .int .i64 g0)(e24:Env.get e 24 = .int .i64 (if b0 then ((0:Nat):Int) else -1))(e25:Env.get e 25 = .int .i64 0)(hb0:b0=decide (g0=0))(hK:∀ e' a,aQJ (oR H v g0) n0 a->Env.get e' 17=P17->Env.get e' 18 = .int .i64 how->Env.get e' 24 = .int .i64 a->K (some (.exit 2)) e' (kB s x g HL TL kp wm F n0++[b5,b6])):
  rK (K:=⟨K⟩) T (.loop SW) e (kB s x g HL TL kp wm F n0++[b5,b6]):=by
 have hnh:=hv.nheat
 obtain⟨fl,tk,hlit⟩:=O4 F HL n0;refine L9 (AI (oR H v g0) n0 P17 how cL (kB s x g HL TL kp wm F n0++[b5,b6])) ?_ n0 _ _ ?_
 ·rintro k e σ ⟨e2,e15,e17,e18,e22,rfl,i,b,e23,e24,e25,hi,hk,hP⟩;subst hk;simp only[BE,hlit,List.cons_append];have hk2:=hK;simp only[BE,hlit,List.cons_append] at hk2;cases hd:decide ((i:Int)<(n0:Int))
  ·have hi1:i=n0:=by simp at hd;omega
   subst hi1
   (repeat (first|simp only[↓QA,QB,seval,dE,SW,e2,e15,e17,e18,e22,e23,e24,e25,hd]|refine rd0 rfl ?_))
   refine hk2 _ (if b then (i:Int) else -1) ?_ ?_ ?_ ?_
   ·cases b
    ·exact .inl ⟨rfl,fun n hn=>hP n hn⟩
    ·exact .inr ⟨i,Nat.le_refl _,rfl,hP.1,hP.2⟩
   ·try simp only[aB,QE,seval,dE,e17]
   ·try simp only[aB,QE,seval,dE,e18]
   ·try simp only[aB,QE,seval,dE,e24]
  have hi1:i<n0:=by simpa using hd
  have hpos:∀ k,k<n0->0<=H k/\0<=v k:=fun k hk=>by
   have h1:=PS F HL k;obtain⟨h2,h3,h4⟩:=hcv k (by omega) hk;rw[hH k hk,h4];omega
  have hub:=PR (H:=H) (v:=v) (g:=g0) i fun k hk=>hpos k (by omega)
  cases b
  case' true =>
   simp only[if_true] at e24 hP;have hneg:decide ((i:Int)<0)=false:=by simp
   (repeat (first|simp only[↓QA,QB,seval,dE,SW,e2,e15,e17,e18,e22,e23,e24,e25,hd,hneg]|refine rd0 rfl ?_))
   refine hk2 _ (i:Int) (.inr ⟨i,by omega,rfl,hP.1,hP.2⟩) ?_ ?_ ?_
   ·try simp only[aB,QE,seval,dE,e17]
   ·try simp only[aB,QE,seval,dE,e18]
   ·try simp only[aB,QE,seval,dE,e24]
  simp only[Bool.false_eq_true,if_false] at e24 hP;have hneg:decide ((-1:Int)<0)=true:=rfl;have hl1:i<(khL F HL n0).length:=by rw[u7];exact hi1
  have hl2:F+i<cL.length:=by omega
  obtain⟨m0,m80,hvi⟩:=hcv i hl2 hi1;have hy:(khL F HL n0)[i]=AA F HL i:=by simp[khL]
  have hkb:=PS F HL i;obtain⟨y,hye⟩:∃ y,AA F HL i=y:=⟨_,rfl⟩;obtain⟨m,hm⟩:∃ m,cL[F+i]=m:=⟨_,rfl⟩;rw[hye] at hy hkb;rw[hm] at m0 m80 hvi;have hs1:oR H v g0 (i+1)=oR H v g0 i-y-m/14:=by simp only[oR,hvi,hH i hi1,hye]
  have hp0:=hP i (Nat.le_refl _);obtain⟨f,hf⟩:∃ f,oR H v g0 i=f:=⟨_,rfl⟩;rw[hf] at e23 hub hs1 hp0;have w1:IntKind.i64.wrap (f-y)=f-y:=bD ⟨by omega,by omega⟩;have w2:IntKind.i64.wrap (f-y-m/14)=f-y-m/14:=bD ⟨by omega,by omega⟩;have w3:IntKind.i64.wrap ((F:Int)+(i:Int))=((F+i:Nat):Int):=by rw[Int.natCast_add];exact bD ⟨by omega,by omega⟩
  have w4:IntKind.i64.wrap ((i:Int)+1)=((i+1:Nat):Int):=dB hi1 (by omega);have hwa:=Tu.warmth_ok m ⟨m0,by omega⟩
  (repeat (first|simp only[↓QA,QB,seval,dE,SW,e2,e15,e17,e18,e22,e23,e24,e25,hd,hneg,hl1,hi1,hl2,hy,hm,w1,w2,w3,w4,hF]|refine rd0 rfl ?_))
  ((first|refine aC (hwa) rfl dd ?_|refine aF (hwa) rfl dd ?_);(repeat (first|simp only[↓QA,QB,seval,dE,e2,e15,e17,e18,e22,e23,e24,e25,hd,hneg,hl1,hi1,hl2,hy,hm,w1,w2,w3,w4,hF]|refine rd0 rfl ?_)))
  cases hle:decide (f-y-m/14<=0)
  ·have hle':¬f-y-m/14<=0:=by simpa using hle
   (repeat (first|simp only[↓QA,QB,seval,dE,e2,e15,e17,e18,e22,e23,e24,e25,hle,w4]|refine rd0 rfl ?_))
   refine⟨n0-(i+1),by omega,?_,?_,?_,?_,?_,by simp only[BE,hlit,List.cons_append],i+1,false,?_,?_,?_,by omega,rfl,?_⟩
   ·try simp only[aB,QE,seval,dE,e2]
   ·try simp only[aB,QE,seval,dE,e15]
   ·try simp only[aB,QE,seval,dE,e17]
   ·try simp only[aB,QE,seval,dE,e18]
   ·try simp only[aB,QE,seval,dE,e22]
   ·try simp only[aB,QE,seval,dE,hs1]
   ·try simp only[aB,QE,seval,dE,e24]
    try rfl
   ·try simp only[aB,QE,seval,dE]
   ·intro j hj;by_cases hji:j<=i
    ·exact hP j hji
    ·rw[show j=i+1 by omega,hs1];omega
  ·have hle':f-y-m/14<=0:=by simpa using hle
   (repeat (first|simp only[↓QA,QB,seval,dE,e2,e15,e17,e18,e22,e23,e24,e25,hle,w4]|refine rd0 rfl ?_))
   refine⟨n0-(i+1),by omega,?_,?_,?_,?_,?_,by simp only[BE,hlit,List.cons_append],i+1,true,?_,?_,?_,by omega,rfl,by rw[hs1];exact hle',fun j hj=>hP j (by omega)⟩
   ·try simp only[aB,QE,seval,dE,e2]
   ·try simp only[aB,QE,seval,dE,e15]
   ·try simp only[aB,QE,seval,dE,e17]
   ·try simp only[aB,QE,seval,dE,e18]
   ·try simp only[aB,QE,seval,dE,e22]
   ·try simp only[aB,QE,seval,dE,hs1]
   ·try simp only[aB,QE,seval,dE]
    try rfl
   ·try simp only[aB,QE,seval,dE]
 ·refine⟨e2,e15,e17,e18,e22,rfl,0,b0,e23,e24,e25,Nat.zero_le _,rfl,?_⟩;rw[hb0];by_cases hz:g0=0
  ·simp[hz,oR]
  ·have:¬g0=0:=hz;simp only[hz,decide_false,Bool.false_eq_true,if_false];intro j hj;rw[show j=0 by omega];simp only[oR];omega
end Go.Am.Room
namespace Go.Am.Room
def aP:=zz @dK (zz @cT (zz @cU (zz @cS (zz @fN (zz @iP (zz @iK (zz @iN (zz @aK (zz @dA (zz @List.length_append.{0} (zz @Int.toNat_natCast (zz @Tu.S_u8s (zz @Ho.truthsAV_eq (zz @Ho.encHold_eq (@Ho.encTruth_eq)))))))))))))))
set_option maxHeartbeats 8000000 in
theorem MK(s:Ho.Ship)(hf:Ho.Fits s)(x:Nat)(hx:x<256)(g:Span)(HL TL:List Int)(hH:Tu.Bytes HL)(hT:Tu.Bytes TL):cZ T 5 [Ho.encShip s,.agg [.int .u8 x,.int .i64 g.lo,.int .i64 g.hi,Tu.u8s HL,Tu.u8s TL]] (.bool true):=by
 refine aX (af:=a5) rfl (by simp[a5]) dd ?_;have hck:=Ho.refcheck_ok s hf;have a6:=Ho.awake_ok;have a7:=Tu.awake_ok;have hen:=xL g 0 40;simp only[Ho.encShip_eq,Ho.enc3,Tu.u8s] at hck ⊢
 (repeat (first|simp only[↓QA,QB,seval,aP,a5]|refine rd0 rfl ?_))
 ((first|refine aC (hck) rfl dd ?_|refine aF (hck) rfl dd ?_);(repeat (first|simp only[↓QA,QB,seval,aP]|refine rd0 rfl ?_)))
 ((first|refine aC (hen) rfl dd ?_|refine aF (hen) rfl dd ?_);(repeat (first|simp only[↓QA,QB,seval,aP]|refine rd0 rfl ?_)))
 cases c1:((Ho.check s).2.2==0)
 case' false =>
  (repeat (first|simp only[↓QA,QB,seval,aP,c1]|refine rd0 rfl ?_))
  ((first|refine aC (a6) rfl dd ?_|refine aF (a6) rfl dd ?_);(repeat (first|simp only[↓QA,QB,seval,aP]|refine rd0 rfl ?_)))
  ((first|refine aC (a7) rfl dd ?_|refine aF (a7) rfl dd ?_);(repeat (first|simp only[↓QA,QB,seval,aP]|refine rd0 rfl ?_)))
 have c1':(Ho.check s).2.2=0:=by simpa using c1
 have hv:=Ho.vd_of_check c1';cases c2:(j9 g 0 40==0)
 case' false =>
  (repeat (first|simp only[↓QA,QB,seval,aP,c1,c2]|refine rd0 rfl ?_))
  ((first|refine aC (a6) rfl dd ?_|refine aF (a6) rfl dd ?_);(repeat (first|simp only[↓QA,QB,seval,aP]|refine rd0 rfl ?_)))
  ((first|refine aC (a7) rfl dd ?_|refine aF (a7) rfl dd ?_);(repeat (first|simp only[↓QA,QB,seval,aP]|refine rd0 rfl ?_)))
 have c2':j9 g 0 40=0:=by simpa using c2
 have hg:=qP c2';have hw3:IntKind.i64.wrap (g.lo+3)=g.lo+3:=bD ⟨by omega,by omega⟩;cases c3:decide (g.lo+3<g.hi)
 case' true =>
  (repeat (first|simp only[↓QA,QB,seval,aP,c1,c2,hw3,c3]|refine rd0 rfl ?_))
  ((first|refine aC (a6) rfl dd ?_|refine aF (a6) rfl dd ?_);(repeat (first|simp only[↓QA,QB,seval,aP]|refine rd0 rfl ?_)))
  ((first|refine aC (a7) rfl dd ?_|refine aF (a7) rfl dd ?_);(repeat (first|simp only[↓QA,QB,seval,aP]|refine rd0 rfl ?_)))
 have c3':¬g.lo+3<g.hi:=by simpa using c3
 have htr:=Ho.rtruths_ok s hv [] (by simp);have htl:=Ho.truths_len hv [];obtain⟨l,hl⟩:∃ l,Ho.truths s []=l:=⟨_,rfl⟩;rw[hl] at htr htl
 (repeat (first|simp only[↓QA,QB,seval,aP,c1,c2,hw3,c3]|refine rd0 rfl ?_))
 refine bC htr (Z2 s) (I5 s) ?_;cases c4:((l.length:Int)==0)
 case' true =>
  (repeat (first|simp only[↓QA,QB,seval,aP,c4]|refine rd0 rfl ?_))
  ((first|refine aC (a6) rfl dd ?_|refine aF (a6) rfl dd ?_);(repeat (first|simp only[↓QA,QB,seval,aP]|refine rd0 rfl ?_)))
  ((first|refine aC (a7) rfl dd ?_|refine aF (a7) rfl dd ?_);(repeat (first|simp only[↓QA,QB,seval,aP]|refine rd0 rfl ?_)))
 have c4':l≠[]:=by rintro rfl;simp at c4
 have hnh:=hv.nholds;have hn0:((s.holds.length:Nat):Int)≠0:=by omega
 obtain⟨i,hi⟩:∃ i,x%s.holds.length=i:=⟨_,rfl⟩;have hil:i<s.holds.length:=by rw[<-hi];exact Nat.mod_lt _ (by omega)
 have hm0:((x:Int).tmod (s.holds.length:Int))=(i:Int):=by rw[Int.tmod_eq_emod_of_nonneg (by omega),<-hi];norm_cast
 have hw0:IntKind.i64.wrap (x:Int)=x:=bD ⟨by omega,by omega⟩;have hwi:IntKind.i64.wrap (i:Int)=i:=bD ⟨by omega,by omega⟩;have hke:Ho.keepsErr s i=0:=by
  have q3:inR (i:Int) 0 ((s.holds.length:Int)-1)=true:=by simp[inR];omega
  simp[Ho.keepsErr,Ho.errKnown,Ho.errAsk,c1',q3,hl,c4']
 have hkp:=Ho.pkeeps_ok s i hf;have hko:Ho.keepsOf s i=(Ho.keepsIn s l i [],0):=by rw[Ho.keepsOf,if_pos hke,Int.toNat_natCast,hl]
 rw[hko] at hkp;simp only[Ho.encShip_eq,Ho.encIE] at hkp;have hho:=(hv.holds _ (List.getElem_mem hil)).keep;obtain⟨y,hy⟩:∃ y,s.holds[i]=y:=⟨_,rfl⟩;rw[hy] at hho;have u1:=Tu.warmth_ok y.keep.lo ⟨hho.1,by omega⟩;have u2:=Tu.warmth_ok y.keep.hi ⟨by omega,by omega⟩;obtain⟨wm,hwm⟩:∃ wm:Span,(⟨y.keep.lo/14,y.keep.hi/14⟩:Span)=wm:=⟨_,rfl⟩;have hwl:y.keep.lo/14=wm.lo:=by rw[<-hwm]
 have hwh:y.keep.hi/14=wm.hi:=by rw[<-hwm]
 have hwb:0<=wm.lo/\wm.lo<=wm.hi/\wm.hi<=6:=by omega
 rw[hwl] at u1;rw[hwh] at u2
 (repeat (first|simp only[↓QA,QB,seval,aP,c4,hw0,FN _ _ _ hn0,hm0,hwi]|refine rd0 rfl ?_))
 ((first|refine aC (hkp) rfl dd ?_|refine aF (hkp) rfl dd ?_);(repeat (first|simp only[↓QA,QB,seval,aP,hil,hy]|refine rd0 rfl ?_)))
 refine uH [.cells [.int .i64 0,.int .i64 0]] rfl ?_
 (repeat (first|simp only[↓QA,QB,seval,aP,hil,hy]|refine rd0 rfl ?_))
 ((first|refine aC (u1) rfl dd ?_|refine aF (u1) rfl dd ?_);(repeat (first|simp only[↓QA,QB,seval,aP,hil,hy]|refine rd0 rfl ?_)))
 ((first|refine aC (u2) rfl dd ?_|refine aF (u2) rfl dd ?_);(repeat (first|simp only[↓QA,QB,seval,aP,hil,hy]|refine rd0 rfl ?_)))
 cases c5:(Ho.keepsIn s l i []==1)
 case' false =>
  (repeat (first|simp only[↓QA,QB,seval,aP,c5]|refine rd0 rfl ?_))
  ((first|refine aC (a6) rfl dd ?_|refine aF (a6) rfl dd ?_);(repeat (first|simp only[↓QA,QB,seval,aP]|refine rd0 rfl ?_)))
  ((first|refine aC (a7) rfl dd ?_|refine aF (a7) rfl dd ?_);(repeat (first|simp only[↓QA,QB,seval,aP]|refine rd0 rfl ?_)))
 have c5':Ho.keepsIn s l i []=1:=by simpa using c5
 have hw4:IntKind.i64.wrap (wm.lo+3)=wm.lo+3:=bD ⟨by omega,by omega⟩;cases c6:decide (wm.lo+3<wm.hi)
 case' true =>
  (repeat (first|simp only[↓QA,QB,seval,aP,c5,hw4,c6]|refine rd0 rfl ?_))
  ((first|refine aC (a6) rfl dd ?_|refine aF (a6) rfl dd ?_);(repeat (first|simp only[↓QA,QB,seval,aP]|refine rd0 rfl ?_)))
  ((first|refine aC (a7) rfl dd ?_|refine aF (a7) rfl dd ?_);(repeat (first|simp only[↓QA,QB,seval,aP]|refine rd0 rfl ?_)))
 have c6':¬wm.lo+3<wm.hi:=by simpa using c6
 have hfr:=hv.frm;have hnt:=hv.nheat
 obtain⟨F,hF⟩:∃ F:Nat,s.frm=F:=⟨s.frm.toNat,by omega⟩;obtain⟨n0,hn⟩:∃ n0,s.heat.length-F=n0:=⟨_,rfl⟩;have hFn:F+n0=s.heat.length:=by omega
 have hloop:=RV s hv x g HL TL hH y.keep wm F i hF l;rw[hn] at hloop;obtain⟨fl,tk,hlit⟩:=O4 F HL n0;obtain⟨L,hL⟩:∃ L,khL F HL n0=L:=⟨_,rfl⟩;have hLl:L.length=n0:=by rw[<-hL,u7]
 have hLb:∀ n∈L,0<=n/\n<=3:=fun n hn=>by
  rw[<-hL] at hn;obtain⟨k,_,rfl⟩:=List.mem_map.1 hn;exact PS F HL k
 rw[hL] at hlit;have hsn:∀ σ d,bN σ 0 d (.lit (L.map (.int .i64)) fl tk)=some (.lit (L.map (.int .i64)) false none):=fun σ d=>by
  cases tk with
  |none=>rw[ZE,uC];rfl
  |some t=>rw[XI,uC];simp
 have hvc:=aPC (heat:=L) (warm:=wm) (green:=g) (by omega) hLb hwb (by omega) hg (by omega);have hlo:=aIJ hvc hwb.2.1 hg.2.1;have hto:Tu.turnsOf (kC L wm g) 0=(kH (Tu.hoursOf (kC L wm g) 0),eF (Tu.hoursOf (kC L wm g) 0).length (Tu.hoursAll (kC L wm g) 0).length,0):=by rw[Tu.turnsOf,if_pos hlo];rfl
 have hfc:Tu.Fits (kC L wm g):=⟨by show L.length<_;omega,by simp[kC],by simp[kC],by simp[kC]⟩;have htu:=Tu.pturns_ok (kC L wm g) 0 hfc;rw[hto] at htu;have hlaw:=fun v g0 hg0 hv0=>TZ (heat:=L) (warm:=wm) (green:=g) (v:=v) (g:=g0) (fun n hn=>(hLb n hn).1) hwb.1 hwb.2.1 hg0 hv0
 rw[hLl] at hlaw;obtain⟨sp,hsp⟩:∃ sp,kH (Tu.hoursOf (kC L wm g) 0)=sp:=⟨_,rfl⟩;obtain⟨how,hhow⟩:∃ how,eF (Tu.hoursOf (kC L wm g) 0).length (Tu.hoursAll (kC L wm g) 0).length=how:=⟨_,rfl⟩;simp only[hsp,hhow] at htu hlaw;have htu2:cZ T 35 [.agg [.lit (L.map (.int .i64)) false none,.int .i64 0,.lit [.agg [.int .i64 wm.lo,.int .i64 wm.hi]] false none,.lit [.agg [.int .i64 0,.int .i64 0,.int .i64 g.lo,.int .i64 g.hi]] false none,.lit [] false none],.int .i64 0] (.tuple [.agg [.int .i64 sp.lo,.int .i64 sp.hi],.int .i64 how,.int .i64 0]):=htu;have nu0:cZ T 17 [.lit (TL.map (.int .u8)) false none,.int .i64 0] (.int .i64 (Tu.turnOf TL 0)):=Tu.number_ok TL 0 hT (by omega);have nu1:cZ T 17 [.lit (TL.map (.int .u8)) false none,.int .i64 1] (.int .i64 (Tu.turnOf TL 1)):=Tu.number_ok TL 1 hT (by omega);have nu2:cZ T 17 [.lit (TL.map (.int .u8)) false none,.int .i64 2] (.int .i64 (Tu.turnOf TL 2)):=Tu.number_ok TL 2 hT (by omega);have tb0:=Tu.turnOf_bd hT 0;have tb1:=Tu.turnOf_bd hT 1;have tb2:=Tu.turnOf_bd hT 2;have hlp:0<l.length:=List.length_pos_iff.2 c4';have hln:((l.length:Nat):Int)≠0:=by omega
 obtain⟨j,hj,hjl⟩:=Tu.nat_rem tb0.1 hlp;have hwj:IntKind.i64.wrap (j:Int)=j:=bD ⟨by omega,by omega⟩;have htm:l[j]∈Ho.truths s []:=by rw[hl];exact List.getElem_mem hjl
 obtain⟨t,ht⟩:∃ t,l[j]=t:=⟨_,rfl⟩;rw[ht] at htm;obtain⟨m1,m2,m3⟩:=Ho.mem_truths.1 htm;have hsl:t.starts.length=s.holds.length:=by rw[m2];simp
 have hit:i<t.starts.length:=by omega
 have hSe:t.starts[i]=Ho.startsOf s i t.blocked []:=by simp[m2]
 have hSn:=m3 i hil;have hSm:=fun n=>Ho.mem_starts (s:=s) hil (bl:=t.blocked) (but:=[]) (n:=n)
 have hst:=(hv.holds _ (List.getElem_mem hil)).start;obtain⟨S,hS⟩:∃ S,t.starts[i]=S:=⟨_,rfl⟩;rw[<-hSe,hS] at hSn;simp only[<-hSe,hS] at hSm;have hSl:=Ho.starts_len hv i t.blocked [];rw[<-hSe,hS] at hSl;have hSp:0<S.length:=List.length_pos_iff.2 hSn;have hSz:((S.length:Nat):Int)≠0:=by omega
 obtain⟨j2,hj2,hj2l⟩:=Tu.nat_rem tb1.1 hSp;have hwj2:IntKind.i64.wrap (j2:Int)=j2:=bD ⟨by omega,by omega⟩;have ham:S[j2]∈S:=List.getElem_mem hj2l;obtain⟨a,ha⟩:∃ a,S[j2]=a:=⟨_,rfl⟩;rw[ha] at ham;have hab:=((hSm a).1 ham).1;have hbl:t.blocked.length<=4:=(Ho.tok_of hv htm).bl;have hco:=Ho.rcourse_ok s hv i (by omega) a (by omega) t.blocked (by omega);simp only[Ho.encShip_eq] at hco;have hcl:(Ho.course s i a t.blocked).length=s.heat.length+1:=by simp[Ho.course,Ho.courseOf]
 have hcg:∀ k (h:k<(Ho.course s i a t.blocked).length),(Ho.course s i a t.blocked)[k]=Ho.marksAt s i a (Ho.cooled t.blocked i) k:=fun k h=>by simp[Ho.course,Ho.courseOf]
 have hkept:Ho.keptOf s i (Ho.marksAt s i a (Ho.cooled t.blocked i))=true:=by
  refine Ho.keepsIn_one.1 c5' _ ?_;rw[<-hl,Ho.mem_courses hil];refine⟨t,htm,a,by rw[<-hSe,hS];exact ham,?_⟩;have:Ho.restOf t.blocked []=t.blocked:=by simp[Ho.restOf]
  rw[this]
 have hmk:∀ k,k<n0->y.keep.lo<=Ho.marksAt s i a (Ho.cooled t.blocked i) (F+k)/\Ho.marksAt s i a (Ho.cooled t.blocked i) (F+k)<=y.keep.hi:=fun k hk=>by
  unfold Ho.keptOf at hkept;rw[List.getElem?_eq_getElem hil,hy] at hkept;have:=List.all_eq_true.1 hkept ((F+k:Nat):Int) (by rw[hF,bP];omega);rw[Int.toNat_natCast] at this;exact cG.1 this
 obtain⟨cL,hcL⟩:∃ cL,Ho.course s i a t.blocked=cL:=⟨_,rfl⟩;rw[hcL] at hco hcl;simp only[hcL] at hcg;obtain⟨g0,hg0⟩:∃ g0,Tu.fromOf g (Tu.turnOf TL 2)=g0:=⟨_,rfl⟩;have hgi:=Tu.from_in (s:=g) (n:=Tu.turnOf TL 2) hg.2.1 tb2.1;have hfo:=Tu.from_ok g (Tu.turnOf TL 2) hg.1 hg.2.1 (by omega) tb2.1 (by omega);rw[hg0] at hgi hfo;have hat:=aEH s hv x g HL TL y.keep wm F n0 hF hFn (.cells [.int .i64 sp.lo,.int .i64 sp.hi]) (.cells [.lit (t.blocked.map (.int .i64)) false none,.lit (t.starts.map ints) false none]) cL hcl (fun k=>Ho.marksAt s i a (Ho.cooled t.blocked i) (F+k)/14)
  (fun k h hk=>by rw[hcg _ h];have:=hmk k hk;exact⟨by omega,by omega,rfl⟩) g0 (by omega) (Tu.heatAt (kC L wm g)) (fun k hk=>by simp[Tu.heatAt,kC,<-hL,khL,hk])
 have hfin:=hlaw (fun k=>Ho.marksAt s i a (Ho.cooled t.blocked i) (F+k)/14) g0 hgi (fun k hk=>by have:=hmk k hk;omega);obtain⟨f,hfe⟩:∃ f,oR (Tu.heatAt (kC L wm g)) (fun k=>Ho.marksAt s i a (Ho.cooled t.blocked i) (F+k)/14) g0=f:=⟨_,rfl⟩;rw[hfe] at hat hfin;simp only[BE,hlit,List.cons_append] at hat
 have okz:((0:Int)==0)=true:=rfl
 (repeat (first|simp only[↓QA,QB,seval,aP,c5,hw4,c6]|refine rd0 rfl ?_))
 refine hloop _ _ ?_ ?_ ?_ ?_ ?_ ?_ ?_ fun e' q2 q3 q4 q9 q10 q15=>?_
 ·try simp only[aB,QE,seval,aP]
 ·try simp only[aB,QE,seval,aP]
 ·try simp only[aB,QE,seval,aP]
 ·try simp only[aB,QE,seval,aP]
 ·try simp only[aB,QE,seval,aP]
 ·try simp only[aB,QE,seval,aP]
 ·try simp only[aB,QE,seval,aP]
 rw[BE,hlit]
 (repeat (first|simp only[↓QA,QB,seval,aP,q2,q3,q4,q9,q10,q15]|refine rd0 rfl ?_))
 refine QM htu2 (by try simp only[QS,QC,seval,aP,hsn]) (by simp[Scal,Scals]) ?_
 (repeat (first|simp only[↓QA,QB,seval,aP,q2,q3,q4,q9,q10,q15,okz]|refine rd0 rfl ?_))
 ((first|refine aC (nu0) rfl dd ?_|refine aF (nu0) rfl dd ?_);(repeat (first|simp only[↓QA,QB,seval,aP,q2,q3,q4,q9,q10,q15,okz,FN _ _ _ hln,hj,hwj,hjl,ht]|refine rd0 rfl ?_)))
 (repeat (first|simp only[↓QA,QB,seval,aP,q2,q3,q4,q9,q10,q15,okz,hit,hS,ints]|refine rd0 rfl ?_))
 ((first|refine aC (nu1) rfl dd ?_|refine aF (nu1) rfl dd ?_);(repeat (first|simp only[↓QA,QB,seval,aP,q2,q3,q4,q9,q10,q15,okz,hit,hS,ints,FN _ _ _ hSz,hj2,hwj2,hj2l,ha]|refine rd0 rfl ?_)))
 ((first|refine aC (hco) rfl dd ?_|refine aF (hco) rfl dd ?_);(repeat (first|simp only[↓QA,QB,seval,aP,q2,q3,q4,q9,q10,q15,okz]|refine rd0 rfl ?_)))
 ((first|refine aC (nu2) rfl dd ?_|refine aF (nu2) rfl dd ?_);(repeat (first|simp only[↓QA,QB,seval,aP,q2,q3,q4,q9,q10,q15,okz]|refine rd0 rfl ?_)))
 ((first|refine aC (hfo) rfl dd ?_|refine aF (hfo) rfl dd ?_);(repeat (first|simp only[↓QA,QB,seval,aP,q2,q3,q4,q9,q10,q15,okz]|refine rd0 rfl ?_)))
 have last:∀ (e:Env) (K:KJ) (b0:Bool),Env.get e 2 = .ptr 0 0->Env.get e 15 = .ptr 4 0->Env.get e 17 = .ptr ((tlK n0).length+1+1+1+1+1) 0->Env.get e 18 = .int .i64 how->Env.get e 22=ints cL->Env.get e 23 = .int .i64 g0->Env.get e 24 = .int .i64 (if b0 then ((0:Nat):Int) else -1)->Env.get e 25 = .int .i64 0->b0=decide (g0=0)->_->rK (K:=⟨K⟩) T (.loop SW) e _:=fun e K b0 r2 r15 r17 r18 r22 r23 r24 r25 hb0 hK=>hat e K (.ptr ((tlK n0).length+1+1+1+1+1) 0) how b0 r2 r15 r17 r18 r22 r23 r24 r25 hb0 hK
 cases z:(g0==0)
 case' false =>
  have z':¬g0=0:=by simpa using z
  (repeat (first|simp only[↓QA,QB,seval,aP,q2,q3,q4,q9,q10,q15,z]|refine rd0 rfl ?_))
  refine last _ _ false ?_ ?_ ?_ ?_ ?_ ?_ ?_ ?_ (by simp[z']) ?_
  ·try simp only[aB,QE,seval,aP,q2]
  ·try simp only[aB,QE,seval,aP,q15]
  ·try simp only[aB,QE,seval,aP]
  ·try simp only[aB,QE,seval,aP]
  ·try simp only[aB,QE,seval,aP]
  ·try simp only[aB,QE,seval,aP]
  ·try simp only[aB,QE,seval,aP]
   try rfl
  ·try simp only[aB,QE,seval,aP]
 case' true =>
  have z':g0=0:=by simpa using z
  (repeat (first|simp only[↓QA,QB,seval,aP,q2,q3,q4,q9,q10,q15,z]|refine rd0 rfl ?_))
  refine last _ _ true ?_ ?_ ?_ ?_ ?_ ?_ ?_ ?_ (by simp[z']) ?_
  ·try simp only[aB,QE,seval,aP,q2]
  ·try simp only[aB,QE,seval,aP,q15]
  ·try simp only[aB,QE,seval,aP]
  ·try simp only[aB,QE,seval,aP]
  ·try simp only[aB,QE,seval,aP]
  ·try simp only[aB,QE,seval,aP]
  ·try simp only[aB,QE,seval,aP]
   try rfl
  ·try simp only[aB,QE,seval,aP]
 all_goals
  intro e2' a' hA p17 p18 p24;rcases hA with⟨rfl,hA⟩|⟨n,hn1,rfl,hA1,hA2⟩
  ·have h1:(how==1)=false:=by simpa using hfin.1 hA
   (repeat (first|simp only[↓QA,QB,seval,aP,p17,p18,p24,show decide ((-1:Int)<0)=true from rfl,h1]|refine rd0 rfl ?_))
   ((first|refine aC (a6) rfl dd ?_|refine aF (a6) rfl dd ?_);(repeat (first|simp only[↓QA,QB,seval,aP,p17,p18,p24,h1]|refine rd0 rfl ?_)))
   ((first|refine aC (a7) rfl dd ?_|refine aF (a7) rfl dd ?_);(repeat (first|simp only[↓QA,QB,seval,aP,p17,p18,p24,h1]|refine rd0 rfl ?_)))
  ·obtain⟨k1,k2,k3⟩:=hfin.2 n hn1 hA1 hA2;have h2:(how==2)=false:=by simpa using k1
   have h3:decide (sp.lo<=(n:Int))=true:=by simpa using k2
   have h4:decide ((n:Int)<0)=false:=by simp
   cases h1:(how==1)
   ·(repeat (first|simp only[↓QA,QB,seval,aP,p17,p18,p24,h1,h2,h3,h4]|refine rd0 rfl ?_))
    ((first|refine aC (a6) rfl dd ?_|refine aF (a6) rfl dd ?_);(repeat (first|simp only[↓QA,QB,seval,aP,p17,p18,p24,h1,h2,h3,h4]|refine rd0 rfl ?_)))
    ((first|refine aC (a7) rfl dd ?_|refine aF (a7) rfl dd ?_);(repeat (first|simp only[↓QA,QB,seval,aP,p17,p18,p24,h1,h2,h3,h4]|refine rd0 rfl ?_)))
   ·have h5:decide ((n:Int)<=sp.hi)=true:=by simpa using k3 (by simpa using h1)
    (repeat (first|simp only[↓QA,QB,seval,aP,p17,p18,p24,h1,h2,h3,h4,h5]|refine rd0 rfl ?_))
    ((first|refine aC (a6) rfl dd ?_|refine aF (a6) rfl dd ?_);(repeat (first|simp only[↓QA,QB,seval,aP,p17,p18,p24,h1,h2,h3,h4,h5]|refine rd0 rfl ?_)))
    ((first|refine aC (a7) rfl dd ?_|refine aF (a7) rfl dd ?_);(repeat (first|simp only[↓QA,QB,seval,aP,p17,p18,p24,h1,h2,h3,h4,h5]|refine rd0 rfl ?_)))
end Go.Am.Room
