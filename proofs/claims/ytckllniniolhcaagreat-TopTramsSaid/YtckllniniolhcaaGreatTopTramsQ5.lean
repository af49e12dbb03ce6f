/- A part of the proof of TopTrams: an abstract machine, or what functions come to on it. -/
import Derived.Test.YtckllniniolhcaaGreatTopTramsQ4
import Derived.KernelRfl
open Nat (reduceLT reduceEqDiff reduceAdd reduceLeDiff reduceMul)
set_option linter.unusedVariables false
set_option linter.unusedSimpArgs false
set_option linter.defProp false
namespace Go.Am.Room.Tr
theorem aGI{v:Net}(hv:Vd v):gE v.rails []≠[]:=by
 have:v.rails.map (fun r=>if r.shut=1 then 0 else r.mins.lo)∈gE v.rails []:=(lR _ _ _).2 ⟨_,rfl,by simp,fun i h hr=>by
  have h2:=(hv.ra _ (List.getElem_mem hr)).mins;rw[List.getElem?_eq_getElem (by simpa using hr),Option.getD_some,List.getElem_map];obtain⟨z,hz⟩:∃ z,v.rails[i]=z:=⟨_,rfl⟩;rw[hz] at h2 ⊢;simp only[chP,List.mem_append];by_cases q:z.shut=1
  ·rw[if_pos q,if_neg (by omega)];exact .inl (by simp)
  ·rw[if_neg q,if_neg q]
   exact .inr (pM.2 ⟨Int.le_refl _,by omega⟩)⟩
 exact List.ne_nil_of_mem this
theorem aBF{v:Net}{but:List Int}(h:∀ k,k<v.seen.length->but.contains (k:Int)=true)(cs:List Int):lS v but cs=true:=by
 rw[lS,List.all_eq_true];intro k hk;have hk2:k<v.seen.length:=by simpa using hk
 rw[List.getElem?_eq_getElem hk2];simp only[h k hk2,Bool.true_or]
theorem aCF{v:Net}(hv:Vd v){but:List Int}(h:∀ k,k<v.seen.length->but.contains (k:Int)=true):wK v but=true:=by
 obtain⟨c,hc⟩:=List.exists_mem_of_ne_nil _ (aGI hv);have ht:c∈TL v but:=List.mem_filter.2 ⟨hc,aBF h _⟩;obtain⟨s,hs,_⟩:=uX hv ht;rw[wK];cases hh:truths v but with
 |nil=>rw[hh] at hs;cases hs
 |cons a b=>rfl
theorem RQ{v:Net}(hv:Vd v):∀ c∈eJ v.seen.length v.seen.length,wK v c=true:=fun c hc=>by
 have hl:=hv.nse;exact aCF hv fun k hk=>IF ⟨v.seen.length,by omega⟩ c hc ⟨k,by omega⟩ hk
theorem tW(f:List Int->Bool)(n:Nat):∀ k m,eQ f n (k+1) m=(eQ f n k m).or ((eJ n (m+k)).find? f)
 |0,m=>by simp only[eQ,Nat.add_zero];cases (eJ n m).find? f<;>rfl
 |k+1,m=>by
  rw[eQ,tW f n k (m+1)];rw[show eQ f n (k+1) m=(match (eJ n m).find? f with|some l=>some l|none=>eQ f n k (m+1)) from rfl];rw[show m+1+k=m+(k+1) by omega];cases (eJ n m).find? f<;>rfl
theorem K0{v:Net}(hv:Vd v):eQ (wK v) v.seen.length (v.seen.length+1) 0=some (DS v):=by
 have hl:=hv.nse;have h1:=LP ⟨v.seen.length,by omega⟩;simp only at h1;obtain⟨w,hw⟩:=List.length_eq_one_iff.1 h1;have hs:=RQ hv w (by rw[hw];simp);rw[tW,DS,Nat.zero_add,hw];cases eQ (wK v) v.seen.length v.seen.length 0 with
 |some l=>rfl
 |none=>simp[hs]
end Go.Am.Room.Tr
set_option maxRecDepth 8000
namespace Go.Am.Room.Tr
def cA:=zz @encNet_eq (zz @netCells_eq (zz @encRail_eq (zz @encTram_eq (zz @encSeen_eq (zz @aG (zz @S_mapRail (zz @S_mapTram (zz @S_mapSeen (zz @List.length_append.{0} (zz @Nat.mul_one (zz @Int.toNat_natCast (zz @bN (zz @d4 (@sO))))))))))))))
def D8(σ:St)(v:Net)(b:Nat)(A:List K5):St:=σ++[.cells (netCells v),.map (tEs v A),.cells (db v b (σ.length+1))]
theorem aEL(σ:St)(v:Net)(b:Nat):MemAt (D8 σ v b) (db v b (σ.length+1)) (tEs v) (σ.length+2) (σ.length+1) (σ.length+3) :=
 ⟨fun M=>by simp[D8],fun M=>by simp[D8,mF,tR,XO],fun M=>by rw[D8,rE];rfl,fun M M'=>by rw[D8,D8,kD];rfl,fun A k=>u4 v A k,by omega,by omega⟩
theorem GY(v:Net)(hf:Fits v):cP T 190 [encNet v] (RC (CB v)):=by
 refine aQ (af:=ZP) rfl (by simp[ZP]) dd ?_;try simp only[↓QA,QB,seval,cA,ZP]
 (refine aC (uC v hf) rfl dd ?_;try simp only[↓QA,QB,seval,cA,enc3])
 cases h0:((check v).2.2==0)
 ·have h0':(check v).2.2≠0:=by simpa using h0
  have hwo:CB v=([],(check v).2.2):=if_neg h0';rw[hwo];try simp only[↓QA,QB,seval,cA,h0,RC]
  try rfl
 ·have h0':(check v).2.2=0:=by simpa using h0
  have hwo:CB v=(DS v,0):=if_pos h0';have hv:=vd_of_check h0';have hnl:=hv.nse;have hwf:=K0 hv;rw[<-aJU _ _ (by omega)] at hwf;rw[hwo];obtain⟨W,hW⟩:∃ W,DS v=W:=⟨_,rfl⟩;rw[hW] at hwf ⊢;obtain⟨n,hn⟩:∃ n,v.seen.length=n:=⟨_,rfl⟩;rw[hn] at hwf hnl;have hp:2^n<=2^3:=Nat.pow_le_pow_right (by omega) hnl;have hshl:=wW n (by omega);obtain⟨P,hP⟩:∃ P,2^n=P:=⟨_,rfl⟩;have hbl:∀ s,s<P->ButIs s (lst n s):=fun s hs=>aF0 (by omega) (by omega)
  rw[hP] at hp hshl hwf;obtain⟨q,hq⟩:∃ q,wK v=q:=⟨_,rfl⟩;have hqd:∀ l,(!(truths v l).isEmpty)=q l:=fun l=>by rw[<-hq];rfl
  rw[hq] at hwf;try simp only[↓QA,QB,seval,cA,h0,hn,hshl]
  refine bS (S:=Nat×Option (List Int)) (0,none) (fun x=>x.1<=P/\oT q n (P-x.1) x.1 x.2=some W/\(x.2.getD []).length<=n) (fun x=>P-x.1)
   (fun x=>[(1,.ptr 0 0),(2,ints (x.2.getD [])),(4,.bool x.2.isSome),(19,.int .i64 P),(20,.int .i64 x.1)])
   (fun x=>[.cells (netCells v)]) ⟨by simp,by simpa using hwf,by simp⟩ (by simp[netCells,ints]) ?_ fun x hx=>?_
  ·try simp only[aB,QE,seval,cA,ints,Option.getD_none,Option.isSome_none]
   try simp[clr,clrs]
  ·obtain⟨s,o⟩:=x;obtain⟨hs,hfo,hol⟩:=hx;simp only at hs hfo hol;try simp only[↓QA,QB,seval,cA,aA8]
   refine aE (fun h=>?_) fun h=>?_
   ·have hs1:s<P:=by simpa using h
    have hw:=bL hs1 (by omega);have hll:=RN n s;have hlk:=mB [.cells (netCells v)] v s;have hso:=GZ (aEL [.cells (netCells v)] v s) hv (hbl s hs1) [];have e0:tEs v []=[]:=rfl;rw[hqd] at hso;have hlo:=v3 s n (by omega) (by omega);rw[show P-s=(P-(s+1))+1 by omega] at hfo;simp only[oT] at hfo;obtain⟨L,hL⟩:∃ L,lst n s=L:=⟨_,rfl⟩;rw[hL] at hfo hll hlo hso;obtain⟨qL,hqL⟩:∃ x,q L=x:=⟨_,rfl⟩;rw[hqL] at hso;simp only[D8,lC,e0] at hso hlk;try simp only[↓QA,QB,seval,cA,List.cons_append,List.nil_append,List.length_cons,List.length_nil] at hso hlk
    try simp only[↓QA,QB,seval,cA,hn,Option.getD_some]
    (refine aC (hlo) rfl dd ?_;try simp only[↓QA,QB,seval,cA])
    cases o with
    |none =>
     have hst:kL q none L=if q L=true then some L else none:=rfl
     try simp only[↓QA,QB,seval,cA,Option.isSome_none,Option.getD_none]
     refine aW hlk ?_;try simp only[↓QA,QB,seval,cA]
     refine aW hso ?_;try simp only[↓QA,QB,seval,cA]
     cases qL
     ·rw[hqL] at hst;simp only[Bool.false_eq_true,if_false] at hst;rw[hst] at hfo;try simp only[↓QA,QB,seval,cA,hw]
      refine⟨(s+1,none),⟨by simp only;omega,hfo,by simp⟩,by simp only;omega,?_⟩;try simp only[aB,QE,seval,cA,hw,Option.isSome_none,Option.getD_none]
      try simp[ints,aJ]
     ·rw[hqL] at hst;simp only[if_true] at hst;rw[hst] at hfo;try simp only[↓QA,QB,seval,cA,hw]
      refine⟨(s+1,some L),⟨by simp only;omega,hfo,by simpa using hll⟩,by simp only;omega,?_⟩;try simp only[aB,QE,seval,cA,hw,Option.isSome_some,Option.getD_some]
      try simp[ints,aJ]
    |some b =>
     simp only[Option.getD_some] at hol;simp only[Option.isSome_some,vR];try simp only[↓QA,QB,seval,cA,Option.isSome_some,Option.getD_some]
     have fin:∀ (hfw:g7 b L=false),kL q (some b) L=if q L=true then some L else some b:=fun hfw=>by simp only[kL,hfw];rfl
     cases h1:decide ((b.length:Int)<(L.length:Int))
     ·have h1':¬b.length<L.length:=by simpa using h1
      try simp only[↓QA,QB,seval,cA,Option.getD_some,h1]
      cases h2:((L.length:Int)==(b.length:Int))
      ·have h2':¬b.length=L.length:=by intro h;rw[h] at h2;simp at h2
       have hst:=fin (by simp[g7,h1',h2']);try simp only[↓QA,QB,seval,cA,h2]
       refine aW hlk ?_;try simp only[↓QA,QB,seval,cA]
       refine aW hso ?_;try simp only[↓QA,QB,seval,cA]
       cases qL
       ·rw[hqL] at hst;simp only[Bool.false_eq_true,if_false] at hst;rw[hst] at hfo;try simp only[↓QA,QB,seval,cA,hw]
        refine⟨(s+1,some b),⟨by simp only;omega,hfo,by simpa using hol⟩,by simp only;omega,?_⟩;try simp only[aB,QE,seval,cA,hw,Option.isSome_some,Option.getD_some]
        try simp[ints,aJ]
       ·rw[hqL] at hst;simp only[if_true] at hst;rw[hst] at hfo;try simp only[↓QA,QB,seval,cA,hw]
        refine⟨(s+1,some L),⟨by simp only;omega,hfo,by simpa using hll⟩,by simp only;omega,?_⟩;try simp only[aB,QE,seval,cA,hw,Option.isSome_some,Option.getD_some]
        try simp[ints,aJ]
      ·have h2':b.length=L.length:=by simp at h2;omega
       try simp only[↓QA,QB,seval,cA,Option.getD_some,h2]
       (refine aC (aDF L b (by omega) (by omega)) rfl dd ?_;try simp only[↓QA,QB,seval,cA,GO,Option.getD_some])
       cases h3:less b L
       ·have hst:=fin (by simp[g7,h2',h3]);try simp only[↓QA,QB,seval,cA,h3]
        refine aW hlk ?_;try simp only[↓QA,QB,seval,cA]
        refine aW hso ?_;try simp only[↓QA,QB,seval,cA]
        cases qL
        ·rw[hqL] at hst;simp only[Bool.false_eq_true,if_false] at hst;rw[hst] at hfo;try simp only[↓QA,QB,seval,cA,hw]
         refine⟨(s+1,some b),⟨by simp only;omega,hfo,by simpa using hol⟩,by simp only;omega,?_⟩;try simp only[aB,QE,seval,cA,hw,Option.isSome_some,Option.getD_some]
         try simp[ints,aJ]
        ·rw[hqL] at hst;simp only[if_true] at hst;rw[hst] at hfo;try simp only[↓QA,QB,seval,cA,hw]
         refine⟨(s+1,some L),⟨by simp only;omega,hfo,by simpa using hll⟩,by simp only;omega,?_⟩;try simp only[aB,QE,seval,cA,hw,Option.isSome_some,Option.getD_some]
         try simp[ints,aJ]
       ·have hfw:g7 b L=true:=by simp[g7,h2',h3]
        have hst:kL q (some b) L=some b:=by simp only[kL,hfw,if_true]
        rw[hst] at hfo;try simp only[↓QA,QB,seval,cA,h3,hw]
        refine⟨(s+1,some b),⟨by simp only;omega,hfo,by simpa using hol⟩,by simp only;omega,?_⟩;try simp only[aB,QE,seval,cA,hw,Option.isSome_some,Option.getD_some]
        try simp[ints,aJ]
     ·have h1':b.length<L.length:=by simpa using h1
      have h2':¬b.length=L.length:=by omega
      have hfw:g7 b L=true:=by simp[g7,h1',h2']
      have hst:kL q (some b) L=some b:=by simp only[kL,hfw,if_true]
      rw[hst] at hfo;try simp only[↓QA,QB,seval,cA,h1,hw]
      refine⟨(s+1,some b),⟨by simp only;omega,hfo,by simpa using hol⟩,by simp only;omega,?_⟩;try simp only[aB,QE,seval,cA,hw,Option.isSome_some,Option.getD_some]
      try simp[ints,aJ]
   ·have hs1:s=P:=by simp at h;omega
    rw[hs1,Nat.sub_self] at hfo;simp only[oT] at hfo;subst hfo;try simp only[↓QA,QB,seval,cA,RC,Option.getD_some]
    try try simp only[QS,QC,seval,cA]
end Go.Am.Room.Tr
namespace Go.Am.Room.Tr
def S3:=zz @aG (@List.length_append.{0})
theorem m9(a b:Int):cP T 192 [.int .i64 a,.int .i64 b] (cV ⟨a,b⟩):=by
 refine aQ (af:=aAV) rfl (by simp[aAV]) dd ?_;try simp only[↓QA,QB,seval,S3,aAV]
end Go.Am.Room.Tr
namespace Go.Am.Room.Tr
def iE:=zz @encNet_eq (zz @netCells_eq (zz @encRail_eq (zz @encTram_eq (zz @encSeen_eq (zz @aG (zz @S_mapRail (zz @S_mapTram (zz @S_mapSeen (zz @bN (@List.length_append.{0}))))))))))
theorem FT(p n:Int):cP T 182 [.int .i64 p,.int .i64 n] (encSeen ⟨p,n⟩):=by
 refine aQ (af:=UT) rfl (by simp[UT]) dd ?_;try simp only[↓QA,QB,seval,iE,UT]
theorem yV(o:Bool)(l:List Seen):cP T 181 [.bool o,.lit (l.map encSeen) false none] (encNet (exN o l)):=by
 refine aQ (af:=aBN) rfl (by simp[aBN]) dd ?_
 (repeat (first|simp only[↓QA,QB,seval,iE,aBN]|refine rd0 rfl ?_))
 ((first|refine aC (m9 5 6) rfl dd ?_|refine aS (m9 5 6) rfl dd ?_);(repeat (first|simp only[↓QA,QB,seval,iE]|refine rd0 rfl ?_)))
 ((first|refine aC (m9 4 4) rfl dd ?_|refine aS (m9 4 4) rfl dd ?_);(repeat (first|simp only[↓QA,QB,seval,iE]|refine rd0 rfl ?_)))
 ((first|refine aC (m9 12 12) rfl dd ?_|refine aS (m9 12 12) rfl dd ?_);(repeat (first|simp only[↓QA,QB,seval,iE]|refine rd0 rfl ?_)))
 ((first|refine aC (m9 3 3) rfl dd ?_|refine aS (m9 3 3) rfl dd ?_);(repeat (first|simp only[↓QA,QB,seval,iE]|refine rd0 rfl ?_)))
 cases o
 ·(repeat (first|simp only[↓QA,QB,seval,iE,exN,ZS,N0,List.map_cons,List.map_nil]|refine rd0 rfl ?_))
  simp[HB,j6,aD,nR,aI,AV.cells,AV.cell,EQ,P2,Y7,ZT,VH,CP,S_mapSeen,ints]
 ·have i0:(0:Int)<=0/\(0:Int)<((4:Nat):Int):=by decide
  have i2:(0:Int)<=2/\(2:Int)<((4:Nat):Int):=by decide
  (repeat (first|simp only[↓QA,QB,seval,iE,exN,ZS,N0,List.map_cons,List.map_nil,i0,i2,List.flatMap_cons,List.flatMap_nil,AV.cells,Int.toNat_zero,show (2:Int).toNat=2 from rfl]|refine rd0 rfl ?_))
  simp[HB,j6,aD,nR,aI,AV.cells,AV.cell,EQ,P2,Y7,ZT,VH,CP,S_mapSeen,ints]
theorem cH(o:Bool)(l:List Seen)(h:l.length<=100:=by decide):Fits (exN o l):=⟨by simp[exN],by simp[exN],by simp[exN];omega,fun k hk=>by
 simp only[exN,List.mem_cons,List.not_mem_nil,or_false] at hk;rcases hk with rfl|rfl<;>decide,fun k hk=>by
 simp only[exN,List.mem_cons,List.not_mem_nil,or_false] at hk
 rcases hk with rfl|rfl<;>decide⟩
def someV(v:Net):Bool:=decide ((check v).2.2=0)&&wK v []
theorem aEA(a b:List (List Int))(ha:a.length<9223372036854775808)(hb:b.length<9223372036854775808)(hl:∀ r∈a,r.length<9223372036854775808)(hm:∀ r∈b,r.length<9223372036854775808):cP T 191 [bR a,bR b] (.bool (decide (a=b))):=by
 refine aQ (af:=XM) rfl (by simp[XM]) dd ?_;have hlb:=aGE a.length b.length
 (repeat (first|simp only[↓QA,QB,seval,iE,XM,cM]|refine rd0 rfl ?_))
 refine bS (S:=Nat×Bool) (0,decide (a.length=b.length)) (fun x=>x.1<=a.length/\(x.2=true->a.length=b.length/\a.take x.1=b.take x.1)/\(x.2=false->a≠b)) (fun x=>a.length+1-x.1-(if x.2=true then 0 else 1))
  (fun x=>[(0,bR a),(1,bR b),(5,.bool x.2),(6,.int .i64 x.1)]) (fun _=>[]) ⟨by simp,by simp,fun h e=>by rw[e] at h;simp at h⟩ rfl ?_ fun x hx=>?_
 ·try simp only[aB,QE,seval,iE,cM,hlb]
  try simp
 ·obtain⟨k,o⟩:=x;obtain⟨hk,h1,h2⟩:=hx;simp only at hk h1 h2
  (repeat (first|simp only[↓QA,QB,seval,iE,XX,cM]|refine rd0 rfl ?_))
  cases o
  ·have hne:=h2 rfl;have:decide (a=b)=false:=by simpa using hne
   rw[this]
   (repeat (first|simp only[↓QA,QB,seval,iE]|refine rd0 rfl ?_))
  ·obtain⟨hle,htk⟩:=h1 rfl
   (repeat (first|simp only[↓QA,QB,seval,iE,cM]|refine rd0 rfl ?_))
   refine aE (fun h=>?_) fun h=>?_
   ·have hk1:k<a.length:=by simpa using h
    have hk2:k<b.length:=by omega
    have hw:=bL hk1 ha;have hio:=mQ a[k] b[k] (hl _ (List.getElem_mem hk1)) (hm _ (List.getElem_mem hk2))
    (repeat (first|simp only[↓QA,QB,seval,iE,hk1,hk2,cM]|refine rd0 rfl ?_))
    ((first|refine aC (hio) rfl dd ?_|refine aS (hio) rfl dd ?_);(repeat (first|simp only[↓QA,QB,seval,iE,hk1,hk2]|refine rd0 rfl ?_)))
    refine⟨(k+1,decide (a[k]=b[k])),⟨by simp only;omega,fun q=>⟨hle,?_⟩,fun q e=>?_⟩,?_,?_⟩
    ·rw[List.take_succ_eq_append_getElem hk1,List.take_succ_eq_append_getElem hk2,htk];simp only[decide_eq_true_eq] at q;rw[q]
    ·subst e;simp at q
    ·simp only;split<;>omega
    ·try simp only[aB,QE,seval,iE,hw,cM]
   ·have hk1:k=a.length:=by simp at h;omega
    have:a=b:=by
     rw[hk1,List.take_length] at htk;rw[htk,hle,List.take_length]
    rw[decide_eq_true this]
    (repeat (first|simp only[↓QA,QB,seval,iE]|refine rd0 rfl ?_))
theorem T7{v:Net}{but:List Int}:wK v but=true↔truths v but≠[]:=by
 rw[wK];cases truths v but<;>simp
theorem some_iff{v:Net}:someV v=true↔(check v).2.2=0/\truths v []≠[]:=by
 rw[someV,Bool.and_eq_true,decide_eq_true_eq,T7]
theorem aSO{v:Net}(hs:someV v=true){t:Nat}(ht:t<v.trams.length):mK v (t:Int)=0:=by
 obtain⟨hc,hne⟩:=some_iff.1 hs;have hin:inR (t:Int) 0 ((v.trams.length:Int)-1)=true:=cQ.2 (by omega);simp[mK,jP,hc,hne,hin]
theorem comes_tr{v:Net}(hs:someV v=true){t:Nat}(ht:t<v.trams.length):comesR v (t:Int)=((comesS (atsIn v (truths v []) t)).1,(comesS (atsIn v (truths v []) t)).2,0):=by
 rw[comesR,if_pos (aSO hs ht),Int.toNat_natCast]
theorem ZW{l:List Int}{c:Int}:c∈eM l↔c∈l/\c≠-1:=by
 rw[eM,List.mem_filter];simp
theorem comes_span{l:List Int}{c:Int}(h:c∈l)(hc:c≠-1):(comesS l).1.lo<=c/\c<=(comesS l).1.hi:=by
 have hm:=ZW.2 ⟨h,hc⟩;exact (pU (List.ne_nil_of_mem hm)).2.2 _ hm
theorem how_must{l:List Int}(h:l≠[]):(comesS l).2=1↔∀ c∈l,c≠-1:=by
 simp only[comesS,fA];have hf:(eM l).length=l.length↔∀ c∈l,c≠-1:=by
  rw[eM,List.length_filter_eq_length_iff];simp
 constructor
 ·intro q;split at q
  ·rename_i q2;exact hf.1 (by simpa using q2)
  ·split at q<;>cases q
 ·intro q;rw[if_pos (by have:=hf.2 q;simpa using this)]
end Go.Am.Room.Tr
namespace Go.Am.Room.Fa
def kF:=zz @Tr.encNet_eq (zz @Tr.netCells_eq (zz @Tr.encRail_eq (zz @Tr.encTram_eq (zz @Tr.encSeen_eq (zz @Tr.S_mapRail (zz @Tr.S_mapTram (zz @Tr.S_mapSeen (zz @dJ (zz @aG (zz @bN (@List.length_append.{0})))))))))))
def daysAt(m:Int):Int:=1+m/100
theorem days_ok(m:Int)(h0:0<=m)(h1:m<=1000):cP T 54 [.int .i64 m] (.int .i64 (daysAt m)):=by
 refine aQ (af:=a54) rfl (by simp[a54]) dd ?_;have e:m.tdiv 100=m/100:=Int.tdiv_eq_ediv_of_nonneg h0;have w1:IntKind.i64.wrap (m/100)=m/100:=cC ⟨by omega,by omega⟩;have w2:IntKind.i64.wrap (1+m/100)=1+m/100:=cC ⟨by omega,by omega⟩;try simp only[↓QA,QB,seval,kF,a54,aO0 .i64 m 100 (by omega),e,w1,w2,daysAt]
def goodS(x:Span×Int×Int):Bool:=x.2.2==0&&x.2.1==1&&inR x.1.lo 0 400&&inR x.1.hi x.1.lo 300
def minTo(v:Tr.Net)(k:Nat):List Span:=(List.range k).map fun (i:Nat)=>(Tr.comesR v (i:Int)).1
def allGood(v:Tr.Net)(k:Nat):Bool:=(List.range k).all fun (i:Nat)=>goodS (Tr.comesR v (i:Int))
def comeAV(v:Tr.Net):AV:=if allGood v v.trams.length=true then .tuple [.lit ((minTo v v.trams.length).map cV) false none,.bool true] else .tuple [.lit [] false none,.bool false]
theorem minTo_len(v:Tr.Net)(k:Nat):(minTo v k).length=k:=by simp[minTo]
theorem OH(v:Tr.Net)(k:Nat):minTo v (k+1)=minTo v k++[(Tr.comesR v (k:Int)).1]:=by simp[minTo,List.range_succ]
theorem I2(v:Tr.Net)(k:Nat):allGood v (k+1)=(allGood v k&&goodS (Tr.comesR v (k:Int))):=by simp[allGood,List.range_succ]
theorem L9{v:Tr.Net}{k:Nat}(h:goodS (Tr.comesR v (k:Int))=false):∀ m,k<m->allGood v m=false:=by
 intro m hm;rw[allGood,List.all_eq_false];exact⟨k,List.mem_range.2 hm,by simp[h]⟩
theorem RY{k:Nat}{l:List Span}{s:Span}{b:ABlk}{ex:Bool}{τ:St}(hk:l.length=k)(hn:k<1000):dH 2 16 (b::.tok 2 k ex::τ) (.lit (l.map cV) false (some 1)) (.lit [.agg [.int .i64 s.lo,.int .i64 s.hi]] true none)=some (.lit ((l++[s]).map cV) false (some 1),b::.tok 2 (k+1) true::τ):=by
 rw[vF (ex:=ex) ⟨mJ 2 _ l (fun x=>rfl),by simp[aI,AV.cells,AV.cell],by simp[room,hk];omega,by simp[room,hk];omega⟩ (by simp) (by simp[hk])];simp[hk,cV]
theorem come_ok(v:Tr.Net)(hf:Tr.Fits v)(ht:v.trams.length<=3):cP T 50 [Tr.encNet v] (comeAV v):=by
 refine aQ (af:=a50) rfl (by simp[a50]) dd ?_;try simp only[↓QA,QB,seval,kF,a50]
 refine kT 4 2 [] rfl ?_;refine bS (S:=Nat×Bool) (0,false) (fun s=>s.1<=v.trams.length/\allGood v s.1=true) (fun s=>v.trams.length-s.1)
  (fun s=>[(1,.ptr 0 0),(4,.lit ((minTo v s.1).map cV) false (some 1)),(5,.int .i64 s.1)]) (fun s=>[.cells (Tr.netCells v),.tok 2 s.1 s.2]) (by simp[allGood]) (by simp[Tr.netCells]) ?_ fun s hs=>?_
 ·try simp only[aB,QE,seval,kF]
  try simp[minTo]
 ·obtain⟨k,ex⟩:=s;obtain⟨hk,hg⟩:=hs;simp only at hk hg;have hl:=minTo_len v k;try simp only[↓QA,QB,seval,kF,aHZ]
  refine aE (fun h=>?_) fun h=>?_
  ·have hk1:k<v.trams.length:=by simpa using h
   have hw:=bL hk1 (by omega);have hgs:=I2 v k;have hms:=OH v k;have hng:=fun (h:goodS (Tr.comesR v (k:Int))=false)=>L9 h v.trams.length hk1
   have hcm:=Tr.pcomes_ok v hf k;obtain⟨x,hx⟩:∃ x,Tr.comesR v (k:Int)=x:=⟨_,rfl⟩;rw[hx] at hgs hms hng hcm;obtain⟨s,w,e⟩:=x;simp only[goodS] at hgs hms hng;have hap:=fun (b:ABlk) (τ:St)=>RY (k:=k) (l:=minTo v k) (s:=s) (b:=b) (ex:=ex) (τ:=τ) hl (by omega)
   try simp only[↓QA,QB,seval,kF,hk1]
   (refine aC (hcm) rfl dd ?_;try simp only[↓QA,QB,seval,kF,Tr.encSIE])
   have bad:(e==0&&w==1&&inR s.lo 0 400&&inR s.hi s.lo 300)=false->comeAV v = .tuple [.lit [] false none,.bool false]:=fun h=>by rw[comeAV,hng h];rfl
   cases h1:(e==0)
   ·try simp only[↓QA,QB,seval,kF,h1]
    rw[bad (by rw[h1];rfl)];try rfl
   ·cases h2:(w==1)
    ·try simp only[↓QA,QB,seval,kF,h1,h2]
     rw[bad (by rw[h1,h2];rfl)];try rfl
    ·try simp only[↓QA,QB,seval,kF,h1,h2]
     (refine aC (gP s.lo 0 400) rfl dd ?_;try simp only[↓QA,QB,seval,kF,h1,h2])
     cases h3:inR s.lo 0 400
     ·try simp only[↓QA,QB,seval,kF,h3]
      rw[bad (by rw[h1,h2,h3];rfl)];try rfl
     ·try simp only[↓QA,QB,seval,kF,h3]
      (refine aC (gP s.hi s.lo 300) rfl dd ?_;try simp only[↓QA,QB,seval,kF,h1,h2,h3])
      cases h4:inR s.hi s.lo 300
      ·try simp only[↓QA,QB,seval,kF,h4]
       rw[bad (by rw[h1,h2,h3,h4];rfl)];try rfl
      ·rw[h1,h2,h3,h4] at hgs;try simp only[↓QA,QB,seval,kF,h4,hap,hw]
       refine⟨(k+1,true),⟨by simp only;omega,by simp only;rw[hgs,hg];rfl⟩,by simp only;omega,?_⟩;try simp only[aB,QE,seval,kF,hw,hms,List.map_append,List.map_cons,List.map_nil]
       try simp[aJ]
  ·have hk1:k=v.trams.length:=by simp at h;omega
   subst hk1;try simp only[↓QA,QB,seval,kF,comeAV,hg]
   try simp
end Go.Am.Room.Fa
namespace Go.Am.Room.Ca
structure FmOk (x:Fm):Prop where
 way:1<=x.way/\x.way<=4
 notice:0<=x.notice/\x.notice<=3
 keep:x.way<=x.keep/\x.keep<=9
 hands:0<=x.hands.lo/\x.hands.lo<=x.hands.hi/\x.hands.hi<=60
structure Vd (p:Port):Prop where
 hold:1<=p.hold/\p.hold<=200
 come:0<=p.come.lo/\p.come.lo<=p.come.hi/\p.come.hi<=10
 nfm:p.farms.length<=3
 name:∀ i (h:i<p.farms.length),fresh p.farms[i].name ((p.farms.take i).map Fm.name)=0
 fm:∀ x∈p.farms,FmOk x
theorem aOB{x:Fm}(h:vB x=0):FmOk x:=by
 unfold vB at h;split at h
 ·omega
 ·rename_i h1;simp only[not_or,Bool.not_eq_false,cQ] at h1;exact⟨h1.1,h1.2.1,h1.2.2,vQ h⟩
theorem vd_of_check{p:Port}(h:(check p).2.2=0):Vd p:=by
 unfold check at h;split at h
 ·cases h
 rename_i h1;simp only[not_or,Bool.not_eq_false,cQ] at h1;split at h
 case isFalse h2=>exact absurd h h2
 rename_i h2;unfold jV at h;split at h
 ·cases h
 rename_i h3;split at h
 ·rename_i i e he;exact absurd h (jH he)
 rename_i g1;have b1:∀ i (hi:i<p.farms.length),fresh p.farms[i].name ((p.farms.take i).map Fm.name)=0/\vB p.farms[i]=0:=fun i hi=>by
  have:=wM g1 i hi;rw[Nat.zero_add] at this;unfold F5 at this;split at this
  ·rename_i h4;exact⟨h4,this⟩
  ·rename_i h4;exact absurd this h4
 refine⟨h1.1,vQ h2,by omega,fun i hi=>(b1 i hi).1,fun x hx=>?_⟩;obtain⟨i,hi,rfl⟩:=List.getElem_of_mem hx;exact aOB (b1 i hi).2
structure LdOk (n:Nat) (y:Load):Prop where
 least:0<=y.least/\y.least<=60*n
 most:0<=y.most/\y.most<=60*n
 vain:0<=y.vain/\y.vain<=60*n
theorem aKO{x:Fm}(hx:FmOk x){n:Nat}{y:Load}(hy:LdOk n y)(c d:Int):LdOk (n+1) (E8 x c d y):=by
 obtain⟨h1,h2,h3⟩:=hy;obtain⟨_,_,_,h4⟩:=hx;unfold E8;split
 ·exact⟨by omega,by omega,by omega⟩
 ·split
  ·exact⟨by simp only;omega,by simp only;omega,by simp only;omega⟩
  ·exact⟨by simp only;omega,by simp only;omega,by simp only;omega⟩
theorem zE{p:Port}(hv:Vd p)(l:Nat->Int)(d:Int):∀ n,LdOk n (kU p l d n)
 |0=>⟨by simp[kU],by simp[kU],by simp[kU]⟩
 |n+1=>by
  have ih:=zE hv l d n;simp only[kU];split
  ·rename_i x hx;exact aKO (hv.fm x (List.mem_of_getElem? hx)) ih _ _
  ·obtain⟨h1,h2,h3⟩:=ih;exact⟨by omega,by omega,by omega⟩
theorem T5{p:Port}{n:Nat}(h:n<p.farms.length)(l:Nat->Int)(d:Int):kU p l d (n+1)=E8 p.farms[n] (l n) d (kU p l d n):=by simp[kU,h]
theorem wT{p:Port}{n:Nat}(h:n<p.farms.length)(l:Nat->Int):iU p l (n+1)=if l n = -1 then iU p l n else iU p l n+p.farms[n].hands.hi:=by simp[iU,h]
theorem JB{p:Port}(hv:Vd p)(l:Nat->Int):∀ n,0<=iU p l n/\iU p l n<=60*n
 |0=>by simp[iU]
 |n+1=>by
  have ih:=JB hv l n;simp only[iU];split
  ·rename_i x hx;have:=(hv.fm x (List.mem_of_getElem? hx)).hands;split<;>omega
  ·omega
theorem rT(p:Port):(lD p).length=(p.come.hi+1-p.come.lo).toNat:=jF _ _
theorem aFB{B:Nat}(hB:B<=11){x:Int}(h:x∈zB B):-1<=x/\x<=10:=by
 unfold zB at h;rcases List.mem_append.1 h with h|h
 ·rw[cL] at h;omega
 ·have:x = -1:=by simpa using h
  omega
theorem yW{B:Nat}(hB:B<=11):∀ n,∀ l∈gQ B n,l.length=n/\∀ x∈l,-1<=x/\x<=10
 |0=>by simp[gQ]
 |n+1=>by
  intro l hl;simp only[gQ,List.mem_flatMap,List.mem_map] at hl;obtain⟨q,hq,x,hx,rfl⟩:=hl;obtain⟨h1,h2⟩:=yW hB n q hq;refine⟨by simp[h1],fun y hy=>?_⟩;rcases List.mem_append.1 hy with hy|hy
  ·exact h2 y hy
  ·have:y=x:=by simpa using hy
   subst this;exact aFB hB hx
structure WOk (p:Port) (w:List Int):Prop where
 len:w.length=p.farms.length
 bd:∀ x∈w,-1<=x/\x<=10
theorem BO{w:List Int}(h:∀ x∈w,-1<=x/\x<=10)(i:Nat):-1<=gF w i/\gF w i<=10:=by
 unfold gF;cases e:w[i]? with
 |none=>simp
 |some x=>have:=h x (List.mem_of_getElem? e);simpa using this
theorem aM6{p:List Int}{i:Nat}(h:p.length<=i):gF p i=0:=by simp[gF,List.getElem?_eq_none h]
end Go.Am.Room.Ca
set_option maxRecDepth 4000
namespace Go.Am.Room.Ca
def dE:=zz @dK (zz @aM (zz @d5 (zz @aG (@d8))))
theorem YV(x:Fm):cP T 173 [cW x] (.int .i64 (vB x)):=by
 refine aQ (af:=U2) rfl (by simp[U2]) dd ?_;have he:vB x=if inR x.way 1 4=false\/inR x.notice 0 3=false\/inR x.keep x.way 9=false then 7 else kG x.hands 0 60:=rfl
 obtain⟨E,hE⟩:∃ E,vB x=E:=⟨_,rfl⟩;rw[hE] at he ⊢;have e1:=H4 x.hands 0 60;simp only[aG] at e1;try simp only[↓QA,QB,seval,dE,U2]
 (refine aC (gP x.way 1 4) rfl dd ?_;try simp only[↓QA,QB,seval,dE])
 cases h1:inR x.way 1 4
 ·rw[h1] at he;simp only[true_or,if_true] at he;subst he;try simp only[↓QA,QB,seval,dE]
 ·rw[h1] at he;try simp only[↓QA,QB,seval,dE]
  (refine aC (gP x.notice 0 3) rfl dd ?_;try simp only[↓QA,QB,seval,dE])
  cases h2:inR x.notice 0 3
  ·rw[h2] at he;simp only[true_or,or_true,if_true] at he;subst he;try simp only[↓QA,QB,seval,dE]
  ·rw[h2] at he;try simp only[↓QA,QB,seval,dE]
   (refine aC (gP x.keep x.way 9) rfl dd ?_;try simp only[↓QA,QB,seval,dE])
   cases h3:inR x.keep x.way 9
   ·rw[h3] at he;simp only[or_true,if_true] at he;subst he;try simp only[↓QA,QB,seval,dE]
   ·rw[h3] at he;simp only[Bool.true_eq_false,or_self,if_false] at he;subst he;try simp only[↓QA,QB,seval,dE]
    (refine aC (e1) rfl dd ?_;try simp only[↓QA,QB,seval,dE])
theorem w7{k:Nat}{ns:List ByteArray}{s:ByteArray}{b:ABlk}{ex:Bool}(hk:ns.length=k)(hn:k<16):dH 1 16 [b,.tok 1 k ex] (.lit (ns.map .str) false (some 1)) (.lit [.str s] true none)=some (.lit ((ns++[s]).map .str) false (some 1),[b,.tok 1 (k+1) true]):=by
 rw[vF (ex:=ex) ⟨mJ 1 _ ns (fun x=>UN _),by simp[aI,AV.cells,AV.cell],by simp[room,hk];omega,by simp[room,hk];omega⟩ (by simp) (by simp[hk])];simp[hk]
theorem zT{p:Port}{k:Nat}(h:k<p.farms.length):(p.farms.take (k+1)).map Fm.name=(p.farms.take k).map Fm.name++[p.farms[k].name]:=by
 rw[List.take_succ_eq_append_getElem h,List.map_append];rfl
theorem NV(s:Span)(lo hi:Int):kG s lo hi=0\/kG s lo hi=2\/kG s lo hi=7:=by
 unfold kG;split
 ·exact .inr (.inr rfl)
 ·split
  ·exact .inr (.inl rfl)
  ·exact .inl rfl
set_option maxHeartbeats 1000000 in
theorem refcheck_ok(v:Port)(h:Fits v):cP T 46 [encPort v] (enc3 (check v)):=by
 refine aQ (af:=a46) rfl (by simp[a46]) dd ?_;have hfk:=h.farms;have e1:=H4 v.come 0 10;have ec:=NV v.come 0 10;have hc0:check v=if inR v.hold 1 200=false\/kG v.come 0 10=7 then (1,0,7) else if kG v.come 0 10=0 then jV v else (1,0,kG v.come 0 10):=rfl
 simp only[aG] at e1;obtain⟨E,hE⟩:∃ E,kG v.come 0 10=E:=⟨_,rfl⟩;rw[hE] at e1 ec hc0;obtain⟨R,hR⟩:∃ R,check v=R:=⟨_,rfl⟩;rw[hR] at hc0 ⊢;try simp only[↓QA,QB,seval,dE,a46]
 (refine aC (e1) rfl dd ?_;try simp only[↓QA,QB,seval,dE])
 (refine aC (gP v.hold 1 200) rfl dd ?_;try simp only[↓QA,QB,seval,dE])
 cases h1:inR v.hold 1 200
 ·have:R=(1,0,7):=by rw[hc0,h1];simp
  subst this;try simp only[↓QA,QB,seval,dE]
  rfl
 rw[h1] at hc0;rcases ec with rfl|rfl|rfl
 case inr.inl =>
  have:R=(1,0,2):=by rw[hc0];simp
  subst this;try simp only[↓QA,QB,seval,dE,show ((2:Int)==7)=false from rfl,show ((2:Int)==0)=false from rfl]
  rfl
 case inr.inr =>
  have:R=(1,0,7):=by rw[hc0];simp
  subst this;try simp only[↓QA,QB,seval,dE,show ((7:Int)==7)=true from rfl]
  rfl
 have hc0:R=jV v:=by rw[hc0];simp
 rw[hc0];try simp only[↓QA,QB,seval,dE,show ((0:Int)==7)=false from rfl,show ((0:Int)==0)=true from rfl]
 cases h6:decide ((3:Int)<(v.farms.length:Int))
 case' true =>
  have h6':3<v.farms.length:=by have:=of_decide_eq_true h6;omega
  try simp only[↓QA,QB,seval,dE]
  simp[jV,h6',enc3]
 have h6':¬3<v.farms.length:=by have:=of_decide_eq_false h6;omega
 have hc:jV v=match bC (F5 v) v.farms 0 with|some (i,e)=>(2,(i:Int),e)|none=>(0,0,0):=by simp only[jV,h6',if_false]<;>rfl
 rw[hc];try simp only[↓QA,QB,seval,dE]
 refine kT 6 1 [] rfl ?_;refine bS (S:=Nat×Bool) (0,false) (fun s=>s.1<=v.farms.length/\bC (F5 v) (v.farms.drop s.1) s.1=bC (F5 v) v.farms 0) (fun s=>v.farms.length-s.1)
  (fun s=>[(1,.ptr 0 0),(6,.lit (((v.farms.take s.1).map Fm.name).map .str) false (some 1)),(7,.int .i64 s.1)]) (fun s=>[.cells (aF v),.tok 1 s.1 s.2]) ⟨Nat.zero_le _,by simp⟩ (by simp[aF,ints]) ?_ fun s hs=>?_
 ·try simp only[aB,QE,seval,dE]
  try simp
 obtain⟨k,ex⟩:=s;obtain⟨hk,hb⟩:=hs;simp only at hk hb;have hlen:((v.farms.take k).map Fm.name).length=k:=by simp[hk]
 try simp only[↓QA,QB,seval,dE,aH4]
 refine aE (fun hd=>?_) fun hd=>?_
 ·have hk1:k<v.farms.length:=by simpa using hd
  rw[iM hk1] at hb;have hw:=bL hk1 hfk;have hap:=w7 (k:=k) (ns:=(v.farms.take k).map Fm.name) (s:=v.farms[k].name) (b:=.cells (aF v)) (ex:=ex) hlen (by omega);rw[aM] at hap;have hset:F5 v k v.farms[k]=if fresh v.farms[k].name ((v.farms.take k).map Fm.name)=0 then vB v.farms[k] else fresh v.farms[k].name ((v.farms.take k).map Fm.name):=rfl
  try simp only[↓QA,QB,seval,dE,hk1,hw]
  (refine sU (KE v.farms[k].name ((v.farms.take k).map Fm.name) (h.names _ (List.getElem_mem hk1)) (by rw[hlen];omega)) (by try simp only[QS,QC,seval,dE]) trivial ?_;try simp only[↓QA,QB,seval,dE,hk1,hw,hap])
  cases hf:(fresh v.farms[k].name ((v.farms.take k).map Fm.name)==0)
  ·have hf':fresh v.farms[k].name ((v.farms.take k).map Fm.name)≠0:=by simpa using hf
   rw[hset,if_neg hf',if_neg hf'] at hb;rw[<-hb];try simp only[↓QA,QB,seval,dE,hk1,hw,hap,hf]
   rfl
  ·have hf':fresh v.farms[k].name ((v.farms.take k).map Fm.name)=0:=by simpa using hf
   rw[hset,if_pos hf'] at hb;have hr:=YV v.farms[k];try simp only[↓QA,QB,seval,dE,hf,hk1,hap]
   (refine aC (hr) rfl dd ?_;try simp only[↓QA,QB,seval,dE,hk1])
   cases hg:(vB v.farms[k]==0)
   ·have hg':vB v.farms[k]≠0:=by simpa using hg
    rw[if_neg hg'] at hb;rw[<-hb];try simp only[↓QA,QB,seval,dE,hg]
    rfl
   ·have hg':vB v.farms[k]=0:=by simpa using hg
    try simp only[↓QA,QB,seval,dE,hg,hw]
    refine⟨(k+1,true),⟨by simp only;omega,by rw[<-hb,if_pos hg']⟩,by simp only;omega,?_⟩;try simp only[aB,QE,seval,dE,zT hk1,hw]
    try simp[aJ]
 ·have hk1:k=v.farms.length:=by simp at hd;omega
  rw[jK hk1] at hb;rw[<-hb];try simp only[↓QA,QB,seval,dE]
  rfl
end Go.Am.Room.Ca
namespace Go.Am.Room.Ca
def aX:=zz @dK (zz @aM (zz @d5 (zz @aG (@d8))))
theorem HY(lo hi n:Int):gH T (.func 416 [] [.ptr 0 0,.ptr 1 0]) [.int .i64 n] [.cells [.int .i64 lo],.cells [.int .i64 hi]] (.bool (Tr.outside lo hi n)):=by
 refine dA (af:=ZG) rfl (by simp[ZG]) ?_;try simp only[↓QA,QB,seval,aX,ZG]
 refine aE (fun h=>?_) fun h=>?_
 all_goals
  try simp only[↓QA,QB,seval,aX,h]
  refine dN [] (by first|rfl|simp) ?_;try simp only[QS,QC,seval,aX,Tr.outside,h]
  try simp
theorem m6(lo hi:Int)(ns:List Int)(hl:ns.length<9223372036854775808):cP T 311 [.int .i64 lo,.int .i64 hi,ints ns] (.bool (Tr.beyond lo hi ns)):=by
 refine aQ (af:=Z3) rfl (by simp[Z3]) dd ?_;try simp only[↓QA,QB,seval,aX,Z3]
 refine aV (Tr.contains_int _ _ ns (Tr.outside lo hi) hl (fun τ=>?_) fun x _=>HY lo hi x) ?_
 ·try simp only[QS,QC,seval,aX]
 ·try simp only[↓QA,QB,seval,aX,Tr.beyond]
theorem VO(σ:St)(f:AV)(l:List Fm)(p:Fm->Bool)(hl:l.length<9223372036854775808)(hk:tL σ f)(h:∀ x∈l,gH T f [cW x] σ (.bool (p x))):gH T (.func 489 [] []) [.lit (l.map cW) false none,f] σ (.int .i64 (Tr.idxOf p l 0)):=by
 refine dA (af:=Z6) rfl (by simp[Z6]) ?_;have hk0:=hk.nil;try simp only[↓QA,QB,seval,aX,Z6]
 refine bS (S:=Nat) 0 (fun k=>k<=l.length/\Tr.idxOf p (l.drop k) k=Tr.idxOf p l 0) (fun k=>l.length-k) (fun k=>[(0,.lit (l.map cW) false none),(1,f),(7,.int .i64 l.length),(8,.int .i64 k)]) (fun _=>σ) ⟨Nat.zero_le _,by simp⟩ rfl ?_ fun k hk1=>?_
 ·try simp only[aB,QE,seval,aX]
  try simp
 ·obtain⟨hkl,hi⟩:=hk1;try simp only[↓QA,QB,seval,aX,WP]
  refine aE (fun hd=>?_) fun hd=>?_
  ·have hlt:k<l.length:=by simpa using hd
   rw[List.drop_eq_getElem_cons hlt] at hi;simp only[Tr.idxOf] at hi;have hw:=bL hlt hl;try simp only[↓QA,QB,seval,aX,hlt]
   refine aV (h l[k] (List.getElem_mem hlt)) ?_;try simp only[↓QA,QB,seval,aX]
   cases hp:p l[k]
   ·try simp only[↓QA,QB,seval,aX,hw]
    refine⟨k+1,⟨by omega,by rw[<-hi,hp];rfl⟩,by omega,?_⟩;try simp only[aB,QE,seval,aX,hw,hk0,Nat.le_refl,d8]
   ·try simp only[↓QA,QB,seval,aX]
    refine dN [] (by first|rfl|simp) ?_;rw[<-hi,hp];try simp only[QS,QC,seval,aX]
  ·have hlt:k=l.length:=by simp at hd;omega
   try simp only[↓QA,QB,seval,aX]
   refine dN [] (by first|rfl|simp) ?_;rw[<-hi,hlt,List.drop_length];try simp only[QS,QC,seval,aX,Tr.idxOf]
theorem MP(σ:St)(f:AV)(l:List Fm)(p:Fm->Bool)(hl:l.length<9223372036854775808)(hk:tL σ f)(h:∀ x∈l,gH T f [cW x] σ (.bool (p x))):gH T (.func 439 [] []) [.lit (l.map cW) false none,f] σ (.bool (l.any p)):=by
 refine dA (af:=VA) rfl (by simp[VA]) ?_;try simp only[↓QA,QB,seval,aX,VA]
 refine aV (VO σ f l p hl hk h) ?_;try simp only[↓QA,QB,seval,aX]
 refine dN [] (by first|rfl|simp) ?_;rw[<-Tr.idxOf_any p l 0];try simp only[QS,QC,seval,aX]
theorem PY{p:Port}(hv:Vd p){i:Nat}(hi:i<p.farms.length):pP p.farms[i].name=true/\kR p.farms[i].name ((p.farms.take i).map Fm.name)=((p.farms.take i).map Fm.name).length:=by
 have:=hv.name i hi;unfold fresh at this;split at this
 ·omega
 ·rename_i h;split at this
  ·rename_i h2;exact⟨by simpa using h,h2⟩
  ·omega
theorem aIT(p:Port)(hf:Fits p)(hv:Vd p)(i:Nat)(hi:i<p.farms.length):cP T 437 [.lit (p.farms.map cW) false none,.int .i64 i] (.bool false):=by
 refine aQ (af:=WQ) rfl (by simp[WQ]) dd ?_;have h1:=(PY hv hi).1;have hsz:=hf.names _ (List.getElem_mem hi);obtain⟨x,hx⟩:∃ x,p.farms[i]=x:=⟨_,rfl⟩;rw[hx] at h1 hsz;try simp only[↓QA,QB,seval,aX,WQ,hi,hx]
 (refine aC (Tr.handname_ok x.name hsz) rfl dd ?_;try simp only[↓QA,QB,seval,aX,h1])
theorem aG3(g:List Fm)(i:Nat)(hi:i<g.length)(x:Fm):gH T (.func 440 [] [.ptr 0 0,.ptr 1 0]) [cW x] [.cells [.lit (g.map cW) false none],.cells [.int .i64 i]] (.bool (decide (x.name=g[i].name))):=by
 refine dA (af:=aB9) rfl (by simp[aB9]) ?_;obtain⟨y,hy⟩:∃ y,g[i]=y:=⟨_,rfl⟩;rw[hy]
 (repeat (first|simp only[↓QA,QB,seval,aX,aB9,hi,hy,CD]|refine rd0 rfl ?_))
 refine dN _ rfl ?_;try simp only[QS,QC,seval,aX]
theorem aJO(p:Port)(hf:Fits p)(hv:Vd p)(i:Nat)(hi:i<p.farms.length):cP T 438 [.lit (p.farms.map cW) false none,.int .i64 i] (.bool false):=by
 refine aQ (af:=X1) rfl (by simp[X1]) dd ?_;have h1:=(PY hv hi).2;have hfg:=hf.farms;have hc:=MP [.cells [.lit (p.farms.map cW) false none],.cells [.int .i64 i]] (.func 440 [] [.ptr 0 0,.ptr 1 0]) (p.farms.take i) (fun x=>decide (x.name=p.farms[i].name)) (by simp;omega) (fun τ=>by try simp only[QS,QC,seval,aX]) fun x _=>aG3 p.farms i hi x
 rw[Tr.any_nameOf] at hc;have h2:decide (kR p.farms[i].name ((p.farms.take i).map Fm.name)≠((p.farms.take i).map Fm.name).length)=false:=by rw[decide_eq_false_iff_not];exact fun h=>h h1
 rw[h2] at hc;try simp only[↓QA,QB,seval,aX,X1,aBD (enc:=cW) (l:=p.farms) (Nat.le_of_lt hi)]
 refine aV hc ?_;try simp only[↓QA,QB,seval,aX]
theorem aKQ(p:Port)(hf:Fits p)(hv:Vd p)(i:Nat)(hi:i<p.farms.length):cP T 441 [.lit (p.farms.map cW) false none,.int .i64 i] (.bool false):=by
 refine aQ (af:=aBL) rfl (by simp[aBL]) dd ?_;obtain⟨g1,g2,g3,g4,g5,g6⟩:=hv.fm _ (List.getElem_mem hi);obtain⟨x,hx⟩:∃ x,p.farms[i]=x:=⟨_,rfl⟩;rw[hx] at g1 g2 g3 g4 g5 g6;have b1:=cQ.2 g1;have b2:=cQ.2 g2;have b3:=cQ.2 g3;have b4:(!inR x.hands.lo 0 60||!inR x.hands.hi 0 60)=false:=by rw[cQ.2 (show 0<=x.hands.lo/\x.hands.lo<=60 by omega),cQ.2 (show 0<=x.hands.hi/\x.hands.hi<=60 by omega)];rfl
 try simp only[↓QA,QB,seval,aX,aBL,hi,hx]
 (refine bM (m6 1 4 [x.way] (by simp)) (by simp[clr,clrs,ints]) (by simp[okV,okVs]) ?_;try simp only[↓QA,QB,seval,aX,Tr.beyond1,b1,hi,hx])
 (refine bM (m6 0 3 [x.notice] (by simp)) (by simp[clr,clrs,ints]) (by simp[okV,okVs]) ?_;try simp only[↓QA,QB,seval,aX,Tr.beyond1,b2,hi,hx])
 (refine bM (m6 x.way 9 [x.keep] (by simp)) (by simp[clr,clrs,ints]) (by simp[okV,okVs]) ?_;try simp only[↓QA,QB,seval,aX,Tr.beyond1,b3,hi,hx])
 (refine bM (m6 0 60 [x.hands.lo,x.hands.hi] (by simp)) (by simp[clr,clrs,ints]) (by simp[okV,okVs]) ?_;try simp only[↓QA,QB,seval,aX,Tr.beyond2,b4,hi,hx])
theorem aLZ(p:Port)(hf:Fits p)(hv:Vd p)(i:Nat)(hi:i<p.farms.length):cP T 442 [.lit (p.farms.map cW) false none,.int .i64 i] (.bool false):=by
 refine aQ (af:=aAK) rfl (by simp[aAK]) dd ?_;have g4:=(hv.fm _ (List.getElem_mem hi)).hands;obtain⟨x,hx⟩:∃ x,p.farms[i]=x:=⟨_,rfl⟩;rw[hx] at g4;have b1:decide (x.hands.hi<x.hands.lo)=false:=by simp;omega
 (repeat (first|simp only[↓QA,QB,seval,aX,aAK,hi,hx,b1]|refine rd0 rfl ?_))
def A2:List (Int×Nat):=[(6,437),(5,438),(7,441),(2,442)]
def DP(p:Int×Nat):AV:=.agg [.int .i64 p.1,.func p.2 [] []]
theorem YE(p:Int×Nat):DP p = .agg [.int .i64 p.1,.func p.2 [] []]:=by simp only[DP]
theorem W3:cP T 328 [] (.lit (A2.map DP) false none):=by
 refine aQ (af:=YX) rfl (by simp[YX]) aZ ?_;try simp only[↓QA,QB,seval,aX,YX,A2,DP,List.map_cons,List.map_nil]
 try simp[okV,okVs,cB,bJ,snap,snaps]
set_option maxHeartbeats 1000000 in
theorem lE(p:Port)(hf:Fits p)(hv:Vd p):cP T 195 [encPort p] (enc3 (0,0,0)):=by
 refine aQ (af:=VC) rfl (by simp[VC]) dd ?_;have hnf:=hv.nfm;obtain⟨c1,c2,c3⟩:=hv.come;have b1:=cQ.2 hv.hold;have b2:(!inR p.come.lo 0 10||!inR p.come.hi 0 10)=false:=by rw[cQ.2 (show 0<=p.come.lo/\p.come.lo<=10 by omega),cQ.2 (show 0<=p.come.hi/\p.come.hi<=10 by omega)];rfl
 have b3:decide (p.come.hi<p.come.lo)=false:=by simp;omega
 have b4:decide ((3:Int)<(p.farms.length:Int))=false:=by simp;omega
 have hlen:(A2.map DP).length=4:=rfl;have hle2:A2.length=4:=rfl;try simp only[↓QA,QB,seval,aX,VC]
 (refine bM (m6 1 200 [p.hold] (by simp)) (by simp[clr,clrs,ints]) (by simp[okV,okVs]) ?_;try simp only[↓QA,QB,seval,aX,Tr.beyond1,b1])
 (refine bM (m6 0 10 [p.come.lo,p.come.hi] (by simp)) (by simp[clr,clrs,ints]) (by simp[okV,okVs]) ?_;try simp only[↓QA,QB,seval,aX,Tr.beyond2,b2,b3,b4])
 try simp only[↓QA,QB,seval,aX,b3,b4]
 refine bS (S:=Nat) 0 (fun k=>k<=p.farms.length) (fun k=>p.farms.length-k) (fun k=>[(1,.ptr 0 0),(38,.int .i64 p.farms.length),(39,.int .i64 k)]) (fun _=>[.cells (aF p)]) (Nat.zero_le _) (by simp[aF]) ?_ fun i hk=>?_
 ·try simp only[aB,QE,seval,aX]
  try simp
 try simp only[↓QA,QB,seval,aX,aBB]
 refine aE (fun hd=>?_) fun hd=>?_
 ·have hi:i<p.farms.length:=by simpa using hd
  have hwi:=bL hi (by omega);try simp only[↓QA,QB,seval,aX]
  refine aC W3 rfl aZ ?_;try simp only[↓QA,QB,seval,aX,hlen,hle2]
  refine bS (S:=Nat) 0 (fun k=>k<=4) (fun k=>4-k) (fun k=>[(1,.ptr 0 0),(5,.int .i64 i),(38,.int .i64 p.farms.length),(39,.int .i64 i),(42,.lit (A2.map DP) false none),(43,.int .i64 4),(44,.int .i64 k)]) (fun _=>[.cells (aF p)]) (by omega) (by simp[aF]) ?_ fun k hk=>?_
  ·try simp only[aB,QE,seval,aX]
   try simp
  try simp only[↓QA,QB,seval,aX,aDB]
  refine aE (fun hd=>?_) fun hd=>?_
  ·have hk1:k<4:=by simp at hd;omega
   have hw:=bL hk1 (by omega);have hlk:k<A2.length:=hk1;have hpk:∃ e id,A2[k]=(e,id)/\cP T id [.lit (p.farms.map cW) false none,.int .i64 i] (.bool false):=by
    match k,hlk with
    |0,_=>exact⟨_,_,rfl,aIT p hf hv i hi⟩
    |1,_=>exact⟨_,_,rfl,aJO p hf hv i hi⟩
    |2,_=>exact⟨_,_,rfl,aKQ p hf hv i hi⟩
    |3,_=>exact⟨_,_,rfl,aLZ p hf hv i hi⟩
   obtain⟨e,id,hid,hp⟩:=hpk;have hcl:bI 2 (.agg [.int .i64 e,.func id [] []])=true:=by simp[bI,AV.cells,AV.cell]
   try simp only[↓QA,QB,seval,aX,hlk,hid,hcl,YE]
   (refine aC (hp) rfl dd ?_;try simp only[↓QA,QB,seval,aX])
   refine⟨k+1,by omega,by omega,?_⟩;try simp only[aB,QE,seval,aX,hw]
   try simp[aJ,A2,DP,okV,okVs,cB,bJ,snap,snaps,clrs,clr]
  ·try simp only[↓QA,QB,seval,aX]
   refine⟨i+1,by omega,by omega,?_⟩;try simp only[aB,QE,seval,aX,hwi]
   try simp[aJ]
 ·try simp only[↓QA,QB,seval,aX,enc3]
def lv(B:Nat):Nat->List Int->List (List Int)
 |0,l=>[l]
 |n+1,l=>(zB B).flatMap fun x=>lv B n (l++[x])
theorem aH5(B:Nat):∀ k n,(gQ B n).flatMap (lv B k)=gQ B (n+k)
 |0,n=>by
  show (gQ B n).flatMap (fun l=>[l])=gQ B n
  simp
 |k+1,n=>by
  rw[show n+(k+1)=(n+1)+k by omega,<-aH5 B k (n+1)];simp only[gQ,List.flatMap_assoc,List.flatMap_map];rfl
theorem aLJ(B n:Nat):lv B n []=gQ B n:=by
 have:=aH5 B n 0;simpa[gQ] using this
theorem wH:∀ (k:Nat) (n:Int),(aR n k).Nodup
 |0,n=>by simp[aR]
 |k+1,n=>by
  simp only[aR,List.nodup_cons];refine⟨fun h=>?_,wH k (n+1)⟩;rw[cL] at h;omega
theorem VG{α β:Type}(f:α->β){l:List α}(h:l.Nodup)(hi:∀ a∈l,∀ b∈l,f a=f b->a=b):(l.map f).Nodup:=by
 unfold List.Nodup at h ⊢;rw[List.pairwise_map];exact h.imp_of_mem fun ha hb hne e=>hne (hi _ ha _ hb e)
theorem NO(B:Nat):(zB B).Nodup:=by
 unfold zB;rw[List.nodup_append];refine⟨wH _ _,by simp,fun a ha b hb=>?_⟩;rw[cL] at ha;have:b = -1:=by simpa using hb
 omega
theorem BM{B:Nat}(hB:B<=11):∀ n,(gQ B n).Nodup
 |0=>by simp[gQ]
 |n+1=>by
  have ih:=BM hB n;have hin:=yW hB n;simp only[gQ];unfold List.Nodup;rw[List.pairwise_flatMap];refine⟨fun p _=>VG _ (NO B) fun a _ b _ e=>?_,?_⟩
  ·simpa using e
  ·refine List.Pairwise.imp_of_mem ?_ ih;intro p q hp hq hne x hx y hy e;obtain⟨a,_,rfl⟩:=List.mem_map.1 hx;obtain⟨b,_,rfl⟩:=List.mem_map.1 hy;refine hne (List.append_inj_left e ?_);rw[(hin p hp).1,(hin q hq).1]
theorem HV{p:Port}{B:Nat}(hB:B<=11){w:List Int}(h:w∈gQ B p.farms.length):WOk p w:=⟨(yW hB _ w h).1,(yW hB _ w h).2⟩
def tI(w:List Int)(la:Nat->Int):Bool:=(List.range 3).all fun i=>gF w i==la i
section
variable {Y:Type} (p:Port) (f:List Int->Y->Y×Bool)
def xJ(w:List Int)(x:(Nat->Int)×Y):((Nat->Int)×Y)×Bool:=if tI w x.1=true then (x,true) else ((gF w,(f w x.2).1),(f w x.2).2)
def doF(w:List Int)(z:Y):Y×Bool:=if iX p (gF w)=true then f w z else (z,true)
theorem VV{p:Port}(hb:p.farms.length<=3){v w:List Int}(hv:v.length=p.farms.length)(hw:w.length=p.farms.length)(h:tI v (gF w)=true):v=w:=by
 simp only[tI,List.all_eq_true,List.mem_range,beq_iff_eq] at h;refine List.ext_getElem (by omega) fun i h1 h2=>?_
 have:=h i (by omega);simpa[gF,h1,h2] using this
theorem CT(hb:p.farms.length<=3):∀ (az:List (List Int)) (la:Nat->Int) (z:Y),(∀ a∈az,WOk p a)->az.Nodup->(∀ a∈az,tI a la=false)->(aU (xJ f) az (la,z)).1.2=(aU f az z).1/\(aU (xJ f) az (la,z)).2=(aU f az z).2
 |[],la,z,_,_,_=>⟨rfl,rfl⟩
 |a::az,la,z,hw,hn,hl=>by
  simp only[List.nodup_cons] at hn;have hne:¬tI a la=true:=by rw[hl a (by simp)];simp
  simp only[aU,xJ,hne,if_false];obtain⟨r,hr⟩:∃ r,f a z=r:=⟨_,rfl⟩;rw[hr];cases h2:r.2
  ·simp
  ·simp only[if_true];refine CT hb az _ _ (fun b hb2=>hw b (by simp[hb2])) hn.2 fun b hb2=>?_
   cases hq:tI b (gF a)
   ·simp
   ·have:=VV hb (hw b (by simp[hb2])).len (hw a (by simp)).len hq;rw[this] at hb2;exact absurd hb2 hn.1
theorem sP:∀ (az:List (List Int)) (z:Y),aU (doF p f) az z=aU f (az.filter fun w=>iX p (gF w)) z
 |[],z=>rfl
 |a::az,z=>by
  simp only[aU,doF,List.filter_cons];by_cases hs:iX p (gF a)=true
  ·simp only[hs,if_true,aU,sP az]
  ·simp only[hs,if_false,if_true,sP az];simp
end
def la0(i:Nat):Int:=if i=0 then -2 else 0
theorem aGX{w:List Int}(h:∀ x∈w,-1<=x/\x<=10):tI w la0=false:=by
 cases hq:tI w la0
 ·rfl
 ·simp only[tI,List.all_eq_true,List.mem_range,beq_iff_eq] at hq;have h1:=hq 0 (by omega);have h2:=BO h 0;simp only[la0,if_true] at h1;omega
theorem U5{Y:Type}{p:Port}(hv:Vd p){B:Nat}(hB:B<=11)(f:List Int->Y->Y×Bool)(z:Y):(aU (xJ f) (gQ B p.farms.length) (la0,z)).1.2=(aU f (gQ B p.farms.length) z).1/\(aU (xJ f) (gQ B p.farms.length) (la0,z)).2=(aU f (gQ B p.farms.length) z).2 :=
 CT p f hv.nfm _ la0 z (fun a ha=>HV hB ha) (BM hB _) fun a ha=>aGX (HV hB ha).bd
end Go.Am.Room.Ca
namespace Go.Am.Room.Ca
def g8:=zz @d5 (zz @aG (zz @d8 (zz @List.length_append.{0} (zz @Nat.mul_one (zz @Int.toNat_natCast (zz @bA (zz @bE (zz @bK (zz @bF (zz @eN (zz @y4 (zz @bN (zz @Nat.add_lt_add_iff_left (@Nat.lt_add_right_iff_pos))))))))))))))
def pb(p:Port)(m:Nat):List AV:=aF p++[.map m]
theorem aOE(p:Port)(m:Nat):(pb p m)[0]? = some (.int .i64 p.hold):=rfl
theorem aM4(p:Port)(m:Nat):(pb p m)[1]? = some (.int .i64 p.come.lo):=rfl
theorem aPR(p:Port)(m:Nat):(pb p m)[2]? = some (.int .i64 p.come.hi):=rfl
theorem aPW(p:Port)(m:Nat):(pb p m)[3]? = some (.lit (p.farms.map cW) false none):=rfl
theorem aPN(p:Port)(m:Nat):(pb p m)[4]? = some (.map m):=rfl
def pf(F:AV)(p:Port)(m:Nat):List AV:=[.int .i64 p.hold,.int .i64 p.come.lo,.int .i64 p.come.hi,F,.map m]
theorem qH(F:AV)(p:Port)(m:Nat):(pf F p m)[0]? = some (.int .i64 p.hold):=rfl
theorem qF(F:AV)(p:Port)(m:Nat):(pf F p m)[1]? = some (.int .i64 p.come.lo):=rfl
theorem qC(F:AV)(p:Port)(m:Nat):(pf F p m)[2]? = some (.int .i64 p.come.hi):=rfl
theorem qG(F:AV)(p:Port)(m:Nat):(pf F p m)[3]? = some F:=rfl
theorem qD(F:AV)(p:Port)(m:Nat):(pf F p m)[4]? = some (.map m):=rfl
def AP(p:Port):AV:=.lit (p.farms.map cW) false none
def fmP(F:AV)(k:Nat):AV:=(lU none 6 F (.int .i64 k)).getD .undef
structure FIs {Y:Type} (Z:Y->St) (p:Port) (N:Nat) (F:AV):Prop where
 len:∀ σ,jI 1 σ F=some p.farms.length
 ia:∀ k,k<p.farms.length->lU none 6 F (.int .i64 k)=some (fmP F k)
 ld:∀ k (h:k<p.farms.length) z τ,kB (some 6) (Z z++τ) (fmP F k)=some (cW p.farms[k])
 sn:∀ M,N<=M->∀ z τ d,bJ (Z z++τ) M d F=some F
theorem vH{Y:Type}(Z:Y->St)(p:Port)(N:Nat):FIs Z p N (AP p):=by
 have h:∀ k,k<p.farms.length->lU none 6 (AP p) (.int .i64 k)=some (.lptr (p.farms.map cW) k 0 none):=fun k hk=>by
  rw[AP,aHR];exact aCQ hk fun _=>rfl
 have h2:∀ k,k<p.farms.length->fmP (AP p) k = .lptr (p.farms.map cW) k 0 none:=fun k hk=>by rw[fmP,h k hk];rfl
 refine⟨fun σ=>by simp[AP,jI],fun k hk=>by rw[h k hk,h2 k hk],fun k hk z τ=>?_,fun M hM z τ d=>?_⟩
 ·rw[h2 k hk,YF,YS hk];simp[cW,AV.cells,fG]
 ·rw[AP,CP,d8];rfl
def ldC(y:Load):List AV:=[.int .i64 y.least,.int .i64 y.most,.int .i64 y.vain]
theorem fS(y:Load):ldC y=[.int .i64 y.least,.int .i64 y.most,.int .i64 y.vain]:=by simp only[ldC]
def i7(y:Load):AV:=.agg (ldC y)
theorem k7(y:Load):i7 y = .agg (ldC y):=by simp only[i7]
theorem CE(y:Load):kZ (i7 y):=gS (aL (aY _ _) (aL (aY _ _) (aL (aY _ _) aZ)))
instance (y:Load):Dat (i7 y):=⟨CE y⟩
instance (l:List Load):Dats (l.map i7):=⟨bD CE l⟩
theorem vJ(σ:St)(m d:Nat)(l:List Load):cB σ m d (l.map i7)=some (l.map i7):=gJ (bD CE l) σ m d
structure PAt {Y:Type} (Z:Y->St) (p:Port) (F:AV) (m q N:Nat):Prop where
 len:∀ z,(Z z).length=N
 atp:∀ z τ,aD (Z z++τ) q=some (pf F p m)
 pl:q<N
 fs:FIs Z p N F
namespace PAt
variable {Y:Type} {Z:Y->St} {p:Port} {F:AV} {m q N:Nat}
theorem at0(h:PAt Z p F m q N)(z:Y):aD (Z z) q=some (pf F p m):=by have:=h.atp z [];rwa [List.append_nil] at this
theorem base(h:PAt Z p F m q N)(z:Y)(τ:St)(k:Nat):aD (Z z++τ) (N+k)=aD τ k:=by rw[<-h.len z];exact mF _ _ _
theorem base0(h:PAt Z p F m q N)(z:Y)(τ:St):aD (Z z++τ) N=aD τ 0:=h.base z τ 0
theorem bset(h:PAt Z p F m q N)(z:Y)(τ:St)(k:Nat)(y:ABlk):(Z z++τ).set (N+k) y=Z z++τ.set k y:=by rw[<-h.len z];exact kD _ _ _ _
theorem bset0(h:PAt Z p F m q N)(z:Y)(τ:St)(y:ABlk):(Z z++τ).set N y=Z z++τ.set 0 y:=h.bset z τ 0 y
theorem app(h:PAt Z p F m q N)(τ:St):PAt (fun z=>Z z++τ) p F m q (N+τ.length):=⟨fun z=>by rw[List.length_append,h.len],fun z υ=>by rw[List.append_assoc];exact h.atp z _,by have:=h.pl;omega,
 h.fs.len,h.fs.ia,fun k hk z υ=>by rw[List.append_assoc];exact h.fs.ld k hk z _,fun M hM z υ d=>by rw[List.append_assoc];exact h.fs.sn M (by omega) z _ d⟩
theorem ld0(h:PAt Z p F m q N)(k:Nat)(hk:k<p.farms.length)(z:Y):kB (some 6) (Z z) (fmP F k)=some (cW p.farms[k]):=by have:=h.fs.ld k hk z [];rwa [List.append_nil] at this
theorem flen(h:PAt Z p F m q N)(σ:St):jI 1 σ F=some p.farms.length:=h.fs.len σ
theorem fsn(h:PAt Z p F m q N)(z:Y)(τ:St)(d k:Nat):bJ (Z z++τ) (N+k) d F=some F:=h.fs.sn _ (Nat.le_add_right _ _) z τ d
end PAt
theorem EL{Y:Type}{Z:Y->St}{p:Port}{F:AV}{m q N:Nat}(hR:PAt Z p F m q N)(hv:Vd p)(z:Y)(i:Nat)(hi:i<p.farms.length)(c d:Int)(hc:-1<=c/\c<=10)(hd:0<=d/\d<=10)(first args:List AV)(hfa:first++args=[.ptr q 0,.int .i64 i,.int .i64 c,.int .i64 d]):
  gH T (.func 419 first []) args (Z z) (.bool (wA p.farms[i] c d)):=by
 refine dA (af:=SL) rfl (by rw[hfa];simp[SL]) ?_;rw[hfa];obtain⟨_,h2,_,_⟩:=hv.fm _ (List.getElem_mem hi);have hia:=hR.fs.ia i hi;have hld:=hR.ld0 i hi z;obtain⟨x,hx⟩:∃ x,p.farms[i]=x:=⟨_,rfl⟩;rw[hx] at h2 hld ⊢;have w1:IntKind.i64.wrap (d-c)=d-c:=cC ⟨by omega,by omega⟩;have w2:IntKind.i64.wrap (d-c-x.notice)=d-c-x.notice:=cC ⟨by omega,by omega⟩;have hif:wA x c d=(decide (0<=c)&&inR (d-c-x.notice) x.way x.keep):=rfl;obtain⟨R,hR2⟩:∃ R,wA x c d=R:=⟨_,rfl⟩;rw[hR2] at hif ⊢;cases h1:decide (0<=c)
 ·rw[h1,Bool.false_and] at hif;subst hif;try simp only[↓QA,QB,seval,g8,hR.len,hR.base,hR.base0,hR.bset,hR.bset0,hR.atp,hR.at0,qH,qF,qC,qG,qD,hR.flen,hR.fsn,fS,SL,hia,hld,h1]
  refine dN _ rfl ?_;try simp only[QS,QC,seval,g8,hR.len,hR.base,hR.base0,hR.bset,hR.bset0,hR.atp,hR.at0,qH,qF,qC,qG,qD,hR.flen,hR.fsn,fS]
 ·rw[h1,Bool.true_and] at hif;try simp only[↓QA,QB,seval,g8,hR.len,hR.base,hR.base0,hR.bset,hR.bset0,hR.atp,hR.at0,qH,qF,qC,qG,qD,hR.flen,hR.fsn,fS,SL,hia,hld,h1,w1,w2]
  (refine bM (m6 x.way x.keep [d-c-x.notice] (by simp)) (by simp[clr,clrs,ints]) (by simp[okV,okVs]) ?_;try simp only[↓QA,QB,seval,g8,hR.len,hR.base,hR.base0,hR.bset,hR.bset0,hR.atp,hR.at0,qH,qF,qC,qG,qD,hR.flen,hR.fsn,fS,Tr.beyond1,<-hif,Bool.not_not])
  refine dN _ rfl ?_;try simp only[QS,QC,seval,g8,hR.len,hR.base,hR.base0,hR.bset,hR.bset0,hR.atp,hR.at0,qH,qF,qC,qG,qD,hR.flen,hR.fsn,fS]
theorem S4{Y:Type}{Z:Y->St}{p:Port}{F:AV}{m q N:Nat}(hR:PAt Z p F m q N)(hv:Vd p)(z:Y)(i:Nat)(hi:i<p.farms.length)(c d:Int)(hc:-1<=c/\c<=10)(hd:0<=d/\d<=10):
  gH T (.func 419 [.ptr q 0] []) [.int .i64 i,.int .i64 c,.int .i64 d] (Z z) (.bool (wA p.farms[i] c d)):=EL hR hv z i hi c d hc hd _ _ rfl
theorem OM{Y:Type}{Z:Y->St}{p:Port}{F:AV}{m q N:Nat}(hR:PAt Z p F m q N)(hv:Vd p)(z:Y)(i:Nat)(hi:i<p.farms.length)(c d:Int)(hc:-1<=c/\c<=10)(hd:0<=d/\d<=10):
  gH T (.func 419 [] []) [.ptr q 0,.int .i64 i,.int .i64 c,.int .i64 d] (Z z) (.bool (wA p.farms[i] c d)):=EL hR hv z i hi c d hc hd _ _ rfl
set_option maxHeartbeats 1000000 in
theorem aBR{Y:Type}{Z:Y->St}{p:Port}{F:AV}{m q N:Nat}(hR:PAt Z p F m q N)(hv:Vd p)(z:Y)(A:Nat->Int)(hA:∀ i,-1<=A i/\A i<=10)(d:Int)(hd:0<=d/\d<=10):
  gH T (.func 330 [] []) [.ptr q 0,.agg (aK 3 A),.int .i64 d] (Z z) (i7 (onD p A d)):=by
 refine dA (af:=U8) rfl (by simp[U8]) ?_;have hnf:=hv.nfm;have hpl:=hR.pl;have hq2:q<N+2:=by omega
 obtain⟨R,hRe⟩:∃ R,onD p A d=R:=⟨_,rfl⟩;rw[hRe]
 (repeat (first|simp only[↓QA,QB,reduceLT,reduceIte,reduceEqDiff,reduceAdd,reduceLeDiff,reduceMul,Nat.reduceBEq,g8,hR.len,hR.base,hR.base0,hR.bset,hR.bset0,hR.atp,hR.at0,qH,qF,qC,qG,qD,hR.flen,hR.fsn,fS,U8]|refine rd0 rfl ?_))
 refine bS (S:=Nat) 0 (fun k=>k<=p.farms.length) (fun k=>p.farms.length-k)
  (fun k=>[(2,.int .i64 d),(4,.ptr N 0),(6,.ptr (N+1) 0),(7,.func 419 [.ptr q 0] []),(16,F),(17,.int .i64 p.farms.length),(18,.int .i64 k)]) (fun k=>Z z++[.cells (aK 3 A),.cells (ldC (kU p A d k))]) (Nat.zero_le _) (by simp[kU,ldC]) ?_ fun k hk=>?_
 ·try simp only[aB,QE,reduceLT,reduceIte,reduceEqDiff,reduceAdd,reduceLeDiff,reduceMul,Nat.reduceBEq,g8,hR.len,hR.base,hR.base0,hR.bset,hR.bset0,hR.atp,hR.at0,qH,qF,qC,qG,qD,hR.flen,hR.fsn,fS]
  try simp
  try omega
 (repeat (first|simp only[↓QA,QB,reduceLT,reduceIte,reduceEqDiff,reduceAdd,reduceLeDiff,reduceMul,Nat.reduceBEq,g8,hR.len,hR.base,hR.base0,hR.bset,hR.bset0,hR.atp,hR.at0,qH,qF,qC,qG,qD,hR.flen,hR.fsn,fS,aC6]|refine rd0 rfl ?_))
 refine aE (fun h=>?_) fun h=>?_
 ·have hk1:k<p.farms.length:=by simpa using h
  have hw:=bL hk1 (by omega);have hsu:=T5 hk1 A d;have hlo:=zE hv A d k;have hx4:=(hv.fm _ (List.getElem_mem hk1)).hands;have hg:=iJ 3 A (i:=k) (by omega);have ik:(0:Int)<=(k:Int)/\(k:Int)<((3:Nat):Int):=⟨by omega,by omega⟩;have c2:k<=2:=by omega
  have hia:=hR.fs.ia k hk1;have hld:=fun τ=>hR.fs.ld k hk1 z τ
  have hfr:=fun τ=>S4 (hR.app τ) hv z k hk1 (A k) d (hA k) hd
  obtain⟨x,hx⟩:∃ x,p.farms[k]=x:=⟨_,rfl⟩;rw[hx] at hsu hfr hx4 hld;have had:E8 x (A k) d (kU p A d k)=if A k = -1 then kU p A d k else if wA x (A k) d=true then ⟨(kU p A d k).least+x.hands.lo,(kU p A d k).most+x.hands.hi,(kU p A d k).vain⟩ else ⟨(kU p A d k).least,(kU p A d k).most,(kU p A d k).vain+x.hands.hi⟩:=rfl
  rw[had] at hsu;obtain⟨l1,l2,l3⟩:=hlo;obtain⟨y,hy⟩:∃ y,kU p A d k=y:=⟨_,rfl⟩;rw[hy] at hsu l1 l2 l3;rw[hy];obtain⟨F,hF⟩:∃ F,wA x (A k) d=F:=⟨_,rfl⟩;rw[hF] at hsu hfr;obtain⟨c,hc⟩:∃ c,A k=c:=⟨_,rfl⟩;rw[hc] at hsu hg hfr;cases h1:(c==-1)
  ·have h1':¬c = -1:=by simpa using h1
   rw[if_neg h1'] at hsu
   (repeat (first|simp only[↓QA,QB,reduceLT,reduceIte,reduceEqDiff,reduceAdd,reduceLeDiff,reduceMul,Nat.reduceBEq,g8,hR.len,hR.base,hR.base0,hR.bset,hR.bset0,hR.atp,hR.at0,qH,qF,qC,qG,qD,hR.flen,hR.fsn,fS,hia,hld,ik,c2,hg,h1]|refine rd0 rfl ?_))
   (first|refine aV (hfr _) ?_|refine fD (hfr _) ?_)
   cases F
   ·simp only[Bool.false_eq_true,if_false] at hsu;have w1:IntKind.i64.wrap (y.vain+x.hands.hi)=y.vain+x.hands.hi:=cC ⟨by omega,by omega⟩
    (repeat (first|simp only[↓QA,QB,reduceLT,reduceIte,reduceEqDiff,reduceAdd,reduceLeDiff,reduceMul,Nat.reduceBEq,g8,hR.len,hR.base,hR.base0,hR.bset,hR.bset0,hR.atp,hR.at0,qH,qF,qC,qG,qD,hR.flen,hR.fsn,fS,w1]|refine rd0 rfl ?_))
    refine⟨k+1,by omega,by omega,?_⟩;rw[hsu];try simp only[aB,QE,reduceLT,reduceIte,reduceEqDiff,reduceAdd,reduceLeDiff,reduceMul,Nat.reduceBEq,g8,hR.len,hR.base,hR.base0,hR.bset,hR.bset0,hR.atp,hR.at0,qH,qF,qC,qG,qD,hR.flen,hR.fsn,fS,hw]
    try simp[aJ,okVs,okV,gU,hq2]
    try omega
   ·simp only[if_true] at hsu;have w1:IntKind.i64.wrap (y.least+x.hands.lo)=y.least+x.hands.lo:=cC ⟨by omega,by omega⟩;have w2:IntKind.i64.wrap (y.most+x.hands.hi)=y.most+x.hands.hi:=cC ⟨by omega,by omega⟩
    (repeat (first|simp only[↓QA,QB,reduceLT,reduceIte,reduceEqDiff,reduceAdd,reduceLeDiff,reduceMul,Nat.reduceBEq,g8,hR.len,hR.base,hR.base0,hR.bset,hR.bset0,hR.atp,hR.at0,qH,qF,qC,qG,qD,hR.flen,hR.fsn,fS,w1,w2]|refine rd0 rfl ?_))
    refine⟨k+1,by omega,by omega,?_⟩;rw[hsu];try simp only[aB,QE,reduceLT,reduceIte,reduceEqDiff,reduceAdd,reduceLeDiff,reduceMul,Nat.reduceBEq,g8,hR.len,hR.base,hR.base0,hR.bset,hR.bset0,hR.atp,hR.at0,qH,qF,qC,qG,qD,hR.flen,hR.fsn,fS,hw]
    try simp[aJ,okVs,okV,gU,hq2]
    try omega
  ·have h1':c = -1:=by simpa using h1
   rw[if_pos h1'] at hsu
   (repeat (first|simp only[↓QA,QB,reduceLT,reduceIte,reduceEqDiff,reduceAdd,reduceLeDiff,reduceMul,Nat.reduceBEq,g8,hR.len,hR.base,hR.base0,hR.bset,hR.bset0,hR.atp,hR.at0,qH,qF,qC,qG,qD,hR.flen,hR.fsn,fS,hia,hld,ik,c2,hg,h1]|refine rd0 rfl ?_))
   refine⟨k+1,by omega,by omega,?_⟩;rw[hsu];try simp only[aB,QE,reduceLT,reduceIte,reduceEqDiff,reduceAdd,reduceLeDiff,reduceMul,Nat.reduceBEq,g8,hR.len,hR.base,hR.base0,hR.bset,hR.bset0,hR.atp,hR.at0,qH,qF,qC,qG,qD,hR.flen,hR.fsn,fS,hw]
   try simp[aJ,okVs,okV,gU,hq2]
   try omega
 ·have hk1:k=p.farms.length:=by simp at h;omega
  have hfin:kU p A d k=R:=by rw[<-hRe,hk1];rfl
  rw[hfin]
  (repeat (first|simp only[↓QA,QB,reduceLT,reduceIte,reduceEqDiff,reduceAdd,reduceLeDiff,reduceMul,Nat.reduceBEq,g8,hR.len,hR.base,hR.base0,hR.bset,hR.bset0,hR.atp,hR.at0,qH,qF,qC,qG,qD,hR.flen,hR.fsn,fS]|refine rd0 rfl ?_))
  refine dN _ rfl ?_;try simp only[QS,QC,reduceLT,reduceIte,reduceEqDiff,reduceAdd,reduceLeDiff,reduceMul,Nat.reduceBEq,g8,hR.len,hR.base,hR.base0,hR.bset,hR.bset0,hR.atp,hR.at0,qH,qF,qC,qG,qD,hR.flen,hR.fsn,fS,k7]
end Go.Am.Room.Ca
set_option maxRecDepth 8000
namespace Go.Am.Room.Ca
def HH:=zz @d5 (zz @aG (zz @d8 (zz @List.length_append.{0} (zz @qH (zz @qF (zz @qC (zz @qG (zz @qD (zz @Nat.mul_one (zz @Int.toNat_natCast (zz @eZ (zz @fE (zz @iG (zz @iB (zz @bA (zz @bE (zz @bK (zz @bF (zz @eN (@y4))))))))))))))))))))
theorem RK:[SK.i,.i,.i]=List.replicate 3 .i:=rfl
structure CFam {Y:Type} (Z:Y->St) (p:Port) (F:AV) (B m pp q qb N:Nat):Prop where
 pat:PAt Z p F m pp N
 atq:∀ z τ,aD (Z z++τ) q=some [.ptr pp 0]
 atb:∀ z τ,aD (Z z++τ) qb=some [.int .i64 B]
 le:B<=11
namespace CFam
variable {Y:Type} {Z:Y->St} {p:Port} {F:AV} {B m pp q qb N:Nat}
theorem len(h:CFam Z p F B m pp q qb N)(z:Y):(Z z).length=N:=h.pat.len z
theorem atp(h:CFam Z p F B m pp q qb N)(z:Y)(τ:St):aD (Z z++τ) pp=some (pf F p m):=h.pat.atp z τ
theorem base(h:CFam Z p F B m pp q qb N)(z:Y)(τ:St)(k:Nat):aD (Z z++τ) (N+k)=aD τ k:=h.pat.base z τ k
theorem base0(h:CFam Z p F B m pp q qb N)(z:Y)(τ:St):aD (Z z++τ) N=aD τ 0:=h.pat.base0 z τ
theorem bset(h:CFam Z p F B m pp q qb N)(z:Y)(τ:St)(k:Nat)(y:ABlk):(Z z++τ).set (N+k) y=Z z++τ.set k y:=h.pat.bset z τ k y
theorem bset0(h:CFam Z p F B m pp q qb N)(z:Y)(τ:St)(y:ABlk):(Z z++τ).set N y=Z z++τ.set 0 y:=h.pat.bset0 z τ y
theorem flen(h:CFam Z p F B m pp q qb N)(σ:St):jI 1 σ F=some p.farms.length:=h.pat.flen σ
end CFam
def n6(q qb N:Nat):AV:=.func 418 [] [.ptr q 0,.ptr (N+1) 0,.ptr (N+2) 0,.ptr N 0,.ptr qb 0,.ptr (N+3) 0]
theorem j8(q qb N:Nat):n6 q qb N = .func 418 [] [.ptr q 0,.ptr (N+1) 0,.ptr (N+2) 0,.ptr N 0,.ptr qb 0,.ptr (N+3) 0]:=by simp only[n6]
def gR(id q qb N:Nat)(A la:Nat->Int):St:=[.cells [.yield id],.cells (aK 3 A),.cells (aK 3 la),.cells [n6 q qb N]]
theorem bT(id q qb N:Nat)(A la:Nat->Int)(τ:St):gR id q qb N A la++τ = .cells [.yield id]::.cells (aK 3 A)::.cells (aK 3 la)::.cells [n6 q qb N]::τ:=by simp[gR]
def Agr(p:Port)(l:List Int)(A:Nat->Int):Prop:=(∀ j,j<l.length->A j=gF l j)/\∀ j,p.farms.length<=j->A j=0
theorem aCN{p:Port}{l:List Int}{A:Nat->Int}(h:Agr p l A)(hl:l.length<p.farms.length)(n:Int):Agr p (l++[n]) (kP A l.length n):=by
 refine⟨fun j hj=>?_,fun j hj=>?_⟩
 ·simp only[kP];by_cases e:j=l.length
  ·subst e;simp[gF]
  ·have:j<l.length:=by simp at hj;omega
   rw[if_neg e,h.1 j this];simp[gF,List.getElem?_append_left this]
 ·simp only[kP];rw[if_neg (by omega)];exact h.2 j hj
theorem MR{p:Port}{l:List Int}{n:Int}{A:Nat->Int}(h:Agr p (l++[n]) A):Agr p l A:=by
 refine⟨fun j hj=>?_,h.2⟩;rw[h.1 j (by simp;omega)];simp[gF,List.getElem?_append_left hj]
theorem aDQ{p:Port}{l:List Int}{A:Nat->Int}(h:Agr p l A)(hl:l.length=p.farms.length):aK 3 A=aK 3 (gF l):=by
 refine xC fun j _=>?_
 by_cases hj:j<l.length
 ·exact h.1 j hj
 ·rw[h.2 j (by omega),aM6 (by omega)]
def tQ{Y:Type}(Z ZD:Y->St)(p:Port)(id q qb N:Nat)(l:List Int)(τ:St)(r:((Nat->Int)×Y)×Bool)(o:Out):Prop :=
 o.v = .bool r.2/\∃ A τ',o.σ=pW Z ZD (r.1.2,r.2)++(gR id q qb N A r.1.1++(τ++τ'))/\(r.2=true->Agr p l A)
def aCU{Y:Type}(Z:Y->St)(p:Port)(B:Nat)(f:List Int->Y->Y×Bool)(id q qb N:Nat)(l:List Int)(rs:Nat)(τ:St)(R:((Nat->Int)×Y)×Bool)(k:Nat)(e:Env)(σ:St):Prop :=
 Env.get e 0 = .int .i64 l.length/\Env.get e 2 = .ptr (N+1) 0/\Env.get e 5 = .ptr qb 0/\Env.get e 6 = .ptr (N+3) 0/\Env.get e 26 = .int .i64 ((B+1:Nat):Int)/\∃ j la z A τ1,Env.get e 27 = .int .i64 (j:Nat)/\j<=B+1/\k=B+1-j/\Agr p l A /\
   σ=Z z++(gR id q qb N A la++(τ++τ1))/\aU (xJ f) (((zB B).drop j).flatMap fun n=>lv B rs (l++[n])) (la,z)=R
theorem aC4:∀ (k:Nat) (a:Int) (i:Nat) (h:i<(aR a k).length),(aR a k)[i]=a+i
 |0,a,i,h=>by simp[aR] at h
 |k+1,a,0,h=>by simp[aR]
 |k+1,a,i+1,h=>by
  simp only[aR,List.getElem_cons_succ];rw[aC4 k];omega
theorem KK(B:Nat):(zB B).length=B+1:=by simp[zB,jF]
theorem SA{B:Nat}(k:Nat)(h:k<B+1):(zB B).drop k=(if k=B then -1 else (k:Int))::(zB B).drop (k+1):=by
 rw[List.drop_eq_getElem_cons (by rw[KK];exact h)]
 congr 1
 have hl:(aR 0 B).length=B:=jF _ _;by_cases e:k=B
 ·subst e;rw[if_pos rfl];simp only[zB];rw[List.getElem_append_right (by omega)];simp
 ·rw[if_neg e];simp only[zB];rw[List.getElem_append_left (by omega),aC4];omega
theorem aBX(B:Nat):(zB B).drop (B+1)=[]:=List.drop_eq_nil_of_le (by rw[KK];omega)
theorem R4{Y:Type}{Z ZD:Y->St}{p:Port}{F:AV}{B m pp q qb N id:Nat}(hR:CFam Z p F B m pp q qb N)(f:List Int->Y->Y×Bool)(hy:xS Z ZD id (fun t=>[.agg (aK 3 (gF t))]) (WOk p) f)(hv:Vd p)(l:List Int)(la:Nat->Int)(z:Y)(A:Nat->Int)(τ:St)(hl:l.length=p.farms.length)(hA:Agr p l A)(hbd:∀ x∈l,-1<=x/\x<=10):
  Run T (.callv (n6 q qb N) [.int .i64 l.length] (Z z++(gR id q qb N A la++τ))) (tQ Z ZD p id q qb N l τ (xJ f l (la,z))):=by
 have hnl:=hv.nfm;have hke:=aDQ hA hl;have hcall:∀ x τ,Run T (.callv (.yield id) [.agg (aK 3 (gF l))] (Z x++τ)) fun o=>o.v = .bool (f l x).2/\∃ τ',o.σ=pW Z ZD (f l x)++(τ++τ'):=hy l ⟨hl,hbd⟩
 have hE:((l.length:Int)==(p.farms.length:Int))=true:=by rw[hl];simp
 have hfin:∀ (z:Y) (la:Nat->Int) (τ:St),Z z++(.cells [.yield id]::.cells (aK 3 (gF l))::.cells (aK 3 la)::.cells [n6 q qb N]::τ)=Z z++(gR id q qb N A la++τ):=fun z la τ=>by rw[bT,hke]
 have heq:=HN 3 (gF l) la;have hdq:(List.range 3).all (fun i=>gF l i==la i)=tI l la:=rfl;rw[hdq] at heq;have hon:xJ f l (la,z)=if tI l la=true then ((la,z),true) else ((gF l,(f l z).1),(f l z).2):=rfl
 obtain⟨R,hRR⟩:∃ R,xJ f l (la,z)=R:=⟨_,rfl⟩;rw[hRR] at hon ⊢;rw[bT,hke];simp only[j8] at hfin ⊢;obtain⟨E,hEq⟩:∃ E,tI l la=E:=⟨_,rfl⟩;rw[hEq] at heq hon;refine .callf (.call (af:=IP) rfl (by simp[IP]) (fO (K:=fun j e σ'=>(j=none\/j=some .ret)/\tQ Z ZD p id q qb N l τ R ⟨none,[],σ',Env.get e 8⟩) ?_ fun o ho=>ho) fun w hw=>⟨hw.1,_,rfl,.inl hw.2⟩);cases E
 ·rw[if_neg (by simp)] at hon
  (repeat (first|simp only[↓QA,QB,reduceLT,reduceIte,reduceEqDiff,reduceAdd,reduceLeDiff,reduceMul,Nat.reduceBEq,HH,hR.base,hR.base0,hR.bset,hR.bset0,hR.atp,hR.atq,hR.atb,hR.flen,RK,IP,hE,heq]|refine rd0 rfl ?_))
  refine .mono (hcall z _) fun w hw=>?_
  (repeat (first|simp only[↓QA,QB,reduceLT,reduceIte,reduceEqDiff,reduceAdd,reduceLeDiff,reduceMul,Nat.reduceBEq,HH,hR.base,hR.base0,hR.bset,hR.bset0,hR.atp,hR.atq,hR.atb,hR.flen,RK]|refine rd0 rfl ?_))
  obtain⟨hw1,τ',hw2⟩:=hw;rw[hon];refine⟨hw1,A,τ',?_,fun _=>hA⟩;rw[hw2,bT,hke];simp[n6]
 ·rw[if_pos rfl] at hon
  (repeat (first|simp only[↓QA,QB,reduceLT,reduceIte,reduceEqDiff,reduceAdd,reduceLeDiff,reduceMul,Nat.reduceBEq,HH,hR.base,hR.base0,hR.bset,hR.bset0,hR.atp,hR.atq,hR.atb,hR.flen,RK,IP,hE,heq]|refine rd0 rfl ?_))
  rw[hon];refine⟨rfl,A,[],?_,fun _=>hA⟩;simp only[pW,if_true,List.append_nil];exact hfin _ _ _
end Go.Am.Room.Ca
namespace Go.Am.Room.Ca
def dF:=zz @d5 (zz @aG (zz @d8 (zz @List.length_append.{0} (zz @qH (zz @qF (zz @qC (zz @qG (zz @qD (zz @Nat.mul_one (zz @Int.toNat_natCast (zz @eZ (zz @fE (zz @iG (zz @iB (zz @bA (zz @bE (zz @bK (zz @bF (zz @eN (zz @y4 (@RK)))))))))))))))))))))
theorem t9{Y:Type}{Z ZD:Y->St}{p:Port}{F:AV}{B m pp q qb N id:Nat}(hR:CFam Z p F B m pp q qb N)(f:List Int->Y->Y×Bool)(hy:xS Z ZD id (fun t=>[.agg (aK 3 (gF t))]) (WOk p) f)(hv:Vd p):∀ (rs:Nat) (l:List Int) (la:Nat->Int) (z:Y) (A:Nat->Int) (τ:St),l.length+rs=p.farms.length->Agr p l A->(∀ x∈l,-1<=x/\x<=10) ->
  Run T (.callv (n6 q qb N) [.int .i64 l.length] (Z z++(gR id q qb N A la++τ))) (tQ Z ZD p id q qb N l τ (aU (xJ f) (lv B rs l) (la,z)))
 |0,l,la,z,A,τ,hl,hA,hbd=>by
  have e:aU (xJ f) (lv B 0 l) (la,z)=xJ f l (la,z):=HG _ _ _;rw[e];exact R4 hR f hy hv l la z A τ (by omega) hA hbd
 |rs+1,l,la,z,A,τ,hl,hA,hbd=>by
  have hlt:l.length<p.farms.length:=by omega
  have hnl:=hv.nfm;have hE:((l.length:Int)==(p.farms.length:Int))=false:=by simp;omega
  have il:(0:Int)<=(l.length:Int)/\(l.length:Int)<((3:Nat):Int):=⟨by omega,by omega⟩;have c2:l.length<=2:=by omega
  have hwd:IntKind.i64.wrap ((l.length:Int)+1)=((l.length+1:Nat):Int):=bL hlt (by omega);have hB:=hR.le;have hw12:IntKind.i64.wrap ((B:Int)+1)=((B+1:Nat):Int):=bL (show B<B+1 by omega) (by omega)
  have ih:=fun (n:Int) (hn:-1<=n/\n<=10) (la:Nat->Int) (z:Y) (A:Nat->Int) (hA:Agr p l A) (τ:St)=>t9 hR f hy hv rs (l++[n]) la z (kP A l.length n) τ (by simp;omega) (aCN hA hlt n) (fun y hy=>by
   rcases List.mem_append.1 hy with h|h
   ·exact hbd y h
   ·have:y=n:=by simpa using h
    omega)
  obtain⟨R,hRR⟩:∃ R,aU (xJ f) (lv B (rs+1) l) (la,z)=R:=⟨_,rfl⟩;rw[hRR];simp only[lv] at hRR;simp only[j8];refine .callf (.call (af:=IP) rfl (by simp[IP]) (fO (K:=fun j e σ'=>(j=none\/j=some .ret)/\tQ Z ZD p id q qb N l τ R ⟨none,[],σ',Env.get e 8⟩) ?_ fun o ho=>ho) fun w hw=>⟨hw.1,_,rfl,.inl hw.2⟩);rw[bT];have loop:∀ (e:Env) (K:KJ),Env.get e 0 = .int .i64 l.length->Env.get e 2 = .ptr (N+1) 0->Env.get e 5 = .ptr qb 0->Env.get e 6 = .ptr (N+3) 0->Env.get e 26 = .int .i64 ((B+1:Nat):Int)->Env.get e 27 = .int .i64 0 ->
    (∀ j e' σ',tQ Z ZD p id q qb N l τ R ⟨none,[],σ',.bool R.2⟩->(j=some .ret/\Env.get e' 8 = .bool R.2\/j=some (.exit 0)/\R.2=true)->K j e' σ') ->
    rK (K:=⟨K⟩) T (.loop DC) e (Z z++(gR id q qb N A la++τ)):=by
   intro e K e0 e2 e5 e6 e26 e27 hK;refine D7 (aCU Z p B f id q qb N l rs τ R) ?_ (B+1) _ _ ?_
   ·rintro k e σ ⟨e0,e2,e5,e6,e26,j,la,z,A,τ1,e27,hj,hk,hA,rfl,hq⟩;subst hk;have hst:=pQ 3 A (j:Int) (i:=l.length) (by omega);have hst2:=pQ 3 (kP A l.length (j:Int)) (-1) (i:=l.length) (by omega);rw[bT];by_cases hd:j<B+1
    ·have hdt:decide ((j:Int)<((B+1:Nat):Int))=true:=by simp;omega
     have hwj:=bL hd (by omega);rw[SA j hd,List.flatMap_cons,vG] at hq;obtain⟨n,hn⟩:∃ n:Int,(if j=B then -1 else (j:Int))=n:=⟨_,rfl⟩;rw[hn] at hq;have hnb:-1<=n/\n<=10:=by rw[<-hn];split<;>omega
     have hcl:=ih n hnb la z A hA (τ++τ1);simp only[bT,j8,List.length_append,List.length_cons,List.length_nil,Nat.zero_add] at hcl;obtain⟨r,hr⟩:∃ r,aU (xJ f) (lv B rs (l++[n])) (la,z)=r:=⟨_,rfl⟩;rw[hr] at hq hcl;by_cases h11:j=B
     ·rw[if_pos h11] at hn;have hb:((j:Int)==(B:Int))=true:=by simp[h11]
      have hcg:aK 3 (kP (kP A l.length (j:Int)) l.length (-1))=aK 3 (kP A l.length n):=by
       rw[<-hn];refine xC fun i _=>?_
       simp only[kP];split<;>rfl
      rw[hcg] at hst2;simp only[j8]
      (repeat (first|simp only[↓QA,QB,reduceLT,reduceIte,reduceEqDiff,reduceAdd,reduceLeDiff,reduceMul,Nat.reduceBEq,dF,hR.base,hR.base0,hR.bset,hR.bset0,hR.atp,hR.atq,hR.atb,hR.flen,DC,e0,e2,e5,e6,e26,e27,hdt,il,c2,Nat.zero_add,hst,hst2,hb,hwd]|refine rd0 rfl ?_))
      refine .mono hcl fun w hw=>?_
      obtain⟨hw1,A',τ',hw2,hw3⟩:=hw;rw[hw1,hw2];cases hr2:r.2
      ·rw[hr2] at hq;simp only[Bool.false_eq_true,if_false] at hq
       (repeat (first|simp only[↓QA,QB,reduceLT,reduceIte,reduceEqDiff,reduceAdd,reduceLeDiff,reduceMul,Nat.reduceBEq,dF,hR.base,hR.base0,hR.bset,hR.bset0,hR.atp,hR.atq,hR.atb,hR.flen,e0,e2,e5,e6,e26,e27]|refine rd0 rfl ?_))
       have hR2:R.2=false:=by rw[<-hq]
       refine hK _ _ _ ⟨rfl,A',τ1++τ',?_,fun h=>?_⟩ (.inl ⟨rfl,?_⟩)
       ·rw[<-hq];try simp[pW]
       ·simp[hR2] at h
       ·try simp only[aB,QE,reduceLT,reduceIte,reduceEqDiff,reduceAdd,reduceLeDiff,reduceMul,Nat.reduceBEq,dF,hR.base,hR.base0,hR.bset,hR.bset0,hR.atp,hR.atq,hR.atb,hR.flen,hR2]
      ·rw[hr2] at hq;simp only[if_true] at hq;have hA':=MR (hw3 hr2);simp only[pW,if_true];rw[bT];simp only[List.append_assoc,List.cons_append]
       (repeat (first|simp only[↓QA,QB,reduceLT,reduceIte,reduceEqDiff,reduceAdd,reduceLeDiff,reduceMul,Nat.reduceBEq,dF,hR.base,hR.base0,hR.bset,hR.bset0,hR.atp,hR.atq,hR.atb,hR.flen,e0,e2,e5,e6,e26,e27,hwj]|refine rd0 rfl ?_))
       refine⟨B+1-(j+1),by omega,?_,?_,?_,?_,?_,j+1,r.1.1,r.1.2,A',τ1++τ',?_,by omega,rfl,hA',?_,hq⟩
       ·try simp only[aB,QE,reduceLT,reduceIte,reduceEqDiff,reduceAdd,reduceLeDiff,reduceMul,Nat.reduceBEq,dF,hR.base,hR.base0,hR.bset,hR.bset0,hR.atp,hR.atq,hR.atb,hR.flen,e0]
       ·try simp only[aB,QE,reduceLT,reduceIte,reduceEqDiff,reduceAdd,reduceLeDiff,reduceMul,Nat.reduceBEq,dF,hR.base,hR.base0,hR.bset,hR.bset0,hR.atp,hR.atq,hR.atb,hR.flen,e2]
       ·try simp only[aB,QE,reduceLT,reduceIte,reduceEqDiff,reduceAdd,reduceLeDiff,reduceMul,Nat.reduceBEq,dF,hR.base,hR.base0,hR.bset,hR.bset0,hR.atp,hR.atq,hR.atb,hR.flen,e5]
       ·try simp only[aB,QE,reduceLT,reduceIte,reduceEqDiff,reduceAdd,reduceLeDiff,reduceMul,Nat.reduceBEq,dF,hR.base,hR.base0,hR.bset,hR.bset0,hR.atp,hR.atq,hR.atb,hR.flen,e6]
       ·try simp only[aB,QE,reduceLT,reduceIte,reduceEqDiff,reduceAdd,reduceLeDiff,reduceMul,Nat.reduceBEq,dF,hR.base,hR.base0,hR.bset,hR.bset0,hR.atp,hR.atq,hR.atb,hR.flen,e26]
       ·try simp only[aB,QE,reduceLT,reduceIte,reduceEqDiff,reduceAdd,reduceLeDiff,reduceMul,Nat.reduceBEq,dF,hR.base,hR.base0,hR.bset,hR.bset0,hR.atp,hR.atq,hR.atb,hR.flen]
       ·rw[bT]
     ·rw[if_neg h11] at hn;subst hn;have hb:((j:Int)==(B:Int))=false:=by simp;omega
      simp only[j8]
      (repeat (first|simp only[↓QA,QB,reduceLT,reduceIte,reduceEqDiff,reduceAdd,reduceLeDiff,reduceMul,Nat.reduceBEq,dF,hR.base,hR.base0,hR.bset,hR.bset0,hR.atp,hR.atq,hR.atb,hR.flen,DC,e0,e2,e5,e6,e26,e27,hdt,il,c2,Nat.zero_add,hst,hb,hwd]|refine rd0 rfl ?_))
      refine .mono hcl fun w hw=>?_
      obtain⟨hw1,A',τ',hw2,hw3⟩:=hw;rw[hw1,hw2];cases hr2:r.2
      ·rw[hr2] at hq;simp only[Bool.false_eq_true,if_false] at hq
       (repeat (first|simp only[↓QA,QB,reduceLT,reduceIte,reduceEqDiff,reduceAdd,reduceLeDiff,reduceMul,Nat.reduceBEq,dF,hR.base,hR.base0,hR.bset,hR.bset0,hR.atp,hR.atq,hR.atb,hR.flen,e0,e2,e5,e6,e26,e27]|refine rd0 rfl ?_))
       have hR2:R.2=false:=by rw[<-hq]
       refine hK _ _ _ ⟨rfl,A',τ1++τ',?_,fun h=>?_⟩ (.inl ⟨rfl,?_⟩)
       ·rw[<-hq];try simp[pW]
       ·simp[hR2] at h
       ·try simp only[aB,QE,reduceLT,reduceIte,reduceEqDiff,reduceAdd,reduceLeDiff,reduceMul,Nat.reduceBEq,dF,hR.base,hR.base0,hR.bset,hR.bset0,hR.atp,hR.atq,hR.atb,hR.flen,hR2]
      ·rw[hr2] at hq;simp only[if_true] at hq;have hA':=MR (hw3 hr2);simp only[pW,if_true];rw[bT];simp only[List.append_assoc,List.cons_append]
       (repeat (first|simp only[↓QA,QB,reduceLT,reduceIte,reduceEqDiff,reduceAdd,reduceLeDiff,reduceMul,Nat.reduceBEq,dF,hR.base,hR.base0,hR.bset,hR.bset0,hR.atp,hR.atq,hR.atb,hR.flen,e0,e2,e5,e6,e26,e27,hwj]|refine rd0 rfl ?_))
       refine⟨B+1-(j+1),by omega,?_,?_,?_,?_,?_,j+1,r.1.1,r.1.2,A',τ1++τ',?_,by omega,rfl,hA',?_,hq⟩
       ·try simp only[aB,QE,reduceLT,reduceIte,reduceEqDiff,reduceAdd,reduceLeDiff,reduceMul,Nat.reduceBEq,dF,hR.base,hR.base0,hR.bset,hR.bset0,hR.atp,hR.atq,hR.atb,hR.flen,e0]
       ·try simp only[aB,QE,reduceLT,reduceIte,reduceEqDiff,reduceAdd,reduceLeDiff,reduceMul,Nat.reduceBEq,dF,hR.base,hR.base0,hR.bset,hR.bset0,hR.atp,hR.atq,hR.atb,hR.flen,e2]
       ·try simp only[aB,QE,reduceLT,reduceIte,reduceEqDiff,reduceAdd,reduceLeDiff,reduceMul,Nat.reduceBEq,dF,hR.base,hR.base0,hR.bset,hR.bset0,hR.atp,hR.atq,hR.atb,hR.flen,e5]
       ·try simp only[aB,QE,reduceLT,reduceIte,reduceEqDiff,reduceAdd,reduceLeDiff,reduceMul,Nat.reduceBEq,dF,hR.base,hR.base0,hR.bset,hR.bset0,hR.atp,hR.atq,hR.atb,hR.flen,e6]
       ·try simp only[aB,QE,reduceLT,reduceIte,reduceEqDiff,reduceAdd,reduceLeDiff,reduceMul,Nat.reduceBEq,dF,hR.base,hR.base0,hR.bset,hR.bset0,hR.atp,hR.atq,hR.atb,hR.flen,e26]
       ·try simp only[aB,QE,reduceLT,reduceIte,reduceEqDiff,reduceAdd,reduceLeDiff,reduceMul,Nat.reduceBEq,dF,hR.base,hR.base0,hR.bset,hR.bset0,hR.atp,hR.atq,hR.atb,hR.flen]
       ·rw[bT]
    ·have hd12:j=B+1:=by omega
     subst hd12;rw[aBX] at hq;simp only[List.flatMap_nil,aU] at hq
     (repeat (first|simp only[↓QA,QB,reduceLT,reduceIte,reduceEqDiff,reduceAdd,reduceLeDiff,reduceMul,Nat.reduceBEq,dF,hR.base,hR.base0,hR.bset,hR.bset0,hR.atp,hR.atq,hR.atb,hR.flen,DC,e0,e2,e5,e6,e26,e27,show decide (((B+1:Nat):Int)<((B+1:Nat):Int))=false from decide_eq_false (by omega)]|refine rd0 rfl ?_))
     have hR2:R.2=true:=by rw[<-hq]
     refine hK _ _ _ ⟨rfl,A,τ1,?_,fun h=>hA⟩ (.inr ⟨rfl,hR2⟩);rw[<-hq];simp[pW,gR,n6]
   ·refine⟨e0,e2,e5,e6,e26,0,la,z,A,[],e27,by omega,rfl,hA,?_,hRR⟩;rw[List.append_nil]
  have hln:=hR.len z
  (repeat (first|simp only[↓QA,QB,reduceLT,reduceIte,reduceEqDiff,reduceAdd,reduceLeDiff,reduceMul,Nat.reduceBEq,dF,hR.base,hR.base0,hR.bset,hR.bset0,hR.atp,hR.atq,hR.atb,hR.flen,IP,hE,hlt,hln,hw12]|refine rd0 rfl ?_))
  have lp:=loop;simp only[bT,j8] at lp;refine lp _ _ ?_ ?_ ?_ ?_ ?_ ?_ fun j e' σ' hj hk=>?_
  ·try simp only[aB,QE,reduceLT,reduceIte,reduceEqDiff,reduceAdd,reduceLeDiff,reduceMul,Nat.reduceBEq,dF,hR.base,hR.base0,hR.bset,hR.bset0,hR.atp,hR.atq,hR.atb,hR.flen]
  ·try simp only[aB,QE,reduceLT,reduceIte,reduceEqDiff,reduceAdd,reduceLeDiff,reduceMul,Nat.reduceBEq,dF,hR.base,hR.base0,hR.bset,hR.bset0,hR.atp,hR.atq,hR.atb,hR.flen]
  ·try simp only[aB,QE,reduceLT,reduceIte,reduceEqDiff,reduceAdd,reduceLeDiff,reduceMul,Nat.reduceBEq,dF,hR.base,hR.base0,hR.bset,hR.bset0,hR.atp,hR.atq,hR.atb,hR.flen]
  ·try simp only[aB,QE,reduceLT,reduceIte,reduceEqDiff,reduceAdd,reduceLeDiff,reduceMul,Nat.reduceBEq,dF,hR.base,hR.base0,hR.bset,hR.bset0,hR.atp,hR.atq,hR.atb,hR.flen]
  ·try simp only[aB,QE,reduceLT,reduceIte,reduceEqDiff,reduceAdd,reduceLeDiff,reduceMul,Nat.reduceBEq,dF,hR.base,hR.base0,hR.bset,hR.bset0,hR.atp,hR.atq,hR.atb,hR.flen]
  ·try simp only[aB,QE,reduceLT,reduceIte,reduceEqDiff,reduceAdd,reduceLeDiff,reduceMul,Nat.reduceBEq,dF,hR.base,hR.base0,hR.bset,hR.bset0,hR.atp,hR.atq,hR.atb,hR.flen]
  ·rcases hk with⟨rfl,hk⟩|⟨rfl,hk⟩
   ·(repeat (first|simp only[↓QA,QB,reduceLT,reduceIte,reduceEqDiff,reduceAdd,reduceLeDiff,reduceMul,Nat.reduceBEq,dF,hR.base,hR.base0,hR.bset,hR.bset0,hR.atp,hR.atq,hR.atb,hR.flen]|refine rd0 rfl ?_))
    rw[hk];exact hj
   ·(repeat (first|simp only[↓QA,QB,reduceLT,reduceIte,reduceEqDiff,reduceAdd,reduceLeDiff,reduceMul,Nat.reduceBEq,dF,hR.base,hR.base0,hR.bset,hR.bset0,hR.atp,hR.atq,hR.atb,hR.flen]|refine rd0 rfl ?_))
    rw[hk] at hj;exact hj
theorem K6{Y:Type}{Z ZD:Y->St}{p:Port}{F:AV}{B m pp q qb N id:Nat}(hR:CFam Z p F B m pp q qb N)(f:List Int->Y->Y×Bool)(hy:xS Z ZD id (fun t=>[.agg (aK 3 (gF t))]) (WOk p) f)(hv:Vd p)(z:Y):
  Run T (.call 417 [.yield id,.ptr q 0,.ptr qb 0] (Z z)) fun o=>∃ τ',o.σ=pW Z ZD (aU f (gQ B p.farms.length) z)++τ':=by
 have hl:=hR.len z;obtain⟨ho1,ho2⟩:=U5 hv hR.le f z;have hcl:=t9 hR f hy hv p.farms.length [] la0 z (fun _=>0) [] (by simp) ⟨fun j hj=>by simp at hj,fun j hj=>rfl⟩ (fun y hy=>by simp at hy);rw[aLJ] at hcl;obtain⟨R,hRR⟩:∃ R,aU (xJ f) (gQ B p.farms.length) (la0,z)=R:=⟨_,rfl⟩;rw[hRR] at ho1 ho2 hcl;have he:(R.1.2,R.2)=aU f (gQ B p.farms.length) z:=Prod.ext ho1 ho2;have hla:aK 3 la0=[.int .i64 (-2),.int .i64 0,.int .i64 0]:=by simp[aK,la0,List.range_succ]
 simp only[bT,j8,List.length_nil,UA,hla] at hcl;refine .call (af:=V7) rfl (by simp[V7]) (fO (K:=fun j e σ'=>(j=none\/j=some .ret)/\∃ τ',σ'=pW Z ZD (aU f (gQ B p.farms.length) z)++τ') ?_ fun o ho=>ho) fun o ho=>⟨ho.1,_,rfl,.inl ho.2⟩
 have i0:(0:Int)<=0/\(0:Int)<((3:Nat):Int):=by decide
 try simp only[↓QA,QB,seval,dF,hR.base,hR.base0,hR.bset,hR.bset0,hR.atp,hR.atq,hR.atb,hR.flen,V7,hl,i0,Int.toNat_zero]
 refine .mono hcl fun w hw=>?_
 obtain⟨hw1,A',τ',hw2,hw3⟩:=hw;rw[hw1,hw2];try simp only[↓QA,QB,seval,dF,hR.base,hR.base0,hR.bset,hR.bset0,hR.atp,hR.atq,hR.atb,hR.flen]
 exact⟨_,by rw[he]⟩
end Go.Am.Room.Ca
namespace Go.Am.Room
theorem rM{X:Type}(Z ZD:X->St)(n:Nat)(hZ:∀ x,(Z x).length=n)(hZD:∀ x,(ZD x).length=n)(J:AJump)(e:Env)(k:Nat)(ps:List Nat)(a bb:ACode)(g:FuncId)(caps:List AV)(ek:Env.get e k = .func g [] caps)(r:X×Bool)(x:X)(hrun:Run T (.call g (.yield n::caps) (Z x++[.loop .ready none e ps a bb])) fun o=>∃ τ',o.σ=pW (fun x=>Z x++[.loop .ready none e ps a bb]) (fun x=>ZD x++[.loop .done (some J) e ps a bb]) r++τ')(K:KJ)(hT:∀ τ,r.2=true->K none e (Z r.1++(.dead::τ)))(hD:∀ τ,r.2=false->K (some J) e (ZD r.1++(.dead::τ))):
  rK (K:=⟨K⟩) T (.rangeFunc (.t k) ps a bb) e (Z x):=by
 have hout:∀ (A:St) (lp:ABlk) (τ':St),A.length=n->(A++[lp]++τ')[n]? = some lp/\(A++[lp]++τ').set n .dead=A++(.dead::τ'):=by
  intro A lp τ' hA;subst hA;constructor
  ·simp
  ·simp
 refine DE (by rw[QK,ek]) (by
  rw[hZ]
  exact hrun) fun o ho=>?_
 obtain⟨τ',hσ⟩:=ho;rw[hZ,hσ];cases hr2:r.2
 ·have hD':=hD τ' hr2;obtain⟨g1,g2⟩:=hout (ZD r.1) (.loop .done (some J) e ps a bb) τ' (hZD _);simp only[pW,hr2,Bool.false_eq_true,if_false];rw[g1,g2];exact⟨_,_,_,_,_,_,rfl,by simp[hZ],hD'⟩
 ·have hT':=hT τ' hr2;obtain⟨g1,g2⟩:=hout (Z r.1) (.loop .ready none e ps a bb) τ' (hZ _);simp only[pW,hr2,if_true];rw[g1,g2];exact⟨_,_,_,_,_,_,rfl,by simp[hZ],hT'⟩
theorem pC{X A:Type}(Z ZD:X->St)(n:Nat)(hZ:∀ x,(Z x).length=n)(hZD:∀ x,(ZD x).length=n)(J:AJump)(e:Env)(ps:List Nat)(args:A->List AV)(hps:∀ t,ps.length=(args t).length)(a bb:ACode){P:A->Prop}{f:A->X->X×Bool}(h:∀ t,P t->∀ x τ,wp T a (i6 e ps (args t)) (Z x++(.loop .ready none e ps a bb::τ)) (fun j e' σ'=>j=none/\∃ τ1,σ'=Z x++(.loop .ready none e ps a bb::(τ++τ1)) /\
   wp T bb e' (Z x++(.loop .busy none e ps a bb::(τ++τ1))) (fun j e'' σ''=>((f t x).2=true/\j=none/\∃ τ',σ''=Z (f t x).1++(.loop .busy none e ps a bb::(τ++τ'))) \/
    ((f t x).2=false/\j=some J/\∃ τ',σ''=ZD (f t x).1++(.loop .busy none e ps a bb::(τ++τ')))))):
  xS (fun x=>Z x++[.loop .ready none e ps a bb]) (fun x=>ZD x++[.loop .done (some J) e ps a bb]) n args P f:=by
 intro t ht x τ;have hget:∀ (A:St) (lp:ABlk) (υ:St),A.length=n->(A++(lp::υ))[n]? = some lp:=by
  intro A lp υ hA;subst hA;simp
 have hset:∀ (A:St) (lp l2:ABlk) (υ:St),A.length=n->(A++(lp::υ)).set n l2=A++(l2::υ):=by
  intro A lp l2 υ hA;subst hA;simp
 obtain⟨r,hr⟩:∃ r,f t x=r:=⟨_,rfl⟩;have h:=h t ht x τ;rw[hr] at h ⊢;have hst:(fun x=>Z x++[ABlk.loop .ready none e ps a bb]) x++τ=Z x++(.loop .ready none e ps a bb::τ):=by simp
 rw[hst];refine .round (env:=e) (ps:=ps) (a:=a) (b:=bb)
  (R:=fun o=>o.j=none/\∃ τ1,o.σ=Z x++(.loop .ready none e ps a bb::(τ++τ1))/\wp T bb o.env (Z x++(.loop .busy none e ps a bb::(τ++τ1))) (fun j e'' σ''=>(r.2=true/\j=none/\∃ τ',σ''=Z r.1++(.loop .busy none e ps a bb::(τ++τ'))) \/
    (r.2=false/\j=some J/\∃ τ',σ''=ZD r.1++(.loop .busy none e ps a bb::(τ++τ')))))
  (S:=fun o=>(r.2=true/\o.j=none/\∃ τ',o.σ=Z r.1++(.loop .busy none e ps a bb::(τ++τ')))\/(r.2=false/\o.j=some J/\∃ τ',o.σ=ZD r.1++(.loop .busy none e ps a bb::(τ++τ')))) (hget _ _ _ (hZ _)) (by rw[hps t]) (fO h fun o ho=>ho) ?_ ?_ ?_
 ·rintro o ⟨hj,τ1,hσ,_⟩;exact⟨hj,by rw[hσ];exact hget _ _ _ (hZ _)⟩
 ·rintro o ⟨_,τ1,hσ,hw⟩;rw[hσ,hset _ _ _ _ (hZ _)];exact fO hw fun o ho=>ho
 ·rintro o (⟨hr2,hj,τ',hσ⟩|⟨hr2,hj,τ',hσ⟩)
  ·rw[hσ,hj,hget _ _ _ (hZ _),hset _ _ _ _ (hZ _)];refine⟨rfl,by rw[hr2];rfl,τ',?_⟩;simp[pW,hr2]
  ·rw[hσ,hj,hget _ _ _ (hZD _),hset _ _ _ _ (hZD _)];refine⟨rfl,by rw[hr2];rfl,τ',?_⟩;simp[pW,hr2]
end Go.Am.Room
namespace Go.Am.Room.Ca
def fC:=zz @d5 (zz @aG (zz @d8 (zz @List.length_append.{0} (zz @qH (zz @qF (zz @qC (zz @qG (zz @qD (zz @Nat.mul_one (zz @Int.toNat_natCast (zz @eZ (zz @fE (zz @iG (zz @iB (zz @bA (zz @bE (zz @bK (zz @bF (zz @eN (zz @y4 (zz @k7 (@fS))))))))))))))))))))))
structure DFam {Y:Type} (Z:Y->St) (p:Port) (F:AV) (m pp q N:Nat):Prop where
 pat:PAt Z p F m pp N
 atq:∀ z τ,aD (Z z++τ) q=some [.ptr pp 0]
namespace DFam
variable {Y:Type} {Z:Y->St} {p:Port} {F:AV} {m pp q N:Nat}
theorem len(h:DFam Z p F m pp q N)(z:Y):(Z z).length=N:=h.pat.len z
theorem atp(h:DFam Z p F m pp q N)(z:Y)(τ:St):aD (Z z++τ) pp=some (pf F p m):=h.pat.atp z τ
theorem base(h:DFam Z p F m pp q N)(z:Y)(τ:St)(k:Nat):aD (Z z++τ) (N+k)=aD τ k:=h.pat.base z τ k
theorem base0(h:DFam Z p F m pp q N)(z:Y)(τ:St):aD (Z z++τ) N=aD τ 0:=h.pat.base0 z τ
theorem bset(h:DFam Z p F m pp q N)(z:Y)(τ:St)(k:Nat)(y:ABlk):(Z z++τ).set (N+k) y=Z z++τ.set k y:=h.pat.bset z τ k y
theorem bset0(h:DFam Z p F m pp q N)(z:Y)(τ:St)(y:ABlk):(Z z++τ).set N y=Z z++τ.set 0 y:=h.pat.bset0 z τ y
end DFam
def lY(p:Port)(l:Nat->Int)(n:Nat):Bool:=((lD p).take n).all fun d=>decide (p.hold<=(onD p l d).least)
theorem OR(p:Port){n:Nat}(h:n<(lD p).length):(lD p)[n]=p.come.lo+n:=by
 have key:∀ (k:Nat) (a:Int) (i:Nat) (h:i<(aR a k).length),(aR a k)[i]=a+i:=by
  intro k
  induction k with
  |zero=>intro a i h;simp[aR] at h
  |succ k ih =>
   intro a i h;cases i with
   |zero=>simp[aR]
   |succ i =>
    simp only[aR,List.getElem_cons_succ];rw[ih];omega
 exact key _ _ _ h
theorem L5{p:Port}{n:Nat}(h:n<(lD p).length)(l:Nat->Int):lY p l (n+1)=(lY p l n&&decide (p.hold<=(onD p l (p.come.lo+n)).least)):=by
 rw[lY,lY,List.take_succ_eq_append_getElem h,List.all_append,OR p h];simp
theorem EI(p:Port)(l:Nat->Int):lY p l (lD p).length=iX p l:=by simp[lY,iX]
theorem R0{p:Port}{l:Nat->Int}{k:Nat}(h:lY p l k=false):iX p l=false:=by
 rw[<-EI];cases e:lY p l (lD p).length
 ·rfl
 ·rw[<-h];symm;simp only[lY,List.all_eq_true] at e ⊢;exact fun x hx=>e x (by rw[List.take_length];exact List.mem_of_mem_take hx)
def aOP{Y:Type}(Z:Y->St)(p:Port)(id pp q N:Nat)(w:List Int)(x:Y)(lp:ABlk)(τ:St)(k:Nat)(e:Env)(σ:St):Prop :=
 Env.get e 1 = .ptr q 0/\Env.get e 2 = .ptr N 0/\Env.get e 3 = .ptr (N+(τ.length+1+1+1+1)) 0/\∃ j τ2,Env.get e 4 = .bool (lY p (gF w) j)/\Env.get e 5 = .int .i64 (p.come.lo+(j:Nat))/\j<=(lD p).length/\k=(lD p).length-j /\
  σ=Z x++(.cells [.yield id]::.cells [.ptr pp 0]::.cells [.int .i64 11]::lp::(τ++(.cells (aK 3 (gF w))::τ2)))
theorem ZJ{Y:Type}{Z:Y->St}{p:Port}{F:AV}{m pp q N id:Nat}(hR:DFam Z p F m pp q N)(hv:Vd p)(w:List Int)(hw:WOk p w)(x:Y)(lp:ABlk)(τ:St)(e:Env)(K:KJ)(e1:Env.get e 1 = .ptr q 0)(e2:Env.get e 2 = .ptr N 0)(e3:Env.get e 3 = .ptr (N+(τ.length+1+1+1+1)) 0)(e4:Env.get e 4 = .bool true)(e5:Env.get e 5 = .int .i64 p.come.lo)(hK:∀ e' τ2,Env.get e' 1 = .ptr q 0->Env.get e' 2 = .ptr N 0->Env.get e' 3 = .ptr (N+(τ.length+1+1+1+1)) 0->Env.get e' 4 = .bool (iX p (gF w))->K (some (.exit 2)) e' (Z x++(.cells [.yield id]::.cells [.ptr pp 0]::.cells [.int .i64 11]::lp::(τ++(.cells (aK 3 (gF w))::τ2))))):
  rK (K:=⟨K⟩) T (.loop EK) e (Z x++(.cells [.yield id]::.cells [.ptr pp 0]::.cells [.int .i64 11]::lp::(τ++[.cells (aK 3 (gF w))]))):=by
 have hcm:=hv.come;have hho:=hv.hold;have hnf:=hv.nfm;have hdl:=rT p;refine D7 (aOP Z p id pp q N w x lp τ) ?_ (lD p).length _ _ ?_
 ·rintro k e σ ⟨e1,e2,e3,j,τ2,e4,e5,hj,hk,rfl⟩;subst hk;obtain⟨D,hD⟩:∃ D,p.come.lo+(j:Int)=D:=⟨_,rfl⟩;rw[hD] at e5;have hend:lY p (gF w) j=iX p (gF w)->∀ e' τ2,Env.get e' 1 = .ptr q 0->Env.get e' 2 = .ptr N 0->Env.get e' 3 = .ptr (N+(τ.length+1+1+1+1)) 0->Env.get e' 4 = .bool (lY p (gF w) j)->K (some (.exit 2)) e' (Z x++(.cells [.yield id]::.cells [.ptr pp 0]::.cells [.int .i64 11]::lp::(τ++(.cells (aK 3 (gF w))::τ2)))):=fun h e' τ2 a1 a2 a3 a4=>hK e' τ2 a1 a2 a3 (by rw[a4,h])
  obtain⟨F,hF⟩:∃ F,lY p (gF w) j=F:=⟨_,rfl⟩;rw[hF] at e4 hend;cases F
  ·have:=R0 hF
   (repeat (first|simp only[↓QA,QB,seval,fC,hR.base,hR.base0,hR.bset,hR.bset0,hR.atp,hR.atq,EK,e1,e2,e3,e4,e5]|refine rd0 rfl ?_))
   refine hend this.symm _ _ ?_ ?_ ?_ ?_
   ·try simp only[aB,QE,seval,fC,hR.base,hR.base0,hR.bset,hR.bset0,hR.atp,hR.atq,e1]
   ·try simp only[aB,QE,seval,fC,hR.base,hR.base0,hR.bset,hR.bset0,hR.atp,hR.atq,e2]
   ·try simp only[aB,QE,seval,fC,hR.base,hR.base0,hR.bset,hR.bset0,hR.atp,hR.atq,e3]
   ·try simp only[aB,QE,seval,fC,hR.base,hR.base0,hR.bset,hR.bset0,hR.atp,hR.atq,e4]
  cases hd:decide (D<=p.come.hi)
  ·have hd':¬D<=p.come.hi:=by simpa using hd
   have hjn:j=(lD p).length:=by omega
   have:iX p (gF w)=true:=by rw[<-EI,<-hjn,hF]
   (repeat (first|simp only[↓QA,QB,seval,fC,hR.base,hR.base0,hR.bset,hR.bset0,hR.atp,hR.atq,EK,e1,e2,e3,e4,e5,hd]|refine rd0 rfl ?_))
   refine hend this.symm _ _ ?_ ?_ ?_ ?_
   ·try simp only[aB,QE,seval,fC,hR.base,hR.base0,hR.bset,hR.bset0,hR.atp,hR.atq,e1]
   ·try simp only[aB,QE,seval,fC,hR.base,hR.base0,hR.bset,hR.bset0,hR.atp,hR.atq,e2]
   ·try simp only[aB,QE,seval,fC,hR.base,hR.base0,hR.bset,hR.bset0,hR.atp,hR.atq,e3]
   ·try simp only[aB,QE,seval,fC,hR.base,hR.base0,hR.bset,hR.bset0,hR.atp,hR.atq,e4]
  have hd':D<=p.come.hi:=by simpa using hd
  have hjn:j<(lD p).length:=by omega
  have hsu:=L5 hjn (gF w);rw[hF,Bool.true_and,hD] at hsu;have hwd:IntKind.i64.wrap (D+1)=D+1:=cC ⟨by omega,by omega⟩;have hD1:p.come.lo+((j+1:Nat):Int)=D+1:=by omega
  have hon:=fun τ=>aBR (hR.pat.app τ) hv x (gF w) (fun i=>BO hw.bd i) D (by omega)
  have hlo:LdOk p.farms.length (onD p (gF w) D):=zE hv (gF w) D _;obtain⟨h1,h2,h3⟩:=hlo;obtain⟨y,hy⟩:∃ y,onD p (gF w) D=y:=⟨_,rfl⟩;rw[hy] at hsu h1 h2 h3 hon;simp only[k7,fS] at hon;have fin:∀ (e':Env) (b:Bool),decide (p.hold<=y.least)=b->Env.get e' 1 = .ptr q 0->Env.get e' 2 = .ptr N 0->Env.get e' 3 = .ptr (N+(τ.length+1+1+1+1)) 0->Env.get e' 4 = .bool b->Env.get e' 5 = .int .i64 (D+1)->∃ k',k'<(lD p).length-j/\aOP Z p id pp q N w x lp τ k' e' (Z x++(.cells [.yield id]::.cells [.ptr pp 0]::.cells [.int .i64 11]::lp::(τ++(.cells (aK 3 (gF w))::(τ2++[.cells [.int .i64 y.least,.int .i64 y.most,.int .i64 y.vain]]))))):=fun e' b hb a1 a2 a3 a4 a5 =>
   ⟨(lD p).length-(j+1),by omega,a1,a2,a3,j+1,_,by rw[a4,hsu,hb],by rw[a5,hD1],by omega,rfl,rfl⟩
  (repeat (first|simp only[↓QA,QB,seval,fC,hR.base,hR.base0,hR.bset,hR.bset0,hR.atp,hR.atq,EK,e1,e2,e3,e4,e5,hd]|refine rd0 rfl ?_))
  (first|refine aV (hon _) ?_|refine fD (hon _) ?_)
  cases hb:decide (p.hold<=y.least)
  ·cases z1:(y.least==0)<;>cases z2:(y.most==0)<;>cases z3:(y.vain==0);all_goals
    (repeat (first|simp only[↓QA,QB,seval,fC,hR.base,hR.base0,hR.bset,hR.bset0,hR.atp,hR.atq,e1,e2,e3,e4,e5,hwd,hb,z1,z2,z3,Bool.false_and,Bool.true_and,Bool.and_false,Bool.and_self,Bool.not_false,Bool.not_true]|refine rd0 rfl ?_))
    refine fin _ false hb ?_ ?_ ?_ ?_ ?_
    ·try simp only[aB,QE,seval,fC,hR.base,hR.base0,hR.bset,hR.bset0,hR.atp,hR.atq,e1]
    ·try simp only[aB,QE,seval,fC,hR.base,hR.base0,hR.bset,hR.bset0,hR.atp,hR.atq,e2]
    ·try simp only[aB,QE,seval,fC,hR.base,hR.base0,hR.bset,hR.bset0,hR.atp,hR.atq,e3]
    ·try simp only[aB,QE,seval,fC,hR.base,hR.base0,hR.bset,hR.bset0,hR.atp,hR.atq]
    ·try simp only[aB,QE,seval,fC,hR.base,hR.base0,hR.bset,hR.bset0,hR.atp,hR.atq]
  ·have hb':p.hold<=y.least:=by simpa using hb
   have z1:(y.least==0)=false:=by simp;omega
   (repeat (first|simp only[↓QA,QB,seval,fC,hR.base,hR.base0,hR.bset,hR.bset0,hR.atp,hR.atq,e1,e2,e3,e4,e5,hwd,hb,z1,Bool.false_and,Bool.not_false]|refine rd0 rfl ?_))
   refine fin _ true hb ?_ ?_ ?_ ?_ ?_
   ·try simp only[aB,QE,seval,fC,hR.base,hR.base0,hR.bset,hR.bset0,hR.atp,hR.atq,e1]
   ·try simp only[aB,QE,seval,fC,hR.base,hR.base0,hR.bset,hR.bset0,hR.atp,hR.atq,e2]
   ·try simp only[aB,QE,seval,fC,hR.base,hR.base0,hR.bset,hR.bset0,hR.atp,hR.atq,e3]
   ·try simp only[aB,QE,seval,fC,hR.base,hR.base0,hR.bset,hR.bset0,hR.atp,hR.atq]
   ·try simp only[aB,QE,seval,fC,hR.base,hR.base0,hR.bset,hR.bset0,hR.atp,hR.atq]
 ·refine⟨e1,e2,e3,0,[],?_,?_,Nat.zero_le _,rfl,rfl⟩
  ·rw[e4];simp[lY]
  ·rw[e5];simp
end Go.Am.Room.Ca
namespace Go.Am.Room.Ca
def iR:=zz @d5 (zz @aG (zz @d8 (zz @List.length_append.{0} (zz @qH (zz @qF (zz @qC (zz @qG (zz @qD (zz @Nat.mul_one (zz @Int.toNat_natCast (zz @eZ (zz @fE (zz @iG (zz @iB (zz @bA (zz @bE (zz @bK (zz @bF (zz @eN (zz @y4 (zz @k7 (@fS))))))))))))))))))))))
section
variable {Y:Type}
def dW(Z:Y->St)(id pp:Nat)(z:Y):St:=Z z++[.cells [.yield id],.cells [.ptr pp 0],.cells [.int .i64 11]]
variable {Z ZD:Y->St} {p:Port} {F:AV} {m pp q N id:Nat}
theorem DV(hZ:∀ z,(Z z).length=N)(z:Y):(dW Z id pp z).length=N+3:=by simp[dW,hZ]
theorem aLW(hR:DFam Z p F m pp q N)(lp:ABlk):CFam (fun z=>dW Z id pp z++[lp]) p F 11 m pp (N+1) (N+2) (N+3+1) where
 le:=Nat.le_refl _
 pat:=⟨fun z=>by rw[List.length_append,DV hR.len];rfl,fun z τ=>by
  have:=hR.atp z (.cells [.yield id]::.cells [.ptr pp 0]::.cells [.int .i64 11]::lp::τ);have e:dW Z id pp z++[lp]++τ=Z z++(.cells [.yield id]::.cells [.ptr pp 0]::.cells [.int .i64 11]::lp::τ):=by simp[dW]
  rw[e];exact this,by have:=hR.pat.pl;omega,
  hR.pat.fs.len,hR.pat.fs.ia,fun k hk z τ=>by
   have e:dW Z id pp z++[lp]++τ=Z z++(.cells [.yield id]::.cells [.ptr pp 0]::.cells [.int .i64 11]::lp::τ):=by simp[dW]
   rw[e];exact hR.pat.fs.ld k hk z _,fun M hM z τ d=>by
   have e:dW Z id pp z++[lp]++τ=Z z++(.cells [.yield id]::.cells [.ptr pp 0]::.cells [.int .i64 11]::lp::τ):=by simp[dW]
   rw[e]
   exact hR.pat.fs.sn M (by omega) z _ d⟩
 atq:=fun z τ=>by
  have e:dW Z id pp z++[lp]++τ=Z z++(.cells [.yield id]::.cells [.ptr pp 0]::.cells [.int .i64 11]::lp::τ):=by simp[dW]
  rw[e,hR.base];rfl
 atb:=fun z τ=>by
  have e:dW Z id pp z++[lp]++τ=Z z++(.cells [.yield id]::.cells [.ptr pp 0]::.cells [.int .i64 11]::lp::τ):=by simp[dW]
  rw[e,hR.base];rfl
theorem zH(hR:DFam Z p F m pp q N)(hZD:∀ z,(ZD z).length=N)(f:List Int->Y->Y×Bool)(hy:xS Z ZD id (fun t=>[.agg (aK 3 (gF t))]) (WOk p) f)(hv:Vd p)(z:Y):
  Run T (.call 329 [.yield id,.ptr q 0] (Z z)) fun o=>∃ τ',o.σ=pW Z ZD (aU f (eT p) z)++τ':=by
 have hl:=hR.len z;have hit:=sP p f (gQ 11 p.farms.length) z;have hdo:(gQ 11 p.farms.length).filter (fun w=>iX p (gF w))=eT p:=rfl;rw[hdo] at hit;refine .call (af:=aCE) rfl (by simp[aCE]) (fO (K:=fun j e σ'=>(j=none\/j=some .ret)/\∃ τ',σ'=pW Z ZD (aU f (eT p) z)++τ') ?_ fun o ho=>ho) fun o ho=>⟨ho.1,_,rfl,.inl ho.2⟩
 try simp only[↓QA,QB,seval,iR,hR.base,hR.base0,hR.bset,hR.bset0,hR.atp,hR.atq,aCE,hl]
 refine iC rfl (by simp[RV]) ?_;try simp only[↓QA,QB,seval,iR,hR.base,hR.base0,hR.bset,hR.bset0,hR.atp,hR.atq,RV,hl]
 have hz:Z z++[.cells [.yield id],.cells [.ptr pp 0],.cells [.int .i64 11]]=dW Z id pp z:=rfl;rw[hz];refine rM (dW Z id pp) (dW ZD id pp) (N+3) (DV hR.len) (DV hZD) .ret _ 8 [9] _ _ 417 [.ptr (N+1) 0,.ptr (N+2) 0] ?_ (aU (doF p f) (gQ 11 p.farms.length) z) z ?_ _ ?_ ?_
 ·try simp only[aB,QE,seval,iR,hR.base,hR.base0,hR.bset,hR.bset0,hR.atp,hR.atq,Nat.add_assoc]
 ·refine K6 (Z:=fun z=>dW Z id pp z++[_]) (ZD:=fun z=>dW ZD id pp z++[_]) (aLW hR _) (doF p f) ?_ hv z;refine pC (dW Z id pp) (dW ZD id pp) (N+3) (DV hR.len) (DV hZD) _ _ [9] (fun t=>[.agg (aK 3 (gF t))]) (fun _=>rfl) _ _ ?_;intro w hw x τ;have hdo:doF p f w x=if iX p (gF w)=true then f w x else (x,true):=rfl
  obtain⟨R,hRR⟩:∃ R,doF p f w x=R:=⟨_,rfl⟩;rw[hRR] at hdo ⊢;have hcall:∀ x τ,Run T (.callv (.yield id) [.agg (aK 3 (gF w))] (Z x++τ)) fun o=>o.v = .bool (f w x).2/\∃ τ',o.σ=pW Z ZD (f w x)++(τ++τ'):=hy w hw
  simp only[i6,dW,List.append_assoc,List.cons_append,List.nil_append];try simp only[↓QA,QB,seval,iR,hR.base,hR.base0,hR.bset,hR.bset0,hR.atp,hR.atq,hl]
  refine⟨[.cells (aK 3 (gF w))],by simp,?_⟩;generalize ABlk.loop .busy none _ _ _ _=lp;have hlx:=hR.len x;try simp only[↓QA,QB,seval,iR,hR.base,hR.base0,hR.bset,hR.bset0,hR.atp,hR.atq,WG,hlx]
  refine ZJ hR hv w hw x lp τ _ _ ?_ ?_ ?_ ?_ ?_ fun e' τ2 a1 a2 a3 a4=>?_
  ·try simp only[aB,QE,seval,iR,hR.base,hR.base0,hR.bset,hR.bset0,hR.atp,hR.atq]
  ·try simp only[aB,QE,seval,iR,hR.base,hR.base0,hR.bset,hR.bset0,hR.atp,hR.atq]
  ·try simp only[aB,QE,seval,iR,hR.base,hR.base0,hR.bset,hR.bset0,hR.atp,hR.atq]
  ·try simp only[aB,QE,seval,iR,hR.base,hR.base0,hR.bset,hR.bset0,hR.atp,hR.atq]
  ·try simp only[aB,QE,seval,iR,hR.base,hR.base0,hR.bset,hR.bset0,hR.atp,hR.atq]
  cases hF:iX p (gF w)
  ·rw[hF] at a4 hdo;rw[if_neg (by simp)] at hdo;subst hdo;try simp only[↓QA,QB,seval,iR,hR.base,hR.base0,hR.bset,hR.bset0,hR.atp,hR.atq,a1,a2,a3,a4]
   exact .inl ⟨.cells (aK 3 (gF w))::τ2,by simp⟩
  ·rw[hF] at a4 hdo;rw[if_pos rfl] at hdo;subst hdo;try simp only[↓QA,QB,seval,iR,hR.base,hR.base0,hR.bset,hR.bset0,hR.atp,hR.atq,a1,a2,a3,a4]
   refine .mono (hcall x _) fun o ho=>?_
   obtain⟨ho1,τ',ho2⟩:=ho;rw[ho1,ho2];cases hr2:(f w x).2
   ·try simp only[↓QA,QB,seval,iR,hR.base,hR.base0,hR.bset,hR.bset0,hR.atp,hR.atq,a1,a2,a3,a4]
    exact .inr ⟨.cells (aK 3 (gF w))::(τ2++τ'),by simp[pW,hr2]⟩
   ·try simp only[↓QA,QB,seval,iR,hR.base,hR.base0,hR.bset,hR.bset0,hR.atp,hR.atq,a1,a2,a3,a4]
    exact .inl ⟨.cells (aK 3 (gF w))::(τ2++τ'),by simp[pW,hr2]⟩
 ·intro τ h2;try simp only[↓QA,QB,seval,iR,hR.base,hR.base0,hR.bset,hR.bset0,hR.atp,hR.atq]
  rw[hit] at h2;refine⟨.cells [.yield id]::.cells [.ptr pp 0]::.cells [.int .i64 11]::.dead::τ,?_⟩;rw[hit];simp[dW,pW,h2]
 ·intro τ h2;try simp only[↓QA,QB,seval,iR,hR.base,hR.base0,hR.bset,hR.bset0,hR.atp,hR.atq]
  rw[hit] at h2;refine⟨.cells [.yield id]::.cells [.ptr pp 0]::.cells [.int .i64 11]::.dead::τ,?_⟩;rw[hit];simp[dW,pW,h2]
end
end Go.Am.Room.Ca
namespace Go.Am
variable {T:FuncId->Option AFunc}
end Go.Am
namespace Go.Am
variable {T:FuncId->Option AFunc}
def T6:ACode->List ACode->ACode
 |a,[]=>a
 |a,b::l=>.seq a (T6 b l)
theorem KR{R:Env->St->Prop}:∀ (az:List ACode) (a:ACode) (e:Env) (σ:St),wp T (T6 a az) e σ (fun j e' σ'=>j=none/\R e' σ')->Run T (.chain (a::az) e σ) fun o=>o.j=none/\R o.env o.σ
 |[],a,e,σ,h=>.chainCons (fO h fun o ho=>ho) (fun o ho _=>.chainNil ⟨rfl,ho.2⟩) fun o ho hj=>absurd ho.1 hj
 |b::l,a,e,σ,h=>by
  refine .chainCons (fO (show wp T a e σ _ from by simpa only [T6,wp] using h) fun o ho=>ho) (fun o ho hj=>?_) fun o ho hj=>?_
  ·rw[hj] at ho;simp only[tP] at ho;exact KR l b _ _ ho
  ·cases hq:o.j with
   |none=>exact absurd hq hj
   |some q=>rw[hq] at ho;simp only[tP] at ho;exact absurd ho.1 (by simp)
theorem aAM{a c:ACode}(az:List ACode){e:Env}{σ:St}{Q:Out->Prop}(R S:Env->St->Prop)(h:wp T (T6 a az) e σ fun j e' σ'=>j=none/\R e' σ')(h2:∀ e' σ',R e' σ'->∃ env1 σ1 env2 σ2,tY σ e' σ' env1 σ1/\((env2=env1/\σ2=σ1)\/G9 σ.length env1 σ1 env2 σ2\/(env2=env1/\Frost σ.length env1 σ1 σ2))/\S env2 σ2)(h3:∀ e σ,S e σ->Run T (.code c e σ) Q):Run T (.code (OC (a::az) c) e σ) Q :=
 Run.chain (a0:=a) (az:=az) (c:=c) (R:=fun o=>o.j=none/\R o.env o.σ) (S:=S) (KR az a e σ h) (fun o ho hj=>absurd ho.1 hj) (fun o ho _=>h2 _ _ ho.2) h3
end Go.Am
set_option maxRecDepth 4000
namespace Go.Am.Room.Ca
theorem N2{M:Type}{S:M->St}{obj:List AV}{es:M->List (AV×AV)}{p m N:Nat}(hR:MemAt S obj es p m N){f:FuncId}{first cap args:List AV}{af:AFunc}{v:AV}{A B:M}(hf:T f=some af)(hn:(first++args++cap).length<=af.ntmps)(h:Run T (.code af.body (fM 0 (first++args++cap)) (S A)) fun o=>(o.j=none\/o.j=some .ret)/\∃ v0 τ,gZ af.results o.env o.σ=some v0/\o.σ=S B++τ/\bJ o.σ N 20 v0=some v):sK T (.func f first cap) args (S A) v (S B):=by
 refine .callf (.call hf hn h fun o ho=>?_);obtain⟨hj,v0,τ,hres,hσ,h4⟩:=ho;refine⟨hj,v0,hres,?_⟩;unfold bJ at h4;cases hs:snap o.σ N 20 v0 with
 |none=>rw[hs] at h4;cases h4
 |some v1 =>
  rw[hs] at h4;simp at h4;refine .inr ⟨20,v1,v,by rw[hR.len];exact hs,.inr h4.symm,hR.kept hσ,?_,rfl,?_⟩
  ·rw[hσ,List.length_append,hR.len,hR.len];omega
  ·rw[hσ,hR.len,<-hR.len B,List.take_left]
abbrev Kc:=Int×Int×Int
def kA(k:Kc):Nat->Int:=gF [k.1,k.2.1,k.2.2]
def kOf(A:Nat->Int):Kc:=(A 0,A 1,A 2)
def FA(k:Kc):AV:=.agg [.int .i64 k.1,.int .i64 k.2.1,.int .i64 k.2.2]
theorem MB(A:Nat->Int):FA (kOf A) = .agg (aK 3 A):=by simp[FA,kOf,aK,List.range_succ]
theorem aF2(k:Kc):kZ (FA k):=gS (aL (aY _ _) (aL (aY _ _) (aL (aY _ _) aZ)))
def QH(p:Port)(k:Kc):AV:=.lit ((dG p (kA k)).map i7) false none
theorem AE(p:Port):KeyIs (.agg [.i,.i,.i]) FA (QH p) where
 eq:=fun ⟨a1,a2,a3⟩ ⟨b1,b2,b3⟩=>by
  simp only[jO,FA,M5,XK,XB,PA]
  congr 1
  rw[Bool.eq_iff_iff];simp[Prod.mk.injEq]
 dk:=aF2
 dv:=fun k=>gK CE _
abbrev kcs(p:Port):List Kc->List (AV×AV):=sA FA (QH p)
theorem DN{p:Port}{A B:Nat->Int}(h:∀ i,i<3->A i=B i)(d:Int):∀ n,n<=3->kU p A d n=kU p B d n
 |0,_=>rfl
 |n+1,hn=>by simp only[kU,DN h d n (by omega),h n (by omega)]
theorem L8{p:Port}(hv:Vd p){A B:Nat->Int}(h:∀ i,i<3->A i=B i):dG p A=dG p B:=by
 unfold dG;refine List.map_congr_left fun d _=>?_
 exact DN h d _ hv.nfm
theorem aMN(A:Nat->Int)(i:Nat)(h:i<3):kA (kOf A) i=A i:=by
 have:i=0\/i=1\/i=2:=by omega
 rcases this with rfl|rfl|rfl<;>rfl
theorem KT{p:Port}(hv:Vd p)(A:Nat->Int):QH p (kOf A) = .lit ((dG p A).map i7) false none:=by
 rw[QH,L8 hv fun i hi=>aMN A i hi]
theorem PV(l:List Load):aI 3 (l.map i7)=true:=mJ 3 i7 l fun y=>by simp[bI,i7,ldC,AV.cells,AV.cell]
theorem aMD(σ:St)(b:ABlk)(l:List Load)(y:Load)(k:Nat)(ex:Bool)(hk:l.length=k)(hk2:k<=100):dH 3 24 (σ++[b,.tok 3 k ex]) (.lit (l.map i7) false (some (σ.length+1))) (.lit [i7 y] true none)=some (.lit ((l++[y]).map i7) false (some (σ.length+1)),σ++[b,.tok 3 (k+1) true]):=by
 rw[jU (t:=σ.length+1) (ex:=ex) (sz:=3) ⟨PV l,by have:=PV [y];simpa using this,by simp[room];omega,by simp[room];omega⟩ (by simp) k (by simp[hk]) (by rw[rE];rfl),kD];simp
theorem AI{σ:St}{m:Nat}{v w:AV}(h:bJ σ m 20 v=some w):S9 σ m v w:=by
 unfold bJ at h;cases hs:snap σ m 20 v with
 |none=>rw[hs] at h;cases h
 |some v1 =>
  rw[hs] at h;injection h with h
  exact .inr ⟨20,v1,hs,.inr h.symm⟩
def LR(S:List Kc->St)(p:Port)(q N:Nat)(M:List Kc)(A:Nat->Int)(e:Env)(σ:St):Prop :=
 Env.get e 0 = .ptr q 0/\Env.get e 3 = .ptr N 0/\Env.get e 7 = .lit ((dG p A).map i7) false (some (N+1))/\∃ n ex,σ=S M++[.cells (aK 3 A),.tok 3 n ex]
def LS(S:List Kc->St)(p:Port)(q N:Nat)(M:List Kc)(A:Nat->Int)(e:Env)(σ:St):Prop :=
 Env.get e 0 = .ptr q 0/\Env.get e 3 = .ptr N 0/\Env.get e 7 = .lit ((dG p A).map i7) false none/\σ=S M++[.cells (aK 3 A)]
theorem NL{S:List Kc->St}{p:Port}{m q N:Nat}(hR:MemAt S (pb p m) (kcs p) q m N){M:List Kc}{A:Nat->Int}{e:Env}{σ:St}(h:LR S p q N M A e σ):
  ∃ env1 σ1 env2 σ2,tY (S M) e σ env1 σ1/\((env2=env1/\σ2=σ1)\/G9 (S M).length env1 σ1 env2 σ2\/(env2=env1/\Frost (S M).length env1 σ1 σ2))/\LS S p q N M A env2 σ2:=by
 obtain⟨e0,e3,e7,n,ex,rfl⟩:=h;have hln:=hR.len M;have hpl:=hR.pl;refine⟨[(0,.ptr q 0),(3,.ptr N 0),(7,.lit ((dG p A).map i7) false none)],S M++[.cells (aK 3 A)],_,_,⟨by simp,by simp,⟨.inl ⟨e0.symm,?_⟩,.inl ⟨e3.symm,?_⟩,AI ?_,trivial⟩,fun i hi=>?_⟩,.inl ⟨rfl,rfl⟩,rfl,rfl,rfl,rfl⟩
 ·rw[e0];simp[okV,hln];omega
 ·rw[e3];simp[okV,hln]
 ·rw[e7,NM,vJ];simp[hln]
 ·by_cases hi2:i<(S M).length
  ·refine⟨(S M)[i],by rw[List.getElem?_append_left hi2,List.getElem?_eq_getElem hi2],.inl ⟨hi2,.inl ?_,?_⟩⟩
   ·rw[List.getElem?_append_left hi2]
   ·rw[List.getElem?_append_left hi2,List.getElem?_eq_getElem hi2]
  ·have:i=(S M).length:=by simp at hi;omega
   subst this;refine⟨.cells (aK 3 A),by simp,.inr (.inl ⟨by simp,gU 3 A _⟩)⟩
end Go.Am.Room.Ca
namespace Go.Am.Room.Ca
def j4:=zz @d5 (zz @aG (zz @d8 (zz @List.length_append.{0} (zz @aOE (zz @aM4 (zz @aPR (zz @aPW (zz @aPN (zz @Nat.mul_one (zz @Int.toNat_natCast (zz @bA (zz @bE (zz @bK (zz @bF (zz @eN (zz @y4 (zz @bN (zz @Nat.add_lt_add_iff_left (zz @Nat.lt_add_right_iff_pos (@vJ))))))))))))))))))))
theorem aLF{p:Port}{S:List Kc->St}{m q N:Nat}(h:MemAt S (pb p m) (kcs p) q m N):PAt S p (AP p) m q N:=⟨h.len,h.at1,h.pl,vH _ _ _⟩
def BY(p:Port)(A:Nat->Int)(k:Nat):List Load:=((lD p).take k).map (onD p A)
theorem aC5{p:Port}{k:Nat}(h:k<=(lD p).length)(A:Nat->Int):(BY p A k).length=k:=by simp[BY];omega
theorem T8{p:Port}{k:Nat}(h:k<(lD p).length)(A:Nat->Int):BY p A (k+1)=BY p A k++[onD p A (p.come.lo+k)]:=by
 rw[BY,BY,List.take_succ_eq_append_getElem h,List.map_append,OR p h];rfl
theorem YQ(p:Port)(A:Nat->Int):BY p A (lD p).length=dG p A:=by simp[BY,dG]
set_option maxHeartbeats 2000000 in
theorem xF{S:List Kc->St}{p:Port}{m q N:Nat}(hR:MemAt S (pb p m) (kcs p) q m N)(hv:Vd p)(M:List Kc)(A:Nat->Int)(hA:∀ i,-1<=A i/\A i<=10):
  sK T (.func 203 [] []) [.ptr q 0,.agg (aK 3 A)] (S M) (.lit ((dG p A).map i7) false none) (S (eH M (kOf A))):=by
 have hpl:=hR.pl;have hcm:=hv.come;have hdl:=rT p;have hln:=hR.len M;have hl1:=fun τ=>RB (AE p) hR M τ (kOf A)
 simp only[MB,KT hv] at hl1;by_cases hm:kOf A∈M
 ·refine mX hR (af:=KG) rfl (by simp[KG]) ?_;have hst:eH M (kOf A)=M:=by simp[eH,hm]
  rw[hst];simp only[hm,if_true] at hl1
  (repeat (first|simp only[↓QA,QB,seval,j4,hR.len,hR.base,hR.base0,hR.bset,hR.bset0,hR.at1,hR.at0,KG,hl1,vO,vK]|refine rd0 rfl ?_))
  refine⟨_,_,rfl,rfl,?_⟩;try simp only[QS,QC,seval,j4,hR.len,hR.base,hR.base0,hR.bset,hR.bset0,hR.at1,hR.at0]
 have hst:eH M (kOf A)=M++[kOf A]:=by simp[eH,hm]
 have hput:=fun τ=>aBA (AE p) hR M τ (kOf A) hm
 simp only[MB,KT hv] at hput;rw[hst];simp only[hm,if_false] at hl1;refine N2 hR (af:=KG) rfl (by simp[KG]) ?_;simp only[KG];refine aAM [_,_,_] (LR S p q N M A) (LS S p q N M A) ?_ (fun e σ h=>NL hR h) ?_
 ·have w1:IntKind.i64.wrap (p.come.hi-p.come.lo)=p.come.hi-p.come.lo:=cC ⟨by omega,by omega⟩;have w2:IntKind.i64.wrap (p.come.hi-p.come.lo+1)=((lD p).length:Int):=by rw[cC ⟨by omega,by omega⟩];omega
  have hon:=fun τ=>aBR ((aLF hR).app τ) hv M A hA
  obtain⟨n,hn⟩:∃ n,(lD p).length=n:=⟨_,rfl⟩;simp only[T6];rw[hn] at w2
  (repeat (first|simp only[↓QA,QB,seval,j4,hR.len,hR.base,hR.base0,hR.bset,hR.bset0,hR.at1,hR.at0,fM,hl1,vO,vK,w1,w2]|refine rd0 rfl ?_))
  refine kT 7 3 [] rfl ?_;refine bS (S:=Nat×Bool) (0,false) (fun s=>s.1<=n) (fun s=>n-s.1)
   (fun s=>[(0,.ptr q 0),(3,.ptr N 0),(7,.lit ((BY p A s.1).map i7) false (some (N+1))),(33,.int .i64 n),(34,.int .i64 s.1)]) (fun s=>S M++[.cells (aK 3 A),.tok 3 s.1 s.2]) (Nat.zero_le _) (by simp) ?_ fun s hs=>?_
  ·try simp only[aB,QE,seval,j4,hR.len,hR.base,hR.base0,hR.bset,hR.bset0,hR.at1,hR.at0]
   try simp[BY]
   try omega
  obtain⟨k,ex⟩:=s;simp only at hs
  (repeat (first|simp only[↓QA,QB,seval,j4,hR.len,hR.base,hR.base0,hR.bset,hR.bset0,hR.at1,hR.at0,Y4]|refine rd0 rfl ?_))
  refine aE (fun h=>?_) fun h=>?_
  ·have hk1:k<n:=by simpa using h
   have hw:=bL hk1 (by omega);have hsu:=T8 (p:=p) (k:=k) (by omega) A;have hll:=aC5 (p:=p) (k:=k) (by omega) A;have w3:IntKind.i64.wrap (p.come.lo+(k:Int))=p.come.lo+k:=cC ⟨by omega,by omega⟩;have hon2:=fun τ=>hon τ (p.come.lo+k) (by omega)
   obtain⟨y,hy⟩:∃ y,onD p A (p.come.lo+k)=y:=⟨_,rfl⟩;rw[hy] at hsu hon2;obtain⟨L,hL⟩:∃ L,BY p A k=L:=⟨_,rfl⟩;rw[hL] at hsu hll;rw[hL];have hap:=aMD (S M) (.cells (aK 3 A)) L y k ex hll (by omega);rw[hln] at hap
   (repeat (first|simp only[↓QA,QB,seval,j4,hR.len,hR.base,hR.base0,hR.bset,hR.bset0,hR.at1,hR.at0,w3]|refine rd0 rfl ?_))
   (first|refine fD (hon2 _) ?_|refine aV (hon2 _) ?_)
   have hcl:bI 3 (i7 y)=true:=by simp[bI,i7,ldC,AV.cells,AV.cell]
   (repeat (first|simp only[↓QA,QB,seval,j4,hR.len,hR.base,hR.base0,hR.bset,hR.bset0,hR.at1,hR.at0,w3,hap,hcl]|refine rd0 rfl ?_))
   refine⟨(k+1,true),by simp only;omega,by simp only;omega,?_⟩;try simp only[aB,QE,seval,j4,hR.len,hR.base,hR.base0,hR.bset,hR.bset0,hR.at1,hR.at0,hw,hsu]
   try simp[aJ,okVs,okV,gU]
   try omega
  ·have hk1:k=n:=by simp at h;omega
   have hfin:BY p A k=dG p A:=by rw[hk1,<-hn,YQ]
   rw[hfin]
   (repeat (first|simp only[↓QA,QB,seval,j4,hR.len,hR.base,hR.base0,hR.bset,hR.bset0,hR.at1,hR.at0]|refine rd0 rfl ?_))
   refine⟨?_,?_,?_,k,ex,rfl⟩
   ·try simp only[aB,QE,seval,j4,hR.len,hR.base,hR.base0,hR.bset,hR.bset0,hR.at1,hR.at0]
   ·try simp only[aB,QE,seval,j4,hR.len,hR.base,hR.base0,hR.bset,hR.bset0,hR.at1,hR.at0]
   ·try simp only[aB,QE,seval,j4,hR.len,hR.base,hR.base0,hR.bset,hR.bset0,hR.at1,hR.at0]
 ·rintro e σ ⟨q0,q3,q7,rfl⟩;refine MF (K:=fun j e σ=>(j=none\/j=some .ret)/\∃ v0 τ,gZ _ e σ=some v0/\σ=S (M++[kOf A])++τ/\bJ σ N 20 v0=some (.lit ((dG p A).map i7) false none)) ?_
  (repeat (first|simp only[↓QA,QB,seval,j4,hR.len,hR.base,hR.base0,hR.bset,hR.bset0,hR.at1,hR.at0,q0,q3,q7,hput]|refine rd0 rfl ?_))
  refine⟨_,_,rfl,rfl,?_⟩;try simp only[QS,QC,seval,j4,hR.len,hR.base,hR.base0,hR.bset,hR.bset0,hR.at1,hR.at0]
end Go.Am.Room.Ca
namespace Go.Am.Room.Ca
def hJ:=zz @d5 (zz @aG (zz @d8 (zz @List.length_append.{0} (zz @aOE (zz @aM4 (zz @aPR (zz @aPW (zz @aPN (zz @Nat.mul_one (zz @Int.toNat_natCast (zz @bA (zz @bE (zz @bK (zz @bF (zz @eN (zz @y4 (zz @bN (zz @Nat.add_lt_add_iff_left (zz @Nat.lt_add_right_iff_pos (zz @vJ (zz @k7 (@fS))))))))))))))))))))))
def uP(l:List Load)(k:Nat):Int:=(l.take k).foldl (fun n x=>max n x.vain) 0
theorem LV{l:List Load}{k:Nat}(h:k<l.length):uP l (k+1)=max (uP l k) l[k].vain:=by
 rw[uP,List.take_succ_eq_append_getElem h,List.foldl_append];rfl
theorem AZ(p:Port)(A:Nat->Int):(dG p A).length=(lD p).length:=by simp[dG]
theorem zJ{S:List Kc->St}{p:Port}{m q N:Nat}(hR:MemAt S (pb p m) (kcs p) q m N)(hv:Vd p)(M:List Kc)(A:Nat->Int)(hA:∀ i,-1<=A i/\A i<=10):
  sK T (.func 200 [] []) [.ptr q 0,.agg (aK 3 A)] (S M) (.int .i64 (gM p A)) (S (eH M (kOf A))):=by
 have hpl:=hR.pl;have hcm:=hv.come;have hdl:=rT p;have hll:=AZ p A;have hld:=fun τ=>xF (hR.app τ) hv M A hA
 obtain⟨M',hM'⟩:∃ M',eH M (kOf A)=M':=⟨_,rfl⟩;rw[hM'] at hld ⊢;have hva:gM p A=uP (dG p A) (dG p A).length:=by simp[gM,uP]
 rw[hva];obtain⟨L,hL⟩:∃ L,dG p A=L:=⟨_,rfl⟩;rw[hL] at hld hll ⊢;refine mX hR (af:=U6) rfl (by simp[U6]) ?_;try simp only[↓QA,QB,seval,hJ,hR.len,hR.base,hR.base0,hR.bset,hR.bset0,hR.at1,hR.at0,U6]
 refine aW (hld _) ?_;try simp only[↓QA,QB,seval,hJ,hR.len,hR.base,hR.base0,hR.bset,hR.bset0,hR.at1,hR.at0]
 refine bS (S:=Nat) 0 (fun k=>k<=L.length) (fun k=>L.length-k)
  (fun k=>[(4,.int .i64 (uP L k)),(9,.lit (L.map i7) false none),(10,.int .i64 L.length),(11,.int .i64 k)]) (fun _=>S M'++[.cells (aK 3 A)]) (Nat.zero_le _) rfl ?_ fun k hk=>?_
 ·try simp only[aB,QE,seval,hJ,hR.len,hR.base,hR.base0,hR.bset,hR.bset0,hR.at1,hR.at0,uP,List.take_zero]
  try simp[uP]
 try simp only[↓QA,QB,seval,hJ,hR.len,hR.base,hR.base0,hR.bset,hR.bset0,hR.at1,hR.at0,XC]
 refine aE (fun h=>?_) fun h=>?_
 ·have hk1:k<L.length:=by simpa using h
  have hw:=bL hk1 (by omega);have hsu:=LV hk1;obtain⟨y,hy⟩:∃ y,L[k]=y:=⟨_,rfl⟩;rw[hy] at hsu;try simp only[↓QA,QB,seval,hJ,hR.len,hR.base,hR.base0,hR.bset,hR.bset0,hR.at1,hR.at0,hk1,hy,AC,<-hsu]
  refine⟨k+1,by omega,by omega,?_⟩;try simp only[aB,QE,seval,hJ,hR.len,hR.base,hR.base0,hR.bset,hR.bset0,hR.at1,hR.at0,hw]
  try simp[aJ,okVs,okV,gU]
  try omega
 ·have hk1:k=L.length:=by simp at h;omega
  subst hk1;try simp only[↓QA,QB,seval,hJ,hR.len,hR.base,hR.base0,hR.bset,hR.bset0,hR.at1,hR.at0]
  refine⟨_,_,rfl,rfl,?_⟩;try simp only[QS,QC,seval,hJ,hR.len,hR.base,hR.base0,hR.bset,hR.bset0,hR.at1,hR.at0]
theorem aI2{S:List Kc->St}{p:Port}{m q N:Nat}(hR:MemAt S (pb p m) (kcs p) q m N)(hv:Vd p)(M:List Kc)(A:Nat->Int)(hA:∀ i,-1<=A i/\A i<=10):
  gH T (.func 201 [] []) [.ptr q 0,.agg (aK 3 A)] (S M) (.int .i64 (BE p A)):=by
 refine dA (af:=aAJ) rfl (by simp[aAJ]) ?_;have hpl:=hR.pl;have hnf:=hv.nfm;obtain⟨R,hRe⟩:∃ R,BE p A=R:=⟨_,rfl⟩;rw[hRe]
 (repeat (first|simp only[↓QA,QB,reduceLT,reduceIte,reduceEqDiff,reduceAdd,reduceLeDiff,reduceMul,Nat.reduceBEq,hJ,hR.len,hR.base,hR.base0,hR.bset,hR.bset0,hR.at1,hR.at0,aAJ]|refine rd0 rfl ?_))
 refine bS (S:=Nat) 0 (fun k=>k<=p.farms.length) (fun k=>p.farms.length-k)
  (fun k=>[(3,.ptr N 0),(4,.int .i64 (iU p A k)),(11,.lit (p.farms.map cW) false none),(12,.int .i64 p.farms.length),(13,.int .i64 k)]) (fun _=>S M++[.cells (aK 3 A)]) (Nat.zero_le _) rfl ?_ fun k hk=>?_
 ·try simp only[aB,QE,reduceLT,reduceIte,reduceEqDiff,reduceAdd,reduceLeDiff,reduceMul,Nat.reduceBEq,hJ,hR.len,hR.base,hR.base0,hR.bset,hR.bset0,hR.at1,hR.at0]
  try simp[iU]
 (repeat (first|simp only[↓QA,QB,reduceLT,reduceIte,reduceEqDiff,reduceAdd,reduceLeDiff,reduceMul,Nat.reduceBEq,hJ,hR.len,hR.base,hR.base0,hR.bset,hR.bset0,hR.at1,hR.at0,aBC]|refine rd0 rfl ?_))
 refine aE (fun h=>?_) fun h=>?_
 ·have hk1:k<p.farms.length:=by simpa using h
  have hw:=bL hk1 (by omega);have hsu:=wT hk1 A;have hcb:=JB hv A k;have hx4:=(hv.fm _ (List.getElem_mem hk1)).hands;have hg:=iJ 3 A (i:=k) (by omega);have ik:(0:Int)<=(k:Int)/\(k:Int)<((3:Nat):Int):=⟨by omega,by omega⟩;have c2:k<=2:=by omega
  obtain⟨x,hx⟩:∃ x,p.farms[k]=x:=⟨_,rfl⟩;rw[hx] at hsu hx4;obtain⟨n,hn⟩:∃ n,iU p A k=n:=⟨_,rfl⟩;rw[hn] at hsu hcb;rw[hn];obtain⟨c,hc⟩:∃ c,A k=c:=⟨_,rfl⟩;rw[hc] at hsu hg;cases h1:(c==-1)
  ·have h1':¬c = -1:=by simpa using h1
   rw[if_neg h1'] at hsu;have w1:IntKind.i64.wrap (n+x.hands.hi)=n+x.hands.hi:=cC ⟨by omega,by omega⟩
   (repeat (first|simp only[↓QA,QB,reduceLT,reduceIte,reduceEqDiff,reduceAdd,reduceLeDiff,reduceMul,Nat.reduceBEq,hJ,hR.len,hR.base,hR.base0,hR.bset,hR.bset0,hR.at1,hR.at0,hk1,hx,ik,c2,hg,h1,w1]|refine rd0 rfl ?_))
   refine⟨k+1,by omega,by omega,?_⟩;try simp only[aB,QE,reduceLT,reduceIte,reduceEqDiff,reduceAdd,reduceLeDiff,reduceMul,Nat.reduceBEq,hJ,hR.len,hR.base,hR.base0,hR.bset,hR.bset0,hR.at1,hR.at0,hw,hsu]
   try simp[aJ,okVs,okV,gU]
   try omega
  ·have h1':c = -1:=by simpa using h1
   rw[if_pos h1'] at hsu
   (repeat (first|simp only[↓QA,QB,reduceLT,reduceIte,reduceEqDiff,reduceAdd,reduceLeDiff,reduceMul,Nat.reduceBEq,hJ,hR.len,hR.base,hR.base0,hR.bset,hR.bset0,hR.at1,hR.at0,hk1,hx,ik,c2,hg,h1]|refine rd0 rfl ?_))
   refine⟨k+1,by omega,by omega,?_⟩;try simp only[aB,QE,reduceLT,reduceIte,reduceEqDiff,reduceAdd,reduceLeDiff,reduceMul,Nat.reduceBEq,hJ,hR.len,hR.base,hR.base0,hR.bset,hR.bset0,hR.at1,hR.at0,hw,hsu]
   try simp[aJ,okVs,okV,gU]
   try omega
 ·have hk1:k=p.farms.length:=by simp at h;omega
  have hfin:iU p A k=R:=by rw[<-hRe,hk1];rfl
  rw[hfin]
  (repeat (first|simp only[↓QA,QB,reduceLT,reduceIte,reduceEqDiff,reduceAdd,reduceLeDiff,reduceMul,Nat.reduceBEq,hJ,hR.len,hR.base,hR.base0,hR.bset,hR.bset0,hR.at1,hR.at0]|refine rd0 rfl ?_))
  refine dN _ rfl ?_;try simp only[QS,QC,reduceLT,reduceIte,reduceEqDiff,reduceAdd,reduceLeDiff,reduceMul,Nat.reduceBEq,hJ,hR.len,hR.base,hR.base0,hR.bset,hR.bset0,hR.at1,hR.at0]
end Go.Am.Room.Ca
set_option maxRecDepth 8000
namespace Go.Am.Room.Ca
def qO:=zz @dK (zz @aM (zz @d5 (zz @aG (zz @d8 (zz @List.length_append.{0} (zz @Nat.mul_one (zz @Int.toNat_natCast (zz @bA (zz @bE (zz @bK (zz @bF (zz @eN (zz @bN (zz @vJ (zz @k7 (@fS))))))))))))))))
def lC(σ:St)(p:Port):St:=σ++[.cells (aF p),.map [],.cells (pb p (σ.length+1))]
theorem mB(σ:St)(p:Port):sK T (.func 196 [] []) [encPort p] σ (.ptr (σ.length+2) 0) (lC σ p):=by
 refine .callf (.call (af:=HW) rfl (by simp[HW]) (fO (K:=fun j e σ1=>(j=none\/j=some .ret)/\Env.get e 2 = .ptr (σ.length+2) 0/\σ1=lC σ p) ?_ fun o ho=>ho) fun o ho=>?_)
 ·try simp only[↓QA,QB,seval,qO,HW,List.length_append,lC,pb]
  try simp[pb,aF,ints]
 ·exact⟨ho.1,_,rfl,.inl ⟨ho.2.1,ho.2.2⟩⟩
def jX(p:Port)(w:List Int)(A:List Kc):St:=[.cells (aF p),.cells (aF p),.cells (aK 3 (gF w)),.cells (aF p),.map (kcs p A),.cells (pb p 4)]
theorem IQ(p:Port)(w:List Int):MemAt (jX p w) (pb p 4) (kcs p) 5 4 6 :=
 ⟨fun _=>rfl,fun _=>rfl,fun _=>rfl,fun _ _=>rfl,fun A k=>DU (AE p) A k,by omega,by omega⟩
theorem v8{lo hi:Int}:∀ {w:List Int},(∀ x∈w,lo<=x/\x<=hi)->Tr.beyond lo hi w=false
 |[],_=>rfl
 |x::w,h=>by
  have h1:=h x (by simp);have ih:=v8 (w:=w) fun y hy=>h y (by simp[hy])
  simp only[Tr.beyond] at ih ⊢;rw[List.any_cons,ih,Bool.or_false];simp only[Tr.outside,Bool.or_eq_false_iff,decide_eq_false_iff_not];omega
theorem XV(b0 b1:ABlk)(w:List Int)(h:w.length<=3):pX 1 [b0,b1,.cells [.int .i64 0,.int .i64 0,.int .i64 0]] (.ref 2 0 3 1) (ints w)=some (.int .i64 w.length,[b0,b1,.cells (aK 3 (gF w))]):=by
 match w,h with
 |[],_=>rfl
 |[a],_=>rfl
 |[a,b],_=>rfl
 |[a,b,c],_=>rfl
 |a::b::c::d::w,h=>simp at h
theorem lG(p:Port)(w:List Int)(hf:Fits p)(hv:Vd p)(hw:WOk p w):sK T (.func 202 [] []) [encPort p,ints w] [.cells (aF p)] (.tuple [.ptr 5 0,.agg (aK 3 (gF w)),.int .i64 0]) (jX p w []):=by
 refine .callf (.call (af:=RP) rfl (by simp[RP]) (fO (K:=fun j e σ1=>(j=none\/j=some .ret)/\Env.get e 4 = .ptr 5 0/\Env.get e 5 = .ptr 2 0/\Env.get e 6 = .int .i64 0/\σ1=jX p w []) ?_ fun o ho=>ho) fun o ho=>?_)
 ·have hnf:=hv.nfm;have hwl:=hw.len;have hlk:=mB ([.cells (aF p),.cells (aF p),.cells (aK 3 (gF w))]) p;have hbn:=v8 hw.bd;have hcp:=XV (.cells (aF p)) (.cells (aF p)) w (by omega);have hof:=m6 (-1) 10 w (by omega);rw[hbn] at hof;have g1:((w.length:Int)==(p.farms.length:Int))=true:=by rw[hwl];simp
  have e0:kcs p []=[]:=rfl;simp only[jX,lC,e0] at hlk ⊢;try simp only[↓QA,QB,seval,qO,List.append_assoc] at hlk
  simp only[aM,ints] at hcp hof
  (repeat (first|simp only[↓QA,QB,seval,qO,RP,ints]|refine rd0 rfl ?_))
  ((first|refine aC (lE p hf hv) rfl dd ?_|refine aS (lE p hf hv) rfl dd ?_);(repeat (first|simp only[↓QA,QB,seval,qO,enc3,show ((0:Int)==0)=true from rfl]|refine rd0 rfl ?_)))
  (repeat (first|simp only[↓QA,QB,seval,qO,show ((0:Int)==0)=true from rfl,g1]|refine rd0 rfl ?_))
  ((first|refine aC (hof) rfl dd ?_|refine aS (hof) rfl dd ?_);(repeat (first|simp only[↓QA,QB,seval,qO]|refine rd0 rfl ?_)))
  have hsl:yI 3 1 (.ptr 2 0) none none=some (.ref 2 0 3 1):=rfl
  (repeat (first|simp only[↓QA,QB,seval,qO,hsl,hcp]|refine rd0 rfl ?_))
  (first|refine fW hlk ?_|refine aW hlk ?_)
  (repeat (first|simp only[↓QA,QB,seval,qO]|refine rd0 rfl ?_))
  try simp[pb,aF]
 ·refine⟨ho.1,.tuple [.ptr 5 0,.agg (aK 3 (gF w)),.int .i64 0],?_,.inl ⟨rfl,ho.2.2.2.2⟩⟩;simp[gZ,n5,RP,ho.2.1,ho.2.2.1,ho.2.2.2.1,ho.2.2.2.2,jX,kB,aD,fG,bE,bA,bF]
end Go.Am.Room.Ca
namespace Go.Am.Room.Ca
def jL:=zz @dK (zz @aM (zz @d5 (zz @aG (zz @d8 (zz @List.length_append.{0} (zz @Nat.mul_one (zz @Int.toNat_natCast (zz @bA (zz @bE (zz @bK (zz @bF (zz @eN (zz @bN (zz @vJ (zz @k7 (@fS))))))))))))))))
theorem LN(p:Port)(w:List Int)(hf:Fits p)(hv:Vd p)(hw:WOk p w):cP T 57 [encPort p,ints w] (.tuple [.int .i64 (gM p (gF w)),.int .i64 0]):=by
 refine aQ (af:=a57) rfl (by simp[a57]) dd ?_;have hen:=lG p w hf hv hw;have hvn:=zJ ((IQ p w).app [.cells (aK 3 (gF w))]) hv [] (gF w) fun i=>BO hw.bd i
 obtain⟨V,hV⟩:∃ V,gM p (gF w)=V:=⟨_,rfl⟩;rw[hV] at hvn;rw[hV];simp only[jX,ints] at hen hvn;try simp only[↓QA,QB,seval,jL] at hen hvn
 try simp only[↓QA,QB,seval,jL,a57,ints]
 (first|refine aW hen ?_|refine fW hen ?_)
 try simp only[↓QA,QB,seval,jL,show ((0:Int)==0)=true from rfl]
 (first|refine aW hvn ?_|refine fW hvn ?_)
 try simp only[↓QA,QB,seval,jL]
def fB(h:Int)(l:List Load)(k:Nat):Bool:=(l.take k).all fun y=>decide (h<=y.least)
def nB(h:Int)(l:List Load)(k:Nat):Bool:=(l.take k).all fun y=>decide (y.most<h)
theorem aD7{h:Int}{l:List Load}{k:Nat}(hk:k<l.length):fB h l (k+1)=(fB h l k&&decide (h<=l[k].least)):=by
 rw[fB,fB,List.take_succ_eq_append_getElem hk,List.all_append];simp
theorem aFV{h:Int}{l:List Load}{k:Nat}(hk:k<l.length):nB h l (k+1)=(nB h l k&&decide (l[k].most<h)):=by
 rw[nB,nB,List.take_succ_eq_append_getElem hk,List.all_append];simp
theorem aLN(p:Port)(A:Nat->Int):fB p.hold (dG p A) (dG p A).length=iX p A:=by rw[fB,List.take_length,dG,List.all_map];rfl
theorem aKP(p:Port)(A:Nat->Int):nB p.hold (dG p A) (dG p A).length=OA p A:=by rw[nB,List.take_length,dG,List.all_map];rfl
set_option maxHeartbeats 1000000 in
theorem xW(p:Port)(w:List Int)(hf:Fits p)(hv:Vd p)(hw:WOk p w):cP T 56 [encPort p,ints w] (.tuple [.int .i64 (u3 p (gF w)),.int .i64 0]):=by
 refine aQ (af:=a56) rfl (by simp[a56]) dd ?_;have hen:=lG p w hf hv hw;have hdl:=rT p;have hcm:=hv.come;have hll:=AZ p (gF w);have hld:=xF ((IQ p w).app [.cells (aK 3 (gF w))]) hv [] (gF w) fun i=>BO hw.bd i
 obtain⟨M',hM'⟩:∃ M',eH [] (kOf (gF w))=M':=⟨_,rfl⟩;rw[hM'] at hld;have hfa:=aLN p (gF w);have hna:=aKP p (gF w);have hdo:u3 p (gF w)=if iX p (gF w)=true then 1 else if OA p (gF w)=true then 2 else 0:=rfl
 obtain⟨R,hR⟩:∃ R,u3 p (gF w)=R:=⟨_,rfl⟩;rw[hR] at hdo ⊢;rw[<-hfa,<-hna] at hdo;obtain⟨L,hL⟩:∃ L,dG p (gF w)=L:=⟨_,rfl⟩;rw[hL] at hld hll hdo;obtain⟨H,hH⟩:∃ H,p.hold=H:=⟨_,rfl⟩;rw[hH] at hdo;simp only[jX,ints] at hen hld;try simp only[↓QA,QB,seval,jL] at hen hld
 try simp only[↓QA,QB,seval,jL,a56,ints]
 (first|refine aW hen ?_|refine fW hen ?_)
 try simp only[↓QA,QB,seval,jL,show ((0:Int)==0)=true from rfl]
 (first|refine aW hld ?_|refine fW hld ?_)
 try simp only[↓QA,QB,seval,jL]
 refine bS (S:=Nat) 0 (fun k=>k<=L.length) (fun k=>L.length-k)
  (fun k=>[(2,.ptr 0 0),(9,.bool (fB H L k)),(10,.bool (nB H L k)),(25,.lit (L.map i7) false none),(26,.int .i64 L.length),(27,.int .i64 k)])
  (fun _=>[.cells (aF p),.cells (aF p),.cells (aK 3 (gF w)),.cells (aF p),.map (kcs p M'),.cells (pb p 4),.cells (aK 3 (gF w))]) (Nat.zero_le _) (by simp only[aM]) ?_ fun k hk=>?_
 ·try simp only[aB,QE,seval,jL]
  try simp[fB,nB]
 try simp only[↓QA,QB,seval,jL,aH6]
 refine aE (fun h=>?_) fun h=>?_
 ·have hk1:k<L.length:=by simpa using h
  have hwk:=bL hk1 (by omega);have h1:=aD7 (h:=H) hk1;have h2:=aFV (h:=H) hk1;obtain⟨y,hy⟩:∃ y,L[k]=y:=⟨_,rfl⟩;rw[hy] at h1 h2;obtain⟨a,ha⟩:∃ a,fB H L k=a:=⟨_,rfl⟩;obtain⟨b,hb⟩:∃ b,nB H L k=b:=⟨_,rfl⟩;obtain⟨c,hc⟩:∃ c,decide (H<=y.least)=c:=⟨_,rfl⟩;obtain⟨d,hd⟩:∃ d,decide (y.most<H)=d:=⟨_,rfl⟩;rw[ha,hc] at h1;rw[hb,hd] at h2;rw[ha,hb];have hok:∀ k,aJ k (.map (kcs p M')):=fun k=>DU (AE p) M' k
  cases a<;>cases b;all_goals
   simp only[Bool.false_and,Bool.true_and] at h1 h2;try simp only[↓QA,QB,seval,jL,hk1,hy,hH,hc,hd]
   refine⟨k+1,by omega,by omega,?_⟩;try simp only[aB,QE,seval,jL,hwk,h1,h2]
   try simp[aJ,okVs,okV,gU]
 ·have hk1:k=L.length:=by simp at h;omega
  subst hk1;cases ha:fB H L L.length
  ·rw[ha] at hdo;cases hb:nB H L L.length
   ·rw[hb] at hdo;have:R=0:=by rw[hdo];simp
    subst this;try simp only[↓QA,QB,seval,jL]
   ·rw[hb] at hdo;have:R=2:=by rw[hdo];simp
    subst this;try simp only[↓QA,QB,seval,jL]
  ·rw[ha] at hdo;have:R=1:=by rw[hdo];simp
   subst this;try simp only[↓QA,QB,seval,jL]
end Go.Am.Room.Ca
namespace Go.Am.Room.Ca
def mL:=zz @List.length_append.{0} (zz @Nat.mul_one (zz @Int.toNat_natCast (zz @bN (zz @bA (zz @bE (zz @bK (zz @bF (@eN))))))))
theorem aAR(σ:St)(i j:Nat)(a b:List Int)(hl:a.length=b.length)(ha:a.length<100)(hi:aD σ i=some (a.map (.int .i64)))(hj:aD σ j=some (b.map (.int .i64))):
  gH T (.func 118 [] []) [.ref i 0 a.length 1,.ref j 0 b.length 1] σ (.int .i64 (Tr.cmpL a b)):=by
 refine dA (af:=LM) rfl (by simp[LM]) ?_;have hi1:=kH hi;have hj1:=kH hj;have s1:∀ τ d,bJ (σ++τ) σ.length d (.ref i 0 a.length 1)=some (.ref i 0 a.length 1):=fun τ d=>uB hi1
 have s2:∀ τ d,bJ (σ++τ) σ.length d (.ref j 0 b.length 1)=some (.ref j 0 b.length 1):=fun τ d=>uB hj1
 have s10:∀ d,bJ σ σ.length d (.ref i 0 a.length 1)=some (.ref i 0 a.length 1):=fun d=>uB hi1
 have s20:∀ d,bJ σ σ.length d (.ref j 0 b.length 1)=some (.ref j 0 b.length 1):=fun d=>uB hj1
 obtain⟨R,hRe⟩:∃ R,Tr.cmpL a b=R:=⟨_,rfl⟩;rw[hRe];try simp only[↓QA,QB,seval,mL,LM]
 refine bS (S:=Nat) 0 (fun k=>k<=a.length/\Tr.cmpL (a.drop k) (b.drop k)=R) (fun k=>a.length-k) (fun k=>[(0,.ref i 0 a.length 1),(1,.ref j 0 b.length 1),(9,.ref i 0 a.length 1),(10,.int .i64 a.length),(11,.int .i64 k)]) (fun _=>σ) ⟨by simp,by simpa using hRe⟩ rfl ?_ fun k hk=>?_
 ·try simp only[aB,QE,seval,mL]
  try simp
 obtain⟨hk,hq⟩:=hk;try simp only[↓QA,QB,seval,mL,NG]
 refine aE (fun h=>?_) fun h=>?_
 ·have hk1:k<a.length:=by simpa using h
  have hk2:k<b.length:=by omega
  have hw:=bL hk1 (by omega);have i1:(0:Int)<=(k:Int)/\(k:Int)<((a.length:Nat):Int)/\1=1:=⟨by omega,by omega,rfl⟩;have i2:(0:Int)<=(k:Int)/\(k:Int)<((b.length:Nat):Int)/\1=1:=⟨by omega,by omega,rfl⟩;have g1:(a.map (AV.int .i64))[k]? = some (.int .i64 a[k]):=by simp[hk1]
  have g2:(b.map (AV.int .i64))[k]? = some (.int .i64 b[k]):=by simp[hk2]
  have g3:decide ((b.length:Int)<=(k:Int))=false:=by simp;omega
  rw[List.drop_eq_getElem_cons hk1,List.drop_eq_getElem_cons hk2] at hq;simp only[Tr.cmpL] at hq;have hc:=Tr.cmp_ok a[k] b[k];obtain⟨x,hx⟩:∃ x,Tr.cmpI a[k] b[k]=x:=⟨_,rfl⟩;rw[hx] at hq hc;try simp only[↓QA,QB,seval,mL,i1,i2,g1,g2,g3,hi,hj,Nat.zero_add]
  (refine aC (hc) rfl dd ?_;try simp only[↓QA,QB,seval,mL])
  cases h3:(x==0)
  ·have h3':x≠0:=by simpa using h3
   rw[if_neg h3'] at hq;try simp only[↓QA,QB,seval,mL,h3]
   refine dN [] (by first|rfl|simp) ?_;rw[hq];try simp only[QS,QC,seval,mL]
  ·have h3':x=0:=by simpa using h3
   rw[if_pos h3'] at hq;try simp only[↓QA,QB,seval,mL,h3]
   refine⟨k+1,⟨by omega,hq⟩,by omega,?_⟩;try simp only[aB,QE,seval,mL,hw,s1,s2,s10,s20]
 ·have hk1:k=a.length:=by simp at h;omega
  have g3:decide ((a.length:Int)<(b.length:Int))=false:=by simp;omega
  rw[hk1,List.drop_length,hl,List.drop_length] at hq;simp only[Tr.cmpL] at hq;subst hq;try simp only[↓QA,QB,seval,mL,g3]
  refine dN [] (by first|rfl|simp) ?_;try simp only[QS,QC,seval,mL]
end Go.Am.Room.Ca
namespace Go.Am.Room.Ca
def B8:=zz @d5 (zz @aG (zz @d8 (zz @List.length_append.{0} (zz @Nat.mul_one (zz @Int.toNat_natCast (zz @bA (zz @bE (zz @bK (zz @bF (zz @eN (zz @bN (zz @Nat.add_lt_add_iff_left (zz @Nat.lt_add_right_iff_pos (zz @eZ (zz @fE (zz @iG (@iB)))))))))))))))))
def lO(p:Port)(A:List Kc):St:=[.cells (aF p),.cells (aF p),.map (kcs p A),.cells (pb p 2),.cells [.ptr 3 0]]
theorem pN(p:Port):MemAt (lO p) (pb p 2) (kcs p) 3 2 5 :=
 ⟨fun _=>rfl,fun _=>rfl,fun _=>rfl,fun _ _=>rfl,fun A k=>DU (AE p) A k,by omega,by omega⟩
theorem aDP(p:Port)(hv:Vd p)(M:List Kc)(A:Nat->Int)(hA:∀ i,-1<=A i/\A i<=10)(τ:St):
  sK T (.func 199 [] [.ptr 4 0]) [.agg (aK 3 A)] (lO p M++τ) (.agg [.int .i64 (gM p A),.int .i64 (BE p A)]) (lO p (eH M (kOf A))++τ):=by
 refine mX (S:=fun M=>lO p M++τ) ((pN p).app τ) (af:=ZX) rfl (by simp[ZX]) ?_;have hvn:=zJ ((pN p).app (τ++[.cells (aK 3 A),.cells [.int .i64 0,.int .i64 0]])) hv M A hA;have hct:=fun M=>aI2 ((pN p).app (τ++[.cells (aK 3 A),.cells [.int .i64 0,.int .i64 0]])) hv M A hA
 obtain⟨V,hV⟩:∃ V,gM p A=V:=⟨_,rfl⟩;obtain⟨C,hC⟩:∃ C,BE p A=C:=⟨_,rfl⟩;rw[hV] at hvn ⊢;rw[hC] at hct ⊢;simp only[lO,List.cons_append,List.nil_append] at hvn hct ⊢
 (repeat (first|simp only[↓QA,QB,seval,B8,ZX]|refine rd0 rfl ?_))
 (first|refine fW hvn ?_|refine aW hvn ?_)
 (repeat (first|simp only[↓QA,QB,seval,B8]|refine rd0 rfl ?_))
 (first|refine fD (hct _) ?_|refine aV (hct _) ?_)
 (repeat (first|simp only[↓QA,QB,seval,B8]|refine rd0 rfl ?_))
 refine⟨_,[.cells (aK 3 A),.cells [.int .i64 V,.int .i64 C]],rfl,by simp,?_⟩;try simp only[QS,QC,seval,B8]
def bU(b:Bst):St:=match b with
 |none=>[.cells (aK 3 fun _=>0),.cells [.bool false],.cells [.int .i64 0,.int .i64 0]]
 |some (w,n,k)=>[.cells (aK 3 (gF w)),.cells [.bool true],.cells [.int .i64 n,.int .i64 k]]
abbrev Pl:=List Kc×Bst
def plZ(p:Port)(y:Pl):St:=lO p y.1++(.cells [.ptr 3 0]::.cells [.func 199 [] [.ptr 4 0]]::bU y.2)
def plF(p:Port)(w:List Int)(y:Pl):Pl×Bool:=((eH y.1 (kOf (gF w)),wN p y.2 w),true)
theorem aMG(b:Bst):(bU b).length=3:=by cases b<;>rfl
theorem sN(p:Port)(y:Pl):(plZ p y).length=10:=by simp[plZ,lO,aMG]
theorem aGJ(p:Port)(lp:ABlk):DFam (fun y=>plZ p y++[lp]) p (AP p) 2 3 5 11 where
 pat:=⟨fun y=>by rw[List.length_append,sN];rfl,fun y τ=>by
  have e:plZ p y++[lp]++τ=lO p y.1++(.cells [.ptr 3 0]::.cells [.func 199 [] [.ptr 4 0]]::(bU y.2++(lp::τ))):=by simp[plZ]
  rw[e]
  exact (pN p).at1 y.1 _,by omega,vH _ _ _⟩
 atq:=fun y τ=>by
  have e:plZ p y++[lp]++τ=lO p y.1++(.cells [.ptr 3 0]::.cells [.func 199 [] [.ptr 4 0]]::(bU y.2++(lp::τ))):=by simp[plZ]
  rw[e];exact (pN p).base0 y.1 _
theorem aCK(p:Port):∀ (l:List (List Int)) (y:Pl),(aU (plF p) l y).2=true/\(aU (plF p) l y).1.2=l.foldl (wN p) y.2
 |[],y=>⟨rfl,rfl⟩
 |w::l,y=>by
  have ih:=aCK p l (plF p w y).1;simp only[aU];rw[show (plF p w y).2=true from rfl];simp only[if_true];exact⟨ih.1,ih.2⟩
theorem aD2(a b c d:Int):decide (Tr.cmpL [a,b] [c,d]<0)=decide (a<c\/(a=c/\b<d)):=by
 rw[Bool.eq_iff_iff,decide_eq_true_eq,decide_eq_true_eq];simp only[Tr.cmpL,Tr.cmpI]
 repeat' split
 all_goals omega
end Go.Am.Room.Ca
namespace Go.Am.Room.Ca
theorem ZH(X:St)(w:List Int)(n:Nat)(hn:w.length=n)(h:n<=3):pX 1 (X++[.cells (aK 3 (gF w)),.cells (List.replicate n [AV.int .i64 0]).flatten]) (.ref (X.length+1) 0 n 1) (.ref X.length 0 3 1)=some (.int .i64 n,X++[.cells (aK 3 (gF w)),.cells (w.map (.int .i64))]):=by
 subst hn;have c1:aD (X++[.cells (aK 3 (gF w)),.cells (List.replicate w.length [AV.int .i64 0]).flatten]) X.length=some (aK 3 (gF w)):=by rw[jY];rfl
 have c2:aD (X++[.cells (aK 3 (gF w)),.cells (List.replicate w.length [AV.int .i64 0]).flatten]) (X.length+1)=some (List.replicate w.length [AV.int .i64 0]).flatten:=by rw[mF];rfl
 have hv:j6 (X++[.cells (aK 3 (gF w)),.cells (List.replicate w.length [AV.int .i64 0]).flatten]) (.ref X.length 0 3 1)=some (aK 3 (gF w)):=by
  simp only[j6,c1];rfl
 have hs:gO (List.replicate w.length [AV.int .i64 0]).flatten 0 (((aK 3 (gF w)).take w.length).flatMap AV.cells)=some (w.map (.int .i64)):=by
  match w,h with
  |[],_=>rfl
  |[a],_=>rfl
  |[a,b],_=>rfl
  |[a,b,c],_=>rfl
  |a::b::c::d::w,h=>simp at h
 have ha:aI 1 (aK 3 (gF w))=true:=by simp[aK,List.range_succ,aI,AV.cells,AV.cell]
 have hm:Nat.min (aK 3 (gF w)).length w.length=w.length:=by rw[bA];exact Nat.min_eq_right h
 simp only[pX,hv,wE,ha,c2,hs,hm];rw[kD];simp
theorem X3(X:St)(w:List Int)(b:ABlk):bJ (X++[b,.cells (w.map (.int .i64))]) 0 20 (.ref (X.length+1) 0 w.length 1)=some (ints w):=by
 have c2:aD (X++[b,.cells (w.map (AV.int .i64))]) (X.length+1)=some (w.map (.int .i64)):=by rw[mF];rfl
 have hc:∀ l:List Int,nR 1 l.length (l.map (AV.int .i64))=l.map (.int .i64):=by
  intro l
  induction l with
  |nil=>rfl
  |cons x l ih=>simp[nR,AV.cell,ih]
 have hv:j6 (X++[b,.cells (w.map (AV.int .i64))]) (.ref (X.length+1) 0 w.length 1)=some (w.map (.int .i64)):=by
  simp[j6,c2,hc]
 have hs:∀ d,cB (X++[b,.cells (w.map (AV.int .i64))]) 0 d (w.map (.int .i64))=some (w.map (.int .i64)):=fun d=>gJ (bD (enc:=fun x:Int=>AV.int .i64 x) (fun x=>aY _ _) w) _ 0 d
 have ha:aI 1 (w.map (AV.int .i64))=true:=kQ w;rw[HB];simp[hv,ha,hs,ints]
end Go.Am.Room.Ca
namespace Go.Am.Room.Ca
def fZ:=zz @d5 (zz @aG (zz @d8 (zz @List.length_append.{0} (zz @Nat.mul_one (zz @Int.toNat_natCast (zz @bA (zz @bE (zz @bK (zz @bF (zz @eN (zz @bN (zz @Nat.add_lt_add_iff_left (zz @Nat.lt_add_right_iff_pos (zz @eZ (zz @fE (zz @iG (@iB)))))))))))))))))
def aAW(b:Bst):Nat->Int:=match b with|none=>fun _=>0|some (w,_,_)=>gF w
def aCO(b:Bst):Bool:=match b with|none=>false|some _=>true
set_option maxHeartbeats 2000000 in
theorem PP(p:Port)(hv:Vd p)(lp:ABlk)(M:List Kc)(b:Bst)(w:List Int)(hw:WOk p w)(τ:St)(e:Env)(K:KJ)(e3:Env.get e 3 = .ptr 6 0)(e4:Env.get e 4 = .ptr 7 0)(e5:Env.get e 5 = .ptr 8 0)(e6:Env.get e 6 = .ptr 9 0)(e7:Env.get e 7 = .ptr (τ.length+1+1+1+1+1+1+1+1+1+1+1) 0)(hK:∀ e' τ',K none e' (plZ p (eH M (kOf (gF w)),wN p b w)++(lp::(τ++τ')))):
  wp T I4 e (plZ p (M,b)++(lp::(τ++[.cells (aK 3 (gF w))]))) K:=by
 have hof:=fun υ=>aDP p hv M (gF w) (fun i=>BO hw.bd i) υ
 obtain⟨M',hM'⟩:∃ M',eH M (kOf (gF w))=M':=⟨_,rfl⟩;rw[hM'] at hof hK;obtain⟨R,hR⟩:∃ R,wN p b w=R:=⟨_,rfl⟩;rw[hR] at hK;obtain⟨V,hV⟩:∃ V,gM p (gF w)=V:=⟨_,rfl⟩;obtain⟨C,hC⟩:∃ C,BE p (gF w)=C:=⟨_,rfl⟩;rw[hV,hC] at hof;cases b with
 |none =>
  simp only[wN,hV,hC] at hR;subst hR;simp only[plZ,lO,bU,List.cons_append,List.nil_append,List.append_assoc] at hof hK ⊢
  (repeat (first|simp only[↓QA,QB,seval,fZ,I4,e3,e4,e5,e6,e7]|refine rd0 rfl ?_))
  (first|refine aW (hof _) ?_|refine fW (hof _) ?_)
  (repeat (first|simp only[↓QA,QB,seval,fZ,e3,e4,e5,e6,e7]|refine rd0 rfl ?_))
  exact hK _ [.cells (aK 3 (gF w)),.cells [.int .i64 V,.int .i64 C]]
 |some x =>
  obtain⟨c,n,k⟩:=x;simp only[wN,hV,hC] at hR;simp only[plZ,lO,bU,List.cons_append,List.nil_append,List.append_assoc] at hof hK ⊢
  (repeat (first|simp only[↓QA,QB,seval,fZ,I4,e3,e4,e5,e6,e7]|refine rd0 rfl ?_))
  (first|refine aW (hof _) ?_|refine fW (hof _) ?_)
  have sl:∀ i,yI 2 1 (.ptr i 0) none none=some (.ref i 0 2 1):=fun _=>rfl
  have hcm:=aD2 V C n k
  (repeat (first|simp only[↓QA,QB,seval,fZ,e3,e4,e5,e6,e7,sl]|refine rd0 rfl ?_))
  refine fD (aAR _ _ _ [V,C] [n,k] rfl (by simp) ?_ ?_) ?_
  ·(repeat (first|simp only[↓QA,QB,seval,fZ]|refine rd0 rfl ?_))
   rfl
  ·(repeat (first|simp only[↓QA,QB,seval,fZ]|refine rd0 rfl ?_))
   rfl
  cases hd:decide (V<n\/V=n/\C<k)
  ·have hd':¬(V<n\/V=n/\C<k):=by simpa using hd
   rw[if_neg hd'] at hR;subst hR;rw[hd] at hcm
   (repeat (first|simp only[↓QA,QB,seval,fZ,e3,e4,e5,e6,e7,sl,hcm]|refine rd0 rfl ?_))
   exact hK _ [.cells (aK 3 (gF w)),.cells [.int .i64 V,.int .i64 C]]
  ·have hd':V<n\/V=n/\C<k:=by simpa using hd
   rw[if_pos hd'] at hR;subst hR;rw[hd] at hcm
   (repeat (first|simp only[↓QA,QB,seval,fZ,e3,e4,e5,e6,e7,sl,hcm]|refine rd0 rfl ?_))
   exact hK _ [.cells (aK 3 (gF w)),.cells [.int .i64 V,.int .i64 C]]
theorem SG(p:Port)(hv:Vd p):∃ M',sK T (.func 197 [] []) [.func 329 [] [.ptr 5 0],.func 199 [] [.ptr 4 0]] (lO p []++[.cells [.ptr 3 0]]) (.tuple [.agg (aK 3 (aAW (pL p))),.bool (aCO (pL p))]) (lO p M'++[.cells [.ptr 3 0]]):=by
 have hit:=aCK p (eT p) ([],none);obtain⟨R,hR⟩:∃ R,aU (plF p) (eT p) ([],none)=R:=⟨_,rfl⟩;rw[hR] at hit;have hb:pL p=R.1.2:=hit.2.symm;rw[hb];refine⟨R.1.1,?_⟩;refine mX (S:=fun M=>lO p M++[.cells [.ptr 3 0]]) (A:=[]) (B:=R.1.1) (f:=197) (first:=[]) (cap:=[]) (args:=[.func 329 [] [.ptr 5 0],.func 199 [] [.ptr 4 0]]) ((pN p).app [.cells [.ptr 3 0]]) (af:=US) rfl (by simp[US]) ?_;have hz:lO p []++[.cells [.ptr 3 0],.cells [.func 199 [] [.ptr 4 0]],.cells [.int .i64 0,.int .i64 0,.int .i64 0],.cells [.bool false],.cells [.int .i64 0,.int .i64 0]]=plZ p ([],none):=by simp[plZ,bU,aK,List.range_succ]
 have hpl:(lO p []).length=5:=rfl
 (repeat (first|simp only[↓QA,QB,seval,fZ,US,hpl]|refine rd0 rfl ?_))
 rw[hz];refine rM (plZ p) (plZ p) 10 (sN p) (sN p) .ret _ 9 [10] _ _ 329 [.ptr 5 0] ?_ (aU (plF p) (eT p) ([],none)) ([],none) ?_ _ ?_ ?_
 ·try simp only[aB,QE,seval,fZ]
 ·refine zH (Z:=fun y=>plZ p y++[_]) (ZD:=fun y=>plZ p y++[_]) (aGJ p _) (fun y=>by rw[List.length_append,sN];rfl) (plF p) ?_ hv ([],none);refine pC (plZ p) (plZ p) 10 (sN p) (sN p) _ _ [10] (fun t=>[.agg (aK 3 (gF t))]) (fun _=>rfl) _ _ ?_;rintro w hw ⟨M,b⟩ τ;simp only[i6];have hln:=sN p (M,b);have hbs:∀ τ k,aD (plZ p (M,b)++τ) (10+k)=aD τ k:=fun τ k=>by rw[<-hln];exact mF _ _ _
  have hst:∀ (τ:St) (k:Nat) (y:ABlk),(plZ p (M,b)++τ).set (10+k) y=plZ p (M,b)++τ.set k y:=fun τ k y=>by rw[<-hln];exact kD _ _ _ _
  (repeat (first|simp only[↓QA,QB,seval,fZ,hln,hbs,hst]|refine rd0 rfl ?_))
  refine⟨[.cells (aK 3 (gF w))],by simp,?_⟩;generalize ABlk.loop .busy none _ _ _ _=lp;refine PP p hv lp M b w hw τ _ _ ?_ ?_ ?_ ?_ ?_ fun e' τ'=>?_
  ·try simp only[aB,QE,seval,fZ]
  ·try simp only[aB,QE,seval,fZ]
  ·try simp only[aB,QE,seval,fZ]
  ·try simp only[aB,QE,seval,fZ]
  ·try simp only[aB,QE,seval,fZ]
   congr 1
   omega
  exact .inl ⟨rfl,rfl,_,rfl⟩
 ·intro τ h2;rw[hR];obtain⟨⟨M,b⟩,r⟩:=R;cases b with
  |none =>
   simp only[plZ,lO,bU,List.cons_append,List.nil_append,List.append_assoc,aAW,aCO]
   (repeat (first|simp only[↓QA,QB,seval,fZ]|refine rd0 rfl ?_))
   refine⟨_,_,rfl,rfl,?_⟩;try simp only[QS,QC,seval,fZ]
  |some x =>
   obtain⟨w,n,k⟩:=x;simp only[plZ,lO,bU,List.cons_append,List.nil_append,List.append_assoc,aAW,aCO]
   (repeat (first|simp only[↓QA,QB,seval,fZ]|refine rd0 rfl ?_))
   refine⟨_,_,rfl,rfl,?_⟩;try simp only[QS,QC,seval,fZ]
 ·intro τ h2;rw[hR] at h2;rw[hit.1] at h2;cases h2
end Go.Am.Room.Ca
namespace Go.Am.Room.Ca
def sI:=zz @dK (zz @aM (zz @d5 (zz @aG (zz @d8 (zz @List.length_append.{0} (zz @Nat.mul_one (zz @Int.toNat_natCast (zz @bA (zz @bE (zz @bK (zz @bF (zz @eN (zz @bN (zz @Nat.add_lt_add_iff_left (@Nat.lt_add_right_iff_pos)))))))))))))))
theorem QN{p:Port}{w:List Int}{n k:Int}(h:pL p=some (w,n,k)):w∈eT p:=by
 have key:∀ (l:List (List Int)) (b:Bst),(∀ w n k,b=some (w,n,k)->w∈eT p)->(∀ w∈l,w∈eT p)->∀ w n k,l.foldl (wN p) b=some (w,n,k)->w∈eT p:=by
  intro l
  induction l with
  |nil=>intro b hb _ w n k h;exact hb w n k h
  |cons x l ih =>
   intro b hb hl w n k h;refine ih (wN p b x) (fun w n k h=>?_) (fun w hw=>hl w (by simp[hw])) w n k h;unfold wN at h;split at h
   ·cases h;exact hl _ (by simp)
   ·rename_i c n' k';split at h
    ·cases h;exact hl _ (by simp)
    ·cases h;exact hb _ _ _ rfl
 exact key (eT p) none (fun w n k h=>by cases h) (fun w hw=>hw) w n k h
theorem aIS{p:Port}{w:List Int}(h:w∈eT p):WOk p w/\iX p (gF w)=true:=by
 obtain⟨h1,h2⟩:=List.mem_filter.1 h;exact⟨HV (Nat.le_refl _) h1,h2⟩
def FQ(r:List Int×Int×Int):AV:=.tuple [ints r.1,.int .i64 r.2.1,.int .i64 r.2.2]
theorem yB(p:Port)(hf:Fits p)(hv:Vd p):cP T 55 [encPort p] (FQ (zO p)):=by
 refine aQ (af:=a55) rfl (by simp[a55]) dd ?_;have hlk:=mB ([.cells (aF p)]) p;obtain⟨M,hbd⟩:=SG p hv;have hpc:=lE p hf hv;have hpn:=hv.nfm;have hbi:∀ w n k,pL p=some (w,n,k)->w∈eT p:=fun w n k h=>QN h
 have hpl:zO p=match pL p with|none=>([],0,9)|some (w,_,_)=>(w,gM p (gF w),0):=rfl
 rw[hpl];obtain⟨B,hB⟩:∃ B,pL p=B:=⟨_,rfl⟩;rw[hB] at hbd hbi;rw[hB];have e0:kcs p []=[]:=rfl;simp only[dK,aM] at hpc hlk;simp only[lC,List.cons_append,List.nil_append,List.length_cons,List.length_nil,aM] at hlk;simp only[lO,List.cons_append,List.nil_append,e0,aM] at hbd;try simp only[↓QA,QB,seval,sI,a55]
 (refine aC (hpc) rfl dd ?_;try simp only[↓QA,QB,seval,sI,enc3,show ((0:Int)==0)=true from rfl])
 (first|refine fW hlk ?_|refine aW hlk ?_)
 try simp only[↓QA,QB,seval,sI]
 refine iC rfl (by simp[LI]) ?_;try simp only[↓QA,QB,seval,sI,LI]
 (first|refine fW hbd ?_|refine aW hbd ?_)
 cases B with
 |none =>
  simp only[aAW,aCO,FQ];try simp only[↓QA,QB,seval,sI]
  rfl
 |some x =>
  obtain⟨w,n,k⟩:=x;have hw:=hbi w n k rfl;obtain⟨hwo,_⟩:=aIS hw;have hmk:nE 8 (.int .i64 p.farms.length) (.int .i64 p.farms.length)=some p.farms.length:=by simp[nE,room];omega
  have hcp:=ZH [.cells (aF p),.cells (aF p),.map (kcs p M),.cells (pb p 2),.cells [.ptr 3 0],.cells [.ptr 3 0]] w p.farms.length hwo.len hpn;have hvn:=zJ ((pN p).app [.cells [.ptr 3 0],.cells (aK 3 (gF w)),.cells (w.map (.int .i64))]) hv M (gF w) fun i=>BO hwo.bd i
  have sl:yI 3 1 (.ptr 6 0) none none=some (.ref 6 0 3 1):=rfl;obtain⟨V,hV⟩:∃ V,gM p (gF w)=V:=⟨_,rfl⟩;obtain⟨M2,hM2⟩:∃ M2,eH M (kOf (gF w))=M2:=⟨_,rfl⟩;have hls:=X3 [.cells (aF p),.cells (aF p),.map (kcs p M2),.cells (pb p 2),.cells [.ptr 3 0],.cells [.ptr 3 0]] w (.cells (aK 3 (gF w)));rw[hV,hM2] at hvn;simp only[aAW,aCO,FQ,hV];simp only[lO,aM,List.cons_append,List.nil_append,List.length_cons,List.length_nil,Nat.zero_add,Nat.reduceAdd,hwo.len] at hcp hvn hls;try simp only[↓QA,QB,seval,sI,hmk,sl,hcp]
  (first|refine fW hvn ?_|refine aW hvn ?_)
  try simp only[↓QA,QB,seval,sI,hls]
  done
def wR(x:Fm)(w:Int):Fm:=⟨x.name,w,x.notice,max x.keep w,x.hands⟩
def BH(x:Fm)(w c:Int):Fm:=⟨x.name,c,x.notice,max x.keep w,x.hands⟩
def jZ(l:List Fm)(ws:List Int):Nat->List Fm
 |0=>[]
 |k+1=>match l[k]?,ws[k]? with|some x,some w=>jZ l ws k++[wR x w]|_,_=>jZ l ws k
def nQ(l:List Fm)(ws cs:List Int):Nat->List Fm
 |0=>[]
 |k+1=>match l[k]?,ws[k]?,cs[k]? with|some x,some w,some c=>nQ l ws cs k++[BH x w c]|_,_,_=>nQ l ws cs k
theorem sR{l:List Fm}{ws:List Int}{k:Nat}(h1:k<l.length)(h2:k<ws.length):jZ l ws (k+1)=jZ l ws k++[wR l[k] ws[k]]:=by simp[jZ,h1,h2]
theorem vW{l:List Fm}{ws cs:List Int}{k:Nat}(h1:k<l.length)(h2:k<ws.length)(h3:k<cs.length):nQ l ws cs (k+1)=nQ l ws cs k++[BH l[k] ws[k] cs[k]]:=by simp[nQ,h1,h2,h3]
theorem pA{l:List Fm}{ws:List Int}:∀ k,k<=l.length->k<=ws.length->(jZ l ws k).length=k
 |0,_,_=>rfl
 |k+1,h1,h2=>by rw[sR (by omega) (by omega),List.length_append,pA k (by omega) (by omega)];rfl
theorem rH{l:List Fm}{ws cs:List Int}:∀ k,k<=l.length->k<=ws.length->k<=cs.length->(nQ l ws cs k).length=k
 |0,_,_,_=>rfl
 |k+1,h1,h2,h3=>by rw[vW (by omega) (by omega) (by omega),List.length_append,rH k (by omega) (by omega) (by omega)];rfl
theorem AX{l:List Fm}{ws:List Int}:∀ k,(h1:k<=l.length)->(h2:k<=ws.length)->∀ i (h:i<k),(jZ l ws k)[i]? = some (wR l[i] ws[i])
 |0,_,_,i,h=>absurd h (Nat.not_lt_zero _)
 |k+1,h1,h2,i,h=>by
  have hl:=pA (l:=l) (ws:=ws) k (by omega) (by omega);rw[sR (by omega) (by omega)];by_cases e:i=k
  ·subst e;rw[List.getElem?_append_right (by omega),hl];simp
  ·rw[List.getElem?_append_left (by omega)];exact AX k (by omega) (by omega) i (by omega)
theorem DI{l:List Fm}{ws cs:List Int}:∀ k,(h1:k<=l.length)->(h2:k<=ws.length)->(h3:k<=cs.length)->∀ i (h:i<k),(nQ l ws cs k)[i]? = some (BH l[i] ws[i] cs[i])
 |0,_,_,_,i,h=>absurd h (Nat.not_lt_zero _)
 |k+1,h1,h2,h3,i,h=>by
  have hl:=rH (l:=l) (ws:=ws) (cs:=cs) k (by omega) (by omega) (by omega);rw[vW (by omega) (by omega) (by omega)];by_cases e:i=k
  ·subst e;rw[List.getElem?_append_right (by omega),hl];simp
  ·rw[List.getElem?_append_left (by omega)];exact DI k (by omega) (by omega) (by omega) i (by omega)
theorem wS{l:List Fm}{ws:List Int}:∀ k,k<=l.length->k<=ws.length->(jZ l ws k).map Fm.name=(l.take k).map Fm.name
 |0,_,_=>by simp[jZ]
 |k+1,h1,h2=>by
  rw[sR (by omega) (by omega),List.map_append,wS k (by omega) (by omega),List.take_succ_eq_append_getElem (by omega),List.map_append];rfl
theorem z0{l:List Fm}{ws cs:List Int}:∀ k,k<=l.length->k<=ws.length->k<=cs.length->(nQ l ws cs k).map Fm.name=(l.take k).map Fm.name
 |0,_,_,_=>by simp[nQ]
 |k+1,h1,h2,h3=>by
  rw[vW (by omega) (by omega) (by omega),List.map_append,z0 k (by omega) (by omega) (by omega),List.take_succ_eq_append_getElem (by omega),List.map_append];rfl
def eP(p:Port)(l:List Fm):Port:=⟨p.hold,p.come,l⟩
theorem Q9{p:Port}(hv:Vd p){l:List Fm}{n:Nat}(hn:n<=p.farms.length)(hl:l.map Fm.name=(p.farms.take n).map Fm.name)(hf:∀ x∈l,FmOk x):Vd (eP p l):=by
 have hnf:=hv.nfm;have hll:l.length=n:=by
  have:=congrArg List.length hl;simpa[Nat.min_eq_left hn] using this
 refine⟨hv.hold,hv.come,by show l.length<=3;omega,fun i h=>?_,hf⟩;have hi:i<l.length:=h;have h1:=hv.name i (by omega);have e1:l[i].name=p.farms[i].name:=by
  have h2:(l.map Fm.name)[i]? = ((p.farms.take n).map Fm.name)[i]?:=by rw[hl]
  have h3:i<p.farms.length:=by omega
  have h4:i<n:=by omega
  simpa[hi,h3,h4] using h2
 have e2:(l.take i).map Fm.name=(p.farms.take i).map Fm.name:=by
  rw[List.map_take,hl,<-List.map_take,List.take_take,Nat.min_eq_left (by omega)]
 show fresh l[i].name ((l.take i).map Fm.name)=0
 rw[e1,e2];exact h1
theorem aF6{p:Port}(hv:Vd p){ws:List Int}{n:Nat}(hn:n<=p.farms.length)(hw:n<=ws.length)(hb:∀ i (h:i<ws.length),1<=ws[i]/\ws[i]<=4):Vd (eP p (jZ p.farms ws n)):=by
 refine Q9 hv hn (wS n hn hw) fun x hx=>?_
 obtain⟨i,hi⟩:=List.mem_iff_getElem?.1 hx;have hin:i<n:=by
  have:=List.getElem?_eq_some_iff.1 hi;have:=this.1;rw[pA n hn hw] at this;exact this
 rw[AX n hn hw i hin] at hi;injection hi with hi
 subst hi;have h1:=hv.fm _ (List.getElem_mem (show i<p.farms.length by omega));have h2:=hb i (by omega);obtain⟨q1,q2,q3,q4⟩:=h1;exact⟨h2,q2,by simp only[wR];omega,q4⟩
theorem aKY{p:Port}(hv:Vd p){ws cs:List Int}{n:Nat}(hn:n<=p.farms.length)(hw:n<=ws.length)(hc:n<=cs.length)(hb:∀ i (h:i<ws.length),1<=ws[i]/\ws[i]<=4)(hcb:∀ i (h:i<ws.length) (h2:i<cs.length),1<=cs[i]/\cs[i]<=ws[i]):Vd (eP p (nQ p.farms ws cs n)):=by
 refine Q9 hv hn (z0 n hn hw hc) fun x hx=>?_
 obtain⟨i,hi⟩:=List.mem_iff_getElem?.1 hx;have hin:i<n:=by
  have:=List.getElem?_eq_some_iff.1 hi;have:=this.1;rw[rH n hn hw hc] at this;exact this
 rw[DI n hn hw hc i hin] at hi;injection hi with hi
 subst hi;have h1:=hv.fm _ (List.getElem_mem (show i<p.farms.length by omega));have h2:=hb i (by omega);have h3:=hcb i (by omega) (by omega);obtain⟨q1,q2,q3,q4⟩:=h1;exact⟨by simp only[BH];omega,q2,by simp only[BH];omega,q4⟩
theorem aEU{x x':Fm}{c d:Int}{y y':Load}(hh:x'.hands=x.hands)(h0:0<=x.hands.lo)(h1:0<=x.hands.hi)(hf:wA x c d=true->wA x' c d=true)(hy1:y.least<=y'.least)(hy2:y'.vain<=y.vain):
  (E8 x c d y).least<=(E8 x' c d y').least/\(E8 x' c d y').vain<=(E8 x c d y).vain:=by
 unfold E8;by_cases hc:c = -1
 ·simp only[hc,if_true];exact⟨hy1,hy2⟩
 ·simp only[hc,if_false];cases e1:wA x c d
  ·cases e2:wA x' c d
   ·simp only[Bool.false_eq_true,if_false,hh];omega
   ·simp only[Bool.false_eq_true,if_false,if_true,hh];omega
  ·rw[hf e1];simp only[if_true,hh];omega
section
variable {p:Port} {ws cs:List Int} {n:Nat}
theorem Q4(hv:Vd p)(hn:n<=p.farms.length)(hw:n<=ws.length)(hc:n<=cs.length)(hcb:∀ i (h:i<ws.length) (h2:i<cs.length),1<=cs[i]/\cs[i]<=ws[i])(A:Nat->Int)(d:Int):
  ∀ k,k<=n->(kU (eP p (jZ p.farms ws n)) A d k).least<=(kU (eP p (nQ p.farms ws cs n)) A d k).least/\(kU (eP p (nQ p.farms ws cs n)) A d k).vain<=(kU (eP p (jZ p.farms ws n)) A d k).vain
 |0,_=>by simp[kU]
 |k+1,hk=>by
  have ih:=Q4 hv hn hw hc hcb A d k (by omega);have h1:=hv.fm _ (List.getElem_mem (show k<p.farms.length by omega));have h3:=hcb k (by omega) (by omega);have e1:(eP p (jZ p.farms ws n)).farms[k]? = some (wR p.farms[k] ws[k]):=AX n hn hw k (by omega);have e2:(eP p (nQ p.farms ws cs n)).farms[k]? = some (BH p.farms[k] ws[k] cs[k]):=DI n hn hw hc k (by omega);simp only[kU,e1,e2];obtain⟨q1,q2,q3,q4⟩:=h1;refine aEU rfl q4.1 (by have:=q4;show 0<=p.farms[k].hands.hi;omega) (fun h=>?_) ih.1 ih.2;simp only[wA,wR,BH,Bool.and_eq_true,decide_eq_true_eq,cQ] at h ⊢;omega
theorem LZ{α:Type}(f g:α->Int):∀ (l:List α) (a b:Int),a<=b->(∀ x∈l,f x<=g x)->l.foldl (fun n x=>max n (f x)) a<=l.foldl (fun n x=>max n (g x)) b
 |[],a,b,h,_=>h
 |x::l,a,b,h,hl=>by
  have:=hl x (by simp);exact LZ f g l _ _ (show max a (f x)<=max b (g x) by omega) fun y hy=>hl y (by simp[hy])
theorem GU(p:Port)(A:Nat->Int):gM p A=(lD p).foldl (fun n d=>max n (onD p A d).vain) 0:=by rw[gM,dG,List.foldl_map]
theorem aHG(hv:Vd p)(hn:n<=p.farms.length)(hw:n<=ws.length)(hc:n<=cs.length)(hcb:∀ i (h:i<ws.length) (h2:i<cs.length),1<=cs[i]/\cs[i]<=ws[i])(A:Nat->Int)(hf:iX (eP p (jZ p.farms ws n)) A=true):u3 (eP p (nQ p.farms ws cs n)) A=1/\gM (eP p (nQ p.farms ws cs n)) A<=gM (eP p (jZ p.farms ws n)) A:=by
 have hs:(eP p (jZ p.farms ws n)).farms.length=n:=pA n hn hw;have hN:(eP p (nQ p.farms ws cs n)).farms.length=n:=rH n hn hw hc;have hc:=fun d=>Q4 hv hn hw hc hcb A d n (Nat.le_refl _)
 have hd:∀ d,(onD (eP p (jZ p.farms ws n)) A d).least<=(onD (eP p (nQ p.farms ws cs n)) A d).least/\(onD (eP p (nQ p.farms ws cs n)) A d).vain<=(onD (eP p (jZ p.farms ws n)) A d).vain:=fun d=>by
  rw[onD,onD,hs,hN];exact hc d
 constructor
 ·have:iX (eP p (nQ p.farms ws cs n)) A=true:=by
   rw[iX,List.all_eq_true] at hf ⊢;intro d hd2;have h1:=hf d hd2;have h2:=(hd d).1;simp only[decide_eq_true_eq] at h1 ⊢;have:(eP p (nQ p.farms ws cs n)).hold=(eP p (jZ p.farms ws n)).hold:=rfl;omega
  rw[u3,if_pos this]
 ·rw[GU,GU];exact LZ _ _ _ _ _ (Int.le_refl _) fun d _=>(hd d).2
end
end Go.Am.Room.Ca
namespace Go.Am.Room.Ca
def gY:=zz @aM (zz @d5 (zz @aG (zz @d8 (zz @Tr.S_mapRail (zz @Tr.S_mapTram (zz @Tr.S_mapSeen (zz @bN (zz @List.length_append.{0} (zz @Int.toNat_natCast (zz @eZ (@fE)))))))))))
theorem dJ(σ:St)(m d:Nat)(l:List Span):cB σ m d (l.map cV)=some (l.map cV):=gJ (bD mZ l) σ m d
def tC(p:Port)(v:AV):List AV:=[.int .i64 p.hold,.int .i64 p.come.lo,.int .i64 p.come.hi,v]
theorem JA(p:Port)(v:AV):tC p v=[.int .i64 p.hold,.int .i64 p.come.lo,.int .i64 p.come.hi,v]:=rfl
def kX(ms:List Span):List Int:=ms.map fun s=>Fa.daysAt s.hi
def rA(C:List Int):List Int:=C.map Fa.daysAt
def tS(b:ABlk)(p:Port)(A B:List Fm)(fl fl2:Bool)(tk tk2:Option Nat)(τ:St):St:=b::.cells (aF p)::.cells (tC p (.lit (A.map cW) fl tk))::.cells (tC p (.lit (B.map cW) fl2 tk2))::τ
theorem FL(b:ABlk)(p:Port)(A B:List Fm)(fl fl2:Bool)(tk tk2:Option Nat)(τ:St):tS b p A B fl fl2 tk tk2 τ=b::.cells (aF p)::.cells (tC p (.lit (A.map cW) fl tk))::.cells (tC p (.lit (B.map cW) fl2 tk2))::τ:=rfl
def TI(b:ABlk)(p:Port)(ms:List Span)(C:List Int)(k:Nat)(e:Env)(σ:St):Prop :=
 Env.get e 4 = .ptr 1 0/\Env.get e 6 = .bool false/\Env.get e 14 = .lit (ms.map cV) false none/\Env.get e 17=ints C/\Env.get e 18 = .ptr 2 0/\Env.get e 19 = .ptr 3 0/\∃ (j:Nat) (fl fl2:Bool) (tk tk2:Option Nat) (τ:St),Env.get e 20 = .int .i64 j/\j<=ms.length/\k=ms.length-j /\
  (∀ t,tk=some t->4<=t)/\(∀ t,tk2=some t->4<=t)/\σ=tS b p (jZ p.farms (kX ms) j) (nQ p.farms (kX ms) (rA C) j) fl fl2 tk tk2 τ
theorem NR(sz:Nat)(σ:St)(xs:List AV)(k:Nat):aD (tT sz σ xs).2 k=aD σ k:=by
 unfold tT;split
 ·rfl
 ·simp only[aD];by_cases h:k<σ.length
  ·rw[List.getElem?_append_left h]
  ·rw[List.getElem?_eq_none (show σ.length<=k by omega)];by_cases h2:k=σ.length
   ·subst h2;simp
   ·rw[List.getElem?_eq_none (by simp;omega)]
theorem P0(L:List Fm):aI 6 (L.map cW)=true:=mJ 6 cW L fun w=>by simp[bI,cW,AV.cells,AV.cell]
set_option maxHeartbeats 4000000 in
theorem OU(b:ABlk)(p:Port)(hv:Vd p)(ms:List Span)(C:List Int)(hm:ms.length<=p.farms.length)(hC:C.length=ms.length)(hb:∀ t (h:t<ms.length),0<=ms[t].lo/\ms[t].lo<=ms[t].hi/\ms[t].hi<=300)(hin:∀ t (h:t<ms.length) (h2:t<C.length),ms[t].lo<=C[t]/\C[t]<=ms[t].hi)(e:Env)(K:KJ)(τ:St)(e4:Env.get e 4 = .ptr 1 0)(e6:Env.get e 6 = .bool false)(e14:Env.get e 14 = .lit (ms.map cV) false none)(e17:Env.get e 17=ints C)(e18:Env.get e 18 = .ptr 2 0)(e19:Env.get e 19 = .ptr 3 0)(e20:Env.get e 20 = .int .i64 0)(fl fl2:Bool)(hK:∀ e' fl fl2 tk tk2 τ,(∀ t,tk=some t->4<=t)->(∀ t,tk2=some t->4<=t)->Env.get e' 18 = .ptr 2 0->Env.get e' 19 = .ptr 3 0->K (some (.exit 0)) e' (tS b p (jZ p.farms (kX ms) ms.length) (nQ p.farms (kX ms) (rA C) ms.length) fl fl2 tk tk2 τ)):
  rK (K:=⟨K⟩) T (.loop aI7) e (tS b p [] [] fl fl2 none none τ):=by
 have hnf:=hv.nfm;have hwl:(kX ms).length=ms.length:=by simp[kX]
 have hcl:(rA C).length=C.length:=by simp[rA]
 refine D7 (TI b p ms C) ?_ ms.length _ _ ?_
 ·rintro k e σ ⟨e4,e6,e14,e17,e18,e19,j,fl,fl2,tk,tk2,τ,e20,hj,hk,htk,htk2,rfl⟩;subst hk;simp only[ints] at e17;rw[FL];simp only[JA]
  (repeat (first|simp only[↓QA,QB,seval,gY,dJ,aI7,e4,e6,e14,e17,e18,e19,e20]|refine rd0 rfl ?_))
  refine aE (fun h=>?_) fun h=>?_
  ·have hj1:j<ms.length:=by simpa using h
   have hjC:j<C.length:=by omega
   have hjp:j<p.farms.length:=by omega
   have hwj:=bL hj1 (by omega);have hs1:=sR (l:=p.farms) (ws:=kX ms) hjp (by omega);have hs2:=vW (l:=p.farms) (ws:=kX ms) (cs:=rA C) hjp (by omega) (by omega);have hl1:=pA (l:=p.farms) (ws:=kX ms) j (by omega) (by omega);have hl2:=rH (l:=p.farms) (ws:=kX ms) (cs:=rA C) j (by omega) (by omega) (by omega);have ew:(kX ms)[j]'(by omega)=Fa.daysAt ms[j].hi:=by simp[kX]
   have ec:(rA C)[j]'(by omega)=Fa.daysAt C[j]:=by simp[rA]
   rw[ew] at hs1 hs2;rw[ec] at hs2;have hbj:=hb j hj1;have hij:=hin j hj1 hjC;obtain⟨x,hx⟩:∃ x,p.farms[j]=x:=⟨_,rfl⟩;obtain⟨s,hs⟩:∃ s,ms[j]=s:=⟨_,rfl⟩;obtain⟨c,hc⟩:∃ c,C[j]=c:=⟨_,rfl⟩;rw[hx,hs] at hs1 hs2;rw[hc] at hs2;rw[hs] at hbj;rw[hs,hc] at hij;have d1:=Fa.days_ok s.hi (by omega) (by omega);have d2:=Fa.days_ok c (by omega) (by omega);obtain⟨W,hW⟩:∃ W,Fa.daysAt s.hi=W:=⟨_,rfl⟩;obtain⟨V,hV⟩:∃ V,Fa.daysAt c=V:=⟨_,rfl⟩;rw[hW] at hs1 hs2 d1;rw[hV] at hs2 d2;obtain⟨A,hA⟩:∃ L,jZ p.farms (kX ms) j=L:=⟨_,rfl⟩;obtain⟨B,hB⟩:∃ L,nQ p.farms (kX ms) (rA C) j=L:=⟨_,rfl⟩;rw[hA] at hs1 hl1;rw[hB] at hs2 hl2;rw[hA,hB];have hi:=RT c s;have hit:inR c s.lo s.hi=true:=cQ.2 hij;rw[hit] at hi;simp only[aG] at hi;have hap1:=fun (L:List Fm) (hL:L.length=j) σ fl tk=>IU (sz:=6) (b:=56) (σ:=σ) (xs:=L.map cW) (f:=fl) (tk:=tk) ⟨rfl,P0 L,(by simp[room]<;>omega),(by simp[room]<;>omega)⟩
   have hap2:=fun (L:List Fm) (hL:L.length=j) σ y (hy:bI 6 y=true)=>AG (sz:=6) (b:=56) (σ:=σ) (xs:=L.map cW) (ys:=[y]) (f:=true) (tk:=none) ⟨P0 L,by simp only[aI,List.all_cons,List.all_nil,Bool.and_true];exact hy,by simp[room];omega,by simp[room];omega⟩ (by simp)
   have hcell:∀ (w n k a c:Int) (b:ByteArray),bI 6 (.agg [.str b,.int .i64 w,.int .i64 n,.int .i64 k,.int .i64 a,.int .i64 c])=true:=fun _ _ _ _ _ _=>rfl
   (repeat (first|simp only[↓QA,QB,seval,gY,dJ,e4,e6,e14,e17,e18,e19,e20,hjp,hx]|refine rd0 rfl ?_))
   (repeat (first|simp only[↓QA,QB,seval,gY,dJ,e4,e6,e14,e17,e18,e19,e20,hj1,hs,hjC,hc]|refine rd0 rfl ?_))
   ((first|refine sU (hi) (by try simp only[QS,QC,seval,gY,dJ]) trivial ?_|refine xV (hi) (by try simp only[QS,QC,seval,gY,dJ]) trivial ?_);(repeat (first|simp only[↓QA,QB,seval,gY,dJ,e4,e6,e14,e17,e18,e19,e20,hj1,hs,hjC,hc]|refine rd0 rfl ?_)))
   have h1:=fun σ fl tk=>hap1 A hl1 σ fl tk
   have h2:=fun σ w n k a c b=>hap2 A hl1 σ _ (hcell w n k a c b)
   have h3:=fun σ fl tk=>hap1 B hl2 σ fl tk
   have h4:=fun σ w n k a c b=>hap2 B hl2 σ _ (hcell w n k a c b)
   ((first|refine aC (d1) rfl dd ?_|refine aS (d1) rfl dd ?_);(repeat (first|simp only[↓QA,QB,seval,gY,dJ,e4,e6,e14,e17,e18,e19,e20,hj1,hs,hjC,hc,AC]|refine rd0 rfl ?_)))
   ((first|refine aC (d2) rfl dd ?_|refine aS (d2) rfl dd ?_);(repeat (first|simp only[↓QA,QB,seval,gY,dJ,e4,e6,e14,e17,e18,e19,e20,hj1,hs,hjC,hc,AC,h1,h2,h3,h4,hwj,hcell,NR]|refine rd0 rfl ?_)))
   refine⟨ms.length-(j+1),by omega,?_,?_,?_,?_,?_,?_,j+1,false,false,some (τ.length+2+1+1+1+1),some (τ.length+3+1+1+1+1),τ++[.cells [.str x.name,.int .i64 W,.int .i64 x.notice,.int .i64 (max x.keep W),.int .i64 x.hands.lo,.int .i64 x.hands.hi],.cells [.str x.name,.int .i64 V,.int .i64 x.notice,.int .i64 (max x.keep W),.int .i64 x.hands.lo,.int .i64 x.hands.hi],.tok 6 (A.length+1) true,.tok 6 (B.length+1) true],?_,by omega,rfl,(fun t h=>by cases h;omega),(fun t h=>by cases h;omega),?_⟩
   ·try simp only[aB,QE,seval,gY,dJ,e4]
   ·try simp only[aB,QE,seval,gY,dJ,e6]
   ·try simp only[aB,QE,seval,gY,dJ,e14]
   ·try simp only[aB,QE,seval,gY,dJ,e17]
   ·try simp only[aB,QE,seval,gY,dJ,e18]
   ·try simp only[aB,QE,seval,gY,dJ,e19]
   ·try simp only[aB,QE,seval,gY,dJ]
   ·rw[hs1,hs2,FL];simp only[JA,aM,List.map_append,List.map_cons,List.map_nil,d5,wR,BH]
    done
  ·have hj1:j=ms.length:=by simp at h;omega
   (repeat (first|simp only[↓QA,QB,seval,gY,dJ,e4,e6,e14,e17,e18,e19,e20]|refine rd0 rfl ?_))
   rw[hj1];have hk:=hK;simp only[FL,JA,aM] at hk;refine hk _ _ _ _ _ _ htk htk2 ?_ ?_
   ·try simp only[aB,QE,seval,gY,dJ,e18]
   ·try simp only[aB,QE,seval,gY,dJ,e19]
 ·exact⟨e4,e6,e14,e17,e18,e19,0,fl,fl2,none,none,τ,e20,Nat.zero_le _,rfl,(fun t h=>by cases h),(fun t h=>by cases h),rfl⟩
end Go.Am.Room.Ca
namespace Go.Am.Room.Ca
def TR(l:List AV)(p:Port)(A B:List Fm)(e:Env)(σ:St):Prop :=
 Env.get e 18 = .ptr 2 0/\Env.get e 19 = .ptr 3 0/\∃ fl fl2 tk tk2 τ,(∀ t,tk=some t->4<=t)/\(∀ t,tk2=some t->4<=t)/\σ=tS (.cells l) p A B fl fl2 tk tk2 τ
def TD(l:List AV)(p:Port)(A B:List Fm)(e:Env)(σ:St):Prop :=
 Env.get e 18 = .ptr 2 0/\Env.get e 19 = .ptr 3 0/\σ=[.cells l,.cells (aF p),.cells (aF (eP p A)),.cells (aF (eP p B))]
theorem RG{L:List Fm}{σ:St}{fl:Bool}{tk:Option Nat}(htk:∀ t,tk=some t->4<=t):bJ σ 4 20 (.lit (L.map cW) fl tk)=some (.lit (L.map cW) false none):=by
 cases tk with
 |none=>rw[CP,d8];rfl
 |some t =>
  have:=htk t rfl;rw[NM,d8];simp;omega
theorem TO{l:List AV}(hl:∀ m,okVs m l){p:Port}{A B:List Fm}{e:Env}{σ:St}(h:TR l p A B e σ):
  ∃ env1 σ1 env2 σ2,tY [] e σ env1 σ1/\((env2=env1/\σ2=σ1)\/G9 0 env1 σ1 env2 σ2\/(env2=env1/\Frost 0 env1 σ1 σ2))/\TD l p A B env2 σ2:=by
 obtain⟨e18,e19,fl,fl2,tk,tk2,τ,htk,htk2,rfl⟩:=h;have hp:∀ m,okVs m (aF p):=fun m=>okVs_up _ (m8 p).1
 have hA:aF (eP p A)=tC p (.lit (A.map cW) false none):=rfl;have hB:aF (eP p B)=tC p (.lit (B.map cW) false none):=rfl;rw[FL];refine⟨[(18,.ptr 2 0),(19,.ptr 3 0)],[.cells l,.cells (aF p),.cells (aF (eP p A)),.cells (aF (eP p B))],_,_,⟨by simp,by simp,⟨.inl ⟨e18.symm,by rw[e18];simp[okV]⟩,.inl ⟨e19.symm,by rw[e19];simp[okV]⟩,trivial⟩,fun k hk=>?_⟩,.inl ⟨rfl,rfl⟩,rfl,rfl,rfl⟩
 match k,hk with
 |0,_=>exact⟨_,rfl,.inr (.inl ⟨rfl,hl _⟩)⟩
 |1,_=>exact⟨_,rfl,.inr (.inl ⟨rfl,hp _⟩)⟩
 |2,_ =>
  rw[hA];exact⟨_,rfl,.inr (.inr ⟨_,_,rfl,rfl,⟨.inl ⟨rfl,trivial⟩,.inl ⟨rfl,trivial⟩,.inl ⟨rfl,trivial⟩,AI (RG htk),trivial⟩,.inl (by simp)⟩)⟩
 |3,_ =>
  rw[hB];exact⟨_,rfl,.inr (.inr ⟨_,_,rfl,rfl,⟨.inl ⟨rfl,trivial⟩,.inl ⟨rfl,trivial⟩,.inl ⟨rfl,trivial⟩,AI (RG htk2),trivial⟩,.inl (by simp)⟩)⟩
 |k+4,h=>simp at h;omega
end Go.Am.Room.Ca
namespace Go.Am.Room.Ca
def n9:=zz @d5 (zz @aG (zz @d8 (zz @List.length_append.{0} (zz @Nat.mul_one (zz @Int.toNat_natCast (zz @bN (zz @eZ (zz @fE (zz @iG (@iB))))))))))
theorem UE{Y A:Type}:∀ (l:List A) (z:Y),aU (fun (_:A) (x:Y)=>(x,false)) l z=(z,l.isEmpty)
 |[],z=>rfl
 |a::l,z=>by simp[aU]
def smZ{Y:Type}(Z:Y->St)(q:Nat)(b:Bool)(z:Y):St:=Z z++[.cells [.bool b],.cells [.ptr q 0]]
theorem aEO{Y:Type}{Z:Y->St}{p:Port}{F:AV}{m q N:Nat}(hR:PAt Z p F m q N)(b:Bool)(lp:ABlk):DFam (fun z=>smZ Z q b z++[lp]) p F m q (N+1) (N+3):=by
 have e:(fun z=>smZ Z q b z++[lp])=fun z=>Z z++[.cells [.bool b],.cells [.ptr q 0],lp]:=by funext z;simp[smZ]
 rw[e];refine⟨hR.app [.cells [.bool b],.cells [.ptr q 0],lp],fun z τ=>?_⟩;rw[List.append_assoc,hR.base];rfl
theorem IT{Y:Type}{Z:Y->St}{p:Port}{F:AV}{m q N:Nat}(hR:PAt Z p F m q N)(hv:Vd p)(z:Y):
  gH T (.func 312 [] []) [.ptr q 0] (Z z) (.bool (!(eT p).isEmpty)):=by
 refine dA (af:=aCA) rfl (by simp[aCA]) ?_;have hl:=hR.len z;have hit:=UE (Y:=Y) (eT p) z;have hzl:∀ b z,(smZ Z q b z).length=N+2:=fun b z=>by simp[smZ,hR.len]
 obtain⟨E,hE⟩:∃ E,(eT p).isEmpty=E:=⟨_,rfl⟩;rw[hE] at hit;rw[hE];try simp only[↓QA,QB,seval,n9,hR.base,hR.base0,hR.bset,hR.bset0,aCA,hl]
 refine iC rfl (by simp[LI]) ?_;try simp only[↓QA,QB,seval,n9,hR.base,hR.base0,hR.bset,hR.bset0,LI,hl]
 have hz:Z z++[.cells [.bool false],.cells [.ptr q 0]]=smZ Z q false z:=rfl;rw[hz];refine rM (smZ Z q false) (smZ Z q true) (N+2) (hzl _) (hzl _) .ret _ 4 [5] _ _ 329 [.ptr (N+1) 0] ?_ (aU (fun _ x=>(x,false)) (eT p) z) z ?_ _ ?_ ?_
 ·try simp only[aB,QE,seval,n9,hR.base,hR.base0,hR.bset,hR.bset0]
 ·refine zH (Z:=fun z=>smZ Z q false z++[_]) (ZD:=fun z=>smZ Z q true z++[_]) (aEO hR _ _) (fun y=>by rw[List.length_append,hzl];rfl) (fun _ x=>(x,false)) ?_ hv z;refine pC (smZ Z q false) (smZ Z q true) (N+2) (hzl _) (hzl _) _ _ [5] (fun t=>[.agg (aK 3 (gF t))]) (fun _=>rfl) _ _ ?_;intro w _ x τ;simp only[i6];try simp only[↓QA,QB,seval,n9,hR.base,hR.base0,hR.bset,hR.bset0]
  refine⟨[],by simp,?_⟩;simp only[smZ,List.append_assoc,List.cons_append,List.nil_append];generalize ABlk.loop .busy none _ _ _ _=lp;try simp only[↓QA,QB,seval,n9,hR.base,hR.base0,hR.bset,hR.bset0,W2]
  exact .inr ⟨[],by simp⟩
 ·intro τ h2;rw[hit] at h2 ⊢;simp only at h2;subst h2;simp only[smZ,List.append_assoc,List.cons_append,List.nil_append];try simp only[↓QA,QB,seval,n9,hR.base,hR.base0,hR.bset,hR.bset0]
  refine dN _ rfl ?_;try simp only[QS,QC,seval,n9,hR.base,hR.base0,hR.bset,hR.bset0]
 ·intro τ h2;rw[hit] at h2 ⊢;simp only at h2;subst h2;simp only[smZ,List.append_assoc,List.cons_append,List.nil_append];try simp only[↓QA,QB,seval,n9,hR.base,hR.base0,hR.bset,hR.bset0]
  refine dN _ rfl ?_;try simp only[QS,QC,seval,n9,hR.base,hR.base0,hR.bset,hR.bset0]
def exF:List Fm:=[⟨⟨#[97,108,116,111]⟩,1,1,5,⟨20,25⟩⟩,⟨⟨#[98,97,106,111]⟩,2,1,4,⟨30,30⟩⟩,⟨⟨#[99,105,109,97]⟩,1,2,3,⟨40,45⟩⟩]
def exP(c:Int)(n:Nat):Port:=⟨50,⟨c,8⟩,exF.take n⟩
end Go.Am.Room.Ca
set_option maxRecDepth 100000
namespace Go.Am.Room.Ca
def tkA(k:Int):Fm:=⟨⟨#[97,108,116,111]⟩,1,1,k,⟨20,25⟩⟩
def tkB(k:Int):Fm:=⟨⟨#[98,97,106,111]⟩,2,1,k,⟨30,30⟩⟩
def tK(ka kb:Int):Port:=⟨50,⟨5,8⟩,[tkA ka,tkB kb]⟩
theorem aMY:exP 5 2=tK 5 4:=rfl
theorem aLD:(eT (tK 5 4)).isEmpty=true:=by kernel_rfl
theorem aME:(eT (tK 6 4)).isEmpty=true:=by kernel_rfl
theorem aLY:(eT (tK 7 4)).isEmpty=true:=by kernel_rfl
theorem aK3:(eT (tK 8 4)).isEmpty=true:=by kernel_rfl
theorem aL0:(eT (tK 9 4)).isEmpty=true:=by kernel_rfl
theorem aI5:(eT (tK 5 5)).isEmpty=false:=by kernel_rfl
theorem aKJ:zO (exP 6 3)=([2,3,-1],0,0):=by kernel_rfl
theorem aJC:zO (exP 5 3)=([2,0,3],45,0):=by kernel_rfl
theorem aKB:zO (exP 5 2)=([],0,9):=by kernel_rfl
end Go.Am.Room.Ca
set_option maxRecDepth 8000
namespace Go.Am.Room.Ca
def fmC(x:Fm):List AV:=[.str x.name,.int .i64 x.way,.int .i64 x.notice,.int .i64 x.keep,.int .i64 x.hands.lo,.int .i64 x.hands.hi]
theorem uF:Cells cW fmC 6:=⟨fun _=>rfl,fun _=>rfl,by decide,fun _=>rfl,yS⟩
theorem XY{σ:St}{i:Nat}{cs:List AV}(h:aD σ i=some cs)(τ:St):aD (σ++τ) i=some cs:=by
 have:=kH h;rw[<-h];simp[aD,List.getElem?_append_left this]
theorem aER{σ:St}{p:Port}{b q m:Nat}(hq:aD σ q=some (pf (.ref b 0 p.farms.length 6) p m))(hb:aD σ b=some (nY fmC p.farms)):
  PAt (fun (_:Unit)=>σ) p (.ref b 0 p.farms.length 6) m q σ.length:=by
 have hi:∀ k,k<p.farms.length->lU none 6 (.ref b 0 p.farms.length 6) (.int .i64 k)=some (.ptr b (k*6)):=fun k hk=>by
  rw[aH3,if_pos ⟨by omega,by omega,rfl⟩];simp
 have h2:∀ k,k<p.farms.length->fmP (.ref b 0 p.farms.length 6) k = .ptr b (k*6):=fun k hk=>by rw[fmP,hi k hk];rfl
 refine⟨fun _=>rfl,fun _ τ=>XY hq τ,kH hq,fun _=>by rw[ZA],fun k hk=>by rw[hi k hk,h2 k hk],fun k hk _ τ=>?_,fun M hM _ τ d=>uB (Nat.lt_of_lt_of_le (kH hb) hM)⟩;rw[h2 k hk,aHM,XY hb τ];have hl:=AS uF p.farms;have ha:=JQ uF p.farms k hk;show fG (some 6) (nY fmC p.farms) (k*6)=_
 rw[aIL,if_pos (by omega),ha];rfl
end Go.Am.Room.Ca
namespace Go.Am.Room.Ca
def fQ:=zz @List.length_append.{0} (zz @Nat.mul_one (zz @Int.toNat_natCast (zz @bN (zz @eZ (@fE)))))
def tkC(ka kb:Int):List AV:=[.str ⟨#[97,108,116,111]⟩,.int .i64 1,.int .i64 1,.int .i64 ka,.int .i64 20,.int .i64 25,.str ⟨#[98,97,106,111]⟩,.int .i64 2,.int .i64 1,.int .i64 kb,.int .i64 30,.int .i64 30]
theorem D3(ka kb:Int):tkC ka kb=[.str ⟨#[97,108,116,111]⟩,.int .i64 1,.int .i64 1,.int .i64 ka,.int .i64 20,.int .i64 25,.str ⟨#[98,97,106,111]⟩,.int .i64 2,.int .i64 1,.int .i64 kb,.int .i64 30,.int .i64 30]:=rfl
theorem aBE(ka kb:Int):tkC ka kb=nY fmC (tK ka kb).farms:=rfl
def tkL(n:Nat):List AV:=[.int .i64 50,.int .i64 5,.int .i64 8,.ref (n+1+1) 0 2 6]
theorem CZ(n:Nat):tkL n=[.int .i64 50,.int .i64 5,.int .i64 8,.ref (n+1+1) 0 2 6]:=rfl
theorem aA7{ka kb:Int}(h1:1<=ka/\ka<=9)(h2:2<=kb/\kb<=9):Vd (tK ka kb):=by
 have h0:=vd_of_check (p:=tK 5 4) (by kernel_rfl);refine⟨h0.hold,h0.come,h0.nfm,fun i h=>?_,fun x hx=>?_⟩
 ·have:i=0\/i=1:=by have:i<2:=h;omega
  rcases this with rfl|rfl
  ·exact h0.name 0 (by decide)
  ·exact h0.name 1 (by decide)
 ·have:x=tkA ka\/x=tkB kb:=by simpa[tK] using hx
  rcases this with rfl|rfl
  ·exact⟨by simp[tkA],by simp[tkA],by simp[tkA];omega,by simp[tkA]⟩
  ·exact⟨by simp[tkB],by simp[tkB],by simp[tkB];omega,by simp[tkB]⟩
theorem Q3(P:ABlk)(τ0 τ:St)(ka kb:Int)(hv:Vd (tK ka kb))(R:Bool)(hR:(!(eT (tK ka kb)).isEmpty)=R):
  gH T (.func 312 [] []) [.ptr (τ0.length+(τ.length+2+1+1)+1) 0] (P::(τ0++(.cells (tkL τ0.length)::.cells (tkC ka kb)::(τ++[.cells (tkL τ0.length),.map [],.cells (pf (.ref (τ0.length+1+1) 0 2 6) (tK ka kb) (τ0.length+(τ.length+1+1+1)+1))])))) (.bool R):=by
 have:=IT (aER (σ:=P::(τ0++(.cells (tkL τ0.length)::.cells (tkC ka kb)::(τ++[.cells (tkL τ0.length),.map [],.cells (pf (.ref (τ0.length+1+1) 0 2 6) (tK ka kb) (τ0.length+(τ.length+1+1+1)+1))])))) (p:=tK ka kb) (b:=τ0.length+1+1) (q:=τ0.length+(τ.length+1+1+1+1)+1) (m:=τ0.length+(τ.length+1+1+1)+1) ?_ ?_) hv ()
 ·rw[hR] at this;exact this
 ·try simp only[↓QA,QB,seval,fQ]
  rfl
 ·try simp only[↓QA,QB,seval,fQ]
  rfl
def InA(τ0:St)(P:ABlk)(k:Nat)(e:Env)(σ:St):Prop :=
 Env.get e 1 = .ptr 0 0/\Env.get e 5 = .int .i64 0/\Env.get e 6 = .ptr (τ0.length+1) 0/\Env.get e 7 = .ptr (τ0.length+1+1) 0/\Env.get e 24 = .int .i64 2/\Env.get e 25 = .int .i64 0/\∃ (j:Nat) (τ:St),j<=4/\k=4-j/\σ=P::(τ0++(.cells (tkL τ0.length)::.cells (tkC (5+j) 4)::τ))
theorem aES(τ0:St)(P:ABlk)(e:Env)(K:KJ)(e1:Env.get e 1 = .ptr 0 0)(e5:Env.get e 5 = .int .i64 0)(e6:Env.get e 6 = .ptr (τ0.length+1) 0)(e7:Env.get e 7 = .ptr (τ0.length+1+1) 0)(e24:Env.get e 24 = .int .i64 2)(e25:Env.get e 25 = .int .i64 0)(hK:∀ e' τ',Env.get e' 1 = .ptr 0 0->Env.get e' 24 = .int .i64 2->Env.get e' 25 = .int .i64 0->K (some (.exit 3)) e' (P::(τ0++τ'))):
  rK (K:=⟨K⟩) T (.loop AD) e (P::(τ0++[.cells (tkL τ0.length),.cells (tkC 5 4)])):=by
 refine D7 (InA τ0 P) ?_ 4 _ _ ?_
 ·rintro k e σ ⟨e1,e5,e6,e7,e24,e25,j,τ,hj,hk,rfl⟩;subst hk;by_cases h4:j=4
  ·subst h4;simp only[D3,CZ];try simp only[↓QA,QB,seval,fQ,AD,e1,e5,e6,e7,e24,e25,show decide (5+((4:Nat):Int)<9)=false from rfl]
   exact hK _ _ (by try simp only[aB,QE,seval,fQ,e1]) (by try simp only[aB,QE,seval,fQ,e24]) (by try simp only[aB,QE,seval,fQ,e25])
  ·have hlt:decide (5+(j:Int)<9)=true:=by simp;omega
   have hw:IntKind.i64.wrap (5+(j:Int)+1)=5+((j+1:Nat):Int):=by rw[cC ⟨by omega,by omega⟩];omega
   have hno:(!(eT (tK (5+((j+1:Nat):Int)) 4)).isEmpty)=false:=by
    have:j=0\/j=1\/j=2\/j=3:=by omega
    rcases this with rfl|rfl|rfl|rfl
    ·exact congrArg (!·) aME
    ·exact congrArg (!·) aLY
    ·exact congrArg (!·) aK3
    ·exact congrArg (!·) aL0
   have hsm:=Q3 P τ0 τ (5+((j+1:Nat):Int)) 4 (aA7 (by omega) (by omega)) _ hno;simp only[D3,CZ,pf,tK] at hsm ⊢;try simp only[↓QA,QB,seval,fQ,AD,e1,e5,e6,e7,e24,e25,hlt,hw]
   refine iC rfl (by simp[HW]) ?_;try simp only[↓QA,QB,seval,fQ,HW]
   (first|refine aV hsm ?_|refine fD hsm ?_)
   try simp only[↓QA,QB,seval,fQ,e1,e5,e6,e7,e24,e25]
   refine⟨4-(j+1),by omega,?_,?_,?_,?_,?_,?_,j+1,_,by omega,rfl,rfl⟩
   ·try simp only[aB,QE,seval,fQ,e1]
   ·try simp only[aB,QE,seval,fQ,e5]
   ·try simp only[aB,QE,seval,fQ,e6]
   ·try simp only[aB,QE,seval,fQ,e7]
   ·try simp only[aB,QE,seval,fQ,e24]
   ·try simp only[aB,QE,seval,fQ,e25]
 ·refine⟨e1,e5,e6,e7,e24,e25,0,[],by omega,rfl,rfl⟩
theorem aG7(τ0:St)(e:Env)(K:KJ)(e1:Env.get e 1 = .ptr 0 0)(e5:Env.get e 5 = .int .i64 1)(e6:Env.get e 6 = .ptr (τ0.length+1) 0)(e7:Env.get e 7 = .ptr (τ0.length+1+1) 6)(hK:∀ e' σ',Env.get e' 2 = .int .i64 1->Env.get e' 3 = .int .i64 1->Env.get e' 4 = .int .i64 0->K (some .ret) e' σ'):
  rK (K:=⟨K⟩) T (.loop AD) e (.cells (aF (tK 5 4))::(τ0++[.cells (tkL τ0.length),.cells (tkC 5 4)])):=by
 refine D7 (fun (k:Nat) e σ=>k=0/\Env.get e 1 = .ptr 0 0/\Env.get e 5 = .int .i64 1/\Env.get e 6 = .ptr (τ0.length+1) 0/\Env.get e 7 = .ptr (τ0.length+1+1) 6/\σ = .cells (aF (tK 5 4))::(τ0++[.cells (tkL τ0.length),.cells (tkC 5 4)])) ?_ 0 _ _ ⟨rfl,e1,e5,e6,e7,rfl⟩;rintro k e σ ⟨_,e1,e5,e6,e7,rfl⟩;have hsm:=Q3 (.cells (aF (tK 5 4))) τ0 [] 5 5 (aA7 (by omega) (by omega)) _ (congrArg (!·) aI5);have i1:IZ 6 [cW (tkA 5),cW (tkB 4)] 1 none=some (.lptr [cW (tkA 5),cW (tkB 4)] 1 0 none):=rfl;simp only[d5,tkA,tkB] at i1;simp only[D3,CZ,pf,tK,aM,List.map_cons,List.map_nil,d5,tkA,tkB,List.nil_append,List.length_nil,Nat.zero_add] at hsm ⊢
 (repeat (first|simp only[↓QA,QB,reduceLT,reduceIte,reduceEqDiff,reduceAdd,reduceLeDiff,reduceMul,Nat.reduceBEq,fQ,AD,e1,e5,e6,e7,show decide ((4:Int)<9)=true from rfl,show IntKind.i64.wrap (4+1)=5 from rfl]|refine rd0 rfl ?_))
 refine iC rfl (by simp[HW]) ?_
 (repeat (first|simp only[↓QA,QB,reduceLT,reduceIte,reduceEqDiff,reduceAdd,reduceLeDiff,reduceMul,Nat.reduceBEq,fQ,HW]|refine rd0 rfl ?_))
 (first|refine aV hsm ?_|refine fD hsm ?_)
 (repeat (first|simp only[↓QA,QB,reduceLT,reduceIte,reduceEqDiff,reduceAdd,reduceLeDiff,reduceMul,Nat.reduceBEq,fQ,e1,e5,e6,e7,i1,show IntKind.i64.wrap (5-4)=1 from rfl]|refine rd0 rfl ?_))
 refine hK _ _ ?_ ?_ ?_
 ·try simp only[aB,QE,reduceLT,reduceIte,reduceEqDiff,reduceAdd,reduceLeDiff,reduceMul,Nat.reduceBEq,fQ]
 ·try simp only[aB,QE,reduceLT,reduceIte,reduceEqDiff,reduceAdd,reduceLeDiff,reduceMul,Nat.reduceBEq,fQ]
 ·try simp only[aB,QE,reduceLT,reduceIte,reduceEqDiff,reduceAdd,reduceLeDiff,reduceMul,Nat.reduceBEq,fQ]
end Go.Am.Room.Ca
namespace Go.Am.Room.Ca
def eE:=zz @List.length_append.{0} (zz @Nat.mul_one (zz @Int.toNat_natCast (zz @bN (zz @eZ (@fE)))))
def tkP:List AV:=[.int .i64 50,.int .i64 5,.int .i64 8,.lit ((tK 5 4).farms.map cW) false none]
theorem YD:aF (tK 5 4)=tkP:=rfl
def EaI(l:List AV)(k:Nat)(e:Env)(σ:St):Prop :=
 ∃ (j:Nat) (τ:St),j<=1/\k=1-j/\Env.get e 1 = .ptr 0 0/\Env.get e 24 = .int .i64 2/\Env.get e 25 = .int .i64 j/\σ = .cells [.int .i64 50,.int .i64 5,.int .i64 8,.lit l false none]::τ
theorem aMI:cP T 177 [encPort (exP 5 2)] (.tuple [.int .i64 1,.int .i64 1,.int .i64 0]):=by
 refine aQ (af:=JX) rfl (by simp[JX]) dd ?_;rw[aMY];have hv:Vd (tK 5 4):=aA7 (by omega) (by omega)
 have hf:Fits (tK 5 4):=⟨by decide,fun x hx=>by
  have:x=tkA 5\/x=tkB 4:=by simpa[tK] using hx
  rcases this with rfl|rfl<;>decide⟩
 have hpc:=lE (tK 5 4) hf hv;have hlk:=mB ([.cells (aF (tK 5 4))]) (tK 5 4);have hsm:=IT (Y:=Unit) (Z:=fun _=>[.cells (aF (tK 5 4)),.cells (aF (tK 5 4)),.map [],.cells (pb (tK 5 4) 2)]) (p:=tK 5 4) (F:=AP (tK 5 4)) (m:=2) (q:=3) (N:=4) ⟨fun _=>rfl,fun _ τ=>rfl,by omega,vH _ _ _⟩ hv ();rw[aLD] at hsm;have hea:=aES;have heb:=aG7;have hfl:(tK 5 4).farms.length=2:=rfl;have hne:(tK 5 4).farms≠[]:=by simp[tK]
 have hap:=fun σ:St=>J7 uF (b:=56) (σ:=σ) hne (by simp[room,hfl]) (by simp[room,hfl])
 simp only[hfl,<-aBE] at hap;simp only[dK,YD] at hpc hlk hsm heb ⊢;simp only[lC,List.cons_append,List.nil_append,List.length_cons,List.length_nil,YD,Nat.zero_add,Nat.reduceAdd] at hlk;have e00:((0:Int)==0)=true:=rfl;have hFne:∀ l:List AV,l.length=2->True:=fun _ _=>trivial
 obtain⟨l,hl⟩:∃ l,(tK 5 4).farms.map cW=l:=⟨_,rfl⟩;have hll:l.length=2:=by rw[<-hl];rfl
 have hnl:EW .nils false (.lit l false none) (.lit [] true none)=some (.bool false):=by rw[<-hl];rfl
 have i0:(0:Int)<=0/\(0:Int)<((2:Nat):Int)/\6=6:=by decide
 have i1:(0:Int)<=1/\(1:Int)<((2:Nat):Int)/\6=6:=by decide
 haveI hdl:Dats l:=by rw[<-hl];infer_instance
 simp only[tkP,hl] at hpc hlk hsm heb hap ⊢
 (repeat (first|simp only[↓QA,QB,reduceLT,reduceIte,reduceEqDiff,reduceAdd,reduceLeDiff,reduceMul,Nat.reduceBEq,eE,JX]|refine rd0 rfl ?_))
 ((first|refine aC (hpc) rfl dd ?_|refine aS (hpc) rfl dd ?_);(repeat (first|simp only[↓QA,QB,reduceLT,reduceIte,reduceEqDiff,reduceAdd,reduceLeDiff,reduceMul,Nat.reduceBEq,eE,enc3,e00]|refine rd0 rfl ?_)))
 (first|refine fW hlk ?_|refine aW hlk ?_)
 (repeat (first|simp only[↓QA,QB,reduceLT,reduceIte,reduceEqDiff,reduceAdd,reduceLeDiff,reduceMul,Nat.reduceBEq,eE]|refine rd0 rfl ?_))
 (first|refine fD hsm ?_|refine aV hsm ?_)
 (repeat (first|simp only[↓QA,QB,reduceLT,reduceIte,reduceEqDiff,reduceAdd,reduceLeDiff,reduceMul,Nat.reduceBEq,eE,hll]|refine rd0 rfl ?_))
 refine D7 (EaI l) ?_ 1 _ _ ?_
 ·rintro k e σ ⟨j,τ,hj,hk,e1,e24,e25,rfl⟩;subst hk;have:j=0\/j=1:=by omega
  rcases this with rfl|rfl
  ·have hlt:decide ((0:Int)<2)=true:=rfl;have e25:Env.get e 25 = .int .i64 0:=e25;have he:=fun e K=>hea τ (.cells [.int .i64 50,.int .i64 5,.int .i64 8,.lit l false none]) e K
   simp only[CZ,D3] at he hap
   (repeat (first|simp only[↓QA,QB,reduceLT,reduceIte,reduceEqDiff,reduceAdd,reduceLeDiff,reduceMul,Nat.reduceBEq,eE,PL,e1,e24,e25,hlt]|refine rd0 rfl ?_))
   refine iC rfl (by simp[T0]) ?_
   (repeat (first|simp only[↓QA,QB,reduceLT,reduceIte,reduceEqDiff,reduceAdd,reduceLeDiff,reduceMul,Nat.reduceBEq,eE,T0,hap,hnl,i0]|refine rd0 rfl ?_))
   refine he _ _ ?_ ?_ ?_ ?_ ?_ ?_ fun e' τ' a1 a24 a25=>?_
   ·try simp only[aB,QE,reduceLT,reduceIte,reduceEqDiff,reduceAdd,reduceLeDiff,reduceMul,Nat.reduceBEq,eE,e1]
   ·try simp only[aB,QE,reduceLT,reduceIte,reduceEqDiff,reduceAdd,reduceLeDiff,reduceMul,Nat.reduceBEq,eE]
   ·try simp only[aB,QE,reduceLT,reduceIte,reduceEqDiff,reduceAdd,reduceLeDiff,reduceMul,Nat.reduceBEq,eE]
   ·try simp only[aB,QE,reduceLT,reduceIte,reduceEqDiff,reduceAdd,reduceLeDiff,reduceMul,Nat.reduceBEq,eE]
    rfl
   ·try simp only[aB,QE,reduceLT,reduceIte,reduceEqDiff,reduceAdd,reduceLeDiff,reduceMul,Nat.reduceBEq,eE,e24]
   ·try simp only[aB,QE,reduceLT,reduceIte,reduceEqDiff,reduceAdd,reduceLeDiff,reduceMul,Nat.reduceBEq,eE,e25]
   ·(repeat (first|simp only[↓QA,QB,reduceLT,reduceIte,reduceEqDiff,reduceAdd,reduceLeDiff,reduceMul,Nat.reduceBEq,eE,a1,a24,a25]|refine rd0 rfl ?_))
    refine⟨0,by omega,1,_,by omega,rfl,?_,?_,?_,rfl⟩
    ·try simp only[aB,QE,reduceLT,reduceIte,reduceEqDiff,reduceAdd,reduceLeDiff,reduceMul,Nat.reduceBEq,eE,a1]
    ·try simp only[aB,QE,reduceLT,reduceIte,reduceEqDiff,reduceAdd,reduceLeDiff,reduceMul,Nat.reduceBEq,eE,a24]
    ·try simp only[aB,QE,reduceLT,reduceIte,reduceEqDiff,reduceAdd,reduceLeDiff,reduceMul,Nat.reduceBEq,eE]
     rfl
  ·have hlt:decide ((1:Int)<2)=true:=rfl;have e25:Env.get e 25 = .int .i64 1:=e25;have he:=fun e K=>heb τ e K
   simp only[CZ,D3] at he hap
   (repeat (first|simp only[↓QA,QB,reduceLT,reduceIte,reduceEqDiff,reduceAdd,reduceLeDiff,reduceMul,Nat.reduceBEq,eE,PL,e1,e24,e25,hlt]|refine rd0 rfl ?_))
   refine iC rfl (by simp[T0]) ?_
   (repeat (first|simp only[↓QA,QB,reduceLT,reduceIte,reduceEqDiff,reduceAdd,reduceLeDiff,reduceMul,Nat.reduceBEq,eE,T0,hap,hnl,i1]|refine rd0 rfl ?_))
   refine he _ _ ?_ ?_ ?_ ?_ fun e' σ' a2 a3 a4=>?_
   ·try simp only[aB,QE,reduceLT,reduceIte,reduceEqDiff,reduceAdd,reduceLeDiff,reduceMul,Nat.reduceBEq,eE,e1]
   ·try simp only[aB,QE,reduceLT,reduceIte,reduceEqDiff,reduceAdd,reduceLeDiff,reduceMul,Nat.reduceBEq,eE]
   ·try simp only[aB,QE,reduceLT,reduceIte,reduceEqDiff,reduceAdd,reduceLeDiff,reduceMul,Nat.reduceBEq,eE]
   ·try simp only[aB,QE,reduceLT,reduceIte,reduceEqDiff,reduceAdd,reduceLeDiff,reduceMul,Nat.reduceBEq,eE]
    rfl
   ·(repeat (first|simp only[↓QA,QB,reduceLT,reduceIte,reduceEqDiff,reduceAdd,reduceLeDiff,reduceMul,Nat.reduceBEq,eE,a2,a3,a4]|refine rd0 rfl ?_))
 ·refine⟨0,_,by omega,rfl,?_,?_,?_,rfl⟩
  ·try simp only[aB,QE,reduceLT,reduceIte,reduceEqDiff,reduceAdd,reduceLeDiff,reduceMul,Nat.reduceBEq,eE]
  ·try simp only[aB,QE,reduceLT,reduceIte,reduceEqDiff,reduceAdd,reduceLeDiff,reduceMul,Nat.reduceBEq,eE]
   rfl
  ·try simp only[aB,QE,reduceLT,reduceIte,reduceEqDiff,reduceAdd,reduceLeDiff,reduceMul,Nat.reduceBEq,eE]
   rfl
end Go.Am.Room.Ca
namespace Go.Am.Room.Ca
def dV:=zz @dK (zz @aM (zz @d5 (zz @aG (zz @d8 (zz @List.length_append.{0} (zz @Nat.mul_one (zz @Int.toNat_natCast (zz @bA (zz @bE (zz @bK (zz @bF (zz @eN (zz @bN (zz @vJ (zz @k7 (@fS))))))))))))))))
theorem rN(a b:Int):cP T 180 [.int .i64 a,.int .i64 b] (cV ⟨a,b⟩):=by
 refine aQ (af:=UU) rfl (by simp[UU]) dd ?_;try simp only[↓QA,QB,seval,dV,UU]
theorem RF:∀ (l:List Fm) (r:List AV),nR 6 l.length (nY fmC l++r)=l.map cW
 |[],r=>by simp[nR]
 |y::l,r=>by
  have ih:=RF l r;simp[nR,nY,fmC,cW,<-ih]
theorem UR{σ:St}{id:Nat}{l:List Fm}{r:List AV}(hl:aD σ id=some (nY fmC l++r)):bJ σ 0 20 (.ref id 0 l.length 6)=some (.lit (l.map cW) false none):=by
 have hv:j6 σ (.ref id 0 l.length 6)=some (l.map cW):=by
  simp[j6,hl,AS uF,RF]
 have ha:aI 6 (l.map cW)=true:=GH uF l;rw[HB];simp[hv,ha,d8]
theorem CH(c:Int)(n:Nat)(hn:n=2\/n=3):cP T 174 [.int .i64 c,.int .i64 n] (encPort (exP c n)):=by
 refine aQ (af:=aAS) rfl (by simp[aAS]) dd ?_;have s1:=rN 20 25;have s2:=rN 30 30;have s3:=rN 40 45;have s4:=rN c 8;simp only[aG] at s1 s2 s3 s4
 (repeat (first|simp only[↓QA,QB,seval,dV,aAS]|refine rd0 rfl ?_))
 ((first|refine aC (s1) rfl dd ?_|refine aS (s1) rfl dd ?_);(repeat (first|simp only[↓QA,QB,seval,dV]|refine rd0 rfl ?_)))
 ((first|refine aC (s2) rfl dd ?_|refine aS (s2) rfl dd ?_);(repeat (first|simp only[↓QA,QB,seval,dV]|refine rd0 rfl ?_)))
 ((first|refine aC (s3) rfl dd ?_|refine aS (s3) rfl dd ?_);(repeat (first|simp only[↓QA,QB,seval,dV]|refine rd0 rfl ?_)))
 have hsv:∀ σ,xU 6 σ (.ref 1 0 3 6) none (some (.int .i64 n)) none=some (.ref 1 0 n 6):=fun σ=>by rcases hn with rfl|rfl<;>rfl
 ((first|refine aC (s4) rfl dd ?_|refine aS (s4) rfl dd ?_);(repeat (first|simp only[↓QA,QB,seval,dV,hsv]|refine rd0 rfl ?_)))
 have hsn:=fun σ h=>UR (σ:=σ) (id:=1) (l:=exF.take n) (r:=nY fmC (exF.drop n)) h
 have hln:(exF.take n).length=n:=by rcases hn with rfl|rfl<;>rfl
 rw[hln] at hsn;rw[hsn _ (by rcases hn with rfl|rfl<;>rfl)];rfl
instance (l:List Span):Dats (l.map cV):=⟨bD mZ l⟩
theorem aDA(l:List Span)(hl:l.length<9223372036854775808):cP T 179 [.lit (l.map cV) false none,.lit (l.map cV) false none] (.bool true):=by
 refine aQ (af:=aC8) rfl (by simp[aC8]) dd ?_;have hS:∀ (σ:St) (m d:Nat),cB σ m d (l.map cV)=some (l.map cV):=fun σ m d=>gJ (bD mZ l) σ m d
 (repeat (first|simp only[↓QA,QB,seval,dV,aC8]|refine rd0 rfl ?_))
 refine bS (S:=Nat) 0 (fun k=>k<=l.length) (fun k=>l.length-k) (fun k=>[(0,.lit (l.map cV) false none),(1,.lit (l.map cV) false none),(5,.bool true),(6,.int .i64 k)]) (fun _=>[]) (Nat.zero_le _) rfl ?_ fun k hk=>?_
 ·try simp only[aB,QE,seval,dV]
  try simp
 (repeat (first|simp only[↓QA,QB,seval,dV,ZM]|refine rd0 rfl ?_))
 refine aE (fun h=>?_) fun h=>?_
 ·have hk1:k<l.length:=by simpa using h
  have hw:=bL hk1 hl
  (repeat (first|simp only[↓QA,QB,seval,dV,hk1,hw]|refine rd0 rfl ?_))
  refine⟨k+1,by omega,by omega,?_⟩;try simp only[aB,QE,seval,dV,hw,hS]
  try simp
 ·(repeat (first|simp only[↓QA,QB,seval,dV]|refine rd0 rfl ?_))
def qTo(l:List Load)(k:Nat):List Span:=(l.take k).map fun y=>⟨y.least,y.most⟩
theorem YI{l:List Load}{k:Nat}(h:k<l.length):qTo l (k+1)=qTo l k++[⟨l[k].least,l[k].most⟩]:=by
 rw[qTo,List.take_succ_eq_append_getElem h,List.map_append];rfl
theorem aFY{l:List Load}{k:Nat}(h:k<=l.length):(qTo l k).length=k:=by simp[qTo];omega
theorem aPH{k:Nat}{l:List Span}{s:Span}{σ τ:St}{ex:Bool}(hk:l.length=k)(hn:k<1000):dH 2 16 (σ++.tok 2 k ex::τ) (.lit (l.map cV) false (some σ.length)) (.lit [.agg [.int .i64 s.lo,.int .i64 s.hi]] true none)=some (.lit ((l++[s]).map cV) false (some σ.length),σ++.tok 2 (k+1) true::τ):=by
 rw[jU (ex:=ex) ⟨mJ 2 _ l (fun x=>rfl),by simp[aI,AV.cells,AV.cell],by simp[room,hk];omega,by simp[room,hk];omega⟩ (by simp) k (by simp[hk]) (by rw[show σ.length=σ.length+0 from rfl,rE];rfl)];rw[show σ.length=σ.length+0 from rfl,kD];simp[hk,cV]
set_option maxHeartbeats 1000000 in
theorem W6(p:Port)(w:List Int)(hf:Fits p)(hv:Vd p)(hw:WOk p w):cP T 175 [encPort p,ints w] (.tuple [.lit ((qTo (dG p (gF w)) (dG p (gF w)).length).map cV) false none,.int .i64 0]):=by
 refine aQ (af:=aBI) rfl (by simp[aBI]) dd ?_;have hen:=lG p w hf hv hw;have hdl:=rT p;have hcm:=hv.come;have hll:=AZ p (gF w);have hld:=xF ((IQ p w).app [.cells (aK 3 (gF w))]) hv [] (gF w) fun i=>BO hw.bd i
 obtain⟨M',hM'⟩:∃ M',eH [] (kOf (gF w))=M':=⟨_,rfl⟩;rw[hM'] at hld;obtain⟨L,hL⟩:∃ L,dG p (gF w)=L:=⟨_,rfl⟩;rw[hL] at hld hll;rw[hL];simp only[jX,ints] at hen hld;try simp only[↓QA,QB,seval,dV] at hen hld
 try simp only[↓QA,QB,seval,dV,aBI,ints]
 (first|refine aW hen ?_|refine fW hen ?_)
 try simp only[↓QA,QB,seval,dV,show ((0:Int)==0)=true from rfl]
 (first|refine aW hld ?_|refine fW hld ?_)
 try simp only[↓QA,QB,seval,dV]
 refine kT 4 2 [] rfl ?_;refine bS (S:=Nat×Bool) (0,false) (fun s=>s.1<=L.length) (fun s=>L.length-s.1)
  (fun s=>[(4,.lit ((qTo L s.1).map cV) false (some 7)),(22,.lit (L.map i7) false none),(23,.int .i64 L.length),(24,.int .i64 s.1)])
  (fun s=>[.cells (aF p),.cells (aF p),.cells (aK 3 (gF w)),.cells (aF p),.map (kcs p M'),.cells (pb p 4),.cells (aK 3 (gF w)),.tok 2 s.1 s.2]) (Nat.zero_le _) (by simp only[aM];rfl) ?_ fun s hs=>?_
 ·try simp only[aB,QE,seval,dV]
  try simp[qTo]
 obtain⟨k,ex⟩:=s;simp only at hs;have hS:=fun (l:List Span) (σ:St) (m d:Nat)=>(gJ (bD mZ l) σ m d:cB σ m d (l.map cV)=some (l.map cV))
 have hok:∀ k,aJ k (.map (kcs p M')):=fun k=>DU (AE p) M' k
 have hql:=aFY hs;try simp only[↓QA,QB,seval,dV,aB5]
 refine aE (fun h=>?_) fun h=>?_
 ·have hk1:k<L.length:=by simpa using h
  have hwk:=bL hk1 (by omega);have hsu:=YI hk1;obtain⟨y,hy⟩:∃ y,L[k]=y:=⟨_,rfl⟩;rw[hy] at hsu;obtain⟨Q,hQ⟩:∃ Q,qTo L k=Q:=⟨_,rfl⟩;rw[hQ] at hsu hql;rw[hQ];have hap:=fun τ=>aPH (k:=k) (l:=Q) (s:=⟨y.least,y.most⟩) (σ:=[.cells (aF p),.cells (aF p),.cells (aK 3 (gF w)),.cells (aF p),.map (kcs p M'),.cells (pb p 4),.cells (aK 3 (gF w))]) (τ:=τ) (ex:=ex) hql (by omega)
  simp only[aM,List.cons_append,List.nil_append,List.length_cons,List.length_nil,Nat.zero_add,Nat.reduceAdd] at hap;try simp only[↓QA,QB,seval,dV,hk1,hy,hap]
  refine⟨(k+1,true),by simp only;omega,by simp only;omega,?_⟩;rw[hsu];try simp only[aB,QE,seval,dV,hwk,hS]
  try simp[aJ,okVs,okV,gU]
 ·have hk1:k=L.length:=by simp at h;omega
  subst hk1;try simp only[↓QA,QB,seval,dV,hS]
theorem UP:Vd (exP 6 3):=vd_of_check (by kernel_rfl)
theorem cH(c:Int)(n:Nat):Fits (exP c n):=by
 have h:∀ x∈exF,x.name.size<9223372036854775808:=by
  intro x hx;simp only[exF,List.mem_cons,List.not_mem_nil,or_false] at hx;rcases hx with rfl|rfl|rfl<;>decide
 refine⟨?_,fun x hx=>h x (List.mem_of_mem_take hx)⟩;have:(exP c n).farms.length<=3:=by simp only[exP,List.length_take];exact Nat.min_le_right _ _
 omega
theorem aO7:cP T 176 [encPort (exP 6 3),.int .i64 3] (.tuple [.int .i64 0,.int .i64 4]):=by
 refine aQ (af:=LF) rfl (by simp[LF]) dd ?_;have hpc:=lE (exP 6 3) (cH _ _) UP;have hof:=m6 0 2 [3] (by simp);have hb:Tr.beyond 0 2 [3]=true:=rfl;have h3:(exP 6 3).farms.length=3:=rfl;have hw:IntKind.i64.wrap (((3:Nat):Int)-1)=2:=rfl;rw[hb] at hof;simp only[dK,aM] at hpc
 (repeat (first|simp only[↓QA,QB,reduceLT,reduceIte,reduceEqDiff,reduceAdd,reduceLeDiff,reduceMul,Nat.reduceBEq,dV,LF]|refine rd0 rfl ?_))
 ((first|refine aC (hpc) rfl dd ?_|refine aS (hpc) rfl dd ?_);(repeat (first|simp only[↓QA,QB,reduceLT,reduceIte,reduceEqDiff,reduceAdd,reduceLeDiff,reduceMul,Nat.reduceBEq,dV,enc3,show ((0:Int)==0)=true from rfl,h3,hw]|refine rd0 rfl ?_)))
 ((first|refine bM (hof) (by simp[clr,clrs,ints]) (by simp[okV,okVs]) ?_|refine oV (hof) (by simp[clr,clrs,ints]) (by simp[okV,okVs]) ?_);(repeat (first|simp only[↓QA,QB,reduceLT,reduceIte,reduceEqDiff,reduceAdd,reduceLeDiff,reduceMul,Nat.reduceBEq,dV]|refine rd0 rfl ?_)))
theorem aE8:(eT (exP 6 3)).isEmpty=false:=by kernel_rfl
theorem aQR:cP T 177 [encPort (exP 6 3)] (.tuple [.int .i64 0,.int .i64 0,.int .i64 2]):=by
 refine aQ (af:=JX) rfl (by simp[JX]) dd ?_;have hpc:=lE (exP 6 3) (cH _ _) UP;have hlk:=mB ([.cells (aF (exP 6 3))]) (exP 6 3);have hsm:=IT (Y:=Unit) (Z:=fun _=>[.cells (aF (exP 6 3)),.cells (aF (exP 6 3)),.map [],.cells (pb (exP 6 3) 2)]) (p:=exP 6 3) (F:=AP (exP 6 3)) (m:=2) (q:=3) (N:=4) ⟨fun _=>rfl,fun _ τ=>rfl,by omega,vH _ _ _⟩ UP ();rw[aE8] at hsm;simp only[dK,aM] at hpc hlk hsm;simp only[lC,List.cons_append,List.nil_append,List.length_cons,List.length_nil,Nat.zero_add,Nat.reduceAdd,aM] at hlk;try simp only[↓QA,QB,seval,dV,JX]
 (refine aC (hpc) rfl dd ?_;try simp only[↓QA,QB,seval,dV,enc3,show ((0:Int)==0)=true from rfl])
 (first|refine fW hlk ?_|refine aW hlk ?_)
 try simp only[↓QA,QB,seval,dV]
 (first|refine fD hsm ?_|refine aV hsm ?_)
 try simp only[↓QA,QB,seval,dV,Bool.not_false]
end Go.Am.Room.Ca
namespace Go.Am.Room.Ca
def fJ:=zz @d5 (zz @aG (zz @d8 (zz @List.length_append.{0} (zz @qH (zz @qF (zz @qC (zz @qG (zz @qD (zz @Nat.mul_one (zz @Int.toNat_natCast (zz @bA (zz @bE (zz @bK (zz @bF (zz @eN (zz @y4 (zz @bN (zz @Nat.add_lt_add_iff_left (zz @Nat.lt_add_right_iff_pos (zz @k7 (@fS)))))))))))))))))))))
def m5(x:Fm)(d:Int):Int:=min 10 (d-x.way-x.notice)
def IJ(x:Fm)(c from1 d:Int):Bool:=decide (c = -1)&&decide (from1<=m5 x d)&&wA x (m5 x d) d
def wTo(p:Port)(A:Nat->Int)(from1 d:Int):Nat->Int
 |0=>(onD p A d).least
 |n+1=>match p.farms[n]? with|some x=>if IJ x (A n) from1 d=true then wTo p A from1 d n+x.hands.lo else wTo p A from1 d n|none=>wTo p A from1 d n
def EH(p:Port)(A:Nat->Int)(from1:Int):List Int->Int->Int
 |[],n=>n
 |d::l,n=>if wTo p A from1 d p.farms.length<p.hold then -1 else EH p A from1 l (max n (onD p A d).vain)
def oP(p:Port)(A:Nat->Int)(from1:Int):Int:=EH p A from1 (lD p) 0
theorem XU{p:Port}{n:Nat}(h:n<p.farms.length)(A:Nat->Int)(f d:Int):wTo p A f d (n+1)=if IJ p.farms[n] (A n) f d=true then wTo p A f d n+p.farms[n].hands.lo else wTo p A f d n:=by simp[wTo,h]
theorem XR{p:Port}(hv:Vd p)(A:Nat->Int)(f d:Int):∀ n,0<=wTo p A f d n/\wTo p A f d n<=60*p.farms.length+60*n
 |0=>by
  have:=(zE hv A d p.farms.length).least;simp only[wTo,onD];omega
 |n+1=>by
  have ih:=XR hv A f d n;simp only[wTo];split
  ·rename_i x hx;have:=(hv.fm x (List.mem_of_getElem? hx)).hands;split<;>omega
  ·omega
set_option maxHeartbeats 2000000 in
theorem VI{Y:Type}{Z:Y->St}{p:Port}{F:AV}{m q N:Nat}(hR:PAt Z p F m q N)(hv:Vd p)(z:Y)(A:Nat->Int)(hA:∀ i,-1<=A i/\A i<=10)(f:Int)(hf:0<=f/\f<=10):
  gH T (.func 315 [] []) [.ptr q 0,.agg (aK 3 A),.int .i64 f] (Z z) (.int .i64 (oP p A f)):=by
 refine dA (af:=X2) rfl (by simp[X2]) ?_;have hnf:=hv.nfm;have hpl:=hR.pl;have hcm:=hv.come;have hho:=hv.hold;have hdl:=rT p;have hq2:q<N+2:=by omega
 have hq1:q<N+1:=by omega
 obtain⟨R,hRe⟩:∃ R,oP p A f=R:=⟨_,rfl⟩;rw[hRe]
 (repeat (first|simp only[↓QA,QB,reduceLT,reduceIte,reduceEqDiff,reduceAdd,reduceLeDiff,reduceMul,Nat.reduceBEq,fJ,hR.len,hR.base,hR.base0,hR.bset,hR.bset0,hR.atp,hR.at0,hR.flen,hR.fsn,X2]|refine rd0 rfl ?_))
 refine bS (S:=Nat×Int) (0,0) (fun s=>s.1<=(lD p).length/\0<=s.2/\s.2<=1000/\EH p A f ((lD p).drop s.1) s.2=R) (fun s=>(lD p).length-s.1)
  (fun s=>[(0,.ptr q 0),(2,.int .i64 f),(4,.ptr N 0),(6,.int .i64 s.2),(7,.int .i64 (p.come.lo+(s.1:Nat)))]) (fun _=>Z z++[.cells (aK 3 A)]) ⟨Nat.zero_le _,by simp,by simp,hRe⟩ rfl ?_ fun s hs=>?_
 ·try simp only[aB,QE,reduceLT,reduceIte,reduceEqDiff,reduceAdd,reduceLeDiff,reduceMul,Nat.reduceBEq,fJ,hR.len,hR.base,hR.base0,hR.bset,hR.bset0,hR.atp,hR.at0,hR.flen,hR.fsn]
  try simp
  try omega
 obtain⟨k,n⟩:=s;obtain⟨hk,hn0,hn1,hq⟩:=hs;simp only at hk hn0 hn1 hq;obtain⟨D,hD⟩:∃ D,p.come.lo+(k:Int)=D:=⟨_,rfl⟩;rw[hD];cases hd:decide (D<=p.come.hi)
 ·have hd':¬D<=p.come.hi:=by simpa using hd
  rw[List.drop_eq_nil_of_le (by omega)] at hq;simp only[EH] at hq;subst hq
  (repeat (first|simp only[↓QA,QB,reduceLT,reduceIte,reduceEqDiff,reduceAdd,reduceLeDiff,reduceMul,Nat.reduceBEq,fJ,hR.len,hR.base,hR.base0,hR.bset,hR.bset0,hR.atp,hR.at0,hR.flen,hR.fsn,O2,hd]|refine rd0 rfl ?_))
  refine dN _ rfl ?_;try simp only[QS,QC,reduceLT,reduceIte,reduceEqDiff,reduceAdd,reduceLeDiff,reduceMul,Nat.reduceBEq,fJ,hR.len,hR.base,hR.base0,hR.bset,hR.bset0,hR.atp,hR.at0,hR.flen,hR.fsn]
 have hd':D<=p.come.hi:=by simpa using hd
 have hkn:k<(lD p).length:=by omega
 have hwd:IntKind.i64.wrap (D+1)=D+1:=cC ⟨by omega,by omega⟩;have hD1:p.come.lo+((k+1:Nat):Int)=D+1:=by omega
 rw[List.drop_eq_getElem_cons hkn,OR p hkn,hD] at hq;simp only[EH] at hq;have hon:=fun τ=>aBR (hR.app τ) hv z A hA D (by omega)
 have hlo:LdOk p.farms.length (onD p A D):=zE hv A D _;have hw0:wTo p A f D 0=(onD p A D).least:=rfl;obtain⟨l1,l2,l3⟩:=hlo;obtain⟨y,hy⟩:∃ y,onD p A D=y:=⟨_,rfl⟩;rw[hy] at hq l1 l2 l3 hon hw0;simp only[k7,fS] at hon
 (repeat (first|simp only[↓QA,QB,reduceLT,reduceIte,reduceEqDiff,reduceAdd,reduceLeDiff,reduceMul,Nat.reduceBEq,fJ,hR.len,hR.base,hR.base0,hR.bset,hR.bset0,hR.atp,hR.at0,hR.flen,hR.fsn,O2,hd]|refine rd0 rfl ?_))
 (first|refine aV (hon _) ?_|refine fD (hon _) ?_)
 (repeat (first|simp only[↓QA,QB,reduceLT,reduceIte,reduceEqDiff,reduceAdd,reduceLeDiff,reduceMul,Nat.reduceBEq,fJ,hR.len,hR.base,hR.base0,hR.bset,hR.bset0,hR.atp,hR.at0,hR.flen,hR.fsn]|refine rd0 rfl ?_))
 refine bS (S:=Nat) 0 (fun j=>j<=p.farms.length) (fun j=>p.farms.length-j)
  (fun j=>[(0,.ptr q 0),(2,.int .i64 f),(4,.ptr N 0),(6,.int .i64 n),(7,.int .i64 D),(8,.ptr (N+1) 0),(36,F),(37,.int .i64 p.farms.length),(38,.int .i64 j)]) (fun j=>Z z++[.cells (aK 3 A),.cells [.int .i64 (wTo p A f D j),.int .i64 y.most,.int .i64 y.vain]]) (Nat.zero_le _) (by rw[hw0]) ?_ fun j hj=>?_
 ·try simp only[aB,QE,reduceLT,reduceIte,reduceEqDiff,reduceAdd,reduceLeDiff,reduceMul,Nat.reduceBEq,fJ,hR.len,hR.base,hR.base0,hR.bset,hR.bset0,hR.atp,hR.at0,hR.flen,hR.fsn]
  try simp
  try omega
 (repeat (first|simp only[↓QA,QB,reduceLT,reduceIte,reduceEqDiff,reduceAdd,reduceLeDiff,reduceMul,Nat.reduceBEq,fJ,hR.len,hR.base,hR.base0,hR.bset,hR.bset0,hR.atp,hR.at0,hR.flen,hR.fsn,Y8]|refine rd0 rfl ?_))
 refine aE (fun h=>?_) fun h=>?_
 ·have hj1:j<p.farms.length:=by simpa using h
  have hwj:=bL hj1 (by omega);have hsu:=XU hj1 A f D;have hwb:=XR hv A f D j;have hxo:=hv.fm _ (List.getElem_mem hj1);have hx1:=hxo.way;have hx2:=hxo.notice;have hx4:=hxo.hands;have hg:=iJ 3 A (i:=j) (by omega);have ik:(0:Int)<=(j:Int)/\(j:Int)<((3:Nat):Int):=⟨by omega,by omega⟩;have c2:j<=2:=by omega
  have hia:=hR.fs.ia j hj1;have hld:=fun τ=>hR.fs.ld j hj1 z τ
  have hfr:=fun τ c hc=>OM (hR.app τ) hv z j hj1 c D hc (by omega)
  obtain⟨x,hx⟩:∃ x,p.farms[j]=x:=⟨_,rfl⟩;rw[hx] at hsu hfr hx1 hx2 hx4 hld;have w1:IntKind.i64.wrap (D-x.way)=D-x.way:=cC ⟨by omega,by omega⟩;have w2:IntKind.i64.wrap (D-x.way-x.notice)=D-x.way-x.notice:=cC ⟨by omega,by omega⟩;have hlt:m5 x D=min 10 (D-x.way-x.notice):=rfl;have hlk:IJ x (A j) f D=(decide (A j = -1)&&decide (f<=m5 x D)&&wA x (m5 x D) D):=rfl;obtain⟨L,hL⟩:∃ L,m5 x D=L:=⟨_,rfl⟩;rw[hL] at hlt hlk;obtain⟨G,hG⟩:∃ G,wA x L D=G:=⟨_,rfl⟩;rw[hG] at hlk;have hfr2:f<=L->∀ τ,gH T (.func 419 [] []) [.ptr q 0,.int .i64 j,.int .i64 L,.int .i64 D] (Z z++τ) (.bool G):=fun h τ=>by rw[<-hG];exact hfr τ L (by omega)
  obtain⟨W,hW⟩:∃ W,wTo p A f D j=W:=⟨_,rfl⟩;rw[hW] at hsu hwb;rw[hW];obtain⟨c,hc⟩:∃ c,A j=c:=⟨_,rfl⟩;rw[hc] at hsu hg hlk;have hnx:∀ V,wTo p A f D (j+1)=V->True:=fun _ _=>trivial
  obtain⟨E,hE⟩:∃ E,IJ x c f D=E:=⟨_,rfl⟩;rw[hE] at hsu hlk;cases h1:(c==-1)
  ·have h1':decide (c = -1)=false:=by simpa using h1
   rw[h1',Bool.false_and,Bool.false_and] at hlk;subst hlk;rw[if_neg (by simp)] at hsu
   (repeat (first|simp only[↓QA,QB,reduceLT,reduceIte,reduceEqDiff,reduceAdd,reduceLeDiff,reduceMul,Nat.reduceBEq,fJ,hR.len,hR.base,hR.base0,hR.bset,hR.bset0,hR.atp,hR.at0,hR.flen,hR.fsn,hia,hld,ik,c2,hg,h1,w1,w2,<-hlt]|refine rd0 rfl ?_))
   refine⟨j+1,by omega,by omega,?_⟩;rw[hsu];try simp only[aB,QE,reduceLT,reduceIte,reduceEqDiff,reduceAdd,reduceLeDiff,reduceMul,Nat.reduceBEq,fJ,hR.len,hR.base,hR.base0,hR.bset,hR.bset0,hR.atp,hR.at0,hR.flen,hR.fsn,hwj]
   try simp[aJ,okVs,okV,gU,hq2]
   try omega
  ·have h1':decide (c = -1)=true:=by simpa using h1
   rw[h1',Bool.true_and] at hlk;cases h2:decide (f<=L)
   ·rw[h2,Bool.false_and] at hlk;subst hlk;rw[if_neg (by simp)] at hsu;have h2':decide (L>=f)=false:=h2
    (repeat (first|simp only[↓QA,QB,reduceLT,reduceIte,reduceEqDiff,reduceAdd,reduceLeDiff,reduceMul,Nat.reduceBEq,fJ,hR.len,hR.base,hR.base0,hR.bset,hR.bset0,hR.atp,hR.at0,hR.flen,hR.fsn,hia,hld,ik,c2,hg,h1,w1,w2,<-hlt,h2']|refine rd0 rfl ?_))
    refine⟨j+1,by omega,by omega,?_⟩;rw[hsu];try simp only[aB,QE,reduceLT,reduceIte,reduceEqDiff,reduceAdd,reduceLeDiff,reduceMul,Nat.reduceBEq,fJ,hR.len,hR.base,hR.base0,hR.bset,hR.bset0,hR.atp,hR.at0,hR.flen,hR.fsn,hwj]
    try simp[aJ,okVs,okV,gU,hq2]
    try omega
   ·rw[h2,Bool.true_and] at hlk;subst hlk;have h2':decide (L>=f)=true:=h2;have hfr3:=hfr2 (of_decide_eq_true h2)
    (repeat (first|simp only[↓QA,QB,reduceLT,reduceIte,reduceEqDiff,reduceAdd,reduceLeDiff,reduceMul,Nat.reduceBEq,fJ,hR.len,hR.base,hR.base0,hR.bset,hR.bset0,hR.atp,hR.at0,hR.flen,hR.fsn,hia,hld,ik,c2,hg,h1,w1,w2,<-hlt,h2']|refine rd0 rfl ?_))
    (first|refine aV (hfr3 _) ?_|refine fD (hfr3 _) ?_)
    cases E
    ·rw[if_neg (by simp)] at hsu
     (repeat (first|simp only[↓QA,QB,reduceLT,reduceIte,reduceEqDiff,reduceAdd,reduceLeDiff,reduceMul,Nat.reduceBEq,fJ,hR.len,hR.base,hR.base0,hR.bset,hR.bset0,hR.atp,hR.at0,hR.flen,hR.fsn,h2']|refine rd0 rfl ?_))
     refine⟨j+1,by omega,by omega,?_⟩;rw[hsu];try simp only[aB,QE,reduceLT,reduceIte,reduceEqDiff,reduceAdd,reduceLeDiff,reduceMul,Nat.reduceBEq,fJ,hR.len,hR.base,hR.base0,hR.bset,hR.bset0,hR.atp,hR.at0,hR.flen,hR.fsn,hwj]
     try simp[aJ,okVs,okV,gU,hq2]
     try omega
    ·rw[if_pos rfl] at hsu;have w3:IntKind.i64.wrap (W+x.hands.lo)=W+x.hands.lo:=cC ⟨by omega,by omega⟩
     (repeat (first|simp only[↓QA,QB,reduceLT,reduceIte,reduceEqDiff,reduceAdd,reduceLeDiff,reduceMul,Nat.reduceBEq,fJ,hR.len,hR.base,hR.base0,hR.bset,hR.bset0,hR.atp,hR.at0,hR.flen,hR.fsn,h2',w3]|refine rd0 rfl ?_))
     refine⟨j+1,by omega,by omega,?_⟩;rw[hsu];try simp only[aB,QE,reduceLT,reduceIte,reduceEqDiff,reduceAdd,reduceLeDiff,reduceMul,Nat.reduceBEq,fJ,hR.len,hR.base,hR.base0,hR.bset,hR.bset0,hR.atp,hR.at0,hR.flen,hR.fsn,hwj]
     try simp[aJ,okVs,okV,gU,hq2]
     try omega
 ·have hj1:j=p.farms.length:=by simp at h;omega
  subst hj1;obtain⟨W,hW⟩:∃ W,wTo p A f D p.farms.length=W:=⟨_,rfl⟩;rw[hW] at hq
  (repeat (first|simp only[↓QA,QB,reduceLT,reduceIte,reduceEqDiff,reduceAdd,reduceLeDiff,reduceMul,Nat.reduceBEq,fJ,hR.len,hR.base,hR.base0,hR.bset,hR.bset0,hR.atp,hR.at0,hR.flen,hR.fsn,hW]|refine rd0 rfl ?_))
  refine aE (fun h3=>?_) fun h3=>?_
  ·rw[if_pos (of_decide_eq_true h3)] at hq;subst hq
   (repeat (first|simp only[↓QA,QB,reduceLT,reduceIte,reduceEqDiff,reduceAdd,reduceLeDiff,reduceMul,Nat.reduceBEq,fJ,hR.len,hR.base,hR.base0,hR.bset,hR.bset0,hR.atp,hR.at0,hR.flen,hR.fsn]|refine rd0 rfl ?_))
   refine dN _ rfl ?_;try simp only[QS,QC,reduceLT,reduceIte,reduceEqDiff,reduceAdd,reduceLeDiff,reduceMul,Nat.reduceBEq,fJ,hR.len,hR.base,hR.base0,hR.bset,hR.bset0,hR.atp,hR.at0,hR.flen,hR.fsn]
  ·rw[if_neg (of_decide_eq_false h3)] at hq
   (repeat (first|simp only[↓QA,QB,reduceLT,reduceIte,reduceEqDiff,reduceAdd,reduceLeDiff,reduceMul,Nat.reduceBEq,fJ,hR.len,hR.base,hR.base0,hR.bset,hR.bset0,hR.atp,hR.at0,hR.flen,hR.fsn,AC,hwd]|refine rd0 rfl ?_))
   refine⟨(k+1,max n y.vain),⟨by simp only;omega,by simp only;omega,by simp only;omega,hq⟩,by simp only;omega,?_⟩;try simp only[aB,QE,reduceLT,reduceIte,reduceEqDiff,reduceAdd,reduceLeDiff,reduceMul,Nat.reduceBEq,fJ,hR.len,hR.base,hR.base0,hR.bset,hR.bset0,hR.atp,hR.at0,hR.flen,hR.fsn,hD1]
   try simp[aJ,okVs,okV,gU,hq1]
   try omega
end Go.Am.Room.Ca
namespace Go.Am.Room.Ca
def gX:=zz @dK (zz @aM (zz @d5 (zz @aG (zz @d8 (zz @List.length_append.{0} (zz @Nat.mul_one (zz @Int.toNat_natCast (zz @bA (zz @bE (zz @bK (zz @bF (zz @eN (zz @bN (zz @eZ (zz @fE (zz @iG (@iB)))))))))))))))))
def BK(p:Port)(f:Int)(acc:Int)(w:List Int):Int:=if 0<=oP p (gF w) f/\(acc<0\/oP p (gF w) f<acc) then oP p (gF w) f else acc
def IL(p:Port)(f:Nat):Int:=(gQ f p.farms.length).foldl (BK p f) (-1)
def toZ(p:Port)(f:Nat)(acc:Int):St:=[.cells (aF p),.cells [.int .i64 f],.cells (aF p),.map [],.cells (pb p 3),.cells [.ptr 4 0],.cells [.int .i64 acc],.cells [.ptr 4 0],.cells [.int .i64 f]]
theorem yD(p:Port)(f:Nat)(acc:Int):(toZ p f acc).length=9:=rfl
theorem QM(p:Port)(f:Nat):PAt (fun acc=>toZ p f acc) p (AP p) 3 4 9:=⟨fun _=>rfl,fun _ _=>rfl,by omega,vH _ _ _⟩
theorem aGW(p:Port)(f:Nat)(hf:f<=11)(lp:ABlk):CFam (fun acc=>toZ p f acc++[lp]) p (AP p) f 3 4 7 8 10 :=
 ⟨(QM p f).app [lp],fun _ _=>rfl,fun _ _=>rfl,hf⟩
theorem MA(p:Port)(f:Nat):∀ (l:List (List Int)) (acc:Int),aU (fun w acc=>(BK p f acc w,true)) l acc=(l.foldl (BK p f) acc,true)
 |[],acc=>rfl
 |w::l,acc=>by simp[aU,MA p f l]
theorem ND(p:Port)(hv:Vd p)(f:Nat)(hf:f<=10)(lp:ABlk)(acc:Int)(w:List Int)(hw:WOk p w)(τ:St)(e:Env)(K:KJ)(e3:Env.get e 3 = .ptr 1 0)(e9:Env.get e 9 = .ptr 5 0)(e10:Env.get e 10 = .ptr 6 0)(e11:Env.get e 11 = .ptr (τ.length+1+1+1+1+1+1+1+1+1+1) 0)(hK:∀ e' τ',K none e' (toZ p f (BK p f acc w)++(lp::(τ++τ')))):
  wp T PC e (toZ p f acc++(lp::(τ++[.cells (aK 3 (gF w))]))) K:=by
 have hwo:=VI ((QM p f).app (lp::(τ++[.cells (aK 3 (gF w))]))) hv acc (gF w) (fun i=>BO hw.bd i) f (by omega);have htf:BK p f acc w=if 0<=oP p (gF w) f/\(acc<0\/oP p (gF w) f<acc) then oP p (gF w) f else acc:=rfl
 obtain⟨R,hR⟩:∃ R,BK p f acc w=R:=⟨_,rfl⟩;rw[hR] at htf hK;obtain⟨V,hV⟩:∃ V,oP p (gF w) f=V:=⟨_,rfl⟩;rw[hV] at htf hwo;simp only[toZ,List.cons_append,List.nil_append,aM] at hwo hK ⊢;try simp only[↓QA,QB,seval,gX,PC,e3,e9,e10,e11]
 (first|refine aV hwo ?_|refine fD hwo ?_)
 cases h1:decide (0<=V)
 ·have h1':decide (V>=0)=false:=h1;rw[if_neg (fun h=>of_decide_eq_false h1 h.1)] at htf;subst htf;try simp only[↓QA,QB,seval,gX,e3,e9,e10,e11,h1']
  exact hK _ [.cells (aK 3 (gF w))]
 ·have h1':decide (V>=0)=true:=h1;cases h2:decide (acc<0)
  ·cases h3:decide (V<acc)
   ·rw[if_neg (fun h=>h.2.elim (of_decide_eq_false h2) (of_decide_eq_false h3))] at htf;subst htf;try simp only[↓QA,QB,seval,gX,e3,e9,e10,e11,h1',h2,h3]
    exact hK _ [.cells (aK 3 (gF w))]
   ·rw[if_pos ⟨of_decide_eq_true h1,.inr (of_decide_eq_true h3)⟩] at htf;subst htf;try simp only[↓QA,QB,seval,gX,e3,e9,e10,e11,h1',h2,h3]
    exact hK _ [.cells (aK 3 (gF w))]
  ·rw[if_pos ⟨of_decide_eq_true h1,.inl (of_decide_eq_true h2)⟩] at htf;subst htf;try simp only[↓QA,QB,seval,gX,e3,e9,e10,e11,h1',h2]
   exact hK _ [.cells (aK 3 (gF w))]
def aAU(n:Int):AV:=if n<0 then .tuple [.int .i64 0,.int .i64 9] else .tuple [.int .i64 n,.int .i64 0]
theorem V6(p:Port)(hfp:Fits p)(hv:Vd p)(f:Nat)(hf:f<=10):cP T 178 [encPort p,.int .i64 f] (aAU (IL p f)):=by
 refine aQ (af:=aA0) rfl (by simp[aA0]) dd ?_;have hlk:=mB ([.cells (aF p),.cells [.int .i64 f]]) p;have hpc:=lE p hfp hv;have hof:=m6 0 10 [(f:Int)] (by simp);have hob:Tr.beyond 0 10 [(f:Int)]=false:=v8 (by simp;omega);rw[hob] at hof;have hit:=MA p f (gQ f p.farms.length) (-1);have hto:IL p f=(gQ f p.farms.length).foldl (BK p f) (-1):=rfl;obtain⟨R,hR⟩:∃ R,IL p f=R:=⟨_,rfl⟩;rw[hR] at hto;rw[<-hto] at hit;rw[hR];simp only[dK,aM] at hpc hlk;simp only[lC,List.cons_append,List.nil_append,List.length_cons,List.length_nil,aM] at hlk;have e0:((0:Int)==0)=true:=rfl;have hz:∀ acc,[.cells (aF p),.cells [.int .i64 f],.cells (aF p),.map [],.cells (pb p 3),.cells [.ptr 4 0],.cells [.int .i64 acc],.cells [.ptr 4 0],.cells [.int .i64 f]]=toZ p f acc:=fun _=>rfl
 simp only[aM] at hz;try simp only[↓QA,QB,seval,gX,aA0]
 (refine aC (hpc) rfl dd ?_;try simp only[↓QA,QB,seval,gX,enc3,e0])
 (refine bM (hof) (by simp[clr,clrs,ints]) (by simp[okV,okVs]) ?_;try simp only[↓QA,QB,seval,gX,enc3,e0])
 (first|refine fW hlk ?_|refine aW hlk ?_)
 try simp only[↓QA,QB,seval,gX]
 refine iC rfl (by simp[RV]) ?_;try simp only[↓QA,QB,seval,gX,RV]
 rw[hz];refine rM (toZ p f) (toZ p f) 9 (yD p f) (yD p f) .ret _ 31 [32] _ _ 417 [.ptr 7 0,.ptr 8 0] ?_ (aU (fun w acc=>(BK p f acc w,true)) (gQ f p.farms.length) (-1)) (-1) ?_ _ ?_ ?_
 ·try simp only[aB,QE,seval,gX]
 ·refine K6 (Z:=fun y=>toZ p f y++[_]) (ZD:=fun y=>toZ p f y++[_]) (aGW p f (by omega) _) _ ?_ hv (-1);refine pC (toZ p f) (toZ p f) 9 (yD p f) (yD p f) _ _ [32] (fun t=>[.agg (aK 3 (gF t))]) (fun _=>rfl) _ _ ?_;rintro w hw acc τ;simp only[i6];have hln:=yD p f acc;have hbs:∀ τ k,aD (toZ p f acc++τ) (9+k)=aD τ k:=fun τ k=>by rw[<-hln];exact mF _ _ _
  have hst:∀ (τ:St) (k:Nat) (y:ABlk),(toZ p f acc++τ).set (9+k) y=toZ p f acc++τ.set k y:=fun τ k y=>by rw[<-hln];exact kD _ _ _ _
  try simp only[↓QA,QB,seval,gX,hln,hbs,hst]
  refine⟨[.cells (aK 3 (gF w))],by simp,?_⟩;generalize ABlk.loop .busy none _ _ _ _=lp;refine ND p hv f hf lp acc w hw τ _ _ ?_ ?_ ?_ ?_ fun e' τ'=>?_
  ·try simp only[aB,QE,seval,gX]
  ·try simp only[aB,QE,seval,gX]
  ·try simp only[aB,QE,seval,gX]
  ·try simp only[aB,QE,seval,gX]
   congr 1
   omega
  exact .inl ⟨rfl,_,rfl⟩
 ·intro τ h2;rw[hit];simp only[toZ,List.cons_append,List.nil_append,aAU];cases h4:decide (R<0)
  ·rw[if_neg (of_decide_eq_false h4)];try simp only[↓QA,QB,seval,gX,h4]
  ·rw[if_pos (of_decide_eq_true h4)];try simp only[↓QA,QB,seval,gX,h4]
 ·intro τ h2;rw[hit] at h2;cases h2
end Go.Am.Room.Ca
namespace Go.Am.Room.Ca
def gV:=zz @dK (zz @aM (zz @d5 (zz @aG (zz @d8 (zz @List.length_append.{0} (zz @Nat.mul_one (zz @Int.toNat_natCast (zz @bA (zz @bE (zz @bK (zz @bF (zz @eN (zz @y4 (zz @bN (zz @eZ (zz @fE (zz @iG (@iB))))))))))))))))))
def BU(i:Nat)(w:List Int)(y:Int×Bool):(Int×Bool)×Bool:=if gF w i = -1 then ((y.1,true),false) else ((max y.1 (gF w i),true),true)
def I3(p:Port)(i:Nat):(Int×Bool)×Bool:=aU (BU i) (eT p) (0,false)
def heZ(p:Port)(i:Nat)(r:Int)(y:Int×Bool):St:=[.cells (aF p),.cells [.int .i64 i],.cells [.int .i64 r],.cells [.int .i64 0],.cells [.int .i64 y.1],.cells [.bool y.2],.cells (aF p),.map [],.cells (pb p 7),.cells [.ptr 8 0]]
theorem yQ(p:Port)(i:Nat)(r:Int)(y:Int×Bool):(heZ p i r y).length=10:=rfl
theorem aFI(p:Port)(i:Nat)(r:Int)(lp:ABlk):DFam (fun y=>heZ p i r y++[lp]) p (AP p) 7 8 9 11 :=
 ⟨⟨fun _=>rfl,fun _ _=>rfl,by omega,vH _ _ _⟩,fun _ _=>rfl⟩
theorem OF(p:Port)(i:Nat)(hi:i<3)(lp:ABlk)(y:Int×Bool)(w:List Int)(τ:St)(e:Env)(K:KJ)(e3:Env.get e 3 = .ptr 1 0)(e4:Env.get e 4 = .ptr 2 0)(e5:Env.get e 5 = .ptr 3 0)(e9:Env.get e 9 = .ptr 4 0)(e10:Env.get e 10 = .ptr 5 0)(e11:Env.get e 11 = .ptr (τ.length+1+1+1+1+1+1+1+1+1+1+1) 0)(hT:∀ e' τ',(BU i w y).2=true->K none e' (heZ p i 0 (BU i w y).1++(lp::(τ++τ'))))(hD:∀ e' τ',(BU i w y).2=false->K (some .ret) e' (heZ p i (-1) (BU i w y).1++(lp::(τ++τ')))):
  wp T HM e (heZ p i 0 y++(lp::(τ++[.cells (aK 3 (gF w))]))) K:=by
 obtain⟨a,b⟩:=y;have hg:=iJ 3 (gF w) (i:=i) hi;have ik:(0:Int)<=(i:Int)/\(i:Int)<((3:Nat):Int):=⟨by omega,by omega⟩;have c2:i<=2:=by omega
 obtain⟨c,hc⟩:∃ c,gF w i=c:=⟨_,rfl⟩;rw[hc] at hg;simp only[BU,hc] at hT hD;cases h1:(c==-1)
 ·have h1':¬c = -1:=by simpa using h1
  simp only[h1',if_false] at hT;have hT:=fun e' τ'=>hT e' τ' trivial
  simp only[heZ,List.cons_append,List.nil_append,aM] at hT ⊢
  (repeat (first|simp only[↓QA,QB,reduceLT,reduceIte,reduceEqDiff,reduceAdd,reduceLeDiff,reduceMul,Nat.reduceBEq,gV,HM,e3,e4,e5,e9,e10,e11,ik,c2,hg,h1,AC]|refine rd0 rfl ?_))
  exact hT _ [.cells (aK 3 (gF w))]
 ·have h1':c = -1:=by simpa using h1
  simp only[h1',if_true] at hD;have hD:=fun e' τ'=>hD e' τ' trivial
  simp only[heZ,List.cons_append,List.nil_append,aM] at hD ⊢
  (repeat (first|simp only[↓QA,QB,reduceLT,reduceIte,reduceEqDiff,reduceAdd,reduceLeDiff,reduceMul,Nat.reduceBEq,gV,HM,e3,e4,e5,e9,e10,e11,ik,c2,hg,h1]|refine rd0 rfl ?_))
  exact hD _ [.cells (aK 3 (gF w))]
def Q6(r:(Int×Bool)×Bool):AV:=if r.2=false then .tuple [.int .i64 (-1),.int .i64 0] else if r.1.2=false then .tuple [.int .i64 0,.int .i64 9] else .tuple [.int .i64 r.1.1,.int .i64 0]
theorem UY(p:Port)(hfp:Fits p)(hv:Vd p)(i:Nat)(hi:i<p.farms.length):cP T 176 [encPort p,.int .i64 i] (Q6 (I3 p i)):=by
 refine aQ (af:=LF) rfl (by simp[LF]) dd ?_;have hnf:=hv.nfm;have hlk:=mB ([.cells (aF p),.cells [.int .i64 i],.cells [.int .i64 0],.cells [.int .i64 0],.cells [.int .i64 0],.cells [.bool false]]) p;have hpc:=lE p hfp hv;have hw:IntKind.i64.wrap ((p.farms.length:Int)-1)=(p.farms.length:Int)-1:=cC ⟨by omega,by omega⟩;have hof:=m6 0 ((p.farms.length:Int)-1) [(i:Int)] (by simp);have hob:Tr.beyond 0 ((p.farms.length:Int)-1) [(i:Int)]=false:=v8 (by simp;omega);rw[hob] at hof;have hho:I3 p i=aU (BU i) (eT p) (0,false):=rfl;obtain⟨R,hR⟩:∃ R,I3 p i=R:=⟨_,rfl⟩;rw[hR] at hho;rw[hR];simp only[dK,aM] at hpc hlk;simp only[lC,List.cons_append,List.nil_append,List.length_cons,List.length_nil,aM] at hlk;have e0:((0:Int)==0)=true:=rfl;have hz:∀ y:Int×Bool,[.cells (aF p),.cells [.int .i64 i],.cells [.int .i64 0],.cells [.int .i64 0],.cells [.int .i64 y.1],.cells [.bool y.2],.cells (aF p),.map [],.cells (pb p 7),.cells [.ptr 8 0]]=heZ p i 0 y:=fun _=>rfl
 have hz:=hz (0,false);simp only[aM] at hz
 (repeat (first|simp only[↓QA,QB,reduceLT,reduceIte,reduceEqDiff,reduceAdd,reduceLeDiff,reduceMul,Nat.reduceBEq,gV,LF]|refine rd0 rfl ?_))
 ((first|refine aC (hpc) rfl dd ?_|refine aS (hpc) rfl dd ?_);(repeat (first|simp only[↓QA,QB,reduceLT,reduceIte,reduceEqDiff,reduceAdd,reduceLeDiff,reduceMul,Nat.reduceBEq,gV,enc3,e0,hw]|refine rd0 rfl ?_)))
 ((first|refine bM (hof) (by simp[clr,clrs,ints]) (by simp[okV,okVs]) ?_|refine oV (hof) (by simp[clr,clrs,ints]) (by simp[okV,okVs]) ?_);(repeat (first|simp only[↓QA,QB,reduceLT,reduceIte,reduceEqDiff,reduceAdd,reduceLeDiff,reduceMul,Nat.reduceBEq,gV,enc3,e0]|refine rd0 rfl ?_)))
 (first|refine fW hlk ?_|refine aW hlk ?_)
 (repeat (first|simp only[↓QA,QB,reduceLT,reduceIte,reduceEqDiff,reduceAdd,reduceLeDiff,reduceMul,Nat.reduceBEq,gV]|refine rd0 rfl ?_))
 refine iC rfl (by simp[LI]) ?_
 (repeat (first|simp only[↓QA,QB,reduceLT,reduceIte,reduceEqDiff,reduceAdd,reduceLeDiff,reduceMul,Nat.reduceBEq,gV,LI]|refine rd0 rfl ?_))
 rw[hz];refine rM (heZ p i 0) (heZ p i (-1)) 10 (yQ p i 0) (yQ p i (-1)) .ret _ 32 [33] _ _ 329 [.ptr 9 0] ?_ (aU (BU i) (eT p) (0,false)) (0,false) ?_ _ ?_ ?_
 ·try simp only[aB,QE,reduceLT,reduceIte,reduceEqDiff,reduceAdd,reduceLeDiff,reduceMul,Nat.reduceBEq,gV]
 ·refine zH (Z:=fun y=>heZ p i 0 y++[_]) (ZD:=fun y=>heZ p i (-1) y++[_]) (aFI p i 0 _) (fun y=>rfl) _ ?_ hv (0,false);refine pC (heZ p i 0) (heZ p i (-1)) 10 (yQ p i 0) (yQ p i (-1)) _ _ [33] (fun t=>[.agg (aK 3 (gF t))]) (fun _=>rfl) _ _ ?_;rintro w hw y τ;simp only[i6];have hln:=yQ p i 0 y;have hbs:∀ τ k,aD (heZ p i 0 y++τ) (10+k)=aD τ k:=fun τ k=>by rw[<-hln];exact mF _ _ _
  have hst:∀ (τ:St) (k:Nat) (b:ABlk),(heZ p i 0 y++τ).set (10+k) b=heZ p i 0 y++τ.set k b:=fun τ k b=>by rw[<-hln];exact kD _ _ _ _
  (repeat (first|simp only[↓QA,QB,reduceLT,reduceIte,reduceEqDiff,reduceAdd,reduceLeDiff,reduceMul,Nat.reduceBEq,gV,hln,hbs,hst]|refine rd0 rfl ?_))
  refine⟨[.cells (aK 3 (gF w))],by simp,?_⟩;generalize ABlk.loop .busy none _ _ _ _=lp;refine OF p i (by omega) lp y w τ _ _ ?_ ?_ ?_ ?_ ?_ ?_ (fun e' τ' h=>?_) fun e' τ' h=>?_
  ·try simp only[aB,QE,reduceLT,reduceIte,reduceEqDiff,reduceAdd,reduceLeDiff,reduceMul,Nat.reduceBEq,gV]
  ·try simp only[aB,QE,reduceLT,reduceIte,reduceEqDiff,reduceAdd,reduceLeDiff,reduceMul,Nat.reduceBEq,gV]
  ·try simp only[aB,QE,reduceLT,reduceIte,reduceEqDiff,reduceAdd,reduceLeDiff,reduceMul,Nat.reduceBEq,gV]
  ·try simp only[aB,QE,reduceLT,reduceIte,reduceEqDiff,reduceAdd,reduceLeDiff,reduceMul,Nat.reduceBEq,gV]
  ·try simp only[aB,QE,reduceLT,reduceIte,reduceEqDiff,reduceAdd,reduceLeDiff,reduceMul,Nat.reduceBEq,gV]
  ·try simp only[aB,QE,reduceLT,reduceIte,reduceEqDiff,reduceAdd,reduceLeDiff,reduceMul,Nat.reduceBEq,gV]
   congr 1
   omega
  ·exact .inl ⟨h,rfl,_,rfl⟩
  ·exact .inr ⟨h,rfl,_,rfl⟩
 ·intro τ h2;rw[<-hho] at h2 ⊢;obtain⟨⟨a,b⟩,r⟩:=R;simp only at h2;subst h2;simp only[heZ,List.cons_append,List.nil_append,Q6];cases b
  ·(repeat (first|simp only[↓QA,QB,reduceLT,reduceIte,reduceEqDiff,reduceAdd,reduceLeDiff,reduceMul,Nat.reduceBEq,gV]|refine rd0 rfl ?_))
   rfl
  ·(repeat (first|simp only[↓QA,QB,reduceLT,reduceIte,reduceEqDiff,reduceAdd,reduceLeDiff,reduceMul,Nat.reduceBEq,gV]|refine rd0 rfl ?_))
   rfl
 ·intro τ h2;rw[<-hho] at h2 ⊢;obtain⟨⟨a,b⟩,r⟩:=R;simp only at h2;subst h2;simp only[heZ,List.cons_append,List.nil_append,Q6]
  (repeat (first|simp only[↓QA,QB,reduceLT,reduceIte,reduceEqDiff,reduceAdd,reduceLeDiff,reduceMul,Nat.reduceBEq,gV]|refine rd0 rfl ?_))
end Go.Am.Room.Ca
namespace Go.Am.Room.Ca
def eK:=zz @dK (zz @aG (zz @bN (@List.length_append.{0})))
theorem aLI:IL (exP 5 3) 3=30:=by kernel_rfl
theorem aL9:I3 (exP 6 2) 0=((4,true),true):=by kernel_rfl
theorem aIV:gM (exP 5 3) (gF [2,3,-1])=30:=by kernel_rfl
theorem aLC:u3 (exP 6 3) (gF [2,3,-1])=1:=by kernel_rfl
theorem aJ1:u3 (exP 5 3) (gF [2,3,-1])=0:=by kernel_rfl
theorem aFN:u3 (exP 5 3) (gF [-1,-1,3])=2:=by kernel_rfl
theorem aKA:qTo (dG (exP 5 3) (gF [2,3,-1])) (dG (exP 5 3) (gF [2,3,-1])).length=[⟨20,25⟩,⟨50,55⟩,⟨50,55⟩,⟨50,55⟩]:=by kernel_rfl
theorem R3:Vd (exP 5 3):=vd_of_check (by kernel_rfl)
theorem aRL:Vd (exP 6 2):=vd_of_check (by kernel_rfl)
theorem aQF:Vd (exP 5 2):=vd_of_check (by kernel_rfl)
theorem C6{p:Port}{w:List Int}(h:w.length=p.farms.length)(hb:(w.all fun x=>decide (-1<=x)&&decide (x<=10))=true):WOk p w:=⟨h,fun x hx=>by
 have:=List.all_eq_true.1 hb x hx
 simpa using this⟩
theorem gC(p:Port)(σ:St)(m d:Nat):cB σ m d (aF p)=some (aF p):=gJ (m8 p) σ m d
theorem cR(p:Port):(aF p).length=4:=rfl
theorem bW(p:Port):(aF p).take 4=aF p:=rfl
theorem bY(p:Port):(aF p).drop 4=[]:=rfl
theorem bX(p:Port):bZ (aF p)=true:=by simp[bZ,aF,AV.cell]
theorem uH(p:Port)(a b c:Int):clrs [.agg (aF p),.lit [.int .i64 a,.int .i64 b,.int .i64 c] true none]=[.agg (aF p),ints [a,b,c]]:=by simp[clrs,clr,(m8 p).2,ints]
theorem nM(p:Port)(a b c:Int):okVs 0 [.agg (aF p),.lit [.int .i64 a,.int .i64 b,.int .i64 c] true none]:=⟨(m8 p).1,by simp[okV,okVs],trivial⟩
set_option maxHeartbeats 4000000 in
theorem awake_ok:cP T 47 [] (.bool true):=by
 refine aQ (af:=a47) rfl (by simp[a47]) aZ ?_;have p1:cP T 174 [.int .i64 6,.int .i64 3] (encPort (exP 6 3)):=CH 6 3 (.inr rfl);have p2:cP T 174 [.int .i64 5,.int .i64 3] (encPort (exP 5 3)):=CH 5 3 (.inr rfl);have p3:cP T 174 [.int .i64 6,.int .i64 2] (encPort (exP 6 2)):=CH 6 2 (.inl rfl);have p4:cP T 174 [.int .i64 5,.int .i64 2] (encPort (exP 5 2)):=CH 5 2 (.inl rfl);have c1:=W6 (exP 5 3) [2,3,-1] (cH _ _) R3 (C6 rfl rfl);rw[aKA] at c1;have c2:=xW (exP 6 3) [2,3,-1] (cH _ _) UP (C6 rfl rfl);have c3:=xW (exP 5 3) [2,3,-1] (cH _ _) R3 (C6 rfl rfl);have c4:=xW (exP 5 3) [-1,-1,3] (cH _ _) R3 (C6 rfl rfl);have c5:=LN (exP 5 3) [2,3,-1] (cH _ _) R3 (C6 rfl rfl);have c6:=yB (exP 6 3) (cH _ _) UP;have c7:=yB (exP 5 3) (cH _ _) R3;have c8:=yB (exP 5 2) (cH _ _) aQF;have c9:=UY (exP 6 2) (cH _ _) aRL 0 (by decide);have ca:=aMI;have cb:=aQR;have cc:=V6 (exP 5 3) (cH _ _) R3 3 (by omega);have cd:=aO7;rw[aLC] at c2;rw[aJ1] at c3;rw[aFN] at c4;rw[aIV] at c5;rw[aKJ] at c6;rw[aJC] at c7;rw[aKB] at c8;rw[aL9] at c9;rw[aLI] at cc;have e9:Q6 ((4,true),true) = .tuple [.int .i64 4,.int .i64 0]:=rfl;have ec:aAU 30 = .tuple [.int .i64 30,.int .i64 0]:=rfl;rw[e9] at c9;rw[ec] at cc;have cs:=aDA [⟨20,25⟩,⟨50,55⟩,⟨50,55⟩,⟨50,55⟩] (by simp);have s1:=rN 20 25;have s2:=rN 50 55;simp only[dK,FQ,aG,List.map_cons,List.map_nil] at p1 p2 p3 p4 c1 c2 c3 c4 c5 c6 c7 c8 c9 ca cb cc cd cs s1 s2;try simp only[↓QA,QB,seval,eK,gC,cR,bW,bY,bX,a47]
 (refine aC (p1) rfl dd ?_;try simp only[↓QA,QB,seval,eK,gC,cR,bW,bY,bX])
 (refine aC (p2) rfl dd ?_;try simp only[↓QA,QB,seval,eK,gC,cR,bW,bY,bX])
 (refine aC (p3) rfl dd ?_;try simp only[↓QA,QB,seval,eK,gC,cR,bW,bY,bX])
 (refine aC (p4) rfl dd ?_;try simp only[↓QA,QB,seval,eK,gC,cR,bW,bY,bX])
 refine bM c1 (uH _ _ _ _) (nM _ _ _ _) ?_;try simp only[↓QA,QB,seval,eK,gC,cR,bW,bY,bX]
 refine bM c2 (uH _ _ _ _) (nM _ _ _ _) ?_;try simp only[↓QA,QB,seval,eK,gC,cR,bW,bY,bX]
 refine bM c3 (uH _ _ _ _) (nM _ _ _ _) ?_;try simp only[↓QA,QB,seval,eK,gC,cR,bW,bY,bX]
 refine bM c4 (uH _ _ _ _) (nM _ _ _ _) ?_;try simp only[↓QA,QB,seval,eK,gC,cR,bW,bY,bX]
 refine bM c5 (uH _ _ _ _) (nM _ _ _ _) ?_;try simp only[↓QA,QB,seval,eK,gC,cR,bW,bY,bX]
 (refine aC (c6) rfl dd ?_;try simp only[↓QA,QB,seval,eK,gC,cR,bW,bY,bX])
 (refine aC (c7) rfl dd ?_;try simp only[↓QA,QB,seval,eK,gC,cR,bW,bY,bX])
 (refine aC (c8) rfl dd ?_;try simp only[↓QA,QB,seval,eK,gC,cR,bW,bY,bX])
 (refine aC (c9) rfl dd ?_;try simp only[↓QA,QB,seval,eK,gC,cR,bW,bY,bX])
 (refine aC (ca) rfl dd ?_;try simp only[↓QA,QB,seval,eK,gC,cR,bW,bY,bX])
 (refine aC (cb) rfl dd ?_;try simp only[↓QA,QB,seval,eK,gC,cR,bW,bY,bX])
 (refine aC (cc) rfl dd ?_;try simp only[↓QA,QB,seval,eK,gC,cR,bW,bY,bX])
 (refine aC (cd) rfl dd ?_;try simp only[↓QA,QB,seval,eK,gC,cR,bW,bY,bX])
 (refine aC (s1) rfl dd ?_;try simp only[↓QA,QB,seval,eK,gC,cR,bW,bY,bX])
 (refine aC (s2) rfl dd ?_;try simp only[↓QA,QB,seval,eK,gC,cR,bW,bY,bX])
 (refine aC (s2) rfl dd ?_;try simp only[↓QA,QB,seval,eK,gC,cR,bW,bY,bX])
 (refine aC (s2) rfl dd ?_;try simp only[↓QA,QB,seval,eK,gC,cR,bW,bY,bX])
 (refine bM (cs) (by simp[clr,clrs,ints]) (by simp[okV,okVs]) ?_;try simp only[↓QA,QB,seval,eK,gC,cR,bW,bY,bX])
 (refine bM (mQ [2,3,-1] [2,3,-1] (by simp) (by simp)) (by simp[clr,clrs,ints]) (by simp[okV,okVs]) ?_;try simp only[↓QA,QB,seval,eK,gC,cR,bW,bY,bX,eq_self])
 (refine bM (mQ [2,0,3] [2,0,3] (by simp) (by simp)) (by simp[clr,clrs,ints]) (by simp[okV,okVs]) ?_;try simp only[↓QA,QB,seval,eK,gC,cR,bW,bY,bX,eq_self])
 done
end Go.Am.Room.Ca
namespace Go.Am.Room.Tr
def d7:=zz @encNet_eq (zz @netCells_eq (zz @encRail_eq (zz @encTram_eq (zz @encSeen_eq (zz @aG (zz @S_mapRail (zz @S_mapTram (zz @S_mapSeen (zz @bN (zz @List.length_append.{0} (@cM)))))))))))
theorem HE(a:List (List Int))(h:a.length<=1000/\∀ r∈a,r.length<=4):cP T 191 [bR a,bR a] (.bool true):=by
 have:=aEA a a (by omega) (by omega) (fun r hr=>by have:=h.2 r hr;omega) (fun r hr=>by have:=h.2 r hr;omega);simpa using this
set_option maxHeartbeats 1000000 in
theorem awake_ok:cP T 48 [] (.bool true):=by
 refine aQ (af:=a48) rfl (by simp[a48]) aZ ?_
 (repeat (first|simp only[↓QA,QB,seval,d7,a48]|refine rd0 rfl ?_))
 refine bM (yV false []) (by simp[clr,clrs]) (by simp[okV,okVs]) ?_
 (repeat (first|simp only[↓QA,QB,seval,d7]|refine rd0 rfl ?_))
 refine bM (yV true []) (by simp[clr,clrs]) (by simp[okV,okVs]) ?_
 (repeat (first|simp only[↓QA,QB,seval,d7]|refine rd0 rfl ?_))
 ((first|refine aC (FT 0 (-1)) rfl dd ?_|refine aS (FT 0 (-1)) rfl dd ?_);(repeat (first|simp only[↓QA,QB,seval,d7]|refine rd0 rfl ?_)))
 ((first|refine aC (FT 1 15) rfl dd ?_|refine aS (FT 1 15) rfl dd ?_);(repeat (first|simp only[↓QA,QB,seval,d7]|refine rd0 rfl ?_)))
 refine bM (yV true [⟨0,-1⟩,⟨1,15⟩]) (by simp[clr,clrs,encSeen]) (by simp[okV,okVs]) ?_
 (repeat (first|simp only[↓QA,QB,seval,d7]|refine rd0 rfl ?_))
 ((first|refine aC (FT 0 (-1)) rfl dd ?_|refine aS (FT 0 (-1)) rfl dd ?_);(repeat (first|simp only[↓QA,QB,seval,d7]|refine rd0 rfl ?_)))
 refine bM (yV true [⟨0,-1⟩]) (by simp[clr,clrs,encSeen]) (by simp[okV,okVs]) ?_
 (repeat (first|simp only[↓QA,QB,seval,d7]|refine rd0 rfl ?_))
 ((first|refine aC (F8 exH (cH _ _) 3) rfl dd ?_|refine aS (F8 exH (cH _ _) 3) rfl dd ?_);(repeat (first|simp only[↓QA,QB,seval,d7,x1,CO]|refine rd0 rfl ?_)))
 ((first|refine aC (pcomes_ok exH (cH _ _) 1) rfl dd ?_|refine aS (pcomes_ok exH (cH _ _) 1) rfl dd ?_);(repeat (first|simp only[↓QA,QB,seval,d7,x2,encSIE]|refine rd0 rfl ?_)))
 ((first|refine aC (pcomes_ok exK (cH _ _) 1) rfl dd ?_|refine aS (pcomes_ok exK (cH _ _) 1) rfl dd ?_);(repeat (first|simp only[↓QA,QB,seval,d7,x3,encSIE]|refine rd0 rfl ?_)))
 ((first|refine aC (pcomes_ok exT (cH _ _) 0) rfl dd ?_|refine aS (pcomes_ok exT (cH _ _) 0) rfl dd ?_);(repeat (first|simp only[↓QA,QB,seval,d7,x4,encSIE]|refine rd0 rfl ?_)))
 ((first|refine aC (JI exK (cH _ _)) rfl dd ?_|refine aS (JI exK (cH _ _)) rfl dd ?_);(repeat (first|simp only[↓QA,QB,seval,d7,x5,t7]|refine rd0 rfl ?_)))
 ((first|refine aC (oX exK (cH _ _)) rfl dd ?_|refine aS (oX exK (cH _ _)) rfl dd ?_);(repeat (first|simp only[↓QA,QB,seval,d7,x6,EG]|refine rd0 rfl ?_)))
 ((first|refine aC (oX exH (cH _ _)) rfl dd ?_|refine aS (oX exH (cH _ _)) rfl dd ?_);(repeat (first|simp only[↓QA,QB,seval,d7,x7,EG]|refine rd0 rfl ?_)))
 ((first|refine aC (J2 exK (cH _ _)) rfl dd ?_|refine aS (J2 exK (cH _ _)) rfl dd ?_);(repeat (first|simp only[↓QA,QB,seval,d7,x8,yC]|refine rd0 rfl ?_)))
 ((first|refine aC (LO exH (cH _ _)) rfl dd ?_|refine aS (LO exH (cH _ _)) rfl dd ?_);(repeat (first|simp only[↓QA,QB,seval,d7,x9,t7]|refine rd0 rfl ?_)))
 ((first|refine aC (FZ exH (cH _ _)) rfl dd ?_|refine aS (FZ exH (cH _ _)) rfl dd ?_);(repeat (first|simp only[↓QA,QB,seval,d7,x10,EF]|refine rd0 rfl ?_)))
 ((first|refine aC (GY exS (cH _ _)) rfl dd ?_|refine aS (GY exS (cH _ _)) rfl dd ?_);(repeat (first|simp only[↓QA,QB,seval,d7,x11,RC]|refine rd0 rfl ?_)))
 ((first|refine aC (oX exS (cH _ _)) rfl dd ?_|refine aS (oX exS (cH _ _)) rfl dd ?_);(repeat (first|simp only[↓QA,QB,seval,d7,x12,EG]|refine rd0 rfl ?_)))
 refine oV (HE [[3,2],[3,1,0]] (by simp)) (by simp[clr,clrs,ints,bR]) (by simp[okV,okVs,ints,bR]) ?_
 (repeat (first|simp only[↓QA,QB,seval,d7]|refine rd0 rfl ?_))
 ((first|refine aC (m9 14 16) rfl dd ?_|refine aS (m9 14 16) rfl dd ?_);(repeat (first|simp only[↓QA,QB,seval,d7,List.map_nil,List.length_nil,show (((0:Nat):Int)==0)=true from rfl]|refine rd0 rfl ?_)))
 ((first|refine bM (mQ [0,1] [0,1] (by simp) (by simp)) (by simp[clr,clrs,ints]) (by simp[okV,okVs]) ?_|refine oV (mQ [0,1] [0,1] (by simp) (by simp)) (by simp[clr,clrs,ints]) (by simp[okV,okVs]) ?_);(repeat (first|simp only[↓QA,QB,seval,d7,eq_self,List.map_nil,List.length_nil,show (((0:Nat):Int)==0)=true from rfl]|refine rd0 rfl ?_)))
 refine oV (HE [[2],[3,2]] (by simp)) (by simp[clr,clrs,ints,bR]) (by simp[okV,okVs,ints,bR]) ?_
 (repeat (first|simp only[↓QA,QB,seval,d7]|refine rd0 rfl ?_))
 ((first|refine bM (mQ [0,1] [0,1] (by simp) (by simp)) (by simp[clr,clrs,ints]) (by simp[okV,okVs]) ?_|refine oV (mQ [0,1] [0,1] (by simp) (by simp)) (by simp[clr,clrs,ints]) (by simp[okV,okVs]) ?_);(repeat (first|simp only[↓QA,QB,seval,d7,eq_self,List.map_nil,List.length_nil,show (((0:Nat):Int)==0)=true from rfl]|refine rd0 rfl ?_)))
 ((first|refine bM (mQ [2] [2] (by simp) (by simp)) (by simp[clr,clrs,ints]) (by simp[okV,okVs]) ?_|refine oV (mQ [2] [2] (by simp) (by simp)) (by simp[clr,clrs,ints]) (by simp[okV,okVs]) ?_);(repeat (first|simp only[↓QA,QB,seval,d7,eq_self]|refine rd0 rfl ?_)))
 ((first|refine bM (mQ [1] [1] (by simp) (by simp)) (by simp[clr,clrs,ints]) (by simp[okV,okVs]) ?_|refine oV (mQ [1] [1] (by simp) (by simp)) (by simp[clr,clrs,ints]) (by simp[okV,okVs]) ?_);(repeat (first|simp only[↓QA,QB,seval,d7,eq_self]|refine rd0 rfl ?_)))
end Go.Am.Room.Tr
namespace Go.Am.Room.Ca
def dZ:=zz @dK (zz @aM (zz @d8 (zz @Tr.encNet_eq (zz @Tr.netCells_eq (zz @Tr.encRail_eq (zz @Tr.encTram_eq (zz @Tr.encSeen_eq (zz @Tr.S_mapRail (zz @Tr.S_mapTram (zz @Tr.S_mapSeen (zz @Tr.S_mapState (zz @Tr.encState_eq (zz @Tr.statesAV_eq (zz @aG (zz @dJ (zz @bN (zz @List.length_append.{0} (@Int.toNat_natCast))))))))))))))))))
theorem GM{p:Port}(hf:Fits p)(hv:Vd p){l:List Fm}{n:Nat}(hn:n<=p.farms.length)(hl:l.map Fm.name=(p.farms.take n).map Fm.name):Fits (eP p l):=by
 have hnf:=hv.nfm;have hll:l.length=n:=by
  have:=congrArg List.length hl;simpa[Nat.min_eq_left hn] using this
 refine⟨by show l.length<_;omega,fun x hx=>?_⟩;have h1:x.name∈l.map Fm.name:=List.mem_map.2 ⟨x,hx,rfl⟩;rw[hl] at h1;obtain⟨y,hy,e⟩:=List.mem_map.1 h1;rw[<-e];exact hf.names y (List.mem_of_mem_take hy)
set_option maxHeartbeats 8000000 in
theorem OY(n:Tr.Net)(p:Port)(x:Nat)(hf:Tr.Fits n)(hg:Fits p)(hx:x<65536)(hc:(Tr.check n).2.2=0)(hd:(check p).2.2=0)(hl:n.trams.length<=p.farms.length)(hne:Tr.truths n []≠[])(hgd:Fa.allGood n n.trams.length=true):
  cP T 7 [Tr.encNet n,encPort p,.int .u16 x] (.bool true):=by
 have hv:=vd_of_check hd;have hw:=Tr.vd_of_check hc;have hnt:=hw.ntr;have hcm:=Fa.come_ok n hf hnt;rw[Fa.comeAV,if_pos hgd] at hcm;have htn:=Tr.rtruths_ok n hw [] (by simp);have hrc:=Tr.refcheck_ok n hf;have hpc:=refcheck_ok p hg;have g1:((Tr.check n).2.2==0)=true:=by rw[hc];rfl
 have g2:((check p).2.2==0)=true:=by rw[hd];rfl
 have g3:decide ((p.farms.length:Int)<(n.trams.length:Int))=false:=by simp;omega
 have hsn:Tr.someV n=true:=Tr.some_iff.2 ⟨hc,hne⟩;have hctr:=fun (t:Nat) (ht:t<n.trams.length)=>Tr.comes_tr (v:=n) hsn (t:=t) ht
 have hso:=fun s hs=>Tr.truth_ok (v:=n) hw (bl:=[]) (s:=s) hs
 obtain⟨ms,hms⟩:∃ ms,Fa.minTo n n.trams.length=ms:=⟨_,rfl⟩;have hml:ms.length=n.trams.length:=by rw[<-hms];exact Fa.minTo_len _ _
 obtain⟨ts,hts⟩:∃ ts,Tr.truths n []=ts:=⟨_,rfl⟩;rw[hts] at hne htn;simp only[hts] at hctr hso;have g4:((ts.length:Int)==0)=false:=beq_eq_false_iff_ne.2 (by have:=List.length_pos_iff.2 hne;omega);have hmi:∀ (t:Nat) (h:t<ms.length),ms[t]=(Tr.comesS (Tr.atsIn n ts t)).1/\(Tr.comesS (Tr.atsIn n ts t)).2=1/\0<=ms[t].lo/\ms[t].lo<=ms[t].hi/\ms[t].hi<=300:=by
  intro t h;have h1:=hctr t (by omega);have h2:ms[t]=(Tr.comesR n (t:Int)).1:=by simp[<-hms,Fa.minTo]
  have h3:Fa.goodS (Tr.comesR n (t:Int))=true:=by
   rw[Fa.allGood,List.all_eq_true] at hgd;exact hgd t (List.mem_range.2 (by omega))
  rw[h1] at h2 h3;simp only[Fa.goodS,inR,Bool.and_eq_true,decide_eq_true_eq,beq_iff_eq] at h3;refine⟨h2,h3.1.1.2,?_⟩;rw[h2];dsimp only at h3 ⊢;omega
 have hlen:0<ts.length:=List.length_pos_iff.2 hne;have hwx:IntKind.i64.wrap (x:Int)=x:=cC ⟨by omega,by omega⟩;have htz:((ts.length:Nat):Int)≠0:=by omega
 obtain⟨m,hm,hml2⟩:=Fa.nat_rem (a:=(x:Int)) (by omega) hlen;have hsm:=List.getElem_mem hml2;have hso1:=hso _ hsm;obtain⟨s,hse⟩:∃ s,ts[m]=s:=⟨_,rfl⟩;rw[hse] at hsm hso1;have hrun:=Tr.rrun_own n hw s hso1;have hcl:(Tr.comesOf n s).length=n.trams.length:=Tr.run_len _ _ _ _;have hat:∀ t:Nat,Tr.comeAt (Tr.comesOf n s) (t:Int)∈Tr.atsIn n ts t:=fun t=>List.mem_map.2 ⟨s,hsm,rfl⟩
 obtain⟨C,hC⟩:∃ C,Tr.comesOf n s=C:=⟨_,rfl⟩;rw[hC] at hrun hcl;simp only[hC] at hat
 have hin:∀ t (h:t<ms.length) (h2:t<C.length),ms[t].lo<=C[t]/\C[t]<=ms[t].hi:=by
  intro u hu hul;have hum:=hmi u hu;have hcu:Tr.comeAt C (u:Int)=C[u]:=by rw[Tr.comeAt,Int.toNat_natCast,List.getElem?_eq_getElem hul,Option.getD_some]
  have hau:=hat u;rw[hcu] at hau;have hcn:=(Tr.how_must (List.ne_nil_of_mem hau)).1 hum.2.1 _ hau;have hcs:=Tr.comes_span hau hcn;rw[<-hum.1] at hcs;exact hcs
 have hmb:∀ t (h:t<ms.length),0<=ms[t].lo/\ms[t].lo<=ms[t].hi/\ms[t].hi<=300:=fun t h=>(hmi t h).2.2
 have hmp:ms.length<=p.farms.length:=by omega
 have hCm:C.length=ms.length:=by omega
 have hloop:=OU (.cells (Tr.netCells n)) p hv ms C hmp hCm hmb hin;have hwl:(kX ms).length=ms.length:=by simp[kX]
 have hcsl:(rA C).length=C.length:=by simp[rA]
 have hwb:∀ i (h:i<(kX ms).length),1<=(kX ms)[i]/\(kX ms)[i]<=4:=fun i h=>by
  have h2:=hmb i (by omega);have e:(kX ms)[i]=Fa.daysAt (ms[i]'(by omega)).hi:=by simp[kX]
  rw[e];simp only[Fa.daysAt];omega
 have hcb:∀ i (h:i<(kX ms).length) (h2:i<(rA C).length),1<=(rA C)[i]/\(rA C)[i]<=(kX ms)[i]:=fun i h h2=>by
  have h3:=hmb i (by omega);have h4:=hin i (by omega) (by omega);have e:(kX ms)[i]=Fa.daysAt (ms[i]'(by omega)).hi:=by simp[kX]
  have e2:(rA C)[i]=Fa.daysAt (C[i]'(by omega)):=by simp[rA]
  rw[e,e2];simp only[Fa.daysAt];omega
 have hvs:=aF6 hv hmp (Nat.le_of_eq hwl.symm) hwb;have hvn:=aKY hv hmp (Nat.le_of_eq hwl.symm) (show ms.length<=(rA C).length by omega) hwb hcb;have hfs:=GM hg hv hmp (wS (l:=p.farms) (ws:=kX ms) ms.length hmp (Nat.le_of_eq hwl.symm));have hfn:=GM hg hv hmp (z0 (l:=p.farms) (ws:=kX ms) (cs:=rA C) ms.length hmp (Nat.le_of_eq hwl.symm) (by omega));have hlaw:=fun A=>aHG (p:=p) (ws:=kX ms) (cs:=rA C) (n:=ms.length) hv hmp (Nat.le_of_eq hwl.symm) (by omega) hcb A
 have hsl:(eP p (jZ p.farms (kX ms) ms.length)).farms.length=ms.length:=pA _ hmp (Nat.le_of_eq hwl.symm);have hnl:(eP p (nQ p.farms (kX ms) (rA C) ms.length)).farms.length=ms.length:=rH _ hmp (Nat.le_of_eq hwl.symm) (by omega);obtain⟨A,hA⟩:∃ A,jZ p.farms (kX ms) ms.length=A:=⟨_,rfl⟩;obtain⟨B,hB⟩:∃ B,nQ p.farms (kX ms) (rA C) ms.length=B:=⟨_,rfl⟩;rw[hA] at hvs hfs hlaw hsl hloop

 rw[hB] at hvn hfn hnl hloop hlaw

 have hpp:=yB _ hfs hvs;have hbi:=fun w n k (h:pL (eP p A)=some (w,n,k))=>aIS (QN h)
 have hpl:zO (eP p A)=match pL (eP p A) with|none=>([],0,9)|some (w,_,_)=>(w,gM (eP p A) (gF w),0):=rfl
 have hnetOk:∀ m,okVs m (Tr.netCells n):=fun m=>okVs_up _ (aL (aY _ n.stations) (aL (gK Tr.data_rail n.rails) (aL (gK Tr.data_tram n.trams) (aL (gK Tr.data_seen n.seen) aZ)))).1
 refine WI (af:=a7) rfl (by simp[a7]) dd ?_;simp only[a7];refine aAM [_,_,_,_,_,_,_,_,_,_,_] (TR (Tr.netCells n) p A B) (TD (Tr.netCells n) p A B) ?_ (fun e σ h=>TO hnetOk h) ?_
 ·have okz:((0:Int)==0)=true:=rfl;have hlp:=hloop;simp only[FL,JA,aM,List.map_nil,Tr.netCells_eq] at hlp;simp only[T6]
  (repeat (first|simp only[↓QA,QB,seval,dZ,fM]|refine rd0 rfl ?_))
  ((first|refine aC (hrc) rfl dd ?_|refine aS (hrc) rfl dd ?_);(repeat (first|simp only[↓QA,QB,seval,dZ,Tr.enc3]|refine rd0 rfl ?_)))
  ((first|refine aC (hpc) rfl dd ?_|refine aS (hpc) rfl dd ?_);(repeat (first|simp only[↓QA,QB,seval,dZ,enc3,g1,g2,g3]|refine rd0 rfl ?_)))
  refine bM htn (Tr.net_nil1 n) (Tr.net_nil1_ok n) ?_
  (repeat (first|simp only[↓QA,QB,seval,dZ,g4]|refine rd0 rfl ?_))
  ((first|refine aC (hcm) rfl dd ?_|refine aS (hcm) rfl dd ?_);(repeat (first|simp only[↓QA,QB,seval,dZ,hms]|refine rd0 rfl ?_)))
  (repeat (first|simp only[↓QA,QB,seval,dZ,hwx,WS _ _ _ htz,hm,hml2,hse]|refine rd0 rfl ?_))
  ((first|refine aC (Tr.rown_ok n hw) rfl dd ?_|refine aS (Tr.rown_ok n hw) rfl dd ?_);(repeat (first|simp only[↓QA,QB,seval,dZ,hwx,WS _ _ _ htz,hm,hml2,hse]|refine rd0 rfl ?_)))
  ((first|refine aC (hrun) rfl dd ?_|refine aS (hrun) rfl dd ?_);(repeat (first|simp only[↓QA,QB,seval,dZ,hwx,WS _ _ _ htz,hm,hml2,hse]|refine rd0 rfl ?_)))
  refine pH [.cells [.int .i64 0,.int .i64 0,.int .i64 0,.lit [] true none],.cells [.int .i64 0,.int .i64 0,.int .i64 0,.lit [] true none]] rfl ?_
  (repeat (first|simp only[↓QA,QB,seval,dZ]|refine rd0 rfl ?_))
  refine hlp _ _ [] ?_ ?_ ?_ ?_ ?_ ?_ ?_ true true fun e' fl fl2 tk tk2 τ htk htk2 e18 e19=>?_
  ·try simp only[aB,QE,seval,dZ]
  ·try simp only[aB,QE,seval,dZ]
  ·try simp only[aB,QE,seval,dZ]
  ·try simp only[aB,QE,seval,dZ]
  ·try simp only[aB,QE,seval,dZ]
  ·try simp only[aB,QE,seval,dZ]
  ·try simp only[aB,QE,seval,dZ]
  (repeat (first|simp only[↓QA,QB,seval,dZ,e18,e19]|refine rd0 rfl ?_))
  refine⟨?_,?_,fl,fl2,tk,tk2,τ,htk,htk2,?_⟩
  ·try simp only[aB,QE,seval,dZ,e18]
  ·try simp only[aB,QE,seval,dZ,e19]
  ·simp only[FL,JA,aM,Tr.netCells_eq]
 ·rintro e σ ⟨e18,e19,rfl⟩;refine MF (K:=fun j e σ=>OJ _ (.bool true) j e σ) ?_;have hpf:=fun w h=>xW (eP p B) w hfn hvn h
  have hpv:=fun w h=>LN (eP p B) w hfn hvn h
  simp only[dK,aM] at hpp hpf hpv;have okz:((0:Int)==0)=true:=rfl;have a3:=awake_ok;have a4:=Tr.awake_ok
  (repeat (first|simp only[↓QA,QB,seval,dZ,e18,e19]|refine rd0 rfl ?_))
  cases hb:pL (eP p A) with
  |none =>
   rw[hb] at hpl;rw[hpl] at hpp;simp only[FQ] at hpp
   ((first|refine aC (hpp) rfl dd ?_|refine aS (hpp) rfl dd ?_);(repeat (first|simp only[↓QA,QB,seval,dZ,e18,e19,show ((9:Int)==0)=false from rfl,show ((9:Int)==9)=true from rfl]|refine rd0 rfl ?_)))
   refine aC a3 rfl aZ ?_
   (repeat (first|simp only[↓QA,QB,seval,dZ]|refine rd0 rfl ?_))
   refine aC a4 rfl aZ ?_
   (repeat (first|simp only[↓QA,QB,seval,dZ]|refine rd0 rfl ?_))
  |some r =>
   obtain⟨w,q1,q2⟩:=r;obtain⟨hwo,hfo⟩:=hbi w q1 q2 hb;obtain⟨l1,l2⟩:=hlaw (gF w) hfo;have hwn:WOk (eP p B) w:=⟨by rw[hwo.len,hsl,hnl],hwo.bd⟩;have c1:=hpf w hwn;have c2:=hpv w hwn;rw[hb] at hpl;simp only at hpl;rw[hpl] at hpp;rw[l1] at c1;obtain⟨V,hV⟩:∃ V,gM (eP p A) (gF w)=V:=⟨_,rfl⟩;obtain⟨U,hU⟩:∃ U,gM (eP p B) (gF w)=U:=⟨_,rfl⟩;rw[hV] at hpp l2;rw[hU] at c2 l2;have hle:decide (U<=V)=true:=decide_eq_true l2;simp only[FQ] at hpp
   ((first|refine aC (hpp) rfl dd ?_|refine aS (hpp) rfl dd ?_);(repeat (first|simp only[↓QA,QB,seval,dZ,e18,e19,okz]|refine rd0 rfl ?_)))
   ((first|refine aC (c1) rfl dd ?_|refine aS (c1) rfl dd ?_);(repeat (first|simp only[↓QA,QB,seval,dZ,e18,e19,okz]|refine rd0 rfl ?_)))
   ((first|refine aC (c2) rfl dd ?_|refine aS (c2) rfl dd ?_);(repeat (first|simp only[↓QA,QB,seval,dZ,e18,e19,okz,hle,show ((1:Int)==1)=true from rfl]|refine rd0 rfl ?_)))
   refine aC a3 rfl aZ ?_
   (repeat (first|simp only[↓QA,QB,seval,dZ]|refine rd0 rfl ?_))
   refine aC a4 rfl aZ ?_
   (repeat (first|simp only[↓QA,QB,seval,dZ]|refine rd0 rfl ?_))
   done
end Go.Am.Room.Ca
namespace Go.Am.Room.Ca
def dX:=zz @dK (zz @aM (zz @d8 (zz @Tr.encNet_eq (zz @Tr.netCells_eq (zz @Tr.encRail_eq (zz @Tr.encTram_eq (zz @Tr.encSeen_eq (zz @Tr.S_mapRail (zz @Tr.S_mapTram (zz @Tr.S_mapSeen (zz @Tr.S_mapState (zz @Tr.encState_eq (zz @Tr.statesAV_eq (zz @aG (zz @dJ (zz @bN (zz @List.length_append.{0} (@Int.toNat_natCast))))))))))))))))))
set_option maxHeartbeats 4000000 in
theorem toptrams_ok(n:Tr.Net)(p:Port)(x:Nat)(hf:Tr.Fits n)(hg:Fits p)(hx:x<65536):cP T 7 [Tr.encNet n,encPort p,.int .u16 x] (.bool true):=by
 have hrc:=Tr.refcheck_ok n hf;have hpc:=refcheck_ok p hg;have a3:=awake_ok;have a4:=Tr.awake_ok;by_cases hc:(Tr.check n).2.2=0
 ·have g1:((Tr.check n).2.2==0)=true:=by rw[hc];rfl
  by_cases hd:(check p).2.2=0
  ·have g2:((check p).2.2==0)=true:=by rw[hd];rfl
   by_cases hl:n.trams.length<=p.farms.length
   ·have g3:decide ((p.farms.length:Int)<(n.trams.length:Int))=false:=by simp;omega
    have hw:=Tr.vd_of_check hc;have hnt:=hw.ntr;have htn:=Tr.rtruths_ok n hw [] (by simp);by_cases hne:Tr.truths n []=[]
    ·rw[hne] at htn;refine aQ (af:=a7) rfl (by simp[a7]) dd ?_;try simp only[↓QA,QB,seval,dX,a7]
     (refine aC (hrc) rfl dd ?_;try simp only[↓QA,QB,seval,dX,Tr.enc3])
     (refine aC (hpc) rfl dd ?_;try simp only[↓QA,QB,seval,dX,enc3,g1,g2,g3])
     refine bM htn (Tr.net_nil1 n) (Tr.net_nil1_ok n) ?_;try simp only[↓QA,QB,seval,dX,List.length_nil,List.map_nil,show (((0:Nat):Int)==0)=true from rfl]
     refine aC a3 rfl aZ ?_;try simp only[↓QA,QB,seval,dX]
     refine aC a4 rfl aZ ?_;try simp only[↓QA,QB,seval,dX]
    ·cases hgd:Fa.allGood n n.trams.length
     ·have hcm:=Fa.come_ok n hf hnt;rw[Fa.comeAV,if_neg (by rw[hgd];simp)] at hcm;obtain⟨ts,hts⟩:∃ ts,Tr.truths n []=ts:=⟨_,rfl⟩;rw[hts] at hne htn;have g4:((ts.length:Int)==0)=false:=beq_eq_false_iff_ne.2 (by have:=List.length_pos_iff.2 hne;omega);refine aQ (af:=a7) rfl (by simp[a7]) dd ?_;try simp only[↓QA,QB,seval,dX,a7]
      (refine aC (hrc) rfl dd ?_;try simp only[↓QA,QB,seval,dX,Tr.enc3])
      (refine aC (hpc) rfl dd ?_;try simp only[↓QA,QB,seval,dX,enc3,g1,g2,g3])
      refine bM htn (Tr.net_nil1 n) (Tr.net_nil1_ok n) ?_;try simp only[↓QA,QB,seval,dX,g4]
      (refine aC (hcm) rfl dd ?_;try simp only[↓QA,QB,seval,dX])
      refine aC a3 rfl aZ ?_;try simp only[↓QA,QB,seval,dX]
      refine aC a4 rfl aZ ?_;try simp only[↓QA,QB,seval,dX]
     ·exact OY n p x hf hg hx hc hd hl hne hgd
   ·have g3:decide ((p.farms.length:Int)<(n.trams.length:Int))=true:=by simp;omega
    refine aQ (af:=a7) rfl (by simp[a7]) dd ?_;try simp only[↓QA,QB,seval,dX,a7]
    (refine aC (hrc) rfl dd ?_;try simp only[↓QA,QB,seval,dX,Tr.enc3])
    (refine aC (hpc) rfl dd ?_;try simp only[↓QA,QB,seval,dX,enc3,g1,g2,g3])
    refine aC a3 rfl aZ ?_;try simp only[↓QA,QB,seval,dX]
    refine aC a4 rfl aZ ?_;try simp only[↓QA,QB,seval,dX]
  ·have g2:((check p).2.2==0)=false:=by simpa using hd
   refine aQ (af:=a7) rfl (by simp[a7]) dd ?_;try simp only[↓QA,QB,seval,dX,a7]
   (refine aC (hrc) rfl dd ?_;try simp only[↓QA,QB,seval,dX,Tr.enc3])
   (refine aC (hpc) rfl dd ?_;try simp only[↓QA,QB,seval,dX,enc3,g1,g2])
   refine aC a3 rfl aZ ?_;try simp only[↓QA,QB,seval,dX]
   refine aC a4 rfl aZ ?_;try simp only[↓QA,QB,seval,dX]
 ·have g1:((Tr.check n).2.2==0)=false:=by simpa using hc
  refine aQ (af:=a7) rfl (by simp[a7]) dd ?_;try simp only[↓QA,QB,seval,dX,a7]
  (refine aC (hrc) rfl dd ?_;try simp only[↓QA,QB,seval,dX,Tr.enc3])
  (refine aC (hpc) rfl dd ?_;try simp only[↓QA,QB,seval,dX,enc3,g1])
  refine aC a3 rfl aZ ?_;try simp only[↓QA,QB,seval,dX]
  refine aC a4 rfl aZ ?_;try simp only[↓QA,QB,seval,dX]
end Go.Am.Room.Ca
