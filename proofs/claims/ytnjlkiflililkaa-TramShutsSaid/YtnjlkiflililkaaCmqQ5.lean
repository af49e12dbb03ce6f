/- A part of the proofs: an abstract machine, or what functions come to on it. -/
import Derived.Test.YtnjlkiflililkaaCmqQ4
set_option linter.unusedVariables false
set_option linter.unusedSimpArgs false
set_option linter.defProp false
set_option maxRecDepth 4000
namespace Go.Am.Room
def eW:=And.intro @Int.toNat_natCast (@List.length_append.{0})
theorem wY (n:Int):dL T 121 [.int .i64 n] (.bool false):=by
 refine aU (af:=a121) rfl (by simp [a121]) dd ?_
 (repeat (first|simp only [↓QA,QB,Nat.reduceLT,reduceIte,Nat.reduceEqDiff,Nat.reduceAdd,Nat.reduceLeDiff,Nat.reduceMul,Nat.reduceBEq,eW,a121]|refine rd0 rfl ?_))
 try simp
def C6 (a b:Int):Int:=if a<b then -1 else if b<a then 1 else 0
theorem PC (a b:Int):dL T 113 [.int .i64 a,.int .i64 b] (.int .i64 (C6 a b)):=by
 refine aU (af:=a113) rfl (by simp [a113]) dd ?_
 (repeat (first|simp only [↓QA,QB,Nat.reduceLT,reduceIte,Nat.reduceEqDiff,Nat.reduceAdd,Nat.reduceLeDiff,Nat.reduceMul,Nat.reduceBEq,eW,a113]|refine rd0 rfl ?_))
 ((first|refine aD (wY a) rfl dd ?_|refine aE (wY a) rfl dd ?_);(repeat (first|simp only [↓QA,QB,Nat.reduceLT,reduceIte,Nat.reduceEqDiff,Nat.reduceAdd,Nat.reduceLeDiff,Nat.reduceMul,Nat.reduceBEq,eW]|refine rd0 rfl ?_)))
 ((first|refine aD (wY b) rfl dd ?_|refine aE (wY b) rfl dd ?_);(repeat (first|simp only [↓QA,QB,Nat.reduceLT,reduceIte,Nat.reduceEqDiff,Nat.reduceAdd,Nat.reduceLeDiff,Nat.reduceMul,Nat.reduceBEq,eW]|refine rd0 rfl ?_)))
 cases h1:decide (a<b)
 ·have h1':¬a<b:=by simpa using h1
  (repeat (first|simp only [↓QA,QB,Nat.reduceLT,reduceIte,Nat.reduceEqDiff,Nat.reduceAdd,Nat.reduceLeDiff,Nat.reduceMul,Nat.reduceBEq,eW]|refine rd0 rfl ?_))
  cases h2:decide (b<a)
  ·have h2':¬b<a:=by simpa using h2
   (repeat (first|simp only [↓QA,QB,Nat.reduceLT,reduceIte,Nat.reduceEqDiff,Nat.reduceAdd,Nat.reduceLeDiff,Nat.reduceMul,Nat.reduceBEq,eW]|refine rd0 rfl ?_))
   simp [C6,h1',h2']
  ·have h2':b<a:=by simpa using h2
   (repeat (first|simp only [↓QA,QB,Nat.reduceLT,reduceIte,Nat.reduceEqDiff,Nat.reduceAdd,Nat.reduceLeDiff,Nat.reduceMul,Nat.reduceBEq,eW]|refine rd0 rfl ?_))
   simp [C6,h1',h2']
 ·have h1':a<b:=by simpa using h1
  (repeat (first|simp only [↓QA,QB,Nat.reduceLT,reduceIte,Nat.reduceEqDiff,Nat.reduceAdd,Nat.reduceLeDiff,Nat.reduceMul,Nat.reduceBEq,eW]|refine rd0 rfl ?_))
  simp [C6,h1']
def DA:List Int→List Int→Int
 |[],[]=>0
 |[],_::_=>-1
 |_::_,[]=>1
 |a::az,b::bs=>if C6 a b=0 then DA az bs else C6 a b
theorem DJ:∀ a b:List Int,decide (0<DA a b)=less b a
 |[],[]=>rfl
 |[],b::bs=>rfl
 |a::az,[]=>rfl
 |a::az,b::bs=>by
  have ih:=DJ az bs
  simp only [DA,less,C6]
  by_cases h1:a<b
  ·simp [h1,show ¬b=a by omega];omega
  ·by_cases h2:b<a
   ·simp [h1,h2,show ¬b=a by omega]
   ·have:b=a:=by omega
    subst this
    simp [ih]
theorem LP (a b:List Int) (ha:a.length<9223372036854775808) (hb:b.length<9223372036854775808):dL T 91 [ints a,ints b] (.int .i64 (DA a b)):=by
 refine aU (af:=a91) rfl (by simp [a91]) dd ?_
 (repeat (first|simp only [↓QA,QB,Nat.reduceLT,reduceIte,Nat.reduceEqDiff,Nat.reduceAdd,Nat.reduceLeDiff,Nat.reduceMul,Nat.reduceBEq,eW,a91]|refine rd0 rfl ?_))
 refine bT (S:=Nat) 0 (fun k=>k≤a.length∧k≤b.length∧DA (a.drop k) (b.drop k)=DA a b) (fun k=>a.length-k) (fun k=>[(0,ints a),(1,ints b),(9,ints a),(10,.int .i64 a.length),(11,.int .i64 k)]) (fun _=>[]) ⟨by simp,by simp,by simp⟩ rfl ?_ fun k hk=>?_
 ·try simp only [aC,QE,Nat.reduceLT,reduceIte,Nat.reduceEqDiff,Nat.reduceAdd,Nat.reduceLeDiff,Nat.reduceMul,Nat.reduceBEq,eW]
  try simp
 ·obtain ⟨hk,hkb,hq⟩:=hk
  (repeat (first|simp only [↓QA,QB,Nat.reduceLT,reduceIte,Nat.reduceEqDiff,Nat.reduceAdd,Nat.reduceLeDiff,Nat.reduceMul,Nat.reduceBEq,eW,ZC]|refine rd0 rfl ?_))
  refine aG (fun h=>?_) fun h=>?_
  ·have hk1:k<a.length:=by simpa using h
   have hw:=bP hk1 ha
   rw [List.drop_eq_getElem_cons hk1] at hq
   (repeat (first|simp only [↓QA,QB,Nat.reduceLT,reduceIte,Nat.reduceEqDiff,Nat.reduceAdd,Nat.reduceLeDiff,Nat.reduceMul,Nat.reduceBEq,eW,hk1]|refine rd0 rfl ?_))
   refine aG (fun h2=>?_) fun h2=>?_
   ·have hk2:k=b.length:=by simp at h2;omega
    have hd:b.drop k=[]:=by rw [hk2,List.drop_length]
    rw [hd] at hq
    simp only [DA] at hq
    (repeat (first|simp only [↓QA,QB,Nat.reduceLT,reduceIte,Nat.reduceEqDiff,Nat.reduceAdd,Nat.reduceLeDiff,Nat.reduceMul,Nat.reduceBEq,eW,hk1,←hq]|refine rd0 rfl ?_))
   ·have hk2:k<b.length:=by simp at h2;omega
    rw [List.drop_eq_getElem_cons hk2] at hq
    simp only [DA] at hq
    (repeat (first|simp only [↓QA,QB,Nat.reduceLT,reduceIte,Nat.reduceEqDiff,Nat.reduceAdd,Nat.reduceLeDiff,Nat.reduceMul,Nat.reduceBEq,eW,hk1,hk2]|refine rd0 rfl ?_))
    ((first|refine aD (PC a[k] b[k]) rfl dd ?_|refine aE (PC a[k] b[k]) rfl dd ?_);(repeat (first|simp only [↓QA,QB,Nat.reduceLT,reduceIte,Nat.reduceEqDiff,Nat.reduceAdd,Nat.reduceLeDiff,Nat.reduceMul,Nat.reduceBEq,eW,hk1,hk2]|refine rd0 rfl ?_)))
    cases h3:(C6 a[k] b[k]==0)
    ·have h3':C6 a[k] b[k]≠0:=by simpa using h3
     rw [if_neg h3'] at hq
     (repeat (first|simp only [↓QA,QB,Nat.reduceLT,reduceIte,Nat.reduceEqDiff,Nat.reduceAdd,Nat.reduceLeDiff,Nat.reduceMul,Nat.reduceBEq,eW,h3,hk1,hk2,hq]|refine rd0 rfl ?_))
    ·have h3':C6 a[k] b[k]=0:=by simpa using h3
     rw [if_pos h3'] at hq
     (repeat (first|simp only [↓QA,QB,Nat.reduceLT,reduceIte,Nat.reduceEqDiff,Nat.reduceAdd,Nat.reduceLeDiff,Nat.reduceMul,Nat.reduceBEq,eW,h3,hk1,hk2]|refine rd0 rfl ?_))
     refine ⟨k+1,⟨by omega,by omega,hq⟩,by omega,?_⟩
     try simp only [aC,QE,Nat.reduceLT,reduceIte,Nat.reduceEqDiff,Nat.reduceAdd,Nat.reduceLeDiff,Nat.reduceMul,Nat.reduceBEq,eW,hw]
  ·have hk1:k=a.length:=by simp at h;omega
   rw [hk1,List.drop_length] at hq
   (repeat (first|simp only [↓QA,QB,Nat.reduceLT,reduceIte,Nat.reduceEqDiff,Nat.reduceAdd,Nat.reduceLeDiff,Nat.reduceMul,Nat.reduceBEq,eW]|refine rd0 rfl ?_))
   refine aG (fun h2=>?_) fun h2=>?_
   ·have hk2:a.length<b.length:=by simpa using h2
    rw [List.drop_eq_getElem_cons hk2] at hq
    (repeat (first|simp only [↓QA,QB,Nat.reduceLT,reduceIte,Nat.reduceEqDiff,Nat.reduceAdd,Nat.reduceLeDiff,Nat.reduceMul,Nat.reduceBEq,eW,←hq,DA]|refine rd0 rfl ?_))
   ·have hk2:a.length=b.length:=by simp at h2;omega
    rw [hk2,List.drop_length] at hq
    (repeat (first|simp only [↓QA,QB,Nat.reduceLT,reduceIte,Nat.reduceEqDiff,Nat.reduceAdd,Nat.reduceLeDiff,Nat.reduceMul,Nat.reduceBEq,eW,←hq,DA]|refine rd0 rfl ?_))
theorem uH (s n:Nat) (hs:s<9223372036854775808) (hn:n≤60):dL T 85 [.int .i64 s,.int .i64 n] (ints (lst n s)):=by
 refine aU (af:=a85) rfl (by simp [a85]) dd ?_
 (repeat (first|simp only [↓QA,QB,Nat.reduceLT,reduceIte,Nat.reduceEqDiff,Nat.reduceAdd,Nat.reduceLeDiff,Nat.reduceMul,Nat.reduceBEq,eW,a85]|refine rd0 rfl ?_))
 obtain ⟨R,hRR⟩:∃ R,lst n s=R:=⟨_,rfl⟩
 have hRR':[]++(aR ((0:Nat):Int) (n-0)).filter (fun i=>decide (s/2^i.toNat%2=1))=R:=hRR
 rw [hRR]
 refine hH 4 1 [] rfl ?_
 refine bT (S:=Nat×List Int×Bool) (0,[],false) (fun x=>x.1≤n∧x.2.1.length≤x.1∧x.2.1++(aR (x.1:Int) (n-x.1)).filter (fun i=>decide (s/2^i.toNat%2=1))=R) (fun x=>n-x.1)
  (fun x=>[(0,.int .i64 s),(4,.lit (x.2.1.map (.int .i64)) false (some 0)),(6,.int .i64 n),(7,.int .i64 x.1)]) (fun x=>[.tok 1 x.2.1.length x.2.2]) ⟨by simp,by simp,hRR'⟩ rfl ?_ fun x hx=>?_
 ·try simp only [aC,QE,Nat.reduceLT,reduceIte,Nat.reduceEqDiff,Nat.reduceAdd,Nat.reduceLeDiff,Nat.reduceMul,Nat.reduceBEq,eW]
  try simp
 ·obtain ⟨k,acc,ex⟩:=x
  obtain ⟨hk,hal,hacc⟩:=hx
  simp only at hk hal hacc
  (repeat (first|simp only [↓QA,QB,Nat.reduceLT,reduceIte,Nat.reduceEqDiff,Nat.reduceAdd,Nat.reduceLeDiff,Nat.reduceMul,Nat.reduceBEq,eW,YR]|refine rd0 rfl ?_))
  refine aG (fun h=>?_) fun h=>?_
  ·have hk1:k<n:=by simpa using h
   have hw:=bP hk1 (by omega)
   rw [show n-k=(n-(k+1))+1 by omega] at hacc
   simp only [aR,List.filter_cons,Int.toNat_natCast] at hacc
   rw [show ((k:Int)+1)=((k+1:Nat):Int) by omega] at hacc
   have vs:=SF s k (by omega)
   have va:=JU (s/2^k) (Nat.lt_of_le_of_lt (Nat.div_le_self _ _) hs)
   have hbit:(((s/2^k%2:Nat):Int)==1)=decide (s/2^k%2=1):=by
    generalize s/2^k%2=q
    rw [Bool.eq_iff_iff,beq_iff_eq,decide_eq_true_eq];omega
   (repeat (first|simp only [↓QA,QB,Nat.reduceLT,reduceIte,Nat.reduceEqDiff,Nat.reduceAdd,Nat.reduceLeDiff,Nat.reduceMul,Nat.reduceBEq,eW,vs,va,hbit]|refine rd0 rfl ?_))
   cases hb:decide (s/2^k%2=1)
   ·simp only [hb,Bool.false_eq_true,if_false] at hacc
    (repeat (first|simp only [↓QA,QB,Nat.reduceLT,reduceIte,Nat.reduceEqDiff,Nat.reduceAdd,Nat.reduceLeDiff,Nat.reduceMul,Nat.reduceBEq,eW,hw]|refine rd0 rfl ?_))
    refine ⟨(k+1,acc,ex),⟨by simp only;omega,by simp only;omega,by simpa using hacc⟩,by simp only;omega,?_⟩
    try simp only [aC,QE,Nat.reduceLT,reduceIte,Nat.reduceEqDiff,Nat.reduceAdd,Nat.reduceLeDiff,Nat.reduceMul,Nat.reduceBEq,eW,hw,kG]
    try simp [aH]
   ·simp only [hb,if_true] at hacc
    have hap:=fun (τ:St)=>iU (σ:=.tok 1 acc.length ex::τ) (l:=acc) (a:=(k:Int)) (ex:=ex) (t:=0) (by omega) rfl
    (repeat (first|simp only [↓QA,QB,Nat.reduceLT,reduceIte,Nat.reduceEqDiff,Nat.reduceAdd,Nat.reduceLeDiff,Nat.reduceMul,Nat.reduceBEq,eW,hw,hap]|refine rd0 rfl ?_))
    refine ⟨(k+1,acc++[(k:Int)],true),⟨by simp only;omega,by simp only [List.length_append,List.length_cons,List.length_nil];omega,by
     rw [←hacc];simp⟩,by simp only;omega,?_⟩
    try simp only [aC,QE,Nat.reduceLT,reduceIte,Nat.reduceEqDiff,Nat.reduceAdd,Nat.reduceLeDiff,Nat.reduceMul,Nat.reduceBEq,eW,hw,kG,List.map_append,List.map_cons,List.map_nil]
    try simp [aH]
  ·have hk1:k=n:=by simp at h;omega
   rw [hk1] at hacc
   simp only [Nat.sub_self,aR,List.filter_nil,List.append_nil] at hacc
   (repeat (first|simp only [↓QA,QB,Nat.reduceLT,reduceIte,Nat.reduceEqDiff,Nat.reduceAdd,Nat.reduceLeDiff,Nat.reduceMul,Nat.reduceBEq,eW,hacc,ints]|refine rd0 rfl ?_))
end Go.Am.Room
set_option maxRecDepth 4000
namespace Go.Am.Room
def dH:=And.intro @bK (And.intro @aK (And.intro @aZ (And.intro @aX (And.intro @aY (And.intro @aT (And.intro @bI (And.intro @bF (And.intro @bE (And.intro @dP (And.intro @dA (@Nat.not_lt_zero)))))))))))
theorem S4 (r:Rail) (s:Int):dL T 102 [eH r,.int .i64 s] (.int .i64 (dE r s)):=by
 refine aU (af:=a102) rfl (by simp [a102]) dd ?_
 (repeat (first|simp only [↓QA,QB,Nat.reduceLT,reduceIte,Nat.reduceEqDiff,Nat.reduceAdd,Nat.reduceLeDiff,Nat.reduceMul,Nat.reduceBEq,dH,a102]|refine rd0 rfl ?_))
 cases h1:(s==r.a)
 ·have h1':s≠r.a:=by simpa using h1
  (repeat (first|simp only [↓QA,QB,Nat.reduceLT,reduceIte,Nat.reduceEqDiff,Nat.reduceAdd,Nat.reduceLeDiff,Nat.reduceMul,Nat.reduceBEq,dH,h1]|refine rd0 rfl ?_))
  cases h2:(s==r.b)
  ·have h2':s≠r.b:=by simpa using h2
   (repeat (first|simp only [↓QA,QB,Nat.reduceLT,reduceIte,Nat.reduceEqDiff,Nat.reduceAdd,Nat.reduceLeDiff,Nat.reduceMul,Nat.reduceBEq,dH,h2]|refine rd0 rfl ?_))
   simp [dE,h1',h2']
  ·have h2':s=r.b:=by simpa using h2
   (repeat (first|simp only [↓QA,QB,Nat.reduceLT,reduceIte,Nat.reduceEqDiff,Nat.reduceAdd,Nat.reduceLeDiff,Nat.reduceMul,Nat.reduceBEq,dH,h2]|refine rd0 rfl ?_))
   simp only [dE,if_neg h1',if_pos h2']
 ·have h1':s=r.a:=by simpa using h1
  (repeat (first|simp only [↓QA,QB,Nat.reduceLT,reduceIte,Nat.reduceEqDiff,Nat.reduceAdd,Nat.reduceLeDiff,Nat.reduceMul,Nat.reduceBEq,dH,h1]|refine rd0 rfl ?_))
  simp only [dE,if_pos h1']
structure MetIs (b:Nat) (met:List Int):Prop where
 lt:b<2^6
 bit:∀ i:Nat,i<6→b.testBit i=met.contains (i:Int)
theorem KZ {b:Nat} {met:List Int} (h:MetIs b met) {x:Nat} (hx:x<6):MetIs (b|||2^x) (met++[(x:Int)]):=by
 refine ⟨Nat.or_lt_two_pow h.lt (Nat.pow_lt_pow_right (by omega) hx),fun i hi=>?_⟩
 rw [Nat.testBit_or,h.bit i hi,Nat.testBit_two_pow,Bool.eq_iff_iff]
 simp
 rw [or_congr_right]
 omega
theorem WX {x:Nat} (hx:x<6):MetIs (2^x) [(x:Int)]:=by
 have:=KZ (b:=0) (met:=[]) ⟨by simp,fun i _=>by simp⟩ hx
 simpa using this
theorem V0 {b:Nat} {met:List Int} (h:MetIs b met) {i:Nat} (hi:i<6):(((b/2^i%2:Nat):Int)==0) = !met.contains (i:Int):=by
 have e:(((b/2^i%2:Nat):Int)==0) = !b.testBit i:=by
  rw [xA,FP,Bool.eq_iff_iff]
  simp
 rw [e,h.bit i hi]
theorem UP {v:Net} {r:Rail} (h:RailOk v r) (s:Int):-1≤dE r s∧dE r s<v.stations:=by
 have h1:=h.a
 have h2:=h.b
 unfold dE
 split
 ·omega
 ·split<;>omega
theorem N6 {v:Net} {p:List Int} {k:Nat} (hk:k<p.length) (s:Int) (met:List Int):gB v (p.drop k) s met=if s=0∨dE (eF v p[k]) s<0∨met.contains (dE (eF v p[k]) s)=true then none else gB v (p.drop (k+1)) (dE (eF v p[k]) s) (met++[dE (eF v p[k]) s]):=by
 rw [List.drop_eq_getElem_cons hk,gB]
def whB (o:Option Int) (p:List Int):Bool:=match o with|some o=>o==0&&!p.isEmpty|none=>false
def bgB (o:Option Int):Bool:=match o with|some o=>!(o==0)|none=>false
theorem DR (v:Net) (hst:2≤v.stations∧v.stations≤5) (hra:∀ r∈v.rails,RailOk v r) (s:Nat) (hs:s<5) (p:List Int) (hp:∀ r∈p,0≤r∧r<v.rails.length) (hl:p.length<9223372036854775808) :
  dL T 71 [bM v,.int .i64 s,ints p] (.tuple [.bool (jG v s p),.bool (fE v s p)]):=by
 refine aU (af:=a71) rfl (by simp [a71]) dd ?_
 obtain ⟨R,hR⟩:∃ R,gB v p s [(s:Int)]=R:=⟨_,rfl⟩
 have hwb:jG v s p=whB R p:=by rw [←hR];rfl
 have hbb:fE v s p=bgB R:=by rw [←hR];rfl
 rw [hwb,hbb]
 have hsh:=vU s (by omega)
 (repeat (first|simp only [↓QA,QB,Nat.reduceLT,reduceIte,Nat.reduceEqDiff,Nat.reduceAdd,Nat.reduceLeDiff,Nat.reduceMul,Nat.reduceBEq,dH,a71,hsh]|refine rd0 rfl ?_))
 refine bT (S:=Nat×Nat×Nat×List Int) (0,s,2^s,[(s:Int)]) (fun a=>a.1≤p.length∧a.2.1<5∧MetIs a.2.2.1 a.2.2.2∧gB v (p.drop a.1) (a.2.1:Int) a.2.2.2=R) (fun a=>p.length-a.1)
  (fun a=>[(1,.int .i64 (a.2.1:Nat)),(2,ints p),(3,.ptr 0 0),(8,.int .i64 (a.2.2.1:Nat)),(13,ints p),(14,.int .i64 p.length),(15,.int .i64 a.1)]) (fun a=>[.cells (aB v)]) ⟨Nat.zero_le _,hs,WX (by omega),by simpa using hR⟩ (by simp [aB,ints]) ?_ fun a ha=>?_
 ·try simp only [aC,QE,Nat.reduceLT,reduceIte,Nat.reduceEqDiff,Nat.reduceAdd,Nat.reduceLeDiff,Nat.reduceMul,Nat.reduceBEq,dH,ints]
  try simp
 ·obtain ⟨k,c,b,met⟩:=a
  obtain ⟨hk,hc,hm,hq⟩:=ha
  simp only at hk hc hm hq
  (repeat (first|simp only [↓QA,QB,Nat.reduceLT,reduceIte,Nat.reduceEqDiff,Nat.reduceAdd,Nat.reduceLeDiff,Nat.reduceMul,Nat.reduceBEq,dH,ZF]|refine rd0 rfl ?_))
  refine aG (fun h=>?_) fun h=>?_
  ·have hk1:k<p.length:=by simpa using h
   have hw:=bP hk1 hl
   rw [N6 hk1] at hq
   have hpk:=hp _ (List.getElem_mem hk1)
   obtain ⟨r,hr⟩:∃ r:Nat,p[k]=(r:Int):=⟨p[k].toNat,by omega⟩
   rw [hr] at hpk hq
   have hr1:r<v.rails.length:=by omega
   rw [wL hr1] at hq
   have hro:=hra _ (List.getElem_mem hr1)
   obtain ⟨z,hz⟩:∃ z,v.rails[r]=z:=⟨_,rfl⟩
   rw [hz] at hq hro
   have hov:=S4 z c
   have hoi:=UP hro (c:Int)
   obtain ⟨o,ho⟩:∃ o,dE z (c:Int)=o:=⟨_,rfl⟩
   rw [ho] at hq hov hoi
   have hc0:((c:Int)==0)=decide (c=0):=FP c
   (repeat (first|simp only [↓QA,QB,Nat.reduceLT,reduceIte,Nat.reduceEqDiff,Nat.reduceAdd,Nat.reduceLeDiff,Nat.reduceMul,Nat.reduceBEq,dH,hk1,hr]|refine rd0 rfl ?_))
   cases q1:((c:Int)==0)
   ·have q1':¬(c:Int)=0:=by simpa using q1
    (repeat (first|simp only [↓QA,QB,Nat.reduceLT,reduceIte,Nat.reduceEqDiff,Nat.reduceAdd,Nat.reduceLeDiff,Nat.reduceMul,Nat.reduceBEq,dH,hr1,hz]|refine rd0 rfl ?_))
    ((first|refine aD (hov) rfl dd ?_|refine aE (hov) rfl dd ?_);(repeat (first|simp only [↓QA,QB,Nat.reduceLT,reduceIte,Nat.reduceEqDiff,Nat.reduceAdd,Nat.reduceLeDiff,Nat.reduceMul,Nat.reduceBEq,dH,hr1,hz]|refine rd0 rfl ?_)))
    cases q2:decide ((0:Int)≤o)
    ·have q2':¬0≤o:=by simpa using q2
     rw [if_pos (.inr (.inl (by omega)))] at hq
     (repeat (first|simp only [↓QA,QB,Nat.reduceLT,reduceIte,Nat.reduceEqDiff,Nat.reduceAdd,Nat.reduceLeDiff,Nat.reduceMul,Nat.reduceBEq,dH,q2]|refine rd0 rfl ?_))
     rw [←hq]
     try rfl
    ·have q2':0≤o:=by simpa using q2
     obtain ⟨O,rfl⟩:∃ O:Nat,o=(O:Int):=⟨o.toNat,by omega⟩
     have hO:O<5:=by omega
     have hb:=hm.lt
     have vs:=SF b O (by omega)
     have va:=JU (b/2^O) (Nat.lt_of_le_of_lt (Nat.div_le_self _ _) (by omega))
     have vb:=V0 hm (show O<6 by omega)
     have hsh:=vU O (by omega)
     have hp2:=kX (show O≤60 by omega)
     have hor:=aAN b (2^O) (by omega) (by omega)
     cases q3:met.contains (O:Int)
     ·rw [q3] at vb
      rw [if_neg (by rw [not_or,not_or];exact ⟨q1',by omega,by rw [q3];simp⟩)] at hq
      (repeat (first|simp only [↓QA,QB,Nat.reduceLT,reduceIte,Nat.reduceEqDiff,Nat.reduceAdd,Nat.reduceLeDiff,Nat.reduceMul,Nat.reduceBEq,dH,q2,vs,va,vb,hsh,hor,hw]|refine rd0 rfl ?_))
      refine ⟨(k+1,O,b|||2^O,met++[(O:Int)]),⟨by simp only;omega,hO,KZ hm (by omega),hq⟩,by simp only;omega,?_⟩
      try simp only [aC,QE,Nat.reduceLT,reduceIte,Nat.reduceEqDiff,Nat.reduceAdd,Nat.reduceLeDiff,Nat.reduceMul,Nat.reduceBEq,dH,hw,ints]
      try simp [aH]
     ·rw [q3] at vb
      rw [if_pos (.inr (.inr q3))] at hq
      (repeat (first|simp only [↓QA,QB,Nat.reduceLT,reduceIte,Nat.reduceEqDiff,Nat.reduceAdd,Nat.reduceLeDiff,Nat.reduceMul,Nat.reduceBEq,dH,q2,vs,va,vb]|refine rd0 rfl ?_))
      rw [←hq]
      try rfl
   ·have q1':(c:Int)=0:=by simpa using q1
    rw [if_pos (.inl q1')] at hq
    (repeat (first|simp only [↓QA,QB,Nat.reduceLT,reduceIte,Nat.reduceEqDiff,Nat.reduceAdd,Nat.reduceLeDiff,Nat.reduceMul,Nat.reduceBEq,dH]|refine rd0 rfl ?_))
    rw [←hq]
    try rfl
  ·have hk1:k=p.length:=by
    have:¬k<p.length:=by simpa using h
    omega
   rw [hk1,List.drop_length,gB] at hq
   have hle:decide ((0:Int)<(p.length:Int)) = !p.isEmpty:=by cases p<;>simp
   cases q1:((c:Int)==0)
   ·(repeat (first|simp only [↓QA,QB,Nat.reduceLT,reduceIte,Nat.reduceEqDiff,Nat.reduceAdd,Nat.reduceLeDiff,Nat.reduceMul,Nat.reduceBEq,dH,q1]|refine rd0 rfl ?_))
    rw [←hq]
    simp only [whB,bgB,q1]
    try rfl
   ·(repeat (first|simp only [↓QA,QB,Nat.reduceLT,reduceIte,Nat.reduceEqDiff,Nat.reduceAdd,Nat.reduceLeDiff,Nat.reduceMul,Nat.reduceBEq,dH,q1,hle]|refine rd0 rfl ?_))
    rw [←hq]
    simp only [whB,bgB,q1]
    try rfl
theorem TA (σ:St) (f:AV) (l:List Tram) (p:Tram→Bool) (hl:l.length<9223372036854775808) (hk:u4 σ f) (h:∀ x∈l,j9 T f [dC x] σ (.bool (p x))):j9 T (.func 101 [] []) [.lit (l.map dC) false none,f] σ (.int .i64 (o0 p l 0)):=by
 refine eX (af:=a101) rfl (by simp [a101]) ?_
 have hk0:=hk.nil
 (repeat (first|simp only [↓QA,QB,Nat.reduceLT,reduceIte,Nat.reduceEqDiff,Nat.reduceAdd,Nat.reduceLeDiff,Nat.reduceMul,Nat.reduceBEq,dH,a101]|refine rd0 rfl ?_))
 refine bT (S:=Nat) 0 (fun k=>k≤l.length∧o0 p (l.drop k) k=o0 p l 0) (fun k=>l.length-k) (fun k=>[(0,.lit (l.map dC) false none),(1,f),(7,.int .i64 l.length),(8,.int .i64 k)]) (fun _=>σ) ⟨Nat.zero_le _,by simp⟩ rfl ?_ fun k hk1=>?_
 ·try simp only [aC,QE,Nat.reduceLT,reduceIte,Nat.reduceEqDiff,Nat.reduceAdd,Nat.reduceLeDiff,Nat.reduceMul,Nat.reduceBEq,dH]
  try simp
 ·obtain ⟨hkl,hi⟩:=hk1
  (repeat (first|simp only [↓QA,QB,Nat.reduceLT,reduceIte,Nat.reduceEqDiff,Nat.reduceAdd,Nat.reduceLeDiff,Nat.reduceMul,Nat.reduceBEq,dH,P8]|refine rd0 rfl ?_))
  refine aG (fun hd=>?_) fun hd=>?_
  ·have hlt:k<l.length:=by simpa using hd
   rw [List.drop_eq_getElem_cons hlt] at hi
   simp only [o0] at hi
   have hw:=bP hlt hl
   (repeat (first|simp only [↓QA,QB,Nat.reduceLT,reduceIte,Nat.reduceEqDiff,Nat.reduceAdd,Nat.reduceLeDiff,Nat.reduceMul,Nat.reduceBEq,dH,hlt]|refine rd0 rfl ?_))
   refine cM (h l[k] (List.getElem_mem hlt)) ?_
   (repeat (first|simp only [↓QA,QB,Nat.reduceLT,reduceIte,Nat.reduceEqDiff,Nat.reduceAdd,Nat.reduceLeDiff,Nat.reduceMul,Nat.reduceBEq,dH]|refine rd0 rfl ?_))
   cases hp:p l[k]
   ·(repeat (first|simp only [↓QA,QB,Nat.reduceLT,reduceIte,Nat.reduceEqDiff,Nat.reduceAdd,Nat.reduceLeDiff,Nat.reduceMul,Nat.reduceBEq,dH,hw]|refine rd0 rfl ?_))
    refine ⟨k+1,⟨by omega,by rw [←hi,hp];rfl⟩,by omega,?_⟩
    try simp only [aC,QE,Nat.reduceLT,reduceIte,Nat.reduceEqDiff,Nat.reduceAdd,Nat.reduceLeDiff,Nat.reduceMul,Nat.reduceBEq,dH,hw,hk0,Nat.le_refl,bF]
   ·(repeat (first|simp only [↓QA,QB,Nat.reduceLT,reduceIte,Nat.reduceEqDiff,Nat.reduceAdd,Nat.reduceLeDiff,Nat.reduceMul,Nat.reduceBEq,dH]|refine rd0 rfl ?_))
    refine fQ [] (by first|rfl|simp) ?_
    rw [←hi,hp]
    try simp only [QS,QC,Nat.reduceLT,reduceIte,Nat.reduceEqDiff,Nat.reduceAdd,Nat.reduceLeDiff,Nat.reduceMul,Nat.reduceBEq,dH]
  ·have hlt:k=l.length:=by simp at hd;omega
   (repeat (first|simp only [↓QA,QB,Nat.reduceLT,reduceIte,Nat.reduceEqDiff,Nat.reduceAdd,Nat.reduceLeDiff,Nat.reduceMul,Nat.reduceBEq,dH]|refine rd0 rfl ?_))
   refine fQ [] (by first|rfl|simp) ?_
   rw [←hi,hlt,List.drop_length]
   try simp only [QS,QC,Nat.reduceLT,reduceIte,Nat.reduceEqDiff,Nat.reduceAdd,Nat.reduceLeDiff,Nat.reduceMul,Nat.reduceBEq,dH,o0]
theorem HH (σ:St) (f:AV) (l:List Tram) (p:Tram→Bool) (hl:l.length<9223372036854775808) (hk:u4 σ f) (h:∀ x∈l,j9 T f [dC x] σ (.bool (p x))):j9 T (.func 69 [] []) [.lit (l.map dC) false none,f] σ (.bool (l.any p)):=by
 refine eX (af:=a69) rfl (by simp [a69]) ?_
 (repeat (first|simp only [↓QA,QB,Nat.reduceLT,reduceIte,Nat.reduceEqDiff,Nat.reduceAdd,Nat.reduceLeDiff,Nat.reduceMul,Nat.reduceBEq,dH,a69]|refine rd0 rfl ?_))
 refine cM (TA σ f l p hl hk h) ?_
 (repeat (first|simp only [↓QA,QB,Nat.reduceLT,reduceIte,Nat.reduceEqDiff,Nat.reduceAdd,Nat.reduceLeDiff,Nat.reduceMul,Nat.reduceBEq,dH]|refine rd0 rfl ?_))
 refine fQ [] (by first|rfl|simp) ?_
 rw [←xV p l 0]
 try simp only [QS,QC,Nat.reduceLT,reduceIte,Nat.reduceEqDiff,Nat.reduceAdd,Nat.reduceLeDiff,Nat.reduceMul,Nat.reduceBEq,dH]
end Go.Am.Room
set_option maxRecDepth 4000
namespace Go.Am.Room
def aI:=And.intro @bK (And.intro @aK (And.intro @aZ (And.intro @aX (And.intro @aY (And.intro @aT (And.intro @bI (And.intro @bF (And.intro @bE (And.intro @dP (And.intro @dA (@Nat.not_lt_zero)))))))))))
def oM {α:Type} (of:Nat→α→Int) (l:List α):Int×Int:=match cF of l 0 with|some (i,e)=>(i,e)|none=>(0,0)
theorem F5 (σ:St) (f:AV) (l:List Rail) (of:Nat→Rail→Int) (hl:l.length<9223372036854775808) (hk:u4 σ f)
  (h:∀ i (hi:i<l.length),j9 T f [.int .i64 i,eH l[i]] (σ++[.cells (eH l[i]).cells]) (.int .i64 (of i l[i]))):j9 T (.func 64 [] []) [.lit (l.map eH) false none,f] σ (vO (oM of l)):=by
 refine eX (af:=a64) rfl (by simp [a64]) ?_
 have hk0:=hk.nil
 have hk2:∀ τ,cX (σ++τ) σ.length 20 f=some f:=hk
 (repeat (first|simp only [↓QA,QB,Nat.reduceLT,reduceIte,Nat.reduceEqDiff,Nat.reduceAdd,Nat.reduceLeDiff,Nat.reduceMul,Nat.reduceBEq,aI,a64]|refine rd0 rfl ?_))
 refine bT (S:=Nat) 0 (fun k=>k≤l.length∧cF of (l.drop k) k=cF of l 0) (fun k=>l.length-k) (fun k=>[(1,f),(9,.lit (l.map eH) false none),(10,.int .i64 l.length),(11,.int .i64 k)]) (fun _=>σ) ⟨Nat.zero_le _,by simp⟩ rfl ?_ fun k hk1=>?_
 ·try simp only [aC,QE,Nat.reduceLT,reduceIte,Nat.reduceEqDiff,Nat.reduceAdd,Nat.reduceLeDiff,Nat.reduceMul,Nat.reduceBEq,aI]
  try simp
 ·obtain ⟨hkl,hi⟩:=hk1
  (repeat (first|simp only [↓QA,QB,Nat.reduceLT,reduceIte,Nat.reduceEqDiff,Nat.reduceAdd,Nat.reduceLeDiff,Nat.reduceMul,Nat.reduceBEq,aI,ZJ]|refine rd0 rfl ?_))
  refine aG (fun hd=>?_) fun hd=>?_
  ·have hlt:k<l.length:=by simpa using hd
   have hs:=h k hlt
   rw [jF hlt] at hi
   have hw:=bP hlt hl
   try simp only [↓QA,QB,Nat.reduceLT,reduceIte,Nat.reduceEqDiff,Nat.reduceAdd,Nat.reduceLeDiff,Nat.reduceMul,Nat.reduceBEq,aI,hlt] at hs
   (repeat (first|simp only [↓QA,QB,Nat.reduceLT,reduceIte,Nat.reduceEqDiff,Nat.reduceAdd,Nat.reduceLeDiff,Nat.reduceMul,Nat.reduceBEq,aI,hlt]|refine rd0 rfl ?_))
   refine cM hs ?_
   (repeat (first|simp only [↓QA,QB,Nat.reduceLT,reduceIte,Nat.reduceEqDiff,Nat.reduceAdd,Nat.reduceLeDiff,Nat.reduceMul,Nat.reduceBEq,aI]|refine rd0 rfl ?_))
   cases hp:(of k l[k]==0)
   ·have hp':of k l[k]≠0:=by simpa using hp
    rw [if_neg hp'] at hi
    (repeat (first|simp only [↓QA,QB,Nat.reduceLT,reduceIte,Nat.reduceEqDiff,Nat.reduceAdd,Nat.reduceLeDiff,Nat.reduceMul,Nat.reduceBEq,aI,hp]|refine rd0 rfl ?_))
    refine fQ _ rfl ?_
    try simp only [QS,QC,Nat.reduceLT,reduceIte,Nat.reduceEqDiff,Nat.reduceAdd,Nat.reduceLeDiff,Nat.reduceMul,Nat.reduceBEq,aI,vO,oM,←hi,reduceCtorEq]
   ·have hp':of k l[k]=0:=by simpa using hp
    rw [if_pos hp'] at hi
    (repeat (first|simp only [↓QA,QB,Nat.reduceLT,reduceIte,Nat.reduceEqDiff,Nat.reduceAdd,Nat.reduceLeDiff,Nat.reduceMul,Nat.reduceBEq,aI,hp,hw]|refine rd0 rfl ?_))
    refine ⟨k+1,⟨by omega,hi⟩,by omega,?_⟩
    try simp only [aC,QE,Nat.reduceLT,reduceIte,Nat.reduceEqDiff,Nat.reduceAdd,Nat.reduceLeDiff,Nat.reduceMul,Nat.reduceBEq,aI,hw,hk0,hk2,Nat.le_refl,bI]
  ·have hlt:k=l.length:=by simp at hd;omega
   rw [j3 hlt] at hi
   (repeat (first|simp only [↓QA,QB,Nat.reduceLT,reduceIte,Nat.reduceEqDiff,Nat.reduceAdd,Nat.reduceLeDiff,Nat.reduceMul,Nat.reduceBEq,aI]|refine rd0 rfl ?_))
   refine fQ [] (by first|rfl|simp) ?_
   try simp only [QS,QC,Nat.reduceLT,reduceIte,Nat.reduceEqDiff,Nat.reduceAdd,Nat.reduceLeDiff,Nat.reduceMul,Nat.reduceBEq,aI,vO,oM,←hi,reduceCtorEq]
theorem FF (σ:St) (f:AV) (l:List Tram) (of:Nat→Tram→Int) (hl:l.length<9223372036854775808) (hk:u4 σ f)
  (h:∀ i (hi:i<l.length),j9 T f [.int .i64 i,dC l[i]] (σ++[.cells (dC l[i]).cells]) (.int .i64 (of i l[i]))):j9 T (.func 66 [] []) [.lit (l.map dC) false none,f] σ (vO (oM of l)):=by
 refine eX (af:=a66) rfl (by simp [a66]) ?_
 have hk0:=hk.nil
 have hk2:∀ τ,cX (σ++τ) σ.length 20 f=some f:=hk
 (repeat (first|simp only [↓QA,QB,Nat.reduceLT,reduceIte,Nat.reduceEqDiff,Nat.reduceAdd,Nat.reduceLeDiff,Nat.reduceMul,Nat.reduceBEq,aI,a66]|refine rd0 rfl ?_))
 refine bT (S:=Nat) 0 (fun k=>k≤l.length∧cF of (l.drop k) k=cF of l 0) (fun k=>l.length-k) (fun k=>[(1,f),(9,.lit (l.map dC) false none),(10,.int .i64 l.length),(11,.int .i64 k)]) (fun _=>σ) ⟨Nat.zero_le _,by simp⟩ rfl ?_ fun k hk1=>?_
 ·try simp only [aC,QE,Nat.reduceLT,reduceIte,Nat.reduceEqDiff,Nat.reduceAdd,Nat.reduceLeDiff,Nat.reduceMul,Nat.reduceBEq,aI]
  try simp
 ·obtain ⟨hkl,hi⟩:=hk1
  (repeat (first|simp only [↓QA,QB,Nat.reduceLT,reduceIte,Nat.reduceEqDiff,Nat.reduceAdd,Nat.reduceLeDiff,Nat.reduceMul,Nat.reduceBEq,aI,ZZ]|refine rd0 rfl ?_))
  refine aG (fun hd=>?_) fun hd=>?_
  ·have hlt:k<l.length:=by simpa using hd
   have hs:=h k hlt
   rw [jF hlt] at hi
   have hw:=bP hlt hl
   try simp only [↓QA,QB,Nat.reduceLT,reduceIte,Nat.reduceEqDiff,Nat.reduceAdd,Nat.reduceLeDiff,Nat.reduceMul,Nat.reduceBEq,aI,hlt] at hs
   (repeat (first|simp only [↓QA,QB,Nat.reduceLT,reduceIte,Nat.reduceEqDiff,Nat.reduceAdd,Nat.reduceLeDiff,Nat.reduceMul,Nat.reduceBEq,aI,hlt]|refine rd0 rfl ?_))
   refine cM hs ?_
   (repeat (first|simp only [↓QA,QB,Nat.reduceLT,reduceIte,Nat.reduceEqDiff,Nat.reduceAdd,Nat.reduceLeDiff,Nat.reduceMul,Nat.reduceBEq,aI]|refine rd0 rfl ?_))
   cases hp:(of k l[k]==0)
   ·have hp':of k l[k]≠0:=by simpa using hp
    rw [if_neg hp'] at hi
    (repeat (first|simp only [↓QA,QB,Nat.reduceLT,reduceIte,Nat.reduceEqDiff,Nat.reduceAdd,Nat.reduceLeDiff,Nat.reduceMul,Nat.reduceBEq,aI,hp]|refine rd0 rfl ?_))
    refine fQ _ rfl ?_
    try simp only [QS,QC,Nat.reduceLT,reduceIte,Nat.reduceEqDiff,Nat.reduceAdd,Nat.reduceLeDiff,Nat.reduceMul,Nat.reduceBEq,aI,vO,oM,←hi,reduceCtorEq]
   ·have hp':of k l[k]=0:=by simpa using hp
    rw [if_pos hp'] at hi
    (repeat (first|simp only [↓QA,QB,Nat.reduceLT,reduceIte,Nat.reduceEqDiff,Nat.reduceAdd,Nat.reduceLeDiff,Nat.reduceMul,Nat.reduceBEq,aI,hp,hw]|refine rd0 rfl ?_))
    refine ⟨k+1,⟨by omega,hi⟩,by omega,?_⟩
    try simp only [aC,QE,Nat.reduceLT,reduceIte,Nat.reduceEqDiff,Nat.reduceAdd,Nat.reduceLeDiff,Nat.reduceMul,Nat.reduceBEq,aI,hw,hk0,hk2,Nat.le_refl,bF]
  ·have hlt:k=l.length:=by simp at hd;omega
   rw [j3 hlt] at hi
   (repeat (first|simp only [↓QA,QB,Nat.reduceLT,reduceIte,Nat.reduceEqDiff,Nat.reduceAdd,Nat.reduceLeDiff,Nat.reduceMul,Nat.reduceBEq,aI]|refine rd0 rfl ?_))
   refine fQ [] (by first|rfl|simp) ?_
   try simp only [QS,QC,Nat.reduceLT,reduceIte,Nat.reduceEqDiff,Nat.reduceAdd,Nat.reduceLeDiff,Nat.reduceMul,Nat.reduceBEq,aI,vO,oM,←hi,reduceCtorEq]
theorem FG (σ:St) (f:AV) (l:List Seen) (of:Nat→Seen→Int) (hl:l.length<9223372036854775808) (hk:u4 σ f)
  (h:∀ i (hi:i<l.length),j9 T f [.int .i64 i,eU l[i]] (σ++[.cells (eU l[i]).cells]) (.int .i64 (of i l[i]))):j9 T (.func 72 [] []) [.lit (l.map eU) false none,f] σ (vO (oM of l)):=by
 refine eX (af:=a72) rfl (by simp [a72]) ?_
 have hk0:=hk.nil
 have hk2:∀ τ,cX (σ++τ) σ.length 20 f=some f:=hk
 (repeat (first|simp only [↓QA,QB,Nat.reduceLT,reduceIte,Nat.reduceEqDiff,Nat.reduceAdd,Nat.reduceLeDiff,Nat.reduceMul,Nat.reduceBEq,aI,a72]|refine rd0 rfl ?_))
 refine bT (S:=Nat) 0 (fun k=>k≤l.length∧cF of (l.drop k) k=cF of l 0) (fun k=>l.length-k) (fun k=>[(1,f),(9,.lit (l.map eU) false none),(10,.int .i64 l.length),(11,.int .i64 k)]) (fun _=>σ) ⟨Nat.zero_le _,by simp⟩ rfl ?_ fun k hk1=>?_
 ·try simp only [aC,QE,Nat.reduceLT,reduceIte,Nat.reduceEqDiff,Nat.reduceAdd,Nat.reduceLeDiff,Nat.reduceMul,Nat.reduceBEq,aI]
  try simp
 ·obtain ⟨hkl,hi⟩:=hk1
  (repeat (first|simp only [↓QA,QB,Nat.reduceLT,reduceIte,Nat.reduceEqDiff,Nat.reduceAdd,Nat.reduceLeDiff,Nat.reduceMul,Nat.reduceBEq,aI,XX]|refine rd0 rfl ?_))
  refine aG (fun hd=>?_) fun hd=>?_
  ·have hlt:k<l.length:=by simpa using hd
   have hs:=h k hlt
   rw [jF hlt] at hi
   have hw:=bP hlt hl
   try simp only [↓QA,QB,Nat.reduceLT,reduceIte,Nat.reduceEqDiff,Nat.reduceAdd,Nat.reduceLeDiff,Nat.reduceMul,Nat.reduceBEq,aI,hlt] at hs
   (repeat (first|simp only [↓QA,QB,Nat.reduceLT,reduceIte,Nat.reduceEqDiff,Nat.reduceAdd,Nat.reduceLeDiff,Nat.reduceMul,Nat.reduceBEq,aI,hlt]|refine rd0 rfl ?_))
   refine cM hs ?_
   (repeat (first|simp only [↓QA,QB,Nat.reduceLT,reduceIte,Nat.reduceEqDiff,Nat.reduceAdd,Nat.reduceLeDiff,Nat.reduceMul,Nat.reduceBEq,aI]|refine rd0 rfl ?_))
   cases hp:(of k l[k]==0)
   ·have hp':of k l[k]≠0:=by simpa using hp
    rw [if_neg hp'] at hi
    (repeat (first|simp only [↓QA,QB,Nat.reduceLT,reduceIte,Nat.reduceEqDiff,Nat.reduceAdd,Nat.reduceLeDiff,Nat.reduceMul,Nat.reduceBEq,aI,hp]|refine rd0 rfl ?_))
    refine fQ _ rfl ?_
    try simp only [QS,QC,Nat.reduceLT,reduceIte,Nat.reduceEqDiff,Nat.reduceAdd,Nat.reduceLeDiff,Nat.reduceMul,Nat.reduceBEq,aI,vO,oM,←hi,reduceCtorEq]
   ·have hp':of k l[k]=0:=by simpa using hp
    rw [if_pos hp'] at hi
    (repeat (first|simp only [↓QA,QB,Nat.reduceLT,reduceIte,Nat.reduceEqDiff,Nat.reduceAdd,Nat.reduceLeDiff,Nat.reduceMul,Nat.reduceBEq,aI,hp,hw]|refine rd0 rfl ?_))
    refine ⟨k+1,⟨by omega,hi⟩,by omega,?_⟩
    try simp only [aC,QE,Nat.reduceLT,reduceIte,Nat.reduceEqDiff,Nat.reduceAdd,Nat.reduceLeDiff,Nat.reduceMul,Nat.reduceBEq,aI,hw,hk0,hk2,Nat.le_refl,bE]
  ·have hlt:k=l.length:=by simp at hd;omega
   rw [j3 hlt] at hi
   (repeat (first|simp only [↓QA,QB,Nat.reduceLT,reduceIte,Nat.reduceEqDiff,Nat.reduceAdd,Nat.reduceLeDiff,Nat.reduceMul,Nat.reduceBEq,aI]|refine rd0 rfl ?_))
   refine fQ [] (by first|rfl|simp) ?_
   try simp only [QS,QC,Nat.reduceLT,reduceIte,Nat.reduceEqDiff,Nat.reduceAdd,Nat.reduceLeDiff,Nat.reduceMul,Nat.reduceBEq,aI,vO,oM,←hi,reduceCtorEq]
theorem HY (s:Span):(o6 s 1 20=7)↔(!inR s.lo 1 20||!inR s.hi 1 20)=true:=by
 unfold o6
 split
 ·rename_i h;simp [h]
 ·rename_i h
  constructor
  ·intro q;split at q<;>omega
  ·intro q;exact absurd q h
theorem WT (v:Net) (W:Int) (hW:∀ s:Int,inR s 0 W=nC v s) (i:Int) (r:Rail) (b:ABlk) (τ:St):j9 T (.func 65 [] [.ptr 1 0]) [.int .i64 i,eH r] (b::.cells [.int .i64 W]::τ) (.int .i64 (dD v r)):=by
 refine eX (af:=a65) rfl (by simp [a65]) ?_
 (repeat (first|simp only [↓QA,QB,Nat.reduceLT,reduceIte,Nat.reduceEqDiff,Nat.reduceAdd,Nat.reduceLeDiff,Nat.reduceMul,Nat.reduceBEq,aI,a65]|refine rd0 rfl ?_))
 ((first|refine eT (cG 0 W [r.a,r.b] (by simp)) (by simp [clr,clrs,ints]) (by simp [okV,okVs]) ?_|refine fH (cG 0 W [r.a,r.b] (by simp)) (by simp [clr,clrs,ints]) (by simp [okV,okVs]) ?_);(repeat (first|simp only [↓QA,QB,Nat.reduceLT,reduceIte,Nat.reduceEqDiff,Nat.reduceAdd,Nat.reduceLeDiff,Nat.reduceMul,Nat.reduceBEq,aI,L9]|refine rd0 rfl ?_)))
 rw [hW,hW]
 cases h1:(!nC v r.a||!nC v r.b)
 ·have h1':¬(nC v r.a=false∨nC v r.b=false):=by
   rintro (h|h)<;>rw [h] at h1<;>simp at h1
  (repeat (first|simp only [↓QA,QB,Nat.reduceLT,reduceIte,Nat.reduceEqDiff,Nat.reduceAdd,Nat.reduceLeDiff,Nat.reduceMul,Nat.reduceBEq,aI]|refine rd0 rfl ?_))
  cases h2:(r.a==r.b)
  ·have h2':r.a≠r.b:=by simpa using h2
   (repeat (first|simp only [↓QA,QB,Nat.reduceLT,reduceIte,Nat.reduceEqDiff,Nat.reduceAdd,Nat.reduceLeDiff,Nat.reduceMul,Nat.reduceBEq,aI,h2]|refine rd0 rfl ?_))
   ((first|refine eT (cG 1 20 [r.mins.lo,r.mins.hi] (by simp)) (by simp [clr,clrs,ints]) (by simp [okV,okVs]) ?_|refine fH (cG 1 20 [r.mins.lo,r.mins.hi] (by simp)) (by simp [clr,clrs,ints]) (by simp [okV,okVs]) ?_);(repeat (first|simp only [↓QA,QB,Nat.reduceLT,reduceIte,Nat.reduceEqDiff,Nat.reduceAdd,Nat.reduceLeDiff,Nat.reduceMul,Nat.reduceBEq,aI,L9]|refine rd0 rfl ?_)))
   cases h3:(!inR r.mins.lo 1 20||!inR r.mins.hi 1 20)
   ·have h3':o6 r.mins 1 20≠7:=fun q=>by rw [HY,h3] at q;cases q
    (repeat (first|simp only [↓QA,QB,Nat.reduceLT,reduceIte,Nat.reduceEqDiff,Nat.reduceAdd,Nat.reduceLeDiff,Nat.reduceMul,Nat.reduceBEq,aI]|refine rd0 rfl ?_))
    ((first|refine eT (cG 0 2 [r.shut] (by simp)) (by simp [clr,clrs,ints]) (by simp [okV,okVs]) ?_|refine fH (cG 0 2 [r.shut] (by simp)) (by simp [clr,clrs,ints]) (by simp [okV,okVs]) ?_);(repeat (first|simp only [↓QA,QB,Nat.reduceLT,reduceIte,Nat.reduceEqDiff,Nat.reduceAdd,Nat.reduceLeDiff,Nat.reduceMul,Nat.reduceBEq,aI,kO]|refine rd0 rfl ?_)))
    cases h4:inR r.shut 0 2
    ·(repeat (first|simp only [↓QA,QB,Nat.reduceLT,reduceIte,Nat.reduceEqDiff,Nat.reduceAdd,Nat.reduceLeDiff,Nat.reduceMul,Nat.reduceBEq,aI]|refine rd0 rfl ?_))
     refine fQ _ rfl ?_
     have:dD v r=7:=by rw [dD,if_neg h1',if_neg h2',if_pos (.inr h4)]
     rw [this]
     try simp only [QS,QC,Nat.reduceLT,reduceIte,Nat.reduceEqDiff,Nat.reduceAdd,Nat.reduceLeDiff,Nat.reduceMul,Nat.reduceBEq,aI]
    ·have hlo:inR r.mins.lo 1 20=true:=by
      cases q:inR r.mins.lo 1 20
      ·rw [q] at h3;simp at h3
      ·rfl
     have hhi:inR r.mins.hi 1 20=true:=by
      cases q:inR r.mins.hi 1 20
      ·rw [q] at h3;simp at h3
      ·rfl
     rw [eS] at hlo hhi
     have hw:IntKind.i64.wrap (r.mins.hi-r.mins.lo)=r.mins.hi-r.mins.lo:=eA ⟨by omega,by omega⟩
     have hen:o6 r.mins 1 20=if r.mins.hi<r.mins.lo then 2 else 0:=by rw [o6,h3];rfl
     simp only [Bool.not_true,jO]
     (repeat (first|simp only [↓QA,QB,Nat.reduceLT,reduceIte,Nat.reduceEqDiff,Nat.reduceAdd,Nat.reduceLeDiff,Nat.reduceMul,Nat.reduceBEq,aI,hw]|refine rd0 rfl ?_))
     ((first|refine eT (cG 0 1 [r.mins.hi-r.mins.lo] (by simp)) (by simp [clr,clrs,ints]) (by simp [okV,okVs]) ?_|refine fH (cG 0 1 [r.mins.hi-r.mins.lo] (by simp)) (by simp [clr,clrs,ints]) (by simp [okV,okVs]) ?_);(repeat (first|simp only [↓QA,QB,Nat.reduceLT,reduceIte,Nat.reduceEqDiff,Nat.reduceAdd,Nat.reduceLeDiff,Nat.reduceMul,Nat.reduceBEq,aI,kO]|refine rd0 rfl ?_)))
     cases h5:inR (r.mins.hi-r.mins.lo) 0 1
     ·have h5':¬(0≤r.mins.hi-r.mins.lo∧r.mins.hi-r.mins.lo≤1):=fun q=>by rw [←eS,h5] at q;cases q
      (repeat (first|simp only [↓QA,QB,Nat.reduceLT,reduceIte,Nat.reduceEqDiff,Nat.reduceAdd,Nat.reduceLeDiff,Nat.reduceMul,Nat.reduceBEq,aI]|refine rd0 rfl ?_))
      refine fQ _ rfl ?_
      have:dD v r=2:=by
       rw [dD,if_neg h1',if_neg h2',if_neg (by rw [not_or];exact ⟨h3',by rw [h4];simp⟩),hen]
       split
       ·rw [if_pos (.inl (by omega))]
       ·rw [if_pos (.inr (by omega))]
      rw [this]
      try simp only [QS,QC,Nat.reduceLT,reduceIte,Nat.reduceEqDiff,Nat.reduceAdd,Nat.reduceLeDiff,Nat.reduceMul,Nat.reduceBEq,aI]
     ·rw [eS] at h5
      (repeat (first|simp only [↓QA,QB,Nat.reduceLT,reduceIte,Nat.reduceEqDiff,Nat.reduceAdd,Nat.reduceLeDiff,Nat.reduceMul,Nat.reduceBEq,aI]|refine rd0 rfl ?_))
      refine fQ _ rfl ?_
      have:dD v r=0:=by
       rw [dD,if_neg h1',if_neg h2',if_neg (by rw [not_or];exact ⟨h3',by rw [h4];simp⟩),hen,if_neg (by omega)]
       try rfl
      rw [this]
      try simp only [QS,QC,Nat.reduceLT,reduceIte,Nat.reduceEqDiff,Nat.reduceAdd,Nat.reduceLeDiff,Nat.reduceMul,Nat.reduceBEq,aI]
   ·have h3':o6 r.mins 1 20=7:=HY _ |>.2 h3
    (repeat (first|simp only [↓QA,QB,Nat.reduceLT,reduceIte,Nat.reduceEqDiff,Nat.reduceAdd,Nat.reduceLeDiff,Nat.reduceMul,Nat.reduceBEq,aI]|refine rd0 rfl ?_))
    refine fQ _ rfl ?_
    have:dD v r=7:=by rw [dD,if_neg h1',if_neg h2',if_pos (.inl h3')]
    rw [this]
    try simp only [QS,QC,Nat.reduceLT,reduceIte,Nat.reduceEqDiff,Nat.reduceAdd,Nat.reduceLeDiff,Nat.reduceMul,Nat.reduceBEq,aI]
  ·have h2':r.a=r.b:=by simpa using h2
   (repeat (first|simp only [↓QA,QB,Nat.reduceLT,reduceIte,Nat.reduceEqDiff,Nat.reduceAdd,Nat.reduceLeDiff,Nat.reduceMul,Nat.reduceBEq,aI,h2]|refine rd0 rfl ?_))
   refine fQ _ rfl ?_
   have:dD v r=2:=by rw [dD,if_neg h1',if_pos h2']
   rw [this]
   try simp only [QS,QC,Nat.reduceLT,reduceIte,Nat.reduceEqDiff,Nat.reduceAdd,Nat.reduceLeDiff,Nat.reduceMul,Nat.reduceBEq,aI]
 ·have h1':nC v r.a=false∨nC v r.b=false:=by
   cases a:nC v r.a
   ·exact .inl rfl
   ·cases b:nC v r.b
    ·exact .inr rfl
    ·rw [a,b] at h1;simp at h1
  (repeat (first|simp only [↓QA,QB,Nat.reduceLT,reduceIte,Nat.reduceEqDiff,Nat.reduceAdd,Nat.reduceLeDiff,Nat.reduceMul,Nat.reduceBEq,aI]|refine rd0 rfl ?_))
  refine fQ _ rfl ?_
  have:dD v r=4:=by rw [dD,if_pos h1']
  rw [this]
  try simp only [QS,QC,Nat.reduceLT,reduceIte,Nat.reduceEqDiff,Nat.reduceAdd,Nat.reduceLeDiff,Nat.reduceMul,Nat.reduceBEq,aI]
theorem QU (s x:Tram) (b0 b1:ABlk) (τ:St):j9 T (.func 70 [] [.ptr (τ.length+2) 0]) [dC x] (b0::b1::(τ++[.cells (dC s).cells])) (.bool (decide (x.name=s.name))):=by
 refine eX (af:=a70) rfl (by simp [a70]) ?_
 (repeat (first|simp only [↓QA,QB,Nat.reduceLT,reduceIte,Nat.reduceEqDiff,Nat.reduceAdd,Nat.reduceLeDiff,Nat.reduceMul,Nat.reduceBEq,aI,a70,FV,List.length_append]|refine rd0 rfl ?_))
 refine fQ [.cells [.str x.name,.int .i64 x.frm,.int .i64 x.leaves,.int .i64 x.due,.lit (x.path.map (.int .i64)) false none]] (by first|rfl|simp) ?_
 try simp only [QS,QC,Nat.reduceLT,reduceIte,Nat.reduceEqDiff,Nat.reduceAdd,Nat.reduceLeDiff,Nat.reduceMul,Nat.reduceBEq,aI]
theorem J4 (lo hi:Int) (l:List Int):pS lo hi l = !l.all (fun r=>inR r lo hi):=by
 rw [pS]
 induction l with
 |nil=>rfl
 |cons x l ih =>
  rw [List.any_cons,List.all_cons,ih,Bool.not_and]
  congr 1
  rw [Bool.eq_iff_iff]
  simp [mX,inR]
  try omega
theorem UQ (v:Net) (h:Fits v) (hst:2≤v.stations∧v.stations≤5) (hra:∀ r∈v.rails,RailOk v r) (i:Nat) (hi:i<v.trams.length) (τ:St):j9 T (.func 67 [] [.ptr 0 0,.ptr 1 0]) [.int .i64 i,dC v.trams[i]] (.cells (aB v)::.cells [.int .i64 (v.stations-1)]::τ) (.int .i64 (kA v i v.trams[i])):=by
 refine eX (af:=a67) rfl (by simp [a67]) ?_
 have hfr:=h.rails
 have hsz:=h.names _ (List.getElem_mem hi)
 have hpz:=h.paths _ (List.getElem_mem hi)
 have hts:(v.trams.take i).length<9223372036854775808:=by have:=h.trams;simp;omega
 obtain ⟨s,hs⟩:∃ s,v.trams[i]=s:=⟨_,rfl⟩
 have hk:kA v i s=if fresh s.name ((v.trams.take i).map Tram.name)=0 then gP v s else fresh s.name ((v.trams.take i).map Tram.name):=rfl
 rw [hs] at hsz hpz ⊢
 obtain ⟨E,hE⟩:∃ E,kA v i s=E:=⟨_,rfl⟩
 rw [hE] at hk ⊢
 have hwr:IntKind.i64.wrap ((v.rails.length:Int)-1)=(v.rails.length:Int)-1:=eA ⟨by omega,by omega⟩
 have fin:∀ (n:Int) (b:List AV),n=E→CD (some (.int .i64 n)) (.cells (aB v)::.cells [.int .i64 (v.stations-1)]::τ) (.cells (aB v)::.cells [.int .i64 (v.stations-1)]::(τ++[.cells b])) (.int .i64 E):=fun n b hv=>by
  refine fQ [.cells b] (by first|rfl|simp) ?_
  rw [hv]
  try simp only [QS,QC,Nat.reduceLT,reduceIte,Nat.reduceEqDiff,Nat.reduceAdd,Nat.reduceLeDiff,Nat.reduceMul,Nat.reduceBEq,aI]
 simp only [aK] at fin
 (repeat (first|simp only [↓QA,QB,Nat.reduceLT,reduceIte,Nat.reduceEqDiff,Nat.reduceAdd,Nat.reduceLeDiff,Nat.reduceMul,Nat.reduceBEq,aI,a67]|refine rd0 rfl ?_))
 ((first|refine aD (y7 s.name hsz) rfl dd ?_|refine aE (y7 s.name hsz) rfl dd ?_);(repeat (first|simp only [↓QA,QB,Nat.reduceLT,reduceIte,Nat.reduceEqDiff,Nat.reduceAdd,Nat.reduceLeDiff,Nat.reduceMul,Nat.reduceBEq,aI]|refine rd0 rfl ?_)))
 cases h1:pT s.name
 ·(repeat (first|simp only [↓QA,QB,Nat.reduceLT,reduceIte,Nat.reduceEqDiff,Nat.reduceAdd,Nat.reduceLeDiff,Nat.reduceMul,Nat.reduceBEq,aI]|refine rd0 rfl ?_))
  exact fin _ _ (by rw [hk];simp [fresh,h1])
 ·have hc:=HH (.cells (aB v)::.cells [.int .i64 (v.stations-1)]::(τ++[.cells (dC s).cells])) (.func 70 [] [.ptr (τ.length+2) 0]) (v.trams.take i) (fun x=>decide (x.name=s.name)) hts (fun υ=>by try simp only [QS,QC,Nat.reduceLT,reduceIte,Nat.reduceEqDiff,Nat.reduceAdd,Nat.reduceLeDiff,Nat.reduceMul,Nat.reduceBEq,aI,List.length_append];simp) fun x _=>QU s x _ _ τ
  try simp only [↓QA,QB,Nat.reduceLT,reduceIte,Nat.reduceEqDiff,Nat.reduceAdd,Nat.reduceLeDiff,Nat.reduceMul,Nat.reduceBEq,aI] at hc
  (repeat (first|simp only [↓QA,QB,Nat.reduceLT,reduceIte,Nat.reduceEqDiff,Nat.reduceAdd,Nat.reduceLeDiff,Nat.reduceMul,Nat.reduceBEq,aI,aCL (enc:=dC) (l:=v.trams) (Nat.le_of_lt hi)]|refine rd0 rfl ?_))
  refine cM hc ?_
  rw [CR]
  cases h2:decide (lD s.name ((v.trams.take i).map Tram.name)≠((v.trams.take i).map Tram.name).length)
  ·have h2':lD s.name ((v.trams.take i).map Tram.name)=((v.trams.take i).map Tram.name).length:=by simpa using h2
   have hf:fresh s.name ((v.trams.take i).map Tram.name)=0:=by simp only [fresh,h1,h2'];simp
   rw [hf] at hk
   simp only [if_true] at hk
   (repeat (first|simp only [↓QA,QB,Nat.reduceLT,reduceIte,Nat.reduceEqDiff,Nat.reduceAdd,Nat.reduceLeDiff,Nat.reduceMul,Nat.reduceBEq,aI]|refine rd0 rfl ?_))
   ((first|refine eT (cG 0 (v.stations-1) [s.frm] (by simp)) (by simp [clr,clrs,ints]) (by simp [okV,okVs]) ?_|refine fH (cG 0 (v.stations-1) [s.frm] (by simp)) (by simp [clr,clrs,ints]) (by simp [okV,okVs]) ?_);(repeat (first|simp only [↓QA,QB,Nat.reduceLT,reduceIte,Nat.reduceEqDiff,Nat.reduceAdd,Nat.reduceLeDiff,Nat.reduceMul,Nat.reduceBEq,aI,kO]|refine rd0 rfl ?_)))
   have hsi:inR s.frm 0 (v.stations-1)=nC v s.frm:=rfl
   rw [hsi]
   cases h3:nC v s.frm
   ·(repeat (first|simp only [↓QA,QB,Nat.reduceLT,reduceIte,Nat.reduceEqDiff,Nat.reduceAdd,Nat.reduceLeDiff,Nat.reduceMul,Nat.reduceBEq,aI]|refine rd0 rfl ?_))
    exact fin _ _ (by rw [hk,gP,if_pos h3])
   ·rw [gP,if_neg (by rw [h3];simp)] at hk
    (repeat (first|simp only [↓QA,QB,Nat.reduceLT,reduceIte,Nat.reduceEqDiff,Nat.reduceAdd,Nat.reduceLeDiff,Nat.reduceMul,Nat.reduceBEq,aI]|refine rd0 rfl ?_))
    ((first|refine eT (cG 0 60 [s.leaves] (by simp)) (by simp [clr,clrs,ints]) (by simp [okV,okVs]) ?_|refine fH (cG 0 60 [s.leaves] (by simp)) (by simp [clr,clrs,ints]) (by simp [okV,okVs]) ?_);(repeat (first|simp only [↓QA,QB,Nat.reduceLT,reduceIte,Nat.reduceEqDiff,Nat.reduceAdd,Nat.reduceLeDiff,Nat.reduceMul,Nat.reduceBEq,aI,kO]|refine rd0 rfl ?_)))
    cases h4:inR s.leaves 0 60
    ·(repeat (first|simp only [↓QA,QB,Nat.reduceLT,reduceIte,Nat.reduceEqDiff,Nat.reduceAdd,Nat.reduceLeDiff,Nat.reduceMul,Nat.reduceBEq,aI]|refine rd0 rfl ?_))
     exact fin _ _ (by rw [hk,if_pos (.inl h4)])
    ·(repeat (first|simp only [↓QA,QB,Nat.reduceLT,reduceIte,Nat.reduceEqDiff,Nat.reduceAdd,Nat.reduceLeDiff,Nat.reduceMul,Nat.reduceBEq,aI]|refine rd0 rfl ?_))
     ((first|refine eT (cG 0 400 [s.due] (by simp)) (by simp [clr,clrs,ints]) (by simp [okV,okVs]) ?_|refine fH (cG 0 400 [s.due] (by simp)) (by simp [clr,clrs,ints]) (by simp [okV,okVs]) ?_);(repeat (first|simp only [↓QA,QB,Nat.reduceLT,reduceIte,Nat.reduceEqDiff,Nat.reduceAdd,Nat.reduceLeDiff,Nat.reduceMul,Nat.reduceBEq,aI,kO]|refine rd0 rfl ?_)))
     cases h5:inR s.due 0 400
     ·(repeat (first|simp only [↓QA,QB,Nat.reduceLT,reduceIte,Nat.reduceEqDiff,Nat.reduceAdd,Nat.reduceLeDiff,Nat.reduceMul,Nat.reduceBEq,aI]|refine rd0 rfl ?_))
      exact fin _ _ (by rw [hk,if_pos (.inr h5)])
     ·rw [if_neg (by rw [h4,h5];simp)] at hk
      (repeat (first|simp only [↓QA,QB,Nat.reduceLT,reduceIte,Nat.reduceEqDiff,Nat.reduceAdd,Nat.reduceLeDiff,Nat.reduceMul,Nat.reduceBEq,aI]|refine rd0 rfl ?_))
      ((first|refine eT (cG 1 4 [(s.path.length:Int)] (by simp)) (by simp [clr,clrs,ints]) (by simp [okV,okVs]) ?_|refine fH (cG 1 4 [(s.path.length:Int)] (by simp)) (by simp [clr,clrs,ints]) (by simp [okV,okVs]) ?_);(repeat (first|simp only [↓QA,QB,Nat.reduceLT,reduceIte,Nat.reduceEqDiff,Nat.reduceAdd,Nat.reduceLeDiff,Nat.reduceMul,Nat.reduceBEq,aI,kO]|refine rd0 rfl ?_)))
      cases h6:inR s.path.length 1 4
      ·(repeat (first|simp only [↓QA,QB,Nat.reduceLT,reduceIte,Nat.reduceEqDiff,Nat.reduceAdd,Nat.reduceLeDiff,Nat.reduceMul,Nat.reduceBEq,aI]|refine rd0 rfl ?_))
       exact fin _ _ (by rw [hk,if_pos h6])
      ·rw [if_neg (by rw [h6];simp)] at hk
       (repeat (first|simp only [↓QA,QB,Nat.reduceLT,reduceIte,Nat.reduceEqDiff,Nat.reduceAdd,Nat.reduceLeDiff,Nat.reduceMul,Nat.reduceBEq,aI,hwr]|refine rd0 rfl ?_))
       ((first|refine aD (cG 0 ((v.rails.length:Int)-1) s.path hpz) rfl dd ?_|refine aE (cG 0 ((v.rails.length:Int)-1) s.path hpz) rfl dd ?_);(repeat (first|simp only [↓QA,QB,Nat.reduceLT,reduceIte,Nat.reduceEqDiff,Nat.reduceAdd,Nat.reduceLeDiff,Nat.reduceMul,Nat.reduceBEq,aI,J4]|refine rd0 rfl ?_)))
       cases h7:s.path.all (fun r=>inR r 0 ((v.rails.length:Int)-1))
       ·rw [if_pos h7] at hk
        (repeat (first|simp only [↓QA,QB,Nat.reduceLT,reduceIte,Nat.reduceEqDiff,Nat.reduceAdd,Nat.reduceLeDiff,Nat.reduceMul,Nat.reduceBEq,aI]|refine rd0 rfl ?_))
        exact fin _ _ hk.symm
       ·rw [if_neg (by rw [h7];simp)] at hk
        rw [oP] at h3
        obtain ⟨S,hS⟩:∃ S:Nat,s.frm=(S:Int):=⟨s.frm.toNat,by omega⟩
        rw [eS] at h6
        have hld:=DR v hst hra S (by omega) s.path (fun r hr=>by
         have:=eS.1 (List.all_eq_true.1 h7 r hr)
         omega) hpz
        have hlw:fP v s.frm s.path=jG v S s.path:=by rw [hS];exact zS (by omega)
        rw [hlw] at hk
        obtain ⟨B,hB⟩:∃ B,jG v S s.path=B:=⟨_,rfl⟩
        rw [hB] at hk hld
        (repeat (first|simp only [↓QA,QB,Nat.reduceLT,reduceIte,Nat.reduceEqDiff,Nat.reduceAdd,Nat.reduceLeDiff,Nat.reduceMul,Nat.reduceBEq,aI,hS]|refine rd0 rfl ?_))
        ((first|refine aD (hld) rfl dd ?_|refine aE (hld) rfl dd ?_);(repeat (first|simp only [↓QA,QB,Nat.reduceLT,reduceIte,Nat.reduceEqDiff,Nat.reduceAdd,Nat.reduceLeDiff,Nat.reduceMul,Nat.reduceBEq,aI,hS]|refine rd0 rfl ?_)))
        cases B
        ·(repeat (first|simp only [↓QA,QB,Nat.reduceLT,reduceIte,Nat.reduceEqDiff,Nat.reduceAdd,Nat.reduceLeDiff,Nat.reduceMul,Nat.reduceBEq,aI]|refine rd0 rfl ?_))
         exact fin _ _ (by rw [hk];rfl)
        ·(repeat (first|simp only [↓QA,QB,Nat.reduceLT,reduceIte,Nat.reduceEqDiff,Nat.reduceAdd,Nat.reduceLeDiff,Nat.reduceMul,Nat.reduceBEq,aI]|refine rd0 rfl ?_))
         exact fin _ _ (by rw [hk];rfl)
  ·have h2':lD s.name ((v.trams.take i).map Tram.name)≠((v.trams.take i).map Tram.name).length:=by simpa using h2
   have hf:fresh s.name ((v.trams.take i).map Tram.name)=5:=by simp only [fresh,h1,h2',if_false];simp
   rw [hf] at hk
   (repeat (first|simp only [↓QA,QB,Nat.reduceLT,reduceIte,Nat.reduceEqDiff,Nat.reduceAdd,Nat.reduceLeDiff,Nat.reduceMul,Nat.reduceBEq,aI]|refine rd0 rfl ?_))
   exact fin _ _ (by rw [hk];simp)
theorem VK (v:Net) (h:Fits v) (i:Nat) (x:Seen) (b:ABlk):j9 T (.func 73 [] [.ptr 0 0]) [.int .i64 i,eU x] [.cells (aB v),b,.cells (eU x).cells] (.int .i64 (kP v i x)):=by
 refine eX (af:=a73) rfl (by simp [a73]) ?_
 have hfp:=h.trams
 have hw:IntKind.i64.wrap ((v.trams.length:Int)-1)=(v.trams.length:Int)-1:=eA ⟨by omega,by omega⟩
 (repeat (first|simp only [↓QA,QB,Nat.reduceLT,reduceIte,Nat.reduceEqDiff,Nat.reduceAdd,Nat.reduceLeDiff,Nat.reduceMul,Nat.reduceBEq,aI,a73,hw]|refine rd0 rfl ?_))
 ((first|refine eT (cG 0 ((v.trams.length:Int)-1) [x.tram] (by simp)) (by simp [clr,clrs,ints]) (by simp [okV,okVs]) ?_|refine fH (cG 0 ((v.trams.length:Int)-1) [x.tram] (by simp)) (by simp [clr,clrs,ints]) (by simp [okV,okVs]) ?_);(repeat (first|simp only [↓QA,QB,Nat.reduceLT,reduceIte,Nat.reduceEqDiff,Nat.reduceAdd,Nat.reduceLeDiff,Nat.reduceMul,Nat.reduceBEq,aI,kO]|refine rd0 rfl ?_)))
 cases h1:inR x.tram 0 ((v.trams.length:Int)-1)
 ·(repeat (first|simp only [↓QA,QB,Nat.reduceLT,reduceIte,Nat.reduceEqDiff,Nat.reduceAdd,Nat.reduceLeDiff,Nat.reduceMul,Nat.reduceBEq,aI]|refine rd0 rfl ?_))
  refine fQ _ rfl ?_
  try simp only [QS,QC,Nat.reduceLT,reduceIte,Nat.reduceEqDiff,Nat.reduceAdd,Nat.reduceLeDiff,Nat.reduceMul,Nat.reduceBEq,aI,kP,h1]
 ·(repeat (first|simp only [↓QA,QB,Nat.reduceLT,reduceIte,Nat.reduceEqDiff,Nat.reduceAdd,Nat.reduceLeDiff,Nat.reduceMul,Nat.reduceBEq,aI]|refine rd0 rfl ?_))
  ((first|refine eT (cG (-1) 400 [x.minute] (by simp)) (by simp [clr,clrs,ints]) (by simp [okV,okVs]) ?_|refine fH (cG (-1) 400 [x.minute] (by simp)) (by simp [clr,clrs,ints]) (by simp [okV,okVs]) ?_);(repeat (first|simp only [↓QA,QB,Nat.reduceLT,reduceIte,Nat.reduceEqDiff,Nat.reduceAdd,Nat.reduceLeDiff,Nat.reduceMul,Nat.reduceBEq,aI,kO]|refine rd0 rfl ?_)))
  cases h2:inR x.minute (-1) 400
  all_goals
   (repeat (first|simp only [↓QA,QB,Nat.reduceLT,reduceIte,Nat.reduceEqDiff,Nat.reduceAdd,Nat.reduceLeDiff,Nat.reduceMul,Nat.reduceBEq,aI]|refine rd0 rfl ?_))
   refine fQ _ rfl ?_
   try simp only [QS,QC,Nat.reduceLT,reduceIte,Nat.reduceEqDiff,Nat.reduceAdd,Nat.reduceLeDiff,Nat.reduceMul,Nat.reduceBEq,aI,kP,h1,h2,Bool.true_eq_false]
end Go.Am.Room
set_option maxRecDepth 4000
namespace Go.Am.Room
def fG:=And.intro @bK (And.intro @aK (And.intro @aZ (And.intro @aX (And.intro @aY (And.intro @aT (And.intro @bI (And.intro @bF (And.intro @bE (And.intro @dP (And.intro @dA (@Nat.not_lt_zero)))))))))))
theorem kL (v:Net) (h:Fits v):dL T 17 [bM v] (mE (bY v)):=by
 refine aU (af:=a17) rfl (by simp [a17]) dd ?_
 obtain ⟨W,hW⟩:∃ W,IntKind.i64.wrap (v.stations-1)=W:=⟨_,rfl⟩
 (repeat (first|simp only [↓QA,QB,Nat.reduceLT,reduceIte,Nat.reduceEqDiff,Nat.reduceAdd,Nat.reduceLeDiff,Nat.reduceMul,Nat.reduceBEq,fG,a17,hW]|refine rd0 rfl ?_))
 ((first|refine eT (cG 2 5 [v.stations] (by simp)) (by simp [clr,clrs,ints]) (by simp [okV,okVs]) ?_|refine fH (cG 2 5 [v.stations] (by simp)) (by simp [clr,clrs,ints]) (by simp [okV,okVs]) ?_);(repeat (first|simp only [↓QA,QB,Nat.reduceLT,reduceIte,Nat.reduceEqDiff,Nat.reduceAdd,Nat.reduceLeDiff,Nat.reduceMul,Nat.reduceBEq,fG,kO]|refine rd0 rfl ?_)))
 cases h1:inR v.stations 2 5
 ·(repeat (first|simp only [↓QA,QB,Nat.reduceLT,reduceIte,Nat.reduceEqDiff,Nat.reduceAdd,Nat.reduceLeDiff,Nat.reduceMul,Nat.reduceBEq,fG]|refine rd0 rfl ?_))
  simp [bY,h1,mE]
 ·have hc:bY v=pQ v:=by simp only [bY,h1,Bool.true_eq_false,if_false]
  rw [hc]
  have hst:=eS.1 h1
  have hWe:W=v.stations-1:=by rw [←hW];exact eA ⟨by omega,by omega⟩
  subst hWe
  have hWs:∀ s:Int,inR s 0 (v.stations-1)=nC v s:=fun s=>rfl
  (repeat (first|simp only [↓QA,QB,Nat.reduceLT,reduceIte,Nat.reduceEqDiff,Nat.reduceAdd,Nat.reduceLeDiff,Nat.reduceMul,Nat.reduceBEq,fG]|refine rd0 rfl ?_))
  cases h2:decide ((5:Int)<(v.rails.length:Int))
  case' true =>
   have h2':5<v.rails.length:=by first|(have:=of_decide_eq_false h2;omega)|(have:=of_decide_eq_true h2;omega)
   (repeat (first|simp only [↓QA,QB,Nat.reduceLT,reduceIte,Nat.reduceEqDiff,Nat.reduceAdd,Nat.reduceLeDiff,Nat.reduceMul,Nat.reduceBEq,fG,h2]|refine rd0 rfl ?_))
   simp [pQ,h2',mE]
  have h2':¬5<v.rails.length:=by first|(have:=of_decide_eq_false h2;omega)|(have:=of_decide_eq_true h2;omega)
  have hc:pQ v=match cF (fun _ r=>dD v r) v.rails 0 with|some (i,e)=>(2,(i:Int),e)|none=>pY v:=by simp only [pQ,h2',if_false];try rfl
  rw [hc]
  have hf:=F5 [.cells (aB v),.cells [.int .i64 (v.stations-1)]] (.func 65 [] [.ptr 1 0]) v.rails (fun _ r=>dD v r) h.rails (fun τ=>by try simp only [QS,QC,Nat.reduceLT,reduceIte,Nat.reduceEqDiff,Nat.reduceAdd,Nat.reduceLeDiff,Nat.reduceMul,Nat.reduceBEq,fG]) fun i hi=>WT v _ hWs i _ _ _
  try simp only [↓QA,QB,Nat.reduceLT,reduceIte,Nat.reduceEqDiff,Nat.reduceAdd,Nat.reduceLeDiff,Nat.reduceMul,Nat.reduceBEq,fG] at hf
  (repeat (first|simp only [↓QA,QB,Nat.reduceLT,reduceIte,Nat.reduceEqDiff,Nat.reduceAdd,Nat.reduceLeDiff,Nat.reduceMul,Nat.reduceBEq,fG,h2]|refine rd0 rfl ?_))
  refine cM hf ?_
  cases hb:cF (fun _ r=>dD v r) v.rails 0 with
  |some p =>
   obtain ⟨i,e⟩:=p
   have he:=jU hb
   have hg:(e==0)=false:=by simpa using he
   (repeat (first|simp only [↓QA,QB,Nat.reduceLT,reduceIte,Nat.reduceEqDiff,Nat.reduceAdd,Nat.reduceLeDiff,Nat.reduceMul,Nat.reduceBEq,fG,oM,hb,vO,hg,mE]|refine rd0 rfl ?_))
  |none =>
   have hra:∀ r∈v.rails,RailOk v r:=fun x hx=>by
    obtain ⟨k,hk,rfl⟩:=List.getElem_of_mem hx
    exact EK.1 (lL hb k hk)
   (repeat (first|simp only [↓QA,QB,Nat.reduceLT,reduceIte,Nat.reduceEqDiff,Nat.reduceAdd,Nat.reduceLeDiff,Nat.reduceMul,Nat.reduceBEq,fG,oM,hb,vO]|refine rd0 rfl ?_))
   cases h6:decide ((3:Int)<(v.trams.length:Int))
   case' true =>
    have h6':3<v.trams.length:=by first|(have:=of_decide_eq_false h6;omega)|(have:=of_decide_eq_true h6;omega)
    (repeat (first|simp only [↓QA,QB,Nat.reduceLT,reduceIte,Nat.reduceEqDiff,Nat.reduceAdd,Nat.reduceLeDiff,Nat.reduceMul,Nat.reduceBEq,fG,h6]|refine rd0 rfl ?_))
    simp [pY,h6',mE]
   have h6':¬3<v.trams.length:=by first|(have:=of_decide_eq_false h6;omega)|(have:=of_decide_eq_true h6;omega)
   have hc:pY v=match cF (kA v) v.trams 0 with|some (i,e)=>(3,(i:Int),e)|none=>pN v:=by simp only [pY,h6',if_false];try rfl
   rw [hc]
   have hf:=FF [.cells (aB v),.cells [.int .i64 (v.stations-1)]] (.func 67 [] [.ptr 0 0,.ptr 1 0]) v.trams (kA v) h.trams (fun τ=>by try simp only [QS,QC,Nat.reduceLT,reduceIte,Nat.reduceEqDiff,Nat.reduceAdd,Nat.reduceLeDiff,Nat.reduceMul,Nat.reduceBEq,fG]) fun i hi=>UQ v h hst hra i hi _
   try simp only [↓QA,QB,Nat.reduceLT,reduceIte,Nat.reduceEqDiff,Nat.reduceAdd,Nat.reduceLeDiff,Nat.reduceMul,Nat.reduceBEq,fG] at hf
   (repeat (first|simp only [↓QA,QB,Nat.reduceLT,reduceIte,Nat.reduceEqDiff,Nat.reduceAdd,Nat.reduceLeDiff,Nat.reduceMul,Nat.reduceBEq,fG,h6]|refine rd0 rfl ?_))
   refine cM hf ?_
   cases hb:cF (kA v) v.trams 0 with
   |some p =>
    obtain ⟨i,e⟩:=p
    have he:=jU hb
    have hg:(e==0)=false:=by simpa using he
    (repeat (first|simp only [↓QA,QB,Nat.reduceLT,reduceIte,Nat.reduceEqDiff,Nat.reduceAdd,Nat.reduceLeDiff,Nat.reduceMul,Nat.reduceBEq,fG,oM,hb,vO,hg,mE]|refine rd0 rfl ?_))
   |none =>
    (repeat (first|simp only [↓QA,QB,Nat.reduceLT,reduceIte,Nat.reduceEqDiff,Nat.reduceAdd,Nat.reduceLeDiff,Nat.reduceMul,Nat.reduceBEq,fG,oM,hb,vO]|refine rd0 rfl ?_))
    cases h7:decide ((3:Int)<(v.seen.length:Int))
    case' true =>
     have h7':3<v.seen.length:=by first|(have:=of_decide_eq_false h7;omega)|(have:=of_decide_eq_true h7;omega)
     (repeat (first|simp only [↓QA,QB,Nat.reduceLT,reduceIte,Nat.reduceEqDiff,Nat.reduceAdd,Nat.reduceLeDiff,Nat.reduceMul,Nat.reduceBEq,fG,h7]|refine rd0 rfl ?_))
     simp [pN,h7',mE]
    have h7':¬3<v.seen.length:=by first|(have:=of_decide_eq_false h7;omega)|(have:=of_decide_eq_true h7;omega)
    have hc:pN v=match cF (kP v) v.seen 0 with|some (i,e)=>(4,(i:Int),e)|none=>(0,0,0):=by simp only [pN,h7',if_false];try rfl
    rw [hc]
    have hf:=FG [.cells (aB v),.cells [.int .i64 (v.stations-1)]] (.func 73 [] [.ptr 0 0]) v.seen (kP v) h.seen (fun τ=>by try simp only [QS,QC,Nat.reduceLT,reduceIte,Nat.reduceEqDiff,Nat.reduceAdd,Nat.reduceLeDiff,Nat.reduceMul,Nat.reduceBEq,fG]) fun i hi=>VK v h i _ _
    try simp only [↓QA,QB,Nat.reduceLT,reduceIte,Nat.reduceEqDiff,Nat.reduceAdd,Nat.reduceLeDiff,Nat.reduceMul,Nat.reduceBEq,fG] at hf
    (repeat (first|simp only [↓QA,QB,Nat.reduceLT,reduceIte,Nat.reduceEqDiff,Nat.reduceAdd,Nat.reduceLeDiff,Nat.reduceMul,Nat.reduceBEq,fG,h7]|refine rd0 rfl ?_))
    refine cM hf ?_
    cases hb:cF (kP v) v.seen 0 with
    |some p =>
     obtain ⟨i,e⟩:=p
     have he:=jU hb
     have hg:(e==0)=false:=by simpa using he
     (repeat (first|simp only [↓QA,QB,Nat.reduceLT,reduceIte,Nat.reduceEqDiff,Nat.reduceAdd,Nat.reduceLeDiff,Nat.reduceMul,Nat.reduceBEq,fG,oM,hb,vO,hg,mE]|refine rd0 rfl ?_))
    |none =>
     (repeat (first|simp only [↓QA,QB,Nat.reduceLT,reduceIte,Nat.reduceEqDiff,Nat.reduceAdd,Nat.reduceLeDiff,Nat.reduceMul,Nat.reduceBEq,fG,oM,hb,vO,mE]|refine rd0 rfl ?_))
end Go.Am.Room
set_option maxRecDepth 4000
namespace Go.Am.Room
def cQ:=And.intro @bK (And.intro @aK (And.intro @aZ (And.intro @aX (And.intro @aY (And.intro @aT (And.intro @bI (And.intro @bF (And.intro @bE (And.intro @dP (And.intro @dA (And.intro @Nat.not_lt_zero (And.intro @List.length_append.{0} (And.intro @List.length_replicate.{0} (And.intro @Nat.zero_add (And.intro @Nat.mul_one (@Int.toNat_natCast))))))))))))))))
theorem EH:∀ l:List Int,vY 1 l.length (l.map (AV.int .i64))=l.map (.int .i64)
 |[]=>rfl
 |x::l=>by simp [vY,EH l,AV.cell]
theorem J9 {σ:St} {m id n:Nat} {l:List Int} (hm:¬id<m) (hn:n=l.length) (hl:aM σ id=some (l.map (.int .i64))):cX σ m 20 (.ref id 0 n 1)=some (.lit (l.map (.int .i64)) false none):=by
 subst hn
 have hv:lO σ (.ref id 0 l.length 1)=some (l.map (.int .i64)):=by simp [lO,hl,EH]
 rw [MC,if_neg hm,hv]
 simp [gK,kG]
theorem QW {σ:St} {id:Nat} {l:List Int} (h:aM σ id=some (List.replicate (l.length+1) (.int .i64 0))):s8 1 σ (.ref id 0 (l.length+1) 1) (.lit (l.map (.int .i64)) false none)=some (.int .i64 l.length,σ.set id (.cells (l.map (.int .i64)++[.int .i64 0]))):=by
 have h1:=gK l
 have h2:(l.map (AV.int .i64)).take (l.length+1)=l.map (.int .i64):=List.take_of_length_le (by simp)
 have h3:Nat.min l.length (l.length+1)=l.length:=Nat.min_eq_left (by omega)
 have h4:(List.replicate (l.length+1) (AV.int .i64 0)).drop l.length=[.int .i64 0]:=by rw [List.drop_replicate];simp [List.replicate]
 simp [s8,lO,zE,h1,h,gY,h2,KR,h3,h4]
theorem UA (l:List Int) (r:Int):(l.map (AV.int .i64)++[AV.int .i64 0]).take l.length++[AV.int .i64 r]++(l.map (AV.int .i64)++[AV.int .i64 0]).drop (l.length+1)=(l++[r]).map (.int .i64):=by
 simp [List.take_append_of_le_length]
def okR (v:Net) (b:Int) (l:List Int) (r:Int):Bool:=wE v b r&&!(l.length==4)
def gF (v:Net) (b:Int) (l:List Int) (k:Int):List (List Int):=((aR k ((v.rails.length:Int)-k).toNat).filter (okR v b l)).map fun r=>l++[r]
def gW (v:Net) (b:Int) (l:List Int):List (List Int):=gF v b l 0
theorem U6 {v:Net} {k:Nat} (h:k<v.rails.length) (b:Int) (l:List Int):gF v b l k=(if okR v b l (k:Int)=true then [l++[(k:Int)]] else [])++gF v b l ((k+1:Nat):Int):=by
 have:=lN (a:=(k:Int)) (below:=v.rails.length) (by omega)
 rw [gF,this,List.filter_cons,show (k:Int)+1=((k+1:Nat):Int) by omega]
 split<;>rfl
theorem aCW (v:Net) (b:Int) (l:List Int):gF v b l (v.rails.length:Int)=[]:=by rw [gF,jY (by omega)];rfl
theorem IJ {v:Net} {b:Int} {l:List Int} (h:l.length≠4):gW v b l=GS v b l:=by
 have e:∀ r,okR v b l r=wE v b r:=fun r=>by simp [okR,h]
 simp only [gW,gF,GS,Int.sub_zero,Int.toNat_natCast]
 congr 1
 exact List.filter_congr fun r _=>e r
theorem MB {v:Net} {b:Int} {l:List Int} (h:l.length=4):gW v b l=[]:=by
 have e:∀ r,okR v b l r=false:=fun r=>by simp [okR,h]
 simp only [gW,gF,List.map_eq_nil_iff,List.filter_eq_nil_iff]
 intro r _
 rw [e];simp
def mP (v:Net) (s b:Int) (k:Nat):List (List Int):=if k≤4 then u5 v s b k else []
def aP (v:Net) (s b:Int) (k:Nat):List (List Int):=FL v s b (min k 4)
theorem tL {v:Net} {s b:Int} (hs:s≠0) {k:Nat}:∀ l∈u5 v s b k,l.length=k∧∀ r∈l,0≤r∧r<v.rails.length:=fun l hl=>by
 rw [v5 hs] at hl
 have:=(List.mem_filter.1 hl).1
 exact ⟨uU _ _ _ _ this,xG _ _ _ _ this⟩
theorem M1 {v:Net} {s b:Int} (hs:s≠0) (h5:v.rails.length≤5) (k:Nat):(u5 v s b k).length≤5^k:=by
 rw [v5 hs]
 exact Nat.le_trans (List.length_filter_le _ _) (k7 v _ h5 k)
theorem S8 {v:Net} {s b:Int} (hs:s≠0) (h5:v.rails.length≤5) {k:Nat} (hk:k≤4):(FL v s b k).length≤1000:=by
 rw [FM hs k hk]
 exact vQ h5 _ _ hk
theorem aFQ {v:Net} {s b:Int} (hs:s≠0) {k:Nat}:∀ l∈mP v s b k,l.length=k∧l.length≤4∧∀ r∈l,0≤r∧r<v.rails.length:=fun l hl=>by
 unfold mP at hl
 split at hl
 ·have:=tL hs l hl
  exact ⟨this.1,by omega,this.2⟩
 ·cases hl
theorem BN {α β:Type} {f:α→List β}:∀ {l:List α},(∀ x∈l,f x=[])→l.flatMap f=[]
 |[],_=>rfl
 |x::l,h=>by rw [List.flatMap_cons,h x (by simp),BN fun y hy=>h y (by simp [hy])];rfl
theorem LA {v:Net} {s b:Int} (hs:s≠0) (k:Nat):(mP v s b k).flatMap (fun l=>(gW v b l).filter (fE v s))=mP v s b (k+1):=by
 unfold mP
 by_cases h:k≤4
 ·rw [if_pos h]
  by_cases h4:k=4
  ·rw [if_neg (by omega)]
   refine BN fun l hl=>?_
   rw [MB (by rw [(tL hs l hl).1,h4])];rfl
  ·rw [if_pos (by omega),u5]
   refine lR fun l hl=>?_
   rw [IJ (by rw [(tL hs l hl).1];exact h4)]
 ·rw [if_neg h,if_neg (by omega)];rfl
theorem K6 {v:Net} {s b:Int} (hs:s≠0) (k:Nat):aP v s b k++(mP v s b k).flatMap (fun l=>(gW v b l).filter (jG v s))=aP v s b (k+1):=by
 unfold mP aP
 by_cases h:k≤4
 ·rw [if_pos h]
  by_cases h4:k=4
  ·subst h4
   rw [BN fun l hl=>by rw [MB (tL hs l hl).1];rfl]
   simp
  ·rw [show min k 4=k by omega,show min (k+1) 4=k+1 by omega,FL]
   congr 1
   refine lR fun l hl=>?_
   rw [IJ (by rw [(tL hs l hl).1];exact h4)]
 ·rw [if_neg h,show min k 4=4 by omega,show min (k+1) 4=4 by omega]
  simp
theorem IQ {v:Net} {s b:Int} (hs:s≠0) {k:Nat} (h:mP v s b k=[]):∀ j,mP v s b (k+j)=[]∧aP v s b (k+j)=aP v s b k
 |0=>⟨h,rfl⟩
 |j+1=>by
  obtain ⟨h1,h2⟩:=IQ hs h j
  have m:=LA (v:=v) (s:=s) (b:=b) hs (k+j)
  have a:=K6 (v:=v) (s:=s) (b:=b) hs (k+j)
  rw [h1] at m a
  simp only [List.flatMap_nil,List.append_nil] at m a
  rw [show k+(j+1)=k+j+1 by omega]
  exact ⟨m.symm,by rw [←a,h2]⟩
theorem aCQ {v:Net} {s b:Int} (hs:s≠0) {k:Nat} (h:mP v s b k=[]):aP v s b k=dQ v s (qN b):=by
 rw [←aFS v hs]
 by_cases hk:k≤4
 ·have:=(IQ hs h (4-k)).2
  rw [show k+(4-k)=4 by omega] at this
  rw [←this];rfl
 ·rw [aP,show min k 4=4 by omega]
theorem MF {v:Net} {s:Int} {p:List Int} (h:jG v s p=true):fE v s p=false:=by
 unfold jG at h
 unfold fE
 split at h
 ·rename_i o ho
  simp only [Bool.and_eq_true] at h
  simp [ho,h.1]
 ·cases h
theorem AW (v:Net) (hv:Vd v) (s:Nat) (hs5:s<5) (b:Int):dL T 77 [bM v,.int .i64 s,.int .i64 b] (aJ (dQ v s (qN b))):=by
 refine aU (af:=a77) rfl (by simp [a77]) dd ?_
 have hnr:=hv.nra
 (repeat (first|simp only [↓QA,QB,Nat.reduceLT,reduceIte,Nat.reduceEqDiff,Nat.reduceAdd,Nat.reduceLeDiff,Nat.reduceMul,Nat.reduceBEq,cQ,a77]|refine rd0 rfl ?_))
 cases h0:((s:Int)==0)
 case' true =>
  have h0':(s:Int)=0:=by simpa using h0
  have hz:=NY v (qN b)
  rw [←h0'] at hz
  rw [hz]
  (repeat (first|simp only [↓QA,QB,Nat.reduceLT,reduceIte,Nat.reduceEqDiff,Nat.reduceAdd,Nat.reduceLeDiff,Nat.reduceMul,Nat.reduceBEq,cQ,h0,bJ,List.map_nil]|refine rd0 rfl ?_))
  try try simp only [QS,QC,Nat.reduceLT,reduceIte,Nat.reduceEqDiff,Nat.reduceAdd,Nat.reduceLeDiff,Nat.reduceMul,Nat.reduceBEq,cQ]
 have hs:(s:Int)≠0:=by simpa using h0
 obtain ⟨Z,hZ⟩:∃ Z,dQ v s (qN b)=Z:=⟨_,rfl⟩
 have hall:=fun k=>aCQ (v:=v) (s:=s) (b:=b) hs (k:=k)
 simp only [hZ] at hall
 rw [hZ]
 (repeat (first|simp only [↓QA,QB,Nat.reduceLT,reduceIte,Nat.reduceEqDiff,Nat.reduceAdd,Nat.reduceLeDiff,Nat.reduceMul,Nat.reduceBEq,cQ,h0]|refine rd0 rfl ?_))
 refine hH 6 1 [] rfl ?_
 refine bT (S:=Nat×Bool) (0,false) (fun a=>a.1≤5) (fun a=>5-a.1)
  (fun a=>[(1,.int .i64 s),(2,.int .i64 b),(3,.ptr 0 0),(6,.lit ((aP v s b a.1).map ints) false (some 1)),(7,aJ (mP v s b a.1))])
  (fun a=>[.cells (aB v),.tok 1 (aP v s b a.1).length a.2]) (Nat.zero_le _) (by simp [aB,ints,aP,FL]) ?_ fun a hk=>?_
 ·try simp only [aC,QE,Nat.reduceLT,reduceIte,Nat.reduceEqDiff,Nat.reduceAdd,Nat.reduceLeDiff,Nat.reduceMul,Nat.reduceBEq,cQ]
  simp [aJ,ints,mP,u5,aP,FL,clr,clrs]
 ·obtain ⟨k,ex⟩:=a
  simp only at hk
  have hin:=aFQ (v:=v) (s:=s) (b:=b) hs (k:=k)
  have hmn:=LA (v:=v) (s:=s) (b:=b) hs k
  have han:=K6 (v:=v) (s:=s) (b:=b) hs k
  have hac:∀ j,(aP v s b j).length≤1000:=fun j=>S8 hs (by omega) (by omega)
  have hmc:∀ j,(mP v s b j).length≤625:=fun j=>by
   unfold mP
   split
   ·exact Nat.le_trans (M1 hs (by omega) j) (Nat.le_trans (Nat.pow_le_pow_right (by omega) (by omega):5^j≤5^4) (by decide))
   ·simp
  have c1:=hac k
  have c2:=hac (k+1)
  have c3:=hmc k
  have c4:=hmc (k+1)
  have hfin:=hall k
  have hm5:k=5→mP v s b k=[]:=fun q=>by rw [q];rfl
  obtain ⟨W,hW⟩:∃ W,mP v s b k=W:=⟨_,rfl⟩
  obtain ⟨X,hX⟩:∃ X,mP v s b (k+1)=X:=⟨_,rfl⟩
  obtain ⟨O,hO⟩:∃ O,aP v s b k=O:=⟨_,rfl⟩
  obtain ⟨Y,hY⟩:∃ Y,aP v s b (k+1)=Y:=⟨_,rfl⟩
  rw [hO] at c1 han hfin
  rw [hY] at c2 han
  rw [hX] at c4 hmn
  rw [hW] at c3 hmn han hfin hm5
  simp only [hW] at hin
  rw [hW,hO]
  (repeat (first|simp only [↓QA,QB,Nat.reduceLT,reduceIte,Nat.reduceEqDiff,Nat.reduceAdd,Nat.reduceLeDiff,Nat.reduceMul,Nat.reduceBEq,cQ,ZQ,aJ]|refine rd0 rfl ?_))
  cases hne:decide ((0:Int)<(W.length:Int))
  ·have hw0:W=[]:=by
    have:¬(0:Int)<(W.length:Int):=by simpa using hne
    exact List.length_eq_zero_iff.1 (by omega)
   rw [hfin hw0]
   (repeat (first|simp only [↓QA,QB,Nat.reduceLT,reduceIte,Nat.reduceEqDiff,Nat.reduceAdd,Nat.reduceLeDiff,Nat.reduceMul,Nat.reduceBEq,cQ]|refine rd0 rfl ?_))
   try try simp only [QS,QC,Nat.reduceLT,reduceIte,Nat.reduceEqDiff,Nat.reduceAdd,Nat.reduceLeDiff,Nat.reduceMul,Nat.reduceBEq,cQ]
  ·have hw0:W≠[]:=by
    have:(0:Int)<(W.length:Int):=by simpa using hne
    rintro rfl
    simp at this
   have hk4:k<5:=by
    by_cases q:k=5
    ·exact absurd (hm5 q) hw0
    ·omega
   (repeat (first|simp only [↓QA,QB,Nat.reduceLT,reduceIte,Nat.reduceEqDiff,Nat.reduceAdd,Nat.reduceLeDiff,Nat.reduceMul,Nat.reduceBEq,cQ]|refine rd0 rfl ?_))
   refine hH 8 1 [] rfl ?_
   (repeat (first|simp only [↓QA,QB,Nat.reduceLT,reduceIte,Nat.reduceEqDiff,Nat.reduceAdd,Nat.reduceLeDiff,Nat.reduceMul,Nat.reduceBEq,cQ]|refine rd0 rfl ?_))
   refine bT (S:=Nat×List (List Int)×List (List Int)×Bool×Bool) (0,O,[],ex,false) (fun a=>a.1≤W.length∧a.2.2.1++(W.drop a.1).flatMap (fun l=>(gW v b l).filter (fE v s))=X∧a.2.1++(W.drop a.1).flatMap (fun l=>(gW v b l).filter (jG v s))=Y) (fun a=>W.length-a.1)
    (fun a=>[(1,.int .i64 s),(2,.int .i64 b),(3,.ptr 0 0),(6,.lit (a.2.1.map ints) false (some 1)),(8,.lit (a.2.2.1.map ints) false (some 2)),(22,aJ W),(23,.int .i64 W.length),(24,.int .i64 a.1)])
    (fun a=>[.cells (aB v),.tok 1 a.2.1.length a.2.2.2.1,.tok 1 a.2.2.1.length a.2.2.2.2]) ⟨Nat.zero_le _,by simpa using hmn,by simpa using han⟩ (by simp [aB,ints]) ?_ fun a ha=>?_
   ·try simp only [aC,QE,Nat.reduceLT,reduceIte,Nat.reduceEqDiff,Nat.reduceAdd,Nat.reduceLeDiff,Nat.reduceMul,Nat.reduceBEq,cQ,aJ,ints]
    try simp
   ·obtain ⟨i,O,A,ex,ex2⟩:=a
    obtain ⟨hi,hA,hB⟩:=ha
    simp only at hi hA hB
    (repeat (first|simp only [↓QA,QB,Nat.reduceLT,reduceIte,Nat.reduceEqDiff,Nat.reduceAdd,Nat.reduceLeDiff,Nat.reduceMul,Nat.reduceBEq,cQ,YS,aJ]|refine rd0 rfl ?_))
    refine aG (fun h2=>?_) fun h2=>?_
    ·have hi1:i<W.length:=by simpa using h2
     have hwi:=bP hi1 (by omega)
     obtain ⟨l,hl⟩:∃ l,W[i]=l:=⟨_,rfl⟩
     obtain ⟨_,hl4,hlr⟩:=hin _ (List.getElem_mem hi1)
     rw [hl] at hl4 hlr
     rw [List.drop_eq_getElem_cons hi1,hl,List.flatMap_cons] at hA hB
     obtain ⟨F,hF⟩:∃ F,(W.drop (i+1)).flatMap (fun l=>(gW v b l).filter (fE v s))=F:=⟨_,rfl⟩
     obtain ⟨G,hG⟩:∃ G,(W.drop (i+1)).flatMap (fun l=>(gW v b l).filter (jG v s))=G:=⟨_,rfl⟩
     rw [hF,gW] at hA
     rw [hG,gW] at hB
     have hwl:=bP (show l.length<5 by omega) (by omega)
     have hmk:m7 8 (.int .i64 ((l.length+1:Nat):Int)) (.int .i64 ((l.length+1:Nat):Int))=some (l.length+1):=by simp [m7,room];omega
     (repeat (first|simp only [↓QA,QB,Nat.reduceLT,reduceIte,Nat.reduceEqDiff,Nat.reduceAdd,Nat.reduceLeDiff,Nat.reduceMul,Nat.reduceBEq,cQ,hi1,hl,aJ]|refine rd0 rfl ?_))
     refine bT (S:=Nat×List (List Int)×List (List Int)×Bool×Bool) (0,O,A,ex,ex2) (fun a=>a.1≤v.rails.length∧a.2.2.1++((gF v b l a.1).filter (fE v s)++F)=X∧a.2.1++((gF v b l a.1).filter (jG v s)++G)=Y) (fun a=>v.rails.length-a.1)
      (fun a=>[(1,.int .i64 s),(2,.int .i64 b),(3,.ptr 0 0),(6,.lit (a.2.1.map ints) false (some 1)),(8,.lit (a.2.2.1.map ints) false (some 2)),(10,ints l),(22,aJ W),(23,.int .i64 W.length),(24,.int .i64 i),(29,.lit (v.rails.map eH) false none),(30,.int .i64 v.rails.length),(31,.int .i64 a.1)])
      (fun a=>[.cells (aB v),.tok 1 a.2.1.length a.2.2.2.1,.tok 1 a.2.2.1.length a.2.2.2.2]) ⟨Nat.zero_le _,hA,hB⟩ (by simp [aB]) ?_ fun a ha=>?_
     ·try simp only [aC,QE,Nat.reduceLT,reduceIte,Nat.reduceEqDiff,Nat.reduceAdd,Nat.reduceLeDiff,Nat.reduceMul,Nat.reduceBEq,cQ,aJ,ints]
      try simp
     ·obtain ⟨r,O,A,ex,ex2⟩:=a
      obtain ⟨hr,hA,hB⟩:=ha
      simp only at hr hA hB
      (repeat (first|simp only [↓QA,QB,Nat.reduceLT,reduceIte,Nat.reduceEqDiff,Nat.reduceAdd,Nat.reduceLeDiff,Nat.reduceMul,Nat.reduceBEq,cQ,XN,aJ]|refine rd0 rfl ?_))
      refine aG (fun h3=>?_) fun h3=>?_
      ·have hr1:r<v.rails.length:=by simpa using h3
       have hwr:=bP hr1 (by omega)
       rw [U6 hr1] at hA hB
       have hok:okR v b l (r:Int)=(!((r:Int)==b)&&!(v.rails[r].shut==1)&&!((l.length:Int)==4)):=by
        rw [okR,wE,wL hr1]
        have e1:(v.rails[r].shut==1)=decide (v.rails[r].shut=1):=by rw [Bool.eq_iff_iff];simp
        have e2:((l.length:Int)==4)=(l.length==4):=by rw [Bool.eq_iff_iff];simp;omega
        rw [e1,e2]
       obtain ⟨z,hz⟩:∃ z,v.rails[r]=z:=⟨_,rfl⟩
       rw [hz] at hok
       obtain ⟨E,hE⟩:∃ E,gF v b l ((r+1:Nat):Int)=E:=⟨_,rfl⟩
       rw [hE] at hA hB
       have no:okR v b l (r:Int)=false→A++(E.filter (fE v s)++F)=X∧O++(E.filter (jG v s)++G)=Y:=fun q=>by
        rw [q] at hA hB
        exact ⟨by simpa using hA,by simpa using hB⟩
       (repeat (first|simp only [↓QA,QB,Nat.reduceLT,reduceIte,Nat.reduceEqDiff,Nat.reduceAdd,Nat.reduceLeDiff,Nat.reduceMul,Nat.reduceBEq,cQ,hr1,hz]|refine rd0 rfl ?_))
       cases q0:((r:Int)==b)
       ·cases q1:(z.shut==1)
        ·cases q2:((l.length:Int)==4)
         ·rw [q0,q1,q2] at hok
          rw [hok] at hA hB
          simp only [Bool.not_false,Bool.and_self,if_true,List.singleton_append,List.cons_append,List.filter_cons] at hA hB
          have hal:A.length≤625:=by
           have:=congrArg List.length hA
           simp only [List.length_append] at this
           omega
          have hol:O.length≤1000:=by
           have:=congrArg List.length hB
           simp only [List.length_append] at this
           omega
          have hbw:=MF (v:=v) (s:=s) (p:=l++[(r:Int)])
          have hld:=DR v hv.st hv.ra s hs5 (l++[(r:Int)]) (fun x hx=>by
           rcases List.mem_append.1 hx with hx|hx
           ·exact hlr x hx
           ·simp only [List.mem_singleton] at hx;subst hx;omega) (by simp;omega)
          have hcp:=fun (b0 b1 b2 b3:ABlk)=>QW (σ:=[b0,b1,b2,b3,.cells (List.replicate (l.length+1) (.int .i64 0))]) (id:=4) (l:=l) rfl
          have hos:=UA l r
          have hsr:=fun (b0 b1 b2 b3:ABlk) (m:Nat) (hm:m≤4)=>J9 (σ:=[b0,b1,b2,b3,.cells ((l++[(r:Int)]).map (.int .i64))]) (m:=m) (id:=4) (n:=l.length+1) (l:=l++[(r:Int)]) (by omega) (by simp) rfl
          have i4:(0:Int)≤(l.length:Int)∧(l.length:Int)<((l.length+1:Nat):Int)∧1=1:=⟨by omega,by omega,rfl⟩
          obtain ⟨WB,hWB⟩:∃ WB,jG v s (l++[(r:Int)])=WB:=⟨_,rfl⟩
          obtain ⟨BB,hBB⟩:∃ BB,fE v s (l++[(r:Int)])=BB:=⟨_,rfl⟩
          rw [hWB,hBB] at hld
          rw [hWB] at hB hbw
          rw [hBB] at hA hbw
          have a2:=fun (b0 b1:ABlk) (τ:St)=>iJ (σ:=b0::b1::.tok 1 A.length ex2::τ) (t:=2) (ex:=ex2) (sz:=1) (b:=24) (xs:=A.map ints) (ys:=[.ref 4 0 (l.length+1) 1]) (f:=true) (tk:=none) ⟨fR A,by simp [aL,AV.cells,AV.cell],by simp [room];omega,by simp [room];omega⟩ (by simp) A.length (by simp) rfl
          have a3:=fun (b0:ABlk) (τ:St)=>iJ (σ:=b0::.tok 1 O.length ex::τ) (t:=1) (ex:=ex) (sz:=1) (b:=24) (xs:=O.map ints) (ys:=[.ref 4 0 (l.length+1) 1]) (f:=true) (tk:=none) ⟨fR O,by simp [aL,AV.cells,AV.cell],by simp [room];omega,by simp [room];omega⟩ (by simp) O.length (by simp) rfl
          have hml:(l++[(r:Int)]).map (AV.int .i64)=l.map (.int .i64)++[.int .i64 r]:=by simp
          (repeat (first|simp only [↓QA,QB,Nat.reduceLT,reduceIte,Nat.reduceEqDiff,Nat.reduceAdd,Nat.reduceLeDiff,Nat.reduceMul,Nat.reduceBEq,cQ,q0,q1,q2,hwl,hmk,CE,hcp,i4,hos]|refine rd0 rfl ?_))
          refine uI hld (by try simp only [QS,QC,Nat.reduceLT,reduceIte,Nat.reduceEqDiff,Nat.reduceAdd,Nat.reduceLeDiff,Nat.reduceMul,Nat.reduceBEq,cQ,hsr]) (by simp [Scal,Scals]) ?_
          (repeat (first|simp only [↓QA,QB,Nat.reduceLT,reduceIte,Nat.reduceEqDiff,Nat.reduceAdd,Nat.reduceLeDiff,Nat.reduceMul,Nat.reduceBEq,cQ]|refine rd0 rfl ?_))
          cases WB
          ·cases BB
           ·(repeat (first|simp only [↓QA,QB,Nat.reduceLT,reduceIte,Nat.reduceEqDiff,Nat.reduceAdd,Nat.reduceLeDiff,Nat.reduceMul,Nat.reduceBEq,cQ,hwr]|refine rd0 rfl ?_))
            refine ⟨(r+1,O,A,ex,ex2),⟨by simp only;omega,by rw [hE];simpa using hA,by rw [hE];simpa using hB⟩,by simp only;omega,?_⟩
            try simp only [aC,QE,Nat.reduceLT,reduceIte,Nat.reduceEqDiff,Nat.reduceAdd,Nat.reduceLeDiff,Nat.reduceMul,Nat.reduceBEq,cQ,hwr,aJ,ints]
            try simp [aH]
           ·(repeat (first|simp only [↓QA,QB,Nat.reduceLT,reduceIte,Nat.reduceEqDiff,Nat.reduceAdd,Nat.reduceLeDiff,Nat.reduceMul,Nat.reduceBEq,cQ,hwr,a2]|refine rd0 rfl ?_))
            refine ⟨(r+1,O,A++[l++[(r:Int)]],ex,true),⟨by simp only;omega,by rw [hE,←hA];simp,by rw [hE];simpa using hB⟩,by simp only;omega,?_⟩
            have hs1:=J9 (σ:=[.cells (aB v),.tok 1 O.length ex,.tok 1 (A.length+1) true,.cells (eH z).cells,.cells ((l++[(r:Int)]).map (.int .i64))]) (m:=3) (id:=4) (n:=l.length+1) (l:=l++[(r:Int)]) (by omega) (by simp) rfl
            rw [hml] at hs1
            try simp only [↓QA,QB,Nat.reduceLT,reduceIte,Nat.reduceEqDiff,Nat.reduceAdd,Nat.reduceLeDiff,Nat.reduceMul,Nat.reduceBEq,cQ] at hs1
            try simp only [aC,QE,Nat.reduceLT,reduceIte,Nat.reduceEqDiff,Nat.reduceAdd,Nat.reduceLeDiff,Nat.reduceMul,Nat.reduceBEq,cQ,hwr,aJ,ints,hs1,List.map_append,List.map_cons,List.map_nil]
            try simp [aH]
          ·have:=hbw rfl
           subst this
           (repeat (first|simp only [↓QA,QB,Nat.reduceLT,reduceIte,Nat.reduceEqDiff,Nat.reduceAdd,Nat.reduceLeDiff,Nat.reduceMul,Nat.reduceBEq,cQ,hwr,a3]|refine rd0 rfl ?_))
           refine ⟨(r+1,O++[l++[(r:Int)]],A,true,ex2),⟨by simp only;omega,by rw [hE];simpa using hA,by rw [hE,←hB];simp⟩,by simp only;omega,?_⟩
           have hs1:=J9 (σ:=[.cells (aB v),.tok 1 (O.length+1) true,.tok 1 A.length ex2,.cells (eH z).cells,.cells ((l++[(r:Int)]).map (.int .i64))]) (m:=3) (id:=4) (n:=l.length+1) (l:=l++[(r:Int)]) (by omega) (by simp) rfl
           rw [hml] at hs1
           try simp only [↓QA,QB,Nat.reduceLT,reduceIte,Nat.reduceEqDiff,Nat.reduceAdd,Nat.reduceLeDiff,Nat.reduceMul,Nat.reduceBEq,cQ] at hs1
           try simp only [aC,QE,Nat.reduceLT,reduceIte,Nat.reduceEqDiff,Nat.reduceAdd,Nat.reduceLeDiff,Nat.reduceMul,Nat.reduceBEq,cQ,hwr,aJ,ints,hs1,List.map_append,List.map_cons,List.map_nil]
           try simp [aH]
         ·have nn:=no (by rw [hok,q2];simp)
          (repeat (first|simp only [↓QA,QB,Nat.reduceLT,reduceIte,Nat.reduceEqDiff,Nat.reduceAdd,Nat.reduceLeDiff,Nat.reduceMul,Nat.reduceBEq,cQ,q0,q1,q2,hwr]|refine rd0 rfl ?_))
          refine ⟨(r+1,O,A,ex,ex2),⟨by simp only;omega,by rw [hE];exact nn.1,by rw [hE];exact nn.2⟩,by simp only;omega,?_⟩
          try simp only [aC,QE,Nat.reduceLT,reduceIte,Nat.reduceEqDiff,Nat.reduceAdd,Nat.reduceLeDiff,Nat.reduceMul,Nat.reduceBEq,cQ,hwr,aJ,ints]
          try simp [aH]
        ·have nn:=no (by rw [hok,q1];simp)
         (repeat (first|simp only [↓QA,QB,Nat.reduceLT,reduceIte,Nat.reduceEqDiff,Nat.reduceAdd,Nat.reduceLeDiff,Nat.reduceMul,Nat.reduceBEq,cQ,q0,q1,hwr]|refine rd0 rfl ?_))
         refine ⟨(r+1,O,A,ex,ex2),⟨by simp only;omega,by rw [hE];exact nn.1,by rw [hE];exact nn.2⟩,by simp only;omega,?_⟩
         try simp only [aC,QE,Nat.reduceLT,reduceIte,Nat.reduceEqDiff,Nat.reduceAdd,Nat.reduceLeDiff,Nat.reduceMul,Nat.reduceBEq,cQ,hwr,aJ,ints]
         try simp [aH]
       ·have nn:=no (by rw [hok,q0];simp)
        (repeat (first|simp only [↓QA,QB,Nat.reduceLT,reduceIte,Nat.reduceEqDiff,Nat.reduceAdd,Nat.reduceLeDiff,Nat.reduceMul,Nat.reduceBEq,cQ,q0,hwr]|refine rd0 rfl ?_))
        refine ⟨(r+1,O,A,ex,ex2),⟨by simp only;omega,by rw [hE];exact nn.1,by rw [hE];exact nn.2⟩,by simp only;omega,?_⟩
        try simp only [aC,QE,Nat.reduceLT,reduceIte,Nat.reduceEqDiff,Nat.reduceAdd,Nat.reduceLeDiff,Nat.reduceMul,Nat.reduceBEq,cQ,hwr,aJ,ints]
        try simp [aH]
      ·have hr1:r=v.rails.length:=by simp at h3;omega
       rw [hr1,aCW] at hA hB
       simp only [List.nil_append,List.filter_nil] at hA hB
       (repeat (first|simp only [↓QA,QB,Nat.reduceLT,reduceIte,Nat.reduceEqDiff,Nat.reduceAdd,Nat.reduceLeDiff,Nat.reduceMul,Nat.reduceBEq,cQ,hwi]|refine rd0 rfl ?_))
       refine ⟨(i+1,O,A,ex,ex2),⟨by simp only;omega,by rw [hF];exact hA,by rw [hG];exact hB⟩,by simp only;omega,?_⟩
       try simp only [aC,QE,Nat.reduceLT,reduceIte,Nat.reduceEqDiff,Nat.reduceAdd,Nat.reduceLeDiff,Nat.reduceMul,Nat.reduceBEq,cQ,hwi,aJ,ints]
       try simp [aH]
    ·have hi1:i=W.length:=by simp at h2;omega
     rw [hi1,List.drop_length] at hA hB
     simp only [List.flatMap_nil,List.append_nil] at hA hB
     subst hA hB
     (repeat (first|simp only [↓QA,QB,Nat.reduceLT,reduceIte,Nat.reduceEqDiff,Nat.reduceAdd,Nat.reduceLeDiff,Nat.reduceMul,Nat.reduceBEq,cQ]|refine rd0 rfl ?_))
     refine ⟨(k+1,ex),by simp only;omega,by simp only;omega,?_⟩
     try simp only [aC,QE,Nat.reduceLT,reduceIte,Nat.reduceEqDiff,Nat.reduceAdd,Nat.reduceLeDiff,Nat.reduceMul,Nat.reduceBEq,cQ,hX,hY,aJ,ints]
     try simp [aH]
end Go.Am.Room
set_option maxRecDepth 4000
namespace Go.Am.Room
def dS:=And.intro @bK (And.intro @aK (And.intro @aZ (And.intro @aX (And.intro @aY (And.intro @aT (And.intro @bI (And.intro @bF (And.intro @bE (And.intro @dP (And.intro @dA (And.intro @Nat.not_lt_zero (And.intro @List.length_append.{0} (And.intro @Nat.zero_add (And.intro @Nat.mul_one (And.intro @Int.toNat_natCast (And.intro @eM (And.intro @fX (And.intro @fZ (And.intro @kT (@fM))))))))))))))))))))
def lZ (x:Stay):AV:=.agg [.int .i64 x.rail,.int .i64 x.frm,.int .i64 x.til]
theorem cN (x:Stay):lZ x = .agg [.int .i64 x.rail,.int .i64 x.frm,.int .i64 x.til]:=by simp only [lZ]
theorem F3 (x:Stay):lX (lZ x):=jQ (bQ (dJ _ _) (bQ (dJ _ _) (bQ (dJ _ _) fC)))
instance (x:Stay):Dat (lZ x):=⟨F3 x⟩
instance (l:List Stay):Dats (l.map lZ):=⟨cV F3 l⟩
theorem dO (σ:St) (m d:Nat) (l:List Stay):dG σ m d (l.map lZ)=some (l.map lZ):=jX (cV F3 l) σ m d
theorem HB (l:List Stay):aL 3 (l.map lZ)=true:=rJ 3 lZ l fun x=>by simp [cR,lZ,AV.cells,AV.cell]
def db (v:Net) (b m:Nat):List AV:=aB v++[.int .i64 b,.map m]
theorem iP (v:Net) (b m:Nat):(db v b m)[0]? = some (.int .i64 v.stations):=by simp [db,aB]
theorem iN (v:Net) (b m:Nat):(db v b m)[1]? = some (.lit (v.rails.map eH) false none):=by simp [db,aB]
theorem iQ (v:Net) (b m:Nat):(db v b m)[2]? = some (.lit (v.trams.map dC) false none):=by simp [db,aB]
theorem iO (v:Net) (b m:Nat):(db v b m)[3]? = some (.lit (v.seen.map eU) false none):=by simp [db,aB]
theorem iR (v:Net) (b m:Nat):(db v b m)[4]? = some (.int .i64 b):=by simp [db,aB]
theorem iM (v:Net) (b m:Nat):(db v b m)[5]? = some (.map m):=by simp [db,aB]
theorem RW (ss:List Stay) (rail ready m B:Int) (hl:ss.length<9223372036854775808) (hB:∀ x∈ss,x.til≤B) (h0:0≤ready) (hr:ready≤B) (hB2:B≤1000) (hm:0≤m∧m≤20) :
  dL T 120 [.lit (ss.map lZ) false none,.agg [.int .i64 rail,.int .i64 ready,.int .i64 (ready+m)]] (.int .i64 (kH ss rail ready m)):=by
 refine aU (af:=a120) rfl (by simp [a120]) dd ?_
 have hfi:=yB (rail:=rail) (m:=m) hB (show B≤ready+1000 by omega)
 obtain ⟨Z,hZ⟩:∃ Z,kH ss rail ready m=Z:=⟨_,rfl⟩
 rw [hZ] at hfi ⊢
 (repeat (first|simp only [↓QA,QB,Nat.reduceLT,reduceIte,Nat.reduceEqDiff,Nat.reduceAdd,Nat.reduceLeDiff,Nat.reduceMul,Nat.reduceBEq,dS,cN,dO,iP,iN,iQ,iO,iR,iM,a120]|refine rd0 rfl ?_))
 refine bT (S:=Int) ready (fun r=>qY ss rail m ready r) (fun r=>(B-r).toNat)
  (fun r=>[(0,.lit (ss.map lZ) false none),(3,.ptr 0 0)]) (fun r=>[.cells [.int .i64 rail,.int .i64 r,.int .i64 (r+m)]]) (DB _ _ _ _) rfl ?_ fun r hb=>?_
 ·try simp only [aC,QE,Nat.reduceLT,reduceIte,Nat.reduceEqDiff,Nat.reduceAdd,Nat.reduceLeDiff,Nat.reduceMul,Nat.reduceBEq,dS,cN,dO,iP,iN,iQ,iO,iR,iM]
  try simp
 ·have hrB:=zY hB hb hr
  have hr0:=hb.1
  (repeat (first|simp only [↓QA,QB,Nat.reduceLT,reduceIte,Nat.reduceEqDiff,Nat.reduceAdd,Nat.reduceLeDiff,Nat.reduceMul,Nat.reduceBEq,dS,cN,dO,iP,iN,iQ,iO,iR,iM,Q2]|refine rd0 rfl ?_))
  refine bT (S:=Nat×Int) (0,r) (fun a=>a.1≤ss.length∧OP ss rail m ready r a.1 a.2) (fun a=>ss.length-a.1)
   (fun a=>[(0,.lit (ss.map lZ) false none),(3,.ptr 0 0),(5,.ptr 1 0),(10,.lit (ss.map lZ) false none),(11,.int .i64 ss.length),(12,.int .i64 a.1)]) (fun a=>[.cells [.int .i64 rail,.int .i64 a.2,.int .i64 (a.2+m)],.cells [.int .i64 rail,.int .i64 r,.int .i64 (r+m)]]) ⟨by simp,.inl ⟨rfl,by simp⟩⟩ rfl ?_ fun a ha=>?_
  ·try simp only [aC,QE,Nat.reduceLT,reduceIte,Nat.reduceEqDiff,Nat.reduceAdd,Nat.reduceLeDiff,Nat.reduceMul,Nat.reduceBEq,dS,cN,dO,iP,iN,iQ,iO,iR,iM]
   try simp
  ·obtain ⟨k,n⟩:=a
   obtain ⟨hk,hlk⟩:=ha
   simp only at hk hlk
   have hbn:qY ss rail m ready n:=by
    rcases hlk with ⟨e,_⟩|⟨_,e⟩
    ·rw [e];exact hb
    ·exact e
   have hnB:=zY hB hbn hr
   have hn0:=hbn.1
   (repeat (first|simp only [↓QA,QB,Nat.reduceLT,reduceIte,Nat.reduceEqDiff,Nat.reduceAdd,Nat.reduceLeDiff,Nat.reduceMul,Nat.reduceBEq,dS,cN,dO,iP,iN,iQ,iO,iR,iM,O9]|refine rd0 rfl ?_))
   refine aG (fun h=>?_) fun h=>?_
   ·have hk1:k<ss.length:=by simpa using h
    have hw:=bP hk1 hl
    obtain ⟨x,hx⟩:∃ x,ss[k]=x:=⟨_,rfl⟩
    have hxm:x∈ss:=by rw [←hx];exact List.getElem_mem hk1
    have hat:=BX (p:=iW rail r m) hk1
    rw [hx] at hat
    have no:iW rail n m x=false→OP ss rail m ready r (k+1) n:=fun q=>by
     rcases hlk with ⟨e,a⟩|e
     ·subst e
      exact .inl ⟨rfl,by rw [hat,a,q];rfl⟩
     ·exact .inr e
    have yes:iW rail n m x=true→OP ss rail m ready r (k+1) x.til:=fun q=>by
     have q1:=wQ q
     have hrn:r≤n:=by rcases hlk with ⟨e,_⟩|⟨e,_⟩<;>omega
     exact .inr ⟨by omega,D5 hbn hxm (Int.le_refl n) q (fun y h1 h2=>by omega)⟩
    have hcl:iW rail n m x=((x.rail==rail)&&decide (x.frm<n+m)&&decide (n<x.til)):=by
     have:decide (x.rail=rail)=(x.rail==rail):=by rw [Bool.eq_iff_iff];simp
     rw [iW,this]
    have hxB:=hB x hxm
    (repeat (first|simp only [↓QA,QB,Nat.reduceLT,reduceIte,Nat.reduceEqDiff,Nat.reduceAdd,Nat.reduceLeDiff,Nat.reduceMul,Nat.reduceBEq,dS,cN,dO,iP,iN,iQ,iO,iR,iM,hk1,hx]|refine rd0 rfl ?_))
    cases q1:(x.rail==rail)
    ·have nn:=no (by rw [hcl,q1];simp)
     (repeat (first|simp only [↓QA,QB,Nat.reduceLT,reduceIte,Nat.reduceEqDiff,Nat.reduceAdd,Nat.reduceLeDiff,Nat.reduceMul,Nat.reduceBEq,dS,cN,dO,iP,iN,iQ,iO,iR,iM,q1,hw]|refine rd0 rfl ?_))
     refine ⟨(k+1,n),⟨by simp only;omega,nn⟩,by simp only;omega,?_⟩
     try simp only [aC,QE,Nat.reduceLT,reduceIte,Nat.reduceEqDiff,Nat.reduceAdd,Nat.reduceLeDiff,Nat.reduceMul,Nat.reduceBEq,dS,cN,dO,iP,iN,iQ,iO,iR,iM,hw]
     try simp [aH]
    ·cases q2:decide (x.frm<n+m)
     ·have nn:=no (by rw [hcl,q1,q2];simp)
      (repeat (first|simp only [↓QA,QB,Nat.reduceLT,reduceIte,Nat.reduceEqDiff,Nat.reduceAdd,Nat.reduceLeDiff,Nat.reduceMul,Nat.reduceBEq,dS,cN,dO,iP,iN,iQ,iO,iR,iM,q1,hw,q2]|refine rd0 rfl ?_))
      refine ⟨(k+1,n),⟨by simp only;omega,nn⟩,by simp only;omega,?_⟩
      try simp only [aC,QE,Nat.reduceLT,reduceIte,Nat.reduceEqDiff,Nat.reduceAdd,Nat.reduceLeDiff,Nat.reduceMul,Nat.reduceBEq,dS,cN,dO,iP,iN,iQ,iO,iR,iM,hw]
      try simp [aH]
     ·cases q3:decide (n<x.til)
      ·have nn:=no (by rw [hcl,q1,q2,q3];simp)
       (repeat (first|simp only [↓QA,QB,Nat.reduceLT,reduceIte,Nat.reduceEqDiff,Nat.reduceAdd,Nat.reduceLeDiff,Nat.reduceMul,Nat.reduceBEq,dS,cN,dO,iP,iN,iQ,iO,iR,iM,q1,hw,q2,q3]|refine rd0 rfl ?_))
       refine ⟨(k+1,n),⟨by simp only;omega,nn⟩,by simp only;omega,?_⟩
       try simp only [aC,QE,Nat.reduceLT,reduceIte,Nat.reduceEqDiff,Nat.reduceAdd,Nat.reduceLeDiff,Nat.reduceMul,Nat.reduceBEq,dS,cN,dO,iP,iN,iQ,iO,iR,iM,hw]
       try simp [aH]
      ·have hc:iW rail n m x=true:=by rw [hcl,q1,q2,q3];rfl
       have nn:=yes hc
       have hlt:=wQ hc
       have w1:IntKind.i64.wrap (n+m-n)=m:=by rw [show n+m-n=m by omega];exact eA ⟨by omega,by omega⟩
       have w2:IntKind.i64.wrap (x.til+m)=x.til+m:=eA ⟨by omega,by omega⟩
       (repeat (first|simp only [↓QA,QB,Nat.reduceLT,reduceIte,Nat.reduceEqDiff,Nat.reduceAdd,Nat.reduceLeDiff,Nat.reduceMul,Nat.reduceBEq,dS,cN,dO,iP,iN,iQ,iO,iR,iM,q1,hw,q2,q3,w1,w2]|refine rd0 rfl ?_))
       refine ⟨(k+1,x.til),⟨by simp only;omega,nn⟩,by simp only;omega,?_⟩
       try simp only [aC,QE,Nat.reduceLT,reduceIte,Nat.reduceEqDiff,Nat.reduceAdd,Nat.reduceLeDiff,Nat.reduceMul,Nat.reduceBEq,dS,cN,dO,iP,iN,iQ,iO,iR,iM,hw]
       try simp [aH,okVs,okV]
   ·have hk1:k=ss.length:=by simp at h;omega
    rw [hk1] at hlk
    have hrr:(rail==rail)=true:=by simp
    rcases hlk with ⟨e,a⟩|⟨e1,e2⟩
    ·rw [List.take_length] at a
     have hz:=EZ hfi (EA hb a)
     subst e
     have g:(n==n)=true:=by simp
     have g2:(n+m==n+m)=true:=by simp
     (repeat (first|simp only [↓QA,QB,Nat.reduceLT,reduceIte,Nat.reduceEqDiff,Nat.reduceAdd,Nat.reduceLeDiff,Nat.reduceMul,Nat.reduceBEq,dS,cN,dO,iP,iN,iQ,iO,iR,iM,g,g2,hrr,hz]|refine rd0 rfl ?_))
    ·have g:(n==r)=false:=by simp;omega
     (repeat (first|simp only [↓QA,QB,Nat.reduceLT,reduceIte,Nat.reduceEqDiff,Nat.reduceAdd,Nat.reduceLeDiff,Nat.reduceMul,Nat.reduceBEq,dS,cN,dO,iP,iN,iQ,iO,iR,iM,g,hrr,Bool.false_and]|refine rd0 rfl ?_))
     refine ⟨n,e2,by omega,?_⟩
     try simp only [aC,QE,Nat.reduceLT,reduceIte,Nat.reduceEqDiff,Nat.reduceAdd,Nat.reduceLeDiff,Nat.reduceMul,Nat.reduceBEq,dS,cN,dO,iP,iN,iQ,iO,iR,iM]
     try simp [aH,okVs,okV]
theorem TP (v:Net) (b m p:Nat) (σ:St) (hσ:aM σ p=some (db v b m)) (i:Nat) (hi:i<v.trams.length):j9 T (.func 110 [.ptr p 0] []) [.int .i64 i] σ (ints (eO (jM v) i)):=by
 refine eX (af:=a110) rfl (by simp [a110]) ?_
 rw [FX hi]
 obtain ⟨z,hz⟩:∃ z,v.trams[i]=z:=⟨_,rfl⟩
 rw [hz]
 (repeat (first|simp only [↓QA,QB,Nat.reduceLT,reduceIte,Nat.reduceEqDiff,Nat.reduceAdd,Nat.reduceLeDiff,Nat.reduceMul,Nat.reduceBEq,dS,cN,dO,iP,iN,iQ,iO,iR,iM,a110,hσ,hi,hz]|refine rd0 rfl ?_))
 refine fQ [] (by first|rfl|simp) ?_
 try simp only [QS,QC,Nat.reduceLT,reduceIte,Nat.reduceEqDiff,Nat.reduceAdd,Nat.reduceLeDiff,Nat.reduceMul,Nat.reduceBEq,dS,cN,dO,iP,iN,iQ,iO,iR,iM]
def cW (cs:List Int) (j:Nat):Int:=fV cs (j:Int)
theorem JD (cs:List Int) (x:Int) {k:Nat} (hk:cs.length=k):cW (cs++[x])=mS (cW cs) k x:=by
 funext j
 simp only [cW,fV,Int.toNat_natCast,mS]
 by_cases e:j=k
 ·subst e;simp [←hk]
 ·rw [if_neg e]
  by_cases h:j<cs.length
  ·rw [List.getElem?_append_left h]
  ·rw [List.getElem?_eq_none (by simp;omega),List.getElem?_eq_none (by omega)]
theorem wS (f:Nat→Int) (i:Nat) (a b:Int):mS (mS f i a) i b=mS f i b:=by
 funext j;simp only [mS];split<;>rfl
theorem S9 (f:Nat→Int) (i:Nat) (a:Int):mS f i a i=a:=by simp [mS]
theorem aB7 (v:Net) (m:Int→Int) (ps:List (List Int)):bX 3 (cW (eL v m ps 0).2)=[.int .i64 0,.int .i64 0,.int .i64 0]:=by
 simp [bX,cW,fV,eL,List.range_succ]
theorem MZ (M:Nat→Int) (k:Nat) (σ:St) (hσ:aM σ k=some (bX 5 M)) (r:Nat) (hr:r<5):j9 T (.func 119 [] [.ptr k 0]) [.int .i64 r] σ (.bool (M r==0)):=by
 refine eX (af:=a119) rfl (by simp [a119]) ?_
 have i5:(0:Int)≤(r:Int)∧(r:Int)<((5:Nat):Int):=⟨by omega,by omega⟩
 have hg:=i7 5 M hr
 (repeat (first|simp only [↓QA,QB,Nat.reduceLT,reduceIte,Nat.reduceEqDiff,Nat.reduceAdd,Nat.reduceLeDiff,Nat.reduceMul,Nat.reduceBEq,dS,cN,dO,iP,iN,iQ,iO,iR,iM,a119,i5,hσ,hg]|refine rd0 rfl ?_))
 refine fQ [] (by first|rfl|simp) ?_
 try simp only [QS,QC,Nat.reduceLT,reduceIte,Nat.reduceEqDiff,Nat.reduceAdd,Nat.reduceLeDiff,Nat.reduceMul,Nat.reduceBEq,dS,cN,dO,iP,iN,iQ,iO,iR,iM]
theorem uM (v:Net) (h:Fits v) (s:Int):dL T 19 [bM v,.int .i64 s] (oO (gI v s)):=by
 refine aU (af:=a19) rfl (by simp [a19]) dd ?_
 obtain ⟨W,hW⟩:∃ W,IntKind.i64.wrap (v.stations-1)=W:=⟨_,rfl⟩
 (repeat (first|simp only [↓QA,QB,Nat.reduceLT,reduceIte,Nat.reduceEqDiff,Nat.reduceAdd,Nat.reduceLeDiff,Nat.reduceMul,Nat.reduceBEq,dS,cN,dO,iP,iN,iQ,iO,iR,iM,a19]|refine rd0 rfl ?_))
 ((first|refine aD (kL v h) rfl dd ?_|refine aE (kL v h) rfl dd ?_);(repeat (first|simp only [↓QA,QB,Nat.reduceLT,reduceIte,Nat.reduceEqDiff,Nat.reduceAdd,Nat.reduceLeDiff,Nat.reduceMul,Nat.reduceBEq,dS,cN,dO,iP,iN,iQ,iO,iR,iM,mE]|refine rd0 rfl ?_)))
 cases h0:((bY v).2.2==0)
 ·have h0':(bY v).2.2≠0:=by simpa using h0
  have hp:gI v s=([],(bY v).2.2):=by simp [gI,h0']
  rw [hp]
  (repeat (first|simp only [↓QA,QB,Nat.reduceLT,reduceIte,Nat.reduceEqDiff,Nat.reduceAdd,Nat.reduceLeDiff,Nat.reduceMul,Nat.reduceBEq,dS,cN,dO,iP,iN,iQ,iO,iR,iM,h0,oO,bJ,List.map_nil]|refine rd0 rfl ?_))
  try rfl
 ·have h0':(bY v).2.2=0:=by simpa using h0
  have hv:=dI h0'
  have hst:=hv.st
  have hWe:IntKind.i64.wrap (v.stations-1)=v.stations-1:=eA ⟨by omega,by omega⟩
  (repeat (first|simp only [↓QA,QB,Nat.reduceLT,reduceIte,Nat.reduceEqDiff,Nat.reduceAdd,Nat.reduceLeDiff,Nat.reduceMul,Nat.reduceBEq,dS,cN,dO,iP,iN,iQ,iO,iR,iM,h0,hWe]|refine rd0 rfl ?_))
  ((first|refine eT (cG 0 (v.stations-1) [s] (by simp)) (by simp [clr,clrs,ints]) (by simp [okV,okVs]) ?_|refine fH (cG 0 (v.stations-1) [s] (by simp)) (by simp [clr,clrs,ints]) (by simp [okV,okVs]) ?_);(repeat (first|simp only [↓QA,QB,Nat.reduceLT,reduceIte,Nat.reduceEqDiff,Nat.reduceAdd,Nat.reduceLeDiff,Nat.reduceMul,Nat.reduceBEq,dS,cN,dO,iP,iN,iQ,iO,iR,iM,kO]|refine rd0 rfl ?_)))
  rw [show inR s 0 (v.stations-1)=nC v s from rfl]
  cases h1:nC v s
  ·have hp:gI v s=([],4):=by simp [gI,h0',h1]
   rw [hp]
   (repeat (first|simp only [↓QA,QB,Nat.reduceLT,reduceIte,Nat.reduceEqDiff,Nat.reduceAdd,Nat.reduceLeDiff,Nat.reduceMul,Nat.reduceBEq,dS,cN,dO,iP,iN,iQ,iO,iR,iM,h0,oO,bJ,List.map_nil]|refine rd0 rfl ?_))
   try rfl
  ·have hp:gI v s=(dQ v s [],0):=by simp [gI,h0',h1]
   rw [hp]
   rw [oP] at h1
   obtain ⟨S,rfl⟩:∃ S:Nat,s=(S:Int):=⟨s.toNat,by omega⟩
   have hw:=AW v hv S (by omega) (-1)
   have hb:qN (-1)=[]:=rfl
   rw [hb] at hw
   (repeat (first|simp only [↓QA,QB,Nat.reduceLT,reduceIte,Nat.reduceEqDiff,Nat.reduceAdd,Nat.reduceLeDiff,Nat.reduceMul,Nat.reduceBEq,dS,cN,dO,iP,iN,iQ,iO,iR,iM,h0]|refine rd0 rfl ?_))
   ((first|refine aD (hw) rfl dd ?_|refine aE (hw) rfl dd ?_);(repeat (first|simp only [↓QA,QB,Nat.reduceLT,reduceIte,Nat.reduceEqDiff,Nat.reduceAdd,Nat.reduceLeDiff,Nat.reduceMul,Nat.reduceBEq,dS,cN,dO,iP,iN,iQ,iO,iR,iM,oO,bJ]|refine rd0 rfl ?_)))
   try try simp only [QS,QC,Nat.reduceLT,reduceIte,Nat.reduceEqDiff,Nat.reduceAdd,Nat.reduceLeDiff,Nat.reduceMul,Nat.reduceBEq,dS,cN,dO,iP,iN,iQ,iO,iR,iM]
end Go.Am.Room
set_option maxRecDepth 8000
namespace Go.Am.Room
def fA:=And.intro @bK (And.intro @aK (And.intro @aZ (And.intro @aX (And.intro @aY (And.intro @aT (And.intro @bI (And.intro @bF (And.intro @bE (And.intro @dP (And.intro @dA (And.intro @Nat.not_lt_zero (And.intro @List.length_append.{0} (And.intro @Nat.zero_add (And.intro @Nat.mul_one (And.intro @Int.toNat_natCast (And.intro @cN (And.intro @dO (And.intro @eM (And.intro @fX (And.intro @fZ (And.intro @kT (And.intro @fM (And.intro @iP (And.intro @iN (And.intro @iQ (And.intro @iO (And.intro @iR (And.intro @iM (And.intro @Nat.add_lt_add_iff_left (@Nat.lt_add_right_iff_pos))))))))))))))))))))))))))))))
theorem IP (v:Net) (hv:Vd v) (b m0 p:Nat) (σ:St) (hσ:aM σ p=some (db v b m0)) (hp:p<σ.length) (f:AV) (hk3:∀ τ n,σ.length≤n→cX (σ++τ) n 20 f=some f) (ps:List (List Int)) (hps:RunOk v ps) (hf:∀ i,i<v.trams.length→∀ τ,j9 T f [.int .i64 i] (σ++τ) (ints (eO ps i))) (M:Nat→Int) (m:Int→Int) (hM:∀ i:Nat,m (i:Int)=M i) (hm:A4 v m) :
  j9 T (.func 109 [] []) [.ptr p 0,.agg (bX 5 M),f] σ (.agg (bX 3 (cW (iE v ps m)))):=by
 refine eX (af:=a109) rfl (by simp [a109]) ?_
 have hnt:=hv.ntr
 have hnr:=hv.nra
 have hk:u4 σ f:=fun τ=>hk3 τ _ (Nat.le_refl _)
 have hk0:=hk.nil
 have hk2:∀ τ n,cX (σ++τ) (σ.length+n) 20 f=some f:=fun τ n=>hk3 τ _ (by omega)
 have hk4:∀ τ,cX (σ++τ) σ.length 20 f=some f:=hk
 have hσ2:=fun τ=>lG hσ τ
 have hbd:=JC hv hm hps
 have hz:=aB7 v m ps
 (repeat (first|simp only [↓QA,QB,Nat.reduceLT,reduceIte,Nat.reduceEqDiff,Nat.reduceAdd,Nat.reduceLeDiff,Nat.reduceMul,Nat.reduceBEq,fA,a109,hσ2,←hz]|refine rd0 rfl ?_))
 refine hH 7 3 [] rfl ?_
 refine bT (S:=Nat×Bool) (0,false) (fun a=>a.1≤v.trams.length) (fun a=>v.trams.length-a.1)
  (fun a=>[(2,f),(4,.ptr σ.length 0),(6,.ptr (σ.length+1) 0),(7,.lit ((eL v m ps a.1).1.map lZ) false (some (σ.length+2))),(18,.lit (v.trams.map dC) false none),(19,.int .i64 v.trams.length),(20,.int .i64 a.1)])
  (fun a=>σ++[.cells (bX 5 M),.cells (bX 3 (cW (eL v m ps a.1).2)),.tok 3 (eL v m ps a.1).1.length a.2]) (Nat.zero_le _) (by simp [eL]) ?_ fun a ha=>?_
 ·try simp only [aC,QE,Nat.reduceLT,reduceIte,Nat.reduceEqDiff,Nat.reduceAdd,Nat.reduceLeDiff,Nat.reduceMul,Nat.reduceBEq,fA,hk2,hk4]
  try simp [eL]
 ·obtain ⟨i,ex⟩:=a
  simp only at ha
  (repeat (first|simp only [↓QA,QB,Nat.reduceLT,reduceIte,Nat.reduceEqDiff,Nat.reduceAdd,Nat.reduceLeDiff,Nat.reduceMul,Nat.reduceBEq,fA,PQ]|refine rd0 rfl ?_))
  refine aG (fun h=>?_) fun h=>?_
  ·have hi1:i<v.trams.length:=by simpa using h
   have hwi:=bP hi1 (by omega)
   obtain ⟨b1,b2⟩:=hbd i (by omega)
   have hlc:=rS v m ps i
   have hsu:=IH v m ps i
   have hto:=wK hv hi1
   have hpm:=BT hps hi1
   have hp4:=hps.few _ hpm
   have hpr:=hps.rails _ hpm
   have hfp:=fun τ=>hf i hi1 τ
   rw [xX hi1] at hsu
   obtain ⟨t,ht⟩:∃ t,v.trams[i]=t:=⟨_,rfl⟩
   obtain ⟨p,hpp⟩:∃ p,eO ps i=p:=⟨_,rfl⟩
   rw [ht] at hto hsu
   rw [hpp] at hp4 hpr hsu
   simp only [hpp] at hfp
   have hlv:=hto.leaves
   obtain ⟨L,hL⟩:∃ L,t.leaves=L:=⟨_,rfl⟩
   rw [hL] at hlv hsu
   obtain ⟨SS,hSS⟩:∃ SS,(eL v m ps i).1=SS:=⟨_,rfl⟩
   obtain ⟨OO,hOO⟩:∃ OO,(eL v m ps i).2=OO:=⟨_,rfl⟩
   rw [hSS] at b1 hsu
   rw [hOO] at b2 hlc hsu
   have hgo:nM m i L p SS=if p.any (fun r=>m r==0)=true then (SS,-1) else nQ m i p L SS:=rfl
   rw [hSS,hOO]
   obtain ⟨R,hR⟩:∃ R,nM m i L p SS=R:=⟨_,rfl⟩
   rw [hR] at hsu hgo
   have hsu1:(eL v m ps (i+1)).1=R.1:=by rw [hsu]
   have hsu2:cW (eL v m ps (i+1)).2=mS (cW OO) i R.2:=by rw [hsu];exact JD OO R.2 hlc
   have i3:(0:Int)≤(i:Int)∧(i:Int)<((3:Nat):Int):=⟨by omega,by omega⟩
   have c3:i+1≤3:=by omega
   have hset:=fun (g:Nat→Int) x=>qA 3 g x (i:=i) (by omega)
   have hget:=fun (g:Nat→Int)=>i7 3 g (i:=i) (by omega)
   have hct:=fun (C:ABlk) (τ:St)=>rT (σ++(.cells (bX 5 M)::C::τ)) (.func 119 [] [.ptr σ.length 0]) p (fun r=>m r==0) (by omega) (fun υ=>by try simp only [QS,QC,Nat.reduceLT,reduceIte,Nat.reduceEqDiff,Nat.reduceAdd,Nat.reduceLeDiff,Nat.reduceMul,Nat.reduceBEq,fA,List.length_append];simp) (fun x hx=>by
    have hxr:=hpr x hx
    obtain ⟨r,rfl⟩:∃ r:Nat,x=(r:Int):=⟨x.toNat,by omega⟩
    rw [hM]
    exact MZ M σ.length _ (by rw [jZ];rfl) r (by omega))
   (repeat (first|simp only [↓QA,QB,Nat.reduceLT,reduceIte,Nat.reduceEqDiff,Nat.reduceAdd,Nat.reduceLeDiff,Nat.reduceMul,Nat.reduceBEq,fA,hi1,ht,hL,i3,c3,hset]|refine rd0 rfl ?_))
   refine cM (hfp _) ?_
   (repeat (first|simp only [↓QA,QB,Nat.reduceLT,reduceIte,Nat.reduceEqDiff,Nat.reduceAdd,Nat.reduceLeDiff,Nat.reduceMul,Nat.reduceBEq,fA]|refine rd0 rfl ?_))
   refine cM (hct _ _) ?_
   have hwt:∀ (TB:ABlk) (K:KJ) (e:Env),Env.get e 2=f→Env.get e 4 = .ptr σ.length 0→Env.get e 6 = .ptr (σ.length+1) 0→Env.get e 7 = .lit (SS.map lZ) false (some (σ.length+2))→Env.get e 8 = .int .i64 i→Env.get e 18 = .lit (v.trams.map dC) false none→Env.get e 19 = .int .i64 v.trams.length→Env.get e 20 = .int .i64 i→Env.get e 37=ints p→Env.get e 38 = .int .i64 p.length→Env.get e 39 = .int .i64 0 →
     p.any (fun r=>m r==0)=false→nQ m i p L SS=R →
     (∀ e' ex',Env.get e' 2=f→Env.get e' 4 = .ptr σ.length 0→Env.get e' 6 = .ptr (σ.length+1) 0→Env.get e' 7 = .lit (R.1.map lZ) false (some (σ.length+2))→Env.get e' 18 = .lit (v.trams.map dC) false none→Env.get e' 19 = .int .i64 v.trams.length→Env.get e' 20 = .int .i64 i →
      K (some (.exit 2)) e' (σ++[.cells (bX 5 M),.cells (bX 3 (mS (cW OO) i R.2)),.tok 3 R.1.length ex',TB])) →
     rK (K:=⟨K⟩) T (.loop I1) e (σ++[.cells (bX 5 M),.cells (bX 3 (mS (cW OO) i L)),.tok 3 SS.length ex,TB]):=by
    intro TB K e q2 q4 q6 q7 q8 q18 q19 q20 q37 q38 q39 hc hgo hK
    refine bT (S:=Nat×Int×List Stay×Bool) (0,L,SS,ex) (fun a=>a.1≤p.length∧0≤a.2.1∧a.2.1≤60+20*(4*i+a.1:Nat)∧StaysOk a.2.2.1 (4*i+a.1)∧nQ m i (p.drop a.1) a.2.1 a.2.2.1=R) (fun a=>p.length-a.1)
     (fun a=>[(2,f),(4,.ptr σ.length 0),(6,.ptr (σ.length+1) 0),(7,.lit (a.2.2.1.map lZ) false (some (σ.length+2))),(8,.int .i64 i),(18,.lit (v.trams.map dC) false none),(19,.int .i64 v.trams.length),(20,.int .i64 i),(37,ints p),(38,.int .i64 p.length),(39,.int .i64 a.1)])
     (fun a=>σ++[.cells (bX 5 M),.cells (bX 3 (mS (cW OO) i a.2.1)),.tok 3 a.2.2.1.length a.2.2.2,TB]) ⟨by simp,by simp only;omega,by simp only;omega,b1,hgo⟩ rfl ?_ fun a ha=>?_
    ·try simp only [aC,QE,Nat.reduceLT,reduceIte,Nat.reduceEqDiff,Nat.reduceAdd,Nat.reduceLeDiff,Nat.reduceMul,Nat.reduceBEq,fA,ints,hk2,hk4,q2,q4,q6,q7,q8,q18,q19,q20,q37,q38,q39]
     try simp [aH]
    ·obtain ⟨j,at_,SS,ex⟩:=a
     obtain ⟨hj,ha0,ha1,hso,hgo⟩:=ha
     simp only at hj ha0 ha1 hso hgo
     (repeat (first|simp only [↓QA,QB,Nat.reduceLT,reduceIte,Nat.reduceEqDiff,Nat.reduceAdd,Nat.reduceLeDiff,Nat.reduceMul,Nat.reduceBEq,fA,I1]|refine rd0 rfl ?_))
     refine aG (fun h2=>?_) fun h2=>?_
     ·have hj1:j<p.length:=by simpa using h2
      have hwj:=bP hj1 (by omega)
      have hpk:=hpr _ (List.getElem_mem hj1)
      rw [List.drop_eq_getElem_cons hj1] at hgo
      obtain ⟨r,hr⟩:∃ r:Nat,p[j]=(r:Int):=⟨p[j].toNat,by omega⟩
      rw [hr] at hpk hgo
      have hmr:=hm r hpk.1 hpk.2
      have hMr:=hM r
      obtain ⟨Q,hQ⟩:∃ Q,M r=Q:=⟨_,rfl⟩
      rw [hQ] at hMr
      rw [hMr] at hmr
      simp only [nQ,hMr] at hgo
      obtain ⟨f1,f2,f3⟩:=F4 (rail:=(r:Int)) (m:=Q) hso (by omega) ha0 ha1
      have hsl:=hso.len
      have hfr:=RW SS r at_ Q (60+20*((4*i+j:Nat):Int)) (by omega) hso.til ha0 ha1 (by omega) (by omega)
      obtain ⟨F,hF⟩:∃ F,kH SS r at_ Q=F:=⟨_,rfl⟩
      rw [hF] at hgo f2 f3 hfr
      have hwF:IntKind.i64.wrap (F+Q)=F+Q:=eA ⟨by omega,by omega⟩
      have hwA:IntKind.i64.wrap (at_+Q)=at_+Q:=eA ⟨by omega,by omega⟩
      have i5:(0:Int)≤(r:Int)∧(r:Int)<((5:Nat):Int):=⟨by omega,by omega⟩
      have hg5:=i7 5 M (show r<5 by omega)
      rw [hQ] at hg5
      have a7:=fun (b0 b1:ABlk) (τ:St)=>iJ (σ:=σ++(b0::b1::.tok 3 SS.length ex::τ)) (t:=σ.length+2) (ex:=ex) (sz:=3) (b:=24) (xs:=SS.map lZ) (ys:=[.agg [.int .i64 r,.int .i64 F,.int .i64 (F+Q)]]) (f:=true) (tk:=none) ⟨HB SS,by simp [aL,cR,AV.cells,AV.cell],by simp [room];omega,by simp [room];omega⟩ (by simp) SS.length (by simp) (by rw [sS];rfl)
      (repeat (first|simp only [↓QA,QB,Nat.reduceLT,reduceIte,Nat.reduceEqDiff,Nat.reduceAdd,Nat.reduceLeDiff,Nat.reduceMul,Nat.reduceBEq,fA,hj1,hr,i3,i5,hget,hg5,S9,hwA]|refine rd0 rfl ?_))
      ((first|refine uI (hfr) (by try simp only [QS,QC,Nat.reduceLT,reduceIte,Nat.reduceEqDiff,Nat.reduceAdd,Nat.reduceLeDiff,Nat.reduceMul,Nat.reduceBEq,fA]) trivial ?_|refine wU (hfr) (by try simp only [QS,QC,Nat.reduceLT,reduceIte,Nat.reduceEqDiff,Nat.reduceAdd,Nat.reduceLeDiff,Nat.reduceMul,Nat.reduceBEq,fA]) trivial ?_);(repeat (first|simp only [↓QA,QB,Nat.reduceLT,reduceIte,Nat.reduceEqDiff,Nat.reduceAdd,Nat.reduceLeDiff,Nat.reduceMul,Nat.reduceBEq,fA,hj1,hr,i3,i5,c3,hget,hg5,S9,hwA,hwF,hset,wS,a7]|refine rd0 rfl ?_)))
      refine ⟨(j+1,F+Q,SS++[⟨i,r,F,F+Q⟩],true),⟨by simp only;omega,by simp only;omega,by simp only;omega,?_,hgo⟩,by simp only;omega,?_⟩
      ·refine ⟨by simp;omega,fun x hx=>?_,fun x hx=>?_⟩
       ·rcases List.mem_append.1 hx with hx|hx
        ·have:=hso.til x hx;simp only;omega
        ·simp only [List.mem_singleton] at hx;subst hx;simp only;omega
       ·rcases List.mem_append.1 hx with hx|hx
        ·exact hso.frm x hx
        ·simp only [List.mem_singleton] at hx;subst hx;simp only;omega
      ·try simp only [aC,QE,Nat.reduceLT,reduceIte,Nat.reduceEqDiff,Nat.reduceAdd,Nat.reduceLeDiff,Nat.reduceMul,Nat.reduceBEq,fA,hwj,ints,hk2,hk4,List.map_append,List.map_cons,List.map_nil]
       try simp [aH,okVs,okV,m4]
     ·have hj1:j=p.length:=by
       have:¬j<p.length:=by simpa using h2
       omega
      rw [List.drop_eq_nil_of_le (by omega),nQ] at hgo
      subst hgo
      (repeat (first|simp only [↓QA,QB,Nat.reduceLT,reduceIte,Nat.reduceEqDiff,Nat.reduceAdd,Nat.reduceLeDiff,Nat.reduceMul,Nat.reduceBEq,fA]|refine rd0 rfl ?_))
      refine hK _ ex ?_ ?_ ?_ ?_ ?_ ?_ ?_
      all_goals try simp only [aC,QE,Nat.reduceLT,reduceIte,Nat.reduceEqDiff,Nat.reduceAdd,Nat.reduceLeDiff,Nat.reduceMul,Nat.reduceBEq,fA]
   cases hc:p.any (fun r=>m r==0)
   ·rw [hc] at hgo
    simp only [Bool.false_eq_true,if_false] at hgo
    (repeat (first|simp only [↓QA,QB,Nat.reduceLT,reduceIte,Nat.reduceEqDiff,Nat.reduceAdd,Nat.reduceLeDiff,Nat.reduceMul,Nat.reduceBEq,fA]|refine rd0 rfl ?_))
    refine hwt _ _ _ ?_ ?_ ?_ ?_ ?_ ?_ ?_ ?_ ?_ ?_ ?_ hc hgo.symm ?_
    all_goals try try simp only [aC,QE,Nat.reduceLT,reduceIte,Nat.reduceEqDiff,Nat.reduceAdd,Nat.reduceLeDiff,Nat.reduceMul,Nat.reduceBEq,fA,ints]
    intro e' ex' q2 q4 q6 q7 q18 q19 q20
    (repeat (first|simp only [↓QA,QB,Nat.reduceLT,reduceIte,Nat.reduceEqDiff,Nat.reduceAdd,Nat.reduceLeDiff,Nat.reduceMul,Nat.reduceBEq,fA,q2,q4,q6,q7,q18,q19,q20,hwi]|refine rd0 rfl ?_))
    refine ⟨(i+1,ex'),by simp only;omega,by simp only;omega,?_⟩
    try simp only [aC,QE,Nat.reduceLT,reduceIte,Nat.reduceEqDiff,Nat.reduceAdd,Nat.reduceLeDiff,Nat.reduceMul,Nat.reduceBEq,fA,q2,q4,q6,q7,q18,q19,q20,hwi,hsu1,hsu2,hk2,hk4]
    try simp [aH,okVs,okV,m4]
   ·rw [hc] at hgo
    simp only [if_true] at hgo
    subst hgo
    (repeat (first|simp only [↓QA,QB,Nat.reduceLT,reduceIte,Nat.reduceEqDiff,Nat.reduceAdd,Nat.reduceLeDiff,Nat.reduceMul,Nat.reduceBEq,fA,hset,i3,c3,wS,hwi]|refine rd0 rfl ?_))
    refine ⟨(i+1,ex),by simp only;omega,by simp only;omega,?_⟩
    try simp only [aC,QE,Nat.reduceLT,reduceIte,Nat.reduceEqDiff,Nat.reduceAdd,Nat.reduceLeDiff,Nat.reduceMul,Nat.reduceBEq,fA,hwi,hsu1,hsu2,hk2,hk4]
    try simp [aH,okVs,okV,m4]
  ·have hi1:i=v.trams.length:=by
    have:¬i<v.trams.length:=by simpa using h
    omega
   rw [hi1]
   (repeat (first|simp only [↓QA,QB,Nat.reduceLT,reduceIte,Nat.reduceEqDiff,Nat.reduceAdd,Nat.reduceLeDiff,Nat.reduceMul,Nat.reduceBEq,fA]|refine rd0 rfl ?_))
   refine fQ [.cells (bX 5 M),.cells (bX 3 (cW (eL v m ps v.trams.length).2)),.tok 3 (eL v m ps v.trams.length).1.length ex] (by first|rfl|simp) ?_
   try simp only [QS,QC,Nat.reduceLT,reduceIte,Nat.reduceEqDiff,Nat.reduceAdd,Nat.reduceLeDiff,Nat.reduceMul,Nat.reduceBEq,fA,iE]
end Go.Am.Room
set_option maxRecDepth 8000
namespace Go.Am.Room
def iZ:=And.intro @bK (And.intro @aK (And.intro @aZ (And.intro @aX (And.intro @aY (And.intro @aT (And.intro @bI (And.intro @bF (And.intro @bE (And.intro @dP (And.intro @dA (And.intro @Nat.not_lt_zero (And.intro @List.length_append.{0} (And.intro @Nat.zero_add (And.intro @Nat.mul_one (And.intro @Int.toNat_natCast (And.intro @eM (And.intro @fX (And.intro @fZ (And.intro @kT (And.intro @fM (And.intro @iP (And.intro @iN (And.intro @iQ (And.intro @iO (And.intro @iR (And.intro @iM (And.intro @Nat.add_lt_add_iff_left (@Nat.lt_add_right_iff_pos))))))))))))))))))))))))))))
def rl (l:List Int) (i:Nat):Int:=(l[i]?).getD 0
theorem YY {l:List Int} {k:Nat} (h:k<l.length):rl l k=l[k]:=by simp [rl,h]
theorem P7 (c:List Int) (i:Nat):rlI c (i:Int)=rl c i:=by simp [rlI,rl]
theorem PM {a b:List Int} (h1:a.length=b.length) (h2:a.length≤5):((List.range 5).all fun i=>rl a i==rl b i)=decide (a=b):=by
 rw [Bool.eq_iff_iff,List.all_eq_true,decide_eq_true_eq]
 constructor
 ·intro h
  refine List.ext_getElem h1 fun i hi1 hi2=>?_
  have:=h i (by simp;omega)
  rw [beq_iff_eq,YY (by omega),YY (by omega)] at this
  exact this
 ·rintro rfl i _
  simp
abbrev K5:={ c:List Int // c.length=5 }
def pad (c:List Int):K5:=⟨(List.range 5).map (rl c),by simp⟩
theorem Q6 (c:List Int) {i:Nat} (h:i<5):rl (pad c).1 i=rl c i:=by simp [pad,rl,h]
theorem WS (c:List Int):bX 5 (rl (pad c).1)=bX 5 (rl c):=vH fun i hi=>Q6 c hi
theorem MM (v:Net) {c:List Int} (h:c.length≤5):d5 v (pad c).1=d5 v c:=by
 have:rlI (pad c).1=rlI c:=by
  funext r
  simp only [rlI]
  by_cases hr:r.toNat<5
  ·exact Q6 c hr
  ·rw [List.getElem?_eq_none (by rw [(pad c).2];omega),List.getElem?_eq_none (by omega)]
 rw [d5,d5,this]
def VS (w:K5):AV:=.agg (bX 5 (rl w.1))
theorem W0 (w:K5):VS w = .agg (bX 5 (rl w.1)):=by simp only [VS]
def U1 (v:Net) (w:K5):AV:=.agg (bX 3 (cW (d5 v w.1)))
theorem TX (v:Net) (w:K5):U1 v w = .agg (bX 3 (cW (d5 v w.1))):=by simp only [U1]
theorem BM (v:Net):KeyIs (.agg [.i,.i,.i,.i,.i]) VS (U1 v) where
 eq:=fun w x=>by
  have:=LY 5 (rl w.1) (rl x.1)
  rw [PM (by rw [w.2,x.2]) (by rw [w.2];exact Nat.le_refl _)] at this
  have e:decide (w.1=x.1)=decide (w=x):=by rw [decide_eq_decide];exact Subtype.ext_iff.symm
  rw [e] at this
  exact this
 dk:=fun w=>jQ (oD _ _)
 dv:=fun w=>jQ (oD _ _)
abbrev tEs (v:Net):List K5→List (AV×AV):=sH VS (U1 v)
def WK (k:Nat):AV:=if k=0 then .func 116 [] [] else if k=1 then .func 117 [] [] else .func 118 [] []
def nE:List AV:=[.func 116 [] [],.func 117 [] [],.func 118 [] []]
theorem sL:nE=[.func 116 [] [],.func 117 [] [],.func 118 [] []]:=by simp only [nE]
theorem O5 {k:Nat} (h:k<3):nE[k]? = some (WK k):=by
 have:k=0∨k=1∨k=2:=by omega
 rcases this with rfl|rfl|rfl<;>rfl
theorem D3 (k:Nat) (hk:k<3) (c:Bool) (σ:St):j9 T (WK k) [.bool c] σ (.bool (uW (k:Int) c)):=by
 have:k=0∨k=1∨k=2:=by omega
 rcases this with rfl|rfl|rfl
 ·refine eX (af:=a116) rfl (by simp [a116]) ?_
  (repeat (first|simp only [↓QA,QB,Nat.reduceLT,reduceIte,Nat.reduceEqDiff,Nat.reduceAdd,Nat.reduceLeDiff,Nat.reduceMul,Nat.reduceBEq,iZ,a116]|refine rd0 rfl ?_))
  refine fQ [] (by first|rfl|simp) ?_
  cases c<;>(rw [F0];rfl)
 ·refine eX (af:=a117) rfl (by simp [a117]) ?_
  (repeat (first|simp only [↓QA,QB,Nat.reduceLT,reduceIte,Nat.reduceEqDiff,Nat.reduceAdd,Nat.reduceLeDiff,Nat.reduceMul,Nat.reduceBEq,iZ,a117]|refine rd0 rfl ?_))
  refine fQ [] (by first|rfl|simp) ?_
  cases c<;>(rw [F0];rfl)
 ·refine eX (af:=a118) rfl (by simp [a118]) ?_
  (repeat (first|simp only [↓QA,QB,Nat.reduceLT,reduceIte,Nat.reduceEqDiff,Nat.reduceAdd,Nat.reduceLeDiff,Nat.reduceMul,Nat.reduceBEq,iZ,a118]|refine rd0 rfl ?_))
  refine fQ [] (by first|rfl|simp) ?_
  cases c<;>(rw [F0];rfl)
theorem KE (σ:St):j9 T (.func 107 [] []) [] σ (.agg nE):=by
 refine eX (af:=a107) rfl (by simp [a107]) ?_
 have j0:(0:Int)≤0∧(0:Int)<((3:Nat):Int):=by decide
 have j1:(0:Int)≤1∧(1:Int)<((3:Nat):Int):=by decide
 have j2:(0:Int)≤2∧(2:Int)<((3:Nat):Int):=by decide
 have t0:Int.toNat 0=0:=rfl
 have t1:Int.toNat 1=1:=rfl
 have t2:Int.toNat 2=2:=rfl
 (repeat (first|simp only [↓QA,QB,Nat.reduceLT,reduceIte,Nat.reduceEqDiff,Nat.reduceAdd,Nat.reduceLeDiff,Nat.reduceMul,Nat.reduceBEq,iZ,a107,j0,j1,j2,t0,t1,t2]|refine rd0 rfl ?_))
 refine fQ [.cells nE] (by first|rfl|simp [nE]) ?_
 try simp only [QS,QC,Nat.reduceLT,reduceIte,Nat.reduceEqDiff,Nat.reduceAdd,Nat.reduceLeDiff,Nat.reduceMul,Nat.reduceBEq,iZ,sL,FJ]
theorem WL (v:Net) (hv:Vd v) (b m p q tt s2 s5:Nat) (bl CS:List Int) (hb:ButIs b bl) (hcl:CS.length=v.trams.length) (σ:St) (hq:aM σ q=some [.ptr p 0]) (hp:aM σ p=some (db v b m)) (ht:aM σ tt=some (bX 3 (cW CS))) (hs2:s2<σ.length) (hs5:s5<σ.length) (e:Env) (K:KJ)
  (e1:Env.get e 1 = .ptr q 0) (e2:Env.get e 2 = .ptr s2 0) (e5:Env.get e 5 = .ptr s5 0) (e10:Env.get e 10 = .ptr tt 0) (e58:Env.get e 58 = .lit (v.seen.map eU) false none) (e59:Env.get e 59 = .int .i64 v.seen.length) (e60:Env.get e 60 = .int .i64 0)
  (hKt:lT v bl CS=true→∀ e',Env.get e' 2 = .ptr s2 0→Env.get e' 5 = .ptr s5 0→Env.get e' 10 = .ptr tt 0→K (some (.exit 0)) e' σ)
  (hKf:lT v bl CS=false→∀ e' τ',Env.get e' 9 = .bool true→K (some .ret) e' (σ++τ')) :
  rK (K:=⟨K⟩) T (.loop F8) e σ:=by
 have hse:=hv.nse
 have hnt:=hv.ntr
 have hql:=qR hq
 have htl:=qR ht
 have hq2:=fun τ=>lG hq τ
 have hp2:=fun τ=>lG hp τ
 have ht2:=fun τ=>lG ht τ
 refine bT (S:=Nat) 0 (fun k=>k≤v.seen.length∧oE v bl CS k=true) (fun k=>v.seen.length-k)
  (fun k=>[(1,.ptr q 0),(2,.ptr s2 0),(5,.ptr s5 0),(10,.ptr tt 0),(58,.lit (v.seen.map eU) false none),(59,.int .i64 v.seen.length),(60,.int .i64 k)])
  (fun k=>σ) ⟨Nat.zero_le _,rfl⟩ rfl ?_ fun k hk=>?_
 ·try simp only [aC,QE,Nat.reduceLT,reduceIte,Nat.reduceEqDiff,Nat.reduceAdd,Nat.reduceLeDiff,Nat.reduceMul,Nat.reduceBEq,iZ,e1,e2,e5,e10,e58,e59,e60]
  try simp [hs2,hs5,hql,htl]
 ·obtain ⟨hk,hok⟩:=hk
  (repeat (first|simp only [↓QA,QB,Nat.reduceLT,reduceIte,Nat.reduceEqDiff,Nat.reduceAdd,Nat.reduceLeDiff,Nat.reduceMul,Nat.reduceBEq,iZ,F8]|refine rd0 rfl ?_))
  refine aG (fun hd=>?_) fun hd=>?_
  ·have hk1:k<v.seen.length:=by simpa using hd
   have hw:=bP hk1 (by omega)
   have hsu:=y4 hk1 bl CS
   have hsx:=hv.se _ (List.getElem_mem hk1)
   obtain ⟨x,hx⟩:∃ x,v.seen[k]=x:=⟨_,rfl⟩
   rw [hx] at hsu hsx
   rw [hok,Bool.true_and] at hsu
   obtain ⟨t,hte⟩:∃ t:Nat,x.tram=t:=⟨x.tram.toNat,by omega⟩
   rw [hte] at hsu hsx
   have hdiv:b/2^k<9223372036854775808:=Nat.lt_of_le_of_lt (Nat.div_le_self _ _) hb.lt
   have hbit:=hb.bit k (by omega)
   have vs:=SF b k (by omega)
   have va:=JU (b/2^k) hdiv
   have i3:(0:Int)≤(t:Int)∧(t:Int)<((3:Nat):Int):=⟨by omega,by omega⟩
   have hg:=i7 3 (cW CS) (i:=t) (by omega)
   have hcf:cW CS t=fV CS (t:Int):=rfl
   rw [hcf] at hg
   obtain ⟨C,hC⟩:∃ C,fV CS (t:Int)=C:=⟨_,rfl⟩
   rw [hC] at hsu hg
   have go:oE v bl CS (k+1)=true→(k+1≤v.seen.length∧oE v bl CS (k+1)=true):=fun q=>⟨by omega,q⟩
   have snp:∀ τ n,n<σ.length→cX (σ++τ) σ.length 20 (.ptr n 0)=some (.ptr n 0):=fun τ n hn=>by rw [ZK,if_pos hn]
   cases h2:bl.contains (k:Int)
   ·rw [h2] at hbit hsu
    rw [Bool.false_or] at hsu
    cases h3:(C==x.minute)
    ·rw [h3] at hsu
     have hqf:lT v bl CS=false:=by
      rw [←vM]
      simp only [oE,List.all_eq_false,List.mem_range] at hsu ⊢
      obtain ⟨a,ha,h1⟩:=hsu
      exact ⟨a,by omega,h1⟩
     (repeat (first|simp only [↓QA,QB,Nat.reduceLT,reduceIte,Nat.reduceEqDiff,Nat.reduceAdd,Nat.reduceLeDiff,Nat.reduceMul,Nat.reduceBEq,iZ,hk1,hx,hte,hq2,hp2,ht2,vs,va,hbit,i3,hg,h3]|refine rd0 rfl ?_))
     exact hKf hqf _ _ (by try simp only [aC,QE,Nat.reduceLT,reduceIte,Nat.reduceEqDiff,Nat.reduceAdd,Nat.reduceLeDiff,Nat.reduceMul,Nat.reduceBEq,iZ])
    ·rw [h3] at hsu
     (repeat (first|simp only [↓QA,QB,Nat.reduceLT,reduceIte,Nat.reduceEqDiff,Nat.reduceAdd,Nat.reduceLeDiff,Nat.reduceMul,Nat.reduceBEq,iZ,hk1,hx,hte,hq2,hp2,ht2,vs,va,hbit,i3,hg,h3]|refine rd0 rfl ?_))
     refine ⟨k+1,go hsu,by omega,?_⟩
     try simp only [aC,QE,Nat.reduceLT,reduceIte,Nat.reduceEqDiff,Nat.reduceAdd,Nat.reduceLeDiff,Nat.reduceMul,Nat.reduceBEq,iZ,hw,snp _ _ hql,snp _ _ hs2,snp _ _ hs5,snp _ _ htl]
     try simp [aH,hs2,hs5,hql,htl]
   ·rw [h2] at hbit hsu
    rw [Bool.true_or] at hsu
    (repeat (first|simp only [↓QA,QB,Nat.reduceLT,reduceIte,Nat.reduceEqDiff,Nat.reduceAdd,Nat.reduceLeDiff,Nat.reduceMul,Nat.reduceBEq,iZ,hk1,hx,hte,hq2,hp2,ht2,vs,va,hbit]|refine rd0 rfl ?_))
    refine ⟨k+1,go hsu,by omega,?_⟩
    try simp only [aC,QE,Nat.reduceLT,reduceIte,Nat.reduceEqDiff,Nat.reduceAdd,Nat.reduceLeDiff,Nat.reduceMul,Nat.reduceBEq,iZ,hw,snp _ _ hql,snp _ _ hs2,snp _ _ hs5,snp _ _ htl]
    try simp [aH,hs2,hs5,hql,htl]
  ·have hk1:k=v.seen.length:=by
    have:¬k<v.seen.length:=by simpa using hd
    omega
   rw [hk1,vM] at hok
   (repeat (first|simp only [↓QA,QB,Nat.reduceLT,reduceIte,Nat.reduceEqDiff,Nat.reduceAdd,Nat.reduceLeDiff,Nat.reduceMul,Nat.reduceBEq,iZ]|refine rd0 rfl ?_))
   refine hKt hok _ ?_ ?_ ?_
   all_goals try simp only [aC,QE,Nat.reduceLT,reduceIte,Nat.reduceEqDiff,Nat.reduceAdd,Nat.reduceLeDiff,Nat.reduceMul,Nat.reduceBEq,iZ]
end Go.Am.Room
set_option maxRecDepth 8000
namespace Go.Am.Room
def d7:=And.intro @bK (And.intro @aK (And.intro @aZ (And.intro @aX (And.intro @aY (And.intro @aT (And.intro @bI (And.intro @bF (And.intro @bE (And.intro @dP (And.intro @dA (And.intro @Nat.not_lt_zero (And.intro @List.length_append.{0} (And.intro @Nat.zero_add (And.intro @Nat.mul_one (And.intro @Int.toNat_natCast (And.intro @eM (And.intro @fX (And.intro @fZ (And.intro @kT (And.intro @fM (And.intro @iP (And.intro @iN (And.intro @iQ (And.intro @iO (And.intro @iR (And.intro @iM (And.intro @Nat.add_lt_add_iff_left (And.intro @Nat.lt_add_right_iff_pos (And.intro @pG (@pE))))))))))))))))))))))))))))))
def kI {A X:Type} [DecidableEq A] (f:A→X→X×Bool) (a:A) (s:Option A×X):(Option A×X)×Bool:=if s.1=some a then (s,true) else ((some a,(f a s.2).1),(f a s.2).2)
theorem BG {A X:Type} [DecidableEq A] (f:A→X→X×Bool):∀ (l:List A) (o:Option A) (x:X),l.Pairwise (·≠·)→(∀ a∈l,o≠some a)→(cL (kI f) l (o,x)).1.2=(cL f l x).1∧(cL (kI f) l (o,x)).2=(cL f l x).2
 |[],o,x,_,_=>⟨rfl,rfl⟩
 |a::l,o,x,h,ho=>by
  have h0:=ho a (by simp)
  obtain ⟨h1,h2⟩:=List.pairwise_cons.1 h
  have ih:=BG f l (some a) (f a x).1 h2 fun b hb e=>h1 b hb (by simpa using e)
  simp only [cL,kI,h0,if_false]
  split
  ·exact ih
  ·exact ⟨rfl,rfl⟩
theorem xO {A X:Type} [DecidableEq A] (f:A→X→X×Bool):∀ (az:List A) (o:Option A) (x:X) (u:A),(cL (kI f) az (o,x)).1.1=some u→o=some u∨u∈az
 |[],o,x,u,h=>.inl h
 |a::az,o,x,u,h=>by
  simp only [cL,kI] at h
  by_cases ho:o=some a
  ·simp only [ho,if_true] at h
   rcases xO f az (some a) x u h with h|h
   ·exact .inl (ho.trans h)
   ·exact .inr (by simp [h])
  ·simp only [ho,if_false] at h
   split at h
   ·rcases xO f az (some a) _ u h with h|h
    ·simp at h;exact .inr (by simp [h])
    ·exact .inr (by simp [h])
   ·simp at h;exact .inr (by simp [h])
theorem E6 (l:List Int) (n:Int):rl (l++[n])=mS (rl l) l.length n:=by
 funext i
 simp only [rl,mS]
 by_cases h:i=l.length
 ·subst h;simp
 ·rw [if_neg h]
  by_cases h2:i<l.length
  ·rw [List.getElem?_append_left h2]
  ·rw [List.getElem?_eq_none (by simp;omega),List.getElem?_eq_none (by omega)]
theorem w4 (l:List Int):mS (rl l) l.length 0=rl l:=by
 funext i
 simp only [mS]
 split
 ·rename_i h;subst h;simp [rl]
 ·rfl
def nB {X:Type} (v:Net) (bl:List Int) (f:List Int→X→X×Bool) (c:List Int) (y:X×List K5):(X×List K5)×Bool :=
 if sF v bl c=true then (((f c y.1).1,oJ y.2 (pad c)),(f c y.1).2) else ((y.1,oJ y.2 (pad c)),true)
structure LeafOk (v:Net) (c:List Int):Prop where
 len:c.length=v.rails.length
 mins:A4 v (rlI c)
def qO (v:Net) (c:List Int) (_:Bool) (_:Option Nat):List AV:=[.agg (bX 5 (rl c)),.agg (bX 3 (cW (d5 v c)))]
def E7 {X:Type} (Zp ZDp:X×List K5→St) (id:Nat) (v:Net) (P:List Int→Prop) (f:List Int→X→X×Bool):Prop :=
 ∀ t,P t→∀ (y:X×List K5) τ,Run T (.callv (.yield id) [.agg (bX 5 (rl t)),.agg (bX 3 (cW (d5 v t)))] (Zp y++τ)) fun o=>o.v = .bool (f t y.1).2∧∃ τ',o.σ=Fam.out Zp ZDp (((f t y.1).1,y.2),(f t y.1).2)++(τ++τ')
def DE (q N:Nat):AV:=.func 108 [] [.ptr q 0,.ptr (N+1) 0,.ptr (N+2) 0,.ptr (N+3) 0,.ptr N 0,.ptr (N+4) 0,.ptr (N+5) 0]
theorem BU (q N:Nat):DE q N = .func 108 [] [.ptr q 0,.ptr (N+1) 0,.ptr (N+2) 0,.ptr (N+3) 0,.ptr N 0,.ptr (N+4) 0,.ptr (N+5) 0]:=by simp only [DE]
def kM (id q N:Nat) (o:Option (List Int)) (A:Nat→Int):St:=[.cells [.yield id],.cells (bX 5 A),.cells (bX 5 (rl (o.getD []))),.cells [.bool o.isNone],.cells nE,.cells [DE q N]]
theorem eI (id q N:Nat) (o:Option (List Int)) (A:Nat→Int) (τ:St):kM id q N o A++τ = .cells [.yield id]::.cells (bX 5 A)::.cells (bX 5 (rl (o.getD [])))::.cells [.bool o.isNone]::.cells nE::.cells [DE q N]::τ:=by simp [kM]
def ES {X:Type} (Zp ZDp:X×List K5→St) (id q N:Nat) (l:List Int) (τ:St) (r:(Option (List Int)×(X×List K5))×Bool) (o:Out):Prop :=
 o.v = .bool r.2∧∃ A τ',o.σ=Fam.out Zp ZDp (r.1.2,r.2)++(kM id q N r.1.1 A++(τ++τ'))∧(r.2=true→A=rl l)
theorem QO {X:Type} {Zp ZDp:X×List K5→St} {v:Net} {b p m q N:Nat} {bl:List Int} (hR:Fam Zp ZDp (db v b m) p q N) (hS:∀ x,MemAt (fun A=>Zp (x,A)) (db v b m) (tEs v) p m N) (hv:Vd v) (hb:ButIs b bl) {id:Nat} {P:List Int→Prop} {f:List Int→X→X×Bool} (hy:E7 Zp ZDp id v P f)
  (c:List Int) (hc:LeafOk v c) (hP:sF v bl c=true→P c) (o:Option (List Int)) (ho:∀ u,o=some u→u.length=v.rails.length) (y:X×List K5) (τ:St) :
  Run T (.callv (DE q N) [.int .i64 c.length] (Zp y++(kM id q N o (rl c)++τ))) (ES Zp ZDp id q N c τ (kI (nB v bl f) c (o,y))):=by
 have hnr:=hv.nra
 have hcl:=hc.len
 simp only [BU]
 refine .callf (.call (af:=a108) rfl (by simp [a108]) (kE (K:=fun j e σ'=>(j=none∨j=some .ret)∧ES Zp ZDp id q N c τ (kI (nB v bl f) c (o,y)) ⟨none,[],σ',Env.get e 9⟩) ?_ fun o ho=>ho) fun w hw=>⟨hw.1,_,rfl,.inl hw.2⟩)
 have hE:((c.length:Int)==(v.rails.length:Int))=true:=by rw [hcl];simp
 have heq:cB [.i,.i,.i,.i,.i] (bX 5 (rl c)) (bX 5 (rl (o.getD [])))=some ((List.range 5).all fun i=>rl c i==rl (o.getD []) i):=LY 5 (rl c) (rl (o.getD []))
 obtain ⟨B,hB⟩:∃ B,((List.range 5).all fun i=>rl c i==rl (o.getD []) i)=B:=⟨_,rfl⟩
 rw [hB] at heq
 by_cases hu:o=some c
 ·subst hu
  have hBt:B=true:=by rw [←hB];simp
  subst hBt
  have hon:kI (nB v bl f) c (some c,y)=((some c,y),true):=by simp [kI]
  rw [hon,eI]
  simp only [Option.getD_some] at heq
  (repeat (first|simp only [↓QA,QB,Nat.reduceLT,reduceIte,Nat.reduceEqDiff,Nat.reduceAdd,Nat.reduceLeDiff,Nat.reduceMul,Nat.reduceBEq,d7,hR.len,hR.base,hR.base0,hR.bset,hR.bset0,hR.at1,hR.atq1,a108,hE,heq,Option.isNone_some,Option.getD_some]|refine rd0 rfl ?_))
  exact ⟨rfl,rl c,[],by simp [kM,Fam.out],fun _=>rfl⟩
 ·have hon:kI (nB v bl f) c (o,y)=((some c,(nB v bl f c y).1),(nB v bl f c y).2):=by simp [kI,hu]
  have hgo:(B&&!o.isNone)=false:=by
   cases o with
   |none=>simp
   |some u =>
    have hul:=ho u rfl
    have:B=decide (c=u):=by rw [←hB];exact PM (a:=c) (b:=u) (by omega) (by omega)
    rw [this]
    simp only [Option.isNone_some,Bool.not_false,Bool.and_true,decide_eq_false_iff_not]
    rintro rfl
    exact hu rfl
  rw [hon]
  obtain ⟨x,A⟩:=y
  obtain ⟨A',hA'⟩:∃ A',oJ A (pad c)=A':=⟨_,rfl⟩
  have hper:nB v bl f c (x,A)=if sF v bl c=true then (((f c x).1,A'),(f c x).2) else ((x,A'),true):=by rw [nB,hA']
  have hl1:=fun τ=>UG (BM v) (hS x) A τ (pad c)
  have hput:=fun τ (hw:pad c∉A)=>Z5 (BM v) (hS x) A τ (pad c) hw
  simp only [W0,TX,WS,MM v (show c.length≤5 by omega)] at hl1 hput
  have hcal:=hy c
  have hfit:sF v bl c=lT v bl (d5 v c):=rfl
  have hcc:(d5 v c).length=v.trams.length:=rS _ _ _ _
  obtain ⟨CS,hCS⟩:∃ CS,d5 v c=CS:=⟨_,rfl⟩
  have hrun:∀ (σ:St) (hσ:aM σ p=some (db v b m)),j9 T (.func 109 [] []) [.ptr p 0,.agg (bX 5 (rl c)),.func 110 [.ptr p 0] []] σ (.agg (bX 3 (cW CS))):=fun σ hσ=>by
   have hpl:=qR hσ
   rw [←hCS]
   exact IP v hv b m p σ hσ hpl _ (fun τ n hn=>by
    try simp only [QS,QC,Nat.reduceLT,reduceIte,Nat.reduceEqDiff,Nat.reduceAdd,Nat.reduceLeDiff,Nat.reduceMul,Nat.reduceBEq,d7,hR.len,hR.base,hR.base0,hR.bset,hR.bset0,hR.at1,hR.atq1,FJ]
    simp [show p<n by omega]) (jM v) (SR hv) (fun i hi τ=>TP v b m p _ (lG hσ τ) i hi) (rl c) (rlI c) (P7 c) hc.mins
  rw [hCS] at hl1 hput hfit hcc hcal
  have hpN:=hR.pl
  have hqN:=hR.ql
  have hP':=hP
  rw [hfit] at hP' hper
  rw [eI]
  -- behind the look into the map: the things that were seen
  have tail:∀ (e:Env) (K:KJ),Env.get e 1 = .ptr q 0→Env.get e 2 = .ptr (N+1) 0→Env.get e 5 = .ptr N 0→Env.get e 10 = .ptr (N+(τ.length+1+1+1+1+1+1)) 0→Env.get e 58 = .lit (v.seen.map eU) false none→Env.get e 59 = .int .i64 v.seen.length→Env.get e 60 = .int .i64 0 →
    (lT v bl CS=true→∀ e',Env.get e' 2 = .ptr (N+1) 0→Env.get e' 5 = .ptr N 0→Env.get e' 10 = .ptr (N+(τ.length+1+1+1+1+1+1)) 0→K (some (.exit 0)) e' (Zp (x,A')++(kM id q N (some c) (rl c)++(τ++[.cells (bX 3 (cW CS))])))) →
    (lT v bl CS=false→∀ e' τ',Env.get e' 9 = .bool true→K (some .ret) e' ((Zp (x,A')++(kM id q N (some c) (rl c)++(τ++[.cells (bX 3 (cW CS))])))++τ')) →
    rK (K:=⟨K⟩) T (.loop F8) e (Zp (x,A')++(kM id q N (some c) (rl c)++(τ++[.cells (bX 3 (cW CS))]))):=by
   intro e K e1 e2 e5 e10 e58 e59 e60 hKt hKf
   refine WL v hv b m p q (N+(τ.length+1+1+1+1+1+1)) (N+1) N bl CS hb hcc _ (hR.atq1 _ _) (hR.at1 _ _) ?_ ?_ ?_ e K e1 e2 e5 e10 e58 e59 e60 hKt hKf
   ·rw [eI,hR.base]
    simp only [sJ]
    have:=jZ τ [.cells (bX 3 (cW CS))]
    rw [this];rfl
   ·simp [hR.len,kM]
   ·simp [hR.len,kM]
  have hta:∀ (y:X×List K5) (b0 b1 b2 b3 b4 b5:ABlk),aM (Zp y++(b0::b1::b2::b3::b4::b5::(τ++[.cells (bX 3 (cW CS))]))) (N+(τ.length+1+1+1+1+1+1))=some (bX 3 (cW CS)):=fun y b0 b1 b2 b3 b4 b5=>by
   rw [hR.base]
   simp only [sJ]
   rw [jZ];rfl
  have htz:∀ (y:X×List K5) (b0 b1 b2 b3 b4 b5:ABlk) (cs:List AV),aM (Zp y++(b0::b1::b2::b3::b4::b5::(τ++[.cells cs]))) (N+(τ.length+1+1+1+1+1+1))=some cs:=fun y b0 b1 b2 b3 b4 b5 cs=>by
   rw [hR.base]
   simp only [sJ]
   rw [jZ];rfl
  have hts:∀ (y:X×List K5) (b0 b1 b2 b3 b4 b5:ABlk) (cs:List AV) (B:ABlk),(Zp y++(b0::b1::b2::b3::b4::b5::(τ++[.cells cs]))).set (N+(τ.length+1+1+1+1+1+1)) B=Zp y++(b0::b1::b2::b3::b4::b5::(τ++[B])):=fun y b0 b1 b2 b3 b4 b5 cs B=>by
   rw [hR.bset]
   simp only [List.set_cons_succ]
   rw [LB];rfl
  have hlen:∀ (y:X×List K5),(Zp y).length=N:=hR.len
  by_cases hw:pad c∈A
  ·have hA2:A'=A:=by rw [←hA',oJ,if_pos hw]
   subst hA2
   simp only [hw,if_true] at hl1
   cases B
   ·(repeat (first|simp only [↓QA,QB,Nat.reduceLT,reduceIte,Nat.reduceEqDiff,Nat.reduceAdd,Nat.reduceLeDiff,Nat.reduceMul,Nat.reduceBEq,d7,hR.len,hR.base,hR.base0,hR.bset,hR.bset0,hR.at1,hR.atq1,a108,hE,heq]|refine rd0 rfl ?_))
    refine qB [.cells [.int .i64 0,.int .i64 0,.int .i64 0]] rfl ?_
    (repeat (first|simp only [↓QA,QB,Nat.reduceLT,reduceIte,Nat.reduceEqDiff,Nat.reduceAdd,Nat.reduceLeDiff,Nat.reduceMul,Nat.reduceBEq,d7,hR.len,hR.base,hR.base0,hR.bset,hR.bset0,hR.at1,hR.atq1,hl1,AD,z0,hlen,htz,hts]|refine rd0 rfl ?_))
    refine tail _ _ ?_ ?_ ?_ ?_ ?_ ?_ ?_ ?_ ?_
    all_goals try try simp only [aC,QE,Nat.reduceLT,reduceIte,Nat.reduceEqDiff,Nat.reduceAdd,Nat.reduceLeDiff,Nat.reduceMul,Nat.reduceBEq,d7,hR.len,hR.base,hR.base0,hR.bset,hR.bset0,hR.at1,hR.atq1]
    ·intro hs e' q2 q5 q10
     have hc2:=fun A=>hcal (hP' hs) (x,A)
     rw [hs,if_pos rfl] at hper
     rw [hper,eI]
     (repeat (first|simp only [↓QA,QB,Nat.reduceLT,reduceIte,Nat.reduceEqDiff,Nat.reduceAdd,Nat.reduceLeDiff,Nat.reduceMul,Nat.reduceBEq,d7,hR.len,hR.base,hR.base0,hR.bset,hR.bset0,hR.at1,hR.atq1,q2,q5,q10,hta]|refine rd0 rfl ?_))
     refine .mono (hc2 _ _) fun w hw=>?_
     obtain ⟨hw1,τ',hw2⟩:=hw
     rw [hw1,hw2]
     (repeat (first|simp only [↓QA,QB,Nat.reduceLT,reduceIte,Nat.reduceEqDiff,Nat.reduceAdd,Nat.reduceLeDiff,Nat.reduceMul,Nat.reduceBEq,d7,hR.len,hR.base,hR.base0,hR.bset,hR.bset0,hR.at1,hR.atq1,q2,q5,q10]|refine rd0 rfl ?_))
     exact ⟨rfl,rl c,[.cells (bX 3 (cW CS))]++τ',by simp [kM],fun _=>rfl⟩
    ·intro hs e' τ' q9
     rw [hs] at hper
     simp only [Bool.false_eq_true,if_false] at hper
     rw [hper]
     (repeat (first|simp only [↓QA,QB,Nat.reduceLT,reduceIte,Nat.reduceEqDiff,Nat.reduceAdd,Nat.reduceLeDiff,Nat.reduceMul,Nat.reduceBEq,d7,hR.len,hR.base,hR.base0,hR.bset,hR.bset0,hR.at1,hR.atq1,q9]|refine rd0 rfl ?_))
     exact ⟨rfl,rl c,[.cells (bX 3 (cW CS))]++τ',by simp [Fam.out],fun _=>rfl⟩
   ·rw [Bool.true_and] at hgo
    have hgo':o.isNone=true:=by simpa using hgo
    (repeat (first|simp only [↓QA,QB,Nat.reduceLT,reduceIte,Nat.reduceEqDiff,Nat.reduceAdd,Nat.reduceLeDiff,Nat.reduceMul,Nat.reduceBEq,d7,hR.len,hR.base,hR.base0,hR.bset,hR.bset0,hR.at1,hR.atq1,a108,hE,heq,hgo']|refine rd0 rfl ?_))
    refine qB [.cells [.int .i64 0,.int .i64 0,.int .i64 0]] rfl ?_
    (repeat (first|simp only [↓QA,QB,Nat.reduceLT,reduceIte,Nat.reduceEqDiff,Nat.reduceAdd,Nat.reduceLeDiff,Nat.reduceMul,Nat.reduceBEq,d7,hR.len,hR.base,hR.base0,hR.bset,hR.bset0,hR.at1,hR.atq1,hl1,AD,z0,hlen,htz,hts]|refine rd0 rfl ?_))
    refine tail _ _ ?_ ?_ ?_ ?_ ?_ ?_ ?_ ?_ ?_
    all_goals try try simp only [aC,QE,Nat.reduceLT,reduceIte,Nat.reduceEqDiff,Nat.reduceAdd,Nat.reduceLeDiff,Nat.reduceMul,Nat.reduceBEq,d7,hR.len,hR.base,hR.base0,hR.bset,hR.bset0,hR.at1,hR.atq1]
    ·intro hs e' q2 q5 q10
     have hc2:=fun A=>hcal (hP' hs) (x,A)
     rw [hs,if_pos rfl] at hper
     rw [hper,eI]
     (repeat (first|simp only [↓QA,QB,Nat.reduceLT,reduceIte,Nat.reduceEqDiff,Nat.reduceAdd,Nat.reduceLeDiff,Nat.reduceMul,Nat.reduceBEq,d7,hR.len,hR.base,hR.base0,hR.bset,hR.bset0,hR.at1,hR.atq1,q2,q5,q10,hta]|refine rd0 rfl ?_))
     refine .mono (hc2 _ _) fun w hw=>?_
     obtain ⟨hw1,τ',hw2⟩:=hw
     rw [hw1,hw2]
     (repeat (first|simp only [↓QA,QB,Nat.reduceLT,reduceIte,Nat.reduceEqDiff,Nat.reduceAdd,Nat.reduceLeDiff,Nat.reduceMul,Nat.reduceBEq,d7,hR.len,hR.base,hR.base0,hR.bset,hR.bset0,hR.at1,hR.atq1,q2,q5,q10]|refine rd0 rfl ?_))
     exact ⟨rfl,rl c,[.cells (bX 3 (cW CS))]++τ',by simp [kM],fun _=>rfl⟩
    ·intro hs e' τ' q9
     rw [hs] at hper
     simp only [Bool.false_eq_true,if_false] at hper
     rw [hper]
     (repeat (first|simp only [↓QA,QB,Nat.reduceLT,reduceIte,Nat.reduceEqDiff,Nat.reduceAdd,Nat.reduceLeDiff,Nat.reduceMul,Nat.reduceBEq,d7,hR.len,hR.base,hR.base0,hR.bset,hR.bset0,hR.at1,hR.atq1,q9]|refine rd0 rfl ?_))
     exact ⟨rfl,rl c,[.cells (bX 3 (cW CS))]++τ',by simp [Fam.out],fun _=>rfl⟩
  ·have hA2:A'=A++[pad c]:=by rw [←hA',oJ,if_neg hw]
   subst hA2
   simp only [hw,if_false] at hl1
   have hput:=fun τ=>hput τ hw
   cases B
   ·(repeat (first|simp only [↓QA,QB,Nat.reduceLT,reduceIte,Nat.reduceEqDiff,Nat.reduceAdd,Nat.reduceLeDiff,Nat.reduceMul,Nat.reduceBEq,d7,hR.len,hR.base,hR.base0,hR.bset,hR.bset0,hR.at1,hR.atq1,a108,hE,heq]|refine rd0 rfl ?_))
    refine qB [.cells [.int .i64 0,.int .i64 0,.int .i64 0]] rfl ?_
    (repeat (first|simp only [↓QA,QB,Nat.reduceLT,reduceIte,Nat.reduceEqDiff,Nat.reduceAdd,Nat.reduceLeDiff,Nat.reduceMul,Nat.reduceBEq,d7,hR.len,hR.base,hR.base0,hR.bset,hR.bset0,hR.at1,hR.atq1,hl1,AD,z0,hlen,htz,hts]|refine rd0 rfl ?_))
    refine cM (hrun _ (hR.at1 _ _)) ?_
    (repeat (first|simp only [↓QA,QB,Nat.reduceLT,reduceIte,Nat.reduceEqDiff,Nat.reduceAdd,Nat.reduceLeDiff,Nat.reduceMul,Nat.reduceBEq,d7,hR.len,hR.base,hR.base0,hR.bset,hR.bset0,hR.at1,hR.atq1,hlen,htz,hts,hput]|refine rd0 rfl ?_))
    refine tail _ _ ?_ ?_ ?_ ?_ ?_ ?_ ?_ ?_ ?_
    all_goals try try simp only [aC,QE,Nat.reduceLT,reduceIte,Nat.reduceEqDiff,Nat.reduceAdd,Nat.reduceLeDiff,Nat.reduceMul,Nat.reduceBEq,d7,hR.len,hR.base,hR.base0,hR.bset,hR.bset0,hR.at1,hR.atq1]
    ·intro hs e' q2 q5 q10
     have hc2:=fun A=>hcal (hP' hs) (x,A)
     rw [hs,if_pos rfl] at hper
     rw [hper,eI]
     (repeat (first|simp only [↓QA,QB,Nat.reduceLT,reduceIte,Nat.reduceEqDiff,Nat.reduceAdd,Nat.reduceLeDiff,Nat.reduceMul,Nat.reduceBEq,d7,hR.len,hR.base,hR.base0,hR.bset,hR.bset0,hR.at1,hR.atq1,q2,q5,q10,hta]|refine rd0 rfl ?_))
     refine .mono (hc2 _ _) fun w hw=>?_
     obtain ⟨hw1,τ',hw2⟩:=hw
     rw [hw1,hw2]
     (repeat (first|simp only [↓QA,QB,Nat.reduceLT,reduceIte,Nat.reduceEqDiff,Nat.reduceAdd,Nat.reduceLeDiff,Nat.reduceMul,Nat.reduceBEq,d7,hR.len,hR.base,hR.base0,hR.bset,hR.bset0,hR.at1,hR.atq1,q2,q5,q10]|refine rd0 rfl ?_))
     exact ⟨rfl,rl c,[.cells (bX 3 (cW CS))]++τ',by simp [kM],fun _=>rfl⟩
    ·intro hs e' τ' q9
     rw [hs] at hper
     simp only [Bool.false_eq_true,if_false] at hper
     rw [hper]
     (repeat (first|simp only [↓QA,QB,Nat.reduceLT,reduceIte,Nat.reduceEqDiff,Nat.reduceAdd,Nat.reduceLeDiff,Nat.reduceMul,Nat.reduceBEq,d7,hR.len,hR.base,hR.base0,hR.bset,hR.bset0,hR.at1,hR.atq1,q9]|refine rd0 rfl ?_))
     exact ⟨rfl,rl c,[.cells (bX 3 (cW CS))]++τ',by simp [Fam.out],fun _=>rfl⟩
   ·rw [Bool.true_and] at hgo
    have hgo':o.isNone=true:=by simpa using hgo
    (repeat (first|simp only [↓QA,QB,Nat.reduceLT,reduceIte,Nat.reduceEqDiff,Nat.reduceAdd,Nat.reduceLeDiff,Nat.reduceMul,Nat.reduceBEq,d7,hR.len,hR.base,hR.base0,hR.bset,hR.bset0,hR.at1,hR.atq1,a108,hE,heq,hgo']|refine rd0 rfl ?_))
    refine qB [.cells [.int .i64 0,.int .i64 0,.int .i64 0]] rfl ?_
    (repeat (first|simp only [↓QA,QB,Nat.reduceLT,reduceIte,Nat.reduceEqDiff,Nat.reduceAdd,Nat.reduceLeDiff,Nat.reduceMul,Nat.reduceBEq,d7,hR.len,hR.base,hR.base0,hR.bset,hR.bset0,hR.at1,hR.atq1,hl1,AD,z0,hlen,htz,hts]|refine rd0 rfl ?_))
    refine cM (hrun _ (hR.at1 _ _)) ?_
    (repeat (first|simp only [↓QA,QB,Nat.reduceLT,reduceIte,Nat.reduceEqDiff,Nat.reduceAdd,Nat.reduceLeDiff,Nat.reduceMul,Nat.reduceBEq,d7,hR.len,hR.base,hR.base0,hR.bset,hR.bset0,hR.at1,hR.atq1,hlen,htz,hts,hput]|refine rd0 rfl ?_))
    refine tail _ _ ?_ ?_ ?_ ?_ ?_ ?_ ?_ ?_ ?_
    all_goals try try simp only [aC,QE,Nat.reduceLT,reduceIte,Nat.reduceEqDiff,Nat.reduceAdd,Nat.reduceLeDiff,Nat.reduceMul,Nat.reduceBEq,d7,hR.len,hR.base,hR.base0,hR.bset,hR.bset0,hR.at1,hR.atq1]
    ·intro hs e' q2 q5 q10
     have hc2:=fun A=>hcal (hP' hs) (x,A)
     rw [hs,if_pos rfl] at hper
     rw [hper,eI]
     (repeat (first|simp only [↓QA,QB,Nat.reduceLT,reduceIte,Nat.reduceEqDiff,Nat.reduceAdd,Nat.reduceLeDiff,Nat.reduceMul,Nat.reduceBEq,d7,hR.len,hR.base,hR.base0,hR.bset,hR.bset0,hR.at1,hR.atq1,q2,q5,q10,hta]|refine rd0 rfl ?_))
     refine .mono (hc2 _ _) fun w hw=>?_
     obtain ⟨hw1,τ',hw2⟩:=hw
     rw [hw1,hw2]
     (repeat (first|simp only [↓QA,QB,Nat.reduceLT,reduceIte,Nat.reduceEqDiff,Nat.reduceAdd,Nat.reduceLeDiff,Nat.reduceMul,Nat.reduceBEq,d7,hR.len,hR.base,hR.base0,hR.bset,hR.bset0,hR.at1,hR.atq1,q2,q5,q10]|refine rd0 rfl ?_))
     exact ⟨rfl,rl c,[.cells (bX 3 (cW CS))]++τ',by simp [kM],fun _=>rfl⟩
    ·intro hs e' τ' q9
     rw [hs] at hper
     simp only [Bool.false_eq_true,if_false] at hper
     rw [hper]
     (repeat (first|simp only [↓QA,QB,Nat.reduceLT,reduceIte,Nat.reduceEqDiff,Nat.reduceAdd,Nat.reduceLeDiff,Nat.reduceMul,Nat.reduceBEq,d7,hR.len,hR.base,hR.base0,hR.bset,hR.bset0,hR.at1,hR.atq1,q9]|refine rd0 rfl ?_))
     exact ⟨rfl,rl c,[.cells (bX 3 (cW CS))]++τ',by simp [Fam.out],fun _=>rfl⟩
end Go.Am.Room
set_option maxRecDepth 8000
namespace Go.Am.Room
def dU:=And.intro @bK (And.intro @aK (And.intro @aZ (And.intro @aX (And.intro @aY (And.intro @aT (And.intro @bI (And.intro @bF (And.intro @bE (And.intro @dP (And.intro @dA (And.intro @Nat.not_lt_zero (And.intro @List.length_append.{0} (And.intro @Nat.zero_add (And.intro @Nat.mul_one (And.intro @Int.toNat_natCast (And.intro @eM (And.intro @fX (And.intro @fZ (And.intro @kT (And.intro @fM (And.intro @iP (And.intro @iN (And.intro @iQ (And.intro @iO (And.intro @iR (And.intro @iM (And.intro @Nat.add_lt_add_iff_left (And.intro @Nat.lt_add_right_iff_pos (And.intro @pG (And.intro @pE (And.intro @A1 (@CB))))))))))))))))))))))))))))))))
theorem XA (k:Nat):WK k = .func (if k=0 then 116 else if k=1 then 117 else 118) [] []:=by
 unfold WK;split
 ·rfl
 ·split<;>rfl
def sI (v:Net) (r:Rail) (rs:List Rail) (l:List Int) (n:Int):List (List Int):=(if r.shut=1 then [] else aR n (r.mins.hi+1-n).toNat).flatMap fun n=>gE rs (l++[n])
def iG (r:Rail):List AV:=[.int .i64 r.a,.int .i64 r.b,.int .i64 r.mins.lo,.int .i64 r.mins.hi,.int .i64 r.shut]
theorem d4 (r:Rail):iG r=[.int .i64 r.a,.int .i64 r.b,.int .i64 r.mins.lo,.int .i64 r.mins.hi,.int .i64 r.shut]:=by simp only [iG]
def aD4 {X:Type} (Zp ZDp:X×List K5→St) (F:List Int→X×List K5→(X×List K5)×Bool) (v:Net) (q id N:Nat) (l:List Int) (r:Rail) (rs:List Rail) (τ:St) (R:(Option (List Int)×(X×List K5))×Bool) (k:Nat) (e:Env) (σ:St):Prop :=
 Env.get e 0 = .int .i64 l.length∧Env.get e 2 = .ptr (N+1) 0∧Env.get e 6 = .ptr (N+4) 0∧Env.get e 7 = .ptr (N+5) 0∧Env.get e 14 = .ptr (N+(τ.length+1+1+1+1+1+1)) 0∧∃ n o y c τ2,Env.get e 15 = .int .i64 n∧r.mins.lo≤n∧n≤r.mins.hi+1∧k=(r.mins.hi+1-n).toNat∧(∀ u,o=some u→u.length=v.rails.length) ∧
   σ=Zp y++(kM id q N o (mS (rl l) l.length c)++(τ++(.cells (iG r)::τ2)))∧cL (kI F) (sI v r rs l n) (o,y)=R
theorem HX {X:Type} {Zp ZDp:X×List K5→St} {v:Net} {b p m q N:Nat} {bl:List Int} (hR:Fam Zp ZDp (db v b m) p q N) (hS:∀ x,MemAt (fun A=>Zp (x,A)) (db v b m) (tEs v) p m N) (hv:Vd v) (hb:ButIs b bl) {id:Nat} {P:List Int→Prop} {f:List Int→X→X×Bool} (hy:E7 Zp ZDp id v P f) (hP:∀ c,LeafOk v c→sF v bl c=true→P c) :
  ∀ (rs:List Rail) (l:List Int) (o:Option (List Int)) (y:X×List K5) (τ:St),rs=v.rails.drop l.length→l.length≤v.rails.length→(∀ i,i<l.length→0≤rl l i∧rl l i≤20)→(∀ u,o=some u→u.length=v.rails.length) →
   Run T (.callv (DE q N) [.int .i64 l.length] (Zp y++(kM id q N o (rl l)++τ))) (ES Zp ZDp id q N l τ (cL (kI (nB v bl f)) (gE rs l) (o,y)))
 |[],l,o,y,τ,hrs,hl,hbd,ho=>by
  have hl2:l.length=v.rails.length:=by
   have:=congrArg List.length hrs
   simp at this
   omega
  simp only [gE,MR]
  refine QO hR hS hv hb hy l ⟨hl2,fun r h0 h1=>?_⟩ (hP l ⟨hl2,fun r h0 h1=>?_⟩) o ho y τ
  all_goals
   have:=hbd r.toNat (by omega)
   simpa [rlI,rl] using this
 |r::rs,l,o,y,τ,hrs,hl,hbd,ho=>by
  have hlt:l.length<v.rails.length:=by
   have:=congrArg List.length hrs
   simp at this
   omega
  have hnr:=hv.nra
  have hdr:=List.drop_eq_getElem_cons hlt
  rw [←hrs] at hdr
  have hs:v.rails[l.length]=r:=by have:=(List.cons.inj hdr).1;exact this.symm
  have hrs2:rs=v.rails.drop (l.length+1):=(List.cons.inj hdr).2
  have hra:=hv.ra _ (List.getElem_mem hlt)
  rw [hs] at hra
  have hmi:=hra.mins
  have hsh:=hra.shut
  obtain ⟨S,hS2⟩:∃ S:Nat,r.shut=(S:Int):=⟨r.shut.toNat,by omega⟩
  have hS3:S<3:=by omega
  have hE:((l.length:Int)==(v.rails.length:Int))=false:=by simp;omega
  have i5:(0:Int)≤(l.length:Int)∧(l.length:Int)<((5:Nat):Int):=⟨by omega,by omega⟩
  have c5:l.length+1≤5:=by omega
  have iS:(0:Int)≤(S:Int)∧(S:Int)<((3:Nat):Int):=⟨by omega,by omega⟩
  have hcg:=O5 hS3
  have hct:=fun σ=>D3 S hS3 true σ
  have hcf:=fun σ=>D3 S hS3 false σ
  have hc1:uW (S:Int) true = !decide (S=0):=by
   have:((S:Int)=0)=(S=0):=by rw [eq_iff_iff];omega
   simp [uW]
  have hc2:uW (S:Int) false = !decide (S=1):=by
   have:((S:Int)=1)=(S=1):=by rw [eq_iff_iff];omega
   simp [uW];omega
  rw [hc1] at hct
  rw [hc2] at hcf
  have hcE:=XA S
  obtain ⟨CF,hCF⟩:∃ CF,(if S=0 then 116 else if S=1 then 117 else 118)=CF:=⟨_,rfl⟩
  rw [hCF] at hcE
  rw [hcE] at hcg
  simp only [hcE] at hct hcf
  have hwd:IntKind.i64.wrap ((l.length:Int)+1)=((l.length+1:Nat):Int):=bP hlt (by omega)
  have ih:=fun (n:Int) (hn:0≤n∧n≤20) (o:Option (List Int)) (y:X×List K5) (τ:St) (ho:∀ u,o=some u→u.length=v.rails.length)=>HX hR hS hv hb hy hP rs (l++[n]) o y τ (by rw [hrs2];simp) (by simp;omega) (fun i hi=>by
   rw [E6]
   simp only [mS]
   by_cases e:i=l.length
   ·subst e
    rw [if_pos rfl]
    exact hn
   ·rw [if_neg e]
    exact hbd i (by simp at hi;omega)) ho
  obtain ⟨F,hF⟩:∃ F,nB v bl f=F:=⟨_,rfl⟩
  rw [hF] at ih ⊢
  obtain ⟨R,hRR⟩:∃ R,cL (kI F) (gE (r::rs) l) (o,y)=R:=⟨_,rfl⟩
  rw [hRR]
  have hsplit:gE (r::rs) l=(if S=0 then [] else gE rs (l++[0]))++sI v r rs l r.mins.lo:=by
   have e0:(r.shut=0)=(S=0):=by rw [eq_iff_iff];omega
   simp only [gE,chP,List.flatMap_append,sI,BP,e0]
   congr 1
   split<;>simp
  rw [hsplit,yP] at hRR
  have hht:∀ (y:X×List K5) (b0 b1 b2 b3 b4 b5:ABlk) (cs:List AV) (τ2:St),aM (Zp y++(b0::b1::b2::b3::b4::b5::(τ++(.cells cs::τ2)))) (N+(τ.length+1+1+1+1+1+1))=some cs:=fun y b0 b1 b2 b3 b4 b5 cs τ2=>by
   rw [hR.base]
   simp only [sJ]
   rw [jZ];rfl
  have hlen:∀ (y:X×List K5),(Zp y).length=N:=hR.len
  simp only [BU]
  refine .callf (.call (af:=a108) rfl (by simp [a108]) (kE (K:=fun j e σ'=>(j=none∨j=some .ret)∧ES Zp ZDp id q N l τ R ⟨none,[],σ',Env.get e 9⟩) ?_ fun o ho=>ho) fun w hw=>⟨hw.1,_,rfl,.inl hw.2⟩)
  have hst0:=qA 5 (rl l) 0 (show l.length<5 by omega)
  rw [w4] at hst0
  rw [eI]
  -- the loop over minutes
  have loop:∀ (e:Env) (K:KJ) (y:X×List K5) (o:Option (List Int)) (τ2:St),(∀ u,o=some u→u.length=v.rails.length)→Env.get e 0 = .int .i64 l.length→Env.get e 2 = .ptr (N+1) 0→Env.get e 6 = .ptr (N+4) 0→Env.get e 7 = .ptr (N+5) 0→Env.get e 14 = .ptr (N+(τ.length+1+1+1+1+1+1)) 0→Env.get e 15 = .int .i64 r.mins.lo→cL (kI F) (sI v r rs l r.mins.lo) (o,y)=R →
    (∀ e' y' o' τ2 c,Env.get e' 0 = .int .i64 l.length→Env.get e' 2 = .ptr (N+1) 0→R=((o',y'),true)→K (some (.exit 2)) e' (Zp y'++(kM id q N o' (mS (rl l) l.length c)++(τ++(.cells (iG r)::τ2))))) →
    (∀ e' A τ2,Env.get e' 9 = .bool false→R.2=false→K (some .ret) e' (Fam.out Zp ZDp (R.1.2,R.2)++(kM id q N R.1.1 A++(τ++(.cells (iG r)::τ2))))) →
    rK (K:=⟨K⟩) T (.loop B1) e (Zp y++(kM id q N o (rl l)++(τ++(.cells (iG r)::τ2)))):=by
   intro e K y o τ2 ho e0 e2 e6 e7 e14 e15 hq hKx hKf
   refine aEW (aD4 Zp ZDp F v q id N l r rs τ R) ?_ (r.mins.hi+1-r.mins.lo).toNat _ _ ?_
   ·rintro k e σ ⟨e0,e2,e6,e7,e14,n,o,y,c,τ2,e15,hn0,hn1,hk,ho,rfl,hq⟩
    subst hk
    have hst:=qA 5 (mS (rl l) l.length c) n (show l.length<5 by omega)
    rw [wS,←E6 l n] at hst
    rw [eI]
    cases hle:decide (n≤r.mins.hi)
    ·have hn2:¬n≤r.mins.hi:=by simpa using hle
     have hrn:sI v r rs l n=[]:=by
      rw [sI,HD hn2];simp
     rw [hrn] at hq
     simp only [cL] at hq
     (repeat (first|simp only [↓QA,QB,Nat.reduceLT,reduceIte,Nat.reduceEqDiff,Nat.reduceAdd,Nat.reduceLeDiff,Nat.reduceMul,Nat.reduceBEq,dU,hR.len,hR.base,hR.base0,hR.bset,hR.bset0,hR.at1,hR.atq1,B1,e0,e2,e6,e7,e14,e15,hht,d4,hle]|refine rd0 rfl ?_))
     have:=fun e'=>hKx e' y o τ2 c
     simp only [eI,d4] at this
     refine this _ ?_ ?_ hq.symm
     all_goals try simp only [aC,QE,Nat.reduceLT,reduceIte,Nat.reduceEqDiff,Nat.reduceAdd,Nat.reduceLeDiff,Nat.reduceMul,Nat.reduceBEq,dU,hR.len,hR.base,hR.base0,hR.bset,hR.bset0,hR.at1,hR.atq1,e0,e2]
    ·have hn2:n≤r.mins.hi:=by simpa using hle
     by_cases hS1:S=1
     ·have hrn:sI v r rs l n=[]:=by
       rw [sI,if_pos (by omega)];simp
      rw [hrn] at hq
      simp only [cL] at hq
      have hd1:(!decide (S=1))=false:=by simp [hS1]
      rw [hd1] at hcf
      (repeat (first|simp only [↓QA,QB,Nat.reduceLT,reduceIte,Nat.reduceEqDiff,Nat.reduceAdd,Nat.reduceLeDiff,Nat.reduceMul,Nat.reduceBEq,dU,hR.len,hR.base,hR.base0,hR.bset,hR.bset0,hR.at1,hR.atq1,B1,e0,e2,e6,e7,e14,e15,hht,d4,hle,hS2,iS,hcg,Nat.add_zero]|refine rd0 rfl ?_))
      refine cM (hcf _) ?_
      (repeat (first|simp only [↓QA,QB,Nat.reduceLT,reduceIte,Nat.reduceEqDiff,Nat.reduceAdd,Nat.reduceLeDiff,Nat.reduceMul,Nat.reduceBEq,dU,hR.len,hR.base,hR.base0,hR.bset,hR.bset0,hR.at1,hR.atq1,e0,e2,e6,e7,e14,e15]|refine rd0 rfl ?_))
      have:=fun e'=>hKx e' y o τ2 c
      simp only [eI,d4,hS2] at this
      refine this _ ?_ ?_ hq.symm
      all_goals try simp only [aC,QE,Nat.reduceLT,reduceIte,Nat.reduceEqDiff,Nat.reduceAdd,Nat.reduceLeDiff,Nat.reduceMul,Nat.reduceBEq,dU,hR.len,hR.base,hR.base0,hR.bset,hR.bset0,hR.at1,hR.atq1,e0,e2]
     ·have hd1:(!decide (S=1))=true:=by simp [hS1]
      rw [hd1] at hcf
      have hrn:sI v r rs l n=gE rs (l++[n])++sI v r rs l (n+1):=by
       rw [sI,sI,if_neg (by omega),if_neg (by omega),DC hn2,List.flatMap_cons]
      rw [hrn,yP] at hq
      have hwn:IntKind.i64.wrap (n+1)=n+1:=eA ⟨by omega,by omega⟩
      have hc:=ih n ⟨by omega,by omega⟩ o y (τ++(.cells (iG r)::τ2)) ho
      simp only [eI,d4,hS2,List.length_append,List.length_cons,List.length_nil,Nat.zero_add] at hc
      obtain ⟨r1,hr1⟩:∃ r1,cL (kI F) (gE rs (l++[n])) (o,y)=r1:=⟨_,rfl⟩
      rw [hr1] at hq hc
      (repeat (first|simp only [↓QA,QB,Nat.reduceLT,reduceIte,Nat.reduceEqDiff,Nat.reduceAdd,Nat.reduceLeDiff,Nat.reduceMul,Nat.reduceBEq,dU,hR.len,hR.base,hR.base0,hR.bset,hR.bset0,hR.at1,hR.atq1,B1,e0,e2,e6,e7,e14,e15,hht,d4,hle,hS2,iS,hcg,Nat.add_zero]|refine rd0 rfl ?_))
      refine cM (hcf _) ?_
      (repeat (first|simp only [↓QA,QB,Nat.reduceLT,reduceIte,Nat.reduceEqDiff,Nat.reduceAdd,Nat.reduceLeDiff,Nat.reduceMul,Nat.reduceBEq,dU,hR.len,hR.base,hR.base0,hR.bset,hR.bset0,hR.at1,hR.atq1,e0,e2,e6,e7,e14,e15,i5,c5,hst,hwd]|refine rd0 rfl ?_))
      refine .mono hc fun w hw=>?_
      obtain ⟨hw1,A,τ',hw2,hw3⟩:=hw
      rw [hw1,hw2]
      cases hr2:r1.2
      ·rw [hr2] at hq
       simp only [Bool.false_eq_true,if_false] at hq
       (repeat (first|simp only [↓QA,QB,Nat.reduceLT,reduceIte,Nat.reduceEqDiff,Nat.reduceAdd,Nat.reduceLeDiff,Nat.reduceMul,Nat.reduceBEq,dU,hR.len,hR.base,hR.base0,hR.bset,hR.bset0,hR.at1,hR.atq1,e0,e2,e6,e7,e14,e15]|refine rd0 rfl ?_))
       subst hq
       have hKf':=fun e'=>hKf e' A (τ2++τ')
       simp only [d4,hS2] at hKf'
       first|exact hKf' _ (by try simp only [aC,QE,Nat.reduceLT,reduceIte,Nat.reduceEqDiff,Nat.reduceAdd,Nat.reduceLeDiff,Nat.reduceMul,Nat.reduceBEq,dU,hR.len,hR.base,hR.base0,hR.bset,hR.bset0,hR.at1,hR.atq1]) trivial|exact hKf' _ (by try simp only [aC,QE,Nat.reduceLT,reduceIte,Nat.reduceEqDiff,Nat.reduceAdd,Nat.reduceLeDiff,Nat.reduceMul,Nat.reduceBEq,dU,hR.len,hR.base,hR.base0,hR.bset,hR.bset0,hR.at1,hR.atq1]) rfl|exact hKf' _ (by try simp only [aC,QE,Nat.reduceLT,reduceIte,Nat.reduceEqDiff,Nat.reduceAdd,Nat.reduceLeDiff,Nat.reduceMul,Nat.reduceBEq,dU,hR.len,hR.base,hR.base0,hR.bset,hR.bset0,hR.at1,hR.atq1])
      ·rw [hr2] at hq
       simp only [if_true] at hq
       have hA:=hw3 hr2
       rw [hA]
       simp only [Fam.out,if_true]
       rw [eI]
       (repeat (first|simp only [↓QA,QB,Nat.reduceLT,reduceIte,Nat.reduceEqDiff,Nat.reduceAdd,Nat.reduceLeDiff,Nat.reduceMul,Nat.reduceBEq,dU,hR.len,hR.base,hR.base0,hR.bset,hR.bset0,hR.at1,hR.atq1,e0,e2,e6,e7,e14,e15,hwn]|refine rd0 rfl ?_))
       refine ⟨(r.mins.hi+1-(n+1)).toNat,by omega,?_,?_,?_,?_,?_,n+1,r1.1.1,r1.1.2,n,τ2++τ',?_,by omega,by omega,rfl,fun u hu=>?_,?_,hq⟩
       ·try simp only [aC,QE,Nat.reduceLT,reduceIte,Nat.reduceEqDiff,Nat.reduceAdd,Nat.reduceLeDiff,Nat.reduceMul,Nat.reduceBEq,dU,hR.len,hR.base,hR.base0,hR.bset,hR.bset0,hR.at1,hR.atq1,e0]
       ·try simp only [aC,QE,Nat.reduceLT,reduceIte,Nat.reduceEqDiff,Nat.reduceAdd,Nat.reduceLeDiff,Nat.reduceMul,Nat.reduceBEq,dU,hR.len,hR.base,hR.base0,hR.bset,hR.bset0,hR.at1,hR.atq1,e2]
       ·try simp only [aC,QE,Nat.reduceLT,reduceIte,Nat.reduceEqDiff,Nat.reduceAdd,Nat.reduceLeDiff,Nat.reduceMul,Nat.reduceBEq,dU,hR.len,hR.base,hR.base0,hR.bset,hR.bset0,hR.at1,hR.atq1,e6]
       ·try simp only [aC,QE,Nat.reduceLT,reduceIte,Nat.reduceEqDiff,Nat.reduceAdd,Nat.reduceLeDiff,Nat.reduceMul,Nat.reduceBEq,dU,hR.len,hR.base,hR.base0,hR.bset,hR.bset0,hR.at1,hR.atq1,e7]
       ·try simp only [aC,QE,Nat.reduceLT,reduceIte,Nat.reduceEqDiff,Nat.reduceAdd,Nat.reduceLeDiff,Nat.reduceMul,Nat.reduceBEq,dU,hR.len,hR.base,hR.base0,hR.bset,hR.bset0,hR.at1,hR.atq1,e14]
       ·try simp only [aC,QE,Nat.reduceLT,reduceIte,Nat.reduceEqDiff,Nat.reduceAdd,Nat.reduceLeDiff,Nat.reduceMul,Nat.reduceBEq,dU,hR.len,hR.base,hR.base0,hR.bset,hR.bset0,hR.at1,hR.atq1]
       ·rw [←hr1] at hu
        rcases xO F _ o y u hu with h|h
        ·exact ho u h
        ·have:=DI h
         have hlr:l.length+1+rs.length=v.rails.length:=by rw [hrs2];simp;omega
         simp at this
         omega
       ·rw [eI,E6,d4,hS2]
        try simp
   ·refine ⟨e0,e2,e6,e7,e14,r.mins.lo,o,y,0,τ2,e15,Int.le_refl _,by omega,rfl,ho,?_,hq⟩
    rw [w4]
  have fin:∀ (y:X×List K5) (o:Option (List Int)) (τ2:St),R=((o,y),true)→ES Zp ZDp id q N l τ R ⟨none,[],Zp y++(kM id q N o (rl l)++(τ++(.cells (iG r)::τ2))),.bool true⟩:=fun y o τ2 hq=>by
   rw [hq]
   exact ⟨rfl,rl l,.cells (iG r)::τ2,by simp [Fam.out],fun _=>rfl⟩
  by_cases hS0:S=0
  ·have hd0:(!decide (S=0))=false:=by simp [hS0]
   rw [hd0] at hct
   rw [if_pos hS0] at hRR
   simp only [cL,if_true] at hRR
   (repeat (first|simp only [↓QA,QB,Nat.reduceLT,reduceIte,Nat.reduceEqDiff,Nat.reduceAdd,Nat.reduceLeDiff,Nat.reduceMul,Nat.reduceBEq,dU,hR.len,hR.base,hR.base0,hR.bset,hR.bset0,hR.at1,hR.atq1,a108,hE,hlt,hs,hlen,hS2,hht,iS,hcg,Nat.add_zero]|refine rd0 rfl ?_))
   refine cM (hct _) ?_
   (repeat (first|simp only [↓QA,QB,Nat.reduceLT,reduceIte,Nat.reduceEqDiff,Nat.reduceAdd,Nat.reduceLeDiff,Nat.reduceMul,Nat.reduceBEq,dU,hR.len,hR.base,hR.base0,hR.bset,hR.bset0,hR.at1,hR.atq1,hht]|refine rd0 rfl ?_))
   have lp:=fun e K=>loop e K y o [] ho
   simp only [eI,d4,hS2] at lp
   refine lp _ _ ?_ ?_ ?_ ?_ ?_ ?_ hRR ?_ ?_
   all_goals try try simp only [aC,QE,Nat.reduceLT,reduceIte,Nat.reduceEqDiff,Nat.reduceAdd,Nat.reduceLeDiff,Nat.reduceMul,Nat.reduceBEq,dU,hR.len,hR.base,hR.base0,hR.bset,hR.bset0,hR.at1,hR.atq1]
   ·intro e' y' o' τ2 c q0 q2 hq
    have hst0:=qA 5 (mS (rl l) l.length c) 0 (show l.length<5 by omega)
    rw [wS,w4] at hst0
    have fn:=fin y' o' τ2 hq
    simp only [eI,d4,hS2] at fn
    (repeat (first|simp only [↓QA,QB,Nat.reduceLT,reduceIte,Nat.reduceEqDiff,Nat.reduceAdd,Nat.reduceLeDiff,Nat.reduceMul,Nat.reduceBEq,dU,hR.len,hR.base,hR.base0,hR.bset,hR.bset0,hR.at1,hR.atq1,q0,q2,i5,c5,hst0]|refine rd0 rfl ?_))
    exact fn
   ·intro e' A τ2 q9 hq
    (repeat (first|simp only [↓QA,QB,Nat.reduceLT,reduceIte,Nat.reduceEqDiff,Nat.reduceAdd,Nat.reduceLeDiff,Nat.reduceMul,Nat.reduceBEq,dU,hR.len,hR.base,hR.base0,hR.bset,hR.bset0,hR.at1,hR.atq1,q9]|refine rd0 rfl ?_))
    exact ⟨by rw [hq],A,_,rfl,fun h=>by rw [hq] at h;cases h⟩
  ·have hd0:(!decide (S=0))=true:=by simp [hS0]
   rw [hd0] at hct
   rw [if_neg hS0] at hRR
   have hc:=ih 0 ⟨by omega,by omega⟩ o y (τ++[.cells (iG r)]) ho
   have hr0:rl (l++[0])=rl l:=by rw [E6,w4]
   rw [hr0] at hc
   simp only [eI,d4,hS2,List.length_append,List.length_cons,List.length_nil,Nat.zero_add] at hc
   obtain ⟨r1,hr1⟩:∃ r1,cL (kI F) (gE rs (l++[0])) (o,y)=r1:=⟨_,rfl⟩
   rw [hr1] at hRR hc
   (repeat (first|simp only [↓QA,QB,Nat.reduceLT,reduceIte,Nat.reduceEqDiff,Nat.reduceAdd,Nat.reduceLeDiff,Nat.reduceMul,Nat.reduceBEq,dU,hR.len,hR.base,hR.base0,hR.bset,hR.bset0,hR.at1,hR.atq1,a108,hE,hlt,hs,hlen,hS2,hht,iS,hcg,Nat.add_zero]|refine rd0 rfl ?_))
   refine cM (hct _) ?_
   (repeat (first|simp only [↓QA,QB,Nat.reduceLT,reduceIte,Nat.reduceEqDiff,Nat.reduceAdd,Nat.reduceLeDiff,Nat.reduceMul,Nat.reduceBEq,dU,hR.len,hR.base,hR.base0,hR.bset,hR.bset0,hR.at1,hR.atq1,hht,i5,c5,hst0,hwd]|refine rd0 rfl ?_))
   refine .mono hc fun w hw=>?_
   obtain ⟨hw1,A,τ',hw2,hw3⟩:=hw
   rw [hw1,hw2]
   cases hr2:r1.2
   ·rw [hr2] at hRR
    simp only [Bool.false_eq_true,if_false] at hRR
    (repeat (first|simp only [↓QA,QB,Nat.reduceLT,reduceIte,Nat.reduceEqDiff,Nat.reduceAdd,Nat.reduceLeDiff,Nat.reduceMul,Nat.reduceBEq,dU,hR.len,hR.base,hR.base0,hR.bset,hR.bset0,hR.at1,hR.atq1]|refine rd0 rfl ?_))
    rw [←hRR]
    exact ⟨rfl,A,.cells (iG r)::τ',by simp [d4,hS2],fun h=>by cases h⟩
   ·rw [hr2] at hRR
    simp only [if_true] at hRR
    have hA:=hw3 hr2
    rw [hr0] at hA
    rw [hA]
    simp only [Fam.out,if_true]
    have ho1:∀ u,r1.1.1=some u→u.length=v.rails.length:=fun u hu=>by
     rw [←hr1] at hu
     rcases xO F _ o y u hu with h|h
     ·exact ho u h
     ·have:=DI h
      have hlr:l.length+1+rs.length=v.rails.length:=by rw [hrs2];simp;omega
      simp at this
      omega
    rw [eI]
    (repeat (first|simp only [↓QA,QB,Nat.reduceLT,reduceIte,Nat.reduceEqDiff,Nat.reduceAdd,Nat.reduceLeDiff,Nat.reduceMul,Nat.reduceBEq,dU,hR.len,hR.base,hR.base0,hR.bset,hR.bset0,hR.at1,hR.atq1,hht]|refine rd0 rfl ?_))
    have lp:=fun e K=>loop e K r1.1.2 r1.1.1 τ' ho1
    simp only [eI,d4,hS2] at lp
    refine lp _ _ ?_ ?_ ?_ ?_ ?_ ?_ hRR ?_ ?_
    all_goals try try simp only [aC,QE,Nat.reduceLT,reduceIte,Nat.reduceEqDiff,Nat.reduceAdd,Nat.reduceLeDiff,Nat.reduceMul,Nat.reduceBEq,dU,hR.len,hR.base,hR.base0,hR.bset,hR.bset0,hR.at1,hR.atq1]
    ·intro e' y' o' τ2 c q0 q2 hq
     have hst0:=qA 5 (mS (rl l) l.length c) 0 (show l.length<5 by omega)
     rw [wS,w4] at hst0
     have fn:=fin y' o' τ2 hq
     simp only [eI,d4,hS2] at fn
     (repeat (first|simp only [↓QA,QB,Nat.reduceLT,reduceIte,Nat.reduceEqDiff,Nat.reduceAdd,Nat.reduceLeDiff,Nat.reduceMul,Nat.reduceBEq,dU,hR.len,hR.base,hR.base0,hR.bset,hR.bset0,hR.at1,hR.atq1,q0,q2,i5,c5,hst0]|refine rd0 rfl ?_))
     exact fn
    ·intro e' A τ2 q9 hq
     (repeat (first|simp only [↓QA,QB,Nat.reduceLT,reduceIte,Nat.reduceEqDiff,Nat.reduceAdd,Nat.reduceLeDiff,Nat.reduceMul,Nat.reduceBEq,dU,hR.len,hR.base,hR.base0,hR.bset,hR.bset0,hR.at1,hR.atq1,q9]|refine rd0 rfl ?_))
     exact ⟨by rw [hq],A,_,rfl,fun h=>by rw [hq] at h;cases h⟩
end Go.Am.Room
set_option maxRecDepth 8000
namespace Go.Am.Room
def lW:=And.intro @bK (And.intro @aK (And.intro @aZ (And.intro @aX (And.intro @aY (And.intro @aT (And.intro @bI (And.intro @bF (And.intro @bE (And.intro @dP (And.intro @dA (And.intro @Nat.not_lt_zero (And.intro @List.length_append.{0} (And.intro @Nat.zero_add (And.intro @Nat.mul_one (And.intro @Int.toNat_natCast (And.intro @eM (And.intro @fX (And.intro @fZ (And.intro @kT (And.intro @fM (And.intro @iP (And.intro @iN (And.intro @iQ (And.intro @iO (And.intro @iR (And.intro @iM (And.intro @Nat.add_lt_add_iff_left (And.intro @Nat.lt_add_right_iff_pos (And.intro @pG (@pE))))))))))))))))))))))))))))))
def fY {X:Type} (v:Net) (bl:List Int) (f:List Int→X→X×Bool) (x:X) (A:List K5):(X×List K5)×Bool:=cL (nB v bl f) (gE v.rails []) (x,A)
theorem OH {X:Type} {Zp ZDp:X×List K5→St} {v:Net} {b p m q N:Nat} {bl:List Int} (hR:Fam Zp ZDp (db v b m) p q N) (hS:∀ x,MemAt (fun A=>Zp (x,A)) (db v b m) (tEs v) p m N) (hv:Vd v) (hb:ButIs b bl) {id:Nat} {P:List Int→Prop} {f:List Int→X→X×Bool} (hy:E7 Zp ZDp id v P f) (hP:∀ c,LeafOk v c→sF v bl c=true→P c) (y:X×List K5) :
  Run T (.call 106 [.yield id,.ptr q 0] (Zp y)) fun o=>∃ τ',o.σ=Fam.out Zp ZDp (cL (nB v bl f) (gE v.rails []) y)++τ':=by
 have hn:=HX hR hS hv hb hy hP v.rails [] none y [] (by simp) (by simp) (fun i hi=>by simp at hi) (fun u hu=>by cases hu)
 have hl:=hR.len y
 have hz:[AV.int .i64 0,.int .i64 0,.int .i64 0,.int .i64 0,.int .i64 0]=bX 5 (rl []):=by simp [bX,rl,List.range_succ]
 obtain ⟨ho1,ho2⟩:=BG (nB v bl f) (gE v.rails []) none y (GB _ _ (fun r hr=>(hv.ra r hr).mins.1)) (fun a _ h=>by cases h)
 have hend:∀ w,ES Zp ZDp id q N [] [] (cL (kI (nB v bl f)) (gE v.rails []) (none,y)) w→∃ τ',w.σ=Fam.out Zp ZDp (cL (nB v bl f) (gE v.rails []) y)++τ':=by
  rintro w ⟨_,A,τ',h2,_⟩
  refine ⟨kM id q N (cL (kI (nB v bl f)) (gE v.rails []) (none,y)).1.1 A++([]++τ'),?_⟩
  rw [h2,show ((cL (kI (nB v bl f)) (gE v.rails []) (none,y)).1.2,(cL (kI (nB v bl f)) (gE v.rails []) (none,y)).2)=cL (nB v bl f) (gE v.rails []) y from Prod.ext ho1 ho2]
 rw [eI,BU] at hn
 simp only [List.length_nil,Option.getD_none,Option.isNone_none] at hn
 refine .call (af:=a106) rfl (by simp [a106]) (kE (K:=fun j e σ'=>(j=none∨j=some .ret)∧∃ τ',σ'=Fam.out Zp ZDp (cL (nB v bl f) (gE v.rails []) y)++τ') ?_ fun o ho=>ho) fun o ho=>⟨ho.1,_,rfl,.inl ho.2⟩
 (repeat (first|simp only [↓QA,QB,Nat.reduceLT,reduceIte,Nat.reduceEqDiff,Nat.reduceAdd,Nat.reduceLeDiff,Nat.reduceMul,Nat.reduceBEq,lW,hR.len,hR.base,hR.base0,hR.bset,hR.bset0,hR.at1,hR.at0,a106,hl,hz]|refine rd0 rfl ?_))
 refine cM (KE _) ?_
 (repeat (first|simp only [↓QA,QB,Nat.reduceLT,reduceIte,Nat.reduceEqDiff,Nat.reduceAdd,Nat.reduceLeDiff,Nat.reduceMul,Nat.reduceBEq,lW,hR.len,hR.base,hR.base0,hR.bset,hR.bset0,hR.at1,hR.at0,hl,hz,sL]|refine rd0 rfl ?_))
 simp only [sL] at hn
 refine .mono hn fun w hw=>?_
 have:=hend w hw
 (repeat (first|simp only [↓QA,QB,Nat.reduceLT,reduceIte,Nat.reduceEqDiff,Nat.reduceAdd,Nat.reduceLeDiff,Nat.reduceMul,Nat.reduceBEq,lW,hR.len,hR.base,hR.base0,hR.bset,hR.bset0,hR.at1,hR.at0]|refine rd0 rfl ?_))
 exact this
theorem aCT {X M:Type} {Z ZD:X→M→St} {obj:List AV} {es:M→List (AV×AV)} {p m q N:Nat} (h:Fam1 Z ZD obj es p m q N):Fam (fun y:X×M=>Z y.1 y.2) (fun y=>ZD y.1 y.2) obj p q N :=
 ⟨fun y=>(h.ship y.1).len y.2,fun y=>h.lenD y.1 y.2,fun y=>(h.ship y.1).at0 y.2,fun y=>h.atq0 y.1 y.2,fun x y k i hk hi=>h.keep _ _ _ _ k i hk hi,fun x y k i hk hi=>h.keepD _ _ _ _ k i hk hi,h.pl,h.ql⟩
theorem zK {X:Type} {Z ZD:X→List K5→St} {v:Net} {b p m q N:Nat} {bl:List Int} (hF:Fam1 Z ZD (db v b m) (tEs v) p m q N) (hv:Vd v) (hb:ButIs b bl) {id:Nat} {P:List Int→Prop} {f:List Int→X→X×Bool} (hy:wW Z ZD id (qO v) P f) (hP:∀ c,LeafOk v c→sF v bl c=true→P c) (x:X) (A:List K5) :
  Run T (.call 106 [.yield id,.ptr q 0] (Z x A)) fun o=>∃ τ',o.σ=Fam1.out Z ZD ((fY v bl f x A).1.1,(fY v bl f x A).2) (fY v bl f x A).1.2++τ' :=
 OH (aCT hF) (fun x=>hF.ship x) hv hb (f:=f) (fun t ht x τ=>hy t ht false none x.1 x.2 τ) hP (x,A)
theorem uZ {X:Type} (v:Net) (bl:List Int) (f:List Int→X→X×Bool) (x:X) (A:List K5):((fY v bl f x A).1.1,(fY v bl f x A).2)=cL f (TL v bl) x:=by
 have key:∀ (l:List (List Int)) (x:X) (A:List K5),((cL (nB v bl f) l (x,A)).1.1,(cL (nB v bl f) l (x,A)).2)=cL f (l.filter (sF v bl)) x:=by
  intro l
  induction l with
  |nil=>intro x A;rfl
  |cons c l ih =>
   intro x A
   simp only [cL,List.filter_cons]
   cases h:sF v bl c
   ·have hp:nB v bl f c (x,A)=((x,oJ A (pad c)),true):=by simp only [nB,h,Bool.false_eq_true,if_false]
    rw [hp]
    simp only [if_true,Bool.false_eq_true,if_false]
    exact ih x _
   ·have hp:nB v bl f c (x,A)=(((f c x).1,oJ A (pad c)),(f c x).2):=by simp only [nB,h,if_true]
    rw [hp]
    simp only [if_true,cL]
    split
    ·exact ih _ _
    ·rfl
 exact key _ x A
def TOk (v:Net) (bl c:List Int):Prop:=LeafOk v c∧sF v bl c=true
theorem nV {X:Type} {S:List K5→St} {v:Net} {b p m N:Nat} {bl:List Int} (hS:MemAt S (db v b m) (tEs v) p m N) (hv:Vd v) (hb:ButIs b bl) (U UD:X→St) (n:Nat) (hU:∀ x,(U x).length=n) (hUD:∀ x,(UD x).length=n) (ok:∀ x y,y∈U x→∀ k,N≤k→aH k y) (okD:∀ x y,y∈UD x→∀ k,N≤k→aH k y)
  (J:AJump) {f:List Int→X→X×Bool} (e:Env) (k:Nat) (ps:List Nat) (a bb:ACode) (ek:Env.get e k = .func 106 [] [.ptr (N+n) 0])
  (hy:wW (fun x B=>S B++(U x++[.cells [.ptr p 0],.loop .ready none e ps a bb])) (fun x B=>S B++(UD x++[.cells [.ptr p 0],.loop .done (some J) e ps a bb])) (N+n+1) (qO v) (TOk v bl) f)
  (x:X) (A:List K5) (K:KJ)
  (hT:∀ τ,(cL f (TL v bl) x).2=true→K none e (S (fY v bl f x A).1.2++(U (cL f (TL v bl) x).1++(.cells [.ptr p 0]::.dead::τ))))
  (hD:∀ τ,(cL f (TL v bl) x).2=false→K (some J) e (S (fY v bl f x A).1.2++(UD (cL f (TL v bl) x).1++(.cells [.ptr p 0]::.dead::τ)))) :
  rK (K:=⟨K⟩) T (.rangeFunc (.t k) ps a bb) e (S A++(U x++[.cells [.ptr p 0]])):=by
 have hrun:=zK (UJ hS U UD n hU hUD ok okD e ps a bb .ready .done none (some J)) hv hb hy (fun c h1 h2=>⟨h1,h2⟩) x A
 rw [uZ] at hrun
 exact PV (A:=List Int) hS U UD n hU hUD J e k ps a bb 106 ek (cL f (TL v bl) x) (fY v bl f x A).1.2 x A hrun K hT hD
def GL (_:List Int) (x:Unit):Unit×Bool:=(x,false)
theorem MS (l:List (List Int)):(cL GL l ()).2=l.isEmpty:=by
 cases l<;>simp [cL,GL]
def HZ (v:Net) (bl:List Int) (A:List K5):List K5:=(fY v bl GL () A).1.2
theorem DK {S:List K5→St} {v:Net} {b p m N:Nat} {bl:List Int} (hR:MemAt S (db v b m) (tEs v) p m N) (hv:Vd v) (hb:ButIs b bl) (A:List K5) :
  BI T (.func 93 [] []) [.ptr p 0] (S A) (.bool !(bH v bl).isEmpty) (S (HZ v bl A)):=by
 have hit:=MS (TL v bl)
 rw [K7 hv] at hit
 refine yX hR (af:=a93) rfl (by simp [a93]) ?_
 (repeat (first|simp only [↓QA,QB,Nat.reduceLT,reduceIte,Nat.reduceEqDiff,Nat.reduceAdd,Nat.reduceLeDiff,Nat.reduceMul,Nat.reduceBEq,lW,hR.len,hR.base,hR.base0,hR.bset,hR.bset0,hR.at1,hR.at0,a93]|refine rd0 rfl ?_))
 refine sP rfl (by simp [a80]) ?_
 (repeat (first|simp only [↓QA,QB,Nat.reduceLT,reduceIte,Nat.reduceEqDiff,Nat.reduceAdd,Nat.reduceLeDiff,Nat.reduceMul,Nat.reduceBEq,lW,hR.len,hR.base,hR.base0,hR.bset,hR.bset0,hR.at1,hR.at0,a80]|refine rd0 rfl ?_))
 refine nV hR hv hb (fun _:Unit=>[.cells [.bool false]]) (fun _=>[.cells [.bool true]]) 1 (fun _=>rfl) (fun _=>rfl) (fun _ y hy k _=>by simp at hy;subst hy;simp [aH,okVs,okV]) (fun _ y hy k _=>by simp at hy;subst hy;simp [aH,okVs,okV]) .ret (f:=GL) _ 4 [5,6] _ _ ?_ ?_ () A _ ?_ ?_
 ·try simp only [aC,QE,Nat.reduceLT,reduceIte,Nat.reduceEqDiff,Nat.reduceAdd,Nat.reduceLeDiff,Nat.reduceMul,Nat.reduceBEq,lW,hR.len,hR.base,hR.base0,hR.bset,hR.bset0,hR.at1,hR.at0]
 ·refine OQ hR _ _ 1 (fun _=>rfl) (fun _=>rfl) .ret _ _ (qO v) (fun _ _ _=>rfl) _ _ ?_
  intro t _ fl tk x A' τ
  simp only [lJ,qO]
  (repeat (first|simp only [↓QA,QB,Nat.reduceLT,reduceIte,Nat.reduceEqDiff,Nat.reduceAdd,Nat.reduceLeDiff,Nat.reduceMul,Nat.reduceBEq,lW,hR.len,hR.base,hR.base0,hR.bset,hR.bset0,hR.at1,hR.at0,YO,GL]|refine rd0 rfl ?_))
  exact .inr ⟨[],by simp⟩
 ·intro τ h2
  rw [hit] at h2
  (repeat (first|simp only [↓QA,QB,Nat.reduceLT,reduceIte,Nat.reduceEqDiff,Nat.reduceAdd,Nat.reduceLeDiff,Nat.reduceMul,Nat.reduceBEq,lW,hR.len,hR.base,hR.base0,hR.bset,hR.bset0,hR.at1,hR.at0,h2]|refine rd0 rfl ?_))
  refine ⟨_,_,rfl,rfl,?_⟩
  try simp only [QS,QC,Nat.reduceLT,reduceIte,Nat.reduceEqDiff,Nat.reduceAdd,Nat.reduceLeDiff,Nat.reduceMul,Nat.reduceBEq,lW,hR.len,hR.base,hR.base0,hR.bset,hR.bset0,hR.at1,hR.at0]
 ·intro τ h2
  rw [hit] at h2
  (repeat (first|simp only [↓QA,QB,Nat.reduceLT,reduceIte,Nat.reduceEqDiff,Nat.reduceAdd,Nat.reduceLeDiff,Nat.reduceMul,Nat.reduceBEq,lW,hR.len,hR.base,hR.base0,hR.bset,hR.bset0,hR.at1,hR.at0,h2]|refine rd0 rfl ?_))
  refine ⟨_,_,rfl,rfl,?_⟩
  try simp only [QS,QC,Nat.reduceLT,reduceIte,Nat.reduceEqDiff,Nat.reduceAdd,Nat.reduceLeDiff,Nat.reduceMul,Nat.reduceBEq,lW,hR.len,hR.base,hR.base0,hR.bset,hR.bset0,hR.at1,hR.at0]
end Go.Am.Room
set_option maxRecDepth 4000
namespace Go.Am.Room
def fF:=And.intro @bK (And.intro @aK (And.intro @aZ (And.intro @aX (And.intro @aY (And.intro @aT (And.intro @bI (And.intro @bF (And.intro @bE (And.intro @dP (And.intro @dA (And.intro @Nat.not_lt_zero (And.intro @List.length_append.{0} (And.intro @Nat.add_lt_add_iff_left (And.intro @Nat.lt_add_right_iff_pos (And.intro @Nat.mul_one (@Int.toNat_natCast))))))))))))))))
def B6 (σ:St) (v:Net) (b:Nat):St:=σ++[.cells (aB v),.map [],.cells (db v b (σ.length+1))]
theorem GF (σ:St) (v:Net) (b:Nat):BI T (.func 92 [] []) [bM v,.int .i64 b] σ (.ptr (σ.length+2) 0) (B6 σ v b):=by
 refine .callf (.call (af:=a92) rfl (by simp [a92]) (kE (K:=fun j e σ1=>(j=none∨j=some .ret)∧Env.get e 4 = .ptr (σ.length+2) 0∧σ1=B6 σ v b) ?_ fun o ho=>ho) fun o ho=>?_)
 ·(repeat (first|simp only [↓QA,QB,Nat.reduceLT,reduceIte,Nat.reduceEqDiff,Nat.reduceAdd,Nat.reduceLeDiff,Nat.reduceMul,Nat.reduceBEq,fF,a92,List.length_append,B6,db]|refine rd0 rfl ?_))
  try simp [db,aB,ints]
 ·exact ⟨ho.1,_,rfl,.inl ⟨ho.2.1,ho.2.2⟩⟩
theorem tM (v:Net) (A:List K5) (k:Nat):aH k (.map (tEs v A)):=aCU (BM v) A k
def mF (σ:St) (v:Net) (A:List K5):St:=σ++[.cells (aB v),.cells (aB v),.map (tEs v A),.cells (db v 0 (σ.length+2))]
theorem B5 (σ:St) (v:Net):MemAt (mF σ v) (db v 0 (σ.length+2)) (tEs v) (σ.length+3) (σ.length+2) (σ.length+4) :=
 ⟨fun M=>by simp [mF],fun M=>by simp [mF,tB,sJ,SU],fun M=>by rw [mF,sS];rfl,fun M M'=>by rw [mF,mF,pW];rfl,fun A k=>tM v A k,by omega,by omega⟩
def EC:List Int→Bool
 |[t,n]=>inR t 0 (n-1)
 |_=>true
def wA (v:Net) (ns:List Int):Int:=cC v (if (bY v).2.2=0 then (if EC ns=true then 0 else 4) else (bY v).2.2)
theorem m5 (v:Net):wA v []=dB v:=by
 have:(if (bY v).2.2=0 then (if EC []=true then 0 else 4) else (bY v).2.2:Int)=(bY v).2.2:=by
  split
  ·rename_i h;simp [EC,h]
  ·rfl
 rw [wA,this];rfl
theorem S7 (v:Net) (t:Int):wA v [t,v.trams.length]=lY v t:=rfl
def nG (v:Net) (ns:List Int) (k:Nat):AV:=if wA v ns=0 then .tuple [.ptr (k+3) 0,.int .i64 0] else .tuple [.nilPtr,.int .i64 (wA v ns)]
def qC (v:Net):List K5:=HZ v [] []
def rZ (σ:St) (v:Net) (ns:List Int):St:=if wA v ns=0 then mF σ v (qC v) else σ
theorem uE (σ:St) (v:Net) (ns:List Int) (hns:ns=[]∨∃ t,ns=[t,(v.trams.length:Int)]) (hf:Fits v):BI T (.func 79 [] []) [bM v,.lit (ns.map (.int .i64)) true none] σ (nG v ns σ.length) (rZ σ v ns):=by
 refine .callf (.call (af:=a79) rfl (by simp [a79]) (kE (K:=fun j e σ1=>(j=none∨j=some .ret)∧(if wA v ns=0 then Env.get e 4 = .ptr (σ.length+3) 0∧Env.get e 5 = .int .i64 0∧σ1=mF σ v (qC v) else Env.get e 4 = .nilPtr∧Env.get e 5 = .int .i64 (wA v ns)∧∃ τ,σ1=σ++τ)) ?_ fun o ho=>ho) fun o ho=>?_)
 ·obtain ⟨E,hE⟩:∃ E,wA v ns=E:=⟨_,rfl⟩
  rw [hE]
  rw [wA] at hE
  (repeat (first|simp only [↓QA,QB,Nat.reduceLT,reduceIte,Nat.reduceEqDiff,Nat.reduceAdd,Nat.reduceLeDiff,Nat.reduceMul,Nat.reduceBEq,fF,a79]|refine rd0 rfl ?_))
  ((first|refine aD (kL v hf) rfl dd ?_|refine aE (kL v hf) rfl dd ?_);(repeat (first|simp only [↓QA,QB,Nat.reduceLT,reduceIte,Nat.reduceEqDiff,Nat.reduceAdd,Nat.reduceLeDiff,Nat.reduceMul,Nat.reduceBEq,fF,mE]|refine rd0 rfl ?_)))
  cases h0:((bY v).2.2==0)
  ·have h0':(bY v).2.2≠0:=by simpa using h0
   have he:E=(bY v).2.2:=by rw [←hE];simp [h0',cC]
   (repeat (first|simp only [↓QA,QB,Nat.reduceLT,reduceIte,Nat.reduceEqDiff,Nat.reduceAdd,Nat.reduceLeDiff,Nat.reduceMul,Nat.reduceBEq,fF,h0]|refine rd0 rfl ?_))
   rw [he,if_neg h0']
   simp
  ·have h0':(bY v).2.2=0:=by simpa using h0
   have hv:=dI h0'
   have hnt:=hv.ntr
   rw [if_pos h0'] at hE
   have hlk:=GF (σ++[.cells (aB v)]) v 0
   have hso:=DK (B5 σ v) hv ML []
   have e0:tEs v []=[]:=rfl
   simp only [mF,B6,e0] at hso hlk
   try simp only [↓QA,QB,Nat.reduceLT,reduceIte,Nat.reduceEqDiff,Nat.reduceAdd,Nat.reduceLeDiff,Nat.reduceMul,Nat.reduceBEq,fF,List.append_assoc] at hso hlk
   have tail:EC ns=true→(if (bH v []).isEmpty then 8 else 0)=E:=fun q=>by
    rw [q] at hE;simpa [cC] using hE
   have hk0:σ.length<σ.length+1:=by omega
   rcases hns with rfl|⟨t,rfl⟩
   ·have tl:=tail rfl
    have w01:IntKind.i64.wrap ((0:Int)+1)=1:=rfl
    have d01:decide ((1:Int)<((0:Nat):Int))=false:=rfl
    (repeat (first|simp only [↓QA,QB,Nat.reduceLT,reduceIte,Nat.reduceEqDiff,Nat.reduceAdd,Nat.reduceLeDiff,Nat.reduceMul,Nat.reduceBEq,fF,h0]|refine rd0 rfl ?_))
    refine bT (S:=Unit) () (fun _=>True) (fun _=>0) (fun _=>[(1,.lit [] false none),(2,.ptr σ.length 0),(9,.int .i64 0)]) (fun _=>σ++[.cells (aB v)]) trivial (by simp [aB,ints]) ?_ fun _ _=>?_
    ·try simp only [aC,QE,Nat.reduceLT,reduceIte,Nat.reduceEqDiff,Nat.reduceAdd,Nat.reduceLeDiff,Nat.reduceMul,Nat.reduceBEq,fF,List.map_nil]
     try simp [clr,clrs]
    ·(repeat (first|simp only [↓QA,QB,Nat.reduceLT,reduceIte,Nat.reduceEqDiff,Nat.reduceAdd,Nat.reduceLeDiff,Nat.reduceMul,Nat.reduceBEq,fF,MA,w01,d01]|refine rd0 rfl ?_))
     refine dY hlk ?_
     (repeat (first|simp only [↓QA,QB,Nat.reduceLT,reduceIte,Nat.reduceEqDiff,Nat.reduceAdd,Nat.reduceLeDiff,Nat.reduceMul,Nat.reduceBEq,fF]|refine rd0 rfl ?_))
     refine dY hso ?_
     cases hs:(bH v []).isEmpty
     ·have he:E=0:=by rw [←tl];simp [hs]
      subst he
      (repeat (first|simp only [↓QA,QB,Nat.reduceLT,reduceIte,Nat.reduceEqDiff,Nat.reduceAdd,Nat.reduceLeDiff,Nat.reduceMul,Nat.reduceBEq,fF]|refine rd0 rfl ?_))
      simp [mF,qC,aB,ints]
     ·have he:E=8:=by rw [←tl];simp [hs]
      subst he
      (repeat (first|simp only [↓QA,QB,Nat.reduceLT,reduceIte,Nat.reduceEqDiff,Nat.reduceAdd,Nat.reduceLeDiff,Nat.reduceMul,Nat.reduceBEq,fF]|refine rd0 rfl ?_))
      simp
   ·have w01:IntKind.i64.wrap ((0:Int)+1)=1:=rfl
    have w21:IntKind.i64.wrap ((2:Int)+1)=3:=rfl
    have w02:IntKind.i64.wrap ((0:Int)+2)=2:=rfl
    have d12:decide ((1:Int)<((2:Nat):Int))=true:=rfl
    have d32:decide ((3:Int)<((2:Nat):Int))=false:=rfl
    have j0:(0:Int)≤0:=by decide
    have j1:(0:Int)≤1:=by decide
    have t0:Int.toNat 0=0:=rfl
    have t1:Int.toNat 1=1:=rfl
    have hwl:IntKind.i64.wrap ((v.trams.length:Int)-1)=(v.trams.length:Int)-1:=eA ⟨by omega,by omega⟩
    have hix0:∀ l:List AV,yI 1 (.int .i64 t::l) 0 none=some (.lptr (.int .i64 t::l) 0 0 none):=fun l=>by simp [yI,AV.cells]
    have hix1:∀ l:List AV,yI 1 (.int .i64 t::.int .i64 (v.trams.length:Int)::l) 1 none=some (.lptr (.int .i64 t::.int .i64 (v.trams.length:Int)::l) 1 0 none):=fun l=>by simp [yI,AV.cells]
    have hpb:EC [t,(v.trams.length:Int)]=inR t 0 ((v.trams.length:Int)-1):=rfl
    (repeat (first|simp only [↓QA,QB,Nat.reduceLT,reduceIte,Nat.reduceEqDiff,Nat.reduceAdd,Nat.reduceLeDiff,Nat.reduceMul,Nat.reduceBEq,fF,h0]|refine rd0 rfl ?_))
    refine bT (S:=Bool) false (fun b=>b=true→EC [t,(v.trams.length:Int)]=true) (fun b=>if b then 0 else 1) (fun b=>[(1,.lit [.int .i64 t,.int .i64 v.trams.length] false none),(2,.ptr σ.length 0),(9,.int .i64 (if b then 2 else 0))]) (fun _=>σ++[.cells (aB v)]) (fun h=>by cases h) (by simp [aB,ints]) ?_ fun b hb=>?_
    ·try simp only [aC,QE,Nat.reduceLT,reduceIte,Nat.reduceEqDiff,Nat.reduceAdd,Nat.reduceLeDiff,Nat.reduceMul,Nat.reduceBEq,fF,List.map_nil,List.map_cons]
     try simp [clr,clrs]
    ·cases b
     ·simp only [Bool.false_eq_true,if_false]
      (repeat (first|simp only [↓QA,QB,Nat.reduceLT,reduceIte,Nat.reduceEqDiff,Nat.reduceAdd,Nat.reduceLeDiff,Nat.reduceMul,Nat.reduceBEq,fF,MA,w01,d12,hix0,hix1,hwl]|refine rd0 rfl ?_))
      ((first|refine eT (cG 0 ((v.trams.length:Int)-1) [t] (by simp)) (by simp [clr,clrs,ints]) (by simp [okV,okVs]) ?_|refine fH (cG 0 ((v.trams.length:Int)-1) [t] (by simp)) (by simp [clr,clrs,ints]) (by simp [okV,okVs]) ?_);(repeat (first|simp only [↓QA,QB,Nat.reduceLT,reduceIte,Nat.reduceEqDiff,Nat.reduceAdd,Nat.reduceLeDiff,Nat.reduceMul,Nat.reduceBEq,fF,kO,w01,d12,hix0,hix1,hwl]|refine rd0 rfl ?_)))
      cases h1:inR t 0 ((v.trams.length:Int)-1)
      ·rw [hpb,h1] at hE
       have he:E=4:=by rw [←hE];simp [cC]
       subst he
       (repeat (first|simp only [↓QA,QB,Nat.reduceLT,reduceIte,Nat.reduceEqDiff,Nat.reduceAdd,Nat.reduceLeDiff,Nat.reduceMul,Nat.reduceBEq,fF,hix0,hix1]|refine rd0 rfl ?_))
       simp
      ·(repeat (first|simp only [↓QA,QB,Nat.reduceLT,reduceIte,Nat.reduceEqDiff,Nat.reduceAdd,Nat.reduceLeDiff,Nat.reduceMul,Nat.reduceBEq,fF,hix0,hix1,w02]|refine rd0 rfl ?_))
       refine ⟨true,fun _=>by rw [hpb,h1],by simp,?_⟩
       try simp only [aC,QE,Nat.reduceLT,reduceIte,Nat.reduceEqDiff,Nat.reduceAdd,Nat.reduceLeDiff,Nat.reduceMul,Nat.reduceBEq,fF,w02]
       try simp [aH]
     ·have tl:=tail (hb rfl)
      simp only [if_true]
      (repeat (first|simp only [↓QA,QB,Nat.reduceLT,reduceIte,Nat.reduceEqDiff,Nat.reduceAdd,Nat.reduceLeDiff,Nat.reduceMul,Nat.reduceBEq,fF,MA,w21,d32]|refine rd0 rfl ?_))
      refine dY hlk ?_
      (repeat (first|simp only [↓QA,QB,Nat.reduceLT,reduceIte,Nat.reduceEqDiff,Nat.reduceAdd,Nat.reduceLeDiff,Nat.reduceMul,Nat.reduceBEq,fF]|refine rd0 rfl ?_))
      refine dY hso ?_
      cases hs:(bH v []).isEmpty
      ·have he:E=0:=by rw [←tl];simp [hs]
       subst he
       (repeat (first|simp only [↓QA,QB,Nat.reduceLT,reduceIte,Nat.reduceEqDiff,Nat.reduceAdd,Nat.reduceLeDiff,Nat.reduceMul,Nat.reduceBEq,fF]|refine rd0 rfl ?_))
       simp [mF,qC,aB,ints]
      ·have he:E=8:=by rw [←tl];simp [hs]
       subst he
       (repeat (first|simp only [↓QA,QB,Nat.reduceLT,reduceIte,Nat.reduceEqDiff,Nat.reduceAdd,Nat.reduceLeDiff,Nat.reduceMul,Nat.reduceBEq,fF]|refine rd0 rfl ?_))
       simp
 ·obtain ⟨hj,ho⟩:=ho
  by_cases he:wA v ns=0
  ·rw [if_pos he] at ho
   refine ⟨hj,nG v ns σ.length,?_,.inl ⟨rfl,?_⟩⟩
   ·simp [iH,oR,a79,ho.1,ho.2.1,nG,he]
   ·rw [ho.2.2,rZ,if_pos he]
  ·rw [if_neg he] at ho
   obtain ⟨h4,h5,τ,hσ⟩:=ho
   refine ⟨hj,nG v ns σ.length,?_,.inr ⟨20,nG v ns σ.length,nG v ns σ.length,?_,.inl rfl,fun i hi=>.inl (by rw [hσ];exact List.getElem?_append_left hi),by rw [hσ];simp,rfl,by rw [hσ];simp [rZ,he]⟩⟩
   ·simp [iH,oR,a79,h4,h5,nG,he]
   ·simp [nG,he,snap,snaps]
theorem OU {X:Type} {M:Type} {S:X→M→St} {obj:List AV} {es:M→List (AV×AV)} {p m N:Nat} (hS:∀ x,MemAt (S x) obj es p m N) (hK:∀ x A y B k i,N≤k→i<N→fI (S x A) (S y B) k i) (hpl:p<N) (U UD:X→St) (n:Nat) (hU:∀ x,(U x).length=n) (hUD:∀ x,(UD x).length=n) (ok:∀ x y,y∈U x→∀ k,N≤k→aH k y) (okD:∀ x y,y∈UD x→∀ k,N≤k→aH k y)
  (env:Env) (ps:List Nat) (a bb:ACode) (st st':LS) (pe pe':Option AJump) :
  Fam1 (fun x A=>S x A++(U x++[.cells [.ptr p 0],.loop st pe env ps a bb])) (fun x A=>S x A++(UD x++[.cells [.ptr p 0],.loop st' pe' env ps a bb])) obj es p m (N+n) (N+n+2):=by
 have low:∀ (x:X) (A:M) (y:X) (B:M) (C D:St) (k i:Nat),N≤k→i<N→fI (S x A++C) (S y B++D) k i:=by
  intro x A y B C D k i hk hi
  have e1:(S x A++C)[i]? = (S x A)[i]?:=List.getElem?_append_left (by rw [(hS x).len];exact hi)
  have e2:(S y B++D)[i]? = (S y B)[i]?:=List.getElem?_append_left (by rw [(hS y).len];exact hi)
  have:=hK x A y B k i hk hi
  simp only [fI,e1,e2] at this ⊢
  exact this
 have high:∀ (P Q:St) (C D:St) (l1 l2:ABlk) (k i:Nat),P.length=N→Q.length=N→C.length=n→D.length=n→(∀ y∈D,aH k y)→N≤i→i<N+n+2→(l1=l2∨∃ st pe st' pe' env ps a b,l1 = .loop st pe env ps a b∧l2 = .loop st' pe' env ps a b) →
   fI (P++(C++[.cells [.ptr p 0],l1])) (Q++(D++[.cells [.ptr p 0],l2])) k i:=by
  intro P Q C D l1 l2 k i hP hQ hA hB hk h1 h2 hl
  have e1:(P++(C++[.cells [.ptr p 0],l1]))[i]? = (C++[.cells [.ptr p 0],l1])[i-N]?:=by rw [List.getElem?_append_right (by rw [hP];exact h1),hP]
  have e2:(Q++(D++[.cells [.ptr p 0],l2]))[i]? = (D++[.cells [.ptr p 0],l2])[i-N]?:=by rw [List.getElem?_append_right (by rw [hQ];exact h1),hQ]
  simp only [fI,e1,e2]
  obtain ⟨j,hj⟩:∃ j,i-N=j:=⟨_,rfl⟩
  rw [hj]
  by_cases hjn:j<n
  ·right;left
   have hb:j<D.length:=by omega
   refine ⟨D[j],?_,hk _ (List.getElem_mem hb)⟩
   rw [List.getElem?_append_left hb,List.getElem?_eq_getElem hb]
  ·have:j=n∨j=n+1:=by omega
   rcases this with rfl|rfl
   ·left
    rw [List.getElem?_append_right (by omega),List.getElem?_append_right (by omega),hA,hB]
    simp
   ·rw [List.getElem?_append_right (by omega),List.getElem?_append_right (by omega),hA,hB]
    simp only [Nat.add_sub_cancel_left,List.getElem?_cons_succ,List.getElem?_cons_zero]
    rcases hl with rfl|⟨_,_,_,_,_,_,_,_,rfl,rfl⟩
    ·exact .inl rfl
    ·exact .inr (.inr ⟨_,_,_,_,_,_,_,_,rfl,rfl⟩)
 refine ⟨fun x=>?_,fun x A=>?_,fun x A=>?_,fun x A y B k i hk hi=>?_,fun x A y B k i hk hi=>?_,by omega,by omega⟩
 ·have:=(hS x).app (U x++[.cells [.ptr p 0],.loop st pe env ps a bb])
  rw [List.length_append,hU] at this
  exact this
 ·simp [(hS x).len,hUD];omega
 ·have e:N+n=(S x A).length+n:=by rw [(hS x).len]
  rw [e,tB]
  have:n=(U x).length:=by rw [hU]
  rw [this]
  exact jZ _ _
 ·by_cases h:i<N
  ·exact low _ _ _ _ _ _ _ _ (by omega) h
  ·exact high _ _ _ _ _ _ _ _ ((hS x).len A) ((hS y).len B) (hU x) (hU y) (fun z hz=>ok y z hz k (by omega)) (by omega) hi (.inl rfl)
 ·by_cases h:i<N
  ·exact low _ _ _ _ _ _ _ _ (by omega) h
  ·exact high _ _ _ _ _ _ _ _ ((hS x).len A) ((hS y).len B) (hU x) (hUD y) (fun z hz=>okD y z hz k (by omega)) (by omega) hi (.inr ⟨_,_,_,_,_,_,_,_,rfl,rfl⟩)
theorem NZ {X M:Type} {S:X→M→St} {obj:List AV} {es:M→List (AV×AV)} {p m N:Nat} (hS:∀ x,MemAt (S x) obj es p m N) (U UD:X→St) (n:Nat) (hU:∀ x,(U x).length=n) (hUD:∀ x,(UD x).length=n)
  (J:AJump) (e:Env) (k:Nat) (ps:List Nat) (a bb:ACode) (g:FuncId) (ek:Env.get e k = .func g [] [.ptr (N+n) 0]) (r:X×Bool) (B':M) (x:X) (B:M)
  (hrun:Run T (.call g [.yield (N+n+1),.ptr (N+n) 0] (S x B++(U x++[.cells [.ptr p 0],.loop .ready none e ps a bb]))) fun o=>∃ τ',o.σ=Fam1.out (fun x A=>S x A++(U x++[.cells [.ptr p 0],.loop .ready none e ps a bb])) (fun x A=>S x A++(UD x++[.cells [.ptr p 0],.loop .done (some J) e ps a bb])) r B'++τ') (K:KJ)
  (hT:∀ τ,r.2=true→K none e (S r.1 B'++(U r.1++(.cells [.ptr p 0]::.dead::τ))))
  (hD:∀ τ,r.2=false→K (some J) e (S r.1 B'++(UD r.1++(.cells [.ptr p 0]::.dead::τ)))) :
  rK (K:=⟨K⟩) T (.rangeFunc (.t k) ps a bb) e (S x B++(U x++[.cells [.ptr p 0]])):=by
 have hlen:(S x B++(U x++[ABlk.cells [.ptr p 0]])).length=N+n+1:=by simp [(hS x).len,hU];omega
 have hout:∀ (A W:St) (lp:ABlk) (τ':St),A.length=N→W.length=n→(A++(W++[ABlk.cells [.ptr p 0],lp])++τ')[N+n+1]? = some lp∧(A++(W++[ABlk.cells [.ptr p 0],lp])++τ').set (N+n+1) .dead=A++(W++(.cells [.ptr p 0]::.dead::τ')):=by
  intro A W lp τ' hA hW
  have h1:N+n+1=(A++W).length+1:=by simp [hA,hW]
  have h2:A++(W++[ABlk.cells [.ptr p 0],lp])++τ'=(A++W)++(.cells [.ptr p 0]::lp::τ'):=by simp
  rw [h1,h2]
  constructor
  ·rw [sS];rfl
  ·rw [pW];simp
 refine HE (by rw [Q3,ek]) (by
  rw [hlen,List.append_assoc (S x B),List.append_assoc (U x)]
  exact hrun) fun o ho=>?_
 obtain ⟨τ',hσ⟩:=ho
 rw [hlen,hσ]
 cases hr2:r.2
 ·have hD':=hD τ' hr2
  obtain ⟨g1,g2⟩:=hout (S r.1 B') (UD r.1) (.loop .done (some J) e ps a bb) τ' ((hS _).len _) (hUD _)
  simp only [Fam1.out,hr2,Bool.false_eq_true,if_false]
  rw [g1,g2]
  exact ⟨_,_,_,_,_,_,rfl,by simp,hD'⟩
 ·have hT':=hT τ' hr2
  obtain ⟨g1,g2⟩:=hout (S r.1 B') (U r.1) (.loop .ready none e ps a bb) τ' ((hS _).len _) (hU _)
  simp only [Fam1.out,hr2,if_true]
  rw [g1,g2]
  exact ⟨_,_,_,_,_,_,rfl,by simp,hT'⟩
theorem pH {X A M:Type} {S:X→M→St} {obj:List AV} {es:M→List (AV×AV)} {p m N:Nat} (hS:∀ x,MemAt (S x) obj es p m N) (U UD:X→St) (n:Nat) (hU:∀ x,(U x).length=n) (hUD:∀ x,(UD x).length=n) (J:AJump) (e:Env) (ps:List Nat) (args:A→Bool→Option Nat→List AV) (hps:∀ t fl tk,ps.length=(args t fl tk).length) (a bb:ACode) {P:A→Prop} {f:A→X→X×Bool}
  (h:∀ t,P t→∀ (fl:Bool) (tk:Option Nat) x B τ,wp T a (lJ e ps (args t fl tk)) (S x B++(U x++(.cells [.ptr p 0]::.loop .ready none e ps a bb::τ))) (fun j e' σ'=>j=none∧∃ τ1,σ'=S x B++(U x++(.cells [.ptr p 0]::.loop .ready none e ps a bb::(τ++τ1))) ∧
   wp T bb e' (S x B++(U x++(.cells [.ptr p 0]::.loop .busy none e ps a bb::(τ++τ1)))) (fun j e'' σ''=>((f t x).2=true∧j=none∧∃ τ',σ''=S (f t x).1 B++(U (f t x).1++(.cells [.ptr p 0]::.loop .busy none e ps a bb::(τ++τ')))) ∨
    ((f t x).2=false∧j=some J∧∃ τ',σ''=S (f t x).1 B++(UD (f t x).1++(.cells [.ptr p 0]::.loop .busy none e ps a bb::(τ++τ'))))))) :
  wW (fun x B=>S x B++(U x++[.cells [.ptr p 0],.loop .ready none e ps a bb])) (fun x B=>S x B++(UD x++[.cells [.ptr p 0],.loop .done (some J) e ps a bb])) (N+n+1) args P f:=by
 intro t ht fl tk x B τ
 have hget:∀ (A W:St) (lp:ABlk) (υ:St),A.length=N→W.length=n→(A++(W++(ABlk.cells [.ptr p 0]::lp::υ)))[N+n+1]? = some lp:=by
  intro A W lp υ hA hW
  have h1:N+n+1=(A++W).length+1:=by simp [hA,hW]
  rw [h1,←List.append_assoc,sS];rfl
 have hset:∀ (A W:St) (lp l2:ABlk) (υ:St),A.length=N→W.length=n→(A++(W++(ABlk.cells [.ptr p 0]::lp::υ))).set (N+n+1) l2=A++(W++(ABlk.cells [.ptr p 0]::l2::υ)):=by
  intro A W lp l2 υ hA hW
  have h1:N+n+1=(A++W).length+1:=by simp [hA,hW]
  rw [h1,←List.append_assoc,pW]
  simp
 obtain ⟨r,hr⟩:∃ r,f t x=r:=⟨_,rfl⟩
 have h:=h t ht fl tk x B τ
 rw [hr] at h ⊢
 have hst:(fun x B=>S x B++(U x++[ABlk.cells [.ptr p 0],.loop .ready none e ps a bb])) x B++τ=S x B++(U x++(.cells [.ptr p 0]::.loop .ready none e ps a bb::τ)):=by simp
 rw [hst]
 refine .round (env:=e) (ps:=ps) (a:=a) (b:=bb)
  (R:=fun o=>o.j=none∧∃ τ1,o.σ=S x B++(U x++(.cells [.ptr p 0]::.loop .ready none e ps a bb::(τ++τ1)))∧wp T bb o.env (S x B++(U x++(.cells [.ptr p 0]::.loop .busy none e ps a bb::(τ++τ1)))) (fun j e'' σ''=>(r.2=true∧j=none∧∃ τ',σ''=S r.1 B++(U r.1++(.cells [.ptr p 0]::.loop .busy none e ps a bb::(τ++τ')))) ∨
    (r.2=false∧j=some J∧∃ τ',σ''=S r.1 B++(UD r.1++(.cells [.ptr p 0]::.loop .busy none e ps a bb::(τ++τ'))))))
  (S:=fun o=>(r.2=true∧o.j=none∧∃ τ',o.σ=S r.1 B++(U r.1++(.cells [.ptr p 0]::.loop .busy none e ps a bb::(τ++τ'))))∨(r.2=false∧o.j=some J∧∃ τ',o.σ=S r.1 B++(UD r.1++(.cells [.ptr p 0]::.loop .busy none e ps a bb::(τ++τ'))))) (hget _ _ _ _ ((hS _).len _) (hU _)) (by rw [hps t fl tk]) (kE h fun o ho=>ho) ?_ ?_ ?_
 ·rintro o ⟨hj,τ1,hσ,_⟩
  exact ⟨hj,by rw [hσ];exact hget _ _ _ _ ((hS _).len _) (hU _)⟩
 ·rintro o ⟨_,τ1,hσ,hw⟩
  rw [hσ,hset _ _ _ _ _ ((hS _).len _) (hU _)]
  exact kE hw fun o ho=>ho
 ·rintro o (⟨hr2,hj,τ',hσ⟩|⟨hr2,hj,τ',hσ⟩)
  ·rw [hσ,hj,hget _ _ _ _ ((hS _).len _) (hU _),hset _ _ _ _ _ ((hS _).len _) (hU _)]
   refine ⟨rfl,by rw [hr2];rfl,τ',?_⟩
   simp [Fam1.out,hr2]
  ·rw [hσ,hj,hget _ _ _ _ ((hS _).len _) (hUD _),hset _ _ _ _ _ ((hS _).len _) (hUD _)]
   refine ⟨rfl,by rw [hr2];rfl,τ',?_⟩
   simp [Fam1.out,hr2]
end Go.Am.Room
set_option maxRecDepth 8000
namespace Go.Am.Room
def AH:=And.intro @bK (And.intro @aK (And.intro @aZ (And.intro @aX (And.intro @aY (And.intro @aT (And.intro @bI (And.intro @bF (And.intro @bE (And.intro @dP (And.intro @dA (And.intro @Nat.not_lt_zero (And.intro @List.length_append.{0} (And.intro @Nat.zero_add (And.intro @Nat.mul_one (And.intro @Int.toNat_natCast (And.intro @eM (And.intro @fX (And.intro @fZ (And.intro @kT (And.intro @fM (And.intro @iP (And.intro @iN (And.intro @iQ (And.intro @iO (And.intro @iR (And.intro @iM (And.intro @Nat.add_lt_add_iff_left (@Nat.lt_add_right_iff_pos))))))))))))))))))))))))))))
theorem IT (v:Net) (b m p:Nat) (σ:St) (hσ:aM σ p=some (db v b m)) (t:Nat) (ht:t<v.trams.length) (c:Int):j9 T (.func 111 [.ptr p 0] []) [.int .i64 t,.int .i64 c] σ (.bool (kU v t c)):=by
 refine eX (af:=a111) rfl (by simp [a111]) ?_
 have hit:=yV (v:=v) (t:=t) (z:=v.trams[t]) (by simp [ht]) c
 obtain ⟨z,hz⟩:∃ z,v.trams[t]=z:=⟨_,rfl⟩
 rw [hz] at hit
 have e:decide (c = -1)=(c==-1):=by rw [Bool.eq_iff_iff];simp
 rw [e] at hit
 rw [hit]
 cases h:(c==-1)
 ·(repeat (first|simp only [↓QA,QB,Nat.reduceLT,reduceIte,Nat.reduceEqDiff,Nat.reduceAdd,Nat.reduceLeDiff,Nat.reduceMul,Nat.reduceBEq,AH,a111,h,hσ,ht,hz]|refine rd0 rfl ?_))
  refine fQ [] (by first|rfl|simp) ?_
  try simp only [QS,QC,Nat.reduceLT,reduceIte,Nat.reduceEqDiff,Nat.reduceAdd,Nat.reduceLeDiff,Nat.reduceMul,Nat.reduceBEq,AH]
 ·(repeat (first|simp only [↓QA,QB,Nat.reduceLT,reduceIte,Nat.reduceEqDiff,Nat.reduceAdd,Nat.reduceLeDiff,Nat.reduceMul,Nat.reduceBEq,AH,a111,h]|refine rd0 rfl ?_))
  refine fQ [] (by first|rfl|simp) ?_
  try simp only [QS,QC,Nat.reduceLT,reduceIte,Nat.reduceEqDiff,Nat.reduceAdd,Nat.reduceLeDiff,Nat.reduceMul,Nat.reduceBEq,AH,Bool.false_and]
def V7 (p:Nat):AV:=.func 111 [.ptr p 0] []
theorem FB (p:Nat):V7 p = .func 111 [.ptr p 0] []:=by simp only [V7]
end Go.Am.Room
set_option maxRecDepth 8000
namespace Go.Am.Room
def nU:=And.intro @bK (And.intro @aK (And.intro @aZ (And.intro @aX (And.intro @aY (And.intro @aT (And.intro @bI (And.intro @bF (And.intro @bE (And.intro @dP (And.intro @dA (And.intro @Nat.not_lt_zero (And.intro @List.length_append.{0} (And.intro @Nat.zero_add (And.intro @Nat.mul_one (And.intro @Int.toNat_natCast (And.intro @eM (And.intro @fX (And.intro @fZ (And.intro @kT (And.intro @fM (And.intro @iP (And.intro @iN (And.intro @iQ (And.intro @iO (And.intro @iR (And.intro @iM (And.intro @Nat.add_lt_add_iff_left (And.intro @Nat.lt_add_right_iff_pos (And.intro @pG (@pE))))))))))))))))))))))))))))))
theorem C3 {X:Type} {S:X→List K5→St} {v:Net} {b p m N:Nat} {bl:List Int} (hS:∀ x,MemAt (S x) (db v b m) (tEs v) p m N) (hK:∀ x A y B k i,N≤k→i<N→fI (S x A) (S y B) k i) (hpl:p<N) (hv:Vd v) (hb:ButIs b bl) (U UD:X→St) (n:Nat) (hU:∀ x,(U x).length=n) (hUD:∀ x,(UD x).length=n) (ok:∀ x y,y∈U x→∀ k,N≤k→aH k y) (okD:∀ x y,y∈UD x→∀ k,N≤k→aH k y)
  (J:AJump) {f:List Int→X→X×Bool} (e:Env) (k:Nat) (ps:List Nat) (a bb:ACode) (ek:Env.get e k = .func 106 [] [.ptr (N+n) 0])
  (hy:wW (fun x B=>S x B++(U x++[.cells [.ptr p 0],.loop .ready none e ps a bb])) (fun x B=>S x B++(UD x++[.cells [.ptr p 0],.loop .done (some J) e ps a bb])) (N+n+1) (qO v) (TOk v bl) f)
  (x:X) (A:List K5) (K:KJ)
  (hT:∀ τ,(cL f (TL v bl) x).2=true→K none e (S (cL f (TL v bl) x).1 (fY v bl f x A).1.2++(U (cL f (TL v bl) x).1++(.cells [.ptr p 0]::.dead::τ))))
  (hD:∀ τ,(cL f (TL v bl) x).2=false→K (some J) e (S (cL f (TL v bl) x).1 (fY v bl f x A).1.2++(UD (cL f (TL v bl) x).1++(.cells [.ptr p 0]::.dead::τ)))) :
  rK (K:=⟨K⟩) T (.rangeFunc (.t k) ps a bb) e (S x A++(U x++[.cells [.ptr p 0]])):=by
 have hrun:=zK (OU hS hK hpl U UD n hU hUD ok okD e ps a bb .ready .done none (some J)) hv hb hy (fun c h1 h2=>⟨h1,h2⟩) x A
 rw [uZ] at hrun
 exact NZ hS U UD n hU hUD J e k ps a bb 106 ek (cL f (TL v bl) x) (fY v bl f x A).1.2 x A hrun K hT hD
def tO (p:Nat) (x:B64):St:=[.cells [.ptr p 0],.cells [.int .i64 (x.1.1:Nat)],.cells [.int .i64 (x.1.2:Nat)],.cells [V7 p]]
theorem DM {S:List K5→St} {v:Net} {b p m N:Nat} (hR:MemAt S (db v b m) (tEs v) p m N) (hv:Vd v) (c:List Int) (x:B64) (B:List K5) (lp:ABlk) (τ:St) (e:Env) (G:Option AJump→St→Prop)
  (e1:Env.get e 1 = .ptr N 0) (e2:Env.get e 2 = .ptr (N+1) 0) (e3:Env.get e 3 = .ptr (N+2) 0) (e4:Env.get e 4 = .ptr (N+3) 0) (e6:Env.get e 6 = .ptr (N+(τ.length+1+1+1+1+1+1)) 0) (R:B64×Bool) (hRr:pJ (iD v) v.trams.length c x=R) :
  wp T RT e (S B++(tO p x++(.cells [.ptr p 0]::lp::(τ++[.cells (bX 3 (cW (d5 v c)))])))) (fun j e'' σ''=>(R.2=true∧j=none∧∃ τ',σ''=S B++(tO p R.1++(.cells [.ptr p 0]::lp::(τ++τ'))))∨G j σ''):=by
 have hnt:=hv.ntr
 have hR1:R.1.1=eK (iD v c) v.trams.length x.1:=by rw [←hRr,yA (iD v) (by omega)]
 have hR2:R.2=true:=by rw [←hRr];exact AQ _ _ _ _
 have hpl:=hR.pl
 have hta:∀ (b0 b1 b2 b3 b4 b5:ABlk),aM (S B++(b0::b1::b2::b3::b4::b5::(τ++[.cells (bX 3 (cW (d5 v c)))]))) (N+(τ.length+1+1+1+1+1+1))=some (bX 3 (cW (d5 v c))):=fun b0 b1 b2 b3 b4 b5=>by
  rw [hR.base]
  simp only [sJ]
  rw [jZ];rfl
 have hlt:=fun k hk=>qK (iD v c) (n:=6) x.2 k hk
 simp only [tO,hR1,FB]
 (repeat (first|simp only [↓QA,QB,Nat.reduceLT,reduceIte,Nat.reduceEqDiff,Nat.reduceAdd,Nat.reduceLeDiff,Nat.reduceMul,Nat.reduceBEq,nU,hR.len,hR.base,hR.base0,hR.bset,hR.bset0,hR.at1,hR.at0,RT,e1]|refine rd0 rfl ?_))
 refine bT (S:=Nat) 0 (fun k=>k≤v.trams.length) (fun k=>v.trams.length-k)
  (fun k=>[(2,.ptr (N+1) 0),(3,.ptr (N+2) 0),(4,.ptr (N+3) 0),(6,.ptr (N+(τ.length+1+1+1+1+1+1)) 0),(27,.int .i64 v.trams.length),(28,.int .i64 k)])
  (fun k=>S B++(.cells [.ptr p 0]::.cells [.int .i64 ((eK (iD v c) k x.1).1:Nat)]::.cells [.int .i64 ((eK (iD v c) k x.1).2:Nat)]::.cells [.func 111 [.ptr p 0] []]::.cells [.ptr p 0]::lp::(τ++[.cells (bX 3 (cW (d5 v c)))]))) (Nat.zero_le _) rfl ?_ fun k hk=>?_
 ·try simp only [aC,QE,Nat.reduceLT,reduceIte,Nat.reduceEqDiff,Nat.reduceAdd,Nat.reduceLeDiff,Nat.reduceMul,Nat.reduceBEq,nU,hR.len,hR.base,hR.base0,hR.bset,hR.bset0,hR.at1,hR.at0,e2,e3,e4,e6]
  try simp
 ·(repeat (first|simp only [↓QA,QB,Nat.reduceLT,reduceIte,Nat.reduceEqDiff,Nat.reduceAdd,Nat.reduceLeDiff,Nat.reduceMul,Nat.reduceBEq,nU,hR.len,hR.base,hR.base0,hR.bset,hR.bset0,hR.at1,hR.at0,ZR]|refine rd0 rfl ?_))
  refine aG (fun hd=>?_) fun hd=>?_
  ·have hk1:k<v.trams.length:=by simpa using hd
   have hw:=bP hk1 (by omega)
   have hst:eK (iD v c) (k+1) x.1=if iD v c k=true then (C2 (eK (iD v c) k x.1).1 (2^k),(eK (iD v c) k x.1).2) else ((eK (iD v c) k x.1).1,(eK (iD v c) k x.1).2|||2^k):=rfl
   obtain ⟨l1,l2⟩:=hlt k (by omega)
   obtain ⟨⟨Y1,Y2⟩,hY⟩:∃ Y,eK (iD v c) k x.1=Y:=⟨_,rfl⟩
   rw [hY] at hst l1 l2
   simp only at hst l1 l2
   have hp2:=kX (show k≤60 by omega)
   have hsh:=vU k (by omega)
   have hor:=aAN Y2 (2^k) (by omega) (by omega)
   have han:=IN Y1 (2^k) (by omega) (by omega)
   have i3:(0:Int)≤(k:Int)∧(k:Int)<((3:Nat):Int):=⟨by omega,by omega⟩
   have hg:=i7 3 (cW (d5 v c)) (i:=k) (by omega)
   have hin:=fun σ (hσ:aM σ p=some (db v b m))=>IT v b m p σ hσ k hk1 (cW (d5 v c) k)
   have hfe:kU v k (cW (d5 v c) k)=iD v c k:=rfl
   rw [hY]
   (repeat (first|simp only [↓QA,QB,Nat.reduceLT,reduceIte,Nat.reduceEqDiff,Nat.reduceAdd,Nat.reduceLeDiff,Nat.reduceMul,Nat.reduceBEq,nU,hR.len,hR.base,hR.base0,hR.bset,hR.bset0,hR.at1,hR.at0,hta,i3,hg]|refine rd0 rfl ?_))
   refine CV (hin _ (hR.at1 _ _)) ?_
   rw [hfe]
   cases hf:iD v c k
   ·rw [hf] at hst
    simp only [Bool.false_eq_true,if_false] at hst
    (repeat (first|simp only [↓QA,QB,Nat.reduceLT,reduceIte,Nat.reduceEqDiff,Nat.reduceAdd,Nat.reduceLeDiff,Nat.reduceMul,Nat.reduceBEq,nU,hR.len,hR.base,hR.base0,hR.bset,hR.bset0,hR.at1,hR.at0,hta,i3,hg,hsh,hor]|refine rd0 rfl ?_))
    refine ⟨k+1,by omega,by omega,?_⟩
    rw [hst]
    try simp only [aC,QE,Nat.reduceLT,reduceIte,Nat.reduceEqDiff,Nat.reduceAdd,Nat.reduceLeDiff,Nat.reduceMul,Nat.reduceBEq,nU,hR.len,hR.base,hR.base0,hR.bset,hR.bset0,hR.at1,hR.at0,hw,hR.eqS]
    try simp [aH,okVs,okV]
    try omega
   ·rw [hf] at hst
    simp only [if_true] at hst
    (repeat (first|simp only [↓QA,QB,Nat.reduceLT,reduceIte,Nat.reduceEqDiff,Nat.reduceAdd,Nat.reduceLeDiff,Nat.reduceMul,Nat.reduceBEq,nU,hR.len,hR.base,hR.base0,hR.bset,hR.bset0,hR.at1,hR.at0,hta,i3,hg,hsh,han]|refine rd0 rfl ?_))
    refine ⟨k+1,by omega,by omega,?_⟩
    rw [hst]
    try simp only [aC,QE,Nat.reduceLT,reduceIte,Nat.reduceEqDiff,Nat.reduceAdd,Nat.reduceLeDiff,Nat.reduceMul,Nat.reduceBEq,nU,hR.len,hR.base,hR.base0,hR.bset,hR.bset0,hR.at1,hR.at0,hw,hR.eqS]
    try simp [aH,okVs,okV]
    try omega
  ·have hk1:k=v.trams.length:=by
    have:¬k<v.trams.length:=by simpa using hd
    omega
   rw [hk1]
   (repeat (first|simp only [↓QA,QB,Nat.reduceLT,reduceIte,Nat.reduceEqDiff,Nat.reduceAdd,Nat.reduceLeDiff,Nat.reduceMul,Nat.reduceBEq,nU,hR.len,hR.base,hR.base0,hR.bset,hR.bset0,hR.at1,hR.at0]|refine rd0 rfl ?_))
   exact .inl ⟨hR2,[.cells (bX 3 (cW (d5 v c)))],rfl⟩
end Go.Am.Room
set_option maxRecDepth 8000
namespace Go.Am.Room
def rV:=And.intro @bK (And.intro @aK (And.intro @aZ (And.intro @aX (And.intro @aY (And.intro @aT (And.intro @bI (And.intro @bF (And.intro @bE (And.intro @dP (And.intro @dA (And.intro @Nat.not_lt_zero (And.intro @List.length_append.{0} (And.intro @Nat.zero_add (And.intro @Nat.mul_one (And.intro @Int.toNat_natCast (And.intro @eM (And.intro @fX (And.intro @fZ (And.intro @kT (And.intro @fM (And.intro @iP (And.intro @iN (And.intro @iQ (And.intro @iO (And.intro @iR (And.intro @iM (And.intro @Nat.add_lt_add_iff_left (And.intro @Nat.lt_add_right_iff_pos (And.intro @pG (@pE))))))))))))))))))))))))))))))
def DP (v:Net) (h:v.trams.length≤6):B64:=nP (iD v) v.trams.length (TL v []) (mH _ h)
def GX (v:Net) (h:v.trams.length≤6) (A:List K5):List K5:=(fY v [] (pJ (iD v) v.trams.length) (mH _ h) A).1.2
theorem D8 {A:Type} (fine:A→Nat→Bool) (n:Nat) (l:List A) (x:B64):cL (pJ fine n) l x=(nP fine n l x,true):=CC (AQ fine n) l x
theorem EB {S:List K5→St} {v:Net} {b p m N:Nat} (hR:MemAt S (db v b m) (tEs v) p m N) (hv:Vd v) (hb:ButIs b []) (h6:v.trams.length≤6) (A:List K5) :
  BI T (.func 84 [] []) [.ptr p 0] (S A) (.tuple [.int .i64 ((DP v h6).1.1:Nat),.int .i64 ((DP v h6).1.2:Nat)]) (S (GX v h6 A)):=by
 have hit:=D8 (iD v) v.trams.length (TL v []) (mH _ h6)
 obtain ⟨Y,hY⟩:∃ Y,nP (iD v) v.trams.length (TL v []) (mH _ h6)=Y:=⟨_,rfl⟩
 have hl:DP v h6=Y:=hY
 rw [hY] at hit
 rw [hl]
 have hsh:=vU v.trams.length (by omega)
 have hp2:=kX (show v.trams.length≤60 by omega)
 have hw:IntKind.i64.wrap (((2^v.trams.length:Nat):Int)-1)=((2^v.trams.length-1:Nat):Int):=by
  have:=Nat.two_pow_pos v.trams.length
  rw [eA ⟨by omega,by omega⟩];omega
 have hok:∀ (x:B64) (y:ABlk),y∈tO p x→∀ k,N≤k→aH k y:=by
  intro x y hy k hk
  have hpl:=hR.pl
  simp only [tO,List.mem_cons,List.not_mem_nil,or_false] at hy
  rcases hy with rfl|rfl|rfl|rfl<;>simp [aH,okVs,okV,V7]<;>omega
 refine yX hR (af:=a84) rfl (by simp [a84]) ?_
 have hrg:=nV hR hv hb (tO p) (tO p) 4 (fun _=>rfl) (fun _=>rfl) hok hok .ret (f:=pJ (iD v) v.trams.length)
 (repeat (first|simp only [↓QA,QB,Nat.reduceLT,reduceIte,Nat.reduceEqDiff,Nat.reduceAdd,Nat.reduceLeDiff,Nat.reduceMul,Nat.reduceBEq,rV,hR.len,hR.base,hR.base0,hR.bset,hR.bset0,hR.at1,hR.at0,a84,hsh,hw]|refine rd0 rfl ?_))
 refine sP rfl (by simp [a80]) ?_
 (repeat (first|simp only [↓QA,QB,Nat.reduceLT,reduceIte,Nat.reduceEqDiff,Nat.reduceAdd,Nat.reduceLeDiff,Nat.reduceMul,Nat.reduceBEq,rV,hR.len,hR.base,hR.base0,hR.bset,hR.bset0,hR.at1,hR.at0,a80]|refine rd0 rfl ?_))
 refine hrg _ 19 [20,21] _ _ ?_ ?_ (mH _ h6) A _ ?_ ?_
 ·try simp only [aC,QE,Nat.reduceLT,reduceIte,Nat.reduceEqDiff,Nat.reduceAdd,Nat.reduceLeDiff,Nat.reduceMul,Nat.reduceBEq,rV,hR.len,hR.base,hR.base0,hR.bset,hR.bset0,hR.at1,hR.at0]
 ·refine pH (S:=fun _=>S) (fun _=>hR) (tO p) (tO p) 4 (fun _=>rfl) (fun _=>rfl) .ret _ _ (qO v) (fun _ _ _=>rfl) _ _ ?_
  intro c _ fl tk x B τ
  simp only [lJ,qO]
  obtain ⟨R,hRr⟩:∃ R,pJ (iD v) v.trams.length c x=R:=⟨_,rfl⟩
  rw [hRr]
  have lb:=fun lp e G=>DM hR hv c x B lp τ e G
  simp only [tO,FB] at lb ⊢
  (repeat (first|simp only [↓QA,QB,Nat.reduceLT,reduceIte,Nat.reduceEqDiff,Nat.reduceAdd,Nat.reduceLeDiff,Nat.reduceMul,Nat.reduceBEq,rV,hR.len,hR.base,hR.base0,hR.bset,hR.bset0,hR.at1,hR.at0]|refine rd0 rfl ?_))
  refine ⟨[.cells (bX 3 (cW (d5 v c)))],by simp,?_⟩
  simp only [←FB]
  refine DM hR hv c x B _ τ _ _ ?_ ?_ ?_ ?_ ?_ R hRr
  all_goals try simp only [aC,QE,Nat.reduceLT,reduceIte,Nat.reduceEqDiff,Nat.reduceAdd,Nat.reduceLeDiff,Nat.reduceMul,Nat.reduceBEq,rV,hR.len,hR.base,hR.base0,hR.bset,hR.bset0,hR.at1,hR.at0]
 ·intro τ h2
  rw [hit]
  simp only [tO]
  (repeat (first|simp only [↓QA,QB,Nat.reduceLT,reduceIte,Nat.reduceEqDiff,Nat.reduceAdd,Nat.reduceLeDiff,Nat.reduceMul,Nat.reduceBEq,rV,hR.len,hR.base,hR.base0,hR.bset,hR.bset0,hR.at1,hR.at0]|refine rd0 rfl ?_))
  refine ⟨_,_,rfl,rfl,?_⟩
  try simp only [QS,QC,Nat.reduceLT,reduceIte,Nat.reduceEqDiff,Nat.reduceAdd,Nat.reduceLeDiff,Nat.reduceMul,Nat.reduceBEq,rV,hR.len,hR.base,hR.base0,hR.bset,hR.bset0,hR.at1,hR.at0]
 ·intro τ h2
  rw [hit] at h2
  cases h2
end Go.Am.Room
set_option maxRecDepth 8000
namespace Go.Am.Room
def eG:=And.intro @bK (And.intro @aK (And.intro @aZ (And.intro @aX (And.intro @aY (And.intro @aT (And.intro @bI (And.intro @bF (And.intro @bE (And.intro @dP (And.intro @dA (And.intro @Nat.not_lt_zero (And.intro @List.length_append.{0} (And.intro @Nat.zero_add (And.intro @Nat.mul_one (And.intro @Int.toNat_natCast (And.intro @Nat.add_lt_add_iff_left (@Nat.lt_add_right_iff_pos)))))))))))))))))
theorem wI (v:Net) (hf:Fits v):dL T 25 [bM v] (jH (fU v)):=by
 refine aU (af:=a25) rfl (by simp [a25]) dd ?_
 have her:=fun σ=>uE σ v [] (.inl rfl) hf
 simp only [List.map_nil,nG,rZ,m5] at her
 (repeat (first|simp only [↓QA,QB,Nat.reduceLT,reduceIte,Nat.reduceEqDiff,Nat.reduceAdd,Nat.reduceLeDiff,Nat.reduceMul,Nat.reduceBEq,eG,a25]|refine rd0 rfl ?_))
 refine dY (her _) ?_
 by_cases h0:dB v=0
 ·obtain ⟨hv,hne⟩:=j4 h0
  have hnt:=hv.ntr
  have h6:v.trams.length≤6:=by omega
  obtain ⟨hl1,hl2⟩:=HQ hv h6
  have hld:=EB (B5 [.cells (aB v)] v) hv ML h6 (qC v)
  have hlt:=(DP v h6).2
  obtain ⟨⟨⟨P,Q⟩,hPQ⟩,hY⟩:∃ Y,DP v h6=Y:=⟨_,rfl⟩
  have hYl:nP (iD v) v.trams.length (TL v []) (mH _ h6)=⟨(P,Q),hPQ⟩:=hY
  rw [hYl] at hl1 hl2
  rw [hY] at hld
  simp only at hl1 hl2 hld hPQ
  have hm:fU v=(lst v.trams.length P,lst v.trams.length Q,0):=by rw [fU,if_pos h0,hl1,hl2]
  have hlo1:=uH P v.trams.length (by omega) (by omega)
  have hlo2:=uH Q v.trams.length (by omega) (by omega)
  rw [if_pos h0,if_pos h0,hm]
  simp only [mF] at hld ⊢
  try simp only [↓QA,QB,Nat.reduceLT,reduceIte,Nat.reduceEqDiff,Nat.reduceAdd,Nat.reduceLeDiff,Nat.reduceMul,Nat.reduceBEq,eG] at hld
  (repeat (first|simp only [↓QA,QB,Nat.reduceLT,reduceIte,Nat.reduceEqDiff,Nat.reduceAdd,Nat.reduceLeDiff,Nat.reduceMul,Nat.reduceBEq,eG,show ((0:Int)==0)=true from rfl]|refine rd0 rfl ?_))
  refine dY hld ?_
  (repeat (first|simp only [↓QA,QB,Nat.reduceLT,reduceIte,Nat.reduceEqDiff,Nat.reduceAdd,Nat.reduceLeDiff,Nat.reduceMul,Nat.reduceBEq,eG]|refine rd0 rfl ?_))
  ((first|refine aD (hlo1) rfl dd ?_|refine aE (hlo1) rfl dd ?_);(repeat (first|simp only [↓QA,QB,Nat.reduceLT,reduceIte,Nat.reduceEqDiff,Nat.reduceAdd,Nat.reduceLeDiff,Nat.reduceMul,Nat.reduceBEq,eG]|refine rd0 rfl ?_)))
  ((first|refine aD (hlo2) rfl dd ?_|refine aE (hlo2) rfl dd ?_);(repeat (first|simp only [↓QA,QB,Nat.reduceLT,reduceIte,Nat.reduceEqDiff,Nat.reduceAdd,Nat.reduceLeDiff,Nat.reduceMul,Nat.reduceBEq,eG,jH]|refine rd0 rfl ?_)))
 ·have h0':(dB v==0)=false:=by simpa using h0
  have hm:fU v=([],[],dB v):=by rw [fU,if_neg h0]
  rw [if_neg h0,if_neg h0,hm]
  (repeat (first|simp only [↓QA,QB,Nat.reduceLT,reduceIte,Nat.reduceEqDiff,Nat.reduceAdd,Nat.reduceLeDiff,Nat.reduceMul,Nat.reduceBEq,eG,h0',jH]|refine rd0 rfl ?_))
  try rfl
theorem kV (v:Net) (hf:Fits v):dL T 28 [bM v] (qD (jJ v)):=by
 refine aU (af:=a28) rfl (by simp [a28]) dd ?_
 have her:=fun σ=>uE σ v [] (.inl rfl) hf
 simp only [List.map_nil,nG,rZ,m5] at her
 (repeat (first|simp only [↓QA,QB,Nat.reduceLT,reduceIte,Nat.reduceEqDiff,Nat.reduceAdd,Nat.reduceLeDiff,Nat.reduceMul,Nat.reduceBEq,eG,a28]|refine rd0 rfl ?_))
 refine dY (her _) ?_
 by_cases h0:dB v=0
 ·obtain ⟨hv,hne⟩:=j4 h0
  have hnt:=hv.ntr
  have h6:v.trams.length≤6:=by omega
  obtain ⟨hl1,hl2⟩:=HQ hv h6
  have hld:=EB (B5 [.cells (aB v)] v) hv ML h6 (qC v)
  obtain ⟨⟨⟨P,Q⟩,hPQ⟩,hY⟩:∃ Y,DP v h6=Y:=⟨_,rfl⟩
  have hYl:nP (iD v) v.trams.length (TL v []) (mH _ h6)=⟨(P,Q),hPQ⟩:=hY
  rw [hYl] at hl1 hl2
  rw [hY] at hld
  simp only at hl1 hl2 hld hPQ
  have hin:=LF (v:=v) (l:=bH v [])
  have hml:=GY v (bH v [])
  have hlo2:=uH Q v.trams.length (by omega) (by omega)
  rw [hl2] at hlo2
  obtain ⟨M,hM⟩:∃ M,vZ v (bH v [])=M:=⟨_,rfl⟩
  have hfo:jJ v=if M=[] then (0,9) else (iF v M (-1),0):=by rw [jJ,if_pos h0,hM]
  rw [hM] at hlo2 hml
  simp only [hM] at hin
  obtain ⟨Z,hZ⟩:∃ Z,iF v M (-1)=Z:=⟨_,rfl⟩
  have hZM:(Z<0↔M=[]):=by
   have key:∀ (l:List Int) (b:Int),(∀ t∈l,0≤t)→(iF v l b<0↔b<0∧l=[]):=by
    intro l
    induction l with
    |nil=>intro b _;simp [iF]
    |cons t l ih =>
     intro b h
     have ht:=h t (by simp)
     rw [iF,ih _ fun x hx=>h x (by simp [hx])]
     split<;>simp_all<;>omega
   rw [←hZ,key M (-1) fun t ht=>(hin t ht).1]
   simp
  have hfo2:jJ v=if Z<0 then (0,9) else (Z,0):=by
   rw [hfo,hZ]
   by_cases h:M=[]
   ·rw [if_pos h,if_pos (hZM.2 h)]
   ·rw [if_neg h,if_neg fun q=>h (hZM.1 q)]
  rw [if_pos h0,if_pos h0,hfo2]
  simp only [mF] at hld ⊢
  try simp only [↓QA,QB,Nat.reduceLT,reduceIte,Nat.reduceEqDiff,Nat.reduceAdd,Nat.reduceLeDiff,Nat.reduceMul,Nat.reduceBEq,eG] at hld
  (repeat (first|simp only [↓QA,QB,Nat.reduceLT,reduceIte,Nat.reduceEqDiff,Nat.reduceAdd,Nat.reduceLeDiff,Nat.reduceMul,Nat.reduceBEq,eG,show ((0:Int)==0)=true from rfl]|refine rd0 rfl ?_))
  refine dY hld ?_
  (repeat (first|simp only [↓QA,QB,Nat.reduceLT,reduceIte,Nat.reduceEqDiff,Nat.reduceAdd,Nat.reduceLeDiff,Nat.reduceMul,Nat.reduceBEq,eG]|refine rd0 rfl ?_))
  ((first|refine aD (hlo2) rfl dd ?_|refine aE (hlo2) rfl dd ?_);(repeat (first|simp only [↓QA,QB,Nat.reduceLT,reduceIte,Nat.reduceEqDiff,Nat.reduceAdd,Nat.reduceLeDiff,Nat.reduceMul,Nat.reduceBEq,eG]|refine rd0 rfl ?_)))
  refine bT (S:=Nat×Int) (0,-1) (fun a=>a.1≤M.length∧a.2<v.trams.length∧iF v (M.drop a.1) a.2=Z) (fun a=>M.length-a.1)
   (fun a=>[(1,.ptr 0 0),(8,.int .i64 a.2),(28,ints M),(29,.int .i64 M.length),(30,.int .i64 a.1)]) (fun a=>[.cells (aB v),.cells (aB v),.cells (aB v),.map (tEs v (GX v h6 (qC v))),.cells (db v 0 3)]) ⟨Nat.zero_le _,by simp only;omega,hZ⟩ (by simp [aB,ints]) ?_ fun a ha=>?_
  ·try simp only [aC,QE,Nat.reduceLT,reduceIte,Nat.reduceEqDiff,Nat.reduceAdd,Nat.reduceLeDiff,Nat.reduceMul,Nat.reduceBEq,eG,ints]
   try simp
  ·obtain ⟨k,b⟩:=a
   obtain ⟨hk,hb,hgo⟩:=ha
   simp only at hk hb hgo
   (repeat (first|simp only [↓QA,QB,Nat.reduceLT,reduceIte,Nat.reduceEqDiff,Nat.reduceAdd,Nat.reduceLeDiff,Nat.reduceMul,Nat.reduceBEq,eG,XP]|refine rd0 rfl ?_))
   refine aG (fun h2=>?_) fun h2=>?_
   ·have hk1:k<M.length:=by simpa using h2
    have hw:=bP hk1 (by omega)
    have hx:=hin _ (List.getElem_mem hk1)
    rw [rF hk1] at hgo
    obtain ⟨x,hxe⟩:∃ x:Nat,M[k]=(x:Int):=⟨M[k].toNat,by omega⟩
    rw [hxe] at hx hgo
    have hx1:x<v.trams.length:=by omega
    (repeat (first|simp only [↓QA,QB,Nat.reduceLT,reduceIte,Nat.reduceEqDiff,Nat.reduceAdd,Nat.reduceLeDiff,Nat.reduceMul,Nat.reduceBEq,eG,hk1,hxe]|refine rd0 rfl ?_))
    cases hbn:decide (b<0)
    ·have hbn':¬b<0:=by simpa using hbn
     obtain ⟨B,rfl⟩:∃ B:Nat,b=(B:Int):=⟨b.toNat,by omega⟩
     have hB1:B<v.trams.length:=by omega
     rw [Int.toNat_natCast,Int.toNat_natCast,FR hx1,FR hB1] at hgo
     obtain ⟨zx,hzx⟩:∃ z,v.trams[x]=z:=⟨_,rfl⟩
     obtain ⟨zb,hzb⟩:∃ z,v.trams[B]=z:=⟨_,rfl⟩
     rw [hzx,hzb] at hgo
     cases q:decide (zx.due<zb.due)
     ·have q':¬zx.due<zb.due:=by simpa using q
      rw [if_neg (by omega)] at hgo
      (repeat (first|simp only [↓QA,QB,Nat.reduceLT,reduceIte,Nat.reduceEqDiff,Nat.reduceAdd,Nat.reduceLeDiff,Nat.reduceMul,Nat.reduceBEq,eG,hbn,hx1,hB1,hzx,hzb,q,hw]|refine rd0 rfl ?_))
      refine ⟨(k+1,(B:Int)),⟨by simp only;omega,by simp only;omega,hgo⟩,by simp only;omega,?_⟩
      try simp only [aC,QE,Nat.reduceLT,reduceIte,Nat.reduceEqDiff,Nat.reduceAdd,Nat.reduceLeDiff,Nat.reduceMul,Nat.reduceBEq,eG,hw,ints]
      try simp [aH]
     ·have q':zx.due<zb.due:=by simpa using q
      rw [if_pos (.inr q')] at hgo
      (repeat (first|simp only [↓QA,QB,Nat.reduceLT,reduceIte,Nat.reduceEqDiff,Nat.reduceAdd,Nat.reduceLeDiff,Nat.reduceMul,Nat.reduceBEq,eG,hbn,hx1,hB1,hzx,hzb,q,hw]|refine rd0 rfl ?_))
      refine ⟨(k+1,(x:Int)),⟨by simp only;omega,by simp only;omega,hgo⟩,by simp only;omega,?_⟩
      try simp only [aC,QE,Nat.reduceLT,reduceIte,Nat.reduceEqDiff,Nat.reduceAdd,Nat.reduceLeDiff,Nat.reduceMul,Nat.reduceBEq,eG,hw,ints]
      try simp [aH]
    ·have hbn':b<0:=by simpa using hbn
     rw [if_pos (.inl hbn')] at hgo
     (repeat (first|simp only [↓QA,QB,Nat.reduceLT,reduceIte,Nat.reduceEqDiff,Nat.reduceAdd,Nat.reduceLeDiff,Nat.reduceMul,Nat.reduceBEq,eG,hbn,hw]|refine rd0 rfl ?_))
     refine ⟨(k+1,(x:Int)),⟨by simp only;omega,by simp only;omega,hgo⟩,by simp only;omega,?_⟩
     try simp only [aC,QE,Nat.reduceLT,reduceIte,Nat.reduceEqDiff,Nat.reduceAdd,Nat.reduceLeDiff,Nat.reduceMul,Nat.reduceBEq,eG,hw,ints]
     try simp [aH]
   ·have hk1:k=M.length:=by simp at h2;omega
    rw [hk1,List.drop_length,iF] at hgo
    subst hgo
    cases q:decide (b<0)
    ·have q':¬b<0:=by simpa using q
     rw [if_neg q']
     (repeat (first|simp only [↓QA,QB,Nat.reduceLT,reduceIte,Nat.reduceEqDiff,Nat.reduceAdd,Nat.reduceLeDiff,Nat.reduceMul,Nat.reduceBEq,eG,q,qD]|refine rd0 rfl ?_))
     try try simp only [QS,QC,Nat.reduceLT,reduceIte,Nat.reduceEqDiff,Nat.reduceAdd,Nat.reduceLeDiff,Nat.reduceMul,Nat.reduceBEq,eG]
    ·have q':b<0:=by simpa using q
     rw [if_pos q']
     (repeat (first|simp only [↓QA,QB,Nat.reduceLT,reduceIte,Nat.reduceEqDiff,Nat.reduceAdd,Nat.reduceLeDiff,Nat.reduceMul,Nat.reduceBEq,eG,q,qD]|refine rd0 rfl ?_))
     try try simp only [QS,QC,Nat.reduceLT,reduceIte,Nat.reduceEqDiff,Nat.reduceAdd,Nat.reduceLeDiff,Nat.reduceMul,Nat.reduceBEq,eG]
 ·have h0':(dB v==0)=false:=by simpa using h0
  have hm:jJ v=(0,dB v):=by rw [jJ,if_neg h0]
  rw [if_neg h0,if_neg h0,hm]
  (repeat (first|simp only [↓QA,QB,Nat.reduceLT,reduceIte,Nat.reduceEqDiff,Nat.reduceAdd,Nat.reduceLeDiff,Nat.reduceMul,Nat.reduceBEq,eG,h0',qD]|refine rd0 rfl ?_))
  try rfl
end Go.Am.Room
set_option maxRecDepth 8000
namespace Go.Am.Room
def i6:=And.intro @bK (And.intro @aK (And.intro @aZ (And.intro @aX (And.intro @aY (And.intro @aT (And.intro @bI (And.intro @bF (And.intro @bE (And.intro @dP (And.intro @dA (And.intro @Nat.not_lt_zero (And.intro @List.length_append.{0} (And.intro @Nat.zero_add (And.intro @Nat.mul_one (And.intro @Int.toNat_natCast (And.intro @Nat.add_lt_add_iff_left (And.intro @Nat.lt_add_right_iff_pos (And.intro @eM (And.intro @fX (And.intro @fZ (And.intro @kT (@fM))))))))))))))))))))))
theorem yD (σ:St) (v:Net) (ns:List Int) (hns:ns=[]∨∃ t,ns=[t,(v.trams.length:Int)]) (hf:Fits v) (h:wA v ns=0):BI T (.func 79 [] []) [bM v,.lit (ns.map (.int .i64)) true none] σ (.tuple [.ptr (σ.length+3) 0,.int .i64 0]) (mF σ v (qC v)):=by
 have:=uE σ v ns hns hf
 rwa [nG,if_pos h,rZ,if_pos h] at this
theorem CL (σ:St) (v:Net) (ns:List Int) (hns:ns=[]∨∃ t,ns=[t,(v.trams.length:Int)]) (hf:Fits v) (h:wA v ns≠0):BI T (.func 79 [] []) [bM v,.lit (ns.map (.int .i64)) true none] σ (.tuple [.nilPtr,.int .i64 (wA v ns)]) σ:=by
 have:=uE σ v ns hns hf
 rwa [nG,if_neg h,rZ,if_neg h] at this
abbrev Com:=Span×Bool×Bool
def cU (x:Com):St:=[.cells [.bool x.2.1],.cells [.bool x.2.2]]
theorem ZN (N:Nat) (x:Com) (y:ABlk) (hy:y∈cU x) (k:Nat) (hk:N≤k):aH k y:=by
 simp only [cU,List.mem_cons,List.not_mem_nil,or_false] at hy
 rcases hy with rfl|rfl<;>simp [aH,okVs,okV]
def cS (v:Net) (t:Nat) (x:Com) (A:List K5):St:=mF [.cells (aB v),.cells [.int .i64 t],.cells [.int .i64 x.1.lo,.int .i64 x.1.hi]] v A
theorem XV (v:Net) (t:Nat) (x:Com):MemAt (cS v t x) (db v 0 5) (tEs v) 6 5 7:=B5 [.cells (aB v),.cells [.int .i64 t],.cells [.int .i64 x.1.lo,.int .i64 x.1.hi]] v
theorem TY (v:Net) (t:Nat) (x:Com) (A:List K5) (y:Com) (B:List K5) (k i:Nat) (hk:7≤k) (hi:i<7):fI (cS v t x A) (cS v t y B) k i:=by
 match i,hi with
 |0,_=>exact .inl rfl
 |1,_=>exact .inl rfl
 |2,_=>exact .inr (.inl ⟨_,rfl,by simp [aH,okVs,okV]⟩)
 |3,_=>exact .inl rfl
 |4,_=>exact .inl rfl
 |5,_=>exact .inr (.inl ⟨_,rfl,tM v B k⟩)
 |6,_=>exact .inl rfl
def R6 (v:Net) (t:Nat) (c:List Int) (x:Com):Com×Bool:=(P0 (fV (d5 v c) (t:Int)) x,true)
theorem lF (v:Net) (hf:Fits v) (n:Int):dL T 23 [bM v,.int .i64 n] (kS (jP v n)):=by
 refine aU (af:=a23) rfl (by simp [a23]) dd ?_
 (repeat (first|simp only [↓QA,QB,Nat.reduceLT,reduceIte,Nat.reduceEqDiff,Nat.reduceAdd,Nat.reduceLeDiff,Nat.reduceMul,Nat.reduceBEq,i6,a23]|refine rd0 rfl ?_))
 by_cases h0:lY v n=0
 ·have hck:(bY v).2.2=0∧inR n 0 ((v.trams.length:Int)-1)=true∧bH v []≠[]:=by
   have h1:=h0
   by_cases q:(bY v).2.2=0
   ·cases q2:inR n 0 ((v.trams.length:Int)-1)
    ·simp [lY,cC,q,q2] at h1
    ·refine ⟨q,rfl,fun e=>?_⟩
     simp [lY,cC,q,q2,e] at h1
   ·simp [lY,cC,q] at h1
  obtain ⟨hc0,hin,hne⟩:=hck
  have hv:=dI hc0
  have hnt:=hv.ntr
  rw [eS] at hin
  obtain ⟨t,rfl⟩:∃ t:Nat,n=t:=⟨n.toNat,by omega⟩
  have htl:t<v.trams.length:=by omega
  have hmem:=IZ (UI hv [] t)
  have hTne:C7 v (TL v []) t≠[]:=by
   intro e
   have:TL v []=[]:=by simpa [C7] using e
   have h2:=K7 hv []
   rw [this] at h2
   simp at h2
   exact hne h2
  have hst:=G6 hTne
  have hca:=W2 (C7 v (TL v []) t)
  have hgo:=CC (f:=R6 v t) (fun _ _=>rfl) (TL v []) (⟨0,0⟩,false,false)
  have hfd:(TL v []).foldl (fun x c=>(R6 v t c x).1) (⟨0,0⟩,false,false)=(C7 v (TL v []) t).foldl (fun x a=>P0 a x) (⟨0,0⟩,false,false):=by
   rw [C7,List.foldl_map];rfl
  rw [hfd,hca] at hgo
  have hm:jP v t=((mK (C7 v (TL v []) t)).1,(mK (C7 v (TL v []) t)).2,0):=by rw [jP,if_pos h0,Int.toNat_natCast,hmem]
  obtain ⟨AT,hAT⟩:∃ AT,C7 v (TL v []) t=AT:=⟨_,rfl⟩
  rw [hAT] at hm hgo hst
  have hcs:mK AT=(eQ (dR AT),eC (dR AT).length AT.length):=rfl
  rw [hcs,hst] at hm
  obtain ⟨SP,hSP⟩:∃ SP,eQ (dR AT)=SP:=⟨_,rfl⟩
  obtain ⟨EM,hEM⟩:∃ EM,(dR AT).isEmpty=EM:=⟨_,rfl⟩
  obtain ⟨SY,hSY⟩:∃ SY,AT.contains (-1)=SY:=⟨_,rfl⟩
  rw [hSP,hEM,hSY] at hgo
  rw [hSP,hEM,hSY] at hm
  rw [hm]
  have her:=fun σ=>yD σ v [(t:Int),(v.trams.length:Int)] (.inr ⟨_,rfl⟩) hf h0
  simp only [List.map_nil,List.map_cons] at her
  have hrng:=C3 (S:=cS v t) (XV v t) (TY v t) (by decide) hv ML cU cU 2 (fun _=>rfl) (fun _=>rfl) (ZN _) (ZN _) .ret (f:=R6 v t)
  simp only [cS,mF] at hrng her
  simp only [aK] at hrng her
  refine dY (her _) ?_
  (repeat (first|simp only [↓QA,QB,Nat.reduceLT,reduceIte,Nat.reduceEqDiff,Nat.reduceAdd,Nat.reduceLeDiff,Nat.reduceMul,Nat.reduceBEq,i6,show ((0:Int)==0)=true from rfl]|refine rd0 rfl ?_))
  refine sP rfl (by simp [a80]) ?_
  (repeat (first|simp only [↓QA,QB,Nat.reduceLT,reduceIte,Nat.reduceEqDiff,Nat.reduceAdd,Nat.reduceLeDiff,Nat.reduceMul,Nat.reduceBEq,i6,a80]|refine rd0 rfl ?_))
  refine hrng _ 28 [29,30] _ _ ?_ ?_ (⟨0,0⟩,false,false) (qC v) _ ?_ ?_
  ·try simp only [aC,QE,Nat.reduceLT,reduceIte,Nat.reduceEqDiff,Nat.reduceAdd,Nat.reduceLeDiff,Nat.reduceMul,Nat.reduceBEq,i6]
  ·refine pH (XV v t) cU cU 2 (fun _=>rfl) (fun _=>rfl) .ret _ _ (qO v) (fun _ _ _=>rfl) _ _ ?_
   intro c _ fl tk x B τ
   have i3:(0:Int)≤(t:Int)∧(t:Int)<((3:Nat):Int):=⟨by omega,by omega⟩
   have hg:=i7 3 (cW (d5 v c)) (i:=t) (by omega)
   have hcf:cW (d5 v c) t=fV (d5 v c) (t:Int):=rfl
   rw [hcf] at hg
   have hta:∀ (b0 b1 b2 b3 b4 b5 b6 b7 b8 b9 b10:ABlk),aM (b0::b1::b2::b3::b4::b5::b6::b7::b8::b9::b10::(τ++[.cells (bX 3 (cW (d5 v c)))])) (τ.length+1+1+1+1+1+1+1+1+1+1+1)=some (bX 3 (cW (d5 v c))):=fun b0 b1 b2 b3 b4 b5 b6 b7 b8 b9 b10=>by
    simp only [sJ]
    rw [jZ];rfl
   obtain ⟨C,hC⟩:∃ C,fV (d5 v c) (t:Int)=C:=⟨_,rfl⟩
   have hcy:R6 v t c x=(if C = -1 then (x.1,x.2.1,true) else if x.2.1=false then (⟨C,C⟩,true,x.2.2) else (kF x.1 C,true,x.2.2),true):=by rw [R6,hC];rfl
   rw [hC] at hg
   rw [hcy]
   obtain ⟨⟨lo,hi⟩,ru,sy⟩:=x
   simp only [lJ,qO,cS,mF,cU,aK]
   (repeat (first|simp only [↓QA,QB,Nat.reduceLT,reduceIte,Nat.reduceEqDiff,Nat.reduceAdd,Nat.reduceLeDiff,Nat.reduceMul,Nat.reduceBEq,i6]|refine rd0 rfl ?_))
   refine ⟨[.cells (bX 3 (cW (d5 v c)))],by simp,?_⟩
   cases q1:(C==-1)
   ·have q1':C≠-1:=by simpa using q1
    rw [if_neg q1']
    cases ru
    ·(repeat (first|simp only [↓QA,QB,Nat.reduceLT,reduceIte,Nat.reduceEqDiff,Nat.reduceAdd,Nat.reduceLeDiff,Nat.reduceMul,Nat.reduceBEq,i6,L6,hta,i3,hg,q1]|refine rd0 rfl ?_))
     exact .inl ⟨[.cells (bX 3 (cW (d5 v c)))],by simp⟩
    ·(repeat (first|simp only [↓QA,QB,Nat.reduceLT,reduceIte,Nat.reduceEqDiff,Nat.reduceAdd,Nat.reduceLeDiff,Nat.reduceMul,Nat.reduceBEq,i6,L6,hta,i3,hg,q1]|refine rd0 rfl ?_))
     exact .inl ⟨[.cells (bX 3 (cW (d5 v c)))],by simp [kF]⟩
   ·have q1':C = -1:=by simpa using q1
    rw [if_pos q1']
    (repeat (first|simp only [↓QA,QB,Nat.reduceLT,reduceIte,Nat.reduceEqDiff,Nat.reduceAdd,Nat.reduceLeDiff,Nat.reduceMul,Nat.reduceBEq,i6,L6,hta,i3,hg,q1]|refine rd0 rfl ?_))
    exact .inl ⟨[.cells (bX 3 (cW (d5 v c)))],by simp⟩
  ·intro τ h2
   rw [hgo]
   simp only [cU,cS,mF,aK]
   cases SY
   ·(repeat (first|simp only [↓QA,QB,Nat.reduceLT,reduceIte,Nat.reduceEqDiff,Nat.reduceAdd,Nat.reduceLeDiff,Nat.reduceMul,Nat.reduceBEq,i6,kS]|refine rd0 rfl ?_))
    try try simp only [QS,QC,Nat.reduceLT,reduceIte,Nat.reduceEqDiff,Nat.reduceAdd,Nat.reduceLeDiff,Nat.reduceMul,Nat.reduceBEq,i6]
   ·cases EM
    ·(repeat (first|simp only [↓QA,QB,Nat.reduceLT,reduceIte,Nat.reduceEqDiff,Nat.reduceAdd,Nat.reduceLeDiff,Nat.reduceMul,Nat.reduceBEq,i6,kS,Bool.true_eq_false,Bool.false_eq_true]|refine rd0 rfl ?_))
     try try simp only [QS,QC,Nat.reduceLT,reduceIte,Nat.reduceEqDiff,Nat.reduceAdd,Nat.reduceLeDiff,Nat.reduceMul,Nat.reduceBEq,i6]
    ·(repeat (first|simp only [↓QA,QB,Nat.reduceLT,reduceIte,Nat.reduceEqDiff,Nat.reduceAdd,Nat.reduceLeDiff,Nat.reduceMul,Nat.reduceBEq,i6,kS,Bool.true_eq_false,Bool.false_eq_true]|refine rd0 rfl ?_))
     try try simp only [QS,QC,Nat.reduceLT,reduceIte,Nat.reduceEqDiff,Nat.reduceAdd,Nat.reduceLeDiff,Nat.reduceMul,Nat.reduceBEq,i6]
  ·intro τ h2
   rw [hgo] at h2
   cases h2
 ·have h0':(lY v n==0)=false:=by simpa using h0
  have hm:jP v n=(⟨0,0⟩,0,lY v n):=by rw [jP,if_neg h0]
  have her:=fun σ=>CL σ v [n,(v.trams.length:Int)] (.inr ⟨n,rfl⟩) hf h0
  simp only [List.map_nil,List.map_cons,S7] at her
  rw [hm]
  refine dY (her _) ?_
  (repeat (first|simp only [↓QA,QB,Nat.reduceLT,reduceIte,Nat.reduceEqDiff,Nat.reduceAdd,Nat.reduceLeDiff,Nat.reduceMul,Nat.reduceBEq,i6,h0',kS]|refine rd0 rfl ?_))
  try rfl
end Go.Am.Room
set_option maxRecDepth 8000
namespace Go.Am.Room
def jI:=And.intro @bK (And.intro @aK (And.intro @aZ (And.intro @aX (And.intro @aY (And.intro @aT (And.intro @bI (And.intro @bF (And.intro @bE (And.intro @dP (And.intro @dA (And.intro @Nat.not_lt_zero (And.intro @List.length_append.{0} (And.intro @Nat.zero_add (And.intro @Nat.mul_one (And.intro @Int.toNat_natCast (And.intro @eM (And.intro @fX (And.intro @fZ (And.intro @kT (And.intro @fM (And.intro @iP (And.intro @iN (And.intro @iQ (And.intro @iO (And.intro @iR (And.intro @iM (And.intro @Nat.add_lt_add_iff_left (@Nat.lt_add_right_iff_pos))))))))))))))))))))))))))))
theorem F1 (v:Net) (b m p:Nat) (σ:St) (hσ:aM σ p=some (db v b m)) (t:Nat) (ht:t<v.trams.length) (c:Int):j9 T (.func 111 [] []) [.ptr p 0,.int .i64 t,.int .i64 c] σ (.bool (kU v t c)):=by
 refine eX (af:=a111) rfl (by simp [a111]) ?_
 have hit:=yV (v:=v) (t:=t) (z:=v.trams[t]) (by simp [ht]) c
 obtain ⟨z,hz⟩:∃ z,v.trams[t]=z:=⟨_,rfl⟩
 rw [hz] at hit
 have e:decide (c = -1)=(c==-1):=by rw [Bool.eq_iff_iff];simp
 rw [e] at hit
 rw [hit]
 cases h:(c==-1)
 ·(repeat (first|simp only [↓QA,QB,Nat.reduceLT,reduceIte,Nat.reduceEqDiff,Nat.reduceAdd,Nat.reduceLeDiff,Nat.reduceMul,Nat.reduceBEq,jI,a111,h,hσ,ht,hz]|refine rd0 rfl ?_))
  refine fQ [] (by first|rfl|simp) ?_
  try simp only [QS,QC,Nat.reduceLT,reduceIte,Nat.reduceEqDiff,Nat.reduceAdd,Nat.reduceLeDiff,Nat.reduceMul,Nat.reduceBEq,jI]
 ·(repeat (first|simp only [↓QA,QB,Nat.reduceLT,reduceIte,Nat.reduceEqDiff,Nat.reduceAdd,Nat.reduceLeDiff,Nat.reduceMul,Nat.reduceBEq,jI,a111,h]|refine rd0 rfl ?_))
  refine fQ [] (by first|rfl|simp) ?_
  try simp only [QS,QC,Nat.reduceLT,reduceIte,Nat.reduceEqDiff,Nat.reduceAdd,Nat.reduceLeDiff,Nat.reduceMul,Nat.reduceBEq,jI,Bool.false_and]
theorem HS (a b:List Int) (ha:a.length<9223372036854775808) (hb:b.length<9223372036854775808):dL T 88 [ints a,ints b] (.bool (decide (a=b))):=by
 refine aU (af:=a88) rfl (by simp [a88]) dd ?_
 by_cases h:a.length=b.length
 ·have g:((a.length:Int)==(b.length:Int))=true:=by simp;omega
  (repeat (first|simp only [↓QA,QB,Nat.reduceLT,reduceIte,Nat.reduceEqDiff,Nat.reduceAdd,Nat.reduceLeDiff,Nat.reduceMul,Nat.reduceBEq,jI,a88,g]|refine rd0 rfl ?_))
  refine bT (S:=Nat) 0 (fun k=>k≤a.length∧a.take k=b.take k) (fun k=>a.length-k) (fun k=>[(0,ints a),(1,ints b),(12,.int .i64 a.length),(13,.int .i64 k)]) (fun _=>[]) ⟨Nat.zero_le _,by simp⟩ rfl ?_ fun k hk=>?_
  ·try simp only [aC,QE,Nat.reduceLT,reduceIte,Nat.reduceEqDiff,Nat.reduceAdd,Nat.reduceLeDiff,Nat.reduceMul,Nat.reduceBEq,jI,ints]
   try simp
  ·obtain ⟨hk,hq⟩:=hk
   (repeat (first|simp only [↓QA,QB,Nat.reduceLT,reduceIte,Nat.reduceEqDiff,Nat.reduceAdd,Nat.reduceLeDiff,Nat.reduceMul,Nat.reduceBEq,jI,YN]|refine rd0 rfl ?_))
   refine aG (fun hd=>?_) fun hd=>?_
   ·have hk1:k<a.length:=by simpa using hd
    have hk2:k<b.length:=by omega
    have hw:=bP hk1 ha
    obtain ⟨x,hx⟩:∃ x,a[k]=x:=⟨_,rfl⟩
    obtain ⟨y,hy⟩:∃ y,b[k]=y:=⟨_,rfl⟩
    cases q:(x==y)
    ·have q':x≠y:=by simpa using q
     have hne:decide (a=b)=false:=by
      simp only [decide_eq_false_iff_not]
      rintro rfl
      exact q' (hx.symm.trans hy)
     rw [hne]
     (repeat (first|simp only [↓QA,QB,Nat.reduceLT,reduceIte,Nat.reduceEqDiff,Nat.reduceAdd,Nat.reduceLeDiff,Nat.reduceMul,Nat.reduceBEq,jI,hk1,hk2,hx,hy,q]|refine rd0 rfl ?_))
    ·have q':x=y:=by simpa using q
     (repeat (first|simp only [↓QA,QB,Nat.reduceLT,reduceIte,Nat.reduceEqDiff,Nat.reduceAdd,Nat.reduceLeDiff,Nat.reduceMul,Nat.reduceBEq,jI,hk1,hk2,hx,hy,q]|refine rd0 rfl ?_))
     refine ⟨k+1,⟨by omega,by rw [List.take_succ_eq_append_getElem hk1,List.take_succ_eq_append_getElem hk2,hq,hx,hy,q']⟩,by omega,?_⟩
     try simp only [aC,QE,Nat.reduceLT,reduceIte,Nat.reduceEqDiff,Nat.reduceAdd,Nat.reduceLeDiff,Nat.reduceMul,Nat.reduceBEq,jI,hw,ints]
     try simp [aH]
   ·have hk1:k=a.length:=by
     have:¬k<a.length:=by simpa using hd
     omega
    rw [hk1,List.take_length,h,List.take_length] at hq
    have he:decide (a=b)=true:=by simpa using hq
    rw [he]
    (repeat (first|simp only [↓QA,QB,Nat.reduceLT,reduceIte,Nat.reduceEqDiff,Nat.reduceAdd,Nat.reduceLeDiff,Nat.reduceMul,Nat.reduceBEq,jI]|refine rd0 rfl ?_))
 ·have g:((a.length:Int)==(b.length:Int))=false:=by simp;omega
  have hne:decide (a=b)=false:=by
   simp only [decide_eq_false_iff_not]
   rintro rfl
   exact h rfl
  rw [hne]
  (repeat (first|simp only [↓QA,QB,Nat.reduceLT,reduceIte,Nat.reduceEqDiff,Nat.reduceAdd,Nat.reduceLeDiff,Nat.reduceMul,Nat.reduceBEq,jI,a88,g]|refine rd0 rfl ?_))
def mB:Option (List Int)→AV
 |none=>.lit [] true none
 |some l=>ints l
theorem CK (P:List (List Int)):(P.map some).map mB=P.map ints:=by simp [mB]
theorem MP (ps:List (List Int)) (pl n k:Nat) (hn:n=ps.length) (σ:St) (h1:aM σ k=some [.ref pl 0 n 1]) (h2:aM σ pl=some (ps.map ints)) (i:Nat) (hi:i<ps.length):j9 T (.func 112 [] [.ptr k 0]) [.int .i64 i] σ (ints (eO ps i)):=by
 refine eX (af:=a112) rfl (by simp [a112]) ?_
 rw [FH hi]
 obtain ⟨w,hw⟩:∃ w,ps[i]=w:=⟨_,rfl⟩
 have i1:(0:Int)≤(i:Int)∧(i:Int)<(n:Int)∧1=1:=⟨by omega,by omega,rfl⟩
 rw [hw]
 (repeat (first|simp only [↓QA,QB,Nat.reduceLT,reduceIte,Nat.reduceEqDiff,Nat.reduceAdd,Nat.reduceLeDiff,Nat.reduceMul,Nat.reduceBEq,jI,a112,h1,h2,i1,hi,hw]|refine rd0 rfl ?_))
 refine fQ [] (by first|rfl|simp) ?_
 try simp only [QS,QC,Nat.reduceLT,reduceIte,Nat.reduceEqDiff,Nat.reduceAdd,Nat.reduceLeDiff,Nat.reduceMul,Nat.reduceBEq,jI]
end Go.Am.Room
set_option maxRecDepth 8000
namespace Go.Am.Room
def gH:=And.intro @bK (And.intro @aK (And.intro @aZ (And.intro @aX (And.intro @aY (And.intro @aT (And.intro @bI (And.intro @bF (And.intro @bE (And.intro @dP (And.intro @dA (And.intro @Nat.not_lt_zero (And.intro @List.length_append.{0} (And.intro @Nat.zero_add (And.intro @Nat.mul_one (And.intro @Int.toNat_natCast (And.intro @eM (And.intro @fX (And.intro @fZ (And.intro @kT (And.intro @fM (And.intro @iP (And.intro @iN (And.intro @iQ (And.intro @iO (And.intro @iR (And.intro @iM (And.intro @Nat.add_lt_add_iff_left (And.intro @Nat.lt_add_right_iff_pos (And.intro @pG (@pE))))))))))))))))))))))))))))))
def FE (v:Net) (ps:List (List Int)) (c:List Int) (x:Unit):Unit×Bool:=(x,GV v ps c)
theorem GG (v:Net) (ps:List (List Int)):∀ l:List (List Int),(cL (FE v ps) l ()).2=l.all (GV v ps)
 |[]=>rfl
 |c::l=>by
  have ih:=GG v ps l
  rw [List.all_cons]
  by_cases h:GV v ps c=true
  ·have:cL (FE v ps) (c::l) ()=cL (FE v ps) l ():=by simp only [cL,FE];exact if_pos h
   rw [this,h,Bool.true_and,ih]
  ·have:cL (FE v ps) (c::l) ()=((),false):=by simp only [cL,FE];exact if_neg h
   rw [this]
   rw [Bool.not_eq_true] at h
   rw [h];rfl
def A7 (v:Net) (ps:List (List Int)) (A:List K5):List K5:=(fY v [] (FE v ps) () A).1.2
def doU (p pl n:Nat) (_:Unit):St:=[.cells [.ptr p 0],.cells [.ref pl 0 n 1],.cells [.bool false]]
theorem M8 {S:List K5→St} {v:Net} {b p m N:Nat} (hR:MemAt S (db v b m) (tEs v) p m N) (hv:Vd v) (ps:List (List Int)) (hps:RunOk v ps) (pl:Nat) (hpl:∀ A,aM (S A) pl=some (ps.map ints)) (hplN:pl<N) (c:List Int) (hcl:c.length=v.rails.length) (hcm:A4 v (rlI c)) (B:List K5) (lp:ABlk) (τ:St) (e:Env)
  (e2:Env.get e 2 = .ptr N 0) (e3:Env.get e 3 = .ptr (N+1) 0) (e4:Env.get e 4 = .ptr (N+2) 0) (e5:Env.get e 5 = .ptr (N+(τ.length+1+1+1+1+1)) 0) :
  wp T O6 e (S B++(doU p pl v.trams.length ()++(.cells [.ptr p 0]::lp::(τ++[.cells (bX 5 (rl c))])))) (fun j e'' σ''=>(nH v (iE v ps (rlI c)) v.trams.length=true∧j=none∧∃ τ',σ''=S B++(doU p pl v.trams.length ()++(.cells [.ptr p 0]::lp::(τ++τ')))) ∨
   (nH v (iE v ps (rlI c)) v.trams.length=false∧j=some .ret∧∃ τ',σ''=S B++(doU p pl v.trams.length ()++(.cells [.ptr p 0]::lp::(τ++τ'))))):=by
 have hnt:=hv.ntr
 have hpN:=hR.pl
 have hlen:=hps.len
 have hta:∀ (b0 b1 b2 b3 b4:ABlk) (cs:List AV) (τ2:St),aM (S B++(b0::b1::b2::b3::b4::(τ++(.cells cs::τ2)))) (N+(τ.length+1+1+1+1+1))=some cs:=fun b0 b1 b2 b3 b4 cs τ2=>by
  rw [hR.base]
  simp only [sJ]
  rw [jZ];rfl
 have htb:∀ (b0 b1 b2 b3 b4 b5:ABlk) (cs:List AV) (τ2:St),aM (S B++(b0::b1::b2::b3::b4::(τ++(b5::.cells cs::τ2)))) (N+(τ.length+1+1+1+1+1+1))=some cs:=fun b0 b1 b2 b3 b4 b5 cs τ2=>by
  rw [hR.base]
  simp only [sJ]
  have:τ++(b5::.cells cs::τ2)=(τ++[b5])++(.cells cs::τ2):=by simp
  rw [this,show τ.length+1=(τ++[b5]).length by simp,jZ];rfl
 have hrun:∀ (σ:St) (k:Nat),aM σ p=some (db v b m)→aM σ pl=some (ps.map ints)→aM σ k=some [.ref pl 0 v.trams.length 1]→j9 T (.func 109 [] []) [.ptr p 0,.agg (bX 5 (rl c)),.func 112 [] [.ptr k 0]] σ (.agg (bX 3 (cW (iE v ps (rlI c))))):=fun σ k h1 h2 h3=>by
  have hkl:=qR h3
  exact IP v hv b m p σ h1 (qR h1) _ (fun τ n hn=>by
   try simp only [QS,QC,Nat.reduceLT,reduceIte,Nat.reduceEqDiff,Nat.reduceAdd,Nat.reduceLeDiff,Nat.reduceMul,Nat.reduceBEq,gH,hR.len,hR.base,hR.base0,hR.bset,hR.bset0,hR.at1,hR.at0,FJ]
   simp [show k<n by omega]) ps hps (fun i hi τ=>MP ps pl v.trams.length k hlen.symm _ (lG h3 τ) (lG h2 τ) i (by omega)) (rl c) (rlI c) (P7 c) hcm
 have hcc:(iE v ps (rlI c)).length=v.trams.length:=rS _ _ _ _
 obtain ⟨CS,hCS⟩:∃ CS,iE v ps (rlI c)=CS:=⟨_,rfl⟩
 simp only [hCS] at hrun
 rw [hCS] at hcc
 rw [hCS]
 have hplS:∀ τ,aM (S B++τ) pl=some (ps.map ints):=fun τ=>lG (hpl B) τ
 have hk3:∀ (b0 b2 b3 b4:ABlk) (cs:List AV) (τ2:St),aM (S B++(b0::.cells cs::b2::τ2)) (N+1)=some cs:=fun b0 b2 b3 b4 cs τ2=>by rw [hR.base];rfl
 simp only [doU]
 (repeat (first|simp only [↓QA,QB,Nat.reduceLT,reduceIte,Nat.reduceEqDiff,Nat.reduceAdd,Nat.reduceLeDiff,Nat.reduceMul,Nat.reduceBEq,gH,hR.len,hR.base,hR.base0,hR.bset,hR.bset0,hR.at1,hR.at0,O6,hta,e2,e3,e4,e5]|refine rd0 rfl ?_))
 refine cM (hrun _ (N+1) (hR.at1 _ _) (hplS _) (by rw [hR.base];rfl)) ?_
 (repeat (first|simp only [↓QA,QB,Nat.reduceLT,reduceIte,Nat.reduceEqDiff,Nat.reduceAdd,Nat.reduceLeDiff,Nat.reduceMul,Nat.reduceBEq,gH,hR.len,hR.base,hR.base0,hR.bset,hR.bset0,hR.at1,hR.at0,hta,htb,e2,e3,e4,e5]|refine rd0 rfl ?_))
 refine bT (S:=Nat) 0 (fun k=>k≤v.trams.length∧nH v CS k=true) (fun k=>v.trams.length-k)
  (fun k=>[(2,.ptr N 0),(4,.ptr (N+2) 0),(6,.ptr (N+(τ.length+1+1+1+1+1+1)) 0),(21,.int .i64 v.trams.length),(22,.int .i64 k)])
  (fun k=>S B++(.cells [.ptr p 0]::.cells [.ref pl 0 v.trams.length 1]::.cells [.bool false]::.cells [.ptr p 0]::lp::(τ++[.cells (bX 5 (rl c)),.cells (bX 3 (cW CS))]))) ⟨Nat.zero_le _,rfl⟩ rfl ?_ fun k hk=>?_
 ·try simp only [aC,QE,Nat.reduceLT,reduceIte,Nat.reduceEqDiff,Nat.reduceAdd,Nat.reduceLeDiff,Nat.reduceMul,Nat.reduceBEq,gH,hR.len,hR.base,hR.base0,hR.bset,hR.bset0,hR.at1,hR.at0,e2,e4]
  try simp
 ·obtain ⟨hk,hf⟩:=hk
  (repeat (first|simp only [↓QA,QB,Nat.reduceLT,reduceIte,Nat.reduceEqDiff,Nat.reduceAdd,Nat.reduceLeDiff,Nat.reduceMul,Nat.reduceBEq,gH,hR.len,hR.base,hR.base0,hR.bset,hR.bset0,hR.at1,hR.at0,ZM]|refine rd0 rfl ?_))
  refine aG (fun hd=>?_) fun hd=>?_
  ·have hk1:k<v.trams.length:=by simpa using hd
   have hw:=bP hk1 (by omega)
   have hsu:=y0 v CS k
   rw [hf,Bool.true_and] at hsu
   have i3:(0:Int)≤(k:Int)∧(k:Int)<((3:Nat):Int):=⟨by omega,by omega⟩
   have hg:=i7 3 (cW CS) (i:=k) (by omega)
   have hin:=fun σ (hσ:aM σ p=some (db v b m))=>F1 v b m p σ hσ k hk1 (cW CS k)
   have hfe:kU v k (cW CS k)=kU v k (fV CS (k:Int)):=rfl
   (repeat (first|simp only [↓QA,QB,Nat.reduceLT,reduceIte,Nat.reduceEqDiff,Nat.reduceAdd,Nat.reduceLeDiff,Nat.reduceMul,Nat.reduceBEq,gH,hR.len,hR.base,hR.base0,hR.bset,hR.bset0,hR.at1,hR.at0,htb,i3,hg]|refine rd0 rfl ?_))
   refine CV (hin _ (hR.at1 _ _)) ?_
   rw [hfe]
   cases hq:kU v k (fV CS (k:Int))
   ·rw [hq] at hsu
    have hff:=DV hsu (show k+1≤v.trams.length by omega)
    rw [hff]
    (repeat (first|simp only [↓QA,QB,Nat.reduceLT,reduceIte,Nat.reduceEqDiff,Nat.reduceAdd,Nat.reduceLeDiff,Nat.reduceMul,Nat.reduceBEq,gH,hR.len,hR.base,hR.base0,hR.bset,hR.bset0,hR.at1,hR.at0,htb,i3,hg]|refine rd0 rfl ?_))
    exact .inr ⟨[.cells (bX 5 (rl c)),.cells (bX 3 (cW CS))],by simp⟩
   ·rw [hq] at hsu
    (repeat (first|simp only [↓QA,QB,Nat.reduceLT,reduceIte,Nat.reduceEqDiff,Nat.reduceAdd,Nat.reduceLeDiff,Nat.reduceMul,Nat.reduceBEq,gH,hR.len,hR.base,hR.base0,hR.bset,hR.bset0,hR.at1,hR.at0,htb,i3,hg]|refine rd0 rfl ?_))
    refine ⟨k+1,⟨by omega,hsu⟩,by omega,?_⟩
    try simp only [aC,QE,Nat.reduceLT,reduceIte,Nat.reduceEqDiff,Nat.reduceAdd,Nat.reduceLeDiff,Nat.reduceMul,Nat.reduceBEq,gH,hR.len,hR.base,hR.base0,hR.bset,hR.bset0,hR.at1,hR.at0,hw,hR.eqS]
    try simp [aH,okVs,okV]
    try omega
  ·have hk1:k=v.trams.length:=by
    have:¬k<v.trams.length:=by simpa using hd
    omega
   rw [hk1] at hf
   rw [hf]
   (repeat (first|simp only [↓QA,QB,Nat.reduceLT,reduceIte,Nat.reduceEqDiff,Nat.reduceAdd,Nat.reduceLeDiff,Nat.reduceMul,Nat.reduceBEq,gH,hR.len,hR.base,hR.base0,hR.bset,hR.bset0,hR.at1,hR.at0]|refine rd0 rfl ?_))
   exact .inl ⟨[.cells (bX 5 (rl c)),.cells (bX 3 (cW CS))],by simp⟩
theorem MU {S:List K5→St} {v:Net} {b p m N:Nat} (hR:MemAt S (db v b m) (tEs v) p m N) (hv:Vd v) (hb:ButIs b []) (ps:List (List Int)) (hps:RunOk v ps) (pl:Nat) (hpl:∀ A,aM (S A) pl=some (ps.map ints)) (hplN:pl<N) (A:List K5) :
  BI T (.func 87 [] []) [.ptr p 0,.ref pl 0 v.trams.length 1] (S A) (.bool (oL v ps)) (S (A7 v ps A)):=by
 have hnt:=hv.ntr
 have hpN:=hR.pl
 have hlen:=hps.len
 have hit:=GG v ps (TL v [])
 have hok:∀ (x:Unit) (y:ABlk),y∈doU p pl v.trams.length x→∀ k,N≤k→aH k y:=by
  intro x y hy k hk
  simp only [doU,List.mem_cons,List.not_mem_nil,or_false] at hy
  rcases hy with rfl|rfl|rfl<;>simp [aH,okVs,okV]<;>omega
 refine yX hR (af:=a87) rfl (by simp [a87]) ?_
 have hrg:=nV hR hv hb (doU p pl v.trams.length) (doU p pl v.trams.length) 3 (fun _=>rfl) (fun _=>rfl) hok hok .ret (f:=FE v ps)
 (repeat (first|simp only [↓QA,QB,Nat.reduceLT,reduceIte,Nat.reduceEqDiff,Nat.reduceAdd,Nat.reduceLeDiff,Nat.reduceMul,Nat.reduceBEq,gH,hR.len,hR.base,hR.base0,hR.bset,hR.bset0,hR.at1,hR.at0,a87]|refine rd0 rfl ?_))
 refine sP rfl (by simp [a80]) ?_
 (repeat (first|simp only [↓QA,QB,Nat.reduceLT,reduceIte,Nat.reduceEqDiff,Nat.reduceAdd,Nat.reduceLeDiff,Nat.reduceMul,Nat.reduceBEq,gH,hR.len,hR.base,hR.base0,hR.bset,hR.bset0,hR.at1,hR.at0,a80]|refine rd0 rfl ?_))
 refine hrg _ 9 [10,11] _ _ ?_ ?_ () A _ ?_ ?_
 ·try simp only [aC,QE,Nat.reduceLT,reduceIte,Nat.reduceEqDiff,Nat.reduceAdd,Nat.reduceLeDiff,Nat.reduceMul,Nat.reduceBEq,gH,hR.len,hR.base,hR.base0,hR.bset,hR.bset0,hR.at1,hR.at0]
 ·refine pH (S:=fun _=>S) (fun _=>hR) (doU p pl v.trams.length) (doU p pl v.trams.length) 3 (fun _=>rfl) (fun _=>rfl) .ret _ _ (qO v) (fun _ _ _=>rfl) _ _ ?_
  intro c hc fl tk x B τ
  obtain ⟨hcl,hcm⟩:=hc.1
  simp only [lJ,qO,doU]
  have hfin:FE v ps c x=((),nH v (iE v ps (rlI c)) v.trams.length):=rfl
  rw [hfin]
  have db:=fun lp e=>M8 hR hv ps hps pl hpl hplN c hcl hcm B lp τ e
  simp only [doU] at db
  (repeat (first|simp only [↓QA,QB,Nat.reduceLT,reduceIte,Nat.reduceEqDiff,Nat.reduceAdd,Nat.reduceLeDiff,Nat.reduceMul,Nat.reduceBEq,gH,hR.len,hR.base,hR.base0,hR.bset,hR.bset0,hR.at1,hR.at0]|refine rd0 rfl ?_))
  refine ⟨[.cells (bX 5 (rl c))],by simp,?_⟩
  refine db _ _ ?_ ?_ ?_ ?_
  all_goals try simp only [aC,QE,Nat.reduceLT,reduceIte,Nat.reduceEqDiff,Nat.reduceAdd,Nat.reduceLeDiff,Nat.reduceMul,Nat.reduceBEq,gH,hR.len,hR.base,hR.base0,hR.bset,hR.bset0,hR.at1,hR.at0]
 ·intro τ h2
  rw [hit] at h2
  have h3:oL v ps=true:=h2
  rw [h3]
  simp only [doU]
  (repeat (first|simp only [↓QA,QB,Nat.reduceLT,reduceIte,Nat.reduceEqDiff,Nat.reduceAdd,Nat.reduceLeDiff,Nat.reduceMul,Nat.reduceBEq,gH,hR.len,hR.base,hR.base0,hR.bset,hR.bset0,hR.at1,hR.at0]|refine rd0 rfl ?_))
  refine ⟨_,_,rfl,rfl,?_⟩
  try simp only [QS,QC,Nat.reduceLT,reduceIte,Nat.reduceEqDiff,Nat.reduceAdd,Nat.reduceLeDiff,Nat.reduceMul,Nat.reduceBEq,gH,hR.len,hR.base,hR.base0,hR.bset,hR.bset0,hR.at1,hR.at0]
 ·intro τ h2
  rw [hit] at h2
  have h3:oL v ps=false:=h2
  rw [h3]
  simp only [doU]
  (repeat (first|simp only [↓QA,QB,Nat.reduceLT,reduceIte,Nat.reduceEqDiff,Nat.reduceAdd,Nat.reduceLeDiff,Nat.reduceMul,Nat.reduceBEq,gH,hR.len,hR.base,hR.base0,hR.bset,hR.bset0,hR.at1,hR.at0]|refine rd0 rfl ?_))
  refine ⟨_,_,rfl,rfl,?_⟩
  try simp only [QS,QC,Nat.reduceLT,reduceIte,Nat.reduceEqDiff,Nat.reduceAdd,Nat.reduceLeDiff,Nat.reduceMul,Nat.reduceBEq,gH,hR.len,hR.base,hR.base0,hR.bset,hR.bset0,hR.at1,hR.at0]
abbrev PS:=List (Option (List Int))×List K5
def LM (l:List (Option (List Int))):List (List Int):=l.map fun o=>o.getD []
theorem E0 (P:List (List Int)):LM (P.map some)=P:=by
 rw [LM,List.map_map]
 exact List.map_id P
def zT (v:Net) (rec:Nat→PS→Bool×PS) (t left:Nat):List (List Int)→PS→Bool×PS
 |[],y=>(false,y)
 |w::ws,y =>
  if iL v t w≤left then (if (rec (left-iL v t w) (y.1.set t (some w),y.2)).1=true then rec (left-iL v t w) (y.1.set t (some w),y.2) else zT v rec t left ws (rec (left-iL v t w) (y.1.set t (some w),y.2)).2)
  else zT v rec t left ws (y.1.set t (some w),y.2)
def fnd (v:Net):Nat→Nat→Nat→PS→Bool×PS
 |0,_,left,y=>if left=0 then (oL v (LM y.1),(y.1,A7 v (LM y.1) y.2)) else (false,y)
 |k+1,t,left,y=>zT v (fun left y=>fnd v k (t+1) left y) t left (dQ v (gO v t) []) y
structure Fnd (v:Net) (p:List (List Int)) (t k:Nat) (y:PS):Prop where
 len:y.1.length=t+k
 pre:y.1.take t=p.map some
theorem tR {y:List (Option (List Int))} {t:Nat} {p:List (List Int)} {w:List Int} (h1:y.take t=p.map some) (h2:t<y.length):(y.set t (some w)).take (t+1)=(p++[w]).map some:=by
 have hl:(y.set t (some w)).length=y.length:=by simp
 rw [List.take_succ_eq_append_getElem (by rw [hl];exact h2)]
 simp [List.take_set_of_le,h1]
theorem AB (v:Net):∀ (k t left:Nat) (y:PS) (p:List (List Int)),p.length=t→Fnd v p t k y →
  ((fnd v k t left y).1=(dfs v (oL v) k p left).isSome)∧(∀ P,dfs v (oL v) k p left=some P→(fnd v k t left y).2.1=P.map some)∧Fnd v p t k (fnd v k t left y).2
 |0,t,left,y,p,hp,hy=>by
  have hl:y.1=p.map some:=by
   rw [←hy.pre,List.take_of_length_le (by rw [hy.len];omega)]
  simp only [fnd,dfs]
  by_cases h0:left=0
  ·rw [if_pos h0,hl,E0]
   subst h0
   simp only [decide_true,Bool.true_and]
   cases hd:oL v p
   ·exact ⟨rfl,fun P h=>(by cases h),⟨by rw [←hl];exact hy.len,by simp only;rw [←hl];exact hy.pre.trans hl.symm⟩⟩
   ·refine ⟨rfl,fun P h=>?_,⟨by rw [←hl];exact hy.len,by simp only;rw [←hl];exact hy.pre.trans hl.symm⟩⟩
    simp only [if_true,Option.some.injEq] at h
    rw [h]
  ·rw [if_neg h0]
   simp only [h0,decide_false,Bool.false_and,Bool.false_eq_true,if_false]
   exact ⟨rfl,fun P h=>(by cases h),hy⟩
 |k+1,t,left,y,p,hp,hy=>by
  simp only [fnd,dfs,hp]
  have key:∀ (ws:List (List Int)) (y:PS),Fnd v p t (k+1) y →
    ((zT v (fun left y=>fnd v k (t+1) left y) t left ws y).1=(ws.findSome? fun w=>if iL v t w≤left then dfs v (oL v) k (p++[w]) (left-iL v t w) else none).isSome) ∧
    (∀ P,(ws.findSome? fun w=>if iL v t w≤left then dfs v (oL v) k (p++[w]) (left-iL v t w) else none)=some P→(zT v (fun left y=>fnd v k (t+1) left y) t left ws y).2.1=P.map some)∧Fnd v p t (k+1) (zT v (fun left y=>fnd v k (t+1) left y) t left ws y).2:=by
   intro ws
   induction ws with
   |nil=>intro y hy;exact ⟨rfl,fun P h=>(by cases h),hy⟩
   |cons w ws ih =>
    intro y hy
    have hlt:t<y.1.length:=by have:=hy.len;omega
    have hset:Fnd v (p++[w]) (t+1) k (y.1.set t (some w),y.2):=⟨by have:=hy.len;simp;omega,tR hy.pre hlt⟩
    have hset2:Fnd v p t (k+1) (y.1.set t (some w),y.2):=⟨by have:=hy.len;simp;omega,by
     rw [←hy.pre];simp [List.take_set_of_le]⟩
    simp only [zT,List.findSome?_cons]
    by_cases ho:iL v t w≤left
    ·rw [if_pos ho,if_pos ho]
     obtain ⟨a,b,c⟩:=AB v k (t+1) (left-iL v t w) (y.1.set t (some w),y.2) (p++[w]) (by simp [hp]) hset
     obtain ⟨R,hR⟩:∃ R,fnd v k (t+1) (left-iL v t w) (y.1.set t (some w),y.2)=R:=⟨_,rfl⟩
     rw [hR] at a b c ⊢
     have c':Fnd v p t (k+1) R.2:=⟨by have:=c.len;omega,by
      have h1:=congrArg (List.take t) c.pre
      rw [List.take_take,show min t (t+1)=t by omega] at h1
      rw [h1,List.map_append]
      exact List.take_left' (by simp [hp])⟩
     cases hd:dfs v (oL v) k (p++[w]) (left-iL v t w) with
     |some P =>
      rw [hd] at a b
      rw [a]
      simp only [Option.isSome_some,if_true]
      exact ⟨a,fun Q h=>by rw [←(Option.some.inj h)];exact b P rfl,c'⟩
     |none =>
      rw [hd] at a
      rw [a]
      simp only [Option.isSome_none,Bool.false_eq_true,if_false]
      exact ih R.2 c'
    ·rw [if_neg ho,if_neg ho]
     exact ih _ hset2
  exact key _ y hy
end Go.Am.Room
set_option maxRecDepth 4000
namespace Go.Am.Room
structure Vary {Y:Type} (S:Y→St) (N:Nat):Prop where
 len:∀ y,(S y).length=N
 keep:∀ y z i,i<N→fI (S y) (S z) N i
 eqS:∀ k,N≤k→∀ y z a b c,EqS k (S y++a) (S z++b) (S z++c)=EqS k a b c
theorem EO {Y:Type} {S:Y→St} {N:Nat} (hV:Vary S N) {f:FuncId} {first cap args:List AV} {af:AFunc} {v:AV} {y z:Y} (hf:T f=some af) (hn:(first++args++cap).length≤af.ntmps)
  (h:wp T af.body (gS 0 (first++args++cap)) (S y) (fun j e σ1=>(j=none∨j=some .ret)∧∃ v0 τ,iH af.results e σ1=some v0∧σ1=S z++τ∧cX σ1 N 20 v0=some v)):BI T (.func f first cap) args (S y) v (S z):=by
 refine .callf (.call hf hn (kE h fun o ho=>ho) fun o ho=>?_)
 obtain ⟨hj,v0,τ,hres,hσ,h4⟩:=ho
 refine ⟨hj,v0,hres,?_⟩
 unfold cX at h4
 cases hs:snap o.σ N 20 v0 with
 |none=>rw [hs] at h4;cases h4
 |some v1 =>
  rw [hs] at h4
  simp at h4
  refine .inr ⟨20,v1,v,by rw [hV.len];exact hs,.inr h4.symm,fun i hi=>?_,?_,rfl,?_⟩
  ·rw [hσ]
   rw [hV.len] at hi ⊢
   have:=hV.keep y z i hi
   have e2:(S z++τ)[i]? = (S z)[i]?:=List.getElem?_append_left (by rw [hV.len];exact hi)
   simp only [fI,e2] at this ⊢
   exact this
  ·rw [hσ,List.length_append,hV.len,hV.len];omega
  ·rw [hσ,hV.len,←hV.len z,List.take_left]
end Go.Am.Room
set_option maxRecDepth 8000
namespace Go.Am.Room
def eB:=And.intro @bK (And.intro @aK (And.intro @aZ (And.intro @aX (And.intro @aY (And.intro @aT (And.intro @bI (And.intro @bF (And.intro @bE (And.intro @dP (And.intro @dA (And.intro @Nat.not_lt_zero (And.intro @List.length_append.{0} (And.intro @Nat.zero_add (And.intro @Nat.mul_one (And.intro @Int.toNat_natCast (And.intro @Nat.add_lt_add_iff_left (@Nat.lt_add_right_iff_pos)))))))))))))))))
def qM (v:Net) (n:Nat):List AV:=(List.range n).map fun t=>aJ (dQ v (gO v t) [])
theorem SD (v:Net) {n t:Nat} (h:t<n):(qM v n)[t]? = some (aJ (dQ v (gO v t) [])):=by simp [qM,h]
theorem xL (l:List (Option (List Int))) (m:Nat):okVs m (l.map mB):=by
 induction l with
 |nil=>trivial
 |cons o l ih =>
  refine ⟨?_,ih⟩
  cases o with
  |none=>simp [mB,okV,okVs]
  |some w=>exact AF (j8 w) m
theorem OI (l:List (Option (List Int))) {t:Nat} (h:t<l.length) (w:List Int):(l.map mB).take t++[AV.lit (w.map (.int .i64)) false none]++(l.map mB).drop (t+1)=(l.set t (some w)).map mB:=by
 rw [List.map_set,List.set_eq_take_append_cons_drop,if_pos (by simpa using h)]
 simp [mB,ints]
def QX:AV:=.func 86 [] [.ptr 10 0,.ptr 5 0,.ptr 7 0,.ptr 0 0,.ptr 11 0]
theorem jK:QX = .func 86 [] [.ptr 10 0,.ptr 5 0,.ptr 7 0,.ptr 0 0,.ptr 11 0]:=by simp only [QX]
def mvS (v:Net) (y:PS):St:=[.cells (aB v),.cells (aB v),.cells (aB v),.map (tEs v y.2),.cells (db v 0 3),.cells [.ptr 4 0],.cells (qM v v.trams.length),.cells [.ref 6 0 v.trams.length 1],.tok 1 0 false,.cells (y.1.map mB),.cells [.ref 9 0 v.trams.length 1],.cells [QX]]
theorem aAH (v:Net) (l:List (Option (List Int))):MemAt (fun A=>mvS v (l,A)) (db v 0 3) (tEs v) 4 3 12 :=
 ⟨fun M=>rfl,fun M=>rfl,fun M=>rfl,fun M M'=>rfl,fun A k=>tM v A k,by omega,by omega⟩
theorem HR (v:Net):Vary (mvS v) 12 where
 len:=fun y=>rfl
 keep:=fun y z i hi=>by
  match i,hi with
  |0,_=>exact .inl rfl
  |1,_=>exact .inl rfl
  |2,_=>exact .inl rfl
  |3,_=>exact .inr (.inl ⟨_,rfl,tM v z.2 _⟩)
  |4,_=>exact .inl rfl
  |5,_=>exact .inl rfl
  |6,_=>exact .inl rfl
  |7,_=>exact .inl rfl
  |8,_=>exact .inl rfl
  |9,_=>exact .inr (.inl ⟨_,rfl,xL z.1 _⟩)
  |10,_=>exact .inl rfl
  |11,_=>exact .inl rfl
 eqS:=fun k hk y z a b c=>by
  have h1:=tM v z.2 k
  have h2:aH k (.cells (z.1.map mB)):=xL z.1 k
  simp only [mvS,List.cons_append,List.nil_append,EqS,h1,h2,or_true,true_or,true_and,and_self]
theorem yE (v:Net) (hv:Vd v):∀ (k t left:Nat) (y:PS) (p:List (List Int)),t+k=v.trams.length→left≤10→p.length=t→Fnd v p t k y→(∀ w∈p,w.length≤4∧∀ r∈w,0≤r∧r<v.rails.length) →
  BI T QX [.int .i64 t,.int .i64 left] (mvS v y) (.bool (fnd v k t left y).1) (mvS v (fnd v k t left y).2)
 |0,t,left,y,p,hn,hleft,hp,hF,hpin=>by
  have hnt:=hv.ntr
  have hl:y.1=p.map some:=by rw [←hF.pre,List.take_of_length_le (by rw [hF.len];omega)]
  have hro:RunOk v p:=⟨by omega,fun w hw=>(hpin w hw).1,fun w hw=>(hpin w hw).2⟩
  have hE:((t:Int)==(v.trams.length:Int))=true:=by simp;omega
  obtain ⟨l,A⟩:=y
  simp only at hl
  subst hl
  have hdo:=MU (aAH v (p.map some)) hv ML p hro 9 (fun A=>by show some _=_;rw [CK]) (by omega) A
  have hr:fnd v 0 t left (p.map some,A)=if left=0 then (oL v p,(p.map some,A7 v p A)) else (false,(p.map some,A)):=by simp only [fnd,E0]
  refine EO (HR v) (af:=a86) rfl (by simp [a86]) ?_
  rw [hr]
  cases h0:((left:Int)==0)
  ·have h0':¬left=0:=by simp at h0;omega
   rw [if_neg h0']
   simp only [mvS,jK]
   (repeat (first|simp only [↓QA,QB,Nat.reduceLT,reduceIte,Nat.reduceEqDiff,Nat.reduceAdd,Nat.reduceLeDiff,Nat.reduceMul,Nat.reduceBEq,eB,a86,hE,h0]|refine rd0 rfl ?_))
   exact ⟨_,[],rfl,by simp,by try simp only [QS,QC,Nat.reduceLT,reduceIte,Nat.reduceEqDiff,Nat.reduceAdd,Nat.reduceLeDiff,Nat.reduceMul,Nat.reduceBEq,eB]⟩
  ·have h0':left=0:=by simp at h0;omega
   rw [if_pos h0']
   simp only [mvS,jK] at hdo ⊢
   try simp only [↓QA,QB,Nat.reduceLT,reduceIte,Nat.reduceEqDiff,Nat.reduceAdd,Nat.reduceLeDiff,Nat.reduceMul,Nat.reduceBEq,eB] at hdo
   (repeat (first|simp only [↓QA,QB,Nat.reduceLT,reduceIte,Nat.reduceEqDiff,Nat.reduceAdd,Nat.reduceLeDiff,Nat.reduceMul,Nat.reduceBEq,eB,a86,hE,h0]|refine rd0 rfl ?_))
   refine dY hdo ?_
   (repeat (first|simp only [↓QA,QB,Nat.reduceLT,reduceIte,Nat.reduceEqDiff,Nat.reduceAdd,Nat.reduceLeDiff,Nat.reduceMul,Nat.reduceBEq,eB]|refine rd0 rfl ?_))
   exact ⟨_,[],rfl,by simp,by try simp only [QS,QC,Nat.reduceLT,reduceIte,Nat.reduceEqDiff,Nat.reduceAdd,Nat.reduceLeDiff,Nat.reduceMul,Nat.reduceBEq,eB]⟩
 |k+1,t,left,y,p,hn,hleft,hp,hF,hpin0=>by
  have hnt:=hv.ntr
  have hok1:∀ A,aH 12 (.map (tEs v A)):=fun A=>tM v A 12
  have hok2:∀ l:List (Option (List Int)),aH 12 (.cells (l.map mB)):=fun l=>xL l 12
  have htt:t<v.trams.length:=by omega
  have hE:((t:Int)==(v.trams.length:Int))=false:=by simp;omega
  obtain ⟨z,hz⟩:∃ z,v.trams[t]=z:=⟨_,rfl⟩
  have hpth:eO (jM v) t=z.path:=by rw [FX htt,hz]
  have hzl:=(wK hv htt).len
  rw [hz] at hzl
  have hfr:=xF htt
  rw [hz] at hfr
  have hwg:=SD v (n:=v.trams.length) htt
  have hwi:∀ w∈dQ v (gO v t) [],w.length≤4∧∀ r∈w,0≤r∧r<v.rails.length:=fun w hw=>AE hw
  have hwc:=sU (v:=v) (by have:=hv.nra;omega) (gO v t) []
  have hr:fnd v (k+1) t left y=zT v (fun left y=>fnd v k (t+1) left y) t left (dQ v (gO v t) []) y:=rfl
  obtain ⟨W,hW⟩:∃ W,dQ v (gO v t) []=W:=⟨_,rfl⟩
  rw [hW] at hwg hwc hr
  simp only [hW] at hwi
  obtain ⟨R,hR⟩:∃ R,fnd v (k+1) t left y=R:=⟨_,rfl⟩
  rw [hR] at hr
  have hr':zT v (fun left y=>fnd v k (t+1) left y) t left (W.drop 0) y=R:=hr.symm
  have iA:(0:Int)≤(t:Int)∧(t:Int)<(v.trams.length:Int)∧1=1:=⟨by omega,by omega,rfl⟩
  have hwt:IntKind.i64.wrap ((t:Int)+1)=((t+1:Nat):Int):=bP htt (by omega)
  refine EO (HR v) (af:=a86) rfl (by simp [a86]) ?_
  rw [hR]
  simp only [mvS,jK]
  (repeat (first|simp only [↓QA,QB,Nat.reduceLT,reduceIte,Nat.reduceEqDiff,Nat.reduceAdd,Nat.reduceLeDiff,Nat.reduceMul,Nat.reduceBEq,eB,a86,hE,iA,hwg,bJ]|refine rd0 rfl ?_))
  refine bT (S:=Nat×PS) (0,y) (fun a=>a.1≤W.length∧Fnd v p t (k+1) a.2∧zT v (fun left y=>fnd v k (t+1) left y) t left (W.drop a.1) a.2=R) (fun a=>W.length-a.1)
   (fun a=>[(0,.int .i64 t),(1,.int .i64 left),(2,.ptr 10 0),(5,.ptr 0 0),(6,.ptr 11 0),(27,aJ W),(28,.int .i64 W.length),(29,.int .i64 a.1)])
   (fun a=>mvS v a.2) ⟨Nat.zero_le _,hF,hr'⟩ (by simp [mvS,jK,aB,ints]) ?_ fun a ha=>?_
  ·try simp only [aC,QE,Nat.reduceLT,reduceIte,Nat.reduceEqDiff,Nat.reduceAdd,Nat.reduceLeDiff,Nat.reduceMul,Nat.reduceBEq,eB,bJ]
   try simp
  ·obtain ⟨j,y⟩:=a
   obtain ⟨hj,hF,hR⟩:=ha
   simp only at hj hF hR
   have hlt:t<y.1.length:=by have:=hF.len;omega
   simp only [mvS,jK]
   (repeat (first|simp only [↓QA,QB,Nat.reduceLT,reduceIte,Nat.reduceEqDiff,Nat.reduceAdd,Nat.reduceLeDiff,Nat.reduceMul,Nat.reduceBEq,eB,YG,bJ]|refine rd0 rfl ?_))
   refine aG (fun hd=>?_) fun hd=>?_
   ·have hj1:j<W.length:=by simpa using hd
    have hwj:=bP hj1 (by omega)
    rw [List.drop_eq_getElem_cons hj1,zT] at hR
    have hwl:=hwi _ (List.getElem_mem hj1)
    obtain ⟨w,hw⟩:∃ w,W[j]=w:=⟨_,rfl⟩
    rw [hw] at hR hwl
    have hpin:∀ u∈p++[w],u.length≤4∧∀ r∈u,0≤r∧r<v.rails.length:=fun u hu=>by
     rcases List.mem_append.1 hu with hu|hu
     ·exact hpin0 u hu
     ·simp only [List.mem_singleton] at hu;subst hu;exact hwl
    have hss:=OI y.1 hlt w
    have i8:(0:Int)≤(t:Int)∧(t:Int)<(v.trams.length:Int)∧1=1:=iA
    have c8:t+1≤y.1.length:=hlt
    have hot:iL v t w=if w=z.path then 0 else 1:=by rw [iL,hpth]
    have heq:=HS w z.path (by omega) (by omega)
    simp only [qE] at heq
    (repeat (first|simp only [↓QA,QB,Nat.reduceLT,reduceIte,Nat.reduceEqDiff,Nat.reduceAdd,Nat.reduceLeDiff,Nat.reduceMul,Nat.reduceBEq,eB,hj1,hw,htt,hz,bJ]|refine rd0 rfl ?_))
    ((first|refine aD (heq) rfl dd ?_|refine aE (heq) rfl dd ?_);(repeat (first|simp only [↓QA,QB,Nat.reduceLT,reduceIte,Nat.reduceEqDiff,Nat.reduceAdd,Nat.reduceLeDiff,Nat.reduceMul,Nat.reduceBEq,eB,hj1,hw,htt,hz,bJ]|refine rd0 rfl ?_)))
    cases q:decide (w=z.path)
    ·have q':¬w=z.path:=by simpa using q
     rw [if_neg q'] at hot
     rw [hot] at hR
     simp only [Bool.not_false,j5]
     by_cases hl1:1≤left
     ·have hlo:IntKind.i64.wrap ((left:Int)-1)=((left-1:Nat):Int):=(eA ⟨by omega,by omega⟩).trans (by omega)
      have hle:decide ((1:Int)≤(left:Int))=true:=decide_eq_true (by omega)
      have hrec:=yE v hv k (t+1) (left-1) (y.1.set t (some w),y.2) (p++[w]) (by omega) (by omega) (by simp [hp]) ⟨by have:=hF.len;simp;omega,tR hF.pre hlt⟩ hpin
      rw [if_pos (show 1≤left by omega)] at hR
      obtain ⟨Q,hQ⟩:∃ Q,fnd v k (t+1) (left-1) (y.1.set t (some w),y.2)=Q:=⟨_,rfl⟩
      rw [hQ] at hrec hR
      have hFQ:Fnd v p t (k+1) Q.2:=by
       have:=(AB v k (t+1) (left-1) (y.1.set t (some w),y.2) (p++[w]) (by simp [hp]) ⟨by have:=hF.len;simp;omega,tR hF.pre hlt⟩).2.2
       rw [hQ] at this
       refine ⟨by have:=this.len;omega,?_⟩
       have h1:=congrArg (List.take t) this.pre
       rw [List.take_take,show min t (t+1)=t by omega] at h1
       rw [h1,List.map_append]
       exact List.take_left' (by simp [hp])
      obtain ⟨Qb,Qy⟩:=Q
      simp only [mvS,jK] at hrec
      simp only at hR hFQ hrec
      try simp only [↓QA,QB,Nat.reduceLT,reduceIte,Nat.reduceEqDiff,Nat.reduceAdd,Nat.reduceLeDiff,Nat.reduceMul,Nat.reduceBEq,eB] at hrec
      (repeat (first|simp only [↓QA,QB,Nat.reduceLT,reduceIte,Nat.reduceEqDiff,Nat.reduceAdd,Nat.reduceLeDiff,Nat.reduceMul,Nat.reduceBEq,eB,q,i8,c8,hss,hle,hwt,hlo,hj1,hw,htt,hz,bJ]|refine rd0 rfl ?_))
      refine dY hrec ?_
      cases Qb
      ·simp only [Bool.false_eq_true,if_false] at hR
       (repeat (first|simp only [↓QA,QB,Nat.reduceLT,reduceIte,Nat.reduceEqDiff,Nat.reduceAdd,Nat.reduceLeDiff,Nat.reduceMul,Nat.reduceBEq,eB,hwj]|refine rd0 rfl ?_))
       refine ⟨(j+1,Qy),⟨by simp only;omega,hFQ,hR⟩,by simp only;omega,?_⟩
       try simp only [aC,QE,Nat.reduceLT,reduceIte,Nat.reduceEqDiff,Nat.reduceAdd,Nat.reduceLeDiff,Nat.reduceMul,Nat.reduceBEq,eB,hwj,bJ]
       try simp only [hok1,hok2,or_true,true_or,and_self,true_and]
      ·simp only [if_true] at hR
       subst hR
       (repeat (first|simp only [↓QA,QB,Nat.reduceLT,reduceIte,Nat.reduceEqDiff,Nat.reduceAdd,Nat.reduceLeDiff,Nat.reduceMul,Nat.reduceBEq,eB]|refine rd0 rfl ?_))
       exact ⟨_,[],rfl,by simp [mvS,jK],by try simp only [QS,QC,Nat.reduceLT,reduceIte,Nat.reduceEqDiff,Nat.reduceAdd,Nat.reduceLeDiff,Nat.reduceMul,Nat.reduceBEq,eB]⟩
     ·have hle:decide ((1:Int)≤(left:Int))=false:=by simp;omega
      rw [if_neg hl1] at hR
      (repeat (first|simp only [↓QA,QB,Nat.reduceLT,reduceIte,Nat.reduceEqDiff,Nat.reduceAdd,Nat.reduceLeDiff,Nat.reduceMul,Nat.reduceBEq,eB,q,i8,c8,hss,hle,hwj]|refine rd0 rfl ?_))
      refine ⟨(j+1,(y.1.set t (some w),y.2)),⟨by simp only;omega,⟨by have:=hF.len;simp;omega,by rw [←hF.pre];simp [List.take_set_of_le]⟩,hR⟩,by simp only;omega,?_⟩
      try simp only [aC,QE,Nat.reduceLT,reduceIte,Nat.reduceEqDiff,Nat.reduceAdd,Nat.reduceLeDiff,Nat.reduceMul,Nat.reduceBEq,eB,hwj,bJ]
      try simp only [hok1,hok2,or_true,true_or,and_self,true_and]
    ·have q':w=z.path:=by simpa using q
     rw [if_pos q'] at hot
     rw [hot] at hR
     simp only [Bool.not_true,jO]
     have hlo:IntKind.i64.wrap ((left:Int)-0)=((left-0:Nat):Int):=(eA ⟨by omega,by omega⟩).trans (by omega)
     have hle:decide ((0:Int)≤(left:Int))=true:=decide_eq_true (by omega)
     have hrec:=yE v hv k (t+1) (left-0) (y.1.set t (some w),y.2) (p++[w]) (by omega) (by omega) (by simp [hp]) ⟨by have:=hF.len;simp;omega,tR hF.pre hlt⟩ hpin
     rw [if_pos (show 0≤left by omega)] at hR
     obtain ⟨Q,hQ⟩:∃ Q,fnd v k (t+1) (left-0) (y.1.set t (some w),y.2)=Q:=⟨_,rfl⟩
     rw [hQ] at hrec hR
     have hFQ:Fnd v p t (k+1) Q.2:=by
      have:=(AB v k (t+1) (left-0) (y.1.set t (some w),y.2) (p++[w]) (by simp [hp]) ⟨by have:=hF.len;simp;omega,tR hF.pre hlt⟩).2.2
      rw [hQ] at this
      refine ⟨by have:=this.len;omega,?_⟩
      have h1:=congrArg (List.take t) this.pre
      rw [List.take_take,show min t (t+1)=t by omega] at h1
      rw [h1,List.map_append]
      exact List.take_left' (by simp [hp])
     obtain ⟨Qb,Qy⟩:=Q
     simp only [mvS,jK] at hrec
     simp only at hR hFQ hrec
     try simp only [↓QA,QB,Nat.reduceLT,reduceIte,Nat.reduceEqDiff,Nat.reduceAdd,Nat.reduceLeDiff,Nat.reduceMul,Nat.reduceBEq,eB] at hrec
     (repeat (first|simp only [↓QA,QB,Nat.reduceLT,reduceIte,Nat.reduceEqDiff,Nat.reduceAdd,Nat.reduceLeDiff,Nat.reduceMul,Nat.reduceBEq,eB,q,i8,c8,hss,hle,hwt,hlo,hj1,hw,htt,hz,bJ]|refine rd0 rfl ?_))
     refine dY hrec ?_
     cases Qb
     ·simp only [Bool.false_eq_true,if_false] at hR
      (repeat (first|simp only [↓QA,QB,Nat.reduceLT,reduceIte,Nat.reduceEqDiff,Nat.reduceAdd,Nat.reduceLeDiff,Nat.reduceMul,Nat.reduceBEq,eB,hwj]|refine rd0 rfl ?_))
      refine ⟨(j+1,Qy),⟨by simp only;omega,hFQ,hR⟩,by simp only;omega,?_⟩
      try simp only [aC,QE,Nat.reduceLT,reduceIte,Nat.reduceEqDiff,Nat.reduceAdd,Nat.reduceLeDiff,Nat.reduceMul,Nat.reduceBEq,eB,hwj,bJ]
      try simp only [hok1,hok2,or_true,true_or,and_self,true_and]
     ·simp only [if_true] at hR
      subst hR
      (repeat (first|simp only [↓QA,QB,Nat.reduceLT,reduceIte,Nat.reduceEqDiff,Nat.reduceAdd,Nat.reduceLeDiff,Nat.reduceMul,Nat.reduceBEq,eB]|refine rd0 rfl ?_))
      exact ⟨_,[],rfl,by simp [mvS,jK],by try simp only [QS,QC,Nat.reduceLT,reduceIte,Nat.reduceEqDiff,Nat.reduceAdd,Nat.reduceLeDiff,Nat.reduceMul,Nat.reduceBEq,eB]⟩
   ·have hj1:j=W.length:=by
     have:¬j<W.length:=by simpa using hd
     omega
    rw [hj1,List.drop_length,zT] at hR
    subst hR
    (repeat (first|simp only [↓QA,QB,Nat.reduceLT,reduceIte,Nat.reduceEqDiff,Nat.reduceAdd,Nat.reduceLeDiff,Nat.reduceMul,Nat.reduceBEq,eB]|refine rd0 rfl ?_))
    exact ⟨_,[],rfl,by simp [mvS,jK],by try simp only [QS,QC,Nat.reduceLT,reduceIte,Nat.reduceEqDiff,Nat.reduceAdd,Nat.reduceLeDiff,Nat.reduceMul,Nat.reduceBEq,eB]⟩
end Go.Am.Room
set_option maxRecDepth 8000
namespace Go.Am.Room
def d6:=And.intro @bK (And.intro @aK (And.intro @aZ (And.intro @aX (And.intro @aY (And.intro @aT (And.intro @bI (And.intro @bF (And.intro @bE (And.intro @dP (And.intro @dA (And.intro @Nat.not_lt_zero (And.intro @List.length_append.{0} (And.intro @List.length_replicate.{0} (And.intro @Nat.zero_add (And.intro @Nat.mul_one (And.intro @Int.toNat_natCast (And.intro @Nat.add_lt_add_iff_left (@Nat.lt_add_right_iff_pos))))))))))))))))))
theorem tS (x:AV) (n:Nat):(List.replicate n [x]).flatten=List.replicate n x:=by
 induction n with
 |zero=>rfl
 |succ n ih=>simp [List.replicate_succ,ih]
theorem EY:∀ l:List (List Int),vY 1 l.length (l.map ints)=l.map ints
 |[]=>rfl
 |x::l=>by simp [vY,EY l,AV.cell,ints]
theorem aBQ {σ:St} {m id n:Nat} {l:List (List Int)} (hm:¬id<m) (hn:n=l.length) (hl:aM σ id=some (l.map ints)):cX σ m 20 (.ref id 0 n 1)=some (.lit (l.map ints) false none):=by
 subst hn
 have hv:lO σ (.ref id 0 l.length 1)=some (l.map ints):=by simp [lO,hl,EY]
 rw [MC,if_neg hm,hv]
 simp [fR,QG]
def nR (v:Net) (n k:Nat):List AV:=(List.range n).map fun t=>if t<k then aJ (dQ v (gO v t) []) else .lit [] true none
theorem aCJ (v:Net) (n:Nat):nR v n 0=List.replicate n (.lit [] true none):=by simp [nR,List.map_const']
theorem SC (v:Net) (n:Nat):nR v n n=qM v n:=List.map_congr_left fun t ht=>by
 rw [if_pos (by simpa using ht)]
theorem sW (v:Net) (n k:Nat):(nR v n k).length=n:=by simp [nR]
theorem U3 (v:Net) (n k m:Nat):okVs m (nR v n k):=by
 have key:∀ l:List Nat,okVs m (l.map fun t=>if t<k then aJ (dQ v (gO v t) []) else AV.lit [] true none):=by
  intro l
  induction l with
  |nil=>trivial
  |cons t l ih =>
   refine ⟨?_,ih⟩
   simp only
   split
   ·exact AF (oS _) m
   ·simp [okV,okVs]
 exact key _
theorem RV (v:Net) {n k:Nat} (h:k<n):(nR v n k).take k++[aJ (dQ v (gO v k) [])]++(nR v n k).drop (k+1)=nR v n (k+1):=by
 have h1:(nR v n k).take k++[aJ (dQ v (gO v k) [])]++(nR v n k).drop (k+1)=(nR v n k).set k (aJ (dQ v (gO v k) [])):=by
  rw [List.set_eq_take_append_cons_drop,if_pos (by rw [sW];exact h)];simp
 rw [h1]
 refine List.ext_getElem? fun j=>?_
 by_cases hj:j<n
 ·rw [List.getElem?_set]
  by_cases e:k=j
  ·subst e;simp [sW,hj,nR]
  ·rw [if_neg e]
   simp only [nR,List.getElem?_map,List.getElem?_range hj,Option.map_some]
   by_cases h2:j<k
   ·simp [h2,show j<k+1 by omega]
   ·simp [h2,show ¬j<k+1 by omega]
 ·rw [List.getElem?_eq_none (by rw [List.length_set,sW];omega),List.getElem?_eq_none (by rw [sW];omega)]
theorem xH (v:Net) (hf:Fits v):dL T 30 [bM v] (mZ (fO v)):=by
 refine aU (af:=a30) rfl (by simp [a30]) dd ?_
 (repeat (first|simp only [↓QA,QB,Nat.reduceLT,reduceIte,Nat.reduceEqDiff,Nat.reduceAdd,Nat.reduceLeDiff,Nat.reduceMul,Nat.reduceBEq,d6,a30]|refine rd0 rfl ?_))
 by_cases h0:dB v=0
 ·obtain ⟨hv,hne⟩:=j4 h0
  have hnt:=hv.ntr
  have her:=yD [.cells (aB v)] v [] (.inl rfl) hf (by rw [m5];exact h0)
  have hsome:∀ p,l0 v (bH v [])=some p→fO v=(p,gT v p,0):=fun p hp=>by rw [fO,if_pos h0,hp]
  have hnone:l0 v (bH v [])=none→fO v=([],[],9):=fun hp=>by rw [fO,if_pos h0,hp]
  have hbp:=TQ hv
  obtain ⟨MO,hMO⟩:∃ MO,fO v=MO:=⟨_,rfl⟩
  rw [hMO] at hnone
  simp only [hMO] at hsome
  rw [hMO]
  obtain ⟨W,hW⟩:∃ W,l0 v (bH v [])=W:=⟨_,rfl⟩
  rw [hW] at hbp hnone
  simp only [hW] at hsome
  simp only [mF,List.map_nil] at her
  simp only [aK] at her
  try simp only [↓QA,QB,Nat.reduceLT,reduceIte,Nat.reduceEqDiff,Nat.reduceAdd,Nat.reduceLeDiff,Nat.reduceMul,Nat.reduceBEq,d6] at her
  have hwi:∀ (n:Nat),n=v.trams.length→True:=fun _ _=>trivial
  have hmk:m7 24 (.int .i64 v.trams.length) (.int .i64 v.trams.length)=some v.trams.length:=by simp [m7,room];omega
  have hok1:∀ A k,aH k (.map (tEs v A)):=fun A k=>tM v A k
  have hok2:∀ (l:List (Option (List Int))) k,aH k (.cells (l.map mB)):=fun l k=>xL l k
  have hok3:∀ k m,aH m (.cells (nR v v.trams.length k)):=fun k m=>U3 v _ k m
  refine dY her ?_
  (repeat (first|simp only [↓QA,QB,Nat.reduceLT,reduceIte,Nat.reduceEqDiff,Nat.reduceAdd,Nat.reduceLeDiff,Nat.reduceMul,Nat.reduceBEq,d6,show ((0:Int)==0)=true from rfl,hmk,tS,←aCJ v]|refine rd0 rfl ?_))
  refine hH 3 1 [] rfl ?_
  refine bT (S:=Nat) 0 (fun k=>k≤v.trams.length) (fun k=>v.trams.length-k)
   (fun k=>[(1,.ptr 0 0),(3,.lit [] false (some 8)),(5,.ptr 5 0),(6,.ptr 7 0),(27,.lit (v.trams.map dC) false none),(28,.int .i64 v.trams.length),(29,.int .i64 k)])
   (fun k=>[.cells (aB v),.cells (aB v),.cells (aB v),.map (tEs v (qC v)),.cells (db v 0 3),.cells [.ptr 4 0],.cells (nR v v.trams.length k),.cells [.ref 6 0 v.trams.length 1],.tok 1 0 false]) (Nat.zero_le _) (by simp [aB,ints]) ?_ fun k hk=>?_
  ·try simp only [aC,QE,Nat.reduceLT,reduceIte,Nat.reduceEqDiff,Nat.reduceAdd,Nat.reduceLeDiff,Nat.reduceMul,Nat.reduceBEq,d6]
   try simp
  ·(repeat (first|simp only [↓QA,QB,Nat.reduceLT,reduceIte,Nat.reduceEqDiff,Nat.reduceAdd,Nat.reduceLeDiff,Nat.reduceMul,Nat.reduceBEq,d6,YQ]|refine rd0 rfl ?_))
   refine aG (fun hd=>?_) fun hd=>?_
   ·have hk1:k<v.trams.length:=by simpa using hd
    have hw:=bP hk1 (by omega)
    have hfr:=xF hk1
    have hto:=(wK hv hk1).frm
    obtain ⟨z,hz⟩:∃ z,v.trams[k]=z:=⟨_,rfl⟩
    rw [hz] at hfr hto
    obtain ⟨S,hS⟩:∃ S:Nat,z.frm=(S:Int):=⟨z.frm.toNat,by omega⟩
    have hst:=hv.st
    have hpw:=AW v hv S (by omega) (-1)
    have hb1:qN (-1)=[]:=rfl
    have hfs:=RV v hk1
    rw [hb1,←hS,←hfr] at hpw
    rw [hfr,hS] at hpw
    rw [hfr,hS] at hfs
    obtain ⟨Y,hY⟩:∃ Y,dQ v (S:Int) []=Y:=⟨_,rfl⟩
    rw [hY] at hpw hfs
    have iA:(0:Int)≤(k:Int)∧(k:Int)<(v.trams.length:Int)∧1=1:=⟨by omega,by omega,rfl⟩
    have hfl:=sW v v.trams.length k
    have c8:k+1≤v.trams.length:=hk1
    simp only [bJ] at hpw hfs
    (repeat (first|simp only [↓QA,QB,Nat.reduceLT,reduceIte,Nat.reduceEqDiff,Nat.reduceAdd,Nat.reduceLeDiff,Nat.reduceMul,Nat.reduceBEq,d6,hk1,hz,hS]|refine rd0 rfl ?_))
    ((first|refine aD (hpw) rfl dd ?_|refine aE (hpw) rfl dd ?_);(repeat (first|simp only [↓QA,QB,Nat.reduceLT,reduceIte,Nat.reduceEqDiff,Nat.reduceAdd,Nat.reduceLeDiff,Nat.reduceMul,Nat.reduceBEq,d6,hk1,hz,hS,iA,hfl,c8,hfs,hw]|refine rd0 rfl ?_)))
    refine ⟨k+1,by omega,by omega,?_⟩
    try simp only [aC,QE,Nat.reduceLT,reduceIte,Nat.reduceEqDiff,Nat.reduceAdd,Nat.reduceLeDiff,Nat.reduceMul,Nat.reduceBEq,d6,hw]
    try simp only [hok3,or_true,true_or,and_self,true_and]
   ·have hk1:k=v.trams.length:=by
     have:¬k<v.trams.length:=by simpa using hd
     omega
    rw [hk1,SC]
    have hwn:IntKind.i64.wrap ((v.trams.length:Int)+1)=((v.trams.length+1:Nat):Int):=by rw [eA ⟨by omega,by omega⟩];omega
    have hrep:List.replicate v.trams.length (AV.lit [] true none)=(List.replicate v.trams.length none).map mB:=by simp [mB]
    have hF0:Fnd v [] 0 v.trams.length (List.replicate v.trams.length none,qC v):=⟨by simp,by simp⟩
    (repeat (first|simp only [↓QA,QB,Nat.reduceLT,reduceIte,Nat.reduceEqDiff,Nat.reduceAdd,Nat.reduceLeDiff,Nat.reduceMul,Nat.reduceBEq,d6,hmk,tS,hrep,hwn]|refine rd0 rfl ?_))
    refine bT (S:=Nat×PS) (0,(List.replicate v.trams.length none,qC v)) (fun a=>a.1≤v.trams.length+1∧Fnd v [] 0 v.trams.length a.2∧vI v (oL v) (v.trams.length+1-a.1) a.1=W) (fun a=>v.trams.length+1-a.1)
     (fun a=>[(1,.ptr 0 0),(3,.lit [] false (some 8)),(9,.ptr 10 0),(10,.ptr 11 0),(49,.int .i64 ((v.trams.length+1:Nat):Int)),(50,.int .i64 a.1)])
     (fun a=>mvS v a.2) ⟨Nat.zero_le _,hF0,hbp.symm⟩ (by simp [mvS,jK,aB,ints]) ?_ fun a ha=>?_
    ·try simp only [aC,QE,Nat.reduceLT,reduceIte,Nat.reduceEqDiff,Nat.reduceAdd,Nat.reduceLeDiff,Nat.reduceMul,Nat.reduceBEq,d6]
     try simp [clr,clrs]
    ·obtain ⟨m,y⟩:=a
     obtain ⟨hm,hF,hq⟩:=ha
     simp only at hm hF hq
     cases hml:decide ((m:Int)<((v.trams.length+1:Nat):Int))
     ·have hm1:m=v.trams.length+1:=by
       have:¬(m:Int)<((v.trams.length+1:Nat):Int):=by simpa using hml
       omega
      rw [hm1,Nat.sub_self,vI] at hq
      have hres:=hnone hq.symm
      subst hres
      simp only [mvS,jK]
      (repeat (first|simp only [↓QA,QB,Nat.reduceLT,reduceIte,Nat.reduceEqDiff,Nat.reduceAdd,Nat.reduceLeDiff,Nat.reduceMul,Nat.reduceBEq,d6,R5,hml,mZ,bJ,List.map_nil]|refine rd0 rfl ?_))
      try try simp only [QS,QC,Nat.reduceLT,reduceIte,Nat.reduceEqDiff,Nat.reduceAdd,Nat.reduceLeDiff,Nat.reduceMul,Nat.reduceBEq,d6]
     ·have hm1:m<v.trams.length+1:=by
       have:(m:Int)<((v.trams.length+1:Nat):Int):=by simpa using hml
       omega
      have hwm:=bP hm1 (by omega)
      rw [show v.trams.length+1-m=(v.trams.length+1-(m+1))+1 by omega,vI] at hq
      have hfd:=yE v hv v.trams.length 0 m y [] (by omega) (by omega) rfl hF (fun w hw=>by cases hw)
      obtain ⟨l1,l2,l3⟩:=AB v v.trams.length 0 m y [] rfl hF
      obtain ⟨⟨Rb,Ry⟩,hRe⟩:∃ R,fnd v v.trams.length 0 m y=R:=⟨_,rfl⟩
      rw [hRe] at l1 l2 l3 hfd
      simp only at l1 l2 l3 hfd
      simp only [mvS,jK] at hfd ⊢
      try simp only [↓QA,QB,Nat.reduceLT,reduceIte,Nat.reduceEqDiff,Nat.reduceAdd,Nat.reduceLeDiff,Nat.reduceMul,Nat.reduceBEq,d6] at hfd
      have h00:((0:Nat):Int)=0:=rfl
      rw [h00] at hfd
      (repeat (first|simp only [↓QA,QB,Nat.reduceLT,reduceIte,Nat.reduceEqDiff,Nat.reduceAdd,Nat.reduceLeDiff,Nat.reduceMul,Nat.reduceBEq,d6,R5,hml]|refine rd0 rfl ?_))
      refine dY hfd ?_
      cases hdf:dfs v (oL v) v.trams.length [] m with
      |none =>
       rw [hdf] at l1 hq
       simp only [Option.isSome_none] at l1 hq
       subst l1
       (repeat (first|simp only [↓QA,QB,Nat.reduceLT,reduceIte,Nat.reduceEqDiff,Nat.reduceAdd,Nat.reduceLeDiff,Nat.reduceMul,Nat.reduceBEq,d6,hwm]|refine rd0 rfl ?_))
       refine ⟨(m+1,Ry),⟨by simp only;omega,l3,hq⟩,by simp only;omega,?_⟩
       try simp only [aC,QE,Nat.reduceLT,reduceIte,Nat.reduceEqDiff,Nat.reduceAdd,Nat.reduceLeDiff,Nat.reduceMul,Nat.reduceBEq,d6,hwm]
       try simp only [hok1,hok2,or_true,true_or,and_self,true_and]
      |some P =>
       rw [hdf] at l1 hq
       have l2:=l2 P hdf
       simp only [Option.isSome_some] at l1 hq
       subst l1
       have hres:=hsome P hq.symm
       subst hres
       obtain ⟨Rl,RA⟩:=Ry
       simp only at l2 l3
       subst l2
       have hPl:P.length=v.trams.length:=by have:=l3.len;simpa using this
       have hPin:∀ w∈P,w.length≤4:=fun w hw=>by
        have h1:=hdf
        rw [CX,←xS] at h1
        exact (F5q (List.mem_of_find?_eq_some h1)).few w hw
       obtain ⟨A,hA⟩:∃ A,gT v P=A:=⟨_,rfl⟩
       have hA':[]++(aR ((0:Nat):Int) ((v.trams.length:Int)-((0:Nat):Int)).toNat).filter (HK v P)=A:=by rw [←hA,gT,hPl];simp;rfl
       rw [hA,CK]
       (repeat (first|simp only [↓QA,QB,Nat.reduceLT,reduceIte,Nat.reduceEqDiff,Nat.reduceAdd,Nat.reduceLeDiff,Nat.reduceMul,Nat.reduceBEq,d6,hPl]|refine rd0 rfl ?_))
       refine bT (S:=Nat×List Int×Bool) (0,[],false) (fun a=>a.1≤v.trams.length∧a.2.1++(aR (a.1:Int) ((v.trams.length:Int)-a.1).toNat).filter (HK v P)=A∧a.2.1.length≤a.1) (fun a=>v.trams.length-a.1)
        (fun a=>[(1,.ptr 0 0),(3,.lit (a.2.1.map (.int .i64)) false (some 8)),(9,.ptr 10 0),(57,.ref 9 0 v.trams.length 1),(58,.int .i64 v.trams.length),(59,.int .i64 a.1)])
        (fun a=>[.cells (aB v),.cells (aB v),.cells (aB v),.map (tEs v RA),.cells (db v 0 3),.cells [.ptr 4 0],.cells (qM v v.trams.length),.cells [.ref 6 0 v.trams.length 1],.tok 1 a.2.1.length a.2.2,.cells (P.map ints),.cells [.ref 9 0 v.trams.length 1],.cells [QX]]) ⟨Nat.zero_le _,hA',by simp⟩ (by simp [aB,ints,jK]) ?_ fun a ha=>?_
       ·try simp only [aC,QE,Nat.reduceLT,reduceIte,Nat.reduceEqDiff,Nat.reduceAdd,Nat.reduceLeDiff,Nat.reduceMul,Nat.reduceBEq,d6,mR (show 9<12 by omega)]
        try simp
       ·obtain ⟨t,acc,ex⟩:=a
        obtain ⟨ht,hacc,hal⟩:=ha
        simp only at ht hacc hal
        (repeat (first|simp only [↓QA,QB,Nat.reduceLT,reduceIte,Nat.reduceEqDiff,Nat.reduceAdd,Nat.reduceLeDiff,Nat.reduceMul,Nat.reduceBEq,d6,Y6]|refine rd0 rfl ?_))
        refine aG (fun hd=>?_) fun hd=>?_
        ·have ht1:t<v.trams.length:=by simpa using hd
         have hw:=bP ht1 (by omega)
         have htp:t<P.length:=by omega
         rw [lE ht1] at hacc
         have hmv:HK v P (t:Int) = !decide (P[t]=v.trams[t].path):=by rw [HK,Int.toNat_natCast,FH htp,FX ht1]
         have hpl:=hPin _ (List.getElem_mem htp)
         have htl:=(wK hv ht1).len
         obtain ⟨z,hz⟩:∃ z,v.trams[t]=z:=⟨_,rfl⟩
         obtain ⟨p,hpe⟩:∃ p,P[t]=p:=⟨_,rfl⟩
         rw [hz,hpe] at hmv
         rw [hz] at htl
         rw [hpe] at hpl
         have iA:(0:Int)≤(t:Int)∧(t:Int)<(v.trams.length:Int)∧1=1:=⟨by omega,by omega,rfl⟩
         have heq:=HS p z.path (by omega) (by omega)
         simp only [qE] at heq
         have hap:=fun (b0 b1 b2 b3 b4 b5 b6 b7:ABlk) (τ:St)=>iU (σ:=b0::b1::b2::b3::b4::b5::b6::b7::.tok 1 acc.length ex::τ) (l:=acc) (a:=(t:Int)) (ex:=ex) (t:=8) (by omega) rfl
         (repeat (first|simp only [↓QA,QB,Nat.reduceLT,reduceIte,Nat.reduceEqDiff,Nat.reduceAdd,Nat.reduceLeDiff,Nat.reduceMul,Nat.reduceBEq,d6,iA,htp,hpe,ht1,hz,qE]|refine rd0 rfl ?_))
         ((first|refine aD (heq) rfl dd ?_|refine aE (heq) rfl dd ?_);(repeat (first|simp only [↓QA,QB,Nat.reduceLT,reduceIte,Nat.reduceEqDiff,Nat.reduceAdd,Nat.reduceLeDiff,Nat.reduceMul,Nat.reduceBEq,d6,iA,htp,hpe,ht1,hz,qE]|refine rd0 rfl ?_)))
         cases q:decide (p=z.path)
         ·rw [hmv,q] at hacc
          simp only [Bool.not_false,j5]
          (repeat (first|simp only [↓QA,QB,Nat.reduceLT,reduceIte,Nat.reduceEqDiff,Nat.reduceAdd,Nat.reduceLeDiff,Nat.reduceMul,Nat.reduceBEq,d6,hap,hw]|refine rd0 rfl ?_))
          refine ⟨(t+1,acc++[(t:Int)],true),⟨by simp only;omega,by simpa using hacc,by simp;omega⟩,by simp only;omega,?_⟩
          try simp only [aC,QE,Nat.reduceLT,reduceIte,Nat.reduceEqDiff,Nat.reduceAdd,Nat.reduceLeDiff,Nat.reduceMul,Nat.reduceBEq,d6,hw,kG,mR (show 9<12 by omega),List.map_append,List.map_cons,List.map_nil]
          try simp [aH]
         ·rw [hmv,q] at hacc
          simp only [Bool.not_true,jO]
          (repeat (first|simp only [↓QA,QB,Nat.reduceLT,reduceIte,Nat.reduceEqDiff,Nat.reduceAdd,Nat.reduceLeDiff,Nat.reduceMul,Nat.reduceBEq,d6,hw]|refine rd0 rfl ?_))
          refine ⟨(t+1,acc,ex),⟨by simp only;omega,by simpa using hacc,by simp only;omega⟩,by simp only;omega,?_⟩
          try simp only [aC,QE,Nat.reduceLT,reduceIte,Nat.reduceEqDiff,Nat.reduceAdd,Nat.reduceLeDiff,Nat.reduceMul,Nat.reduceBEq,d6,hw,kG,mR (show 9<12 by omega)]
          try simp [aH]
        ·have ht1:t=v.trams.length:=by
          have:¬t<v.trams.length:=by simpa using hd
          omega
         rw [xB ht1,List.append_nil] at hacc
         subst hacc
         have hsr:=fun (b0 b1 b2 b3 b4 b5 b6 b7 b8:ABlk) (τ:St)=>aBQ (σ:=b0::b1::b2::b3::b4::b5::b6::b7::b8::.cells (P.map ints)::τ) (m:=0) (id:=9) (n:=v.trams.length) (l:=P) (by omega) hPl.symm rfl
         (repeat (first|simp only [↓QA,QB,Nat.reduceLT,reduceIte,Nat.reduceEqDiff,Nat.reduceAdd,Nat.reduceLeDiff,Nat.reduceMul,Nat.reduceBEq,d6,mZ,bJ,qE]|refine rd0 rfl ?_))
         try try simp only [QS,QC,Nat.reduceLT,reduceIte,Nat.reduceEqDiff,Nat.reduceAdd,Nat.reduceLeDiff,Nat.reduceMul,Nat.reduceBEq,d6,hsr]
 ·have h0':(dB v==0)=false:=by simpa using h0
  have her:=CL [.cells (aB v)] v [] (.inl rfl) hf (by rw [m5];exact h0)
  rw [m5] at her
  have hm:fO v=([],[],dB v):=by rw [fO,if_neg h0]
  rw [hm]
  simp only [List.map_nil] at her
  simp only [aK] at her
  refine dY her ?_
  (repeat (first|simp only [↓QA,QB,Nat.reduceLT,reduceIte,Nat.reduceEqDiff,Nat.reduceAdd,Nat.reduceLeDiff,Nat.reduceMul,Nat.reduceBEq,d6,h0',mZ,bJ,List.map_nil]|refine rd0 rfl ?_))
  try rfl
end Go.Am.Room
set_option maxRecDepth 8000
namespace Go.Am.Room
def pC:=And.intro @bK (And.intro @aK (And.intro @aZ (And.intro @aX (And.intro @aY (And.intro @aT (And.intro @bI (And.intro @bF (And.intro @bE (And.intro @dP (And.intro @dA (And.intro @Nat.not_lt_zero (And.intro @List.length_append.{0} (And.intro @Nat.zero_add (And.intro @Nat.mul_one (And.intro @Int.toNat_natCast (And.intro @eM (And.intro @fX (And.intro @fZ (And.intro @kT (And.intro @fM (And.intro @Nat.add_lt_add_iff_left (And.intro @Nat.lt_add_right_iff_pos (And.intro @pG (@pE))))))))))))))))))))))))
def tQ (x:B64):St:=[.cells [.int .i64 (x.1.1:Nat)],.cells [.int .i64 (x.1.2:Nat)]]
theorem M3 {v:Net} (hv:Vd v) (c:List Int) (x:B64) (B:List K5) (lp:ABlk) (τ:St) (e:Env) (G:Option AJump→St→Prop)
  (e1:Env.get e 1 = .ptr 0 0) (e6:Env.get e 6 = .ptr 5 0) (e7:Env.get e 7 = .ptr 6 0) (e8:Env.get e 8 = .ptr (τ.length+9) 0) (R:B64×Bool) (hRr:pJ jS v.rails.length c x=R) :
  wp T O8 e (mF [.cells (aB v)] v B++(tQ x++(.cells [.ptr 4 0]::lp::(τ++[.cells (bX 5 (rl c))])))) (fun j e'' σ''=>(R.2=true∧j=none∧∃ τ',σ''=mF [.cells (aB v)] v B++(tQ R.1++(.cells [.ptr 4 0]::lp::(τ++τ'))))∨G j σ''):=by
 have hnt:=hv.nra
 have hR1:R.1.1=eK (jS c) v.rails.length x.1:=by rw [←hRr,yA jS (by omega)]
 have hR2:R.2=true:=by rw [←hRr];exact AQ _ _ _ _
 have hlt:=fun k hk=>qK (jS c) (n:=6) x.2 k hk
 have hta:∀ (b0 b1 b2 b3 b4 b5 b6 b7 b8:ABlk),aM (b0::b1::b2::b3::b4::b5::b6::b7::b8::(τ++[.cells (bX 5 (rl c))])) (τ.length+9)=some (bX 5 (rl c)):=fun b0 b1 b2 b3 b4 b5 b6 b7 b8=>by
  simp only [sJ]
  rw [jZ];rfl
 simp only [tQ,hR1,mF,aK]
 (repeat (first|simp only [↓QA,QB,Nat.reduceLT,reduceIte,Nat.reduceEqDiff,Nat.reduceAdd,Nat.reduceLeDiff,Nat.reduceMul,Nat.reduceBEq,pC,O8,e1]|refine rd0 rfl ?_))
 refine bT (S:=Nat) 0 (fun k=>k≤v.rails.length) (fun k=>v.rails.length-k)
  (fun k=>[(1,.ptr 0 0),(6,.ptr 5 0),(7,.ptr 6 0),(8,.ptr (τ.length+9) 0),(29,.int .i64 v.rails.length),(30,.int .i64 k)])
  (fun k=>mF [.cells (aB v)] v B++(.cells [.int .i64 ((eK (jS c) k x.1).1:Nat)]::.cells [.int .i64 ((eK (jS c) k x.1).2:Nat)]::.cells [.ptr 4 0]::lp::(τ++[.cells (bX 5 (rl c))]))) (Nat.zero_le _) (by simp [mF,aB,eK]) ?_ fun k hk=>?_
 ·try simp only [aC,QE,Nat.reduceLT,reduceIte,Nat.reduceEqDiff,Nat.reduceAdd,Nat.reduceLeDiff,Nat.reduceMul,Nat.reduceBEq,pC,e1,e6,e7,e8]
  try simp
 ·(repeat (first|simp only [↓QA,QB,Nat.reduceLT,reduceIte,Nat.reduceEqDiff,Nat.reduceAdd,Nat.reduceLeDiff,Nat.reduceMul,Nat.reduceBEq,pC,XJ,mF]|refine rd0 rfl ?_))
  refine aG (fun hd=>?_) fun hd=>?_
  ·have hk1:k<v.rails.length:=by simpa using hd
   have hw:=bP hk1 (by omega)
   have hst:eK (jS c) (k+1) x.1=if jS c k=true then (C2 (eK (jS c) k x.1).1 (2^k),(eK (jS c) k x.1).2) else ((eK (jS c) k x.1).1,(eK (jS c) k x.1).2|||2^k):=rfl
   obtain ⟨l1,l2⟩:=hlt k (by omega)
   obtain ⟨⟨Y1,Y2⟩,hY⟩:∃ Y,eK (jS c) k x.1=Y:=⟨_,rfl⟩
   rw [hY] at hst l1 l2
   simp only at hst l1 l2
   have hp2:=kX (show k≤60 by omega)
   have hsh:=vU k (by omega)
   have hor:=aAN Y2 (2^k) (by omega) (by omega)
   have han:=IN Y1 (2^k) (by omega) (by omega)
   have i3:(0:Int)≤(k:Int)∧(k:Int)<((5:Nat):Int):=⟨by omega,by omega⟩
   have hg:=i7 5 (rl c) (i:=k) (by omega)
   have hop:jS c k = !(rl c k==0):=rfl
   rw [hY]
   cases hf:(rl c k==0)
   ·rw [hop,hf] at hst
    simp only [Bool.not_false,if_true] at hst
    (repeat (first|simp only [↓QA,QB,Nat.reduceLT,reduceIte,Nat.reduceEqDiff,Nat.reduceAdd,Nat.reduceLeDiff,Nat.reduceMul,Nat.reduceBEq,pC,hta,i3,hg,hsh,han,hf]|refine rd0 rfl ?_))
    refine ⟨k+1,by omega,by omega,?_⟩
    rw [hst]
    try simp only [aC,QE,Nat.reduceLT,reduceIte,Nat.reduceEqDiff,Nat.reduceAdd,Nat.reduceLeDiff,Nat.reduceMul,Nat.reduceBEq,pC,hw]
    try simp [aH,okVs,okV]
    try omega
   ·rw [hop,hf] at hst
    simp only [Bool.not_true,Bool.false_eq_true,if_false] at hst
    (repeat (first|simp only [↓QA,QB,Nat.reduceLT,reduceIte,Nat.reduceEqDiff,Nat.reduceAdd,Nat.reduceLeDiff,Nat.reduceMul,Nat.reduceBEq,pC,hta,i3,hg,hsh,hor,hf]|refine rd0 rfl ?_))
    refine ⟨k+1,by omega,by omega,?_⟩
    rw [hst]
    try simp only [aC,QE,Nat.reduceLT,reduceIte,Nat.reduceEqDiff,Nat.reduceAdd,Nat.reduceLeDiff,Nat.reduceMul,Nat.reduceBEq,pC,hw]
    try simp [aH,okVs,okV]
    try omega
  ·have hk1:k=v.rails.length:=by
    have:¬k<v.rails.length:=by simpa using hd
    omega
   rw [hk1]
   (repeat (first|simp only [↓QA,QB,Nat.reduceLT,reduceIte,Nat.reduceEqDiff,Nat.reduceAdd,Nat.reduceLeDiff,Nat.reduceMul,Nat.reduceBEq,pC]|refine rd0 rfl ?_))
   exact .inl ⟨hR2,[.cells (bX 5 (rl c))],rfl⟩
end Go.Am.Room
set_option maxRecDepth 8000
namespace Go.Am.Room
def mW:=And.intro @bK (And.intro @aK (And.intro @aZ (And.intro @aX (And.intro @aY (And.intro @aT (And.intro @bI (And.intro @bF (And.intro @bE (And.intro @dP (And.intro @dA (And.intro @Nat.not_lt_zero (And.intro @List.length_append.{0} (And.intro @Nat.zero_add (And.intro @Nat.mul_one (And.intro @Int.toNat_natCast (And.intro @eM (And.intro @fX (And.intro @fZ (And.intro @kT (And.intro @fM (And.intro @Nat.add_lt_add_iff_left (And.intro @Nat.lt_add_right_iff_pos (And.intro @pG (@pE))))))))))))))))))))))))
theorem v7 (v:Net) (hf:Fits v):dL T 32 [bM v] (jH (gX v)):=by
 refine aU (af:=a32) rfl (by simp [a32]) dd ?_
 (repeat (first|simp only [↓QA,QB,Nat.reduceLT,reduceIte,Nat.reduceEqDiff,Nat.reduceAdd,Nat.reduceLeDiff,Nat.reduceMul,Nat.reduceBEq,mW,a32]|refine rd0 rfl ?_))
 by_cases h0:dB v=0
 ·obtain ⟨hv,hne⟩:=j4 h0
  have hnt:=hv.nra
  have h6:v.rails.length≤6:=by omega
  obtain ⟨hl1,hl2⟩:=Q8 hv h6
  have hit:=D8 jS v.rails.length (TL v []) (mH _ h6)
  obtain ⟨⟨⟨P,Q⟩,hPQ⟩,hY⟩:∃ Y,nP jS v.rails.length (TL v []) (mH _ h6)=Y:=⟨_,rfl⟩
  rw [hY] at hl1 hl2 hit
  simp only at hl1 hl2 hPQ
  have hm:gX v=(lst v.rails.length P,lst v.rails.length Q,0):=by rw [gX,if_pos h0,hl1,hl2]
  have hlo1:=uH P v.rails.length (by omega) (by omega)
  have hlo2:=uH Q v.rails.length (by omega) (by omega)
  have hsh:=vU v.rails.length (by omega)
  have hp2:=kX (show v.rails.length≤60 by omega)
  have hw:IntKind.i64.wrap (((2^v.rails.length:Nat):Int)-1)=((2^v.rails.length-1:Nat):Int):=by
   have:=Nat.two_pow_pos v.rails.length
   rw [eA ⟨by omega,by omega⟩];omega
  have hok:∀ (x:B64) (y:ABlk),y∈tQ x→∀ k,5≤k→aH k y:=by
   intro x y hy k hk
   simp only [tQ,List.mem_cons,List.not_mem_nil,or_false] at hy
   rcases hy with rfl|rfl<;>simp [aH,okVs,okV]
  have hR:=B5 [.cells (aB v)] v
  have hrng:=nV hR hv ML tQ tQ 2 (fun _=>rfl) (fun _=>rfl) hok hok .ret (f:=pJ jS v.rails.length)
  have her:=fun σ=>yD σ v [] (.inl rfl) hf (by rw [m5];exact h0)
  simp only [List.map_nil] at her
  rw [hm]
  simp only [mF] at hrng her
  simp only [aK] at hrng her
  refine dY (her _) ?_
  (repeat (first|simp only [↓QA,QB,Nat.reduceLT,reduceIte,Nat.reduceEqDiff,Nat.reduceAdd,Nat.reduceLeDiff,Nat.reduceMul,Nat.reduceBEq,mW,show ((0:Int)==0)=true from rfl,hsh,hw]|refine rd0 rfl ?_))
  refine sP rfl (by simp [a80]) ?_
  (repeat (first|simp only [↓QA,QB,Nat.reduceLT,reduceIte,Nat.reduceEqDiff,Nat.reduceAdd,Nat.reduceLeDiff,Nat.reduceMul,Nat.reduceBEq,mW,a80]|refine rd0 rfl ?_))
  refine hrng _ 24 [25,26] _ _ ?_ ?_ (mH _ h6) (qC v) _ ?_ ?_
  ·try simp only [aC,QE,Nat.reduceLT,reduceIte,Nat.reduceEqDiff,Nat.reduceAdd,Nat.reduceLeDiff,Nat.reduceMul,Nat.reduceBEq,mW]
  ·refine pH (S:=fun _=>mF [.cells (aB v)] v) (fun _=>hR) tQ tQ 2 (fun _=>rfl) (fun _=>rfl) .ret _ _ (qO v) (fun _ _ _=>rfl) _ _ ?_
   intro c _ fl tk x B τ
   simp only [lJ,qO]
   obtain ⟨R,hRr⟩:∃ R,pJ jS v.rails.length c x=R:=⟨_,rfl⟩
   rw [hRr]
   have lb:=fun lp e G=>M3 hv c x B lp τ e G
   simp only [tQ,mF,aK] at lb ⊢
   (repeat (first|simp only [↓QA,QB,Nat.reduceLT,reduceIte,Nat.reduceEqDiff,Nat.reduceAdd,Nat.reduceLeDiff,Nat.reduceMul,Nat.reduceBEq,mW]|refine rd0 rfl ?_))
   refine ⟨[.cells (bX 5 (rl c))],by simp,?_⟩
   refine lb _ _ _ ?_ ?_ ?_ ?_ R hRr
   all_goals try simp only [aC,QE,Nat.reduceLT,reduceIte,Nat.reduceEqDiff,Nat.reduceAdd,Nat.reduceLeDiff,Nat.reduceMul,Nat.reduceBEq,mW]
  ·intro τ h2
   rw [hit]
   simp only [tQ]
   (repeat (first|simp only [↓QA,QB,Nat.reduceLT,reduceIte,Nat.reduceEqDiff,Nat.reduceAdd,Nat.reduceLeDiff,Nat.reduceMul,Nat.reduceBEq,mW]|refine rd0 rfl ?_))
   ((first|refine aD (hlo1) rfl dd ?_|refine aE (hlo1) rfl dd ?_);(repeat (first|simp only [↓QA,QB,Nat.reduceLT,reduceIte,Nat.reduceEqDiff,Nat.reduceAdd,Nat.reduceLeDiff,Nat.reduceMul,Nat.reduceBEq,mW]|refine rd0 rfl ?_)))
   ((first|refine aD (hlo2) rfl dd ?_|refine aE (hlo2) rfl dd ?_);(repeat (first|simp only [↓QA,QB,Nat.reduceLT,reduceIte,Nat.reduceEqDiff,Nat.reduceAdd,Nat.reduceLeDiff,Nat.reduceMul,Nat.reduceBEq,mW,jH]|refine rd0 rfl ?_)))
  ·intro τ h2
   rw [hit] at h2
   cases h2
 ·have her:=fun σ=>CL σ v [] (.inl rfl) hf (by rw [m5];exact h0)
  simp only [List.map_nil,m5] at her
  have h0':(dB v==0)=false:=by simpa using h0
  have hm:gX v=([],[],dB v):=by rw [gX,if_neg h0]
  rw [hm]
  refine dY (her _) ?_
  (repeat (first|simp only [↓QA,QB,Nat.reduceLT,reduceIte,Nat.reduceEqDiff,Nat.reduceAdd,Nat.reduceLeDiff,Nat.reduceMul,Nat.reduceBEq,mW,h0',jH]|refine rd0 rfl ?_))
  try rfl
end Go.Am.Room
set_option maxRecDepth 8000
namespace Go.Am.Room
def d9:=And.intro @bK (And.intro @aK (And.intro @aZ (And.intro @aX (And.intro @aY (And.intro @aT (And.intro @bI (And.intro @bF (And.intro @bE (And.intro @dP (And.intro @dA (And.intro @Nat.not_lt_zero (And.intro @List.length_append.{0} (And.intro @Nat.zero_add (And.intro @Nat.mul_one (@Int.toNat_natCast)))))))))))))))
theorem tX (v:Net) (hf:Fits v):dL T 34 [bM v] (oN (lK v)):=by
 refine aU (af:=a34) rfl (by simp [a34]) dd ?_
 (repeat (first|simp only [↓QA,QB,Nat.reduceLT,reduceIte,Nat.reduceEqDiff,Nat.reduceAdd,Nat.reduceLeDiff,Nat.reduceMul,Nat.reduceBEq,d9,a34]|refine rd0 rfl ?_))
 ((first|refine aD (kL v hf) rfl dd ?_|refine aE (kL v hf) rfl dd ?_);(repeat (first|simp only [↓QA,QB,Nat.reduceLT,reduceIte,Nat.reduceEqDiff,Nat.reduceAdd,Nat.reduceLeDiff,Nat.reduceMul,Nat.reduceBEq,d9,mE]|refine rd0 rfl ?_)))
 cases h0:((bY v).2.2==0)
 ·have h0':(bY v).2.2≠0:=by simpa using h0
  have hr:lK v=(0,0,(bY v).2.2):=by rw [lK,if_neg h0']
  rw [hr]
  (repeat (first|simp only [↓QA,QB,Nat.reduceLT,reduceIte,Nat.reduceEqDiff,Nat.reduceAdd,Nat.reduceLeDiff,Nat.reduceMul,Nat.reduceBEq,d9,h0,oN]|refine rd0 rfl ?_))
  try rfl
 ·have h0':(bY v).2.2=0:=by simpa using h0
  have hv:=dI h0'
  have hnr:=hv.nra
  have hnt:=hv.ntr
  obtain ⟨R,hR⟩:∃ R,rE v=R:=⟨_,rfl⟩
  have hr:lK v=if R.1<0 then (0,0,9) else (R.1,R.2,0):=by rw [lK,if_pos h0',hR]
  have hR':oZ v (aR ((0:Nat):Int) ((v.rails.length:Int)-((0:Nat):Int)).toNat) (-1,0)=R:=by rw [←hR,rE];simp
  rw [hr]
  (repeat (first|simp only [↓QA,QB,Nat.reduceLT,reduceIte,Nat.reduceEqDiff,Nat.reduceAdd,Nat.reduceLeDiff,Nat.reduceMul,Nat.reduceBEq,d9,h0]|refine rd0 rfl ?_))
  refine bT (S:=Nat×Int×Int) (0,-1,0) (fun a=>a.1≤v.rails.length∧oZ v (aR (a.1:Int) ((v.rails.length:Int)-a.1).toNat) a.2=R) (fun a=>v.rails.length-a.1)
   (fun a=>[(1,.ptr 0 0),(2,.int .i64 a.2.1),(3,.int .i64 a.2.2),(4,.int .i64 (bY v).2.2),(20,.lit (v.rails.map eH) false none),(21,.int .i64 v.rails.length),(22,.int .i64 a.1)]) (fun _=>[.cells (aB v)]) ⟨Nat.zero_le _,hR'⟩ (by simp [aB,ints]) ?_ fun a ha=>?_
  ·try simp only [aC,QE,Nat.reduceLT,reduceIte,Nat.reduceEqDiff,Nat.reduceAdd,Nat.reduceLeDiff,Nat.reduceMul,Nat.reduceBEq,d9]
   try simp
  ·obtain ⟨k,b,c⟩:=a
   obtain ⟨hk,hq⟩:=ha
   simp only at hk hq
   (repeat (first|simp only [↓QA,QB,Nat.reduceLT,reduceIte,Nat.reduceEqDiff,Nat.reduceAdd,Nat.reduceLeDiff,Nat.reduceMul,Nat.reduceBEq,d9,XI]|refine rd0 rfl ?_))
   refine aG (fun h2=>?_) fun h2=>?_
   ·have hk1:k<v.rails.length:=by simpa using h2
    have hw:=bP hk1 (by omega)
    rw [zO hk1] at hq
    obtain ⟨z,hz⟩:∃ z,v.rails[k]=z:=⟨_,rfl⟩
    rw [hz] at hq
    obtain ⟨C,hC⟩:∃ C,tF v k=C:=⟨_,rfl⟩
    rw [hC] at hq
    (repeat (first|simp only [↓QA,QB,Nat.reduceLT,reduceIte,Nat.reduceEqDiff,Nat.reduceAdd,Nat.reduceLeDiff,Nat.reduceMul,Nat.reduceBEq,d9,hk1,hz]|refine rd0 rfl ?_))
    cases q1:(z.shut==1)
    ·have q1':z.shut≠1:=by simpa using q1
     rw [if_neg q1'] at hq
     (repeat (first|simp only [↓QA,QB,Nat.reduceLT,reduceIte,Nat.reduceEqDiff,Nat.reduceAdd,Nat.reduceLeDiff,Nat.reduceMul,Nat.reduceBEq,d9,q1]|refine rd0 rfl ?_))
     refine bT (S:=Nat) 0 (fun j=>j≤v.trams.length) (fun j=>v.trams.length-j)
      (fun j=>[(1,.ptr 0 0),(2,.int .i64 b),(3,.int .i64 c),(4,.int .i64 (bY v).2.2),(5,.int .i64 k),(7,.int .i64 (pF v k j:Nat)),(20,.lit (v.rails.map eH) false none),(21,.int .i64 v.rails.length),(22,.int .i64 k),(31,.lit (v.trams.map dC) false none),(32,.int .i64 v.trams.length),(33,.int .i64 j)]) (fun _=>[.cells (aB v),.cells (eH z).cells]) (Nat.zero_le _) (by simp [aB,ints,pF,eH,AV.cells]) ?_ fun j hj=>?_
     ·try simp only [aC,QE,Nat.reduceLT,reduceIte,Nat.reduceEqDiff,Nat.reduceAdd,Nat.reduceLeDiff,Nat.reduceMul,Nat.reduceBEq,d9,pF]
      try simp
     ·(repeat (first|simp only [↓QA,QB,Nat.reduceLT,reduceIte,Nat.reduceEqDiff,Nat.reduceAdd,Nat.reduceLeDiff,Nat.reduceMul,Nat.reduceBEq,d9,YU]|refine rd0 rfl ?_))
      refine aG (fun h3=>?_) fun h3=>?_
      ·have hj1:j<v.trams.length:=by simpa using h3
       have hwj:=bP hj1 (by omega)
       have hcl:=GH v k j
       have hs:=B4 v k j
       have hwc:=bP (show pF v k j<v.trams.length by omega) (by omega)
       have hwt:=(wK hv hj1).frm
       have hst:=hv.st
       rw [xF hj1] at hs
       obtain ⟨y,hy⟩:∃ y,v.trams[j]=y:=⟨_,rfl⟩
       rw [hy] at hs hwt
       obtain ⟨f,hf1,hf2⟩:∃ f:Nat,y.frm=f∧f<5:=⟨y.frm.toNat,by omega,by omega⟩
       rw [hf1] at hs
       have hpw:=AW v hv f hf2 k
       rw [show qN (k:Int)=[(k:Int)] by rw [qN,if_neg (by omega)]] at hpw
       obtain ⟨W,hW⟩:∃ W,dQ v f [(k:Int)]=W:=⟨_,rfl⟩
       rw [hW] at hpw hs
       have hwe:(((W.length:Nat):Int)==0)=W.isEmpty:=by cases W<;>simp<;>omega
       (repeat (first|simp only [↓QA,QB,Nat.reduceLT,reduceIte,Nat.reduceEqDiff,Nat.reduceAdd,Nat.reduceLeDiff,Nat.reduceMul,Nat.reduceBEq,d9,hj1,hy,hf1]|refine rd0 rfl ?_))
       ((first|refine aD (hpw) rfl dd ?_|refine aE (hpw) rfl dd ?_);(repeat (first|simp only [↓QA,QB,Nat.reduceLT,reduceIte,Nat.reduceEqDiff,Nat.reduceAdd,Nat.reduceLeDiff,Nat.reduceMul,Nat.reduceBEq,d9,bJ,hwe]|refine rd0 rfl ?_)))
       cases hse:W.isEmpty
       ·rw [hse] at hs
        simp only [Bool.false_eq_true,if_false,Nat.add_zero] at hs
        (repeat (first|simp only [↓QA,QB,Nat.reduceLT,reduceIte,Nat.reduceEqDiff,Nat.reduceAdd,Nat.reduceLeDiff,Nat.reduceMul,Nat.reduceBEq,d9,hwj]|refine rd0 rfl ?_))
        refine ⟨j+1,by omega,by omega,?_⟩
        rw [hs]
        try simp only [aC,QE,Nat.reduceLT,reduceIte,Nat.reduceEqDiff,Nat.reduceAdd,Nat.reduceLeDiff,Nat.reduceMul,Nat.reduceBEq,d9,hwj]
        try simp [aH]
       ·rw [hse] at hs
        simp only [if_true] at hs
        (repeat (first|simp only [↓QA,QB,Nat.reduceLT,reduceIte,Nat.reduceEqDiff,Nat.reduceAdd,Nat.reduceLeDiff,Nat.reduceMul,Nat.reduceBEq,d9,hwj,hwc]|refine rd0 rfl ?_))
        refine ⟨j+1,by omega,by omega,?_⟩
        rw [hs]
        try simp only [aC,QE,Nat.reduceLT,reduceIte,Nat.reduceEqDiff,Nat.reduceAdd,Nat.reduceLeDiff,Nat.reduceMul,Nat.reduceBEq,d9,hwj,hwc]
        try simp [aH]
      ·have hj1:j=v.trams.length:=by
        have:¬j<v.trams.length:=by simpa using h3
        omega
       rw [hj1]
       have hCC:((pF v k v.trams.length:Nat):Int)=C:=by rw [←hC];rfl
       rw [hCC]
       (repeat (first|simp only [↓QA,QB,Nat.reduceLT,reduceIte,Nat.reduceEqDiff,Nat.reduceAdd,Nat.reduceLeDiff,Nat.reduceMul,Nat.reduceBEq,d9]|refine rd0 rfl ?_))
       cases q2:decide (b<0)
       ·have q2':¬b<0:=by simpa using q2
        cases q3:decide (c<C)
        ·have q3':¬c<C:=by simpa using q3
         rw [if_neg (by simp only;omega)] at hq
         (repeat (first|simp only [↓QA,QB,Nat.reduceLT,reduceIte,Nat.reduceEqDiff,Nat.reduceAdd,Nat.reduceLeDiff,Nat.reduceMul,Nat.reduceBEq,d9,q2,q3,hw]|refine rd0 rfl ?_))
         refine ⟨(k+1,b,c),⟨by simp only;omega,hq⟩,by simp only;omega,?_⟩
         try simp only [aC,QE,Nat.reduceLT,reduceIte,Nat.reduceEqDiff,Nat.reduceAdd,Nat.reduceLeDiff,Nat.reduceMul,Nat.reduceBEq,d9,hw]
         try simp [aH]
        ·have q3':c<C:=by simpa using q3
         rw [if_pos (.inr q3')] at hq
         (repeat (first|simp only [↓QA,QB,Nat.reduceLT,reduceIte,Nat.reduceEqDiff,Nat.reduceAdd,Nat.reduceLeDiff,Nat.reduceMul,Nat.reduceBEq,d9,q2,q3,hw]|refine rd0 rfl ?_))
         refine ⟨(k+1,(k:Int),C),⟨by simp only;omega,hq⟩,by simp only;omega,?_⟩
         try simp only [aC,QE,Nat.reduceLT,reduceIte,Nat.reduceEqDiff,Nat.reduceAdd,Nat.reduceLeDiff,Nat.reduceMul,Nat.reduceBEq,d9,hw]
         try simp [aH]
       ·have q2':b<0:=by simpa using q2
        rw [if_pos (.inl q2')] at hq
        (repeat (first|simp only [↓QA,QB,Nat.reduceLT,reduceIte,Nat.reduceEqDiff,Nat.reduceAdd,Nat.reduceLeDiff,Nat.reduceMul,Nat.reduceBEq,d9,q2,hw]|refine rd0 rfl ?_))
        refine ⟨(k+1,(k:Int),C),⟨by simp only;omega,hq⟩,by simp only;omega,?_⟩
        try simp only [aC,QE,Nat.reduceLT,reduceIte,Nat.reduceEqDiff,Nat.reduceAdd,Nat.reduceLeDiff,Nat.reduceMul,Nat.reduceBEq,d9,hw]
        try simp [aH]
    ·have q1':z.shut=1:=by simpa using q1
     rw [if_pos q1'] at hq
     (repeat (first|simp only [↓QA,QB,Nat.reduceLT,reduceIte,Nat.reduceEqDiff,Nat.reduceAdd,Nat.reduceLeDiff,Nat.reduceMul,Nat.reduceBEq,d9,q1,hw]|refine rd0 rfl ?_))
     refine ⟨(k+1,b,c),⟨by simp only;omega,hq⟩,by simp only;omega,?_⟩
     try simp only [aC,QE,Nat.reduceLT,reduceIte,Nat.reduceEqDiff,Nat.reduceAdd,Nat.reduceLeDiff,Nat.reduceMul,Nat.reduceBEq,d9,hw]
     try simp [aH]
   ·have hk1:k=v.rails.length:=by
     have:¬k<v.rails.length:=by simpa using h2
     omega
    rw [jY (by omega),oZ] at hq
    subst hq
    cases q:decide (b<0)
    ·have q':¬b<0:=by simpa using q
     rw [if_neg (by simpa using q')]
     (repeat (first|simp only [↓QA,QB,Nat.reduceLT,reduceIte,Nat.reduceEqDiff,Nat.reduceAdd,Nat.reduceLeDiff,Nat.reduceMul,Nat.reduceBEq,d9,q,oN]|refine rd0 rfl ?_))
     try rfl
    ·have q':b<0:=by simpa using q
     rw [if_pos (by simpa using q')]
     (repeat (first|simp only [↓QA,QB,Nat.reduceLT,reduceIte,Nat.reduceEqDiff,Nat.reduceAdd,Nat.reduceLeDiff,Nat.reduceMul,Nat.reduceBEq,d9,q,oN]|refine rd0 rfl ?_))
     try rfl
theorem VD {v:Net} (hv:Vd v):gE v.rails []≠[]:=by
 have:v.rails.map (fun r=>if r.shut=1 then 0 else r.mins.lo)∈gE v.rails []:=(kW _ _ _).2 ⟨_,rfl,by simp,fun i h hr=>by
  have h2:=(hv.ra _ (List.getElem_mem hr)).mins
  rw [List.getElem?_eq_getElem (by simpa using hr),Option.getD_some,List.getElem_map]
  obtain ⟨z,hz⟩:∃ z,v.rails[i]=z:=⟨_,rfl⟩
  rw [hz] at h2 ⊢
  simp only [chP,List.mem_append]
  by_cases q:z.shut=1
  ·rw [if_pos q,if_neg (by omega)]
   exact .inl (by simp)
  ·rw [if_neg q,if_neg q]
   exact .inr (oY.2 ⟨Int.le_refl _,by omega⟩)⟩
 exact List.ne_nil_of_mem this
theorem SA {v:Net} {but:List Int} (h:∀ k,k<v.seen.length→but.contains (k:Int)=true) (cs:List Int):lT v but cs=true:=by
 rw [lT,List.all_eq_true]
 intro k hk
 have hk2:k<v.seen.length:=by simpa using hk
 rw [List.getElem?_eq_getElem hk2]
 simp only [h k hk2,Bool.true_or]
theorem S6 {v:Net} (hv:Vd v) {but:List Int} (h:∀ k,k<v.seen.length→but.contains (k:Int)=true):mG v but=true:=by
 obtain ⟨c,hc⟩:=List.exists_mem_of_ne_nil _ (VD hv)
 have ht:c∈TL v but:=List.mem_filter.2 ⟨hc,SA h _⟩
 obtain ⟨s,hs,_⟩:=sQ hv ht
 rw [mG]
 cases hh:bH v but with
 |nil=>rw [hh] at hs;cases hs
 |cons a b=>rfl
theorem MJ {v:Net} (hv:Vd v):∀ c∈bD v.seen.length v.seen.length,mG v c=true:=fun c hc=>by
 have hl:=hv.nse
 exact S6 hv fun k hk=>F9 ⟨v.seen.length,by omega⟩ c hc ⟨k,by omega⟩ hk
theorem tI (f:List Int→Bool) (n:Nat):∀ k m,dW f n (k+1) m=(dW f n k m).or ((bD n (m+k)).find? f)
 |0,m=>by simp only [dW,Nat.add_zero];cases (bD n m).find? f<;>rfl
 |k+1,m=>by
  rw [dW,tI f n k (m+1)]
  rw [show dW f n (k+1) m=(match (bD n m).find? f with|some l=>some l|none=>dW f n k (m+1)) from rfl]
  rw [show m+1+k=m+(k+1) by omega]
  cases (bD n m).find? f<;>rfl
theorem zQ {v:Net} (hv:Vd v):dW (mG v) v.seen.length (v.seen.length+1) 0=some (nF v):=by
 have hl:=hv.nse
 have h1:=zG ⟨v.seen.length,by omega⟩
 simp only at h1
 obtain ⟨w,hw⟩:=List.length_eq_one_iff.1 h1
 have hs:=MJ hv w (by rw [hw];simp)
 rw [tI,nF,Nat.zero_add,hw]
 cases dW (mG v) v.seen.length v.seen.length 0 with
 |some l=>rfl
 |none=>simp [hs]
end Go.Am.Room
