/- A part of the proof of TopRipening: an abstract machine, or what functions come to on it. -/
import Derived.Test.YtckllniniolhcaaGreatTopRipeningQ3
set_option linter.unusedVariables false
set_option linter.unusedSimpArgs false
set_option linter.defProp false
set_option maxRecDepth 4000
namespace Go.Am.Room.Fa
def aN:=And.intro @cC (And.intro @aK (And.intro @cE (And.intro @encLook_eq (And.intro @aC (And.intro @cS (And.intro @S_mapLook (@cT)))))))
theorem t8 (s:Span) (lo hi:Int):cN T 346 [bC s,.int .i64 lo,.int .i64 hi] (.int .i64 (dV s lo hi)):=by
 refine aQ (af:=a346) rfl (by simp [a346]) dd ?_
 (repeat (first|simp only [↓QA,QB,seval,aN,a346]|refine rd0 rfl ?_))
 ((first|refine bJ (aY lo hi [s.lo,s.hi] (by simp)) (by simp [clr,clrs,ints]) (by simp [okV,okVs]) ?_|refine cP (aY lo hi [s.lo,s.hi] (by simp)) (by simp [clr,clrs,ints]) (by simp [okV,okVs]) ?_);(repeat (first|simp only [↓QA,QB,seval,aN,xS]|refine rd0 rfl ?_)))
 cases h1:(!inR s.lo lo hi||!inR s.hi lo hi)
 ·(repeat (first|simp only [↓QA,QB,seval,aN]|refine rd0 rfl ?_))
  cases h2:decide (s.hi<s.lo)
  ·have h2':¬s.hi<s.lo:=by simpa using h2
   (repeat (first|simp only [↓QA,QB,seval,aN,h2]|refine rd0 rfl ?_))
   simp [dV,h1,h2']
  ·have h2':s.hi<s.lo:=by simpa using h2
   (repeat (first|simp only [↓QA,QB,seval,aN,h2]|refine rd0 rfl ?_))
   simp [dV,h1,h2']
 ·(repeat (first|simp only [↓QA,QB,seval,aN]|refine rd0 rfl ?_))
  simp [dV,h1]
theorem UR (σ:St) (f:AV) (l:List Plot) (p:Plot→Bool) (hl:l.length<9223372036854775808) (hk:nI σ f) (h:∀ x∈l,eA T f [cL x] σ (.bool (p x))):eA T (.func 466 [] []) [.lit (l.map cL) false none,f] σ (.int .i64 (gN p l 0)):=by
 refine bR (af:=a466) rfl (by simp [a466]) ?_
 have hk0:=hk.nil
 (repeat (first|simp only [↓QA,QB,seval,aN,a466]|refine rd0 rfl ?_))
 refine bU (S:=Nat) 0 (fun k=>k≤l.length∧gN p (l.drop k) k=gN p l 0) (fun k=>l.length-k) (fun k=>[(0,.lit (l.map cL) false none),(1,f),(7,.int .i64 l.length),(8,.int .i64 k)]) (fun _=>σ) ⟨Nat.zero_le _,by simp⟩ rfl ?_ fun k hk1=>?_
 ·try simp only [aF,QE,seval,aN]
  try simp
 ·obtain ⟨hkl,hi⟩:=hk1
  (repeat (first|simp only [↓QA,QB,seval,aN,UT]|refine rd0 rfl ?_))
  refine aJ (fun hd=>?_) fun hd=>?_
  ·have hlt:k<l.length:=by simpa using hd
   rw [List.drop_eq_getElem_cons hlt] at hi
   simp only [gN] at hi
   have hw:=b7 hlt hl
   (repeat (first|simp only [↓QA,QB,seval,aN,hlt]|refine rd0 rfl ?_))
   refine aV (h l[k] (List.getElem_mem hlt)) ?_
   (repeat (first|simp only [↓QA,QB,seval,aN]|refine rd0 rfl ?_))
   cases hp:p l[k]
   ·(repeat (first|simp only [↓QA,QB,seval,aN,hw]|refine rd0 rfl ?_))
    refine ⟨k+1,⟨by omega,by rw [←hi,hp];rfl⟩,by omega,?_⟩
    try simp only [aF,QE,seval,aN,hw,hk0,Nat.le_refl,cS]
   ·(repeat (first|simp only [↓QA,QB,seval,aN]|refine rd0 rfl ?_))
    refine bY [] (by first|rfl|simp) ?_
    rw [←hi,hp]
    try simp only [QS,QC,seval,aN]
  ·have hlt:k=l.length:=by simp at hd;omega
   (repeat (first|simp only [↓QA,QB,seval,aN]|refine rd0 rfl ?_))
   refine bY [] (by first|rfl|simp) ?_
   rw [←hi,hlt,List.drop_length]
   try simp only [QS,QC,seval,aN,gN]
theorem J7 (σ:St) (f:AV) (l:List Plot) (p:Plot→Bool) (hl:l.length<9223372036854775808) (hk:nI σ f) (h:∀ x∈l,eA T f [cL x] σ (.bool (p x))):eA T (.func 349 [] []) [.lit (l.map cL) false none,f] σ (.bool (l.any p)):=by
 refine bR (af:=a349) rfl (by simp [a349]) ?_
 (repeat (first|simp only [↓QA,QB,seval,aN,a349]|refine rd0 rfl ?_))
 refine aV (UR σ f l p hl hk h) ?_
 (repeat (first|simp only [↓QA,QB,seval,aN]|refine rd0 rfl ?_))
 refine bY [] (by first|rfl|simp) ?_
 rw [←lZ p l 0]
 try simp only [QS,QC,seval,aN]
def oS {α:Type} (of:Nat→α→Int) (l:List α):Int×Int:=match aL of l 0 with|some (i,e)=>(i,e)|none=>(0,0)
theorem GP (σ:St) (f:AV) (l:List Span) (of:Nat→Span→Int) (hl:l.length<9223372036854775808) (hk:nI σ f)
  (h:∀ i (hi:i<l.length),eA T f [.int .i64 i,bC l[i]] (σ++[.cells (bC l[i]).cells]) (.int .i64 (of i l[i]))):eA T (.func 344 [] []) [.lit (l.map bC) false none,f] σ (kI (oS of l)):=by
 refine bR (af:=a344) rfl (by simp [a344]) ?_
 have hk0:=hk.nil
 have hk2:∀ τ,cV (σ++τ) σ.length 20 f=some f:=hk
 (repeat (first|simp only [↓QA,QB,seval,aN,a344]|refine rd0 rfl ?_))
 refine bU (S:=Nat) 0 (fun k=>k≤l.length∧aL of (l.drop k) k=aL of l 0) (fun k=>l.length-k) (fun k=>[(1,f),(9,.lit (l.map bC) false none),(10,.int .i64 l.length),(11,.int .i64 k)]) (fun _=>σ) ⟨Nat.zero_le _,by simp⟩ rfl ?_ fun k hk1=>?_
 ·try simp only [aF,QE,seval,aN]
  try simp
 ·obtain ⟨hkl,hi⟩:=hk1
  (repeat (first|simp only [↓QA,QB,seval,aN,TX]|refine rd0 rfl ?_))
  refine aJ (fun hd=>?_) fun hd=>?_
  ·have hlt:k<l.length:=by simpa using hd
   have hs:=h k hlt
   rw [c9 hlt] at hi
   have hw:=b7 hlt hl
   try simp only [↓QA,QB,seval,aN,hlt] at hs
   (repeat (first|simp only [↓QA,QB,seval,aN,hlt]|refine rd0 rfl ?_))
   refine aV hs ?_
   (repeat (first|simp only [↓QA,QB,seval,aN]|refine rd0 rfl ?_))
   cases hp:(of k l[k]==0)
   ·have hp':of k l[k]≠0:=by simpa using hp
    rw [if_neg hp'] at hi
    (repeat (first|simp only [↓QA,QB,seval,aN,hp]|refine rd0 rfl ?_))
    refine bY _ rfl ?_
    try simp only [QS,QC,seval,aN,kI,oS,←hi,reduceCtorEq]
   ·have hp':of k l[k]=0:=by simpa using hp
    rw [if_pos hp'] at hi
    (repeat (first|simp only [↓QA,QB,seval,aN,hp,hw]|refine rd0 rfl ?_))
    refine ⟨k+1,⟨by omega,hi⟩,by omega,?_⟩
    try simp only [aF,QE,seval,aN,hw,hk0,hk2,Nat.le_refl,cT]
  ·have hlt:k=l.length:=by simp at hd;omega
   rw [dK hlt] at hi
   (repeat (first|simp only [↓QA,QB,seval,aN]|refine rd0 rfl ?_))
   refine bY [] (by first|rfl|simp) ?_
   try simp only [QS,QC,seval,aN,kI,oS,←hi,reduceCtorEq]
theorem HI (σ:St) (f:AV) (l:List Plot) (of:Nat→Plot→Int) (hl:l.length<9223372036854775808) (hk:nI σ f)
  (h:∀ i (hi:i<l.length),eA T f [.int .i64 i,cL l[i]] (σ++[.cells (cL l[i]).cells]) (.int .i64 (of i l[i]))):eA T (.func 347 [] []) [.lit (l.map cL) false none,f] σ (kI (oS of l)):=by
 refine bR (af:=a347) rfl (by simp [a347]) ?_
 have hk0:=hk.nil
 have hk2:∀ τ,cV (σ++τ) σ.length 20 f=some f:=hk
 (repeat (first|simp only [↓QA,QB,seval,aN,a347]|refine rd0 rfl ?_))
 refine bU (S:=Nat) 0 (fun k=>k≤l.length∧aL of (l.drop k) k=aL of l 0) (fun k=>l.length-k) (fun k=>[(1,f),(9,.lit (l.map cL) false none),(10,.int .i64 l.length),(11,.int .i64 k)]) (fun _=>σ) ⟨Nat.zero_le _,by simp⟩ rfl ?_ fun k hk1=>?_
 ·try simp only [aF,QE,seval,aN]
  try simp
 ·obtain ⟨hkl,hi⟩:=hk1
  (repeat (first|simp only [↓QA,QB,seval,aN,R4]|refine rd0 rfl ?_))
  refine aJ (fun hd=>?_) fun hd=>?_
  ·have hlt:k<l.length:=by simpa using hd
   have hs:=h k hlt
   rw [c9 hlt] at hi
   have hw:=b7 hlt hl
   try simp only [↓QA,QB,seval,aN,hlt] at hs
   (repeat (first|simp only [↓QA,QB,seval,aN,hlt]|refine rd0 rfl ?_))
   refine aV hs ?_
   (repeat (first|simp only [↓QA,QB,seval,aN]|refine rd0 rfl ?_))
   cases hp:(of k l[k]==0)
   ·have hp':of k l[k]≠0:=by simpa using hp
    rw [if_neg hp'] at hi
    (repeat (first|simp only [↓QA,QB,seval,aN,hp]|refine rd0 rfl ?_))
    refine bY _ rfl ?_
    try simp only [QS,QC,seval,aN,kI,oS,←hi,reduceCtorEq]
   ·have hp':of k l[k]=0:=by simpa using hp
    rw [if_pos hp'] at hi
    (repeat (first|simp only [↓QA,QB,seval,aN,hp,hw]|refine rd0 rfl ?_))
    refine ⟨k+1,⟨by omega,hi⟩,by omega,?_⟩
    try simp only [aF,QE,seval,aN,hw,hk0,hk2,Nat.le_refl,cS]
  ·have hlt:k=l.length:=by simp at hd;omega
   rw [dK hlt] at hi
   (repeat (first|simp only [↓QA,QB,seval,aN]|refine rd0 rfl ?_))
   refine bY [] (by first|rfl|simp) ?_
   try simp only [QS,QC,seval,aN,kI,oS,←hi,reduceCtorEq]
theorem rX (σ:St) (f:AV) (l:List Look) (of:Nat→Look→Int) (hl:l.length<9223372036854775808) (hk:nI σ f)
  (h:∀ i (hi:i<l.length),eA T f [.int .i64 i,encLook l[i]] (σ++[.cells (encLook l[i]).cells]) (.int .i64 (of i l[i]))):eA T (.func 351 [] []) [.lit (l.map encLook) false none,f] σ (kI (oS of l)):=by
 refine bR (af:=a351) rfl (by simp [a351]) ?_
 have hk0:=hk.nil
 have hk2:∀ τ,cV (σ++τ) σ.length 20 f=some f:=hk
 (repeat (first|simp only [↓QA,QB,seval,aN,a351]|refine rd0 rfl ?_))
 refine bU (S:=Nat) 0 (fun k=>k≤l.length∧aL of (l.drop k) k=aL of l 0) (fun k=>l.length-k) (fun k=>[(1,f),(9,.lit (l.map encLook) false none),(10,.int .i64 l.length),(11,.int .i64 k)]) (fun _=>σ) ⟨Nat.zero_le _,by simp⟩ rfl ?_ fun k hk1=>?_
 ·try simp only [aF,QE,seval,aN]
  try simp
 ·obtain ⟨hkl,hi⟩:=hk1
  (repeat (first|simp only [↓QA,QB,seval,aN,SO]|refine rd0 rfl ?_))
  refine aJ (fun hd=>?_) fun hd=>?_
  ·have hlt:k<l.length:=by simpa using hd
   have hs:=h k hlt
   rw [c9 hlt] at hi
   have hw:=b7 hlt hl
   try simp only [↓QA,QB,seval,aN,hlt] at hs
   (repeat (first|simp only [↓QA,QB,seval,aN,hlt]|refine rd0 rfl ?_))
   refine aV hs ?_
   (repeat (first|simp only [↓QA,QB,seval,aN]|refine rd0 rfl ?_))
   cases hp:(of k l[k]==0)
   ·have hp':of k l[k]≠0:=by simpa using hp
    rw [if_neg hp'] at hi
    (repeat (first|simp only [↓QA,QB,seval,aN,hp]|refine rd0 rfl ?_))
    refine bY _ rfl ?_
    try simp only [QS,QC,seval,aN,kI,oS,←hi,reduceCtorEq]
   ·have hp':of k l[k]=0:=by simpa using hp
    rw [if_pos hp'] at hi
    (repeat (first|simp only [↓QA,QB,seval,aN,hp,hw]|refine rd0 rfl ?_))
    refine ⟨k+1,⟨by omega,hi⟩,by omega,?_⟩
    try simp only [aF,QE,seval,aN,hw,hk0,hk2,Nat.le_refl,S_mapLook]
  ·have hlt:k=l.length:=by simp at hd;omega
   rw [dK hlt] at hi
   (repeat (first|simp only [↓QA,QB,seval,aN]|refine rd0 rfl ?_))
   refine bY [] (by first|rfl|simp) ?_
   try simp only [QS,QC,seval,aN,kI,oS,←hi,reduceCtorEq]
theorem HM (i:Int) (s:Span) (σ:St):eA T (.func 345 [] []) [.int .i64 i,bC s] σ (.int .i64 (vG 0 s)):=by
 refine bR (af:=a345) rfl (by simp [a345]) ?_
 (repeat (first|simp only [↓QA,QB,seval,aN,a345]|refine rd0 rfl ?_))
 ((first|refine aE (t8 s 0 2) rfl dd ?_|refine aG (t8 s 0 2) rfl dd ?_);(repeat (first|simp only [↓QA,QB,seval,aN]|refine rd0 rfl ?_)))
 refine bY [.cells [.int .i64 s.lo,.int .i64 s.hi]] (by first|rfl|simp) ?_
 try simp only [QS,QC,seval,aN,vG]
theorem U9 (s x:Plot) (b:ABlk) (τ:St):eA T (.func 350 [] [.ptr (τ.length+1) 0]) [cL x] (b::(τ++[.cells (cL s).cells])) (.bool (decide (x.name=s.name))):=by
 refine bR (af:=a350) rfl (by simp [a350]) ?_
 (repeat (first|simp only [↓QA,QB,seval,aN,a350,A8,List.length_append]|refine rd0 rfl ?_))
 refine bY [.cells [.str x.name,.int .i64 x.flower.lo,.int .i64 x.flower.hi,.int .i64 x.hands]] (by first|rfl|simp) ?_
 try simp only [QS,QC,seval,aN]
theorem GC (v:Farm) (h:Fits v) (i:Nat) (hi:i<v.plots.length) (τ:St):eA T (.func 348 [] [.ptr 0 0]) [.int .i64 i,cL v.plots[i]] (.cells (aB v)::τ) (.int .i64 (nL v i v.plots[i])):=by
 refine bR (af:=a348) rfl (by simp [a348]) ?_
 have hfr:=h.rain
 have hsz:=h.names _ (List.getElem_mem hi)
 have hts:(v.plots.take i).length<9223372036854775808:=by have:=h.plots;simp;omega
 obtain ⟨s,hs⟩:∃ s,v.plots[i]=s:=⟨_,rfl⟩
 have hk:nL v i s=if fresh s.name ((v.plots.take i).map Plot.name)=0 then (if dV s.flower 0 (fM v-1)=7∨inR s.hands 1 99=false then 7 else dV s.flower 0 (fM v-1)) else fresh s.name ((v.plots.take i).map Plot.name):=rfl
 rw [hs] at hsz ⊢
 obtain ⟨E,hE⟩:∃ E,nL v i s=E:=⟨_,rfl⟩
 rw [hE] at hk ⊢
 have hwe:IntKind.i64.wrap ((v.rain.length:Int)-1)=fM v-1:=aX ⟨by omega,by omega⟩
 have hen:=t8 s.flower 0 (fM v-1)
 obtain ⟨F,hF⟩:∃ F,dV s.flower 0 (fM v-1)=F:=⟨_,rfl⟩
 rw [hF] at hk hen
 have fin:∀ (n:Int) (e:Env) (b:List AV),n=E→AG (some (.int .i64 n)) (.cells (aB v)::τ) (.cells (aB v)::(τ++[.cells b])) (.int .i64 E):=fun n e b hv=>by
  refine bY [.cells b] (by first|rfl|simp) ?_
  rw [hv]
  try simp only [QS,QC,seval,aN]
 simp only [aK] at fin
 (repeat (first|simp only [↓QA,QB,seval,aN,a348,hwe]|refine rd0 rfl ?_))
 ((first|refine aE (hen) rfl dd ?_|refine aG (hen) rfl dd ?_);(repeat (first|simp only [↓QA,QB,seval,aN]|refine rd0 rfl ?_)))
 ((first|refine aE (m5 s.name hsz) rfl dd ?_|refine aG (m5 s.name hsz) rfl dd ?_);(repeat (first|simp only [↓QA,QB,seval,aN]|refine rd0 rfl ?_)))
 cases h1:kJ s.name
 ·(repeat (first|simp only [↓QA,QB,seval,aN]|refine rd0 rfl ?_))
  exact fin _ [] _ (by rw [hk];simp [fresh,h1])
 ·have hc:=J7 (.cells (aB v)::(τ++[.cells (cL s).cells])) (.func 350 [] [.ptr (τ.length+1) 0]) (v.plots.take i) (fun x=>decide (x.name=s.name)) hts (fun υ=>by try simp only [QS,QC,seval,aN,List.length_append];simp) fun x _=>U9 s x _ τ
  try simp only [↓QA,QB,seval,aN] at hc
  (repeat (first|simp only [↓QA,QB,seval,aN,VR (enc:=cL) (l:=v.plots) (Nat.le_of_lt hi)]|refine rd0 rfl ?_))
  refine aV hc ?_
  rw [CW]
  cases h2:decide (iH s.name ((v.plots.take i).map Plot.name)≠((v.plots.take i).map Plot.name).length)
  ·have h2':iH s.name ((v.plots.take i).map Plot.name)=((v.plots.take i).map Plot.name).length:=by simpa using h2
   have hf:fresh s.name ((v.plots.take i).map Plot.name)=0:=by simp only [fresh,h1,h2'];simp
   rw [hf] at hk
   simp only [if_true] at hk
   (repeat (first|simp only [↓QA,QB,seval,aN]|refine rd0 rfl ?_))
   ((first|refine bJ (aY 1 99 [s.hands] (by simp)) (by simp [clr,clrs,ints]) (by simp [okV,okVs]) ?_|refine cP (aY 1 99 [s.hands] (by simp)) (by simp [clr,clrs,ints]) (by simp [okV,okVs]) ?_);(repeat (first|simp only [↓QA,QB,seval,aN,fK]|refine rd0 rfl ?_)))
   cases h3:inR s.hands 1 99
   ·(repeat (first|simp only [↓QA,QB,seval,aN]|refine rd0 rfl ?_))
    exact fin _ [] _ (by rw [hk,if_pos (.inr h3)])
   ·(repeat (first|simp only [↓QA,QB,seval,aN]|refine rd0 rfl ?_))
    refine fin _ [] _ ?_
    rw [hk]
    by_cases h4:F=7
    ·simp [h4]
    ·simp [h4,h3]
  ·have h2':iH s.name ((v.plots.take i).map Plot.name)≠((v.plots.take i).map Plot.name).length:=by simpa using h2
   have hf:fresh s.name ((v.plots.take i).map Plot.name)=5:=by simp only [fresh,h1,h2',if_false];simp
   rw [hf] at hk
   (repeat (first|simp only [↓QA,QB,seval,aN]|refine rd0 rfl ?_))
   exact fin _ [] _ (by rw [hk];simp)
theorem GI (v:Farm) (h:Fits v) (i:Int) (x:Look):eA T (.func 352 [] [.ptr 0 0]) [.int .i64 i,encLook x] [.cells (aB v),.cells (encLook x).cells] (.int .i64 (qF v 0 x)):=by
 refine bR (af:=a352) rfl (by simp [a352]) ?_
 have hfp:=h.plots
 have hw:IntKind.i64.wrap ((v.plots.length:Int)-1)=(v.plots.length:Int)-1:=aX ⟨by omega,by omega⟩
 have he:fM v=(v.rain.length:Int):=rfl
 (repeat (first|simp only [↓QA,QB,seval,aN,a352,hw]|refine rd0 rfl ?_))
 ((first|refine bJ (aY 0 ((v.plots.length:Int)-1) [x.plot] (by simp)) (by simp [clr,clrs,ints]) (by simp [okV,okVs]) ?_|refine cP (aY 0 ((v.plots.length:Int)-1) [x.plot] (by simp)) (by simp [clr,clrs,ints]) (by simp [okV,okVs]) ?_);(repeat (first|simp only [↓QA,QB,seval,aN,fK]|refine rd0 rfl ?_)))
 cases h1:inR x.plot 0 ((v.plots.length:Int)-1)
 ·(repeat (first|simp only [↓QA,QB,seval,aN]|refine rd0 rfl ?_))
  refine bY _ rfl ?_
  try simp only [QS,QC,seval,aN,qF,h1]
 ·(repeat (first|simp only [↓QA,QB,seval,aN]|refine rd0 rfl ?_))
  ((first|refine bJ (aY 0 (v.rain.length:Int) [x.day] (by simp)) (by simp [clr,clrs,ints]) (by simp [okV,okVs]) ?_|refine cP (aY 0 (v.rain.length:Int) [x.day] (by simp)) (by simp [clr,clrs,ints]) (by simp [okV,okVs]) ?_);(repeat (first|simp only [↓QA,QB,seval,aN,fK]|refine rd0 rfl ?_)))
  cases h2:inR x.day 0 (v.rain.length:Int)
  ·(repeat (first|simp only [↓QA,QB,seval,aN]|refine rd0 rfl ?_))
   refine bY _ rfl ?_
   try simp only [QS,QC,seval,aN,qF,h1,he,h2]
   try simp
  ·(repeat (first|simp only [↓QA,QB,seval,aN]|refine rd0 rfl ?_))
   ((first|refine bJ (aY 0 30 [x.points] (by simp)) (by simp [clr,clrs,ints]) (by simp [okV,okVs]) ?_|refine cP (aY 0 30 [x.points] (by simp)) (by simp [clr,clrs,ints]) (by simp [okV,okVs]) ?_);(repeat (first|simp only [↓QA,QB,seval,aN,fK]|refine rd0 rfl ?_)))
   cases h3:inR x.points 0 30
   all_goals
    (repeat (first|simp only [↓QA,QB,seval,aN]|refine rd0 rfl ?_))
    refine bY _ rfl ?_
    try simp only [QS,QC,seval,aN,qF,h1,he,h2,h3]
    try simp
end Go.Am.Room.Fa
namespace Go.Am.Room
theorem nZ {a:Nat} (h:a<9223372036854775808):(BitVec.ofInt 64 (a:Int)).toNat=a:=by
 rw [BitVec.toNat_ofInt]
 omega
theorem aEM (a b:Nat) (ha:a<9223372036854775808) (hb:b<9223372036854775808):d7 .and (.int .i64 (a:Int)) (.int .i64 (b:Int))=some (.int .i64 ((a &&& b:Nat):Int)):=by
 have h1:(BitVec.ofInt 64 (a:Int) &&& BitVec.ofInt 64 (b:Int)).toNat=a &&& b:=by rw [BitVec.toNat_and,nZ ha,nZ hb]
 have h2:a &&& b≤a:=Nat.and_le_left
 have h3:Go.Am.bits .and .i64 (a:Int) (b:Int)=((a &&& b:Nat):Int):=by
  show IntKind.i64.wrap (((BitVec.ofInt 64 (a:Int) &&& BitVec.ofInt 64 (b:Int)).toNat:Nat):Int)=_
  rw [h1]
  exact aX ⟨by omega,by omega⟩
 simp [d7,j5,h3]
theorem XT (a b:Nat) (ha:a<4611686018427387904) (hb:b<4611686018427387904):d7 .or (.int .i64 (a:Int)) (.int .i64 (b:Int))=some (.int .i64 ((a|||b:Nat):Int)):=by
 have h1:(BitVec.ofInt 64 (a:Int)|||BitVec.ofInt 64 (b:Int)).toNat=a|||b:=by rw [BitVec.toNat_or,nZ (by omega),nZ (by omega)]
 have h2:a|||b<2^62:=Nat.or_lt_two_pow (by omega) (by omega)
 have h3:Go.Am.bits .or .i64 (a:Int) (b:Int)=((a|||b:Nat):Int):=by
  show IntKind.i64.wrap (((BitVec.ofInt 64 (a:Int)|||BitVec.ofInt 64 (b:Int)).toNat:Nat):Int)=_
  rw [h1]
  exact aX ⟨by omega,by omega⟩
 simp [d7,j5,h3]
def GR (a b:Nat):Nat:=a &&& (2^64-(b+1))
theorem T3 {b:Nat} (hb:b<9223372036854775808) (a i:Nat) (ha:a<9223372036854775808):(GR a b).testBit i=(a.testBit i&&!b.testBit i):=by
 rw [GR,Nat.testBit_and,Nat.testBit_two_pow_sub_succ (by omega)]
 by_cases hi:i<64
 ·simp [hi]
 ·have:a.testBit i=false:=Nat.testBit_lt_two_pow (Nat.lt_of_lt_of_le (show a<2^63 by omega) (Nat.pow_le_pow_right (by omega) (by omega)))
  simp [this]
theorem X1 (a b:Nat):GR a b≤a:=Nat.and_le_left
theorem R5 (a b:Nat) (ha:a<9223372036854775808) (hb:b<9223372036854775808):d7 .andNot (.int .i64 (a:Int)) (.int .i64 (b:Int))=some (.int .i64 ((GR a b:Nat):Int)):=by
 have h1:(BitVec.ofInt 64 (a:Int) &&& ~~~BitVec.ofInt 64 (b:Int)).toNat=GR a b:=by
  rw [BitVec.toNat_and,BitVec.toNat_not,nZ ha,nZ hb,GR]
  congr 1
  omega
 have h2:=X1 a b
 have h3:Go.Am.bits .andNot .i64 (a:Int) (b:Int)=((GR a b:Nat):Int):=by
  show IntKind.i64.wrap (((BitVec.ofInt 64 (a:Int) &&& ~~~BitVec.ofInt 64 (b:Int)).toNat:Nat):Int)=_
  rw [h1]
  exact aX ⟨by omega,by omega⟩
 simp [d7,j5,h3]
theorem FR {i:Nat} (h:i≤60):2^i≤1152921504606846976:=by
 calc 2^i≤2^60:=Nat.pow_le_pow_right (by omega) h
  _=1152921504606846976:=by decide
theorem y9 (i:Nat) (h:i≤60):d7 .shl (.int .i64 1) (.int .i64 (i:Int))=some (.int .i64 ((2^i:Nat):Int)):=by
 have hm:Nat.min i 64=i:=Nat.min_eq_left (by omega)
 have h0:¬(i:Int)<0:=by omega
 have hp:=FR h
 have hc:(1:Int)*2^i=((2^i:Nat):Int):=by rw [Int.one_mul];exact (Int.natCast_pow 2 i).symm
 simp only [d7,h0,if_false,IntKind.bits,Int.toNat_natCast,hm,hc]
 generalize 2^i=q at hp
 rw [aX ⟨by omega,by omega⟩]
theorem u5 (a i:Nat):a.testBit i=decide (a/2^i%2=1):=Nat.testBit_eq_decide_div_mod_eq
theorem wP {n s:Nat} {x:Int}:x∈lst n s↔(0≤x∧x<n)∧s.testBit x.toNat=true:=by
 simp only [lst,List.mem_filter,cO,u5]
 constructor
 ·rintro ⟨h1,h2⟩;exact ⟨by omega,h2⟩
 ·rintro ⟨h1,h2⟩;exact ⟨by omega,h2⟩
theorem YO {n s i:Nat} (h:i<n):(lst n s).contains (i:Int)=s.testBit i:=by
 rw [Bool.eq_iff_iff,List.contains_iff_mem,wP]
 simp only [Int.toNat_natCast]
 constructor
 ·rintro ⟨_,h2⟩;exact h2
 ·intro h2;exact ⟨⟨by omega,by omega⟩,h2⟩
theorem X2 (a:Nat):((a:Int)==0)=decide (a=0):=by rw [Bool.eq_iff_iff];simp
structure ButIs (b:Nat) (bl:List Int):Prop where
 lt:b<9223372036854775808
 bit:∀ i:Nat,i<5→(((b/2^i%2:Nat):Int)==0) = !bl.contains (i:Int)
theorem YH:ButIs 0 []:=⟨by omega,fun i hi=>by simp⟩
theorem GO {n set:Nat} (hn:n≤5) (hs:set<2^n):ButIs set (lst n set):=by
 have hp:2^n≤2^5:=Nat.pow_le_pow_right (by omega) hn
 refine ⟨by omega,fun i hi=>?_⟩
 have e:(((set/2^i%2:Nat):Int)==0) = !set.testBit i:=by
  rw [u5,X2,Bool.eq_iff_iff]
  simp
 rw [e]
 by_cases h:i<n
 ·rw [YO h]
 ·have h1:set.testBit i=false:=Nat.testBit_lt_two_pow (Nat.lt_of_lt_of_le hs (Nat.pow_le_pow_right (by omega) (by omega)))
  have h2:(lst n set).contains (i:Int)=false:=by
   rw [Bool.eq_false_iff]
   intro hc
   rw [List.contains_iff_mem,wP] at hc
   omega
  rw [h1,h2]
end Go.Am.Room
set_option maxRecDepth 4000
namespace Go.Am.Room.Fa
def dW:=And.intro @Int.toNat_natCast (@List.length_append.{0})
theorem lE (n:Int):cN T 386 [.int .i64 n] (.bool false):=by
 refine aQ (af:=a386) rfl (by simp [a386]) dd ?_
 (repeat (first|simp only [↓QA,QB,seval,dW,a386]|refine rd0 rfl ?_))
 try simp
def pA (a b:Int):Int:=if a<b then -1 else if b<a then 1 else 0
theorem BT (a b:Int):cN T 254 [.int .i64 a,.int .i64 b] (.int .i64 (pA a b)):=by
 refine aQ (af:=a254) rfl (by simp [a254]) dd ?_
 (repeat (first|simp only [↓QA,QB,seval,dW,a254]|refine rd0 rfl ?_))
 ((first|refine aE (lE a) rfl dd ?_|refine aG (lE a) rfl dd ?_);(repeat (first|simp only [↓QA,QB,seval,dW]|refine rd0 rfl ?_)))
 ((first|refine aE (lE b) rfl dd ?_|refine aG (lE b) rfl dd ?_);(repeat (first|simp only [↓QA,QB,seval,dW]|refine rd0 rfl ?_)))
 cases h1:decide (a<b)
 ·have h1':¬a<b:=by simpa using h1
  (repeat (first|simp only [↓QA,QB,seval,dW]|refine rd0 rfl ?_))
  cases h2:decide (b<a)
  ·have h2':¬b<a:=by simpa using h2
   (repeat (first|simp only [↓QA,QB,seval,dW]|refine rd0 rfl ?_))
   simp [pA,h1',h2']
  ·have h2':b<a:=by simpa using h2
   (repeat (first|simp only [↓QA,QB,seval,dW]|refine rd0 rfl ?_))
   simp [pA,h1',h2']
 ·have h1':a<b:=by simpa using h1
  (repeat (first|simp only [↓QA,QB,seval,dW]|refine rd0 rfl ?_))
  simp [pA,h1']
def oJ:List Int→List Int→Int
 |[],[]=>0
 |[],_::_=>-1
 |_::_,[]=>1
 |a::az,b::bs=>if pA a b=0 then oJ az bs else pA a b
theorem qZ:∀ a b:List Int,decide (0<oJ a b)=less b a
 |[],[]=>rfl
 |[],b::bs=>rfl
 |a::az,[]=>rfl
 |a::az,b::bs=>by
  have ih:=qZ az bs
  simp only [oJ,less,pA]
  by_cases h1:a<b
  ·simp [h1,show ¬b=a by omega];omega
  ·by_cases h2:b<a
   ·simp [h1,h2,show ¬b=a by omega]
   ·have:b=a:=by omega
    subst this
    simp [ih]
theorem sM (a b:List Int) (ha:a.length<9223372036854775808) (hb:b.length<9223372036854775808):cN T 118 [ints a,ints b] (.int .i64 (oJ a b)):=by
 refine aQ (af:=a118) rfl (by simp [a118]) dd ?_
 (repeat (first|simp only [↓QA,QB,seval,dW,a118]|refine rd0 rfl ?_))
 refine bU (S:=Nat) 0 (fun k=>k≤a.length∧k≤b.length∧oJ (a.drop k) (b.drop k)=oJ a b) (fun k=>a.length-k) (fun k=>[(0,ints a),(1,ints b),(9,ints a),(10,.int .i64 a.length),(11,.int .i64 k)]) (fun _=>[]) ⟨by simp,by simp,by simp⟩ rfl ?_ fun k hk=>?_
 ·try simp only [aF,QE,seval,dW]
  try simp
 ·obtain ⟨hk,hkb,hq⟩:=hk
  (repeat (first|simp only [↓QA,QB,seval,dW,MT]|refine rd0 rfl ?_))
  refine aJ (fun h=>?_) fun h=>?_
  ·have hk1:k<a.length:=by simpa using h
   have hw:=b7 hk1 ha
   rw [List.drop_eq_getElem_cons hk1] at hq
   (repeat (first|simp only [↓QA,QB,seval,dW,hk1]|refine rd0 rfl ?_))
   refine aJ (fun h2=>?_) fun h2=>?_
   ·have hk2:k=b.length:=by simp at h2;omega
    have hd:b.drop k=[]:=by rw [hk2,List.drop_length]
    rw [hd] at hq
    simp only [oJ] at hq
    (repeat (first|simp only [↓QA,QB,seval,dW,hk1,←hq]|refine rd0 rfl ?_))
   ·have hk2:k<b.length:=by simp at h2;omega
    rw [List.drop_eq_getElem_cons hk2] at hq
    simp only [oJ] at hq
    (repeat (first|simp only [↓QA,QB,seval,dW,hk1,hk2]|refine rd0 rfl ?_))
    ((first|refine aE (BT a[k] b[k]) rfl dd ?_|refine aG (BT a[k] b[k]) rfl dd ?_);(repeat (first|simp only [↓QA,QB,seval,dW,hk1,hk2]|refine rd0 rfl ?_)))
    cases h3:(pA a[k] b[k]==0)
    ·have h3':pA a[k] b[k]≠0:=by simpa using h3
     rw [if_neg h3'] at hq
     (repeat (first|simp only [↓QA,QB,seval,dW,h3,hk1,hk2,hq]|refine rd0 rfl ?_))
    ·have h3':pA a[k] b[k]=0:=by simpa using h3
     rw [if_pos h3'] at hq
     (repeat (first|simp only [↓QA,QB,seval,dW,h3,hk1,hk2]|refine rd0 rfl ?_))
     refine ⟨k+1,⟨by omega,by omega,hq⟩,by omega,?_⟩
     try simp only [aF,QE,seval,dW,hw]
  ·have hk1:k=a.length:=by simp at h;omega
   rw [hk1,List.drop_length] at hq
   (repeat (first|simp only [↓QA,QB,seval,dW]|refine rd0 rfl ?_))
   refine aJ (fun h2=>?_) fun h2=>?_
   ·have hk2:a.length<b.length:=by simpa using h2
    rw [List.drop_eq_getElem_cons hk2] at hq
    (repeat (first|simp only [↓QA,QB,seval,dW,←hq,oJ]|refine rd0 rfl ?_))
   ·have hk2:a.length=b.length:=by simp at h2;omega
    rw [hk2,List.drop_length] at hq
    (repeat (first|simp only [↓QA,QB,seval,dW,←hq,oJ]|refine rd0 rfl ?_))
end Go.Am.Room.Fa
namespace Go.Am.Room
theorem xM {σ:St} {i:Nat} {cs:List AV} (h:aM σ i=some cs):i<σ.length:=by
 unfold aM at h
 by_cases hi:i<σ.length
 ·exact hi
 ·rw [List.getElem?_eq_none (by omega)] at h
  cases h
theorem qG {σ:St} {i:Nat} {cs:List AV} (h:aM σ i=some cs) (τ:St):aM (σ++τ) i=some cs:=by
 have hl:=xM h
 simp only [aM] at h ⊢
 rw [List.getElem?_append_left hl]
 exact h
end Go.Am.Room
namespace Go.Am.Room
structure MemAt {M:Type} (S:M→St) (obj:List AV) (es:M→List (AV×AV)) (p m N:Nat):Prop where
 len:∀ M,(S M).length=N
 at0:∀ M,aM (S M) p=some obj
 map0:∀ M,(S M)[m]? = some (.map (es M))
 mset:∀ M M',(S M).set m (.map (es M'))=S M'
 ok:∀ M k,aT k (.map (es M))
 pl:p<N
 ml:m<N
namespace MemAt
variable {M:Type} {S:M→St} {obj:List AV} {es:M→List (AV×AV)} {p m N:Nat}
theorem base (h:MemAt S obj es p m N) (A:M) (τ:St) (k:Nat):aM (S A++τ) (N+k)=aM τ k:=by rw [←h.len A];exact nC _ _ _
theorem base0 (h:MemAt S obj es p m N) (A:M) (τ:St):aM (S A++τ) N=aM τ 0:=h.base A τ 0
theorem bset (h:MemAt S obj es p m N) (A:M) (τ:St) (k:Nat) (x:ABlk):(S A++τ).set (N+k) x=S A++τ.set k x:=by rw [←h.len A];exact oP _ _ _ _
theorem bset0 (h:MemAt S obj es p m N) (A:M) (τ:St) (x:ABlk):(S A++τ).set N x=S A++τ.set 0 x:=h.bset A τ 0 x
theorem at1 (h:MemAt S obj es p m N) (A:M) (τ:St):aM (S A++τ) p=some (obj):=by
 have:=h.at0 A
 have hl:=h.pl
 rw [←h.len A] at hl
 simp only [aM] at this ⊢
 rw [List.getElem?_append_left hl]
 exact this
theorem map1 (h:MemAt S obj es p m N) (A:M) (τ:St):(S A++τ)[m]? = some (.map (es A)):=by
 have hl:=h.ml
 rw [←h.len A] at hl
 rw [List.getElem?_append_left hl]
 exact h.map0 A
theorem mset1 (h:MemAt S obj es p m N) (A B:M) (τ:St):(S A++τ).set m (.map (es B))=S B++τ:=by
 have hl:=h.ml
 rw [←h.len A] at hl
 rw [List.set_append_left _ _ hl,h.mset]
theorem keep (h:MemAt S obj es p m N) (A B:M) (i:Nat) (hi:i≠m):(S B)[i]? = (S A)[i]?:=by
 rw [←h.mset A B,List.getElem?_set_ne (fun e=>hi e.symm)]
theorem kept (h:MemAt S obj es p m N) {A B:M} {σ τ:St} (hσ:σ=S B++τ):∀ i,i<(S A).length→pC (S A) σ (S A).length i:=by
 intro i hi
 rw [hσ]
 have hl:i<(S B).length:=by rw [h.len] at hi ⊢;exact hi
 by_cases him:i=m
 ·subst him
  refine .inr (.inl ⟨.map (es B),?_,h.ok B _⟩)
  rw [List.getElem?_append_left hl,h.map0]
 ·refine .inl ?_
  rw [List.getElem?_append_left hl,h.keep A B i him]
theorem app (h:MemAt S obj es p m N) (τ:St):MemAt (fun A=>S A++τ) obj es p m (N+τ.length) :=
 ⟨fun A=>by rw [List.length_append,h.len],fun A=>h.at1 A τ,fun A=>h.map1 A τ,fun A B=>h.mset1 A B τ,h.ok,by have:=h.pl;omega,by have:=h.ml;omega⟩
theorem eqS (h:MemAt S obj es p m N) (k:Nat) (A B:M) (x y z:St):EqS k (S A++x) (S B++y) (S B++z)=EqS k x y z:=by
 rw [←h.mset A B]
 exact xH k _ (h.ok B k) _ _ _ _ _
end MemAt
theorem FP {M:Type} {S:M→St} {obj:List AV} {es:M→List (AV×AV)} {p m N:Nat} (hR:MemAt S obj es p m N) {f:FuncId} {first cap args:List AV} {af:AFunc} {v:AV} {A B:M} (hf:T f=some af) (hn:(first++args++cap).length≤af.ntmps)
  (h:wp T af.body (fC 0 (first++args++cap)) (S A) (fun j e σ1=>(j=none∨j=some .ret)∧∃ v0 τ,f9 af.results e σ1=some v0∧σ1=S B++τ∧cV σ1 N 20 v0=some v)):sW T (.func f first cap) args (S A) v (S B):=by
 refine .callf (.call hf hn (eQ h fun o ho=>ho) fun o ho=>?_)
 obtain ⟨hj,v0,τ,hres,hσ,h4⟩:=ho
 refine ⟨hj,v0,hres,?_⟩
 unfold cV at h4
 cases hs:snap o.σ N 20 v0 with
 |none=>rw [hs] at h4;cases h4
 |some v1 =>
  rw [hs] at h4
  simp at h4
  refine .inr ⟨20,v1,v,by rw [hR.len];exact hs,.inr h4.symm,hR.kept hσ,?_,rfl,?_⟩
  ·rw [hσ,List.length_append,hR.len,hR.len];omega
  ·rw [hσ,hR.len,←hR.len B,List.take_left]
def fW {A X:Type} (f:A→X→X×Bool):List A→X→X×Bool
 |[],x=>(x,true)
 |a::az,x=>if (f a x).2=true then fW f az (f a x).1 else ((f a x).1,false)
theorem FN {A X:Type} (f:A→X→X×Bool):∀ (az bs:List A) (x:X),fW f (az++bs) x=if (fW f az x).2=true then fW f bs (fW f az x).1 else ((fW f az x).1,false)
 |[],bs,x=>by simp [fW]
 |a::az,bs,x=>by
  simp only [List.cons_append,fW]
  split
  ·exact FN f az bs _
  ·simp
structure Fam {X:Type} (Z ZD:X→St) (obj:List AV) (p q N:Nat):Prop where
 len:∀ x,(Z x).length=N
 lenD:∀ x,(ZD x).length=N
 at0:∀ x,aM (Z x) p=some obj
 atq0:∀ x,aM (Z x) q=some [.ptr p 0]
 keep:∀ x y k i,N≤k→i<N→pC (Z x) (Z y) k i
 keepD:∀ x y k i,N≤k→i<N→pC (Z x) (ZD y) k i
 pl:p<N
 ql:q<N
namespace Fam
variable {X:Type} {Z ZD:X→St} {obj:List AV} {p q N:Nat}
theorem base (h:Fam Z ZD obj p q N) (x:X) (τ:St) (k:Nat):aM (Z x++τ) (N+k)=aM τ k:=by rw [←h.len x];exact nC _ _ _
theorem base0 (h:Fam Z ZD obj p q N) (x:X) (τ:St):aM (Z x++τ) N=aM τ 0:=h.base x τ 0
theorem bset (h:Fam Z ZD obj p q N) (x:X) (τ:St) (k:Nat) (y:ABlk):(Z x++τ).set (N+k) y=Z x++τ.set k y:=by rw [←h.len x];exact oP _ _ _ _
theorem bset0 (h:Fam Z ZD obj p q N) (x:X) (τ:St) (y:ABlk):(Z x++τ).set N y=Z x++τ.set 0 y:=h.bset x τ 0 y
theorem at1 (h:Fam Z ZD obj p q N) (x:X) (τ:St):aM (Z x++τ) p=some obj:=by
 have:=h.at0 x
 have hl:=h.pl
 rw [←h.len x] at hl
 simp only [aM] at this ⊢
 rw [List.getElem?_append_left hl]
 exact this
def out (Z ZD:X→St) (r:X×Bool):St:=if r.2=true then Z r.1 else ZD r.1
end Fam
theorem O7 {A X:Type} (f:A→X→X×Bool) (a:A) (x:X):fW f [a] x=f a x:=by
 simp only [fW]
 obtain ⟨y,bb⟩:=f a x
 cases bb<;>simp
namespace Fam1
variable {X:Type} {M:Type} {Z ZD:X→M→St} {obj:List AV} {es:M→List (AV×AV)} {p m q N:Nat}
def out (Z ZD:X→M→St) (r:X×Bool) (A:M):St:=if r.2=true then Z r.1 A else ZD r.1 A
end Fam1
theorem IA {A X:Type} {f:A→X→X×Bool} (h:∀ a x,(f a x).2=true):∀ (l:List A) (x:X),fW f l x=(l.foldl (fun x a=>(f a x).1) x,true)
 |[],x=>rfl
 |a::az,x=>by simp only [fW,h,if_true,List.foldl_cons];exact IA h az _
end Go.Am.Room
namespace Go.Am.Room
def lA (f:Nat→Int) (i:Nat) (v:Int):Nat→Int:=fun j=>if j=i then v else f j
def dN (n:Nat) (f:Nat→Int):List AV:=(List.range n).map fun i=>.int .i64 (f i)
theorem gU (n:Nat) (f:Nat→Int):(dN n f).length=n:=by simp [dN]
theorem lJ (n:Nat) (f:Nat→Int) {i:Nat} (h:i<n):(dN n f)[i]? = some (.int .i64 (f i)):=by simp [dN,h]
theorem CG (n:Nat) (f:Nat→Int) (v:Int) {i:Nat} (h:i<n):(dN n f).take i++[AV.int .i64 v]++(dN n f).drop (i+1)=dN n (lA f i v):=by
 have h1:(dN n f).take i++[AV.int .i64 v]++(dN n f).drop (i+1)=(dN n f).set i (.int .i64 v):=by
  rw [List.set_eq_take_append_cons_drop,if_pos (by rw [gU];exact h)];simp
 rw [h1]
 refine List.ext_getElem? fun j=>?_
 by_cases hj:j<n
 ·rw [lJ n _ hj,List.getElem?_set]
  by_cases e:i=j
  ·subst e;simp [gU,hj,lA]
  ·rw [if_neg e,lJ n _ hj];simp [lA,show ¬j=i from fun q=>e q.symm]
 ·rw [List.getElem?_eq_none (by rw [List.length_set,gU];omega),List.getElem?_eq_none (by rw [gU];omega)]
theorem oG (n:Nat) (f:Nat→Int):nM (dN n f):=bZ (enc:=fun i:Nat=>AV.int .i64 (f i)) (fun i=>bT _ _) (List.range n)
instance (n:Nat) (f:Nat→Int):Dats (dN n f):=⟨oG n f⟩
theorem uT (n:Nat) (f:Nat→Int) (m:Nat):okVs m (dN n f):=t7 (oG n f) m
theorem tG (n:Nat) (f:Nat→Int) (σ:St) (m d:Nat):cB σ m d (dN n f)=some (dN n f):=jD (oG n f) σ m d
theorem kM (n:Nat) (f:Nat→Int):bM (dN n f)=true:=U2 _ _ fun i=>by simp [AV.cell]
theorem kU (n:Nat) (f:Nat→Int):(dN n f).take n=dN n f:=List.take_of_length_le (by rw [gU];exact Nat.le_refl n)
theorem kL (n:Nat) (f:Nat→Int):(dN n f).drop n=[]:=List.drop_eq_nil_of_le (by rw [gU];exact Nat.le_refl n)
theorem IN (f g:Nat→Int):∀ l:List Nat,bK (List.replicate l.length .i) (l.map fun i=>.int .i64 (f i)) (l.map fun i=>.int .i64 (g i))=some (l.all fun i=>f i==g i)
 |[]=>rfl
 |x::l=>by
  simp only [List.length_cons,List.replicate_succ,List.map_cons,GG,N2,IN f g l,GU,List.all_cons]
theorem NL (n:Nat) (f g:Nat→Int):bK (List.replicate n .i) (dN n f) (dN n g)=some ((List.range n).all fun i=>f i==g i):=by
 have:=IN f g (List.range n)
 rwa [List.length_range] at this
section
variable {K:Type} [DecidableEq K]
def eN (M:List K) (w:K):List K:=if w∈M then M else M++[w]
variable {sh:EqTy} {enc val:K→AV}
variable {S:List K→St} {obj:List AV} {p m N:Nat}
end
end Go.Am.Room
set_option maxRecDepth 4000
namespace Go.Am.Room.Fa
def bW:=And.intro @cC (And.intro @aK (And.intro @cE (And.intro @encLook_eq (And.intro @aC (And.intro @cS (And.intro @S_mapLook (And.intro @cT (And.intro @bI (@List.length_append.{0})))))))))
theorem jG (v:Farm) (h:Fits v):cN T 223 [encFarm v] (enc3 (check v)):=by
 refine aQ (af:=a223) rfl (by simp [a223]) dd ?_
 (repeat (first|simp only [↓QA,QB,seval,bW,a223]|refine rd0 rfl ?_))
 ((first|refine bJ (aY 1 7 [(v.rain.length:Int)] (by simp)) (by simp [clr,clrs,ints]) (by simp [okV,okVs]) ?_|refine cP (aY 1 7 [(v.rain.length:Int)] (by simp)) (by simp [clr,clrs,ints]) (by simp [okV,okVs]) ?_);(repeat (first|simp only [↓QA,QB,seval,bW,fK]|refine rd0 rfl ?_)))
 cases h1:inR (v.rain.length:Int) 1 7
 ·(repeat (first|simp only [↓QA,QB,seval,bW]|refine rd0 rfl ?_))
  simp [check,h1,enc3]
 ·have hc:check v=match aL vG v.rain 0 with|some (i,e)=>(1,(i:Int),e)|none=>eK v:=by simp only [check,h1,Bool.true_eq_false,if_false];try rfl
  rw [hc]
  have hf:=GP [.cells (aB v)] (.func 345 [] []) v.rain vG h.rain (fun τ=>by try simp only [QS,QC,seval,bW]) fun i hi=>HM i _ _
  try simp only [↓QA,QB,seval,bW] at hf
  (repeat (first|simp only [↓QA,QB,seval,bW]|refine rd0 rfl ?_))
  refine aV hf ?_
  cases hb:aL vG v.rain 0 with
  |some p =>
   obtain ⟨i,e⟩:=p
   have he:=eP hb
   have hg:(e==0)=false:=by simpa using he
   (repeat (first|simp only [↓QA,QB,seval,bW,oS,hb,kI,hg,enc3]|refine rd0 rfl ?_))
  |none =>
   (repeat (first|simp only [↓QA,QB,seval,bW,oS,hb,kI]|refine rd0 rfl ?_))
   ((first|refine aE (t8 v.way 0 9) rfl dd ?_|refine aG (t8 v.way 0 9) rfl dd ?_);(repeat (first|simp only [↓QA,QB,seval,bW]|refine rd0 rfl ?_)))
   ((first|refine bJ (aY 0 30 [v.full,v.ripe] (by simp)) (by simp [clr,clrs,ints]) (by simp [okV,okVs]) ?_|refine cP (aY 0 30 [v.full,v.ripe] (by simp)) (by simp [clr,clrs,ints]) (by simp [okV,okVs]) ?_);(repeat (first|simp only [↓QA,QB,seval,bW,xS]|refine rd0 rfl ?_)))
   cases h2:(!inR v.full 0 30||!inR v.ripe 0 30)
   ·have h2':¬(inR v.full 0 30=false∨inR v.ripe 0 30=false):=by
     intro h;rcases h with h|h<;>rw [h] at h2<;>simp at h2
    cases h5:(dV v.way 0 9==0)
    ·have h5':dV v.way 0 9≠0:=by simpa using h5
     (repeat (first|simp only [↓QA,QB,seval,bW,h5]|refine rd0 rfl ?_))
     by_cases h4:dV v.way 0 9=7
     ·simp [eK,h4,enc3]
     ·have:¬(inR v.full 0 30=false∨inR v.ripe 0 30=false∨dV v.way 0 9=7):=by
       rintro (h|h|h)
       ·exact h2' (.inl h)
       ·exact h2' (.inr h)
       ·exact h4 h
      simp [eK,this,h5',enc3]
    ·have h5':dV v.way 0 9=0:=by simpa using h5
     have hc:eK v=gI v:=by
      have:¬(inR v.full 0 30=false∨inR v.ripe 0 30=false∨dV v.way 0 9=7):=by
       rintro (h|h|h)
       ·exact h2' (.inl h)
       ·exact h2' (.inr h)
       ·omega
      rw [eK,if_neg this,if_pos h5']
     rw [hc]
     (repeat (first|simp only [↓QA,QB,seval,bW,h5]|refine rd0 rfl ?_))
     cases h6:decide ((4:Int)<(v.plots.length:Int))
     case' true =>
      have h6':4<v.plots.length:=by first|(have:=of_decide_eq_false h6;omega)|(have:=of_decide_eq_true h6;omega)
      (repeat (first|simp only [↓QA,QB,seval,bW,h6]|refine rd0 rfl ?_))
      simp [gI,h6',enc3]
     have h6':¬4<v.plots.length:=by first|(have:=of_decide_eq_false h6;omega)|(have:=of_decide_eq_true h6;omega)
     have hc:gI v=match aL (nL v) v.plots 0 with|some (i,e)=>(3,(i:Int),e)|none=>gD v:=by simp only [gI,h6',if_false];try rfl
     rw [hc]
     have hf:=HI [.cells (aB v)] (.func 348 [] [.ptr 0 0]) v.plots (nL v) h.plots (fun τ=>by try simp only [QS,QC,seval,bW]) fun i hi=>GC v h i hi _
     try simp only [↓QA,QB,seval,bW] at hf
     (repeat (first|simp only [↓QA,QB,seval,bW,h6]|refine rd0 rfl ?_))
     refine aV hf ?_
     cases hb:aL (nL v) v.plots 0 with
     |some p =>
      obtain ⟨i,e⟩:=p
      have he:=eP hb
      have hg:(e==0)=false:=by simpa using he
      (repeat (first|simp only [↓QA,QB,seval,bW,oS,hb,kI,hg,enc3]|refine rd0 rfl ?_))
     |none =>
      (repeat (first|simp only [↓QA,QB,seval,bW,oS,hb,kI]|refine rd0 rfl ?_))
      cases h7:decide ((4:Int)<(v.looks.length:Int))
      case' true =>
       have h7':4<v.looks.length:=by first|(have:=of_decide_eq_false h7;omega)|(have:=of_decide_eq_true h7;omega)
       (repeat (first|simp only [↓QA,QB,seval,bW,h7]|refine rd0 rfl ?_))
       simp [gD,h7',enc3]
      have h7':¬4<v.looks.length:=by first|(have:=of_decide_eq_false h7;omega)|(have:=of_decide_eq_true h7;omega)
      have hc:gD v=match aL (qF v) v.looks 0 with|some (i,e)=>(4,(i:Int),e)|none=>(0,0,0):=by simp only [gD,h7',if_false];try rfl
      rw [hc]
      have hf:=rX [.cells (aB v)] (.func 352 [] [.ptr 0 0]) v.looks (qF v) h.looks (fun τ=>by try simp only [QS,QC,seval,bW]) fun i hi=>GI v h i _
      try simp only [↓QA,QB,seval,bW] at hf
      (repeat (first|simp only [↓QA,QB,seval,bW,h7]|refine rd0 rfl ?_))
      refine aV hf ?_
      cases hb:aL (qF v) v.looks 0 with
      |some p =>
       obtain ⟨i,e⟩:=p
       have he:=eP hb
       have hg:(e==0)=false:=by simpa using he
       (repeat (first|simp only [↓QA,QB,seval,bW,oS,hb,kI,hg,enc3]|refine rd0 rfl ?_))
      |none =>
       (repeat (first|simp only [↓QA,QB,seval,bW,oS,hb,kI,enc3]|refine rd0 rfl ?_))
   ·have h2':inR v.full 0 30=false∨inR v.ripe 0 30=false:=by
     cases a:inR v.full 0 30
     ·exact .inl rfl
     ·cases b:inR v.ripe 0 30
      ·exact .inr rfl
      ·rw [a,b] at h2;simp at h2
    have:inR v.full 0 30=false∨inR v.ripe 0 30=false∨dV v.way 0 9=7:=by
     rcases h2' with h|h
     ·exact .inl h
     ·exact .inr (.inl h)
    (repeat (first|simp only [↓QA,QB,seval,bW]|refine rd0 rfl ?_))
    simp [eK,this,enc3]
theorem lQ (s n:Nat) (hs:s<9223372036854775808) (hn:n≤60):cN T 117 [.int .i64 s,.int .i64 n] (ints (lst n s)):=by
 refine aQ (af:=a117) rfl (by simp [a117]) dd ?_
 (repeat (first|simp only [↓QA,QB,seval,bW,a117]|refine rd0 rfl ?_))
 obtain ⟨R,hRR⟩:∃ R,lst n s=R:=⟨_,rfl⟩
 have hRR':[]++(aP ((0:Nat):Int) (n-0)).filter (fun i=>decide (s/2^i.toNat%2=1))=R:=hRR
 rw [hRR]
 refine oK 4 1 [] rfl ?_
 refine bU (S:=Nat×List Int×Bool) (0,[],false) (fun x=>x.1≤n∧x.2.1.length≤x.1∧x.2.1++(aP (x.1:Int) (n-x.1)).filter (fun i=>decide (s/2^i.toNat%2=1))=R) (fun x=>n-x.1)
  (fun x=>[(0,.int .i64 s),(4,.lit (x.2.1.map (.int .i64)) false (some 0)),(6,.int .i64 n),(7,.int .i64 x.1)]) (fun x=>[.tok 1 x.2.1.length x.2.2]) ⟨by simp,by simp,hRR'⟩ rfl ?_ fun x hx=>?_
 ·try simp only [aF,QE,seval,bW]
  try simp
 ·obtain ⟨k,acc,ex⟩:=x
  obtain ⟨hk,hal,hacc⟩:=hx
  simp only at hk hal hacc
  (repeat (first|simp only [↓QA,QB,seval,bW,TE]|refine rd0 rfl ?_))
  refine aJ (fun h=>?_) fun h=>?_
  ·have hk1:k<n:=by simpa using h
   have hw:=b7 hk1 (by omega)
   rw [show n-k=(n-(k+1))+1 by omega] at hacc
   simp only [aP,List.filter_cons,Int.toNat_natCast] at hacc
   rw [show ((k:Int)+1)=((k+1:Nat):Int) by omega] at hacc
   have vs:=JK s k (by omega)
   have va:=C2 (s/2^k) (Nat.lt_of_le_of_lt (Nat.div_le_self _ _) hs)
   have hbit:(((s/2^k%2:Nat):Int)==1)=decide (s/2^k%2=1):=by
    generalize s/2^k%2=q
    rw [Bool.eq_iff_iff,beq_iff_eq,decide_eq_true_eq];omega
   (repeat (first|simp only [↓QA,QB,seval,bW,vs,va,hbit]|refine rd0 rfl ?_))
   cases hb:decide (s/2^k%2=1)
   ·simp only [hb,Bool.false_eq_true,if_false] at hacc
    (repeat (first|simp only [↓QA,QB,seval,bW,hw]|refine rd0 rfl ?_))
    refine ⟨(k+1,acc,ex),⟨by simp only;omega,by simp only;omega,by simpa using hacc⟩,by simp only;omega,?_⟩
    try simp only [aF,QE,seval,bW,hw,gL]
    try simp [aT]
   ·simp only [hb,if_true] at hacc
    have hap:=fun (τ:St)=>iG (σ:=.tok 1 acc.length ex::τ) (l:=acc) (a:=(k:Int)) (ex:=ex) (t:=0) (by omega) rfl
    (repeat (first|simp only [↓QA,QB,seval,bW,hw,hap]|refine rd0 rfl ?_))
    refine ⟨(k+1,acc++[(k:Int)],true),⟨by simp only;omega,by simp only [List.length_append,List.length_cons,List.length_nil];omega,by
     rw [←hacc];simp⟩,by simp only;omega,?_⟩
    try simp only [aF,QE,seval,bW,hw,gL,List.map_append,List.map_cons,List.map_nil]
    try simp [aT]
  ·have hk1:k=n:=by simp at h;omega
   rw [hk1] at hacc
   simp only [Nat.sub_self,aP,List.filter_nil,List.append_nil] at hacc
   (repeat (first|simp only [↓QA,QB,seval,bW,hacc,ints]|refine rd0 rfl ?_))
def pG (must never:Bool):Int:=if must then 1 else if never then 2 else 0
theorem BG (must never:Bool):cN T 444 [.bool must,.bool never] (.int .i64 (pG must never)):=by
 refine aQ (af:=a444) rfl (by simp [a444]) dd ?_
 cases must
 ·cases never
  all_goals (repeat (first|simp only [↓QA,QB,seval,bW,a444,pG,Bool.false_eq_true]|refine rd0 rfl ?_))
 ·(repeat (first|simp only [↓QA,QB,seval,bW,a444,pG]|refine rd0 rfl ?_))
theorem XU:cN T 222 [] (.int .i64 0):=by
 refine aQ (af:=a222) rfl (by simp [a222]) bF ?_
 (repeat (first|simp only [↓QA,QB,seval,bW,a222]|refine rd0 rfl ?_))
end Go.Am.Room.Fa
set_option maxRecDepth 4000
namespace Go.Am.Room.Fa
def sH:=And.intro @cC (And.intro @aK (And.intro @cE (And.intro @encLook_eq (And.intro @aC (And.intro @cS (And.intro @S_mapLook (And.intro @cT (And.intro @bI (And.intro @jU (And.intro @List.length_append.{0} (And.intro @gU (And.intro @kU (And.intro @kL (And.intro @tG (And.intro @kM (And.intro @tP (And.intro @Nat.mul_one (@Int.toNat_natCast))))))))))))))))))
theorem DS (n sz id off:Nat) (k k':IntKind) (lo hi:Int):BD n sz (.ptr id off) (some (.int k lo)) (some (.int k' hi))=if 0≤lo∧lo≤hi∧hi≤n then some (.ref id (off+lo.toNat*sz) (hi.toNat-lo.toNat) sz) else none:=by simp only [BD,nH,fP]
theorem YY (r:Nat→Int) (a d:Nat):pts r (min a d) d=pts r a d:=by
 by_cases h:a≤d
 ·rw [Nat.min_eq_left h]
 ·rw [Nat.min_eq_right (by omega),C5,HO r (by omega)]
theorem HR (x:AV) (r:Nat→Int) (a d:Nat) (hr:∀ i,0≤r i∧r i≤2) (hd:d≤7) (σ:St) :
  wp T a234.body (fC 0 [x,.agg (dN 7 r),.int .i64 a,.int .i64 d]) σ (FF a234.results σ (.int .i64 (pts r a d))):=by
 rw [←YY]
 have hm:min (a:Int) (d:Int)=((min a d:Nat):Int):=by omega
 obtain ⟨A,hA⟩:∃ A,min a d=A:=⟨_,rfl⟩
 rw [hA] at hm ⊢
 have hAd:A≤d:=by omega
 have c1:(0:Int)≤(A:Int)∧(A:Int)≤(d:Int)∧(d:Int)≤((7:Nat):Int):=⟨by omega,by omega,by omega⟩
 (repeat (first|simp only [↓QA,QB,Nat.reduceLT,reduceIte,Nat.reduceEqDiff,Nat.reduceAdd,Nat.reduceLeDiff,Nat.reduceMul,Nat.reduceBEq,sH,DS,a234,hm,c1]|refine rd0 rfl ?_))
 refine bU (S:=Nat) 0 (fun k=>k≤d-A) (fun k=>d-A-k) (fun k=>[(8,.int .i64 (pts r A (A+k))),(15,.ref σ.length (0+A) (d-A) 1),(16,.int .i64 ((d-A:Nat):Int)),(17,.int .i64 k)]) (fun _=>σ++[.cells (dN 7 r)]) (Nat.zero_le _) (by simp) ?_ fun k hk=>?_
 ·try simp only [aF,QE,Nat.reduceLT,reduceIte,Nat.reduceEqDiff,Nat.reduceAdd,Nat.reduceLeDiff,Nat.reduceMul,Nat.reduceBEq,sH,DS,Nat.add_zero,C5]
  try simp
 ·(repeat (first|simp only [↓QA,QB,Nat.reduceLT,reduceIte,Nat.reduceEqDiff,Nat.reduceAdd,Nat.reduceLeDiff,Nat.reduceMul,Nat.reduceBEq,sH,DS,SR]|refine rd0 rfl ?_))
  refine aJ (fun h=>?_) fun h=>?_
  ·have hk1:k<d-A:=by
    have h0:(k:Int)<((d-A:Nat):Int):=by simpa using h
    omega
   have hw:=b7 hk1 (by omega)
   have hi7:A+k<7:=by omega
   have hget:=lJ 7 r hi7
   have c2:(0:Int)≤(k:Int)∧(k:Int)<((d-A:Nat):Int)∧1=1:=⟨by omega,by omega,rfl⟩
   have hb:=vP hr A (A+k)
   have hs:=xC r (show A≤A+k by omega)
   have hrk:=hr (A+k)
   obtain ⟨P,hP⟩:∃ P,pts r A (A+k)=P:=⟨_,rfl⟩
   obtain ⟨R,hR⟩:∃ R,r (A+k)=R:=⟨_,rfl⟩
   rw [hP] at hb hs
   rw [hR] at hs hrk hget
   have w1:IntKind.i64.wrap (1+R)=1+R:=aX ⟨by omega,by omega⟩
   have w2:IntKind.i64.wrap (P+(1+R))=P+(1+R):=aX ⟨by omega,by omega⟩
   rw [hP]
   (repeat (first|simp only [↓QA,QB,Nat.reduceLT,reduceIte,Nat.reduceEqDiff,Nat.reduceAdd,Nat.reduceLeDiff,Nat.reduceMul,Nat.reduceBEq,sH,DS,c2,Nat.zero_add,hget,w1,w2,hw]|refine rd0 rfl ?_))
   refine ⟨k+1,by omega,by omega,?_⟩
   try simp only [aF,QE,Nat.reduceLT,reduceIte,Nat.reduceEqDiff,Nat.reduceAdd,Nat.reduceLeDiff,Nat.reduceMul,Nat.reduceBEq,sH,DS,hw,show A+(k+1)=A+k+1 by omega,hs,Nat.zero_add,gH (Nat.lt_succ_self σ.length)]
   try simp [aT,uT]
  ·have hk1:k=d-A:=by
    have h0:¬(k:Int)<((d-A:Nat):Int):=by simpa using h
    omega
   subst hk1
   rw [show A+(d-A)=d by omega]
   (repeat (first|simp only [↓QA,QB,Nat.reduceLT,reduceIte,Nat.reduceEqDiff,Nat.reduceAdd,Nat.reduceLeDiff,Nat.reduceMul,Nat.reduceBEq,sH,DS]|refine rd0 rfl ?_))
   refine bY [.cells (dN 7 r)] (by first|rfl|simp) ?_
   try simp only [QS,QC,Nat.reduceLT,reduceIte,Nat.reduceEqDiff,Nat.reduceAdd,Nat.reduceLeDiff,Nat.reduceMul,Nat.reduceBEq,sH,DS]
theorem E3 (x:AV) (r:Nat→Int) (a d:Nat) (hr:∀ i,0≤r i∧r i≤2) (hd:d≤7) (σ:St):eA T (.func 234 [] []) [x,.agg (dN 7 r),.int .i64 a,.int .i64 d] σ (.int .i64 (pts r a d)) :=
 bR (af:=a234) rfl (by simp [a234]) (HR x r a d hr hd σ)
theorem MA (x:AV) (r:Nat→Int) (a d:Nat) (hr:∀ i,0≤r i∧r i≤2) (hd:d≤7) (σ:St):eA T (.func 234 [x] []) [.agg (dN 7 r),.int .i64 a,.int .i64 d] σ (.int .i64 (pts r a d)) :=
 bR (af:=a234) rfl (by simp [a234]) (HR x r a d hr hd σ)
def fF (ds:List Int):Nat:=ds.foldl (fun s d=>s|||2^d.toNat) 0
theorem UB (ds:List Int) (d:Int):fF (ds++[d])=fF ds|||2^d.toNat:=by simp [fF]
theorem EV:∀ (ds:List Int) (s:Nat),(∀ d∈ds,0≤d)→∀ i:Nat,(ds.foldl (fun s d=>s|||2^d.toNat) s).testBit i=(s.testBit i||ds.contains (i:Int))
 |[],s,_,i=>by simp
 |d::ds,s,h,i=>by
  rw [List.foldl_cons,EV ds _ (fun x hx=>h x (by simp [hx])) i,Nat.testBit_or,Nat.testBit_two_pow,List.contains_cons,Bool.or_assoc]
  congr 2
  have:=h d (by simp)
  rw [Bool.eq_iff_iff,decide_eq_true_eq,beq_iff_eq]
  omega
theorem xW {ds:List Int} (h:∀ d∈ds,0≤d) (i:Nat):(fF ds).testBit i=ds.contains (i:Int):=by
 rw [fF,EV ds 0 h i];simp
theorem A9 {ds:List Int} {n:Nat} (h:∀ d∈ds,0≤d∧d<n):fF ds<2^n:=by
 refine Nat.lt_pow_two_of_testBit _ fun i hi=>?_
 rw [xW (fun d hd=>(h d hd).1),Bool.eq_false_iff]
 intro hc
 rw [List.contains_iff_mem] at hc
 have:=h _ hc
 omega
theorem O9 {ds:List Int} (h:∀ d∈ds,0≤d):fF ds=0↔ds=[]:=by
 constructor
 ·intro h0
  cases ds with
  |nil=>rfl
  |cons d ds =>
   exfalso
   have hd:=h d (by simp)
   have h1:=xW h d.toNat
   rw [h0,Nat.zero_testBit,show ((d.toNat:Nat):Int)=d by omega] at h1
   simp at h1
 ·rintro rfl;rfl
theorem pU:∀ (n:Nat) (a lo:Int) (k:Nat),a≤lo→lo+k≤a+n→(aP a n).filter (fun x=>decide (lo≤x)&&decide (x<lo+k))=aP lo k
 |0,a,lo,k,h1,h2=>by
  have:k=0:=by omega
  subst this
  rfl
 |n+1,a,lo,k,h1,h2=>by
  simp only [aP,List.filter_cons]
  by_cases h:a=lo
  ·subst h
   cases k with
   |zero =>
    have hz:(decide (a≤a)&&decide (a<a+((0:Nat):Int)))=false:=by simp
    rw [hz]
    simp only [Bool.false_eq_true,if_false,aP]
    rw [List.filter_eq_nil_iff]
    intro x hx
    have:=(cO _ _ _).1 hx
    rw [Bool.and_eq_true,decide_eq_true_eq,decide_eq_true_eq]
    omega
   |succ k =>
    have hz:(decide (a≤a)&&decide (a<a+((k+1:Nat):Int)))=true:=by
     rw [Bool.and_eq_true,decide_eq_true_eq,decide_eq_true_eq];omega
    rw [hz]
    simp only [if_true,aP]
    congr 1
    rw [←pU n (a+1) (a+1) k (Int.le_refl _) (by omega)]
    refine List.filter_congr fun x hx=>?_
    have:=(cO _ _ _).1 hx
    rw [Bool.eq_iff_iff]
    simp
    omega
  ·have hz:(decide (lo≤a)&&decide (a<lo+(k:Int)))=false:=by simp;omega
   rw [hz]
   simp only [Bool.false_eq_true,if_false]
   exact pU n (a+1) lo k (by omega) (by omega)
theorem VT {lo:Int} {k n:Nat} (ok:Int→Bool) (h0:0≤lo) (h1:lo+k≤n):lst n (fF ((aP lo k).filter ok))=(aP lo k).filter ok:=by
 have hn:∀ d∈(aP lo k).filter ok,0≤d:=fun d hd=>by
  have:=(cO _ _ _).1 (List.mem_filter.1 hd).1
  omega
 rw [lst]
 have e:(aP 0 n).filter (fun i=>decide (fF ((aP lo k).filter ok)/2^i.toNat%2=1))=((aP 0 n).filter (fun x=>decide (lo≤x)&&decide (x<lo+k))).filter ok:=by
  rw [List.filter_filter]
  refine List.filter_congr fun x hx=>?_
  have hx0:=(cO _ _ _).1 hx
  rw [←u5,xW hn,show ((x.toNat:Nat):Int)=x by omega,Bool.eq_iff_iff,List.contains_iff_mem,List.mem_filter,cO]
  simp
  constructor
  ·rintro ⟨⟨a,b⟩,c⟩;exact ⟨c,a,b⟩
  ·rintro ⟨c,a,b⟩;exact ⟨⟨a,b⟩,c⟩
 rw [e,pU n 0 lo k h0 (by omega)]
theorem KF {v:Farm} (hv:Vd v) {p:Nat} (hp:p<v.plots.length) (rain but:List Int):lst v.rain.length (fF (bH v p rain but))=bH v p rain but:=by
 have:=(EY hv hp).1
 rw [bH,qP hp,nD]
 exact VT _ this.1 (by omega)
def gM:List Span→List Int→List (List Int)
 |[],l=>[l]
 |s::rs,l=>(nD s).flatMap fun n=>gM rs (l++[n])
theorem IX {rs:List Span}:∀ k,k≤rs.length→(dL rs k).flatMap (gM (rs.drop k))=gM rs []
 |0,_=>by simp [dL]
 |k+1,h=>by
  have hk:k<rs.length:=by omega
  rw [←IX k (by omega),lD hk,List.flatMap_assoc]
  congr 1
  funext l
  rw [List.drop_eq_getElem_cons hk,gM,ext,List.flatMap_map]
theorem zS {α:Type}:∀ l:List α,(l.flatMap fun x=>[x])=l
 |[]=>rfl
 |x::l=>by rw [List.flatMap_cons,zS l];rfl
theorem D9 (v:Farm):gM v.rain []=mI v:=by
 rw [←IX v.rain.length (Nat.le_refl _),List.drop_length]
 exact zS _
theorem zI:∀ (rs:List Span) (l c:List Int),c∈gM rs l→∃ t,c=l++t
 |[],l,c,h=>by simp only [gM,List.mem_singleton] at h;exact ⟨[],by simp [h]⟩
 |s::rs,l,c,h=>by
  simp only [gM,List.mem_flatMap] at h
  obtain ⟨n,_,hc⟩:=h
  obtain ⟨t,rfl⟩:=zI rs _ c hc
  exact ⟨n::t,by simp⟩
theorem C7:∀ (n:Nat) (a:Int),(aP a n).Pairwise (·≠·)
 |0,a=>List.Pairwise.nil
 |n+1,a=>by
  simp only [aP]
  refine List.Pairwise.cons (fun x hx=>?_) (C7 n (a+1))
  have:=(cO _ _ _).1 hx
  omega
theorem CZ:∀ (rs:List Span) (l:List Int),(gM rs l).Pairwise (·≠·)
 |[],l=>by simp [gM]
 |s::rs,l=>by
  simp only [gM]
  rw [List.pairwise_flatMap]
  refine ⟨fun n _=>CZ rs _,List.Pairwise.imp ?_ (C7 _ _)⟩
  intro n m hnm x hx y hy e
  obtain ⟨t,rfl⟩:=zI _ _ _ hx
  obtain ⟨u,hu⟩:=zI _ _ _ hy
  have e2:=e.trans hu
  rw [List.append_assoc,List.append_assoc] at e2
  have:=List.append_cancel_left e2
  simp at this
  exact hnm this.1
def kR {A X:Type} [DecidableEq A] (f:A→X→X×Bool) (a:A) (s:Option A×X):(Option A×X)×Bool:=if s.1=some a then (s,true) else ((some a,(f a s.2).1),(f a s.2).2)
theorem CO {A X:Type} [DecidableEq A] (f:A→X→X×Bool):∀ (l:List A) (o:Option A) (x:X),l.Pairwise (·≠·)→(∀ a∈l,o≠some a)→(fW (kR f) l (o,x)).1.2=(fW f l x).1∧(fW (kR f) l (o,x)).2=(fW f l x).2
 |[],o,x,_,_=>⟨rfl,rfl⟩
 |a::l,o,x,h,ho=>by
  have h0:=ho a (by simp)
  obtain ⟨h1,h2⟩:=List.pairwise_cons.1 h
  have ih:=CO f l (some a) (f a x).1 h2 fun b hb e=>h1 b hb (by simpa using e)
  simp only [fW,kR,h0,if_false]
  split
  ·exact ih
  ·exact ⟨rfl,rfl⟩
end Go.Am.Room.Fa
set_option maxRecDepth 4000
namespace Go.Am.Room.Fa
def dC:=And.intro @cC (And.intro @aK (And.intro @cE (And.intro @encLook_eq (And.intro @aC (And.intro @cS (And.intro @S_mapLook (And.intro @cT (And.intro @bI (And.intro @jU (And.intro @List.length_append.{0} (And.intro @gU (And.intro @kU (And.intro @kL (And.intro @tG (And.intro @kM (And.intro @tP (And.intro @Nat.mul_one (@Int.toNat_natCast))))))))))))))))))
def db (v:Farm) (b m:Nat):List AV:=aB v++[.int .i64 b,.map m]
theorem iL (v:Farm) (b m:Nat):(db v b m)[0]? = some (.lit (v.rain.map bC) false none):=by simp [db,aB]
theorem iP (v:Farm) (b m:Nat):(db v b m)[1]? = some (.int .i64 v.full):=by simp [db,aB]
theorem iT (v:Farm) (b m:Nat):(db v b m)[2]? = some (.int .i64 v.ripe):=by simp [db,aB]
theorem iM (v:Farm) (b m:Nat):(db v b m)[3]? = some (.int .i64 v.way.lo):=by simp [db,aB]
theorem iK (v:Farm) (b m:Nat):(db v b m)[4]? = some (.int .i64 v.way.hi):=by simp [db,aB]
theorem iX (v:Farm) (b m:Nat):(db v b m)[5]? = some (.lit (v.plots.map cL) false none):=by simp [db,aB]
theorem iW (v:Farm) (b m:Nat):(db v b m)[6]? = some (.lit (v.looks.map encLook) false none):=by simp [db,aB]
theorem iR (v:Farm) (b m:Nat):(db v b m)[7]? = some (.int .i64 b):=by simp [db,aB]
theorem iO (v:Farm) (b m:Nat):(db v b m)[8]? = some (.map m):=by simp [db,aB]
theorem aDV (v:Farm) (b:Nat) {m k:Nat} (h:m<k):okVs k (db v b m):=by
 have:=okVs_up (m:=k) _ (rB v).1
 refine s9 this ?_
 simp [okVs,okV,h]
def iI (v:Farm) (c bl:List Int) (k:Nat) (q:Nat):Int:=if q<k then (fF (bH v q c bl):Int) else 0
def vA (v:Farm) (c bl:List Int):Nat→Nat→Nat×Bool
 |0,p=>(p,true)
 |n+1,p=>if (bH v p c bl).isEmpty then (p,false) else vA v c bl n (p+1)
theorem HS (v:Farm) (c bl:List Int):∀ n p,(vA v c bl n p).2=((List.range n).all fun i=>!(bH v (p+i) c bl).isEmpty)∧((vA v c bl n p).2=true→(vA v c bl n p).1=p+n)
 |0,p=>⟨rfl,fun _=>rfl⟩
 |n+1,p=>by
  obtain ⟨h1,h2⟩:=HS v c bl n (p+1)
  have hr:(List.range (n+1)).all (fun i=>!(bH v (p+i) c bl).isEmpty)=(!(bH v p c bl).isEmpty&&(List.range n).all fun i=>!(bH v (p+1+i) c bl).isEmpty):=by
   rw [List.range_succ_eq_map,List.all_cons,List.all_map]
   have e:((fun i=>!(bH v (p+i) c bl).isEmpty)∘Nat.succ)=fun i=>!(bH v (p+1+i) c bl).isEmpty:=by
    funext i
    simp only [Function.comp,show p+Nat.succ i=p+1+i by omega]
   rw [e]
   rfl
  simp only [vA]
  split
  ·rename_i h
   rw [hr,h]
   exact ⟨rfl,fun h=>by cases h⟩
  ·rename_i h
   rw [hr,Bool.not_eq_true] at *
   rw [h,h1]
   refine ⟨rfl,fun h=>?_⟩
   rw [h2 (by rw [h1];exact h)]
   omega
theorem LF {v:Farm} {c bl:List Int} {k:Nat}:lA (iI v c bl k) k (fF (bH v k c bl))=iI v c bl (k+1):=by
 funext i
 simp only [lA,iI]
 by_cases h:i=k
 ·subst h;simp
 ·simp only [h,if_false]
  by_cases h2:i<k
  ·rw [if_pos h2,if_pos (by omega)]
  ·rw [if_neg h2,if_neg (by omega)]
theorem C6 {v:Farm} {c bl:List Int} {k:Nat}:lA (iI v c bl k) k 0=iI v c bl k:=by
 funext i
 simp only [lA]
 by_cases h:i=k
 ·subst h;simp [iI]
 ·simp only [h,if_false]
theorem yW (f:Nat→Int) (k:Nat) (a b:Int):lA (lA f k a) k b=lA f k b:=by
 funext i
 simp only [lA]
 split<;>rfl
theorem LN {v:Farm} {p:Int} {c bl:List Int} {d:Int} {k:Nat} (hk:k<v.looks.length) (h:qC p bl c d k v.looks[k]=false):j8 v p c bl d=false:=by
 simp only [j8]
 rw [Bool.eq_false_iff]
 intro ha
 have:=List.all_eq_true.1 ha k (by simpa using hk)
 rw [List.getElem?_eq_getElem hk] at this
 simp only at this
 rw [h] at this
 cases this
theorem F2 (v:Farm) (hv:Vd v) (b m p:Nat) (bl c:List Int) (hb:ButIs b bl) (hc:RainOk v c) (σ:St) (hp:aM σ p=some (db v b m)) :
  eA T (.func 354 [] []) [.ptr p 0,.agg (dN 7 (rl c))] σ (.tuple [.agg (dN 4 (iI v c bl (vA v c bl v.plots.length 0).1)),.bool (vA v c bl v.plots.length 0).2]):=by
 refine bR (af:=a354) rfl (by simp [a354]) ?_
 have hno:=hv.npl
 have hnr:=hv.nra
 have hnl:=hv.nlk
 have hpl:=xM hp
 have h0:=fun τ=>qG hp τ
 have hbd:=nY hv hc
 have hp2:p<σ.length+2:=by omega
 have hp3:p<σ.length+3:=by omega
 obtain ⟨R,hR⟩:∃ R,vA v c bl v.plots.length 0=R:=⟨_,rfl⟩
 rw [hR]
 have hz:[AV.int .i64 0,.int .i64 0,.int .i64 0,.int .i64 0]=dN 4 (iI v c bl 0):=by simp [dN,iI,List.range_succ]
 obtain ⟨N,hN⟩:∃ N,σ.length=N:=⟨_,rfl⟩
 (repeat (first|simp only [↓QA,QB,Nat.reduceLT,reduceIte,Nat.reduceEqDiff,Nat.reduceAdd,Nat.reduceLeDiff,Nat.reduceMul,Nat.reduceBEq,dC,iL,iP,iT,iM,iK,iX,iW,iR,iO,a354,h0,hz]|refine rd0 rfl ?_))
 refine bU (S:=Nat) 0 (fun k=>k≤v.plots.length∧vA v c bl (v.plots.length-k) k=R) (fun k=>v.plots.length-k)
  (fun k=>[(0,.ptr p 0),(3,.ptr σ.length 0),(4,.ptr (σ.length+1) 0),(6,.func 234 [.ptr p 0] []),(19,.lit (v.plots.map cL) false none),(20,.int .i64 v.plots.length),(21,.int .i64 k)])
  (fun k=>σ++[.cells (dN 7 (rl c)),.cells (dN 4 (iI v c bl k))]) ⟨Nat.zero_le _,by simpa using hR⟩ (by simp) ?_ fun k hk=>?_
 ·try simp only [aF,QE,Nat.reduceLT,reduceIte,Nat.reduceEqDiff,Nat.reduceAdd,Nat.reduceLeDiff,Nat.reduceMul,Nat.reduceBEq,dC,iL,iP,iT,iM,iK,iX,iW,iR,iO,hp2,hp3]
  try simp
 ·obtain ⟨hk,hq⟩:=hk
  (repeat (first|simp only [↓QA,QB,Nat.reduceLT,reduceIte,Nat.reduceEqDiff,Nat.reduceAdd,Nat.reduceLeDiff,Nat.reduceMul,Nat.reduceBEq,dC,iL,iP,iT,iM,iK,iX,iW,iR,iO,RM]|refine rd0 rfl ?_))
  refine aJ (fun hd=>?_) fun hd=>?_
  ·have hk1:k<v.plots.length:=by simpa using hd
   have hw:=b7 hk1 (by omega)
   have hplk:=(EY hv hk1).1
   have hfb:=rF hv hk1 c bl
   have hfe:bH v k c bl=(aP v.plots[k].flower.lo (v.plots[k].flower.hi+1-v.plots[k].flower.lo).toNat).filter (j8 v k c bl):=by rw [bH,qP hk1];rfl
   rw [show v.plots.length-k=(v.plots.length-(k+1))+1 by omega] at hq
   simp only [vA] at hq
   obtain ⟨y,hy⟩:∃ y,v.plots[k]=y:=⟨_,rfl⟩
   rw [hy] at hplk hfe
   obtain ⟨F,hF⟩:∃ F,bH v k c bl=F:=⟨_,rfl⟩
   have hnx:=@LF v c bl k
   rw [hF] at hq hfe hfb hnx
   obtain ⟨L,hL⟩:∃ L:Nat,y.flower.lo=(L:Int):=⟨y.flower.lo.toNat,by omega⟩
   obtain ⟨H,hH⟩:∃ H:Nat,y.flower.hi=(H:Int):=⟨y.flower.hi.toNat,by omega⟩
   rw [hL,hH] at hfe hplk
   have i4:(0:Int)≤(k:Int)∧(k:Int)<((4:Nat):Int):=⟨by omega,by omega⟩
   have c4:k+1≤4:=by omega
   have hk4:k<4:=by omega
   (repeat (first|simp only [↓QA,QB,Nat.reduceLT,reduceIte,Nat.reduceEqDiff,Nat.reduceAdd,Nat.reduceLeDiff,Nat.reduceMul,Nat.reduceBEq,dC,iL,iP,iT,iM,iK,iX,iW,iR,iO,hk1,hy]|refine rd0 rfl ?_))
   refine bU (S:=Nat×List Int) (L,[]) (fun a=>L≤a.1∧a.1≤H+1∧a.2++(aP (a.1:Int) ((H:Int)+1-a.1).toNat).filter (j8 v k c bl)=F) (fun a=>H+1-a.1)
    (fun a=>[(0,.ptr p 0),(3,.ptr σ.length 0),(4,.ptr (σ.length+1) 0),(6,.func 234 [.ptr p 0] []),(7,.int .i64 k),(8,.ptr (σ.length+2) 0),(9,.int .i64 a.1),(19,.lit (v.plots.map cL) false none),(20,.int .i64 v.plots.length),(21,.int .i64 k)])
    (fun a=>σ++[.cells (dN 7 (rl c)),.cells (dN 4 (lA (iI v c bl k) k (fF a.2))),.cells [.str y.name,.int .i64 y.flower.lo,.int .i64 y.flower.hi,.int .i64 y.hands]]) ⟨Nat.le_refl _,by simp only;omega,by rw [hfe];rfl⟩ ?_ ?_ fun a ha=>?_
   ·have:(fF []:Int)=0:=rfl
    simp only [this,C6]
   ·try simp only [aF,QE,Nat.reduceLT,reduceIte,Nat.reduceEqDiff,Nat.reduceAdd,Nat.reduceLeDiff,Nat.reduceMul,Nat.reduceBEq,dC,iL,iP,iT,iM,iK,iX,iW,iR,iO,hp2,hp3,hL]
    try simp
   ·obtain ⟨d,acc⟩:=a
    obtain ⟨hd0,hd1,hacc⟩:=ha
    simp only at hd0 hd1 hacc
    have hadF:∀ x∈acc,0≤x∧x<v.rain.length:=fun x hx=>hfb.2 x (by rw [←hacc];simp [hx])
    (repeat (first|simp only [↓QA,QB,Nat.reduceLT,reduceIte,Nat.reduceEqDiff,Nat.reduceAdd,Nat.reduceLeDiff,Nat.reduceMul,Nat.reduceBEq,dC,iL,iP,iT,iM,iK,iX,iW,iR,iO,VG]|refine rd0 rfl ?_))
    refine aJ (fun h=>?_) fun h=>?_
    ·have hd2:d≤H:=by
      have h0:(d:Int)≤y.flower.hi:=by simpa using h
      omega
     have hwd:=b7 (show d<H+1 by omega) (by omega)
     rw [uW (show (d:Int)≤(H:Int) by omega),List.filter_cons,show (d:Int)+1=((d+1:Nat):Int) by omega] at hacc
     (repeat (first|simp only [↓QA,QB,Nat.reduceLT,reduceIte,Nat.reduceEqDiff,Nat.reduceAdd,Nat.reduceLeDiff,Nat.reduceMul,Nat.reduceBEq,dC,iL,iP,iT,iM,iK,iX,iW,iR,iO,h0]|refine rd0 rfl ?_))
     refine bU (S:=Nat) 0 (fun i=>i≤v.looks.length∧jJ v k c bl d i=true) (fun i=>v.looks.length-i)
      (fun i=>[(0,.ptr p 0),(3,.ptr σ.length 0),(4,.ptr (σ.length+1) 0),(6,.func 234 [.ptr p 0] []),(7,.int .i64 k),(8,.ptr (σ.length+2) 0),(9,.int .i64 d),(19,.lit (v.plots.map cL) false none),(20,.int .i64 v.plots.length),(21,.int .i64 k),(40,.lit (v.looks.map encLook) false none),(41,.int .i64 v.looks.length),(42,.int .i64 i)])
      (fun i=>σ++[.cells (dN 7 (rl c)),.cells (dN 4 (lA (iI v c bl k) k (fF acc))),.cells [.str y.name,.int .i64 y.flower.lo,.int .i64 y.flower.hi,.int .i64 y.hands]]) ⟨Nat.zero_le _,rfl⟩ (by simp) ?_ fun i hi=>?_
     ·try simp only [aF,QE,Nat.reduceLT,reduceIte,Nat.reduceEqDiff,Nat.reduceAdd,Nat.reduceLeDiff,Nat.reduceMul,Nat.reduceBEq,dC,iL,iP,iT,iM,iK,iX,iW,iR,iO,hp2,hp3]
      try simp
     ·obtain ⟨hi,hup⟩:=hi
      (repeat (first|simp only [↓QA,QB,Nat.reduceLT,reduceIte,Nat.reduceEqDiff,Nat.reduceAdd,Nat.reduceLeDiff,Nat.reduceMul,Nat.reduceBEq,dC,iL,iP,iT,iM,iK,iX,iW,iR,iO,R7]|refine rd0 rfl ?_))
      refine aJ (fun h2=>?_) fun h2=>?_
      ·have hi1:i<v.looks.length:=by simpa using h2
       have hwi:=b7 hi1 (by omega)
       have hsu:=sU hi1 k c bl d
       have hfa:=@LN v k c bl d i hi1
       have hlx:=hv.lk _ (List.getElem_mem hi1)
       rw [hup,Bool.true_and] at hsu
       obtain ⟨x,hx⟩:∃ x,v.looks[i]=x:=⟨_,rfl⟩
       rw [hx] at hsu hlx hfa
       have hlo:qC k bl c d i x=(!(x.plot==(k:Int))||bl.contains (i:Int)||yJ c d x.day==x.points):=by
        simp only [qC]
        congr 3
       obtain ⟨D,hD⟩:∃ D:Nat,x.day=(D:Int):=⟨x.day.toNat,by omega⟩
       have hpe:yJ c d x.day=pts (rl c) d D:=by rw [yJ,hD,Int.toNat_natCast,Int.toNat_natCast]
       rw [hpe] at hlo
       have hfu:=fun τ=>MA (.ptr p 0) (rl c) d D hbd (by omega) τ
       obtain ⟨Z,hZ⟩:∃ Z,pts (rl c) d D=Z:=⟨_,rfl⟩
       rw [hZ] at hlo
       simp only [hZ] at hfu
       have vs:=JK b i (by omega)
       have va:=C2 (b/2^i) (Nat.lt_of_le_of_lt (Nat.div_le_self _ _) hb.lt)
       have hbi:=hb.bit i (by omega)
       (repeat (first|simp only [↓QA,QB,Nat.reduceLT,reduceIte,Nat.reduceEqDiff,Nat.reduceAdd,Nat.reduceLeDiff,Nat.reduceMul,Nat.reduceBEq,dC,iL,iP,iT,iM,iK,iX,iW,iR,iO,hi1,hx]|refine rd0 rfl ?_))
       refine mU [.cells [.int .i64 0,.int .i64 0,.int .i64 0]] rfl ?_
       (repeat (first|simp only [↓QA,QB,Nat.reduceLT,reduceIte,Nat.reduceEqDiff,Nat.reduceAdd,Nat.reduceLeDiff,Nat.reduceMul,Nat.reduceBEq,dC,iL,iP,iT,iM,iK,iX,iW,iR,iO,hD]|refine rd0 rfl ?_))
       refine eL (hfu _) ?_
       (repeat (first|simp only [↓QA,QB,Nat.reduceLT,reduceIte,Nat.reduceEqDiff,Nat.reduceAdd,Nat.reduceLeDiff,Nat.reduceMul,Nat.reduceBEq,dC,iL,iP,iT,iM,iK,iX,iW,iR,iO,hD]|refine rd0 rfl ?_))
       cases hl:(x.plot==(k:Int))
       ·have hlk:qC k bl c d i x=true:=by rw [hlo,hl];rfl
        rw [hlk] at hsu
        (repeat (first|simp only [↓QA,QB,Nat.reduceLT,reduceIte,Nat.reduceEqDiff,Nat.reduceAdd,Nat.reduceLeDiff,Nat.reduceMul,Nat.reduceBEq,dC,iL,iP,iT,iM,iK,iX,iW,iR,iO,hl,hwi]|refine rd0 rfl ?_))
        refine ⟨i+1,⟨by omega,hsu⟩,by omega,?_⟩
        try simp only [aF,QE,Nat.reduceLT,reduceIte,Nat.reduceEqDiff,Nat.reduceAdd,Nat.reduceLeDiff,Nat.reduceMul,Nat.reduceBEq,dC,iL,iP,iT,iM,iK,iX,iW,iR,iO,hp2,hp3,hwi]
        try simp [aT,okVs,okV]
       ·cases hbc:bl.contains (i:Int)
        ·rw [hbc,Bool.not_false] at hbi
         rw [hl,hbc] at hlo
         simp only [Bool.not_true,Bool.false_or] at hlo
         have hxz:(x.points==Z)=(Z==x.points):=by rw [Bool.eq_iff_iff,beq_iff_eq,beq_iff_eq];exact eq_comm
         (repeat (first|simp only [↓QA,QB,Nat.reduceLT,reduceIte,Nat.reduceEqDiff,Nat.reduceAdd,Nat.reduceLeDiff,Nat.reduceMul,Nat.reduceBEq,dC,iL,iP,iT,iM,iK,iX,iW,iR,iO,hl,h0,vs,va,hbi,hxz]|refine rd0 rfl ?_))
         cases hzx:(Z==x.points)
         ·rw [hzx] at hlo
          rw [hfa hlo] at hacc
          simp only [Bool.false_eq_true,if_false] at hacc
          (repeat (first|simp only [↓QA,QB,Nat.reduceLT,reduceIte,Nat.reduceEqDiff,Nat.reduceAdd,Nat.reduceLeDiff,Nat.reduceMul,Nat.reduceBEq,dC,iL,iP,iT,iM,iK,iX,iW,iR,iO,hwd]|refine rd0 rfl ?_))
          refine ⟨(d+1,acc),⟨by simp only;omega,by simp only;omega,hacc⟩,by simp only;omega,?_⟩
          try simp only [aF,QE,Nat.reduceLT,reduceIte,Nat.reduceEqDiff,Nat.reduceAdd,Nat.reduceLeDiff,Nat.reduceMul,Nat.reduceBEq,dC,iL,iP,iT,iM,iK,iX,iW,iR,iO,hp2,hp3,hwd]
          try simp [aT,okVs,okV]
         ·rw [hzx] at hlo
          rw [hlo] at hsu
          (repeat (first|simp only [↓QA,QB,Nat.reduceLT,reduceIte,Nat.reduceEqDiff,Nat.reduceAdd,Nat.reduceLeDiff,Nat.reduceMul,Nat.reduceBEq,dC,iL,iP,iT,iM,iK,iX,iW,iR,iO,hwi]|refine rd0 rfl ?_))
          refine ⟨i+1,⟨by omega,hsu⟩,by omega,?_⟩
          try simp only [aF,QE,Nat.reduceLT,reduceIte,Nat.reduceEqDiff,Nat.reduceAdd,Nat.reduceLeDiff,Nat.reduceMul,Nat.reduceBEq,dC,iL,iP,iT,iM,iK,iX,iW,iR,iO,hp2,hp3,hwi]
          try simp [aT,okVs,okV]
        ·rw [hbc,Bool.not_true] at hbi
         have hlk:qC k bl c d i x=true:=by rw [hlo,hl,hbc];rfl
         rw [hlk] at hsu
         (repeat (first|simp only [↓QA,QB,Nat.reduceLT,reduceIte,Nat.reduceEqDiff,Nat.reduceAdd,Nat.reduceLeDiff,Nat.reduceMul,Nat.reduceBEq,dC,iL,iP,iT,iM,iK,iX,iW,iR,iO,hl,h0,vs,va,hbi,hwi]|refine rd0 rfl ?_))
         refine ⟨i+1,⟨by omega,hsu⟩,by omega,?_⟩
         try simp only [aF,QE,Nat.reduceLT,reduceIte,Nat.reduceEqDiff,Nat.reduceAdd,Nat.reduceLeDiff,Nat.reduceMul,Nat.reduceBEq,dC,iL,iP,iT,iM,iK,iX,iW,iR,iO,hp2,hp3,hwi]
         try simp [aT,okVs,okV]
      ·have hi1:i=v.looks.length:=by simp at h2;omega
       rw [hi1] at hup
       have hok:j8 v k c bl d=true:=hup
       rw [hok] at hacc
       simp only [if_true] at hacc
       have hsl:fF acc<2^7:=A9 fun x hx=>by have:=hadF x hx;omega
       have h2d:2^d≤2^7:=Nat.pow_le_pow_right (by omega) (by omega)
       have vsh:=y9 d (by omega)
       have vor:=XT (fF acc) (2^d) (by omega) (by omega)
       have hge:=lJ 4 (lA (iI v c bl k) k (fF acc)) hk4
       have hup2:lA (iI v c bl k) k (fF acc) k=(fF acc:Int):=by simp [lA]
       rw [hup2] at hge
       have hst:=CG 4 (lA (iI v c bl k) k (fF acc)) ((fF acc|||2^d:Nat):Int) hk4
       rw [yW] at hst
       have hsa:fF (acc++[(d:Int)])=fF acc|||2^d:=by rw [UB,Int.toNat_natCast]
       (repeat (first|simp only [↓QA,QB,Nat.reduceLT,reduceIte,Nat.reduceEqDiff,Nat.reduceAdd,Nat.reduceLeDiff,Nat.reduceMul,Nat.reduceBEq,dC,iL,iP,iT,iM,iK,iX,iW,iR,iO,i4,c4,Nat.zero_add,hge,vsh,vor,hst,hwd]|refine rd0 rfl ?_))
       refine ⟨(d+1,acc++[(d:Int)]),⟨by simp only;omega,by simp only;omega,by rw [←hacc];simp⟩,by simp only;omega,?_⟩
       try simp only [aF,QE,Nat.reduceLT,reduceIte,Nat.reduceEqDiff,Nat.reduceAdd,Nat.reduceLeDiff,Nat.reduceMul,Nat.reduceBEq,dC,iL,iP,iT,iM,iK,iX,iW,iR,iO,hp2,hp3,hwd,hsa]
       try simp [aT,okVs,okV,uT]
    ·have hd2:d=H+1:=by
      have h0:¬(d:Int)≤y.flower.hi:=by simpa using h
      omega
     rw [xG (show ¬(d:Int)≤(H:Int) by omega)] at hacc
     simp only [List.filter_nil,List.append_nil] at hacc
     subst hacc
     have hge:=lJ 4 (lA (iI v c bl k) k (fF acc)) hk4
     have hup2:lA (iI v c bl k) k (fF acc) k=(fF acc:Int):=by simp [lA]
     rw [hup2] at hge
     have hsz:=O9 (fun x hx=>(hadF x hx).1)
     cases hz0:((fF acc:Int)==0)
     ·have hz0':fF acc≠0:=by intro e;rw [e] at hz0;cases hz0
      have hne:acc≠[]:=fun e=>hz0' (hsz.2 e)
      have hie:acc.isEmpty=false:=by cases acc with
       |nil=>exact absurd rfl hne
       |cons a b=>rfl
      rw [hie] at hq
      simp only [Bool.false_eq_true,if_false] at hq
      (repeat (first|simp only [↓QA,QB,Nat.reduceLT,reduceIte,Nat.reduceEqDiff,Nat.reduceAdd,Nat.reduceLeDiff,Nat.reduceMul,Nat.reduceBEq,dC,iL,iP,iT,iM,iK,iX,iW,iR,iO,i4,Nat.zero_add,hge,hz0,hw]|refine rd0 rfl ?_))
      refine ⟨k+1,⟨by omega,hq⟩,by omega,?_⟩
      try simp only [aF,QE,Nat.reduceLT,reduceIte,Nat.reduceEqDiff,Nat.reduceAdd,Nat.reduceLeDiff,Nat.reduceMul,Nat.reduceBEq,dC,iL,iP,iT,iM,iK,iX,iW,iR,iO,hp2,hp3,hw,hnx]
      try simp [aT,okVs,okV,uT]
     ·have hz0':fF acc=0:=by
       have:(fF acc:Int)=0:=by simpa using hz0
       omega
      have hne:acc=[]:=hsz.1 hz0'
      rw [hne] at hq
      simp only [List.isEmpty_nil,if_true] at hq
      subst hq
      have hzz:lA (iI v c bl k) k (fF acc)=iI v c bl k:=by rw [hz0'];exact C6
      simp only [hzz] at hge
      (repeat (first|simp only [↓QA,QB,Nat.reduceLT,reduceIte,Nat.reduceEqDiff,Nat.reduceAdd,Nat.reduceLeDiff,Nat.reduceMul,Nat.reduceBEq,dC,iL,iP,iT,iM,iK,iX,iW,iR,iO,i4,Nat.zero_add,hge,hz0,hzz]|refine rd0 rfl ?_))
      refine bY [.cells (dN 7 (rl c)),.cells (dN 4 (iI v c bl k)),.cells [.str y.name,.int .i64 y.flower.lo,.int .i64 y.flower.hi,.int .i64 y.hands]] (by first|rfl|simp) ?_
      try simp only [QS,QC,Nat.reduceLT,reduceIte,Nat.reduceEqDiff,Nat.reduceAdd,Nat.reduceLeDiff,Nat.reduceMul,Nat.reduceBEq,dC,iL,iP,iT,iM,iK,iX,iW,iR,iO]
  ·have hk1:k=v.plots.length:=by simp at hd;omega
   subst hk1
   rw [Nat.sub_self] at hq
   simp only [vA] at hq
   subst hq
   (repeat (first|simp only [↓QA,QB,Nat.reduceLT,reduceIte,Nat.reduceEqDiff,Nat.reduceAdd,Nat.reduceLeDiff,Nat.reduceMul,Nat.reduceBEq,dC,iL,iP,iT,iM,iK,iX,iW,iR,iO]|refine rd0 rfl ?_))
   refine bY [.cells (dN 7 (rl c)),.cells (dN 4 (iI v c bl v.plots.length))] (by first|rfl|simp) ?_
   try simp only [QS,QC,Nat.reduceLT,reduceIte,Nat.reduceEqDiff,Nat.reduceAdd,Nat.reduceLeDiff,Nat.reduceMul,Nat.reduceBEq,dC,iL,iP,iT,iM,iK,iX,iW,iR,iO]
end Go.Am.Room.Fa
namespace Go.Am.Room
structure ObjAt {X:Type} (S:X→St) (obj:List AV) (p N:Nat):Prop where
 len:∀ x,(S x).length=N
 at0:∀ x,aM (S x) p=some obj
 pl:p<N
def yE {X:Type} (Z ZD:X→St) (r:X×Bool):St:=if r.2=true then Z r.1 else ZD r.1
def BB {A X:Type} (Z ZD:X→St) (id:Nat) (args:A→List AV) (P:A→Prop) (f:A→X→X×Bool):Prop :=
 ∀ t,P t→∀ x τ,Run T (.callv (.yield id) (args t) (Z x++τ)) fun o=>o.v = .bool (f t x).2∧∃ τ',o.σ=yE Z ZD (f t x)++(τ++τ')
theorem PS {X:Type} {S:X→St} {obj:List AV} {p N:Nat} (hS:ObjAt S obj p N) (U UD:X→St) (n:Nat) (hU:∀ x,(U x).length=n) (hUD:∀ x,(UD x).length=n)
  (J:AJump) (e:Env) (k:Nat) (ps:List Nat) (a bb:ACode) (g:FuncId) (ek:Env.get e k = .func g [] [.ptr (N+n) 0]) (r:X×Bool) (x:X)
  (hrun:Run T (.call g [.yield (N+n+1),.ptr (N+n) 0] (S x++(U x++[.cells [.ptr p 0],.loop .ready none e ps a bb]))) fun o=>∃ τ',o.σ=yE (fun x=>S x++(U x++[.cells [.ptr p 0],.loop .ready none e ps a bb])) (fun x=>S x++(UD x++[.cells [.ptr p 0],.loop .done (some J) e ps a bb])) r++τ') (K:KJ)
  (hT:∀ τ,r.2=true→K none e (S r.1++(U r.1++(.cells [.ptr p 0]::.dead::τ))))
  (hD:∀ τ,r.2=false→K (some J) e (S r.1++(UD r.1++(.cells [.ptr p 0]::.dead::τ)))) :
  rK (K:=⟨K⟩) T (.rangeFunc (.t k) ps a bb) e (S x++(U x++[.cells [.ptr p 0]])):=by
 have hlen:(S x++(U x++[ABlk.cells [.ptr p 0]])).length=N+n+1:=by simp [hS.len,hU];omega
 have hout:∀ (A W:St) (lp:ABlk) (τ':St),A.length=N→W.length=n→(A++(W++[ABlk.cells [.ptr p 0],lp])++τ')[N+n+1]? = some lp∧(A++(W++[ABlk.cells [.ptr p 0],lp])++τ').set (N+n+1) .dead=A++(W++(.cells [.ptr p 0]::.dead::τ')):=by
  intro A W lp τ' hA hW
  have h1:N+n+1=(A++W).length+1:=by simp [hA,hW]
  have h2:A++(W++[ABlk.cells [.ptr p 0],lp])++τ'=(A++W)++(.cells [.ptr p 0]::lp::τ'):=by simp
  rw [h1,h2]
  constructor
  ·rw [oI];rfl
  ·rw [oP];simp
 refine BU (by rw [OB,ek]) (by
  rw [hlen,List.append_assoc (S x),List.append_assoc (U x)]
  exact hrun) fun o ho=>?_
 obtain ⟨τ',hσ⟩:=ho
 rw [hlen,hσ]
 cases hr2:r.2
 ·have hD':=hD τ' hr2
  obtain ⟨g1,g2⟩:=hout (S r.1) (UD r.1) (.loop .done (some J) e ps a bb) τ' (hS.len _) (hUD _)
  simp only [yE,hr2,Bool.false_eq_true,if_false]
  rw [g1,g2]
  exact ⟨_,_,_,_,_,_,rfl,by simp,hD'⟩
 ·have hT':=hT τ' hr2
  obtain ⟨g1,g2⟩:=hout (S r.1) (U r.1) (.loop .ready none e ps a bb) τ' (hS.len _) (hU _)
  simp only [yE,hr2,if_true]
  rw [g1,g2]
  exact ⟨_,_,_,_,_,_,rfl,by simp,hT'⟩
theorem LA {X A:Type} {S:X→St} {obj:List AV} {p N:Nat} (hS:ObjAt S obj p N) (U UD:X→St) (n:Nat) (hU:∀ x,(U x).length=n) (hUD:∀ x,(UD x).length=n) (J:AJump) (e:Env) (ps:List Nat) (args:A→List AV) (hps:∀ t,ps.length=(args t).length) (a bb:ACode) {P:A→Prop} {f:A→X→X×Bool}
  (h:∀ t,P t→∀ x τ,wp T a (pR e ps (args t)) (S x++(U x++(.cells [.ptr p 0]::.loop .ready none e ps a bb::τ))) (fun j e' σ'=>j=none∧∃ τ1,σ'=S x++(U x++(.cells [.ptr p 0]::.loop .ready none e ps a bb::(τ++τ1))) ∧
   wp T bb e' (S x++(U x++(.cells [.ptr p 0]::.loop .busy none e ps a bb::(τ++τ1)))) (fun j e'' σ''=>((f t x).2=true∧j=none∧∃ τ',σ''=S (f t x).1++(U (f t x).1++(.cells [.ptr p 0]::.loop .busy none e ps a bb::(τ++τ')))) ∨
    ((f t x).2=false∧j=some J∧∃ τ',σ''=S (f t x).1++(UD (f t x).1++(.cells [.ptr p 0]::.loop .busy none e ps a bb::(τ++τ'))))))) :
  BB (fun x=>S x++(U x++[.cells [.ptr p 0],.loop .ready none e ps a bb])) (fun x=>S x++(UD x++[.cells [.ptr p 0],.loop .done (some J) e ps a bb])) (N+n+1) args P f:=by
 intro t ht x τ
 have hget:∀ (A W:St) (lp:ABlk) (υ:St),A.length=N→W.length=n→(A++(W++(ABlk.cells [.ptr p 0]::lp::υ)))[N+n+1]? = some lp:=by
  intro A W lp υ hA hW
  have h1:N+n+1=(A++W).length+1:=by simp [hA,hW]
  rw [h1,←List.append_assoc,oI];rfl
 have hset:∀ (A W:St) (lp l2:ABlk) (υ:St),A.length=N→W.length=n→(A++(W++(ABlk.cells [.ptr p 0]::lp::υ))).set (N+n+1) l2=A++(W++(ABlk.cells [.ptr p 0]::l2::υ)):=by
  intro A W lp l2 υ hA hW
  have h1:N+n+1=(A++W).length+1:=by simp [hA,hW]
  rw [h1,←List.append_assoc,oP]
  simp
 obtain ⟨r,hr⟩:∃ r,f t x=r:=⟨_,rfl⟩
 have h:=h t ht x τ
 rw [hr] at h ⊢
 have hst:(fun x=>S x++(U x++[ABlk.cells [.ptr p 0],.loop .ready none e ps a bb])) x++τ=S x++(U x++(.cells [.ptr p 0]::.loop .ready none e ps a bb::τ)):=by simp
 rw [hst]
 refine .round (env:=e) (ps:=ps) (a:=a) (b:=bb)
  (R:=fun o=>o.j=none∧∃ τ1,o.σ=S x++(U x++(.cells [.ptr p 0]::.loop .ready none e ps a bb::(τ++τ1)))∧wp T bb o.env (S x++(U x++(.cells [.ptr p 0]::.loop .busy none e ps a bb::(τ++τ1)))) (fun j e'' σ''=>(r.2=true∧j=none∧∃ τ',σ''=S r.1++(U r.1++(.cells [.ptr p 0]::.loop .busy none e ps a bb::(τ++τ')))) ∨
    (r.2=false∧j=some J∧∃ τ',σ''=S r.1++(UD r.1++(.cells [.ptr p 0]::.loop .busy none e ps a bb::(τ++τ'))))))
  (S:=fun o=>(r.2=true∧o.j=none∧∃ τ',o.σ=S r.1++(U r.1++(.cells [.ptr p 0]::.loop .busy none e ps a bb::(τ++τ'))))∨(r.2=false∧o.j=some J∧∃ τ',o.σ=S r.1++(UD r.1++(.cells [.ptr p 0]::.loop .busy none e ps a bb::(τ++τ'))))) (hget _ _ _ _ (hS.len _) (hU _)) (by rw [hps t]) (eQ h fun o ho=>ho) ?_ ?_ ?_
 ·rintro o ⟨hj,τ1,hσ,_⟩
  exact ⟨hj,by rw [hσ];exact hget _ _ _ _ (hS.len _) (hU _)⟩
 ·rintro o ⟨_,τ1,hσ,hw⟩
  rw [hσ,hset _ _ _ _ _ (hS.len _) (hU _)]
  exact eQ hw fun o ho=>ho
 ·rintro o (⟨hr2,hj,τ',hσ⟩|⟨hr2,hj,τ',hσ⟩)
  ·rw [hσ,hj,hget _ _ _ _ (hS.len _) (hU _),hset _ _ _ _ _ (hS.len _) (hU _)]
   refine ⟨rfl,by rw [hr2];rfl,τ',?_⟩
   simp [yE,hr2]
  ·rw [hσ,hj,hget _ _ _ _ (hS.len _) (hUD _),hset _ _ _ _ _ (hS.len _) (hUD _)]
   refine ⟨rfl,by rw [hr2];rfl,τ',?_⟩
   simp [yE,hr2]
end Go.Am.Room
set_option maxRecDepth 8000
namespace Go.Am.Room.Fa
def eM:=And.intro @aC (And.intro @cT (And.intro @List.length_append.{0} (And.intro @gU (And.intro @kU (And.intro @kL (And.intro @tG (And.intro @kM (And.intro @Nat.mul_one (And.intro @Int.toNat_natCast (And.intro @iL (And.intro @iP (And.intro @iT (And.intro @iM (And.intro @iK (And.intro @iX (And.intro @iW (And.intro @iR (And.intro @iO (And.intro @DL (And.intro @BP (And.intro @AZ (@AU))))))))))))))))))))))
theorem MO (l:List Int) (n:Int):rl (l++[n])=lA (rl l) l.length n:=by
 funext i
 simp only [rl,lA]
 by_cases h:i=l.length
 ·subst h;simp
 ·rw [if_neg h]
  by_cases h2:i<l.length
  ·rw [List.getElem?_append_left h2]
  ·rw [List.getElem?_eq_none (by simp;omega),List.getElem?_eq_none (by omega)]
theorem OG (l:List Int):lA (rl l) l.length 0=rl l:=by
 funext i
 simp only [lA]
 split
 ·rename_i h;subst h;simp [rl]
 ·rfl
theorem SP {a b:List Int} (h1:a.length=b.length) (h2:a.length≤7):((List.range 7).all fun i=>rl a i==rl b i)=decide (b=a):=by
 rw [Bool.eq_iff_iff,List.all_eq_true,decide_eq_true_eq]
 constructor
 ·intro h
  refine List.ext_getElem h1.symm fun i hi1 hi2=>?_
  have:=h i (by simp;omega)
  rw [beq_iff_eq,UL (by omega),UL (by omega)] at this
  exact this.symm
 ·rintro rfl i _
  simp
theorem B8 {A X:Type} [DecidableEq A] (f:A→X→X×Bool):∀ (az:List A) (o:Option A) (x:X) (u:A),(fW (kR f) az (o,x)).1.1=some u→o=some u∨u∈az
 |[],o,x,u,h=>.inl h
 |a::az,o,x,u,h=>by
  simp only [fW,kR] at h
  by_cases ho:o=some a
  ·simp only [ho,if_true] at h
   rcases B8 f az (some a) x u h with h|h
   ·exact .inl (ho.trans h)
   ·exact .inr (by simp [h])
  ·simp only [ho,if_false] at h
   split at h
   ·rcases B8 f az (some a) _ u h with h|h
    ·simp at h;exact .inr (by simp [h])
    ·exact .inr (by simp [h])
   ·simp at h;exact .inr (by simp [h])
theorem zK:∀ (rs:List Span) (l c:List Int),c∈gM rs l→c.length=l.length+rs.length
 |[],l,c,h=>by simp only [gM,List.mem_singleton] at h;simp [h]
 |s::rs,l,c,h=>by
  simp only [gM,List.mem_flatMap] at h
  obtain ⟨n,_,hc⟩:=h
  have:=zK rs _ c hc
  simp at this ⊢
  omega
def jL:List SK:=List.replicate 7 .i
theorem cJ:[SK.i,.i,.i,.i,.i,.i,.i]=List.replicate 7 .i:=rfl
structure WFam {X:Type} (Z:X→St) (v:Farm) (b m p q N:Nat):Prop where
 len:∀ x,(Z x).length=N
 atp:∀ x τ,aM (Z x++τ) p=some (db v b m)
 atq:∀ x τ,aM (Z x++τ) q=some [.ptr p 0]
namespace WFam
variable {X:Type} {Z:X→St} {v:Farm} {b m p q N:Nat}
theorem base (h:WFam Z v b m p q N) (x:X) (τ:St) (k:Nat):aM (Z x++τ) (N+k)=aM τ k:=by rw [←h.len x];exact nC _ _ _
theorem base0 (h:WFam Z v b m p q N) (x:X) (τ:St):aM (Z x++τ) N=aM τ 0:=h.base x τ 0
theorem bset (h:WFam Z v b m p q N) (x:X) (τ:St) (k:Nat) (y:ABlk):(Z x++τ).set (N+k) y=Z x++τ.set k y:=by rw [←h.len x];exact oP _ _ _ _
theorem bset0 (h:WFam Z v b m p q N) (x:X) (τ:St) (y:ABlk):(Z x++τ).set N y=Z x++τ.set 0 y:=h.bset x τ 0 y
end WFam
def IC (q N:Nat):AV:=.func 468 [] [.ptr q 0,.ptr (N+3) 0,.ptr (N+1) 0,.ptr (N+2) 0,.ptr N 0,.ptr (N+4) 0]
theorem CM (q N:Nat):IC q N = .func 468 [] [.ptr q 0,.ptr (N+3) 0,.ptr (N+1) 0,.ptr (N+2) 0,.ptr N 0,.ptr (N+4) 0]:=by simp only [IC]
def vH (id q N:Nat) (o:Option (List Int)) (A:Nat→Int):St:=[.cells [.yield id],.cells (dN 7 A),.cells (dN 7 (rl (o.getD []))),.cells [.bool o.isNone],.cells [IC q N]]
theorem m9 (id q N:Nat) (o:Option (List Int)) (A:Nat→Int) (τ:St):vH id q N o A++τ = .cells [.yield id]::.cells (dN 7 A)::.cells (dN 7 (rl (o.getD [])))::.cells [.bool o.isNone]::.cells [IC q N]::τ:=by simp [vH]
def OC {X:Type} (Z ZD:X→St) (id q N:Nat) (l:List Int) (r:(Option (List Int)×X)×Bool) (o:Out):Prop :=
 o.v = .bool r.2∧∃ A τ',o.σ=yE Z ZD (r.1.2,r.2)++(vH id q N r.1.1 A++τ')∧(r.2=true→A=rl l)
def aGF {X:Type} (Z:X→St) (f:List Int→X→X×Bool) (v:Farm) (q id N:Nat) (l:List Int) (s:Span) (rs:List Span) (R:(Option (List Int)×X)×Bool) (k:Nat) (e:Env) (σ:St):Prop :=
 Env.get e 0 = .int .i64 l.length∧Env.get e 1 = .ptr q 0∧Env.get e 3 = .ptr (N+1) 0∧Env.get e 6 = .ptr (N+4) 0∧∃ n o x c τ,Env.get e 9 = .int .i64 n∧s.lo≤n∧n≤s.hi+1∧k=(s.hi+1-n).toNat∧(∀ u,o=some u→u.length=v.rain.length) ∧
   σ=Z x++(vH id q N o (lA (rl l) l.length c)++τ)∧fW (kR f) ((aP n k).flatMap fun n=>gM rs (l++[n])) (o,x)=R
theorem I0q {X:Type} {Z ZD:X→St} {v:Farm} {b m p q id N:Nat} (hR:WFam Z v b m p q N) (f:List Int→X→X×Bool) (hy:BB Z ZD id (fun t=>[.agg (dN 7 (rl t))]) (RainOk v) f) (hv:Vd v) :
  ∀ (rs:List Span) (l:List Int) (o:Option (List Int)) (x:X) (τ:St),rs=v.rain.drop l.length→l.length≤v.rain.length→(∀ i (h:i<v.rain.length),i<l.length→v.rain[i].lo≤rl l i∧rl l i≤v.rain[i].hi)→(∀ u,o=some u→u.length=v.rain.length) →
   Run T (.callv (IC q N) [.int .i64 l.length] (Z x++(vH id q N o (rl l)++τ))) (OC Z ZD id q N l (fW (kR f) (gM rs l) (o,x)))
 |[],l,o,x,τ,hrs,hl,hbd,ho=>by
  have hl2:l.length=v.rain.length:=by
   have:=congrArg List.length hrs
   simp at this
   omega
  have hro:RainOk v l:=⟨hl2,fun i h=>hbd i h (by omega)⟩
  have hnr:=hv.nra
  simp only [gM,O7,CM]
  refine .callf (.call (af:=a468) rfl (by simp [a468]) (eQ (K:=fun j e σ'=>(j=none∨j=some .ret)∧OC Z ZD id q N l (kR f l (o,x)) ⟨none,[],σ',Env.get e 8⟩) ?_ fun o ho=>ho) fun w hw=>⟨hw.1,_,rfl,.inl hw.2⟩)
  have hE:((l.length:Int)==(v.rain.length:Int))=true:=by rw [hl2];simp
  rw [m9]
  cases o with
  |none =>
   have hon:kR f l (none,x)=((some l,(f l x).1),(f l x).2):=by simp [kR]
   rw [hon]
   have hcall:=hy l hro x
   obtain ⟨r,hr⟩:∃ r,f l x=r:=⟨_,rfl⟩
   rw [hr] at hcall ⊢
   (repeat (first|simp only [↓QA,QB,Nat.reduceLT,reduceIte,Nat.reduceEqDiff,Nat.reduceAdd,Nat.reduceLeDiff,Nat.reduceMul,Nat.reduceBEq,eM,hR.base,hR.base0,hR.bset,hR.bset0,hR.atp,hR.atq,jL,cJ,a468,hE,Option.isNone_none,Option.getD_none]|refine rd0 rfl ?_))
   refine .mono (hcall _) fun w hw=>?_
   obtain ⟨hw1,τ',hw2⟩:=hw
   rw [hw1,hw2]
   (repeat (first|simp only [↓QA,QB,Nat.reduceLT,reduceIte,Nat.reduceEqDiff,Nat.reduceAdd,Nat.reduceLeDiff,Nat.reduceMul,Nat.reduceBEq,eM,hR.base,hR.base0,hR.bset,hR.bset0,hR.atp,hR.atq,jL,cJ]|refine rd0 rfl ?_))
   exact ⟨rfl,rl l,τ++τ',by simp [vH],fun _=>rfl⟩
  |some u =>
   have hul:=ho u rfl
   have heq:bK (List.replicate 7 .i) (dN 7 (rl l)) (dN 7 (rl u))=some (decide (u=l)):=by
    rw [NL,SP (by omega) (by omega)]
   by_cases hu:u=l
   ·subst hu
    have hon:kR f u (some u,x)=((some u,x),true):=by simp [kR]
    rw [hon]
    have hdt:decide (u=u)=true:=by simp
    rw [hdt] at heq
    (repeat (first|simp only [↓QA,QB,Nat.reduceLT,reduceIte,Nat.reduceEqDiff,Nat.reduceAdd,Nat.reduceLeDiff,Nat.reduceMul,Nat.reduceBEq,eM,hR.base,hR.base0,hR.bset,hR.bset0,hR.atp,hR.atq,jL,cJ,a468,hE,heq,Option.isNone_some,Option.getD_some]|refine rd0 rfl ?_))
    exact ⟨rfl,rl u,τ,by simp [vH,yE],fun _=>rfl⟩
   ·have hon:kR f l (some u,x)=((some l,(f l x).1),(f l x).2):=by simp [kR,hu]
    rw [hon]
    have hdt:decide (u=l)=false:=by simpa using hu
    rw [hdt] at heq
    have hcall:=hy l hro x
    obtain ⟨r,hr⟩:∃ r,f l x=r:=⟨_,rfl⟩
    rw [hr] at hcall ⊢
    (repeat (first|simp only [↓QA,QB,Nat.reduceLT,reduceIte,Nat.reduceEqDiff,Nat.reduceAdd,Nat.reduceLeDiff,Nat.reduceMul,Nat.reduceBEq,eM,hR.base,hR.base0,hR.bset,hR.bset0,hR.atp,hR.atq,jL,cJ,a468,hE,heq,Option.isNone_some,Option.getD_some]|refine rd0 rfl ?_))
    refine .mono (hcall _) fun w hw=>?_
    obtain ⟨hw1,τ',hw2⟩:=hw
    rw [hw1,hw2]
    (repeat (first|simp only [↓QA,QB,Nat.reduceLT,reduceIte,Nat.reduceEqDiff,Nat.reduceAdd,Nat.reduceLeDiff,Nat.reduceMul,Nat.reduceBEq,eM,hR.base,hR.base0,hR.bset,hR.bset0,hR.atp,hR.atq,jL,cJ]|refine rd0 rfl ?_))
    exact ⟨rfl,rl l,τ++τ',by simp [vH],fun _=>rfl⟩
 |s::rs,l,o,x,τ,hrs,hl,hbd,ho=>by
  have hlt:l.length<v.rain.length:=by
   have:=congrArg List.length hrs
   simp at this
   omega
  have hdr:=List.drop_eq_getElem_cons hlt
  rw [←hrs] at hdr
  have hs:v.rain[l.length]=s:=by have:=(List.cons.inj hdr).1;exact this.symm
  have hrs2:rs=v.rain.drop (l.length+1):=(List.cons.inj hdr).2
  have hra:=hv.ra _ (List.getElem_mem hlt)
  rw [hs] at hra
  have hnr:=hv.nra
  have hE:((l.length:Int)==(v.rain.length:Int))=false:=by simp;omega
  have hlen7:l.length<7:=by omega
  have i7:(0:Int)≤(l.length:Int)∧(l.length:Int)<((7:Nat):Int):=⟨by omega,by omega⟩
  have c7:l.length+1≤7:=by omega
  have hwd:IntKind.i64.wrap ((l.length:Int)+1)=((l.length+1:Nat):Int):=b7 hlt (by omega)
  have ih:=fun (n:Int) (hn:s.lo≤n∧n≤s.hi) (o:Option (List Int)) (x:X) (τ:St) (ho:∀ u,o=some u→u.length=v.rain.length)=>I0q hR f hy hv rs (l++[n]) o x τ (by rw [hrs2];simp) (by simp;omega) (fun i h hi=>by
   rw [MO]
   simp only [lA]
   by_cases e:i=l.length
   ·subst e
    rw [if_pos rfl,hs]
    exact hn
   ·rw [if_neg e]
    exact hbd i h (by simp at hi;omega)) ho
  obtain ⟨R,hRR⟩:∃ R,fW (kR f) (gM (s::rs) l) (o,x)=R:=⟨_,rfl⟩
  rw [hRR]
  simp only [gM,nD] at hRR
  simp only [CM]
  refine .callf (.call (af:=a468) rfl (by simp [a468]) (eQ (K:=fun j e σ'=>(j=none∨j=some .ret)∧OC Z ZD id q N l R ⟨none,[],σ',Env.get e 8⟩) ?_ fun o ho=>ho) fun w hw=>⟨hw.1,_,rfl,.inl hw.2⟩)
  rw [m9]
  (repeat (first|simp only [↓QA,QB,Nat.reduceLT,reduceIte,Nat.reduceEqDiff,Nat.reduceAdd,Nat.reduceLeDiff,Nat.reduceMul,Nat.reduceBEq,eM,hR.base,hR.base0,hR.bset,hR.bset0,hR.atp,hR.atq,jL,cJ,a468,hE,hlt,hs]|refine rd0 rfl ?_))
  refine aEV (aGF Z f v q id N l s rs R) ?_ (s.hi+1-s.lo).toNat _ _ ?_
  ·rintro k e σ ⟨e0,e1,e3,e6,n,o,x,c,τ,e9,hn0,hn1,hk,ho,rfl,hq⟩
   subst hk
   have hst:=CG 7 (lA (rl l) l.length c) n hlen7
   rw [yW,←MO l n] at hst
   have hst0:=CG 7 (lA (rl l) l.length c) 0 hlen7
   rw [yW,OG] at hst0
   rw [m9]
   (repeat (first|simp only [↓QA,QB,Nat.reduceLT,reduceIte,Nat.reduceEqDiff,Nat.reduceAdd,Nat.reduceLeDiff,Nat.reduceMul,Nat.reduceBEq,eM,hR.base,hR.base0,hR.bset,hR.bset0,hR.atp,hR.atq,jL,cJ,RB,e0,e1,e3,e6,e9,hlt,hs]|refine rd0 rfl ?_))
   refine aJ (fun h=>?_) fun h=>?_
   ·have hn2:n≤s.hi:=by simpa using h
    have hwn:IntKind.i64.wrap (n+1)=n+1:=aX ⟨by omega,by omega⟩
    rw [uW hn2,List.flatMap_cons,FN] at hq
    have hc:=ih n ⟨hn0,hn2⟩ o x τ ho
    simp only [m9,List.length_append,List.length_cons,List.length_nil,Nat.zero_add] at hc
    obtain ⟨r,hr⟩:∃ r,fW (kR f) (gM rs (l++[n])) (o,x)=r:=⟨_,rfl⟩
    rw [hr] at hq hc
    (repeat (first|simp only [↓QA,QB,Nat.reduceLT,reduceIte,Nat.reduceEqDiff,Nat.reduceAdd,Nat.reduceLeDiff,Nat.reduceMul,Nat.reduceBEq,eM,hR.base,hR.base0,hR.bset,hR.bset0,hR.atp,hR.atq,jL,cJ,e0,e1,e3,e6,e9,i7,c7,Nat.zero_add,hst,hwd]|refine rd0 rfl ?_))
    refine .mono hc fun w hw=>?_
    obtain ⟨hw1,A,τ',hw2,hw3⟩:=hw
    rw [hw1,hw2]
    cases hr2:r.2
    ·rw [hr2] at hq
     simp only [Bool.false_eq_true,if_false] at hq
     (repeat (first|simp only [↓QA,QB,Nat.reduceLT,reduceIte,Nat.reduceEqDiff,Nat.reduceAdd,Nat.reduceLeDiff,Nat.reduceMul,Nat.reduceBEq,eM,hR.base,hR.base0,hR.bset,hR.bset0,hR.atp,hR.atq,jL,cJ,e0,e1,e3,e6,e9]|refine rd0 rfl ?_))
     rw [←hq]
     exact ⟨rfl,A,τ',by simp [yE],fun h=>by cases h⟩
    ·rw [hr2] at hq
     simp only [if_true] at hq
     have hA:=hw3 hr2
     rw [hA]
     simp only [yE,if_true]
     rw [m9]
     have hlr:l.length+1+rs.length=v.rain.length:=by rw [hrs2];simp;omega
     (repeat (first|simp only [↓QA,QB,Nat.reduceLT,reduceIte,Nat.reduceEqDiff,Nat.reduceAdd,Nat.reduceLeDiff,Nat.reduceMul,Nat.reduceBEq,eM,hR.base,hR.base0,hR.bset,hR.bset0,hR.atp,hR.atq,jL,cJ,e0,e1,e3,e6,e9,hwn]|refine rd0 rfl ?_))
     refine ⟨(s.hi+1-(n+1)).toNat,by omega,?_,?_,?_,?_,n+1,r.1.1,r.1.2,n,τ',?_,by omega,by omega,rfl,fun u hu=>?_,?_,hq⟩
     ·try simp only [aF,QE,Nat.reduceLT,reduceIte,Nat.reduceEqDiff,Nat.reduceAdd,Nat.reduceLeDiff,Nat.reduceMul,Nat.reduceBEq,eM,hR.base,hR.base0,hR.bset,hR.bset0,hR.atp,hR.atq,jL,cJ,e0]
     ·try simp only [aF,QE,Nat.reduceLT,reduceIte,Nat.reduceEqDiff,Nat.reduceAdd,Nat.reduceLeDiff,Nat.reduceMul,Nat.reduceBEq,eM,hR.base,hR.base0,hR.bset,hR.bset0,hR.atp,hR.atq,jL,cJ,e1]
     ·try simp only [aF,QE,Nat.reduceLT,reduceIte,Nat.reduceEqDiff,Nat.reduceAdd,Nat.reduceLeDiff,Nat.reduceMul,Nat.reduceBEq,eM,hR.base,hR.base0,hR.bset,hR.bset0,hR.atp,hR.atq,jL,cJ,e3]
     ·try simp only [aF,QE,Nat.reduceLT,reduceIte,Nat.reduceEqDiff,Nat.reduceAdd,Nat.reduceLeDiff,Nat.reduceMul,Nat.reduceBEq,eM,hR.base,hR.base0,hR.bset,hR.bset0,hR.atp,hR.atq,jL,cJ,e6]
     ·try simp only [aF,QE,Nat.reduceLT,reduceIte,Nat.reduceEqDiff,Nat.reduceAdd,Nat.reduceLeDiff,Nat.reduceMul,Nat.reduceBEq,eM,hR.base,hR.base0,hR.bset,hR.bset0,hR.atp,hR.atq,jL,cJ]
     ·rw [←hr] at hu
      rcases B8 f _ o x u hu with h|h
      ·exact ho u h
      ·have:=zK _ _ _ h
       simp at this
       omega
     ·rw [m9,MO]
   ·have hn2:¬n≤s.hi:=by simpa using h
    rw [xG hn2,List.flatMap_nil] at hq
    simp only [fW] at hq
    (repeat (first|simp only [↓QA,QB,Nat.reduceLT,reduceIte,Nat.reduceEqDiff,Nat.reduceAdd,Nat.reduceLeDiff,Nat.reduceMul,Nat.reduceBEq,eM,hR.base,hR.base0,hR.bset,hR.bset0,hR.atp,hR.atq,jL,cJ,e0,e1,e3,e6,e9,i7,c7,Nat.zero_add,hst0]|refine rd0 rfl ?_))
    rw [←hq]
    exact ⟨rfl,rl l,τ,by simp [yE,vH],fun _=>rfl⟩
  ·refine ⟨?_,?_,?_,?_,s.lo,o,x,0,τ,?_,Int.le_refl _,by omega,rfl,ho,?_,hRR⟩
   ·try simp only [aF,QE,Nat.reduceLT,reduceIte,Nat.reduceEqDiff,Nat.reduceAdd,Nat.reduceLeDiff,Nat.reduceMul,Nat.reduceBEq,eM,hR.base,hR.base0,hR.bset,hR.bset0,hR.atp,hR.atq,jL,cJ]
   ·try simp only [aF,QE,Nat.reduceLT,reduceIte,Nat.reduceEqDiff,Nat.reduceAdd,Nat.reduceLeDiff,Nat.reduceMul,Nat.reduceBEq,eM,hR.base,hR.base0,hR.bset,hR.bset0,hR.atp,hR.atq,jL,cJ]
   ·try simp only [aF,QE,Nat.reduceLT,reduceIte,Nat.reduceEqDiff,Nat.reduceAdd,Nat.reduceLeDiff,Nat.reduceMul,Nat.reduceBEq,eM,hR.base,hR.base0,hR.bset,hR.bset0,hR.atp,hR.atq,jL,cJ]
   ·try simp only [aF,QE,Nat.reduceLT,reduceIte,Nat.reduceEqDiff,Nat.reduceAdd,Nat.reduceLeDiff,Nat.reduceMul,Nat.reduceBEq,eM,hR.base,hR.base0,hR.bset,hR.bset0,hR.atp,hR.atq,jL,cJ]
   ·try simp only [aF,QE,Nat.reduceLT,reduceIte,Nat.reduceEqDiff,Nat.reduceAdd,Nat.reduceLeDiff,Nat.reduceMul,Nat.reduceBEq,eM,hR.base,hR.base0,hR.bset,hR.bset0,hR.atp,hR.atq,jL,cJ]
   ·rw [m9,OG]
theorem HC {X:Type} {Z ZD:X→St} {v:Farm} {b m p q id N:Nat} (hR:WFam Z v b m p q N) (f:List Int→X→X×Bool) (hy:BB Z ZD id (fun t=>[.agg (dN 7 (rl t))]) (RainOk v) f) (hv:Vd v) (x:X) :
  Run T (.call 467 [.yield id,.ptr q 0] (Z x)) fun o=>∃ τ',o.σ=yE Z ZD (fW f (gM v.rain []) x)++τ':=by
 have hn:=I0q hR f hy hv v.rain [] none x [] (by simp) (by simp) (fun i h hi=>by simp at hi) (fun u hu=>by cases hu)
 have hl:=hR.len x
 have hz:[AV.int .i64 0,.int .i64 0,.int .i64 0,.int .i64 0,.int .i64 0,.int .i64 0,.int .i64 0]=dN 7 (rl []):=by simp [dN,rl,List.range_succ]
 obtain ⟨ho1,ho2⟩:=CO f (gM v.rain []) none x (CZ _ _) (fun a _ h=>by cases h)
 have hend:∀ w,OC Z ZD id q N [] (fW (kR f) (gM v.rain []) (none,x)) w→∃ τ',w.σ=yE Z ZD (fW f (gM v.rain []) x)++τ':=by
  rintro w ⟨_,A,τ',h2,_⟩
  refine ⟨vH id q N (fW (kR f) (gM v.rain []) (none,x)).1.1 A++τ',?_⟩
  rw [h2,show ((fW (kR f) (gM v.rain []) (none,x)).1.2,(fW (kR f) (gM v.rain []) (none,x)).2)=fW f (gM v.rain []) x from Prod.ext ho1 ho2]
 rw [m9,CM] at hn
 simp only [List.length_nil,Option.getD_none,Option.isNone_none] at hn
 refine .call (af:=a467) rfl (by simp [a467]) (eQ (K:=fun j e σ'=>(j=none∨j=some .ret)∧∃ τ',σ'=yE Z ZD (fW f (gM v.rain []) x)++τ') ?_ fun o ho=>ho) fun o ho=>⟨ho.1,_,rfl,.inl ho.2⟩
 (repeat (first|simp only [↓QA,QB,Nat.reduceLT,reduceIte,Nat.reduceEqDiff,Nat.reduceAdd,Nat.reduceLeDiff,Nat.reduceMul,Nat.reduceBEq,eM,hR.base,hR.base0,hR.bset,hR.bset0,hR.atp,hR.atq,jL,cJ,a467,hl,hz]|refine rd0 rfl ?_))
 refine .mono hn fun w hw=>?_
 have:=hend w hw
 (repeat (first|simp only [↓QA,QB,Nat.reduceLT,reduceIte,Nat.reduceEqDiff,Nat.reduceAdd,Nat.reduceLeDiff,Nat.reduceMul,Nat.reduceBEq,eM,hR.base,hR.base0,hR.bset,hR.bset0,hR.atp,hR.atq,jL,cJ]|refine rd0 rfl ?_))
 exact this
end Go.Am.Room.Fa
namespace Go.Am.Room.Fa
def eqT (t u:Truth):Bool:=(List.range 7).all fun i=>rl t.rain i==rl u.rain i
def AR (t:Truth):List Truth→List Truth
 |[]=>[t]
 |u::us=>if eqT t u=true then t::us else u::AR t us
def tJ (t:Truth):AV:=.agg (dN 7 (rl t.rain))
def yD (t:Truth):AV:=.agg (dN 4 (fun q=>(fF (hO t q):Int)))
def kvT (t:Truth):AV×AV:=(tJ t,yD t)
theorem UU (t u:Truth):jV (.agg (List.replicate 7 .i)) (tJ t) (tJ u)=some (eqT t u):=by
 have:=NL 7 (rl t.rain) (rl u.rain)
 simp only [tJ,jV,this,eqT]
theorem DN (t:Truth):∀ ts:List Truth,mF (.agg (List.replicate 7 .i)) (tJ t) (yD t) (ts.map kvT)=some ((AR t ts).map kvT)
 |[]=>rfl
 |u::us=>by
  have ih:=DN t us
  simp only [List.map_cons,mF,kvT,UU,AR] at ih ⊢
  cases h:eqT t u
  ·simp only [Bool.false_eq_true,if_false,List.map_cons,kvT]
   simp only [ih,Option.map_some]
  ·simp only [if_true,List.map_cons,kvT]
theorem I4 {t:Truth}:∀ {ts:List Truth},(∀ u∈ts,eqT t u=false)→AR t ts=ts++[t]
 |[],_=>rfl
 |u::us,h=>by
  simp only [AR,h u (by simp),Bool.false_eq_true,if_false,List.cons_append]
  rw [I4 fun w hw=>h w (by simp [hw])]
def AT (v:Farm) (bl c:List Int) (ts:List Truth):List Truth:=match jQ v bl c with|some t=>AR t ts|none=>ts
theorem GJ {v:Farm} {bl c:List Int} {t:Truth} (h:jQ v bl c=some t):t.rain=c:=by
 simp only [jQ] at h
 split at h
 ·simp only [Option.some.injEq] at h;subst h;rfl
 ·cases h
theorem F5 {v:Farm} {bl:List Int} {G:Nat} (hG:G≤7):∀ (cs:List (List Int)) (acc:List Truth),cs.Pairwise (·≠·)→(∀ c∈cs,c.length=G)→(∀ u∈acc,u.rain.length=G∧u.rain∉cs) →
  cs.foldl (fun ts c=>AT v bl c ts) acc=acc++cs.filterMap (jQ v bl)
 |[],acc,_,_,_=>by simp
 |c::cs,acc,hp,hl,ha=>by
  obtain ⟨h1,h2⟩:=List.pairwise_cons.1 hp
  rw [List.foldl_cons,List.filterMap_cons]
  cases ht:jQ v bl c with
  |none =>
   simp only [AT,ht]
   exact F5 hG cs acc h2 (fun c hc=>hl c (by simp [hc])) fun u hu=>⟨(ha u hu).1,fun h=>(ha u hu).2 (by simp [h])⟩
  |some t =>
   have hr:=GJ ht
   have hcl:=hl c (by simp)
   have hnew:AR t acc=acc++[t]:=I4 fun u hu=>by
    obtain ⟨q1,q2⟩:=ha u hu
    rw [eqT,SP (by rw [hr,hcl,q1]) (by rw [hr,hcl];exact hG),hr]
    simp only [decide_eq_false_iff_not]
    intro e
    exact q2 (by simp [e])
   have e:AT v bl c acc=acc++[t]:=by simp only [AT,ht,hnew]
   rw [e,F5 hG cs (acc++[t]) h2 (fun c hc=>hl c (by simp [hc])) fun u hu=>?_]
   ·simp
   ·rcases List.mem_append.1 hu with hu|hu
    ·exact ⟨(ha u hu).1,fun h=>(ha u hu).2 (by simp [h])⟩
    ·simp only [List.mem_singleton] at hu
     subst hu
     rw [hr]
     exact ⟨hcl,fun h=>h1 c h rfl⟩
theorem HQ {v:Farm} (hv:Vd v) (bl:List Int):(gM v.rain []).foldl (fun ts c=>AT v bl c ts) []=aR v bl:=by
 rw [F5 (G:=v.rain.length) hv.nra.2 _ _ (CZ _ _) (fun c hc=>by have:=zK _ _ _ hc;simpa using this) (by simp),D9]
 rfl
theorem RI (t:Truth):j4 (tJ t):=iZ (oG 7 _)
theorem R3 (t:Truth):j4 (yD t):=iZ (oG 4 _)
theorem T4 (ts:List Truth) (k:Nat):aT k (.map (ts.map kvT)):=by
 simp only [aT]
 intro q hq
 obtain ⟨t,_,rfl⟩:=List.mem_map.1 hq
 exact ⟨NY (RI t) k,NY (R3 t) k⟩
theorem XN (σ τ:St) (F:ABlk) (ts:List Truth) (t:Truth):sO (.agg (List.replicate 7 .i)) (σ++(F::.map (ts.map kvT)::τ)) (.map (σ.length+1)) (tJ t) (yD t)=some (σ++(F::.map ((AR t ts).map kvT)::τ)):=by
 have h1:(σ++(F::.map (ts.map kvT)::τ))[σ.length+1]? = some (.map (ts.map kvT)):=by rw [oI];rfl
 have h2:(σ++(F::.map (ts.map kvT)::τ)).set (σ.length+1) (.map ((AR t ts).map kvT))=σ++(F::.map ((AR t ts).map kvT)::τ):=by rw [oP];rfl
 simp only [sO,UU,h1,DN,Option.map_some,h2,Option.isSome_some]
 simp
theorem P8 (v:Farm) (c bl:List Int):(fun q=>(fF (hO ⟨c,sV v c bl v.plots.length⟩ q):Int))=iI v c bl v.plots.length:=by
 funext q
 simp only [hO,sV,iI]
 by_cases h:q<v.plots.length
 ·simp [h]
 ·simp [h,fF]
theorem L6 (v:Farm) (c bl:List Int):((vA v c bl v.plots.length 0).2=true→jQ v bl c=some ⟨c,sV v c bl v.plots.length⟩∧(vA v c bl v.plots.length 0).1=v.plots.length)∧((vA v c bl v.plots.length 0).2=false→jQ v bl c=none):=by
 obtain ⟨h1,h2⟩:=HS v c bl v.plots.length 0
 have e:pJ v c bl v.plots.length=(vA v c bl v.plots.length 0).2:=by
  rw [h1,pJ,sV,List.all_map]
  congr 1
  funext i
  simp
 rw [vQ,e]
 constructor
 ·intro h
  rw [if_pos h]
  exact ⟨rfl,by rw [h2 h];omega⟩
 ·intro h
  rw [h]
  rfl
end Go.Am.Room.Fa
set_option maxRecDepth 8000
namespace Go.Am.Room.Fa
def xX:=And.intro @cC (And.intro @aK (And.intro @cE (And.intro @encLook_eq (And.intro @aC (And.intro @cS (And.intro @S_mapLook (And.intro @cT (And.intro @List.length_append.{0} (And.intro @gU (And.intro @kU (And.intro @kL (And.intro @tG (And.intro @kM (And.intro @Nat.mul_one (And.intro @Int.toNat_natCast (And.intro @iL (And.intro @iP (And.intro @iT (And.intro @iM (And.intro @iK (And.intro @iX (And.intro @iW (And.intro @iR (And.intro @iO (And.intro @AZ (And.intro @AU (@cJ)))))))))))))))))))))))))))
def eJ (σ:St) (v:Farm) (b:Nat) (ts:List Truth):St:=σ++[.cells (aB v),.map (ts.map kvT),.cells (db v b (σ.length+1))]
theorem oY (σ:St) (v:Farm) (b:Nat) (ts:List Truth) (τ:St):eJ σ v b ts++τ=σ++(.cells (aB v)::.map (ts.map kvT)::.cells (db v b (σ.length+1))::τ):=by simp [eJ]
theorem IB (σ:St) (v:Farm) (b:Nat):ObjAt (eJ σ v b) (db v b (σ.length+1)) (σ.length+2) (σ.length+3) :=
 ⟨fun ts=>by simp [eJ],fun ts=>by rw [eJ,nC];rfl,by omega⟩
theorem GE (σ:St) (p:Nat):sW T (.func 353 [] []) [.ptr p 0] σ (.func 467 [] [.ptr σ.length 0]) (σ++[.cells [.ptr p 0]]):=by
 refine .callf (.call (af:=a353) rfl (by simp [a353]) (eQ (K:=fun j e σ1=>(j=none∨j=some .ret)∧Env.get e 2 = .func 467 [] [.ptr σ.length 0]∧σ1=σ++[.cells [.ptr p 0]]) ?_ fun o ho=>ho) fun o ho=>?_)
 ·(repeat (first|simp only [↓QA,QB,Nat.reduceLT,reduceIte,Nat.reduceEqDiff,Nat.reduceAdd,Nat.reduceLeDiff,Nat.reduceMul,Nat.reduceBEq,xX,a353]|refine rd0 rfl ?_))
  try simp
 ·exact ⟨ho.1,_,rfl,.inl ⟨ho.2.1,ho.2.2⟩⟩
theorem IQ (σ:St) (v:Farm) (b:Nat) (bl:List Int) (hv:Vd v) (hb:ButIs b bl) (e:Env) (e5:Env.get e 5 = .ptr (σ.length+3) 0) :
  BB (fun ts=>eJ σ v b ts++([.cells [.ptr (σ.length+2) 0]]++[.cells [.ptr (σ.length+2) 0],.loop .ready none e [16] (.reg [⟨(some 6),.alloc [(.int .i64 0),(.int .i64 0),(.int .i64 0),(.int .i64 0),(.int .i64 0),(.int .i64 0),(.int .i64 0)],none⟩,⟨none,.store 7 (.t 6) (.t 16),none⟩]) zE]))
   (fun ts=>eJ σ v b ts++([.cells [.ptr (σ.length+2) 0]]++[.cells [.ptr (σ.length+2) 0],.loop .done (some .ret) e [16] (.reg [⟨(some 6),.alloc [(.int .i64 0),(.int .i64 0),(.int .i64 0),(.int .i64 0),(.int .i64 0),(.int .i64 0),(.int .i64 0)],none⟩,⟨none,.store 7 (.t 6) (.t 16),none⟩]) zE]))
   (σ.length+3+1+1) (fun t=>[.agg (dN 7 (rl t))]) (RainOk v) (fun c ts=>(AT v bl c ts,true)):=by
 refine LA (IB σ v b) (fun _=>[.cells [.ptr (σ.length+2) 0]]) (fun _=>[.cells [.ptr (σ.length+2) 0]]) 1 (fun _=>rfl) (fun _=>rfl) .ret e [16] (fun t=>[.agg (dN 7 (rl t))]) (fun _=>rfl) _ _ ?_
 intro c hc ts τ
 simp only [pR,Env.put]
 rw [oY]
 (repeat (first|simp only [↓QA,QB,Nat.reduceLT,reduceIte,Nat.reduceEqDiff,Nat.reduceAdd,Nat.reduceLeDiff,Nat.reduceMul,Nat.reduceBEq,xX]|refine rd0 rfl ?_))
 refine ⟨[.cells (dN 7 (rl c))],by simp [eJ,aK],?_⟩
 rw [oY]
 obtain ⟨hg1,hg2⟩:=L6 v c bl
 have hfl:=fun σ' hp=>F2 v hv b (σ.length+1) (σ.length+2) bl c hb hc σ' hp
 obtain ⟨r,hr⟩:∃ r,vA v c bl v.plots.length 0=r:=⟨_,rfl⟩
 rw [hr] at hg1 hg2
 simp only [hr] at hfl
 have hp:∀ (a0 a1:ABlk) (τ:St),aM (σ++(a0::a1::.cells (db v b (σ.length+1))::τ)) (σ.length+2)=some (db v b (σ.length+1)):=fun a0 a1 τ=>by rw [nC];rfl
 (repeat (first|simp only [↓QA,QB,Nat.reduceLT,reduceIte,Nat.reduceEqDiff,Nat.reduceAdd,Nat.reduceLeDiff,Nat.reduceMul,Nat.reduceBEq,xX,zE,e5]|refine rd0 rfl ?_))
 refine aV (hfl _ (hp _ _ _)) ?_
 cases hr2:r.2
 ·have ht:=hg2 hr2
  have ha:AT v bl c ts=ts:=by simp only [AT,ht]
  (repeat (first|simp only [↓QA,QB,Nat.reduceLT,reduceIte,Nat.reduceEqDiff,Nat.reduceAdd,Nat.reduceLeDiff,Nat.reduceMul,Nat.reduceBEq,xX]|refine rd0 rfl ?_))
  refine .inl ⟨[.cells (dN 7 (rl c)),.cells (dN 4 (iI v c bl r.1))],?_⟩
  rw [ha]
  simp [eJ,aK]
 ·obtain ⟨ht,hr1⟩:=hg1 hr2
  have ha:AT v bl c ts=AR ⟨c,sV v c bl v.plots.length⟩ ts:=by simp only [AT,ht]
  have hpm:∀ (F:ABlk) (τ:St),sO (.agg (List.replicate 7 .i)) (σ++(F::.map (ts.map kvT)::τ)) (.map (σ.length+1)) (.agg (dN 7 (rl c))) (.agg (dN 4 (iI v c bl v.plots.length)))=some (σ++(F::.map ((AR ⟨c,sV v c bl v.plots.length⟩ ts).map kvT)::τ)):=fun F τ=>by
   have:=XN σ τ F ts ⟨c,sV v c bl v.plots.length⟩
   simp only [yD,P8,tJ] at this
   exact this
  rw [hr1]
  (repeat (first|simp only [↓QA,QB,Nat.reduceLT,reduceIte,Nat.reduceEqDiff,Nat.reduceAdd,Nat.reduceLeDiff,Nat.reduceMul,Nat.reduceBEq,xX,e5,hpm]|refine rd0 rfl ?_))
  refine .inl ⟨[.cells (dN 7 (rl c)),.cells (dN 4 (iI v c bl v.plots.length))],?_⟩
  rw [ha]
  simp [eJ,aK]
end Go.Am.Room.Fa
set_option maxRecDepth 8000
namespace Go.Am.Room.Fa
def xF:=And.intro @cC (And.intro @aK (And.intro @cE (And.intro @encLook_eq (And.intro @aC (And.intro @cS (And.intro @S_mapLook (And.intro @cT (And.intro @List.length_append.{0} (And.intro @Nat.mul_one (@Int.toNat_natCast))))))))))
theorem MF (σ:St) (v:Farm) (b:Nat) (bl:List Int) (hv:Vd v) (hb:ButIs b bl) (e:Env) (e5:Env.get e 5 = .ptr (σ.length+3) 0) (e15:Env.get e 15 = .func 467 [] [.ptr (σ.length+3+1) 0]) (K:KJ) (σ0:St)
  (hσ:σ0=eJ σ v b []++([.cells [.ptr (σ.length+2) 0]]++[.cells [.ptr (σ.length+2) 0]])) (hT:∀ τ,K none e (eJ σ v b (aR v bl)++(.cells [.ptr (σ.length+2) 0]::τ))) :
  rK (K:=⟨K⟩) T (.rangeFunc (.t 15) [16] (.reg [⟨(some 6),.alloc [(.int .i64 0),(.int .i64 0),(.int .i64 0),(.int .i64 0),(.int .i64 0),(.int .i64 0),(.int .i64 0)],none⟩,⟨none,.store 7 (.t 6) (.t 16),none⟩]) zE) e σ0:=by
 subst hσ
 have hy:=IQ σ v b bl hv hb e e5
 have hW:WFam (fun ts=>eJ σ v b ts++([.cells [.ptr (σ.length+2) 0]]++[.cells [.ptr (σ.length+2) 0],.loop .ready none e [16] (.reg [⟨(some 6),.alloc [(.int .i64 0),(.int .i64 0),(.int .i64 0),(.int .i64 0),(.int .i64 0),(.int .i64 0),(.int .i64 0)],none⟩,⟨none,.store 7 (.t 6) (.t 16),none⟩]) zE])) v b (σ.length+1) (σ.length+2) (σ.length+3+1) (σ.length+3+1+2):=by
  refine ⟨fun ts=>by simp [eJ],fun ts τ=>?_,fun ts τ=>?_⟩
  ·rw [List.append_assoc,oY,nC];rfl
  ·rw [List.append_assoc,oY,show σ.length+3+1=σ.length+4 from rfl,nC];rfl
 have hrun:=HC hW (fun c ts=>(AT v bl c ts,true)) hy hv []
 have hit:fW (fun c ts=>(AT v bl c ts,true)) (gM v.rain []) []=(aR v bl,true):=by
  rw [IA (fun _ _=>rfl)]
  simp only
  rw [HQ hv]
 rw [hit] at hrun
 exact PS (IB σ v b) (fun _=>[.cells [.ptr (σ.length+2) 0]]) (fun _=>[.cells [.ptr (σ.length+2) 0]]) 1 (fun _=>rfl) (fun _=>rfl) .ret e 15 [16] _ _ _ e15 (aR v bl,true) [] hrun K (fun τ _=>hT _) (fun τ h=>by cases h)
theorem FO (σ:St) (v:Farm) (b:Nat) (bl:List Int) (hv:Vd v) (hb:ButIs b bl):sW T (.func 224 [] []) [encFarm v,.int .i64 b] σ (.ptr (σ.length+2) 0) (eJ σ v b (aR v bl)):=by
 have hlen:∀ ts,(eJ σ v b ts).length=σ.length+3:=fun ts=>by simp [eJ]
 refine .callf (.call (af:=a224) rfl (by simp [a224]) (Run.trim (R:=fun o=>o.j=some .ret∧Env.get o.env 4 = .ptr (σ.length+2) 0∧∃ τ,o.σ=eJ σ v b (aR v bl)++τ)
   (Q:=fun o=>o.j=some .ret∧Env.get o.env 4 = .ptr (σ.length+2) 0∧o.σ=eJ σ v b (aR v bl)) (eQ (K:=fun j e σ1=>j=some .ret∧Env.get e 4 = .ptr (σ.length+2) 0∧∃ τ,σ1=eJ σ v b (aR v bl)++τ) ?_ fun o ho=>ho) fun o ho=>?_) fun o ho=>?_)
 ·(repeat (first|simp only [↓QA,QB,seval,xF,a224]|refine rd0 rfl ?_))
  refine gY (GE _ _) ?_
  (repeat (first|simp only [↓QA,QB,seval,xF]|refine rd0 rfl ?_))
  refine MF σ v b bl hv hb _ ?_ ?_ _ _ ?_ fun τ=>?_
  ·try simp only [aF,QE,seval,xF]
  ·try simp only [aF,QE,seval,xF]
   try simp
  ·simp [eJ,db,aK]
  ·rw [oY]
   (repeat (first|simp only [↓QA,QB,seval,xF]|refine rd0 rfl ?_))
   exact ⟨.cells [.ptr (σ.length+2) 0]::τ,by simp [eJ,aK]⟩
 ·obtain ⟨hj,h4,τ,hs⟩:=ho
  refine ⟨[(4,.ptr (σ.length+2) 0)],σ.length+3,⟨by omega,by rw [hs];simp [hlen],fun q hq=>?_,fun i hi=>?_⟩,hj,by simp [Env.get],?_⟩
  ·simp only [List.mem_singleton] at hq
   subst hq
   exact ⟨h4.symm,by simp [okV]⟩
  ·rw [hs]
   by_cases h:i<σ.length
   ·refine .inl ⟨h,.inl ?_⟩
    rw [oY,List.getElem?_append_left h]
   ·refine .inr ?_
    obtain ⟨k,rfl⟩:∃ k,i=σ.length+k:=⟨i-σ.length,by omega⟩
    rw [oY,oI]
    have hk:k<3:=by omega
    match k,hk with
    |0,_=>exact ⟨_,rfl,okVs_up _ (rB v).1⟩
    |1,_=>exact ⟨_,rfl,T4 _ _⟩
    |2,_=>exact ⟨_,rfl,aDV v b (by omega)⟩
  ·simp only
   rw [hs,←hlen (aR v bl),List.take_left]
 ·exact ⟨.inr ho.1,_,rfl,.inl ⟨ho.2.1,ho.2.2⟩⟩
end Go.Am.Room.Fa
set_option maxRecDepth 8000
namespace Go.Am.Room.Fa
def d6:=And.intro @cC (And.intro @aK (And.intro @cE (And.intro @encLook_eq (And.intro @aC (And.intro @cS (And.intro @S_mapLook (And.intro @cT (And.intro @List.length_append.{0} (And.intro @Nat.mul_one (And.intro @Int.toNat_natCast (And.intro @bI (And.intro @jU (And.intro @iL (And.intro @iP (And.intro @iT (And.intro @iM (And.intro @iK (And.intro @iX (And.intro @iW (And.intro @iR (@iO)))))))))))))))))))))
def kF:List Int→Int
 |a::m::rest=>if inR a 0 m then kF rest else 7
 |_=>0
def PA (ns:List Int):AV:=.lit (ns.map (.int .i64)) true none
theorem u4 (ns:List Int):PA ns = .lit (ns.map (.int .i64)) true none:=by simp only [PA]
theorem sD (ns:List Int) (σ:St):sW T (.func 93 [] []) [PA ns] σ (.func 233 [] [.ptr σ.length 0]) (σ++[.cells [PA ns]]):=by
 refine .callf (.call (af:=a93) rfl (by simp [a93]) (eQ (K:=fun j e σ1=>(j=none∨j=some .ret)∧Env.get e 2 = .func 233 [] [.ptr σ.length 0]∧σ1=σ++[.cells [PA ns]]) ?_ fun o ho=>ho) fun o ho=>⟨ho.1,_,rfl,.inl ⟨ho.2.1,ho.2.2⟩⟩)
 (repeat (first|simp only [↓QA,QB,seval,d6,a93,u4]|refine rd0 rfl ?_))
 try simp
theorem pI (ns:List Int) (hn:ns.length≤100) (q:Nat) (σ:St) (hq:aM σ q=some [PA ns]):eA T (.func 233 [] [.ptr q 0]) [] σ (.int .i64 (kF ns)):=by
 refine bR (af:=a233) rfl (by simp [a233]) ?_
 obtain ⟨R,hR⟩:∃ R,kF ns=R:=⟨_,rfl⟩
 have hql:=xM hq
 rw [hR]
 rw [u4] at hq
 (repeat (first|simp only [↓QA,QB,seval,d6,a233]|refine rd0 rfl ?_))
 refine bU (S:=Nat) 0 (fun i=>kF (ns.drop i)=R∧i≤ns.length) (fun i=>ns.length-i) (fun i=>[(0,.ptr q 0),(2,.int .i64 i)]) (fun _=>σ) ⟨by simpa using hR,Nat.zero_le _⟩ rfl ?_ fun i hi=>?_
 ·try simp only [aF,QE,seval,d6]
  try simp
 ·obtain ⟨hi,hil⟩:=hi
  have hw1:IntKind.i64.wrap ((i:Int)+1)=((i+1:Nat):Int):=by rw [aX ⟨by omega,by omega⟩];omega
  have hw2:IntKind.i64.wrap ((i:Int)+2)=((i+2:Nat):Int):=by rw [aX ⟨by omega,by omega⟩];omega
  (repeat (first|simp only [↓QA,QB,seval,d6,RF,hq,hw1]|refine rd0 rfl ?_))
  refine aJ (fun h=>?_) fun h=>?_
  ·have hi2:i+1<ns.length:=by
    have h0:((i+1:Nat):Int)<(ns.length:Int):=by simpa using h
    omega
   have hi1:i<ns.length:=by omega
   rw [List.drop_eq_getElem_cons hi1,List.drop_eq_getElem_cons hi2,kF] at hi
   (repeat (first|simp only [↓QA,QB,seval,d6,hq,hw1,hi1,hi2]|refine rd0 rfl ?_))
   ((first|refine bJ (aY 0 ns[i+1] [ns[i]] (by simp)) (by simp [clr,clrs,ints]) (by simp [okV,okVs]) ?_|refine cP (aY 0 ns[i+1] [ns[i]] (by simp)) (by simp [clr,clrs,ints]) (by simp [okV,okVs]) ?_);(repeat (first|simp only [↓QA,QB,seval,d6,fK,hq,hw1,hi1,hi2]|refine rd0 rfl ?_)))
   cases hb:inR ns[i] 0 ns[i+1]
   ·rw [hb] at hi
    simp only [Bool.false_eq_true,if_false] at hi
    subst hi
    (repeat (first|simp only [↓QA,QB,seval,d6]|refine rd0 rfl ?_))
    refine bY [] (by first|rfl|simp) ?_
    try simp only [QS,QC,seval,d6]
   ·rw [hb] at hi
    simp only [if_true] at hi
    (repeat (first|simp only [↓QA,QB,seval,d6,hw2]|refine rd0 rfl ?_))
    refine ⟨i+2,⟨hi,by omega⟩,by omega,?_⟩
    try simp only [aF,QE,seval,d6,hw2,hql]
    try simp
  ·have hi2:¬i+1<ns.length:=by
    have h0:¬((i+1:Nat):Int)<(ns.length:Int):=by simpa using h
    omega
   have hz:kF (ns.drop i)=0:=by
    rcases Nat.lt_or_ge i ns.length with hlt|hge
    ·rw [List.drop_eq_getElem_cons hlt,List.drop_eq_nil_of_le (by omega)];rfl
    ·rw [List.drop_eq_nil_of_le hge];rfl
   rw [hz] at hi
   subst hi
   (repeat (first|simp only [↓QA,QB,seval,d6]|refine rd0 rfl ?_))
   refine bY [] (by first|rfl|simp) ?_
   try simp only [QS,QC,seval,d6]
def rW:Int:=-1099511627776
def jA (v:Farm) (plot eo:Int):Int:=if (check v).2.2=0 then (if plot≠rW∧inR plot 0 ((v.plots.length:Int)-1)=false then 4 else eo) else (check v).2.2
theorem H0 (σ τ:St) (v:Farm) (b:Nat) (ts:List Truth) (m:Nat) (hm:m=σ.length+1):iY 2 (σ++(.cells (aB v)::.map (ts.map kvT)::τ)) (.map m)=some ts.length:=by
 subst hm
 have:(σ++(ABlk.cells (aB v)::.map (ts.map kvT)::τ))[σ.length+1]? = some (.map (ts.map kvT)):=by rw [oI];rfl
 simp only [iY,this,List.length_map]
def aBN (E:Int) (σ σ':St) (a b:AV) (σ1:St):Prop:=(E≠0∧a = .nilPtr∧b = .int .i64 E∧∃ τ,σ1=σ++τ)∨(E=0∧a = .ptr (σ.length+3) 0∧b = .int .i64 0∧σ1=σ')
theorem lT (v:Farm) (hf:Fits v) (plot eo:Int) (F:AV) (σ:St) (hF:∀ τ,eA T F [] (σ++τ) (.int .i64 eo)) :
  Run T (.callv (.func 92 [] []) [encFarm v,.int .i64 plot,F] σ) fun o =>
   (aZ v (jA v plot eo)≠0∧o.v = .tuple [.nilPtr,.int .i64 (aZ v (jA v plot eo))]∧o.σ=σ) ∨
   (aZ v (jA v plot eo)=0∧o.v = .tuple [.ptr (σ.length+3) 0,.int .i64 0]∧o.σ=eJ (σ++[.cells (aB v)]) v 0 (aR v [])):=by
 have hfp:=hf.plots
 obtain ⟨E,hE⟩:∃ E,aZ v (jA v plot eo)=E:=⟨_,rfl⟩
 rw [hE]
 refine .callf (.call (af:=a92) rfl (by simp [a92]) (eQ (K:=fun j e σ1=>(j=none∨j=some .ret)∧aBN E σ (eJ (σ++[.cells (aB v)]) v 0 (aR v [])) (Env.get e 6) (Env.get e 7) σ1) ?_ fun o ho=>ho) fun o ho=>?_)
 ·have hws:IntKind.i64.wrap ((v.plots.length:Int)-1)=(v.plots.length:Int)-1:=aX ⟨by omega,by omega⟩
  (repeat (first|simp only [↓QA,QB,seval,d6,a92]|refine rd0 rfl ?_))
  ((first|refine aE (jG v hf) rfl dd ?_|refine aG (jG v hf) rfl dd ?_);(repeat (first|simp only [↓QA,QB,seval,d6,enc3]|refine rd0 rfl ?_)))
  cases h0:((check v).2.2==0)
  ·have h0':(check v).2.2≠0:=by simpa using h0
   have:E=(check v).2.2:=by rw [←hE,jA,if_neg h0',aZ,if_neg h0']
   (repeat (first|simp only [↓QA,QB,seval,d6,h0]|refine rd0 rfl ?_))
   exact .inl ⟨by rw [this];exact h0',rfl,by rw [this],_,rfl⟩
  ·have h0':(check v).2.2=0:=by simpa using h0
   have hv:=vd_of_check h0'
   (repeat (first|simp only [↓QA,QB,seval,d6,h0]|refine rd0 rfl ?_))
   by_cases hb:plot≠rW∧inR plot 0 ((v.plots.length:Int)-1)=false
   ·have:E=4:=by rw [←hE,jA,if_pos h0',if_pos hb];rfl
    have h1:(plot==-1099511627776)=false:=by have:=hb.1;simpa [rW] using this
    (repeat (first|simp only [↓QA,QB,seval,d6,h1,hws]|refine rd0 rfl ?_))
    ((first|refine bJ (aY 0 ((v.plots.length:Int)-1) [plot] (by simp)) (by simp [clr,clrs,ints]) (by simp [okV,okVs]) ?_|refine cP (aY 0 ((v.plots.length:Int)-1) [plot] (by simp)) (by simp [clr,clrs,ints]) (by simp [okV,okVs]) ?_);(repeat (first|simp only [↓QA,QB,seval,d6,fK,hb.2,h1]|refine rd0 rfl ?_)))
    exact .inl ⟨by omega,rfl,by rw [this],_,rfl⟩
   have ha:jA v plot eo=eo:=by rw [jA,if_pos h0',if_neg hb]
   cases h1:(plot==-1099511627776)
   case' true =>
    (repeat (first|simp only [↓QA,QB,seval,d6,h1]|refine rd0 rfl ?_))
   case' false =>
    have h1':plot≠rW:=by simpa [rW] using h1
    have h2:inR plot 0 ((v.plots.length:Int)-1)=true:=by
     cases h:inR plot 0 ((v.plots.length:Int)-1)
     ·exact absurd ⟨h1',h⟩ hb
     ·rfl
    (repeat (first|simp only [↓QA,QB,seval,d6,h1,hws]|refine rd0 rfl ?_))
    ((first|refine bJ (aY 0 ((v.plots.length:Int)-1) [plot] (by simp)) (by simp [clr,clrs,ints]) (by simp [okV,okVs]) ?_|refine cP (aY 0 ((v.plots.length:Int)-1) [plot] (by simp)) (by simp [clr,clrs,ints]) (by simp [okV,okVs]) ?_);(repeat (first|simp only [↓QA,QB,seval,d6,fK,h2,h1]|refine rd0 rfl ?_)))
   all_goals
    rw [ha] at hE
    refine aV (hF _) ?_
    cases h3:(eo==0)
    ·have h3':eo≠0:=by simpa using h3
     have:E=eo:=by rw [←hE,aZ,if_neg h3']
     (repeat (first|simp only [↓QA,QB,seval,d6,h3]|refine rd0 rfl ?_))
     exact .inl ⟨by rw [this];exact h3',rfl,by rw [this],_,rfl⟩
    ·have h3':eo=0:=by simpa using h3
     subst h3'
     have hlk:=fun σ'=>FO σ' v 0 [] hv YH
     (repeat (first|simp only [↓QA,QB,seval,d6,h3]|refine rd0 rfl ?_))
     refine gY (hlk _) ?_
     rw [eJ]
     have hn1:σ.length+1+2=σ.length+3:=rfl
     have hn2:σ.length+1+1=σ.length+2:=rfl
     have hll:=H0 (σ++[.cells (aB v)]) [.cells (db v 0 (σ.length+1+1))] v 0 (aR v []) (σ.length+1+1) (by simp)
     simp only [aK,List.append_assoc,List.cons_append,List.nil_append,hn2] at hll
     cases hg:(((aR v []).length:Int)==0)
     ·have hne:(aR v []).isEmpty=false:=by
       cases h:aR v [] with
       |nil=>rw [h] at hg;cases hg
       |cons a b=>rfl
      have:E=0:=by rw [←hE,aZ,if_pos rfl,hne];rfl
      (repeat (first|simp only [↓QA,QB,seval,d6,hn1,hn2,hll,hg]|refine rd0 rfl ?_))
      exact .inr ⟨this,rfl,rfl,by simp [eJ,aK]⟩
     ·have hne:(aR v []).isEmpty=true:=by
       cases h:aR v [] with
       |nil=>rfl
       |cons a b=>rw [h] at hg;simp at hg;omega
      have:E=8:=by rw [←hE,aZ,if_pos rfl,hne];rfl
      (repeat (first|simp only [↓QA,QB,seval,d6,hn1,hn2,hll,hg]|refine rd0 rfl ?_))
      exact .inl ⟨by omega,rfl,by rw [this],_,rfl⟩
 ·obtain ⟨hj,hq⟩:=ho
  rcases hq with ⟨h1,h2,h3,τ,h4⟩|⟨h1,h2,h3,h4⟩
  ·refine ⟨hj,.tuple [.nilPtr,.int .i64 E],?_,?_⟩
   ·show some (AV.tuple [_,_])=_
    rw [h2,h3]
   ·refine .inr ⟨20,.tuple [.nilPtr,.int .i64 E],.tuple [.nilPtr,.int .i64 E],by simp [snap,snaps],.inl rfl,fun i hi=>.inl ?_,by rw [h4];simp,.inl ⟨h1,rfl,by simp [h4]⟩⟩
    rw [h4,List.getElem?_append_left hi]
  ·refine ⟨hj,.tuple [.ptr (σ.length+3) 0,.int .i64 0],?_,.inl (.inr ⟨h1,rfl,h4⟩)⟩
   show some (AV.tuple [_,_])=_
   rw [h2,h3]
end Go.Am.Room.Fa
namespace Go.Am.Room
def uX (σ:St):AV→Option (AV×St)
 |.map id=>match σ[id]? with|some (.map es)=>some (.ptr σ.length 0,σ++[.miter id es.length (List.range es.length) none])|_=>none
 |_=>none
def vO (σ:St):AV→Option AV
 |.ptr id 0 =>
  match σ[id]? with
  |some (.miter m n _ (some i)) =>
   match σ[m]? with
   |some (.map es)=>if es.length=n then (es[i]?).map fun p=>.tuple [p.1,p.2] else none
   |_=>none
  |_=>none
 |_=>none
theorem xT (x:AOpd) (e:Env) (σ:St):aop (.mrange x) e σ=uX σ (x.ev e):=by
 simp only [aop,uX];cases x.ev e<;>rfl
theorem wO (x:AOpd) (d:Option Nat) (os:List AOper) (e:Env) (σ:St) (K:Env→St→Prop):aO T (⟨d,.mrange x,none⟩::os) e σ K=bO (K:=⟨fun v σ'=>aO T os (Env.put e d v) σ' K⟩) (aop (.mrange x) e σ):=by simp only [aO,gS,bO]
theorem wS {σ:St} {m:Nat} {es:List (AV×AV)} (h:σ[m]? = some (.map es)):uX σ (.map m)=some (.ptr σ.length 0,σ++[.miter m es.length (List.range es.length) none]):=by simp only [uX,h]
theorem A7 (x:AOpd) (e:Env) (σ:St):aop (.entry x) e σ=(vO σ (x.ev e)).map (·,σ):=by
 simp only [aop,vO]
 cases x.ev e<;>try rfl
 rename_i id off
 cases off with
 |succ o=>rfl
 |zero =>
  simp only
  cases σ[id]? with
  |none=>rfl
  |some b =>
   cases b<;>try rfl
   rename_i m n left last
   cases last with
   |none=>rfl
   |some i =>
    simp only
    cases σ[m]? with
    |none=>rfl
    |some b =>
     cases b<;>try rfl
     rename_i es
     simp only
     by_cases h:es.length=n
     ·simp only [h,if_true]
      cases es[i]?<;>rfl
     ·simp only [h,if_false]
      rfl
theorem AY (x:AOpd) (d:Option Nat) (os:List AOper) (e:Env) (σ:St) (K:Env→St→Prop):aO T (⟨d,.entry x,none⟩::os) e σ K=bO (K:=⟨fun v σ'=>aO T os (Env.put e d v) σ' K⟩) (aop (.entry x) e σ):=by simp only [aO,gS,bO]
theorem F8 {σ:St} {id m n i:Nat} {left:List Nat} {es:List (AV×AV)} {k v:AV} (h1:σ[id]? = some (.miter m n left (some i))) (h2:σ[m]? = some (.map es)) (h3:es.length=n) (h4:es[i]? = some (k,v)):vO σ (.ptr id 0)=some (.tuple [k,v]):=by
 simp only [vO,h1,h2,h3,h4,if_true,Option.map_some]
section
variable {S A:Type} (ts:List A) (kv:A→AV×AV) (m N:Nat) (P:List A→S→Prop) (IE:S→Env) (B:S→St)
def JX (t:A) (done:List A) (s:S) (left:List Nat) (i:Nat) (K:KJ):KJ :=
 DC (S:=Bool×S) (fun a=>a.1=false∧P (t::done) a.2) (fun a=>if a.1=true then 1 else 0) (fun a=>IE a.2) (fun a=>B a.2++[.miter m ts.length left (some i)]) (true,s) K
def aDJ (d d2 x j:Nat) (body:ACode):ACode:=.seq (.reg [⟨some d,.mnext (.t x),none⟩,⟨some d2,.ext (.t d) 0,none⟩]) (.seq (.cond (.t d2) .skip (.jump (.exit j))) body)
theorem aH8 {d d2 x j:Nat} {body:ACode} {K:KJ} (hN:∀ s,(B s).length=N) (hm:∀ s,(B s)[m]? = some (.map (ts.map kv))) (hx:∀ s,Env.get (IE s) x = .ptr N 0)
  (step:∀ done s t i left,P done s→t∈ts→ts[i]? = some t→wp T body ((d2,.bool true)::(d,.tuple [.bool true,(kv t).1,(kv t).2])::IE s) (B s++[.miter m ts.length left (some i)]) (JX ts m P IE B t done s left i K))
  (fin:∀ done s left last,P done s→(∀ t,t∈done↔t∈ts)→K (some (.exit j)) ((d2,.bool false)::(d,.tuple [.bool false])::IE s) (B s++[.miter m ts.length left last])) :
  ∀ n left last done s,left.length=n→(∀ t∈done,t∈ts)→(∀ i t,ts[i]? = some t→i∈left∨t∈done)→P done s →
   MS T (.loop (aDJ d d2 x j body)) (IE s) (B s++[.miter m ts.length left last]) K:=by
 intro n
 induction n using Nat.strongRecOn with
 |_ n ih =>
  intro left last done s hl hdone hcov hP
  have hml:m<N:=by
   have:=hm s
   rw [←hN s]
   by_cases h:m<(B s).length
   ·exact h
   ·rw [List.getElem?_eq_none (by omega)] at this;cases this
  have hmap:∀ (b:ABlk),(B s++[b])[m]? = some (.map (ts.map kv)):=fun b=>by
   rw [List.getElem?_append_left (by rw [hN];exact hml)];exact hm s
  have hit:∀ (b:ABlk),(B s++[b])[N]? = some b:=fun b=>by
   rw [List.getElem?_append_right (by rw [hN];exact Nat.le_refl _),hN,Nat.sub_self];rfl
  have hset:∀ (b c:ABlk),(B s++[b]).set N c=B s++[c]:=fun b c=>by
   rw [List.set_append_right _ _ (by rw [hN];exact Nat.le_refl _),hN,Nat.sub_self];rfl
  have hgx:AOpd.ev (IE s) (.t x) = .ptr N 0:=by rw [OB];exact hx s
  have h1:Run T (.code (aDJ d d2 x j body) (IE s) (B s++[.miter m ts.length left last])) fun o =>
    (o.j=none∧∃ i t s',i∈left∧ts[i]? = some t∧P (t::done) s'∧o.env=IE s'∧o.σ=B s'++[.miter m ts.length (left.filter (·≠i)) (some i)])∨(o.j≠none∧K o.j o.env o.σ):=by
   refine .seq (R:=fun o=>o.j=none∧((left=[]∧o.env=(d2,.bool false)::(d,.tuple [.bool false])::IE s∧o.σ=B s++[.miter m ts.length left last]) ∨
     ∃ i t,i∈left∧ts[i]? = some t∧o.env=(d2,.bool true)::(d,.tuple [.bool true,(kv t).1,(kv t).2])::IE s∧o.σ=B s++[.miter m ts.length (left.filter (·≠i)) (some i)]))
    (.reg (.stepm (x:=.t x) rfl rfl hgx (hit _) (hmap _) (by simp) (fun h0=>?_) fun i k v hi hk=>?_)) (fun o ho _=>?_) (fun o ho hj=>absurd ho.1 hj)
   ·refine .step (v:=.bool false) (σ':=B s++[.miter m ts.length left last]) rfl (by simp [aop,AOpd.ev,Env.put,Env.get]) (.nil ⟨rfl,.inl ⟨h0,rfl,rfl⟩⟩)
   ·rw [hset]
    rw [List.getElem?_map] at hk
    cases ht:ts[i]? with
    |none=>rw [ht] at hk;cases hk
    |some t =>
     rw [ht] at hk
     simp only [Option.map_some,Option.some.injEq] at hk
     refine .step (v:=.bool true) (σ':=B s++[.miter m ts.length (left.filter (·≠i)) (some i)]) rfl (by simp [aop,AOpd.ev,Env.put,Env.get]) (.nil ⟨rfl,.inr ⟨i,t,hi,ht,?_,rfl⟩⟩)
     rw [hk]
     rfl
   ·obtain ⟨hj,⟨h0,he,hs⟩|⟨i,t,hi,ht,he,hs⟩⟩:=ho
    ·rw [he,hs]
     refine .seq (R:=fun o=>o.j=some (.exit j)∧K o.j o.env o.σ) (.cond false (by simp [AOpd.ev,Env.get]) (.jump ⟨rfl,?_⟩)) (fun o ho hn=>by rw [ho.1] at hn;cases hn) fun o ho hj=>.inr ⟨hj,ho.2⟩
     refine fin done s left last hP fun t=>⟨hdone t,fun htm=>?_⟩
     obtain ⟨i,hi,rfl⟩:=List.getElem_of_mem htm
     rcases hcov i ts[i] (List.getElem?_eq_getElem hi) with h|h
     ·rw [h0] at h;cases h
     ·exact h
    ·rw [he,hs]
     refine .seq (R:=fun o=>o.j=none∧o.env=(d2,.bool true)::(d,.tuple [.bool true,(kv t).1,(kv t).2])::IE s∧o.σ=B s++[.miter m ts.length (left.filter (·≠i)) (some i)]) (.cond true (by simp [AOpd.ev,Env.get]) (.skip ⟨rfl,rfl,rfl⟩)) (fun o ho _=>?_) fun o ho hj=>absurd ho.1 hj
     rw [ho.2.1,ho.2.2]
     have hst:=step done s t i (left.filter (·≠i)) hP (List.mem_of_getElem? ht) ht
     refine .trim2 (eQ hst fun o ho=>ho) fun o ho=>?_
     cases hj:o.j with
     |none =>
      rw [hj,JX,MJ] at ho
      obtain ⟨⟨b,s'⟩,⟨h1,h2⟩,_,h3⟩:=ho
      exact .inr ⟨_,_,BJ h3,.inl ⟨rfl,i,t,s',hi,ht,h2,rfl,rfl⟩⟩
     |some j =>
      rw [hj,JX,SB] at ho
      exact .inl (.inr ⟨by simp,ho⟩)
  refine .loop h1 (fun o ho hj=>?_) fun o ho hj=>?_
  ·rcases ho with ⟨_,i,t,s',hi,ht,hP',q3,q4⟩|⟨q1,_⟩
   ·rw [q3,q4]
    refine ih (left.filter (·≠i)).length ?_ _ _ (t::done) s' rfl ?_ ?_ hP'
    ·rw [←hl]
     refine List.length_filter_lt_length_iff_exists.2 ⟨i,hi,by simp⟩
    ·intro u hu
     rcases List.mem_cons.1 hu with rfl|hu
     ·exact List.mem_of_getElem? ht
     ·exact hdone u hu
    ·intro k u hk
     by_cases e:k=i
     ·subst e
      rw [ht] at hk
      cases hk
      exact .inr (by simp)
     ·rcases hcov k u hk with h|h
      ·exact .inl (by rw [List.mem_filter];exact ⟨h,by simpa using e⟩)
      ·exact .inr (List.mem_cons_of_mem _ h)
   ·exact absurd hj q1
  ·rcases ho with ⟨q,_⟩|⟨_,q⟩
   ·exact absurd q hj
   ·exact q
theorem YP {d d2 x j:Nat} {body:ACode} {e:Env} {σ:St} {K:KJ} (s0:S) (hN:∀ s,(B s).length=N) (hm:∀ s,(B s)[m]? = some (.map (ts.map kv))) (hx:∀ s,Env.get (IE s) x = .ptr N 0)
  (hP:P [] s0) (hσ:σ=B s0++[.miter m ts.length (List.range ts.length) none]) (hE:EqW e (IE s0))
  (step:∀ done s t i left,P done s→t∈ts→ts[i]? = some t→wp T body ((d2,.bool true)::(d,.tuple [.bool true,(kv t).1,(kv t).2])::IE s) (B s++[.miter m ts.length left (some i)]) (JX ts m P IE B t done s left i K))
  (fin:∀ done s left last,P done s→(∀ t,t∈done↔t∈ts)→K (some (.exit j)) ((d2,.bool false)::(d,.tuple [.bool false])::IE s) (B s++[.miter m ts.length left last])) :
  rK (K:=⟨K⟩) T (.loop (aDJ d d2 x j body)) e σ:=by
 subst hσ
 refine .weak (DR hE) (aH8 ts kv m N P IE B hN hm hx step fin _ _ _ [] s0 rfl (by simp) (fun i t ht=>.inl ?_) hP)
 rw [List.mem_range]
 by_cases h:i<ts.length
 ·exact h
 ·rw [List.getElem?_eq_none (by omega)] at ht;cases ht
end
end Go.Am.Room
set_option maxRecDepth 8000
namespace Go.Am.Room.Fa
def j3:=And.intro @cC (And.intro @aK (And.intro @cE (And.intro @encLook_eq (And.intro @aC (And.intro @cS (And.intro @S_mapLook (And.intro @cT (And.intro @List.length_append.{0} (And.intro @Nat.mul_one (And.intro @Int.toNat_natCast (And.intro @bI (And.intro @jU (And.intro @iL (And.intro @iP (And.intro @iT (And.intro @iM (And.intro @iK (And.intro @iX (And.intro @iW (And.intro @iR (And.intro @iO (And.intro @xT (And.intro @wO (And.intro @A7 (And.intro @AY (And.intro @gU (And.intro @kU (And.intro @kL (And.intro @tG (And.intro @kM (And.intro @tP (@y8))))))))))))))))))))))))))))))))
def zG (z s:Span) (l:List Int):Prop:=(l=[]→s=z)∧(l≠[]→s.lo∈l∧s.hi∈l∧∀ x∈l,s.lo≤x∧x≤s.hi)
def mm (s:Span) (x:Int):Span:=⟨min s.lo x,max s.hi x⟩
theorem OI {z s:Span} {l:List Int} {x:Int} (h:zG z s l) (hx:x≤z.lo∧z.hi≤x):zG z (mm s x) (x::l):=by
 refine ⟨fun h=>(by cases h),fun _=>?_⟩
 by_cases hl:l=[]
 ·have:=h.1 hl
  subst this
  subst hl
  have e1:min s.lo x=x:=by omega
  have e2:max s.hi x=x:=by omega
  simp only [mm,e1,e2]
  refine ⟨by simp,by simp,fun y hy=>?_⟩
  simp at hy
  omega
 ·obtain ⟨a,b,c⟩:=h.2 hl
  simp only [mm]
  refine ⟨?_,?_,fun y hy=>?_⟩
  ·by_cases h1:s.lo≤x
   ·rw [show min s.lo x=s.lo by omega];exact List.mem_cons_of_mem _ a
   ·rw [show min s.lo x=x by omega];simp
  ·by_cases h1:x≤s.hi
   ·rw [show max s.hi x=s.hi by omega];exact List.mem_cons_of_mem _ b
   ·rw [show max s.hi x=x by omega];simp
  ·rcases List.mem_cons.1 hy with rfl|hy
   ·omega
   ·have:=c y hy;omega
theorem yA {z s:Span} {l k:List Int} (h:zG z s l) (hk:∀ x,x∈l↔x∈k):zG z s k:=by
 have hn:l=[]↔k=[]:=by
  constructor
  ·intro e
   cases k with
   |nil=>rfl
   |cons a b=>have:=(hk a).2 (by simp);rw [e] at this;cases this
  ·intro e
   cases l with
   |nil=>rfl
   |cons a b=>have:=(hk a).1 (by simp);rw [e] at this;cases this
 refine ⟨fun e=>h.1 (hn.2 e),fun e=>?_⟩
 obtain ⟨a,b,c⟩:=h.2 fun e2=>e (hn.1 e2)
 exact ⟨(hk _).1 a,(hk _).1 b,fun x hx=>c x ((hk x).2 hx)⟩
theorem OE {z s:Span} {l:List Int} (h:zG z s l) (hl:l≠[]):s=qN l:=by
 obtain ⟨a,b,c⟩:=h.2 hl
 obtain ⟨d,e,f⟩:=lV hl
 have h1:=c _ d
 have h2:=c _ e
 have h3:=f _ a
 have h4:=f _ b
 cases s
 cases hs:qN l
 rw [hs] at h1 h2 h3 h4
 simp only at h1 h2 h3 h4
 congr<;>omega
theorem Q5 (z:Span):zG z z []:=⟨fun _=>rfl,fun h=>absurd rfl h⟩
structure KOk (v:Farm) (t:Truth):Prop where
 tok:TOk v t
 lst:∀ p,p<v.plots.length→lst v.rain.length (fF (hO t p))=hO t p
theorem BH {v:Farm} (hv:Vd v) {but:List Int} {t:Truth} (h:t∈aR v but):KOk v t:=by
 refine ⟨y4 hv h,fun p hp=>?_⟩
 have e:hO t p=bH v p t.rain but:=by simp [hO,(wA.1 h).2.1,hp]
 rw [e]
 exact KF hv hp _ _
structure KnownAt (σ:St) (v:Farm) (b m p:Nat) (ts:List Truth):Prop where
 obj:aM σ p=some (db v b m)
 map:σ[m]? = some (.map (ts.map kvT))
theorem KnownAt.pl {σ:St} {v:Farm} {b m p:Nat} {ts:List Truth} (h:KnownAt σ v b m p ts):p<σ.length:=xM h.obj
theorem KnownAt.ml {σ:St} {v:Farm} {b m p:Nat} {ts:List Truth} (h:KnownAt σ v b m p ts):m<σ.length:=by
 by_cases hm:m<σ.length
 ·exact hm
 ·have:=h.map;rw [List.getElem?_eq_none (by omega)] at this;cases this
theorem KnownAt.map1 {σ:St} {v:Farm} {b m p:Nat} {ts:List Truth} (h:KnownAt σ v b m p ts) (τ:St):(σ++τ)[m]? = some (.map (ts.map kvT)):=by rw [List.getElem?_append_left h.ml];exact h.map
theorem AH {σ:St} {v:Farm} {b m p:Nat} {ts:List Truth} (h:KnownAt σ v b m p ts) {t:Truth} {i:Nat} (ht:ts[i]? = some t) (left:List Nat) (a:ABlk) (τ:St) :
  vO (σ++(a::.miter m ts.length left (some i)::τ)) (.ptr (σ.length+1) 0)=some (.tuple [tJ t,yD t]):=by
 refine F8 (es:=ts.map kvT) (by rw [oI];rfl) (h.map1 _) (by simp) ?_
 rw [List.getElem?_map,ht]
 rfl
theorem sB (v:Farm) (hv:Vd v) (ts:List Truth) (hts:∀ t∈ts,KOk v t) (hne:ts≠[]) (b m p:Nat) (σ:St) (hK:KnownAt σ v b m p ts) (P d:Nat) (hP:P<v.plots.length) (hd:d≤v.rain.length) :
  eA T (.func 94 [] []) [.ptr p 0,.int .i64 P,.int .i64 d] σ (bC (fE ts P d)):=by
 refine bR (af:=a94) rfl (by simp [a94]) ?_
 have hnr:=hv.nra
 have hnp:=hv.npl
 have hpl:=hK.pl
 have hml:=hK.ml
 have h0:=fun τ=>qG hK.obj τ
 have hmr:=fun τ=>wS (hK.map1 τ)
 simp only [List.length_map] at hmr
 have hp2:p<σ.length+2:=by omega
 have hm2:m<σ.length+2:=by omega
 have i4:(0:Int)≤(P:Int)∧(P:Int)<((4:Nat):Int):=⟨by omega,by omega⟩
 (repeat (first|simp only [↓QA,QB,Nat.reduceLT,reduceIte,Nat.reduceEqDiff,Nat.reduceAdd,Nat.reduceLeDiff,Nat.reduceMul,Nat.reduceBEq,j3,a94,h0,hmr]|refine rd0 rfl ?_))
 refine YP (S:=Span) ts kvT m (σ.length+1) (fun done s=>zG ⟨31,-1⟩ s (cG done P d)) (fun _=>[(0,.ptr p 0),(1,.int .i64 P),(2,.int .i64 d),(6,.ptr σ.length 0),(17,.ptr (σ.length+1) 0)])
  (fun s=>σ++[.cells [.int .i64 s.lo,.int .i64 s.hi]]) ⟨31,-1⟩ (fun s=>by simp) (fun s=>hK.map1 _) (fun s=>by simp [Env.get]) (Q5 _) (by simp) ?_ (fun done s t i left hs ht hti=>?_) fun done s left last hs hdone=>?_
 ·try simp only [aF,QE,Nat.reduceLT,reduceIte,Nat.reduceEqDiff,Nat.reduceAdd,Nat.reduceLeDiff,Nat.reduceMul,Nat.reduceBEq,j3]
  try simp
 ·have hent:=AH hK hti left
  unfold JX
  obtain ⟨htk,hlst⟩:=hts t ht
  have hfl:=htk.fl P hP
  have hlst:=hlst P hP
  have hsb:fF (hO t P)<2^7:=A9 fun x hx=>by have:=hfl.2.2 x hx;omega
  have hge:=lJ 4 (fun q=>(fF (hO t q):Int)) (show P<4 by omega)
  have hnum:=lQ (fF (hO t P)) v.rain.length (by omega) (by omega)
  rw [hlst] at hnum
  have hfull:=fun (H:Nat) (τ:St)=>E3 (.ptr p 0) (rl t.rain) H d (nY hv htk.rain) (by omega) τ
  have hst:∀ x,x∈cG (t::done) P d↔x∈(hO t P).map (nG t d)∨x∈cG done P d:=fun x=>by
   rw [cG,List.flatMap_cons,List.mem_append];rfl
  obtain ⟨F,hF⟩:∃ F,hO t P=F:=⟨_,rfl⟩
  rw [hF] at hfl hnum hst
  simp only [hF] at hge
  obtain ⟨bb,hbb⟩:∃ bb:Nat,fF F=bb:=⟨_,rfl⟩
  rw [hbb] at hnum
  simp only [hbb] at hge
  (repeat (first|simp only [↓QA,QB,Nat.reduceLT,reduceIte,Nat.reduceEqDiff,Nat.reduceAdd,Nat.reduceLeDiff,Nat.reduceMul,Nat.reduceBEq,j3,hent,h0,kvT,tJ,yD,i4,Nat.zero_add,hge]|refine rd0 rfl ?_))
  ((first|refine aE (hnum) rfl dd ?_|refine aG (hnum) rfl dd ?_);(repeat (first|simp only [↓QA,QB,Nat.reduceLT,reduceIte,Nat.reduceEqDiff,Nat.reduceAdd,Nat.reduceLeDiff,Nat.reduceMul,Nat.reduceBEq,j3,hent,h0,kvT,tJ,yD,i4,Nat.zero_add,hge,ints]|refine rd0 rfl ?_)))
  refine bU (S:=Nat×Span) (0,s) (fun a=>a.1≤F.length∧zG ⟨31,-1⟩ a.2 ((F.take a.1).map (nG t d)++cG done P d)) (fun a=>F.length-a.1)
   (fun a=>[(0,.ptr p 0),(1,.int .i64 P),(2,.int .i64 d),(6,.ptr σ.length 0),(7,.ptr (σ.length+2) 0),(17,.ptr (σ.length+1) 0),(32,ints F),(33,.int .i64 F.length),(34,.int .i64 a.1)])
   (fun a=>σ++[.cells [.int .i64 a.2.lo,.int .i64 a.2.hi],.miter m ts.length left (some i),.cells (dN 7 (rl t.rain)),.cells (dN 4 (fun q=>(fF (hO t q):Int)))]) ⟨Nat.zero_le _,by simpa using hs⟩ (by simp) ?_ fun a ha=>?_
  ·try simp only [aF,QE,Nat.reduceLT,reduceIte,Nat.reduceEqDiff,Nat.reduceAdd,Nat.reduceLeDiff,Nat.reduceMul,Nat.reduceBEq,j3,ints]
   try simp
  ·obtain ⟨k,s⟩:=a
   obtain ⟨hk,hmm⟩:=ha
   simp only at hk hmm
   (repeat (first|simp only [↓QA,QB,Nat.reduceLT,reduceIte,Nat.reduceEqDiff,Nat.reduceAdd,Nat.reduceLeDiff,Nat.reduceMul,Nat.reduceBEq,j3,ZP,ints]|refine rd0 rfl ?_))
   refine aJ (fun h=>?_) fun h=>?_
   ·have hk1:k<F.length:=by simpa using h
    have hwk:=b7 hk1 (by omega)
    have hm:=hfl.2.2 _ (List.getElem_mem hk1)
    obtain ⟨H,hH⟩:∃ H:Nat,F[k]=(H:Int):=⟨F[k].toNat,by omega⟩
    have hfu:=hfull H
    have hx:pts (rl t.rain) H d=nG t d H:=by simp [nG,yJ]
    have hxb:=GK hv htk hd (H:Int)
    rw [hx] at hfu
    obtain ⟨x,hxe⟩:∃ x,nG t d H=x:=⟨_,rfl⟩
    rw [hxe] at hxb
    simp only [hxe] at hfu
    have hnx:zG ⟨31,-1⟩ (mm s x) ((F.take (k+1)).map (nG t d)++cG done P d):=by
     refine yA (OI hmm (by simp only;omega)) fun y=>?_
     rw [List.take_succ_eq_append_getElem hk1,List.map_append,List.map_cons,List.map_nil,hH,hxe]
     simp only [List.mem_cons,List.mem_append,List.not_mem_nil,or_false]
     constructor
     ·rintro (h|h|h)
      ·exact .inl (.inr h)
      ·exact .inl (.inl h)
      ·exact .inr h
     ·rintro ((h|h)|h)
      ·exact .inr (.inl h)
      ·exact .inl h
      ·exact .inr (.inr h)
    (repeat (first|simp only [↓QA,QB,Nat.reduceLT,reduceIte,Nat.reduceEqDiff,Nat.reduceAdd,Nat.reduceLeDiff,Nat.reduceMul,Nat.reduceBEq,j3,hk1,hH,ints]|refine rd0 rfl ?_))
    refine aV (hfu _) ?_
    (repeat (first|simp only [↓QA,QB,Nat.reduceLT,reduceIte,Nat.reduceEqDiff,Nat.reduceAdd,Nat.reduceLeDiff,Nat.reduceMul,Nat.reduceBEq,j3,hwk]|refine rd0 rfl ?_))
    refine ⟨(k+1,mm s x),⟨by simp only;omega,hnx⟩,by simp only;omega,?_⟩
    try simp only [aF,QE,Nat.reduceLT,reduceIte,Nat.reduceEqDiff,Nat.reduceAdd,Nat.reduceLeDiff,Nat.reduceMul,Nat.reduceBEq,j3,hwk,ints,mm,hp2]
    try simp [aT,okVs,okV,uT]
    try omega
   ·have hk1:k=F.length:=by simp at h;omega
    rw [hk1,List.take_length] at hmm
    (repeat (first|simp only [↓QA,QB,Nat.reduceLT,reduceIte,Nat.reduceEqDiff,Nat.reduceAdd,Nat.reduceLeDiff,Nat.reduceMul,Nat.reduceBEq,j3]|refine rd0 rfl ?_))
    refine ⟨(false,s),⟨rfl,yA hmm fun x=>?_⟩,by simp,?_⟩
    ·rw [hst,List.mem_append]
    ·try simp only [aF,QE,Nat.reduceLT,reduceIte,Nat.reduceEqDiff,Nat.reduceAdd,Nat.reduceLeDiff,Nat.reduceMul,Nat.reduceBEq,j3,hp2]
     try simp [aT,okVs,okV]
     try omega
 ·have hsp:fE ts P d=s:=by
   have hc:zG ⟨31,-1⟩ s (cG ts P d):=yA hs fun x=>by simp only [cG,List.mem_flatMap,hdone]
   exact (OE hc (n9 (fun t ht=>(hts t ht).tok) hne hP d)).symm
  rw [hsp]
  (repeat (first|simp only [↓QA,QB,Nat.reduceLT,reduceIte,Nat.reduceEqDiff,Nat.reduceAdd,Nat.reduceLeDiff,Nat.reduceMul,Nat.reduceBEq,j3]|refine rd0 rfl ?_))
  refine bY [.cells [.int .i64 s.lo,.int .i64 s.hi],.miter m ts.length left last] (by first|rfl|simp) ?_
  try simp only [QS,QC,Nat.reduceLT,reduceIte,Nat.reduceEqDiff,Nat.reduceAdd,Nat.reduceLeDiff,Nat.reduceMul,Nat.reduceBEq,j3]
end Go.Am.Room.Fa
set_option maxRecDepth 8000
namespace Go.Am.Room.Fa
def gW:=And.intro @cC (And.intro @aK (And.intro @cE (And.intro @encLook_eq (And.intro @aC (And.intro @cS (And.intro @S_mapLook (And.intro @cT (And.intro @List.length_append.{0} (And.intro @Nat.mul_one (And.intro @Int.toNat_natCast (And.intro @bI (And.intro @jU (And.intro @iL (And.intro @iP (And.intro @iT (And.intro @iM (And.intro @iK (And.intro @iX (And.intro @iW (And.intro @iR (And.intro @iO (And.intro @xT (And.intro @wO (And.intro @A7 (And.intro @AY (And.intro @gU (And.intro @kU (And.intro @kL (And.intro @tG (And.intro @kM (And.intro @tP (@y8))))))))))))))))))))))))))))))))
theorem mB {v:Farm} (hf:Fits v) {plot eo:Int} {F:AV} {σ:St} (hF:∀ τ,eA T F [] (σ++τ) (.int .i64 eo)) {E:Int} (hE:aZ v (jA v plot eo)=E) (h0:E≠0):eA T (.func 92 [] []) [encFarm v,.int .i64 plot,F] σ (.tuple [.nilPtr,.int .i64 E]):=by
 subst hE
 refine .mono (lT v hf plot eo F σ hF) fun o ho=>?_
 rcases ho with h|h
 ·exact h.2
 ·exact absurd h.1 h0
theorem oV {v:Farm} (hf:Fits v) {plot eo:Int} {F:AV} {σ:St} (hF:∀ τ,eA T F [] (σ++τ) (.int .i64 eo)) (hE:aZ v (jA v plot eo)=0):sW T (.func 92 [] []) [encFarm v,.int .i64 plot,F] σ (.tuple [.ptr (σ.length+3) 0,.int .i64 0]) (eJ (σ++[.cells (aB v)]) v 0 (aR v [])):=by
 refine .mono (lT v hf plot eo F σ hF) fun o ho=>?_
 rcases ho with h|h
 ·exact absurd hE h.1
 ·exact h.2
theorem WX (n k:Int) (hk:k<9223372036854775807):inR (max n (-1099511627775)) 0 k=inR n 0 k:=by
 rw [Bool.eq_iff_iff,gE,gE];omega
theorem KK (v:Farm) (hf:Fits v) (n:Int) (eo:Int):jA v (max n (-1099511627775)) eo=if (check v).2.2=0 then (if inR n 0 ((v.plots.length:Int)-1) then eo else 4) else (check v).2.2:=by
 have hfp:=hf.plots
 have hn:max n (-1099511627775)≠rW:=by unfold rW;omega
 rw [jA,WX n _ (by omega)]
 congr 1
 cases inR n 0 ((v.plots.length:Int)-1)
 ·simp [hn]
 ·simp
theorem aBQ (d G:Int):kF [d,G]=if inR d 0 G then 0 else 7:=rfl
theorem FQ (v:Farm) (hf:Fits v) (n d:Int):aZ v (jA v (max n (-1099511627775)) (kF [d,(v.rain.length:Int)]))=j9 v n d:=by
 rw [j9]
 congr 1
 rw [KK v hf,aBQ,cY,dA]
 by_cases h:(check v).2.2=0
 ·simp only [h,if_true]
  by_cases h2:inR n 0 ((v.plots.length:Int)-1)=true
  ·rw [if_pos h2,if_pos h2];rfl
  ·rw [if_neg h2,if_neg h2];rfl
 ·simp [h]
theorem CJ (v:Farm) (hf:Fits v) (n:Int):aZ v (jA v (max n (-1099511627775)) 0)=lN v n:=by
 rw [lN]
 congr 1
 rw [KK v hf,dA]
theorem DE (v:Farm) (eo:Int):jA v (-1099511627776) eo=if (check v).2.2=0 then eo else (check v).2.2:=by
 simp [jA,rW]
theorem UC (v:Farm) (d:Int):aZ v (jA v (-1099511627776) (kF [d,(v.rain.length:Int)-1]))=wN v d:=by
 rw [wN,DE]
 rfl
theorem OO (v:Farm) (d h:Int):aZ v (jA v (-1099511627776) (kF [d,(v.rain.length:Int),h,400]))=tL v d h:=by
 rw [tL]
 congr 1
 rw [DE]
 have:kF [d,(v.rain.length:Int),h,400]=if inR d 0 (v.rain.length:Int) then (if inR h 0 400 then 0 else 7) else 7:=rfl
 rw [this,cY,cY]
 by_cases hc:(check v).2.2=0
 ·simp only [hc,if_true,fM]
  by_cases h2:inR d 0 (v.rain.length:Int)=true
  ·simp [h2]
  ·simp [h2]
 ·simp [hc]
theorem n6 (v:Farm) (n d:Int) (hf:Fits v):cN T 15 [encFarm v,.int .i64 n,.int .i64 d] (iA (nN v n d)):=by
 refine aQ (af:=a15) rfl (by simp [a15]) dd ?_
 obtain ⟨E,hE⟩:∃ E,j9 v n d=E:=⟨_,rfl⟩
 have hask:=FQ v hf n d
 rw [hE] at hask
 have hun:=fun σ=>sD [d,(v.rain.length:Int)] σ
 have hu1:=fun (q:Nat) (σ:St) hq=>pI [d,(v.rain.length:Int)] (by simp) q σ hq
 simp only [u4,List.map_cons,List.map_nil] at hun hu1
 (repeat (first|simp only [↓QA,QB,Nat.reduceLT,reduceIte,Nat.reduceEqDiff,Nat.reduceAdd,Nat.reduceLeDiff,Nat.reduceMul,Nat.reduceBEq,gW,a15]|refine rd0 rfl ?_))
 refine eS (hun _) ?_
 (repeat (first|simp only [↓QA,QB,Nat.reduceLT,reduceIte,Nat.reduceEqDiff,Nat.reduceAdd,Nat.reduceLeDiff,Nat.reduceMul,Nat.reduceBEq,gW]|refine rd0 rfl ?_))
 by_cases h0':E=0
 ·subst h0'
  have hE2:=hE
  obtain ⟨hw,hne⟩:=dO hE2
  obtain ⟨ha,hd0,hd1⟩:=qT hw
  obtain ⟨hv,hn0,hn1⟩:=eV ha
  have hm:nN v n d=(fE (aR v []) n.toNat d.toNat,0):=by rw [nN,hE,if_pos rfl]
  rw [hm]
  simp only [fM] at hd1
  obtain ⟨N,rfl⟩:∃ N:Nat,n=N:=⟨n.toNat,by omega⟩
  obtain ⟨D,rfl⟩:∃ D:Nat,d=D:=⟨d.toNat,by omega⟩
  rw [Int.toNat_natCast,Int.toNat_natCast]
  have hen:=oV hf (plot:=max (N:Int) (-1099511627775)) (eo:=kF [(D:Int),(v.rain.length:Int)]) (F:=.func 233 [] [.ptr 2 0]) (σ:=[.cells (aB v),.cells [.int .i64 0,.int .i64 0],.cells [.lit [.int .i64 D,.int .i64 v.rain.length] true none]]) (fun τ=>hu1 _ _ rfl) hask
  have hgr:=sB v hv (aR v []) (fun t ht=>BH hv ht) hne 0 5 6 (eJ ([.cells (aB v),.cells [.int .i64 0,.int .i64 0],.cells [.lit [.int .i64 D,.int .i64 v.rain.length] true none]]++[.cells (aB v)]) v 0 (aR v [])) ⟨rfl,rfl⟩ N D (by omega) (by omega)
  try simp only [↓QA,QB,Nat.reduceLT,reduceIte,Nat.reduceEqDiff,Nat.reduceAdd,Nat.reduceLeDiff,Nat.reduceMul,Nat.reduceBEq,gW,eJ,List.cons_append,List.nil_append,List.length_cons,List.length_nil] at hen
  try simp only [↓QA,QB,Nat.reduceLT,reduceIte,Nat.reduceEqDiff,Nat.reduceAdd,Nat.reduceLeDiff,Nat.reduceMul,Nat.reduceBEq,gW,eJ,List.cons_append,List.nil_append,List.length_cons,List.length_nil] at hgr
  refine eS hen ?_
  (repeat (first|simp only [↓QA,QB,Nat.reduceLT,reduceIte,Nat.reduceEqDiff,Nat.reduceAdd,Nat.reduceLeDiff,Nat.reduceMul,Nat.reduceBEq,gW]|refine rd0 rfl ?_))
  refine aV hgr ?_
  (repeat (first|simp only [↓QA,QB,Nat.reduceLT,reduceIte,Nat.reduceEqDiff,Nat.reduceAdd,Nat.reduceLeDiff,Nat.reduceMul,Nat.reduceBEq,gW,iA]|refine rd0 rfl ?_))
 ·have hm:nN v n d=(⟨0,0⟩,E):=by rw [nN,hE,if_neg h0']
  have hg:(E==0)=false:=by simpa using h0'
  rw [hm]
  refine eL (mB hf (fun τ=>hu1 _ _ rfl) hask h0') ?_
  (repeat (first|simp only [↓QA,QB,Nat.reduceLT,reduceIte,Nat.reduceEqDiff,Nat.reduceAdd,Nat.reduceLeDiff,Nat.reduceMul,Nat.reduceBEq,gW,hg,iA]|refine rd0 rfl ?_))
theorem CK (v:Farm) (d:Int) (hf:Fits v):cN T 76 [encFarm v,.int .i64 d] (iA (qW v d)):=by
 refine aQ (af:=a76) rfl (by simp [a76]) dd ?_
 have hfr:=hf.rain
 have hwe:IntKind.i64.wrap ((v.rain.length:Int)-1)=(v.rain.length:Int)-1:=aX ⟨by omega,by omega⟩
 obtain ⟨E,hE⟩:∃ E,wN v d=E:=⟨_,rfl⟩
 have hask:=UC v d
 rw [hE] at hask
 obtain ⟨G1,hG1⟩:∃ G1,(v.rain.length:Int)-1=G1:=⟨_,rfl⟩
 rw [hG1] at hask hwe
 have hun:=fun σ=>sD [d,G1] σ
 have hu1:=fun (q:Nat) (σ:St) hq=>pI [d,G1] (by simp) q σ hq
 simp only [u4,List.map_cons,List.map_nil] at hun hu1
 (repeat (first|simp only [↓QA,QB,Nat.reduceLT,reduceIte,Nat.reduceEqDiff,Nat.reduceAdd,Nat.reduceLeDiff,Nat.reduceMul,Nat.reduceBEq,gW,a76,hG1,hwe]|refine rd0 rfl ?_))
 refine eS (hun _) ?_
 (repeat (first|simp only [↓QA,QB,Nat.reduceLT,reduceIte,Nat.reduceEqDiff,Nat.reduceAdd,Nat.reduceLeDiff,Nat.reduceMul,Nat.reduceBEq,gW]|refine rd0 rfl ?_))
 by_cases h0':E=0
 ·subst h0'
  have hE2:=hE
  obtain ⟨hw,hne⟩:=dO hE2
  obtain ⟨ha,hd0,hd1⟩:=qT hw
  have hv:=vd_of_check ha
  have hnr:=hv.nra
  have hm:qW v d=(qN (lK (aR v []) d.toNat),0):=by rw [qW,hE,if_pos rfl]
  rw [hm]
  simp only [fM] at hd1
  obtain ⟨D,rfl⟩:∃ D:Nat,d=D:=⟨d.toNat,by omega⟩
  rw [Int.toNat_natCast]
  have hen:=oV hf (plot:=-1099511627776) (eo:=kF [(D:Int),G1]) (F:=.func 233 [] [.ptr 2 0]) (σ:=[.cells (aB v),.cells [.int .i64 0,.int .i64 0],.cells [.lit [.int .i64 D,.int .i64 G1] true none]]) (fun τ=>hu1 _ _ rfl) hask
  try simp only [↓QA,QB,Nat.reduceLT,reduceIte,Nat.reduceEqDiff,Nat.reduceAdd,Nat.reduceLeDiff,Nat.reduceMul,Nat.reduceBEq,gW,eJ,List.cons_append,List.nil_append,List.length_cons,List.length_nil] at hen
  refine eS hen ?_
  have htsk:∀ t∈aR v [],TOk v t:=fun t ht=>y4 hv ht
  obtain ⟨ts,hts⟩:∃ ts,aR v []=ts:=⟨_,rfl⟩
  rw [hts] at hne ⊢
  simp only [hts] at htsk
  obtain ⟨σ,hσ⟩:∃ σ:St,[ABlk.cells (aB v),.cells [.int .i64 0,.int .i64 0],.cells [.lit [.int .i64 D,.int .i64 G1] true none],.cells (aB v),.cells (aB v),.map (ts.map kvT),.cells (db v 0 5)]=σ:=⟨_,rfl⟩
  have hmr:uX [ABlk.cells (aB v),.cells [.int .i64 2,.int .i64 0],.cells [.lit [.int .i64 D,.int .i64 G1] true none],.cells (aB v),.cells (aB v),.map (ts.map kvT),.cells (db v 0 5)] (.map 5)=some (.ptr 7 0,[ABlk.cells (aB v),.cells [.int .i64 2,.int .i64 0],.cells [.lit [.int .i64 D,.int .i64 G1] true none],.cells (aB v),.cells (aB v),.map (ts.map kvT),.cells (db v 0 5),.miter 5 ts.length (List.range ts.length) none]):=by
   have:=wS (σ:=[ABlk.cells (aB v),.cells [.int .i64 2,.int .i64 0],.cells [.lit [.int .i64 D,.int .i64 G1] true none],.cells (aB v),.cells (aB v),.map (ts.map kvT),.cells (db v 0 5)]) (m:=5) (es:=ts.map kvT) rfl
   simpa using this
  simp only [aK] at hmr
  (repeat (first|simp only [↓QA,QB,Nat.reduceLT,reduceIte,Nat.reduceEqDiff,Nat.reduceAdd,Nat.reduceLeDiff,Nat.reduceMul,Nat.reduceBEq,gW,hmr]|refine rd0 rfl ?_))
  refine YP (S:=Span) ts kvT 5 7 (fun done s=>zG ⟨2,0⟩ s (lK done D)) (fun _=>[(1,.int .i64 D),(4,.ptr 1 0),(29,.ptr 7 0)])
   (fun s=>[.cells (aB v),.cells [.int .i64 s.lo,.int .i64 s.hi],.cells [.lit [.int .i64 D,.int .i64 G1] true none],.cells (aB v),.cells (aB v),.map (ts.map kvT),.cells (db v 0 5)]) ⟨2,0⟩ (fun s=>rfl) (fun s=>rfl) (fun s=>by simp [Env.get]) (Q5 _) (by simp [aK]) ?_ (fun done s t i left hs ht hti=>?_) fun done s left last hs hdone=>?_
  ·try simp only [aF,QE,Nat.reduceLT,reduceIte,Nat.reduceEqDiff,Nat.reduceAdd,Nat.reduceLeDiff,Nat.reduceMul,Nat.reduceBEq,gW]
   try simp
  ·have htk:=htsk t ht
   have hent:∀ τ,vO (.cells (aB v)::.cells [.int .i64 s.lo,.int .i64 s.hi]::.cells [.lit [.int .i64 D,.int .i64 G1] true none]::.cells (aB v)::.cells (aB v)::.map (ts.map kvT)::.cells (db v 0 5)::.miter 5 ts.length left (some i)::τ) (.ptr 7 0)=some (.tuple [tJ t,yD t]):=fun τ=>by
    refine F8 (es:=ts.map kvT) rfl rfl (by simp) ?_
    rw [List.getElem?_map,hti];rfl
   simp only [aK] at hent
   unfold JX
   have hge:=lJ 7 (rl t.rain) (show D<7 by omega)
   have hrb:=nY hv htk.rain D
   obtain ⟨x,hx⟩:∃ x,rl t.rain D=x:=⟨_,rfl⟩
   rw [hx] at hge hrb
   have i7:(0:Int)≤(D:Int)∧(D:Int)<((7:Nat):Int):=⟨by omega,by omega⟩
   have hnx:zG ⟨2,0⟩ (mm s x) (lK (t::done) D):=by
    rw [lK,List.map_cons,hx]
    exact OI hs (by simp only;omega)
   (repeat (first|simp only [↓QA,QB,Nat.reduceLT,reduceIte,Nat.reduceEqDiff,Nat.reduceAdd,Nat.reduceLeDiff,Nat.reduceMul,Nat.reduceBEq,gW,hent,kvT,tJ,yD,i7,Nat.zero_add,hge,List.cons_append,List.nil_append]|refine rd0 rfl ?_))
   refine ⟨(false,mm s x),⟨rfl,hnx⟩,by simp,?_⟩
   try simp only [aF,QE,Nat.reduceLT,reduceIte,Nat.reduceEqDiff,Nat.reduceAdd,Nat.reduceLeDiff,Nat.reduceMul,Nat.reduceBEq,gW,mm,List.cons_append,List.nil_append]
   try simp [aT,okVs,okV]
  ·have hsp:qN (lK ts D)=s:=by
    have hc:zG ⟨2,0⟩ s (lK ts D):=yA hs fun x=>by simp only [lK,List.mem_map,hdone]
    refine (OE hc ?_).symm
    cases ts with
    |nil=>exact absurd rfl hne
    |cons a b=>simp [lK]
   rw [hsp]
   (repeat (first|simp only [↓QA,QB,Nat.reduceLT,reduceIte,Nat.reduceEqDiff,Nat.reduceAdd,Nat.reduceLeDiff,Nat.reduceMul,Nat.reduceBEq,gW,iA]|refine rd0 rfl ?_))
   try try simp only [QS,QC,Nat.reduceLT,reduceIte,Nat.reduceEqDiff,Nat.reduceAdd,Nat.reduceLeDiff,Nat.reduceMul,Nat.reduceBEq,gW]
 ·have hm:qW v d=(⟨0,0⟩,E):=by rw [qW,hE,if_neg h0']
  have hg:(E==0)=false:=by simpa using h0'
  rw [hm]
  refine eL (mB hf (fun τ=>hu1 _ _ rfl) hask h0') ?_
  (repeat (first|simp only [↓QA,QB,Nat.reduceLT,reduceIte,Nat.reduceEqDiff,Nat.reduceAdd,Nat.reduceLeDiff,Nat.reduceMul,Nat.reduceBEq,gW,hg,iA]|refine rd0 rfl ?_))
end Go.Am.Room.Fa
set_option maxRecDepth 8000
namespace Go.Am.Room.Fa
def mO:=And.intro @cC (And.intro @aK (And.intro @cE (And.intro @encLook_eq (And.intro @aC (And.intro @cS (And.intro @S_mapLook (And.intro @cT (And.intro @List.length_append.{0} (And.intro @Nat.mul_one (And.intro @Int.toNat_natCast (And.intro @bI (And.intro @jU (And.intro @iL (And.intro @iP (And.intro @iT (And.intro @iM (And.intro @iK (And.intro @iX (And.intro @iW (And.intro @iR (And.intro @iO (And.intro @xT (And.intro @wO (And.intro @A7 (And.intro @AY (And.intro @gU (And.intro @kU (And.intro @kL (And.intro @tG (And.intro @kM (And.intro @tP (@y8))))))))))))))))))))))))))))))))
theorem oA (σ:St):eA T (.func 222 [] []) [] σ (.int .i64 0):=QG XU rfl trivial
theorem QM (t:Truth) (l:List Truth) (p:Nat) (d:Int):DX (t::l) p d=((hO t p).contains d||DX l p d):=by simp [DX]
theorem M1 {l k:List Truth} (h:∀ t,t∈l↔t∈k) (p:Nat) (d:Int):DX l p d=DX k p d:=by
 rw [Bool.eq_iff_iff,DX,DX,List.any_eq_true,List.any_eq_true]
 constructor
 ·rintro ⟨t,a,b⟩;exact ⟨t,(h t).1 a,b⟩
 ·rintro ⟨t,a,b⟩;exact ⟨t,(h t).2 a,b⟩
theorem xO (v:Farm) (n:Int) (hf:Fits v):cN T 77 [encFarm v,.int .i64 n] (iJ (mA v n)):=by
 refine aQ (af:=a77) rfl (by simp [a77]) dd ?_
 obtain ⟨E,hE⟩:∃ E,lN v n=E:=⟨_,rfl⟩
 have hask:=CJ v hf n
 rw [hE] at hask
 (repeat (first|simp only [↓QA,QB,Nat.reduceLT,reduceIte,Nat.reduceEqDiff,Nat.reduceAdd,Nat.reduceLeDiff,Nat.reduceMul,Nat.reduceBEq,mO,a77]|refine rd0 rfl ?_))
 by_cases h0':E=0
 ·subst h0'
  have hE2:=hE
  obtain ⟨hw,hne⟩:=dO hE2
  obtain ⟨hv,hn0,hn1⟩:=eV hw
  have hnr:=hv.nra
  have hnp:=hv.npl
  have hm:mA v n=(oM v (aR v []) n.toNat,0):=by rw [mA,hE,if_pos rfl]
  rw [hm]
  obtain ⟨N,rfl⟩:∃ N:Nat,n=N:=⟨n.toNat,by omega⟩
  rw [Int.toNat_natCast]
  have hen:=oV hf (plot:=max (N:Int) (-1099511627775)) (eo:=0) (F:=.func 222 [] []) (σ:=[.cells (aB v)]) (fun τ=>oA _) hask
  try simp only [↓QA,QB,Nat.reduceLT,reduceIte,Nat.reduceEqDiff,Nat.reduceAdd,Nat.reduceLeDiff,Nat.reduceMul,Nat.reduceBEq,mO,eJ,List.cons_append,List.nil_append,List.length_cons,List.length_nil] at hen
  refine gY hen ?_
  have htsk:∀ t∈aR v [],TOk v t:=fun t ht=>y4 hv ht
  obtain ⟨ts,hts⟩:∃ ts,aR v []=ts:=⟨_,rfl⟩
  rw [hts] at hne ⊢
  simp only [hts] at htsk
  have hmr:uX [ABlk.cells (aB v),.cells (aB v),.cells (aB v),.map (ts.map kvT),.cells (db v 0 3)] (.map 3)=some (.ptr 5 0,[ABlk.cells (aB v),.cells (aB v),.cells (aB v),.map (ts.map kvT),.cells (db v 0 3),.miter 3 ts.length (List.range ts.length) none]):=by
   have:=wS (σ:=[ABlk.cells (aB v),.cells (aB v),.cells (aB v),.map (ts.map kvT),.cells (db v 0 3)]) (m:=3) (es:=ts.map kvT) rfl
   simpa using this
  simp only [aK] at hmr
  (repeat (first|simp only [↓QA,QB,Nat.reduceLT,reduceIte,Nat.reduceEqDiff,Nat.reduceAdd,Nat.reduceLeDiff,Nat.reduceMul,Nat.reduceBEq,mO,hmr]|refine rd0 rfl ?_))
  refine YP (S:=Nat) ts kvT 3 5 (fun done s=>s<2^7∧∀ i:Nat,s.testBit i=DX done N (i:Int)) (fun s=>[(1,.int .i64 N),(2,.ptr 0 0),(8,.int .i64 s),(25,.ptr 5 0)])
   (fun s=>[.cells (aB v),.cells (aB v),.cells (aB v),.map (ts.map kvT),.cells (db v 0 3)]) 0 (fun s=>rfl) (fun s=>rfl) (fun s=>by simp [Env.get]) ⟨by omega,fun i=>by simp [DX]⟩ (by simp [aK]) ?_ (fun done s t i left hs ht hti=>?_) fun done s left last hs hdone=>?_
  ·try simp only [aF,QE,Nat.reduceLT,reduceIte,Nat.reduceEqDiff,Nat.reduceAdd,Nat.reduceLeDiff,Nat.reduceMul,Nat.reduceBEq,mO]
   try simp
  ·obtain ⟨hs1,hs2⟩:=hs
   have htk:=htsk t ht
   have hfl:=htk.fl N (by omega)
   have hent:∀ τ,vO (.cells (aB v)::.cells (aB v)::.cells (aB v)::.map (ts.map kvT)::.cells (db v 0 3)::.miter 3 ts.length left (some i)::τ) (.ptr 5 0)=some (.tuple [tJ t,yD t]):=fun τ=>by
    refine F8 (es:=ts.map kvT) rfl rfl (by simp) ?_
    rw [List.getElem?_map,hti];rfl
   simp only [aK] at hent
   unfold JX
   have hge:=lJ 4 (fun q=>(fF (hO t q):Int)) (show N<4 by omega)
   have hsb:fF (hO t N)<2^7:=A9 fun x hx=>by have:=hfl.2.2 x hx;omega
   have hbit:=fun i=>xW (fun x hx=>(hfl.2.2 x hx).1) i
   have vor:=XT s (fF (hO t N)) (by omega) (by omega)
   have i4:(0:Int)≤(N:Int)∧(N:Int)<((4:Nat):Int):=⟨by omega,by omega⟩
   have hnx:s|||fF (hO t N)<2^7∧∀ i:Nat,(s|||fF (hO t N)).testBit i=DX (t::done) N (i:Int):=by
    refine ⟨Nat.or_lt_two_pow hs1 hsb,fun i=>?_⟩
    rw [Nat.testBit_or,hs2,hbit,QM,Bool.or_comm]
   (repeat (first|simp only [↓QA,QB,Nat.reduceLT,reduceIte,Nat.reduceEqDiff,Nat.reduceAdd,Nat.reduceLeDiff,Nat.reduceMul,Nat.reduceBEq,mO,hent,kvT,tJ,yD,i4,Nat.zero_add,hge,vor,List.cons_append,List.nil_append]|refine rd0 rfl ?_))
   refine ⟨(false,s|||fF (hO t N)),⟨rfl,hnx⟩,by simp,?_⟩
   try simp only [aF,QE,Nat.reduceLT,reduceIte,Nat.reduceEqDiff,Nat.reduceAdd,Nat.reduceLeDiff,Nat.reduceMul,Nat.reduceBEq,mO,List.cons_append,List.nil_append]
   try simp [aT,okVs,okV]
  ·obtain ⟨hs1,hs2⟩:=hs
   have hsp:lst v.rain.length s=oM v ts N:=by
    rw [lst,oM]
    refine List.filter_congr fun x hx=>?_
    have hx0:=(cO _ _ _).1 hx
    rw [←u5,hs2,show ((x.toNat:Nat):Int)=x by omega,M1 hdone]
   have hnum:=lQ s v.rain.length (by omega) (by omega)
   rw [hsp] at hnum
   obtain ⟨F,hF⟩:∃ F,oM v ts N=F:=⟨_,rfl⟩
   rw [hF] at hnum ⊢
   (repeat (first|simp only [↓QA,QB,Nat.reduceLT,reduceIte,Nat.reduceEqDiff,Nat.reduceAdd,Nat.reduceLeDiff,Nat.reduceMul,Nat.reduceBEq,mO,iJ]|refine rd0 rfl ?_))
   ((first|refine aE (hnum) rfl dd ?_|refine aG (hnum) rfl dd ?_);(repeat (first|simp only [↓QA,QB,Nat.reduceLT,reduceIte,Nat.reduceEqDiff,Nat.reduceAdd,Nat.reduceLeDiff,Nat.reduceMul,Nat.reduceBEq,mO,iJ]|refine rd0 rfl ?_)))
   try try simp only [QS,QC,Nat.reduceLT,reduceIte,Nat.reduceEqDiff,Nat.reduceAdd,Nat.reduceLeDiff,Nat.reduceMul,Nat.reduceBEq,mO]
 ·have hm:mA v n=([],E):=by rw [mA,hE,if_neg h0']
  have hg:(E==0)=false:=by simpa using h0'
  rw [hm]
  refine aV (mB hf (fun τ=>oA _) hask h0') ?_
  (repeat (first|simp only [↓QA,QB,Nat.reduceLT,reduceIte,Nat.reduceEqDiff,Nat.reduceAdd,Nat.reduceLeDiff,Nat.reduceMul,Nat.reduceBEq,mO,hg,iJ]|refine rd0 rfl ?_))
  try rfl
def aF1 (v:Farm) (s:Span) (some:Bool):Int :=
 if pG (decide (v.full≤s.lo)) (decide (s.hi<v.full))=2 then 2 else if pG (decide (s.hi+v.way.hi≤v.ripe)) (decide (v.ripe<s.lo+v.way.lo))=2 then 2
 else if pG (decide (v.full≤s.lo)) (decide (s.hi<v.full))=1∧pG (decide (s.hi+v.way.hi≤v.ripe)) (decide (v.ripe<s.lo+v.way.lo))=1 then 1 else if some then 0 else 2
def tU (v:Farm) (n:Int):Bool:=decide (v.full≤n)&&decide (n+v.way.lo≤v.ripe)
theorem TC {v:Farm} (hv:Vd v) {ts:List Truth} (hts:∀ t∈ts,TOk v t) (hne:ts≠[]) {P d:Nat} (hP:P<v.plots.length) (hd:d≤v.rain.length) :
  eY v ts P d=aF1 v (fE ts P d) ((cG ts P d).any (tU v)):=by
 have hfn:=n9 hts hne hP d
 obtain ⟨h1,h2,h3⟩:=lV hfn
 have hwy:=hv.way
 have hgne:mN v ts P d≠[]:=by
  rw [mN]
  cases hfi:cG ts P d with
  |nil=>exact absurd hfi hfn
  |cons a b =>
   have:nD v.way≠[]:=List.ne_nil_of_mem (lW.2 ⟨Int.le_refl _,hwy.2.1⟩)
   simp [BF,this]
 have hall:eY v ts P d=1↔∀ n∈cG ts P d,∀ w,v.way.lo≤w→w≤v.way.hi→v.full≤n∧n+w≤v.ripe:=by
  rw [eY,H1]
  simp only [mN,BF,List.mem_flatMap,List.mem_map,lW]
  constructor
  ·intro h n hn w hw0 hw1
   have:=h (vW v n w) ⟨n,hn,w,⟨hw0,hw1⟩,rfl⟩
   simpa [vW] using this
  ·rintro h _ ⟨n,hn,w,⟨hw0,hw1⟩,rfl⟩
   have:=h n hn w hw0 hw1
   simpa [vW] using this
 have hnone:eY v ts P d=2↔∀ n∈cG ts P d,∀ w,v.way.lo≤w→w≤v.way.hi→¬(v.full≤n∧n+w≤v.ripe):=by
  rw [eY,JW]
  simp only [mN,BF,List.mem_flatMap,List.mem_map,lW]
  constructor
  ·rintro ⟨_,h⟩ n hn w hw0 hw1 hc
   have:=h (vW v n w) ⟨n,hn,w,⟨hw0,hw1⟩,rfl⟩
   simp [vW,hc.1,hc.2] at this
  ·intro h
   refine ⟨hgne,?_⟩
   rintro _ ⟨n,hn,w,⟨hw0,hw1⟩,rfl⟩
   have:=h n hn w hw0 hw1
   rw [id,Bool.eq_false_iff]
   intro hc
   simp [vW] at hc
   exact this hc
 have hcases:=EE ((mN v ts P d).filter id).length (mN v ts P d).length
 have hg:eY v ts P d=mK ((mN v ts P d).filter id).length (mN v ts P d).length:=rfl
 rw [←hg] at hcases
 have hany:(cG ts P d).any (tU v)=true↔∃ n∈cG ts P d,v.full≤n∧n+v.way.lo≤v.ripe:=by
  simp [List.any_eq_true,tU]
 have hS:qN (cG ts P d)=fE ts P d:=rfl
 rw [hS] at h1 h2 h3
 obtain ⟨s,hs⟩:∃ s,fE ts P d=s:=⟨_,rfl⟩
 rw [hs] at h1 h2 h3 ⊢
 simp only [aF1,pG]
 by_cases a1:v.full≤s.lo
 ·by_cases a2:s.hi+v.way.hi≤v.ripe
  ·have:eY v ts P d=1:=hall.2 fun n hn w hw0 hw1=>by have:=h3 n hn;omega
   simp [a1,a2,this]
  ·by_cases a3:v.ripe<s.lo+v.way.lo
   ·have:eY v ts P d=2:=hnone.2 fun n hn w hw0 hw1=>by have:=h3 n hn;omega
    simp [a1,a2,a3,this]
   ·have hn1:eY v ts P d≠1:=fun e=>by have:=hall.1 e _ h2 _ (hwy.2.1) (Int.le_refl _);omega
    have hn2:eY v ts P d≠2:=fun e=>hnone.1 e _ h1 _ (Int.le_refl _) hwy.2.1 ⟨a1,by omega⟩
    have h0:eY v ts P d=0:=by rcases hcases with h|h|h<;>first|exact h|exact absurd h hn1|exact absurd h hn2
    have:(cG ts P d).any (tU v)=true:=hany.2 ⟨_,h1,a1,by omega⟩
    simp [a1,a2,a3,h0,this]
 ·by_cases a4:s.hi<v.full
  ·have:eY v ts P d=2:=hnone.2 fun n hn w hw0 hw1=>by have:=h3 n hn;omega
   simp [a1,a4,this]
  ·have hn1:eY v ts P d≠1:=fun e=>by have:=hall.1 e _ h1 _ (Int.le_refl _) hwy.2.1;omega
   by_cases hc:(cG ts P d).any (tU v)=true
   ·obtain ⟨n,hn,c1,c2⟩:=hany.1 hc
    have hn2:eY v ts P d≠2:=fun e=>hnone.1 e n hn _ (Int.le_refl _) hwy.2.1 ⟨c1,c2⟩
    have h0:eY v ts P d=0:=by rcases hcases with h|h|h<;>first|exact h|exact absurd h hn1|exact absurd h hn2
    have hnn:=h3 n hn
    have a3:¬v.ripe<s.lo+v.way.lo:=by omega
    by_cases a2:s.hi+v.way.hi≤v.ripe
    ·simp [a1,a4,a2,h0,hc]
    ·simp [a1,a4,a2,a3,h0,hc]
   ·have h2':eY v ts P d=2:=hnone.2 fun n hn w hw0 hw1 hcc=>hc (hany.2 ⟨n,hn,hcc.1,by omega⟩)
    have hcf:(cG ts P d).any (tU v)=false:=by simpa using hc
    rw [h2',hcf]
    by_cases a2:s.hi+v.way.hi≤v.ripe
    ·simp [a1,a4,a2]
    ·by_cases a3:v.ripe<s.lo+v.way.lo
     ·simp [a1,a4,a2,a3]
     ·simp [a1,a4,a2,a3]
end Go.Am.Room.Fa
set_option maxRecDepth 8000
namespace Go.Am.Room.Fa
def bP:=And.intro @cC (And.intro @aK (And.intro @cE (And.intro @encLook_eq (And.intro @aC (And.intro @cS (And.intro @S_mapLook (And.intro @cT (And.intro @List.length_append.{0} (And.intro @Nat.mul_one (And.intro @Int.toNat_natCast (And.intro @bI (And.intro @jU (And.intro @iL (And.intro @iP (And.intro @iT (And.intro @iM (And.intro @iK (And.intro @iX (And.intro @iW (And.intro @iR (And.intro @iO (And.intro @xT (And.intro @wO (And.intro @A7 (And.intro @AY (And.intro @gU (And.intro @kU (And.intro @kL (And.intro @tG (And.intro @kM (And.intro @tP (@y8))))))))))))))))))))))))))))))))
def rN:List Nat:=[443,445]
def mH (i:Nat):AV:=.agg [.func i [] []]
theorem BW (i:Nat):mH i = .agg [.func i [] []]:=by simp only [mH]
theorem OV (i:Nat):j4 (mH i):=⟨by simp [mH,okV,okVs],by simp [mH,clr,clrs]⟩
theorem FC (σ:St) (m d:Nat) (l:List Nat):cB σ m d (l.map mH)=some (l.map mH):=jD (bZ OV l) σ m d
theorem D1:cN T 331 [] (.lit (rN.map mH) false none):=by
 refine aQ (af:=a331) rfl (by simp [a331]) bF ?_
 (repeat (first|simp only [↓QA,QB,Nat.reduceLT,reduceIte,Nat.reduceEqDiff,Nat.reduceAdd,Nat.reduceLeDiff,Nat.reduceMul,Nat.reduceBEq,bP,a331,rN,BW,List.map_cons,List.map_nil]|refine rd0 rfl ?_))
 try simp [cV,cB,snap,snaps,clr,clrs]
def U7 (v:Farm) (s:Span):Int:=pG (decide (v.full≤s.lo)) (decide (s.hi<v.full))
def TK (v:Farm) (s:Span):Int:=pG (decide (s.hi+v.way.hi≤v.ripe)) (decide (v.ripe<s.lo+v.way.lo))
theorem K4 (v:Farm) (b m p:Nat) (s:Span) (σ:St) (hp:aM σ p=some (db v b m)):eA T (.func 443 [] []) [.ptr p 0,bC s] σ (.int .i64 (U7 v s)):=by
 refine bR (af:=a443) rfl (by simp [a443]) ?_
 have h0:=fun τ=>qG hp τ
 (repeat (first|simp only [↓QA,QB,Nat.reduceLT,reduceIte,Nat.reduceEqDiff,Nat.reduceAdd,Nat.reduceLeDiff,Nat.reduceMul,Nat.reduceBEq,bP,a443,h0]|refine rd0 rfl ?_))
 ((first|refine aE (BG (decide (v.full≤s.lo)) (decide (s.hi<v.full))) rfl dd ?_|refine aG (BG (decide (v.full≤s.lo)) (decide (s.hi<v.full))) rfl dd ?_);(repeat (first|simp only [↓QA,QB,Nat.reduceLT,reduceIte,Nat.reduceEqDiff,Nat.reduceAdd,Nat.reduceLeDiff,Nat.reduceMul,Nat.reduceBEq,bP,h0]|refine rd0 rfl ?_)))
 refine bY [.cells [.int .i64 s.lo,.int .i64 s.hi]] (by first|rfl|simp) ?_
 try simp only [QS,QC,Nat.reduceLT,reduceIte,Nat.reduceEqDiff,Nat.reduceAdd,Nat.reduceLeDiff,Nat.reduceMul,Nat.reduceBEq,bP,U7]
theorem M6 (v:Farm) (hv:Vd v) (b m p:Nat) (s:Span) (hs:0≤s.lo∧s.lo≤s.hi∧s.hi≤21) (σ:St) (hp:aM σ p=some (db v b m)):eA T (.func 445 [] []) [.ptr p 0,bC s] σ (.int .i64 (TK v s)):=by
 refine bR (af:=a445) rfl (by simp [a445]) ?_
 have h0:=fun τ=>qG hp τ
 have hwy:=hv.way
 have w1:IntKind.i64.wrap (s.hi+v.way.hi)=s.hi+v.way.hi:=aX ⟨by omega,by omega⟩
 have w2:IntKind.i64.wrap (s.lo+v.way.lo)=s.lo+v.way.lo:=aX ⟨by omega,by omega⟩
 (repeat (first|simp only [↓QA,QB,Nat.reduceLT,reduceIte,Nat.reduceEqDiff,Nat.reduceAdd,Nat.reduceLeDiff,Nat.reduceMul,Nat.reduceBEq,bP,a445,h0,w1,w2]|refine rd0 rfl ?_))
 ((first|refine aE (BG (decide (s.hi+v.way.hi≤v.ripe)) (decide (v.ripe<s.lo+v.way.lo))) rfl dd ?_|refine aG (BG (decide (s.hi+v.way.hi≤v.ripe)) (decide (v.ripe<s.lo+v.way.lo))) rfl dd ?_);(repeat (first|simp only [↓QA,QB,Nat.reduceLT,reduceIte,Nat.reduceEqDiff,Nat.reduceAdd,Nat.reduceLeDiff,Nat.reduceMul,Nat.reduceBEq,bP,h0]|refine rd0 rfl ?_)))
 refine bY [.cells [.int .i64 s.lo,.int .i64 s.hi]] (by first|rfl|simp) ?_
 try simp only [QS,QC,Nat.reduceLT,reduceIte,Nat.reduceEqDiff,Nat.reduceAdd,Nat.reduceLeDiff,Nat.reduceMul,Nat.reduceBEq,bP,TK]
theorem zU (a b:Bool):pG a b=0∨pG a b=1∨pG a b=2:=by cases a<;>cases b<;>simp [pG]
set_option maxHeartbeats 1000000 in
theorem JS (v:Farm) (hv:Vd v) (ts:List Truth) (hts:∀ t∈ts,KOk v t) (hne:ts≠[]) (b m p:Nat) (σ:St) (hK:KnownAt σ v b m p ts) (P d:Nat) (hP:P<v.plots.length) (hd:d≤v.rain.length) :
  eA T (.func 204 [] []) [.ptr p 0,.int .i64 P,.int .i64 d] σ (.int .i64 (eY v ts P d)):=by
 refine bR (af:=a204) rfl (by simp [a204]) ?_
 have hnr:=hv.nra
 have hnp:=hv.npl
 have hwy:=hv.way
 have hpl:=hK.pl
 have hml:=hK.ml
 have h0:=fun τ=>qG hK.obj τ
 have hmr:=fun τ=>wS (hK.map1 τ)
 simp only [List.length_map] at hmr
 have hp1:p<σ.length+1:=by omega
 have hp2:p<σ.length+2:=by omega
 have hm2:m<σ.length+2:=by omega
 have i4:(0:Int)≤(P:Int)∧(P:Int)<((4:Nat):Int):=⟨by omega,by omega⟩
 have hgr:=sB v hv ts hts hne b m p σ hK P d hP hd
 have hgood:=TC hv (fun t ht=>(hts t ht).tok) hne hP hd
 have hsb:=w9 hv (fun t ht=>(hts t ht).tok) hne hP hd
 obtain ⟨s,hs⟩:∃ s,fE ts P d=s:=⟨_,rfl⟩
 rw [hs] at hgr hgood hsb
 obtain ⟨G,hG⟩:∃ G,eY v ts P d=G:=⟨_,rfl⟩
 rw [hG] at hgood ⊢
 have hr1:=fun τ=>K4 v b m p s (σ++τ) (h0 τ)
 have hr2:=fun τ=>M6 v hv b m p s hsb (σ++τ) (h0 τ)
 obtain ⟨K1,hK1⟩:∃ K1,U7 v s=K1:=⟨_,rfl⟩
 obtain ⟨K2,hK2⟩:∃ K2,TK v s=K2:=⟨_,rfl⟩
 have c1:K1=0∨K1=1∨K1=2:=by rw [←hK1];exact zU _ _
 have c2:K2=0∨K2=1∨K2=2:=by rw [←hK2];exact zU _ _
 have hgd:G=if K1=2 then 2 else if K2=2 then 2 else if K1=1∧K2=1 then 1 else if (cG ts P d).any (tU v) then 0 else 2:=by
  rw [hgood,←hK1,←hK2];rfl
 simp only [hK1] at hr1
 simp only [hK2] at hr2
 have hrl:(rN.map mH).length=2:=rfl
 have hrl2:rN.length=2:=rfl
 (repeat (first|simp only [↓QA,QB,Nat.reduceLT,reduceIte,Nat.reduceEqDiff,Nat.reduceAdd,Nat.reduceLeDiff,Nat.reduceMul,Nat.reduceBEq,bP,a204]|refine rd0 rfl ?_))
 refine aV hgr ?_
 (repeat (first|simp only [↓QA,QB,Nat.reduceLT,reduceIte,Nat.reduceEqDiff,Nat.reduceAdd,Nat.reduceLeDiff,Nat.reduceMul,Nat.reduceBEq,bP]|refine rd0 rfl ?_))
 refine aE D1 rfl bF ?_
 (repeat (first|simp only [↓QA,QB,Nat.reduceLT,reduceIte,Nat.reduceEqDiff,Nat.reduceAdd,Nat.reduceLeDiff,Nat.reduceMul,Nat.reduceBEq,bP,hrl,hrl2]|refine rd0 rfl ?_))
 refine bU (S:=Nat×Bool) (0,true) (fun a=>a.1≤2∧(a.1=0→a.2=true)∧(1≤a.1→K1≠2)∧(a.1=1→a.2=(K1==1))∧(2≤a.1→K2≠2∧a.2=((K1==1)&&(K2==1)))) (fun a=>2-a.1)
  (fun a=>[(0,.ptr p 0),(1,.int .i64 P),(2,.int .i64 d),(7,.ptr σ.length 0),(8,.bool a.2),(20,.lit (rN.map mH) false none),(21,.int .i64 2),(22,.int .i64 a.1)])
  (fun a=>σ++[.cells [.int .i64 s.lo,.int .i64 s.hi]]) ⟨by omega,fun _=>rfl,fun h=>absurd h (by simp),fun h=>by simp at h,fun h=>absurd h (by simp)⟩ (by simp) ?_ fun a ha=>?_
 ·try simp only [aF,QE,Nat.reduceLT,reduceIte,Nat.reduceEqDiff,Nat.reduceAdd,Nat.reduceLeDiff,Nat.reduceMul,Nat.reduceBEq,bP]
  try simp
 ·obtain ⟨k,bb⟩:=a
  obtain ⟨hk,q0,q1,q2,q3⟩:=ha
  simp only at hk q0 q1 q2 q3
  (repeat (first|simp only [↓QA,QB,Nat.reduceLT,reduceIte,Nat.reduceEqDiff,Nat.reduceAdd,Nat.reduceLeDiff,Nat.reduceMul,Nat.reduceBEq,bP,TM]|refine rd0 rfl ?_))
  refine aJ (fun h=>?_) fun h=>?_
  ·have hk2:k=0∨k=1:=by
    have h0:(k:Int)<2:=by simpa using h
    omega
   have hw:=b7 (show k<2 by omega) (by omega)
   have hlk:k<rN.length:=by rw [hrl2];omega
   obtain ⟨id,hid,X,hcall,hX⟩:∃ id,rN[k]=id∧∃ X,(∀ τ,eA T (.func id [] []) [.ptr p 0,bC s] (σ++τ) (.int .i64 X))∧((k=0∧X=K1)∨(k=1∧X=K2)):=by
    rcases hk2 with rfl|rfl
    ·exact ⟨_,rfl,K1,hr1,.inl ⟨rfl,rfl⟩⟩
    ·exact ⟨_,rfl,K2,hr2,.inr ⟨rfl,rfl⟩⟩
   have hcl:cA 1 (.agg [.func id [] []])=true:=by simp [cA,AV.cells,AV.cell]
   (repeat (first|simp only [↓QA,QB,Nat.reduceLT,reduceIte,Nat.reduceEqDiff,Nat.reduceAdd,Nat.reduceLeDiff,Nat.reduceMul,Nat.reduceBEq,bP,hlk,hid,hcl,BW]|refine rd0 rfl ?_))
   refine aV (hcall _) ?_
   cases hx2:(X==2)
   ·have hx2':X≠2:=by simpa using hx2
    cases hx0:(X==0)
    ·have hx0':X≠0:=by simpa using hx0
     (repeat (first|simp only [↓QA,QB,Nat.reduceLT,reduceIte,Nat.reduceEqDiff,Nat.reduceAdd,Nat.reduceLeDiff,Nat.reduceMul,Nat.reduceBEq,bP,hx2,hx0,hw]|refine rd0 rfl ?_))
     refine ⟨(k+1,bb),⟨by simp only;omega,fun h=>by simp at h,?_,?_,?_⟩,by simp only;omega,?_⟩
     ·intro _
      rcases hX with ⟨e1,e2⟩|⟨e1,e2⟩
      ·rw [←e2];exact hx2'
      ·exact q1 (by omega)
     ·intro e
      simp only at e
      have e0:k=0:=by omega
      have hb:=q0 e0
      rcases hX with ⟨e1,e2⟩|⟨e1,e2⟩
      ·simp only [hb]
       have:K1=1:=by omega
       simp [this]
      ·omega
     ·intro e
      simp only at e
      rcases hX with ⟨e1,e2⟩|⟨e1,e2⟩
      ·omega
      ·refine ⟨by rw [←e2];exact hx2',?_⟩
       simp only [q2 e1]
       have:K2=1:=by omega
       simp [this]
     ·try simp only [aF,QE,Nat.reduceLT,reduceIte,Nat.reduceEqDiff,Nat.reduceAdd,Nat.reduceLeDiff,Nat.reduceMul,Nat.reduceBEq,bP,hw,hp1,FC]
      try simp [aT,okVs,okV]
    ·have hx0':X=0:=by simpa using hx0
     (repeat (first|simp only [↓QA,QB,Nat.reduceLT,reduceIte,Nat.reduceEqDiff,Nat.reduceAdd,Nat.reduceLeDiff,Nat.reduceMul,Nat.reduceBEq,bP,hx2,hx0,hw]|refine rd0 rfl ?_))
     refine ⟨(k+1,false),⟨by simp only;omega,fun h=>by simp at h,?_,?_,?_⟩,by simp only;omega,?_⟩
     ·intro _
      rcases hX with ⟨e1,e2⟩|⟨e1,e2⟩
      ·rw [←e2];exact hx2'
      ·exact q1 (by omega)
     ·intro e
      simp only at e
      rcases hX with ⟨e1,e2⟩|⟨e1,e2⟩
      ·have:K1=0:=by omega
       simp [this]
      ·omega
     ·intro e
      simp only at e
      rcases hX with ⟨e1,e2⟩|⟨e1,e2⟩
      ·omega
      ·refine ⟨by rw [←e2];exact hx2',?_⟩
       have:K2=0:=by omega
       simp [this]
     ·try simp only [aF,QE,Nat.reduceLT,reduceIte,Nat.reduceEqDiff,Nat.reduceAdd,Nat.reduceLeDiff,Nat.reduceMul,Nat.reduceBEq,bP,hw,hp1,FC]
      try simp [aT,okVs,okV]
   ·have hx2':X=2:=by simpa using hx2
    have hG2:G=2:=by
     rcases hX with ⟨e1,e2⟩|⟨e1,e2⟩
     ·rw [hgd,if_pos (by omega)]
     ·rw [hgd]
      split
      ·rfl
      ·rw [if_pos (by omega)]
    rw [hG2]
    (repeat (first|simp only [↓QA,QB,Nat.reduceLT,reduceIte,Nat.reduceEqDiff,Nat.reduceAdd,Nat.reduceLeDiff,Nat.reduceMul,Nat.reduceBEq,bP,hx2]|refine rd0 rfl ?_))
    refine bY [.cells [.int .i64 s.lo,.int .i64 s.hi],.cells [.func id [] []]] (by first|rfl|simp) ?_
    try simp only [QS,QC,Nat.reduceLT,reduceIte,Nat.reduceEqDiff,Nat.reduceAdd,Nat.reduceLeDiff,Nat.reduceMul,Nat.reduceBEq,bP]
  ·have hk2:k=2:=by
    have h0:¬(k:Int)<2:=by simpa using h
    omega
   obtain ⟨q4,q5⟩:=q3 (by omega)
   have q6:=q1 (by omega)
   clear q0 q1 q2 q3
   cases bb
   ·have h11:¬(K1=1∧K2=1):=by
     rintro ⟨e1,e2⟩
     rw [e1,e2] at q5
     simp at q5
    rw [if_neg q6,if_neg q4,if_neg h11] at hgd
    (repeat (first|simp only [↓QA,QB,Nat.reduceLT,reduceIte,Nat.reduceEqDiff,Nat.reduceAdd,Nat.reduceLeDiff,Nat.reduceMul,Nat.reduceBEq,bP,h0,hmr]|refine rd0 rfl ?_))
    refine YP (S:=Unit) ts kvT m (σ.length+1) (fun done _=>∀ n∈cG done P d,tU v n=false) (fun _=>[(0,.ptr p 0),(1,.int .i64 P),(2,.int .i64 d),(41,.ptr (σ.length+1) 0)])
     (fun _=>σ++[.cells [.int .i64 s.lo,.int .i64 s.hi]]) () (fun s=>by simp) (fun s=>hK.map1 _) (fun s=>by simp [Env.get]) (fun n hn=>by simp [cG] at hn) (by simp) ?_ (fun done _ t i left hcan ht hti=>?_) fun done _ left last hcan hdone=>?_
    ·try simp only [aF,QE,Nat.reduceLT,reduceIte,Nat.reduceEqDiff,Nat.reduceAdd,Nat.reduceLeDiff,Nat.reduceMul,Nat.reduceBEq,bP]
     try simp
    ·have hent:=AH hK hti left
     unfold JX
     obtain ⟨htk,hlst⟩:=hts t ht
     have hfl:=htk.fl P hP
     have hlst:=hlst P hP
     have hsb2:fF (hO t P)<2^7:=A9 fun x hx=>by have:=hfl.2.2 x hx;omega
     have hge:=lJ 4 (fun q=>(fF (hO t q):Int)) (show P<4 by omega)
     have hnum:=lQ (fF (hO t P)) v.rain.length (by omega) (by omega)
     rw [hlst] at hnum
     have hfull:=fun (H:Nat) (τ:St)=>E3 (.ptr p 0) (rl t.rain) H d (nY hv htk.rain) (by omega) τ
     have hmem:∀ x∈hO t P,(∃ y∈cG ts P d,y=nG t d x):=fun x hx=>⟨_,by simp only [cG,List.mem_flatMap,List.mem_map];exact ⟨t,ht,x,hx,rfl⟩,rfl⟩
     have hst:∀ x,x∈cG (t::done) P d→x∈(hO t P).map (nG t d)∨x∈cG done P d:=fun x=>by
      rw [cG,List.flatMap_cons,List.mem_append];exact id
     obtain ⟨F,hF⟩:∃ F,hO t P=F:=⟨_,rfl⟩
     rw [hF] at hfl hnum hst hmem
     simp only [hF] at hge
     obtain ⟨bb,hbb⟩:∃ bb:Nat,fF F=bb:=⟨_,rfl⟩
     rw [hbb] at hnum
     simp only [hbb] at hge
     (repeat (first|simp only [↓QA,QB,Nat.reduceLT,reduceIte,Nat.reduceEqDiff,Nat.reduceAdd,Nat.reduceLeDiff,Nat.reduceMul,Nat.reduceBEq,bP,hent,h0,kvT,tJ,yD,i4,Nat.zero_add,hge]|refine rd0 rfl ?_))
     ((first|refine aE (hnum) rfl dd ?_|refine aG (hnum) rfl dd ?_);(repeat (first|simp only [↓QA,QB,Nat.reduceLT,reduceIte,Nat.reduceEqDiff,Nat.reduceAdd,Nat.reduceLeDiff,Nat.reduceMul,Nat.reduceBEq,bP,hent,h0,kvT,tJ,yD,i4,Nat.zero_add,hge,ints]|refine rd0 rfl ?_)))
     refine bU (S:=Nat) 0 (fun k=>k≤F.length∧∀ x∈(F.take k).map (nG t d),tU v x=false) (fun k=>F.length-k)
      (fun k=>[(0,.ptr p 0),(1,.int .i64 P),(2,.int .i64 d),(11,.ptr (σ.length+2) 0),(41,.ptr (σ.length+1) 0),(56,ints F),(57,.int .i64 F.length),(58,.int .i64 k)])
      (fun k=>σ++[.cells [.int .i64 s.lo,.int .i64 s.hi],.miter m ts.length left (some i),.cells (dN 7 (rl t.rain)),.cells (dN 4 (fun q=>(fF (hO t q):Int)))]) ⟨Nat.zero_le _,by simp⟩ (by simp) ?_ fun k hk=>?_
     ·try simp only [aF,QE,Nat.reduceLT,reduceIte,Nat.reduceEqDiff,Nat.reduceAdd,Nat.reduceLeDiff,Nat.reduceMul,Nat.reduceBEq,bP,ints]
      try simp
     ·obtain ⟨hk,hmm⟩:=hk
      (repeat (first|simp only [↓QA,QB,Nat.reduceLT,reduceIte,Nat.reduceEqDiff,Nat.reduceAdd,Nat.reduceLeDiff,Nat.reduceMul,Nat.reduceBEq,bP,TQ,ints]|refine rd0 rfl ?_))
      refine aJ (fun h=>?_) fun h=>?_
      ·have hk1:k<F.length:=by simpa using h
       have hwk:=b7 hk1 (by omega)
       have hm:=hfl.2.2 _ (List.getElem_mem hk1)
       have hme:=hmem _ (List.getElem_mem hk1)
       obtain ⟨H,hH⟩:∃ H:Nat,F[k]=(H:Int):=⟨F[k].toNat,by omega⟩
       rw [hH] at hme
       have hfu:=hfull H
       have hx:pts (rl t.rain) H d=nG t d H:=by simp [nG,yJ]
       have hxb:=GK hv htk hd (H:Int)
       rw [hx] at hfu
       obtain ⟨x,hxe⟩:∃ x,nG t d H=x:=⟨_,rfl⟩
       rw [hxe] at hxb hme
       simp only [hxe] at hfu
       have hnx:tU v x=false→∀ y∈(F.take (k+1)).map (nG t d),tU v y=false:=fun hc y hy=>by
        rw [List.take_succ_eq_append_getElem hk1,List.map_append,List.map_cons,List.map_nil,hH,hxe] at hy
        rcases List.mem_append.1 hy with hy|hy
        ·exact hmm y hy
        ·simp at hy;rw [hy];exact hc
       have hwx:IntKind.i64.wrap (x+v.way.lo)=x+v.way.lo:=aX ⟨by omega,by omega⟩
       have hcb:tU v x=(decide (v.full≤x)&&decide (x+v.way.lo≤v.ripe)):=rfl
       (repeat (first|simp only [↓QA,QB,Nat.reduceLT,reduceIte,Nat.reduceEqDiff,Nat.reduceAdd,Nat.reduceLeDiff,Nat.reduceMul,Nat.reduceBEq,bP,hk1,hH,ints]|refine rd0 rfl ?_))
       refine aV (hfu _) ?_
       (repeat (first|simp only [↓QA,QB,Nat.reduceLT,reduceIte,Nat.reduceEqDiff,Nat.reduceAdd,Nat.reduceLeDiff,Nat.reduceMul,Nat.reduceBEq,bP,h0]|refine rd0 rfl ?_))
       cases h5:decide (v.full≤x)
       ·have hc:tU v x=false:=by rw [hcb,h5];rfl
        (repeat (first|simp only [↓QA,QB,Nat.reduceLT,reduceIte,Nat.reduceEqDiff,Nat.reduceAdd,Nat.reduceLeDiff,Nat.reduceMul,Nat.reduceBEq,bP,h5,h0,hwk]|refine rd0 rfl ?_))
        refine ⟨k+1,⟨by omega,hnx hc⟩,by omega,?_⟩
        try simp only [aF,QE,Nat.reduceLT,reduceIte,Nat.reduceEqDiff,Nat.reduceAdd,Nat.reduceLeDiff,Nat.reduceMul,Nat.reduceBEq,bP,hwk,ints,hp2]
        try simp [aT,okVs,okV,uT]
        try omega
       ·cases h6:decide (x+v.way.lo≤v.ripe)
        ·have hc:tU v x=false:=by rw [hcb,h5,h6];rfl
         (repeat (first|simp only [↓QA,QB,Nat.reduceLT,reduceIte,Nat.reduceEqDiff,Nat.reduceAdd,Nat.reduceLeDiff,Nat.reduceMul,Nat.reduceBEq,bP,h5,h0,hwx,h6,hwk]|refine rd0 rfl ?_))
         refine ⟨k+1,⟨by omega,hnx hc⟩,by omega,?_⟩
         try simp only [aF,QE,Nat.reduceLT,reduceIte,Nat.reduceEqDiff,Nat.reduceAdd,Nat.reduceLeDiff,Nat.reduceMul,Nat.reduceBEq,bP,hwk,ints,hp2]
         try simp [aT,okVs,okV,uT]
         try omega
        ·have hc:tU v x=true:=by rw [hcb,h5,h6];rfl
         have hany:(cG ts P d).any (tU v)=true:=by
          obtain ⟨y,hy,rfl⟩:=hme
          exact List.any_eq_true.2 ⟨_,hy,hc⟩
         have hG0:G=0:=by rw [hgd,hany];rfl
         rw [hG0]
         (repeat (first|simp only [↓QA,QB,Nat.reduceLT,reduceIte,Nat.reduceEqDiff,Nat.reduceAdd,Nat.reduceLeDiff,Nat.reduceMul,Nat.reduceBEq,bP,h5,h0,hwx,h6]|refine rd0 rfl ?_))
         refine bY [.cells [.int .i64 s.lo,.int .i64 s.hi],.miter m ts.length left (some i),.cells (dN 7 (rl t.rain)),.cells (dN 4 (fun q=>(fF (hO t q):Int)))] (by first|rfl|simp) ?_
         try simp only [QS,QC,Nat.reduceLT,reduceIte,Nat.reduceEqDiff,Nat.reduceAdd,Nat.reduceLeDiff,Nat.reduceMul,Nat.reduceBEq,bP]
      ·have hk1:k=F.length:=by simp at h;omega
       rw [hk1,List.take_length] at hmm
       (repeat (first|simp only [↓QA,QB,Nat.reduceLT,reduceIte,Nat.reduceEqDiff,Nat.reduceAdd,Nat.reduceLeDiff,Nat.reduceMul,Nat.reduceBEq,bP]|refine rd0 rfl ?_))
       refine ⟨(false,()),⟨rfl,fun x hx=>?_⟩,by simp,?_⟩
       ·rcases hst x hx with h|h
        ·exact hmm x h
        ·exact hcan x h
       ·try simp only [aF,QE,Nat.reduceLT,reduceIte,Nat.reduceEqDiff,Nat.reduceAdd,Nat.reduceLeDiff,Nat.reduceMul,Nat.reduceBEq,bP,hp2]
        try simp [aT,okVs,okV]
        try omega
    ·have hany:(cG ts P d).any (tU v)=false:=by
      rw [Bool.eq_false_iff]
      intro hc
      obtain ⟨n,hn,hcn⟩:=List.any_eq_true.1 hc
      have:n∈cG done P d:=by simp only [cG,List.mem_flatMap,hdone] at hn ⊢;exact hn
      rw [hcan n this] at hcn
      cases hcn
     have hG2:G=2:=by rw [hgd,hany];rfl
     rw [hG2]
     (repeat (first|simp only [↓QA,QB,Nat.reduceLT,reduceIte,Nat.reduceEqDiff,Nat.reduceAdd,Nat.reduceLeDiff,Nat.reduceMul,Nat.reduceBEq,bP]|refine rd0 rfl ?_))
     refine bY [.cells [.int .i64 s.lo,.int .i64 s.hi],.miter m ts.length left last] (by first|rfl|simp) ?_
     try simp only [QS,QC,Nat.reduceLT,reduceIte,Nat.reduceEqDiff,Nat.reduceAdd,Nat.reduceLeDiff,Nat.reduceMul,Nat.reduceBEq,bP]
   ·have h11:K1=1∧K2=1:=by
     have:=q5.symm
     simpa using this
    have hG1:G=1:=by rw [hgd,if_neg q6,if_neg q4,if_pos h11]
    rw [hG1]
    (repeat (first|simp only [↓QA,QB,Nat.reduceLT,reduceIte,Nat.reduceEqDiff,Nat.reduceAdd,Nat.reduceLeDiff,Nat.reduceMul,Nat.reduceBEq,bP]|refine rd0 rfl ?_))
    refine bY [.cells [.int .i64 s.lo,.int .i64 s.hi]] (by first|rfl|simp) ?_
    try simp only [QS,QC,Nat.reduceLT,reduceIte,Nat.reduceEqDiff,Nat.reduceAdd,Nat.reduceLeDiff,Nat.reduceMul,Nat.reduceBEq,bP]
end Go.Am.Room.Fa
set_option maxRecDepth 8000
namespace Go.Am.Room.Fa
def b8:=And.intro @cC (And.intro @aK (And.intro @cE (And.intro @encLook_eq (And.intro @aC (And.intro @cS (And.intro @S_mapLook (And.intro @cT (And.intro @List.length_append.{0} (And.intro @Nat.mul_one (And.intro @Int.toNat_natCast (And.intro @bI (And.intro @jU (And.intro @iL (And.intro @iP (And.intro @iT (And.intro @iM (And.intro @iK (And.intro @iX (And.intro @iW (And.intro @iR (And.intro @iO (And.intro @tP (@y8)))))))))))))))))))))))
theorem A4 (v:Farm) (n d:Int) (hf:Fits v):cN T 59 [encFarm v,.int .i64 n,.int .i64 d] (tF (CI v n d)):=by
 refine aQ (af:=a59) rfl (by simp [a59]) dd ?_
 obtain ⟨E,hE⟩:∃ E,j9 v n d=E:=⟨_,rfl⟩
 have hask:=FQ v hf n d
 rw [hE] at hask
 have hun:=fun σ=>sD [d,(v.rain.length:Int)] σ
 have hu1:=fun (q:Nat) (σ:St) hq=>pI [d,(v.rain.length:Int)] (by simp) q σ hq
 simp only [u4,List.map_cons,List.map_nil] at hun hu1
 (repeat (first|simp only [↓QA,QB,seval,b8,a59]|refine rd0 rfl ?_))
 refine eS (hun _) ?_
 (repeat (first|simp only [↓QA,QB,seval,b8]|refine rd0 rfl ?_))
 by_cases h0':E=0
 ·subst h0'
  have hE2:=hE
  obtain ⟨hw,hne⟩:=dO hE2
  obtain ⟨ha,hd0,hd1⟩:=qT hw
  obtain ⟨hv,hn0,hn1⟩:=eV ha
  have hm:CI v n d=(eY v (aR v []) n.toNat d.toNat,0):=by rw [CI,hE,if_pos rfl]
  rw [hm]
  simp only [fM] at hd1
  obtain ⟨N,rfl⟩:∃ N:Nat,n=N:=⟨n.toNat,by omega⟩
  obtain ⟨D,rfl⟩:∃ D:Nat,d=D:=⟨d.toNat,by omega⟩
  rw [Int.toNat_natCast,Int.toNat_natCast]
  have hen:=oV hf (plot:=max (N:Int) (-1099511627775)) (eo:=kF [(D:Int),(v.rain.length:Int)]) (F:=.func 233 [] [.ptr 1 0]) (σ:=[.cells (aB v),.cells [.lit [.int .i64 D,.int .i64 v.rain.length] true none]]) (fun τ=>hu1 _ _ rfl) hask
  have hgr:=JS v hv (aR v []) (fun t ht=>BH hv ht) hne 0 4 5 (eJ ([.cells (aB v),.cells [.lit [.int .i64 D,.int .i64 v.rain.length] true none]]++[.cells (aB v)]) v 0 (aR v [])) ⟨rfl,rfl⟩ N D (by omega) (by omega)
  try simp only [↓QA,QB,seval,b8,eJ,List.cons_append,List.nil_append,List.length_cons,List.length_nil] at hen
  try simp only [↓QA,QB,seval,b8,eJ,List.cons_append,List.nil_append,List.length_cons,List.length_nil] at hgr
  refine eS hen ?_
  (repeat (first|simp only [↓QA,QB,seval,b8]|refine rd0 rfl ?_))
  refine aV hgr ?_
  (repeat (first|simp only [↓QA,QB,seval,b8,tF]|refine rd0 rfl ?_))
 ·have hm:CI v n d=(0,E):=by rw [CI,hE,if_neg h0']
  have hg:(E==0)=false:=by simpa using h0'
  rw [hm]
  refine eL (mB hf (fun τ=>hu1 _ _ rfl) hask h0') ?_
  (repeat (first|simp only [↓QA,QB,seval,b8,hg,tF]|refine rd0 rfl ?_))
theorem JC (v:Farm) (n:Int) (hf:Fits v):cN T 74 [encFarm v,.int .i64 n] (pW (vU v n)):=by
 refine aQ (af:=a74) rfl (by simp [a74]) dd ?_
 obtain ⟨E,hE⟩:∃ E,lN v n=E:=⟨_,rfl⟩
 have hask:=CJ v hf n
 rw [hE] at hask
 (repeat (first|simp only [↓QA,QB,seval,b8,a74]|refine rd0 rfl ?_))
 by_cases h0':E=0
 ·subst h0'
  have hE2:=hE
  obtain ⟨hw,hne⟩:=dO hE2
  obtain ⟨hv,hn0,hn1⟩:=eV hw
  have hnr:=hv.nra
  have hm:vU v n=(BX v (aR v []) n.toNat,GZ v (aR v []) n.toNat,0):=by rw [vU,hE,if_pos rfl]
  rw [hm]
  obtain ⟨N,rfl⟩:∃ N:Nat,n=N:=⟨n.toNat,by omega⟩
  rw [Int.toNat_natCast]
  have hen:=oV hf (plot:=max (N:Int) (-1099511627775)) (eo:=0) (F:=.func 222 [] []) (σ:=[.cells (aB v)]) (fun τ=>oA _) hask
  have hgo:=fun (D:Nat) (hD:D≤v.rain.length) (τ:St)=>JS v hv (aR v []) (fun t ht=>BH hv ht) hne 0 3 4 ([.cells (aB v),.cells (aB v),.cells (aB v),.map ((aR v []).map kvT),.cells (db v 0 3)]++τ) ⟨rfl,rfl⟩ N D (by omega) hD
  try simp only [↓QA,QB,seval,b8,eJ,List.cons_append,List.nil_append,List.length_cons,List.length_nil] at hen
  refine gY hen ?_
  obtain ⟨ts,hts⟩:∃ ts,aR v []=ts:=⟨_,rfl⟩
  rw [hts] at hne ⊢
  simp only [hts,aK,List.cons_append,List.nil_append] at hgo
  obtain ⟨G,hG⟩:∃ G,v.rain.length=G:=⟨_,rfl⟩
  obtain ⟨R1,hR1⟩:∃ R,BX v ts N=R:=⟨_,rfl⟩
  obtain ⟨R2,hR2⟩:∃ R,GZ v ts N=R:=⟨_,rfl⟩
  obtain ⟨p1,hp1⟩:∃ p:Int→Bool,(fun d=>eY v ts N d.toNat==1)=p:=⟨_,rfl⟩
  obtain ⟨p2,hp2⟩:∃ p:Int→Bool,(fun d=>!(eY v ts N d.toNat==2))=p:=⟨_,rfl⟩
  have hR1':(aP 0 (G+1)).filter p1=R1:=by rw [←hR1,←hG,←hp1];rfl
  have hR2':(aP 0 (G+1)).filter p2=R2:=by rw [←hR2,←hG,←hp2];rfl
  have hl1:R1.length≤8:=by rw [←hR1'];exact Nat.le_trans (List.length_filter_le _ _) (by rw [kW];omega)
  have hl2:R2.length≤8:=by rw [←hR2'];exact Nat.le_trans (List.length_filter_le _ _) (by rw [kW];omega)
  rw [hR1,hR2]
  rw [hG] at hgo
  have hwG:IntKind.i64.wrap ((G:Int)+1)=((G+1:Nat):Int):=by rw [aX ⟨by omega,by omega⟩];omega
  (repeat (first|simp only [↓QA,QB,seval,b8,hG,hwG]|refine rd0 rfl ?_))
  refine oK 4 1 [] rfl ?_
  refine oK 5 1 [] rfl ?_
  refine bU (S:=Nat×List Int×Bool×List Int×Bool) (0,[],false,[],false) (fun a=>a.1≤G+1∧a.2.1++(aP (a.1:Int) (G+1-a.1)).filter p1=R1∧a.2.2.2.1++(aP (a.1:Int) (G+1-a.1)).filter p2=R2) (fun a=>G+1-a.1)
   (fun a=>[(1,.int .i64 N),(4,.lit (a.2.1.map (.int .i64)) false (some 5)),(5,.lit (a.2.2.2.1.map (.int .i64)) false (some 6)),(7,.ptr 4 0),(23,.int .i64 ((G+1:Nat):Int)),(24,.int .i64 a.1)])
   (fun a=>[.cells (aB v),.cells (aB v),.cells (aB v),.map (ts.map kvT),.cells (db v 0 3),.tok 1 a.2.1.length a.2.2.1,.tok 1 a.2.2.2.1.length a.2.2.2.2]) ⟨Nat.zero_le _,by simpa using hR1',by simpa using hR2'⟩ (by simp [aK]) ?_ fun a ha=>?_
  ·try simp only [aF,QE,seval,b8]
   try simp
  ·obtain ⟨d,ac1,ex1,ac2,ex2⟩:=a
   obtain ⟨hd,hc1,hc2⟩:=ha
   simp only at hd hc1 hc2
   (repeat (first|simp only [↓QA,QB,seval,b8,Z8]|refine rd0 rfl ?_))
   refine aJ (fun h=>?_) fun h=>?_
   ·have hd1:d<G+1:=by
     have h0:(d:Int)<((G+1:Nat):Int):=by simpa using h
     omega
    have hw:=b7 hd1 (by omega)
    rw [show G+1-d=(G+1-(d+1))+1 by omega] at hc1 hc2
    simp only [aP,List.filter_cons] at hc1 hc2
    rw [show ((d:Int)+1)=((d+1:Nat):Int) by omega] at hc1 hc2
    have ha1:ac1.length≤8:=by
     have:=congrArg List.length hc1
     simp only [List.length_append] at this
     omega
    have ha2:ac2.length≤8:=by
     have:=congrArg List.length hc2
     simp only [List.length_append] at this
     omega
    have hgd:=hgo d (by omega)
    have e1:p1 (d:Int)=(eY v ts N d==1):=by rw [←hp1];simp only [Int.toNat_natCast]
    have e2:p2 (d:Int) = !(eY v ts N d==2):=by rw [←hp2];simp only [Int.toNat_natCast]
    obtain ⟨g,hg⟩:∃ g,eY v ts N d=g:=⟨_,rfl⟩
    rw [hg] at e1 e2
    simp only [hg] at hgd
    rw [e1] at hc1
    rw [e2] at hc2
    have hap1:=fun (b0 b1 b2 b3 b4:ABlk) (τ:St)=>iG (σ:=b0::b1::b2::b3::b4::.tok 1 ac1.length ex1::τ) (l:=ac1) (a:=(d:Int)) (ex:=ex1) (t:=5) (by omega) rfl
    have hap2:=fun (b0 b1 b2 b3 b4 b5:ABlk) (τ:St)=>iG (σ:=b0::b1::b2::b3::b4::b5::.tok 1 ac2.length ex2::τ) (l:=ac2) (a:=(d:Int)) (ex:=ex2) (t:=6) (by omega) rfl
    (repeat (first|simp only [↓QA,QB,seval,b8]|refine rd0 rfl ?_))
    refine aV (hgd _) ?_
    cases h1:(g==1)
    ·rw [h1] at hc1
     simp only [Bool.false_eq_true,if_false] at hc1
     cases h2:(g==2)
     ·rw [h2] at hc2
      simp only [Bool.not_false,if_true] at hc2
      (repeat (first|simp only [↓QA,QB,seval,b8,h1,h2,hap2,hw]|refine rd0 rfl ?_))
      refine ⟨(d+1,ac1,ex1,ac2++[(d:Int)],true),⟨by simp only;omega,hc1,by rw [←hc2];simp⟩,by simp only;omega,?_⟩
      try simp only [aF,QE,seval,b8,hw,gL,List.map_append,List.map_cons,List.map_nil]
      try simp [aT]
     ·rw [h2] at hc2
      simp only [Bool.not_true,Bool.false_eq_true,if_false] at hc2
      (repeat (first|simp only [↓QA,QB,seval,b8,h1,h2,hw]|refine rd0 rfl ?_))
      refine ⟨(d+1,ac1,ex1,ac2,ex2),⟨by simp only;omega,hc1,hc2⟩,by simp only;omega,?_⟩
      try simp only [aF,QE,seval,b8,hw]
      try simp [aT]
    ·rw [h1] at hc1
     simp only [if_true] at hc1
     have hg1:g=1:=by simpa using h1
     have h2:(g==2)=false:=by rw [hg1];rfl
     rw [h2] at hc2
     simp only [Bool.not_false,if_true] at hc2
     (repeat (first|simp only [↓QA,QB,seval,b8,h1,hap1]|refine rd0 rfl ?_))
     (repeat (first|simp only [↓QA,QB,seval,b8,h2,hap2,hw]|refine rd0 rfl ?_))
     refine ⟨(d+1,ac1++[(d:Int)],true,ac2++[(d:Int)],true),⟨by simp only;omega,by rw [←hc1];simp,by rw [←hc2];simp⟩,by simp only;omega,?_⟩
     try simp only [aF,QE,seval,b8,hw,gL,List.map_append,List.map_cons,List.map_nil]
     try simp [aT]
   ·have hd1:d=G+1:=by
     have h0:¬(d:Int)<((G+1:Nat):Int):=by simpa using h
     omega
    rw [hd1,Nat.sub_self] at hc1 hc2
    simp only [aP,List.filter_nil,List.append_nil] at hc1 hc2
    subst hc1
    subst hc2
    (repeat (first|simp only [↓QA,QB,seval,b8,pW]|refine rd0 rfl ?_))
    try try simp only [QS,QC,seval,b8]
 ·have hm:vU v n=([],[],E):=by rw [vU,hE,if_neg h0']
  have hg:(E==0)=false:=by simpa using h0'
  rw [hm]
  refine aV (mB hf (fun τ=>oA _) hask h0') ?_
  (repeat (first|simp only [↓QA,QB,seval,b8,hg,pW]|refine rd0 rfl ?_))
  try rfl
theorem QO (q:Nat→Bool) (k:Nat):oX q (k+1)=if q k=true then (k:Int) else oX q k:=rfl
theorem FX (q:Nat→Bool):∀ k,-1≤oX q k∧oX q k<k
 |0=>by simp [oX]
 |k+1=>by
  have:=FX q k
  simp only [oX]
  split<;>omega
theorem xV (v:Farm) (n:Int) (hf:Fits v):cN T 75 [encFarm v,.int .i64 n] (tF (wI v n)):=by
 refine aQ (af:=a75) rfl (by simp [a75]) dd ?_
 obtain ⟨E,hE⟩:∃ E,lN v n=E:=⟨_,rfl⟩
 have hask:=CJ v hf n
 rw [hE] at hask
 (repeat (first|simp only [↓QA,QB,seval,b8,a75]|refine rd0 rfl ?_))
 by_cases h0':E=0
 ·subst h0'
  have hE2:=hE
  obtain ⟨hw,hne⟩:=dO hE2
  obtain ⟨hv,hn0,hn1⟩:=eV hw
  have hnr:=hv.nra
  have hwy:=hv.way
  have hm:wI v n=if CB v (aR v []) n.toNat = -1 then (0,9) else (CB v (aR v []) n.toNat,0):=by rw [wI,hE,if_pos rfl]
  rw [hm]
  obtain ⟨N,rfl⟩:∃ N:Nat,n=N:=⟨n.toNat,by omega⟩
  rw [Int.toNat_natCast]
  have hen:=oV hf (plot:=max (N:Int) (-1099511627775)) (eo:=0) (F:=.func 222 [] []) (σ:=[.cells (aB v)]) (fun τ=>oA _) hask
  have hgo:=fun (D:Nat) (hD:D≤v.rain.length) (τ:St)=>sB v hv (aR v []) (fun t ht=>BH hv ht) hne 0 3 4 ([.cells (aB v),.cells (aB v),.cells (aB v),.map ((aR v []).map kvT),.cells (db v 0 3)]++τ) ⟨rfl,rfl⟩ N D (by omega) hD
  have hsb:=fun (D:Nat) (hD:D≤v.rain.length)=>w9 hv (fun t ht=>y4 hv (but:=[]) ht) hne (show N<v.plots.length by omega) hD
  try simp only [↓QA,QB,seval,b8,eJ,List.cons_append,List.nil_append,List.length_cons,List.length_nil] at hen
  refine gY hen ?_
  obtain ⟨ts,hts⟩:∃ ts,aR v []=ts:=⟨_,rfl⟩
  rw [hts] at hne ⊢
  simp only [hts,aK,List.cons_append,List.nil_append] at hgo
  simp only [hts] at hsb
  obtain ⟨G,hG⟩:∃ G,v.rain.length=G:=⟨_,rfl⟩
  obtain ⟨L,hL⟩:∃ L,CB v ts N=L:=⟨_,rfl⟩
  have hL':oX (nE v ts N) (G+1)=L:=by rw [←hL,←hG];rfl
  have hLb:=FX (nE v ts N) (G+1)
  rw [hL'] at hLb
  rw [hL]
  rw [hG] at hgo hsb
  have hwG:IntKind.i64.wrap ((G:Int)+1)=((G+1:Nat):Int):=by rw [aX ⟨by omega,by omega⟩];omega
  (repeat (first|simp only [↓QA,QB,seval,b8,hG,hwG]|refine rd0 rfl ?_))
  refine bU (S:=Nat) 0 (fun k=>k≤G+1) (fun k=>G+1-k)
   (fun k=>[(1,.int .i64 N),(2,.ptr 0 0),(6,.ptr 4 0),(8,.int .i64 (oX (nE v ts N) k)),(23,.int .i64 ((G+1:Nat):Int)),(24,.int .i64 k)])
   (fun _=>[.cells (aB v),.cells (aB v),.cells (aB v),.map (ts.map kvT),.cells (db v 0 3)]) (Nat.zero_le _) (by simp [aK]) ?_ fun d hd=>?_
  ·try simp only [aF,QE,seval,b8]
   try simp [oX]
  ·(repeat (first|simp only [↓QA,QB,seval,b8,ZU]|refine rd0 rfl ?_))
   refine aJ (fun h=>?_) fun h=>?_
   ·have hd1:d<G+1:=by
     have h0:(d:Int)<((G+1:Nat):Int):=by simpa using h
     omega
    have hw:=b7 hd1 (by omega)
    have hgd:=hgo d (by omega)
    have hb:=hsb d (by omega)
    have hup:=QO (nE v ts N) d
    have hge:nE v ts N d=decide ((fE ts N d).hi+v.way.hi≤v.ripe):=rfl
    rw [hge] at hup
    obtain ⟨s,hs⟩:∃ s,fE ts N d=s:=⟨_,rfl⟩
    simp only [hs] at hgd hb hup
    have hwx:IntKind.i64.wrap (s.hi+v.way.hi)=s.hi+v.way.hi:=aX ⟨by omega,by omega⟩
    (repeat (first|simp only [↓QA,QB,seval,b8]|refine rd0 rfl ?_))
    refine eL (hgd _) ?_
    cases h5:decide (s.hi+v.way.hi≤v.ripe)
    ·rw [h5] at hup
     simp only [Bool.false_eq_true,if_false] at hup
     (repeat (first|simp only [↓QA,QB,seval,b8,hwx,h5,hw]|refine rd0 rfl ?_))
     refine ⟨d+1,by omega,by omega,?_⟩
     try simp only [aF,QE,seval,b8,hw,hup]
     try simp [aT]
    ·rw [h5] at hup
     simp only [if_true] at hup
     (repeat (first|simp only [↓QA,QB,seval,b8,hwx,h5,hw]|refine rd0 rfl ?_))
     refine ⟨d+1,by omega,by omega,?_⟩
     try simp only [aF,QE,seval,b8,hw,hup]
     try simp [aT]
   ·have hd1:d=G+1:=by
     have h0:¬(d:Int)<((G+1:Nat):Int):=by simpa using h
     omega
    subst hd1
    rw [hL']
    by_cases h9:L = -1
    ·subst h9
     rw [if_pos rfl]
     (repeat (first|simp only [↓QA,QB,seval,b8,show decide ((-1:Int)<0)=true from rfl,tF]|refine rd0 rfl ?_))
    ·have hlt:decide (L<0)=false:=by simp;omega
     rw [if_neg h9]
     (repeat (first|simp only [↓QA,QB,seval,b8,hlt,tF]|refine rd0 rfl ?_))
 ·have hm:wI v n=(0,E):=by rw [wI,hE,if_neg h0']
  have hg:(E==0)=false:=by simpa using h0'
  rw [hm]
  refine aV (mB hf (fun τ=>oA _) hask h0') ?_
  (repeat (first|simp only [↓QA,QB,seval,b8,hg,tF]|refine rd0 rfl ?_))
def yN (q:List Int→Bool) (sh:List Int→Nat) (L:List (List Int)):Option (List Int)→Prop
 |none=>∀ c∈L,q c=false
 |some b=>b∈L∧q b=true∧∀ c∈L,q c=true→sh b<sh c∨(sh b=sh c∧(c=b∨bD b c=true))
def J2 (q:List Int→Bool) (sh:List Int→Nat) (o:Option (List Int)) (c:List Int):Option (List Int) :=
 if q c then (match o with|none=>some c|some b=>if sh c<sh b then some c else some b) else o
def oH (q:List Int→Bool) (sh:List Int→Nat) (o:Option (List Int)) (c:List Int):Option (List Int) :=
 if q c then (match o with|none=>some c|some b=>if sh c<sh b∨(sh c=sh b∧bD c b=true) then some c else some b) else o
theorem IZ (q:List Int→Bool) (sh:List Int→Nat):∀ (L2 L1:List (List Int)) (o:Option (List Int)),(L1++L2).Pairwise (fun a b=>bD a b=true)→yN q sh L1 o→yN q sh (L1++L2) (L2.foldl (J2 q sh) o)
 |[],L1,o,_,h=>by simpa using h
 |c::L2,L1,o,hp,h=>by
  have e:L1++c::L2=(L1++[c])++L2:=by simp
  rw [e] at hp ⊢
  rw [List.foldl_cons]
  refine IZ q sh L2 (L1++[c]) _ hp ?_
  have hlast:∀ a∈L1,bD a c=true:=fun a ha=>(List.pairwise_append.1 (List.pairwise_append.1 hp).1).2.2 a ha c (by simp)
  cases hq:q c
  ·simp only [J2,hq,Bool.false_eq_true,if_false]
   cases o with
   |none =>
    intro d hd
    rcases List.mem_append.1 hd with hd|hd
    ·exact h d hd
    ·simp at hd;rw [hd];exact hq
   |some b =>
    refine ⟨List.mem_append_left _ h.1,h.2.1,fun d hd hqd=>?_⟩
    rcases List.mem_append.1 hd with hd|hd
    ·exact h.2.2 d hd hqd
    ·simp at hd;rw [hd,hq] at hqd;cases hqd
  ·simp only [J2,hq,if_true]
   cases o with
   |none =>
    refine ⟨by simp,hq,fun d hd hqd=>?_⟩
    rcases List.mem_append.1 hd with hd|hd
    ·rw [h d hd] at hqd;cases hqd
    ·simp at hd;exact .inr ⟨by rw [hd],.inl hd⟩
   |some b =>
    simp only
    split
    ·rename_i hlt
     refine ⟨by simp,hq,fun d hd hqd=>?_⟩
     rcases List.mem_append.1 hd with hd|hd
     ·rcases h.2.2 d hd hqd with h3|⟨h3,_⟩
      ·exact .inl (by omega)
      ·exact .inl (by omega)
     ·simp at hd;exact .inr ⟨by rw [hd],.inl hd⟩
    ·rename_i hlt
     refine ⟨List.mem_append_left _ h.1,h.2.1,fun d hd hqd=>?_⟩
     rcases List.mem_append.1 hd with hd|hd
     ·exact h.2.2 d hd hqd
     ·simp at hd
      subst hd
      by_cases he:sh b=sh d
      ·exact .inr ⟨he,.inr (hlast b h.1)⟩
      ·exact .inl (by omega)
theorem KI (q:List Int→Bool) (sh:List Int→Nat):∀ (L2 L1:List (List Int)) (o:Option (List Int)),yN q sh L1 o→yN q sh (L1++L2) (L2.foldl (oH q sh) o)
 |[],L1,o,h=>by simpa using h
 |c::L2,L1,o,h=>by
  have e:L1++c::L2=(L1++[c])++L2:=by simp
  rw [e,List.foldl_cons]
  refine KI q sh L2 (L1++[c]) _ ?_
  cases hq:q c
  ·simp only [oH,hq,Bool.false_eq_true,if_false]
   cases o with
   |none =>
    intro d hd
    rcases List.mem_append.1 hd with hd|hd
    ·exact h d hd
    ·simp at hd;rw [hd];exact hq
   |some b =>
    refine ⟨List.mem_append_left _ h.1,h.2.1,fun d hd hqd=>?_⟩
    rcases List.mem_append.1 hd with hd|hd
    ·exact h.2.2 d hd hqd
    ·simp at hd;rw [hd,hq] at hqd;cases hqd
  ·simp only [oH,hq,if_true]
   cases o with
   |none =>
    refine ⟨by simp,hq,fun d hd hqd=>?_⟩
    rcases List.mem_append.1 hd with hd|hd
    ·rw [h d hd] at hqd;cases hqd
    ·simp at hd;exact .inr ⟨by rw [hd],.inl hd⟩
   |some b =>
    simp only
    split
    ·rename_i hlt
     refine ⟨by simp,hq,fun d hd hqd=>?_⟩
     rcases List.mem_append.1 hd with hd|hd
     ·rcases h.2.2 d hd hqd with h3|⟨h3,h4⟩
      ·rcases hlt with hl|⟨hl,_⟩
       ·exact .inl (by omega)
       ·exact .inl (by omega)
      ·rcases hlt with hl|⟨hl,hf⟩
       ·exact .inl (by omega)
       ·refine .inr ⟨by omega,.inr ?_⟩
        rcases h4 with h4|h4
        ·rw [h4];exact hf
        ·exact jO hf h4
     ·simp at hd;exact .inr ⟨by rw [hd],.inl hd⟩
    ·rename_i hlt
     refine ⟨List.mem_append_left _ h.1,h.2.1,fun d hd hqd=>?_⟩
     rcases List.mem_append.1 hd with hd|hd
     ·exact h.2.2 d hd hqd
     ·simp at hd
      subst hd
      rw [not_or] at hlt
      by_cases he:sh b=sh d
      ·refine .inr ⟨he,?_⟩
       have hnf:bD d b=false:=by
        cases hf:bD d b
        ·rfl
        ·exact absurd ⟨he.symm,hf⟩ hlt.2
       by_cases hbf:bD b d=true
       ·exact .inr hbf
       ·exact .inl (n4 hnf (by simpa using hbf))
      ·exact .inl (by omega)
theorem RR {q:List Int→Bool} {sh:List Int→Nat} {L K:List (List Int)} (hLK:∀ c,c∈L↔c∈K) {a b:Option (List Int)} (ha:yN q sh L a) (hb:yN q sh K b):a=b:=by
 cases a with
 |none =>
  cases b with
  |none=>rfl
  |some b=>have:=ha b ((hLK b).2 hb.1);rw [hb.2.1] at this;cases this
 |some a =>
  cases b with
  |none=>have:=hb a ((hLK a).1 ha.1);rw [ha.2.1] at this;cases this
  |some b =>
   have h1:=ha.2.2 b ((hLK b).2 hb.1) hb.2.1
   have h2:=hb.2.2 a ((hLK a).1 ha.1) ha.2.1
   rcases h1 with h1|⟨h1,h3⟩
   ·rcases h2 with h2|⟨h2,_⟩<;>omega
   ·rcases h2 with h2|⟨h2,h4⟩
    ·omega
    ·rcases h3 with h3|h3
     ·rw [h3]
     ·rcases h4 with h4|h4
      ·rw [h4]
      ·have:=jO h3 h4
       rw [jS] at this
       cases this
theorem v7 {n:Nat}:∀ {k m:Nat} {c:List Int},c∈vY n k m↔∃ i,m≤i∧i<m+k∧c∈bE n i
 |0,m,c=>by simp [vY];intro i a b;omega
 |k+1,m,c=>by
  rw [vY,List.mem_append,v7 (k:=k)]
  constructor
  ·rintro (h|⟨i,a,b,h⟩)
   ·exact ⟨m,Nat.le_refl _,by omega,h⟩
   ·exact ⟨i,by omega,by omega,h⟩
  ·rintro ⟨i,a,b,h⟩
   by_cases e:i=m
   ·subst e;exact .inl h
   ·exact .inr ⟨i,by omega,by omega,h⟩
theorem vF {n:Nat} (hn:n≤6):∀ (k m:Nat),m+k≤7→(vY n k m).Pairwise fun a b=>bD a b=true
 |0,m,_=>List.Pairwise.nil
 |k+1,m,h=>by
  rw [vY,List.pairwise_append]
  refine ⟨?_,vF hn k (m+1) (by omega),fun a ha b hb=>?_⟩
  ·have:=lO ⟨n,by omega⟩ ⟨m,by omega⟩
   simp only at this
   refine (List.pairwise_iff_forall_sublist.2 fun {a b} hab=>?_)
   have h1:=(List.pairwise_iff_forall_sublist.1 this) hab
   have ha:=(dB n m a (hab.subset (by simp))).1
   have hb:=(dB n m b (hab.subset (by simp))).1
   simp [bD,ha,hb,h1]
  ·obtain ⟨i,hi,_,hbi⟩:=v7.1 hb
   have h1:=(dB n m a ha).1
   have h2:=(dB n i b hbi).1
   have:a.length<b.length:=by omega
   rw [bD,if_neg (by omega)]
   simpa using this
def uL (n:Nat):List (List Int):=(List.range (2^n)).map (lst n)
theorem T8 {n:Nat} (hn:n≤6) (c:List Int):c∈oL n↔c∈uL n:=by
 rw [oL,v7,uL,List.mem_map]
 constructor
 ·rintro ⟨i,_,hi,hc⟩
  obtain ⟨s,hs,he⟩:=BI ⟨n,by omega⟩ ⟨i,by omega⟩ c hc
  exact ⟨s.val,by simpa using hs,he⟩
 ·rintro ⟨s,hs,rfl⟩
  have hs2:s<2^n:=by simpa using hs
  have hp:2^n≤2^6:=Nat.pow_le_pow_right (by omega) hn
  have:=G5 ⟨n,by omega⟩ ⟨s,by omega⟩ hs2
  exact ⟨(lst n s).length,Nat.zero_le _,by have:=rG n s;omega,this⟩
theorem TO {q:List Int→Bool} {sh:List Int→Nat} {n:Nat} (hn:n≤6):(oL n).foldl (J2 q sh) none=(uL n).foldl (oH q sh) none:=by
 have h1:=IZ q sh (oL n) [] none (by rw [List.nil_append];exact vF hn (n+1) 0 (by omega)) (fun c hc=>by cases hc)
 have h2:=KI q sh (uL n) [] none (fun c hc=>by cases hc)
 exact RR (T8 hn) h1 h2
theorem LV (v:Farm) (l:List Truth) (d:Nat) (hands:Int):FJ v l d hands=J2 (fun c=>o7 v l c d hands) (fun c=>(bA v l c d).length):=by
 funext o c
 rfl
theorem M4 {v:Farm} (hv:Vd v):mI v≠[]:=by
 have:RainOk v (v.rain.map fun s=>s.lo):=⟨by simp,fun i h=>by
  have h2:=hv.ra _ (List.getElem_mem h)
  have e:rl (v.rain.map fun s=>s.lo) i=v.rain[i].lo:=by simp [rl,h]
  rw [e]
  omega⟩
 exact List.ne_nil_of_mem (m4.2 this)
theorem w5 {v:Farm} (hv:Vd v) {but:List Int} (h:∀ k,k<v.looks.length→but.contains (k:Int)=true):bQ v but=true:=by
 obtain ⟨c,hc⟩:=List.exists_mem_of_ne_nil _ (M4 hv)
 have ht:(⟨c,(List.range v.plots.length).map (fun p=>bH v p c but)⟩:Truth)∈aR v but:=by
  refine wA.2 ⟨m4.1 hc,rfl,fun x hx e=>?_⟩
  simp only [List.mem_map,List.mem_range] at hx
  obtain ⟨p,hp,rfl⟩:=hx
  have hpl:=(EY hv hp).1
  have:v.plots[p].flower.lo∈bH v p c but:=by
   rw [bH,qP hp,List.mem_filter,lW]
   refine ⟨by omega,?_⟩
   rw [j8,List.all_eq_true]
   intro k hk
   have hk2:k<v.looks.length:=by simpa using hk
   rw [List.getElem?_eq_getElem hk2]
   simp only [qC,h k hk2,Bool.or_true,Bool.true_or]
  rw [e] at this
  cases this
 rw [bQ]
 cases hh:aR v but with
 |nil=>rw [hh] at ht;cases ht
 |cons a b=>rfl
theorem yL {v:Farm} (hv:Vd v):∀ c∈bE v.looks.length v.looks.length,bQ v c=true:=fun c hc=>by
 have hl:=hv.nlk
 exact w5 hv fun k hk=>rD ⟨v.looks.length,by omega⟩ c hc ⟨k,by omega⟩ hk
theorem sY (f:List Int→Bool) (n:Nat):∀ k m,eE f n (k+1) m=(eE f n k m).or ((bE n (m+k)).find? f)
 |0,m=>by simp only [eE,Nat.add_zero];cases (bE n m).find? f<;>rfl
 |k+1,m=>by
  rw [eE,sY f n k (m+1)]
  rw [show eE f n (k+1) m=(match (bE n m).find? f with|some l=>some l|none=>eE f n k (m+1)) from rfl]
  rw [show m+1+k=m+(k+1) by omega]
  cases (bE n m).find? f<;>rfl
theorem JZ {v:Farm} (hv:Vd v):eE (bQ v) v.looks.length (v.looks.length+1) 0=some (B1 v):=by
 have hl:=hv.nlk
 have h1:=uC ⟨v.looks.length,by omega⟩
 simp only at h1
 obtain ⟨w,hw⟩:=List.length_eq_one_iff.1 h1
 have hs:=yL hv w (by rw [hw];simp)
 rw [sY,B1,Nat.zero_add,hw]
 cases eE (bQ v) v.looks.length v.looks.length 0 with
 |some l=>rfl
 |none=>simp [hs]
end Go.Am.Room.Fa
set_option maxRecDepth 8000
namespace Go.Am.Room.Fa
def bX:=And.intro @cC (And.intro @aK (And.intro @cE (And.intro @encLook_eq (And.intro @aC (And.intro @cS (And.intro @S_mapLook (And.intro @cT (And.intro @List.length_append.{0} (And.intro @Nat.mul_one (And.intro @Int.toNat_natCast (And.intro @bI (And.intro @jU (And.intro @iL (And.intro @iP (And.intro @iT (And.intro @iM (And.intro @iK (And.intro @iX (And.intro @iW (And.intro @iR (And.intro @iO (@gL))))))))))))))))))))))
theorem qX (v:Farm) (hf:Fits v):cN T 78 [encFarm v] (iJ (lB v)):=by
 refine aQ (af:=a78) rfl (by simp [a78]) dd ?_
 (repeat (first|simp only [↓QA,QB,seval,bX,a78]|refine rd0 rfl ?_))
 ((first|refine aE (jG v hf) rfl dd ?_|refine aG (jG v hf) rfl dd ?_);(repeat (first|simp only [↓QA,QB,seval,bX,enc3]|refine rd0 rfl ?_)))
 cases h0:((check v).2.2==0)
 ·have h0':(check v).2.2≠0:=by simpa using h0
  have hwo:lB v=([],(check v).2.2):=if_neg h0'
  rw [hwo]
  (repeat (first|simp only [↓QA,QB,seval,bX,h0,iJ]|refine rd0 rfl ?_))
  try rfl
 ·have h0':(check v).2.2=0:=by simpa using h0
  have hwo:lB v=(B1 v,0):=if_pos h0'
  have hv:=vd_of_check h0'
  have hnl:=hv.nlk
  have hwf:=JZ hv
  rw [←aB3 _ _ (by omega)] at hwf
  rw [hwo]
  obtain ⟨W,hW⟩:∃ W,B1 v=W:=⟨_,rfl⟩
  rw [hW] at hwf ⊢
  obtain ⟨n,hn⟩:∃ n,v.looks.length=n:=⟨_,rfl⟩
  rw [hn] at hwf hnl
  have hp:2^n≤2^4:=Nat.pow_le_pow_right (by omega) hnl
  have hshl:=y9 n (by omega)
  obtain ⟨P,hP⟩:∃ P,2^n=P:=⟨_,rfl⟩
  have hbl:∀ s,s<P→ButIs s (lst n s):=fun s hs=>GO (by omega) (by omega)
  rw [hP] at hp hshl hwf
  obtain ⟨q,hq⟩:∃ q,bQ v=q:=⟨_,rfl⟩
  have hqd:∀ l,decide ((0:Int)<((aR v l).length:Int))=q l:=fun l=>by
   rw [←hq,bQ];cases aR v l<;>simp
  rw [hq] at hwf
  (repeat (first|simp only [↓QA,QB,seval,bX,h0,hn,hshl]|refine rd0 rfl ?_))
  refine bU (S:=Nat×Option (List Int)) (0,none) (fun x=>x.1≤P∧nU q n (P-x.1) x.1 x.2=some W∧(x.2.getD []).length≤n) (fun x=>P-x.1)
   (fun x=>[(1,.ptr 0 0),(2,ints (x.2.getD [])),(4,.bool x.2.isSome),(19,.int .i64 P),(20,.int .i64 x.1)])
   (fun x=>[.cells (aB v)]) ⟨by simp,by simpa using hwf,by simp⟩ (by simp [aB,ints]) ?_ fun x hx=>?_
  ·try simp only [aF,QE,seval,bX,ints,Option.getD_none,Option.isSome_none]
   try simp [clr,clrs]
  ·obtain ⟨s,o⟩:=x
   obtain ⟨hs,hfo,hol⟩:=hx
   simp only at hs hfo hol
   (repeat (first|simp only [↓QA,QB,seval,bX,Y5]|refine rd0 rfl ?_))
   refine aJ (fun h=>?_) fun h=>?_
   ·have hs1:s<P:=by simpa using h
    have hw:=b7 hs1 (by omega)
    have hll:=rG n s
    have hlk:=FO [.cells (aB v)] v s (lst n s) hv (hbl s hs1)
    have hlo:=lQ s n (by omega) (by omega)
    have hlen:=H0 [.cells (aB v)] [.cells (db v s 2)] v s (aR v (lst n s)) 2 rfl
    rw [show P-s=(P-(s+1))+1 by omega] at hfo
    simp only [nU] at hfo
    obtain ⟨L,hL⟩:∃ L,lst n s=L:=⟨_,rfl⟩
    rw [hL] at hfo hll hlk hlo hlen
    have hqL:=hqd L
    try simp only [↓QA,QB,seval,bX,eJ,List.cons_append,List.nil_append,List.length_cons,List.length_nil] at hlk hlen
    (repeat (first|simp only [↓QA,QB,seval,bX,hn,Option.getD_some]|refine rd0 rfl ?_))
    ((first|refine aE (hlo) rfl dd ?_|refine aG (hlo) rfl dd ?_);(repeat (first|simp only [↓QA,QB,seval,bX]|refine rd0 rfl ?_)))
    cases o with
    |none =>
     have hst:jX q none L=if q L=true then some L else none:=rfl
     (repeat (first|simp only [↓QA,QB,seval,bX,Option.isSome_none,Option.getD_none]|refine rd0 rfl ?_))
     refine gY hlk ?_
     (repeat (first|simp only [↓QA,QB,seval,bX,hlen,hqL]|refine rd0 rfl ?_))
     cases hsm:q L
     ·rw [hsm] at hst
      simp only [Bool.false_eq_true,if_false] at hst
      rw [hst] at hfo
      (repeat (first|simp only [↓QA,QB,seval,bX,hw]|refine rd0 rfl ?_))
      refine ⟨(s+1,none),⟨by simp only;omega,hfo,by simp⟩,by simp only;omega,?_⟩
      try simp only [aF,QE,seval,bX,hw,Option.isSome_none,Option.getD_none]
      try simp [ints,aT]
     ·rw [hsm] at hst
      simp only [if_true] at hst
      rw [hst] at hfo
      (repeat (first|simp only [↓QA,QB,seval,bX,hw]|refine rd0 rfl ?_))
      refine ⟨(s+1,some L),⟨by simp only;omega,hfo,by simpa using hll⟩,by simp only;omega,?_⟩
      try simp only [aF,QE,seval,bX,hw,Option.isSome_some,Option.getD_some]
      try simp [ints,aT]
    |some b =>
     simp only [Option.getD_some] at hol
     simp only [Option.isSome_some,yY]
     (repeat (first|simp only [↓QA,QB,seval,bX,Option.isSome_some,Option.getD_some]|refine rd0 rfl ?_))
     have fin:∀ (hfw:bD b L=false),jX q (some b) L=if q L=true then some L else some b:=fun hfw=>by simp only [jX,hfw];rfl
     cases h1:decide ((b.length:Int)<(L.length:Int))
     ·have h1':¬b.length<L.length:=by simpa using h1
      (repeat (first|simp only [↓QA,QB,seval,bX,Option.getD_some,h1]|refine rd0 rfl ?_))
      cases h2:((L.length:Int)==(b.length:Int))
      ·have h2':¬b.length=L.length:=by intro h;rw [h] at h2;simp at h2
       have hst:=fin (by simp [bD,h1',h2'])
       (repeat (first|simp only [↓QA,QB,seval,bX,h2]|refine rd0 rfl ?_))
       refine gY hlk ?_
       (repeat (first|simp only [↓QA,QB,seval,bX,hlen,hqL]|refine rd0 rfl ?_))
       cases hsm:q L
       ·rw [hsm] at hst
        simp only [Bool.false_eq_true,if_false] at hst
        rw [hst] at hfo
        (repeat (first|simp only [↓QA,QB,seval,bX,hw]|refine rd0 rfl ?_))
        refine ⟨(s+1,some b),⟨by simp only;omega,hfo,by simpa using hol⟩,by simp only;omega,?_⟩
        try simp only [aF,QE,seval,bX,hw,Option.isSome_some,Option.getD_some]
        try simp [ints,aT]
       ·rw [hsm] at hst
        simp only [if_true] at hst
        rw [hst] at hfo
        (repeat (first|simp only [↓QA,QB,seval,bX,hw]|refine rd0 rfl ?_))
        refine ⟨(s+1,some L),⟨by simp only;omega,hfo,by simpa using hll⟩,by simp only;omega,?_⟩
        try simp only [aF,QE,seval,bX,hw,Option.isSome_some,Option.getD_some]
        try simp [ints,aT]
      ·have h2':b.length=L.length:=by simp at h2;omega
       (repeat (first|simp only [↓QA,QB,seval,bX,Option.getD_some,h2]|refine rd0 rfl ?_))
       ((first|refine aE (sM L b (by omega) (by omega)) rfl dd ?_|refine aG (sM L b (by omega) (by omega)) rfl dd ?_);(repeat (first|simp only [↓QA,QB,seval,bX,qZ,Option.getD_some]|refine rd0 rfl ?_)))
       cases h3:less b L
       ·have hst:=fin (by simp [bD,h2',h3])
        (repeat (first|simp only [↓QA,QB,seval,bX,h3]|refine rd0 rfl ?_))
        refine gY hlk ?_
        (repeat (first|simp only [↓QA,QB,seval,bX,hlen,hqL]|refine rd0 rfl ?_))
        cases hsm:q L
        ·rw [hsm] at hst
         simp only [Bool.false_eq_true,if_false] at hst
         rw [hst] at hfo
         (repeat (first|simp only [↓QA,QB,seval,bX,hw]|refine rd0 rfl ?_))
         refine ⟨(s+1,some b),⟨by simp only;omega,hfo,by simpa using hol⟩,by simp only;omega,?_⟩
         try simp only [aF,QE,seval,bX,hw,Option.isSome_some,Option.getD_some]
         try simp [ints,aT]
        ·rw [hsm] at hst
         simp only [if_true] at hst
         rw [hst] at hfo
         (repeat (first|simp only [↓QA,QB,seval,bX,hw]|refine rd0 rfl ?_))
         refine ⟨(s+1,some L),⟨by simp only;omega,hfo,by simpa using hll⟩,by simp only;omega,?_⟩
         try simp only [aF,QE,seval,bX,hw,Option.isSome_some,Option.getD_some]
         try simp [ints,aT]
       ·have hfw:bD b L=true:=by simp [bD,h2',h3]
        have hst:jX q (some b) L=some b:=by simp only [jX,hfw,if_true]
        rw [hst] at hfo
        (repeat (first|simp only [↓QA,QB,seval,bX,h3,hw]|refine rd0 rfl ?_))
        refine ⟨(s+1,some b),⟨by simp only;omega,hfo,by simpa using hol⟩,by simp only;omega,?_⟩
        try simp only [aF,QE,seval,bX,hw,Option.isSome_some,Option.getD_some]
        try simp [ints,aT]
     ·have h1':b.length<L.length:=by simpa using h1
      have h2':¬b.length=L.length:=by omega
      have hfw:bD b L=true:=by simp [bD,h1',h2']
      have hst:jX q (some b) L=some b:=by simp only [jX,hfw,if_true]
      rw [hst] at hfo
      (repeat (first|simp only [↓QA,QB,seval,bX,h1,hw]|refine rd0 rfl ?_))
      refine ⟨(s+1,some b),⟨by simp only;omega,hfo,by simpa using hol⟩,by simp only;omega,?_⟩
      try simp only [aF,QE,seval,bX,hw,Option.isSome_some,Option.getD_some]
      try simp [ints,aT]
   ·have hs1:s=P:=by simp at h;omega
    rw [hs1,Nat.sub_self] at hfo
    simp only [nU] at hfo
    subst hfo
    (repeat (first|simp only [↓QA,QB,seval,bX,iJ,Option.getD_some]|refine rd0 rfl ?_))
    try try simp only [QS,QC,seval,bX]
end Go.Am.Room.Fa
namespace Go.Am.Room
variable {α:Type}
def qO (c:α→List AV):List α→List AV
 |[]=>[]
 |y::l=>c y++qO c l
structure Cells (enc:α→AV) (c:α→List AV) (sz:Nat):Prop where
 agg:∀ x,enc x = .agg (c x)
 len:∀ x,(c x).length=sz
 one:sz≠1∧sz≠0
 cell:∀ x,(c x).all (·.cell)=true
 data:∀ x,j4 (enc x)
variable {enc:α→AV} {c:α→List AV} {sz:Nat}
theorem zN (h:Cells enc c sz):∀ l,(qO c l).length=l.length*sz
 |[]=>by simp [qO]
 |y::l=>by simp only [qO,List.length_append,h.len,List.length_cons,zN h l,Nat.add_mul];omega
theorem E8 (h:Cells enc c sz):∀ l:List α,(l.map enc).flatMap AV.cells=qO c l
 |[]=>rfl
 |y::l=>by rw [List.map_cons,List.flatMap_cons,E8 h l,h.agg];rfl
theorem QF (h:Cells enc c sz) (l:List α):aU sz (l.map enc)=true:=qB sz enc l fun y=>by
 rw [h.agg]
 simp only [cA,AV.cells,h.len,beq_self_eq_true,Bool.true_and]
 exact h.cell y
theorem DV (h:Cells enc c sz) (m:Nat) (hc:∀ x,okVs m (c x)):∀ l,okVs m (qO c l)
 |[]=>trivial
 |y::l=>s9 (hc y) (DV h m hc l)
end Go.Am.Room
namespace Go.Am.Room.Fa
theorem H5:∀ a b:List Int,decide (oJ a b<0)=less a b
 |[],[]=>rfl
 |[],b::bs=>rfl
 |a::az,[]=>rfl
 |a::az,b::bs=>by
  have ih:=H5 az bs
  simp only [oJ,less,pA]
  by_cases h1:a<b
  ·simp [h1,show ¬a=b by omega]
  ·by_cases h2:b<a
   ·simp [h1,h2,show ¬a=b by omega]<;>omega
   ·have:a=b:=by omega
    subst this
    simp [ih]
def uE (x:Plot):List AV:=[.str x.name,.int .i64 x.flower.lo,.int .i64 x.flower.hi,.int .i64 x.hands]
theorem tH:Cells cL uE 4:=⟨fun x=>by simp only [cL,uE],fun x=>rfl,by decide,fun x=>rfl,qM⟩
theorem PD (m:Nat) (x:Plot):okVs m (uE x):=⟨trivial,trivial,trivial,trivial,trivial⟩
def JN:List AV:=[.str ⟨#[]⟩,.int .i64 0,.int .i64 0,.int .i64 0]
theorem MX (b0 b1 b2 b3 b4 b5:ABlk) (l:List Plot):pT 4 [b0,b1,b2,b3,b4,b5,.cells (List.replicate l.length JN).flatten] (.ref 6 0 l.length 4) (.lit (l.map cL) false none)=some (.int .i64 l.length,[b0,b1,b2,b3,b4,b5,.cells (qO uE l)]):=by
 have h1:aU 4 (l.map cL)=true:=QF tH l
 have h2:(l.map cL).take l.length=l.map cL:=List.take_of_length_le (by simp)
 have h3:=zN tH l
 have h4:((List.replicate l.length JN).flatten).length=l.length*4:=by simp [JN]
 have h5:fX (List.replicate l.length JN).flatten 0 (qO uE l)=some (qO uE l):=by
  simp only [fX]
  rw [if_pos (by omega),List.drop_of_length_le (by omega)]
  simp
 have h6:=E8 tH l
 simp [pT,o9,wM,h1,aM,h2,h5,h6]
theorem DU:∀ (l:List Plot) (k:Nat) (hk:k<l.length),(qO uE l)[k*4+3]? = some (.int .i64 l[k].hands)
 |[],k,hk=>by simp at hk
 |y::l,0,hk=>rfl
 |y::l,k+1,hk=>by
  have:=DU l k (by simpa using hk)
  have e:(k+1)*4+3=(uE y).length+(k*4+3):=by simp only [uE,List.length_cons,List.length_nil];omega
  simp only [qO,List.getElem_cons_succ]
  rw [e,List.getElem?_append_right (by omega),Nat.add_sub_cancel_left]
  exact this
def wD (n:Nat) (p:Nat→Bool) (g:Nat):Prop:=g<2^n∧∀ i,g.testBit i=(decide (i<n)&&p i)
theorem EW {k:Nat} {p:Nat→Bool} {g:Nat} (h:wD k p g):(p k=true→wD (k+1) p (g|||2^k))∧(p k=false→wD (k+1) p g):=by
 obtain ⟨h1,h2⟩:=h
 have hlt:2^k<2^(k+1):=Nat.pow_lt_pow_right (by omega) (by omega)
 constructor
 ·intro hp
  refine ⟨Nat.or_lt_two_pow (by omega) hlt,fun i=>?_⟩
  rw [Nat.testBit_or,h2,Nat.testBit_two_pow]
  by_cases e:k=i
  ·subst e;simp [hp]
  ·rw [Bool.eq_iff_iff]
   simp [e]
   intro _
   omega
 ·intro hp
  refine ⟨by omega,fun i=>?_⟩
  rw [h2]
  by_cases e:i=k
  ·subst e;simp [hp]
  ·rw [Bool.eq_iff_iff]
   simp
   intro _
   omega
theorem TS {n s g:Nat} {p:Nat→Bool} (hs:s<2^n) (hn:n≤60) (hg:wD n p g):(GR s g=0)↔∀ x∈lst n s,p x.toNat=true:=by
 have hp:=FR hn
 have hb:=fun i=>T3 (b:=g) (by have:=hg.1;omega) s i (by omega)
 constructor
 ·intro h x hx
  obtain ⟨h1,h2⟩:=wP.1 hx
  have:=hb x.toNat
  rw [h,Nat.zero_testBit,h2,hg.2] at this
  simp at this
  exact this.2
 ·intro h
  refine Nat.eq_of_testBit_eq fun i=>?_
  rw [hb,Nat.zero_testBit,hg.2]
  cases hsi:s.testBit i
  ·rfl
  ·by_cases hi:i<n
   ·have:=h (i:Int) (wP.2 ⟨by omega,by simpa using hsi⟩)
    rw [Int.toNat_natCast] at this
    simp [hi,this]
   ·rw [Nat.testBit_lt_two_pow (Nat.lt_of_lt_of_le hs (Nat.pow_le_pow_right (by omega) (by omega)))] at hsi
    cases hsi
theorem WI {n s g:Nat} {p:Nat→Bool} (hg:wD n p g):lst n (s &&& g)=(lst n s).filter fun x=>p x.toNat:=by
 simp only [lst]
 rw [List.filter_filter]
 refine List.filter_congr fun x hx=>?_
 have hx0:=(cO _ _ _).1 hx
 rw [←u5,←u5,Nat.testBit_and,hg.2]
 have:decide (x.toNat<n)=true:=by simp;omega
 rw [this,Bool.true_and,Bool.and_comm]
end Go.Am.Room.Fa
set_option maxRecDepth 8000
namespace Go.Am.Room.Fa
def aS:=And.intro @cC (And.intro @aK (And.intro @cE (And.intro @encLook_eq (And.intro @aC (And.intro @cS (And.intro @S_mapLook (And.intro @cT (And.intro @List.length_append.{0} (And.intro @Nat.mul_one (And.intro @Int.toNat_natCast (And.intro @bI (And.intro @jU (And.intro @iL (And.intro @iP (And.intro @iT (And.intro @iM (And.intro @iK (And.intro @iX (And.intro @iW (And.intro @iR (And.intro @iO (@gL))))))))))))))))))))))
set_option maxHeartbeats 2000000 in
theorem uI (v:Farm) (da hands:Int) (hf:Fits v):cN T 26 [encFarm v,.int .i64 da,.int .i64 hands] (pW (rM v da hands)):=by
 refine aQ (af:=a26) rfl (by simp [a26]) dd ?_
 obtain ⟨E,hE⟩:∃ E,tL v da hands=E:=⟨_,rfl⟩
 have hask:=OO v da hands
 rw [hE] at hask
 have hun:=fun σ=>sD [da,(v.rain.length:Int),hands,400] σ
 have hu1:=fun (q:Nat) (σ:St) hq=>pI [da,(v.rain.length:Int),hands,400] (by simp) q σ hq
 simp only [u4,List.map_cons,List.map_nil] at hun hu1
 (repeat (first|simp only [↓QA,QB,seval,aS,a26]|refine rd0 rfl ?_))
 refine eS (hun _) ?_
 (repeat (first|simp only [↓QA,QB,seval,aS]|refine rd0 rfl ?_))
 by_cases h0':E=0
 ·subst h0'
  have hE2:=hE
  obtain ⟨hw,hne⟩:=dO hE2
  obtain ⟨hw2,hh0,hh1⟩:=qT hw
  obtain ⟨ha,hd0,hd1⟩:=qT hw2
  have hv:=vd_of_check ha
  have hnr:=hv.nra
  have hnp:=hv.npl
  have hwy:=hv.way
  have hm:rM v da hands=GL v (aR v []) da.toNat (A1 v (aR v []) da.toNat hands):=by rw [rM,hE,if_pos rfl]
  rw [hm]
  simp only [fM] at hd1
  obtain ⟨d,rfl⟩:∃ d:Nat,da=d:=⟨da.toNat,by omega⟩
  rw [Int.toNat_natCast]
  have hen:=oV hf (plot:=-1099511627776) (eo:=kF [(d:Int),(v.rain.length:Int),hands,400]) (F:=.func 233 [] [.ptr 1 0]) (σ:=[.cells (aB v),.cells [.lit [.int .i64 d,.int .i64 v.rain.length,.int .i64 hands,.int .i64 400] true none]]) (fun τ=>hu1 _ _ rfl) hask
  have hgo:=fun (P:Nat) (hP:P<v.plots.length) (τ:St)=>sB v hv (aR v []) (fun t ht=>BH hv ht) hne 0 4 5 ([.cells (aB v),.cells [.lit [.int .i64 d,.int .i64 v.rain.length,.int .i64 hands,.int .i64 400] true none],.cells (aB v),.cells (aB v),.map ((aR v []).map kvT),.cells (db v 0 4)]++τ) ⟨rfl,rfl⟩ P d hP (by omega)
  have hsb:=fun (P:Nat) (hP:P<v.plots.length)=>w9 hv (fun t ht=>y4 hv (but:=[]) ht) hne hP (show d≤v.rain.length by omega)
  try simp only [↓QA,QB,seval,aS,eJ,List.cons_append,List.nil_append,List.length_cons,List.length_nil] at hen
  refine eS hen ?_
  have hee:=TO (q:=fun c=>o7 v (aR v []) c d hands) (sh:=fun c=>(bA v (aR v []) c d).length) (show v.plots.length≤6 by omega)
  rw [←LV] at hee
  have hei:A1 v (aR v []) d hands=(uL v.plots.length).foldl (oH (fun c=>o7 v (aR v []) c d hands) (fun c=>(bA v (aR v []) c d).length)) none:=hee
  have hhands:=fun (p:Nat) (hp:p<v.plots.length)=>(EY hv hp).2
  obtain ⟨ts,hts⟩:∃ ts,aR v []=ts:=⟨_,rfl⟩
  rw [hts] at hne ⊢
  simp only [hts] at hei
  simp only [hts,aK,List.cons_append,List.nil_append] at hgo
  simp only [hts] at hsb
  obtain ⟨R,hR⟩:∃ R,A1 v ts d hands=R:=⟨_,rfl⟩
  rw [hR] at hei ⊢
  obtain ⟨f,hfe⟩:∃ f,oH (fun c=>o7 v ts c d hands) (fun c=>(bA v ts c d).length)=f:=⟨_,rfl⟩
  rw [hfe,uL] at hei
  have hfst:∀ o c,f o c=oH (fun c=>o7 v ts c d hands) (fun c=>(bA v ts c d).length) o c:=fun o c=>by rw [hfe]
  have hcp:=fun b0 b1 b2 b3 b4 b5=>MX b0 b1 b2 b3 b4 b5 v.plots
  have hfh:=fun (k:Nat) (hk:k<v.plots.length)=>DU v.plots k hk
  have hPCo:∀ k,okVs k (qO uE v.plots):=fun k=>DV tH k (PD k) v.plots
  have hPCl:=zN tH v.plots
  obtain ⟨PC,hPC⟩:∃ PC,qO uE v.plots=PC:=⟨_,rfl⟩
  rw [hPC] at hPCl
  simp only [hPC] at hcp hfh hPCo
  obtain ⟨n,hn⟩:∃ n,v.plots.length=n:=⟨_,rfl⟩
  have hmk:qU 40 (.int .i64 n) (.int .i64 n)=some n:=by simp [qU,room];omega
  simp only [JN,hn] at hcp
  rw [hn] at hnp hei hPCl
  have hp:2^n≤2^4:=Nat.pow_le_pow_right (by omega) hnp
  have hshl:=y9 n (by omega)
  obtain ⟨Q,hQ⟩:∃ Q,2^n=Q:=⟨_,rfl⟩
  rw [hQ] at hp hshl hei
  (repeat (first|simp only [↓QA,QB,seval,aS,hn,hmk,hcp]|refine rd0 rfl ?_))
  refine bU (S:=Nat×Nat×Nat) (0,0,0) (fun a=>a.1≤n∧wD a.1 (fun p=>nE v ts p d) a.2.1∧wD a.1 (fun p=>!GW v ts p d) a.2.2) (fun a=>n-a.1)
   (fun a=>[(1,.int .i64 d),(2,.int .i64 hands),(3,.ptr 0 0),(6,.lit [] false none),(7,.lit [] false none),(9,.ptr 5 0),(10,.int .i64 a.2.1),(11,.int .i64 a.2.2),(12,.ref 6 0 n 4),(47,.int .i64 n),(48,.int .i64 a.1)])
   (fun a=>[.cells (aB v),.cells [.lit [.int .i64 d,.int .i64 v.rain.length,.int .i64 hands,.int .i64 400] true none],.cells (aB v),.cells (aB v),.map (ts.map kvT),.cells (db v 0 4),.cells PC]) ⟨Nat.zero_le _,⟨by simp,fun i=>by simp⟩,⟨by simp,fun i=>by simp⟩⟩ (by simp [aK]) ?_ fun a ha=>?_
  ·try simp only [aF,QE,seval,aS,gH (show 6<7 by omega)]
   try simp [clr,clrs]
  ·obtain ⟨k,g,th⟩:=a
   obtain ⟨hk,hg,hth⟩:=ha
   simp only at hk hg hth
   (repeat (first|simp only [↓QA,QB,seval,aS,Y6]|refine rd0 rfl ?_))
   refine aJ (fun h=>?_) fun h=>?_
   ·have hk1:k<n:=by simpa using h
    have hw:=b7 hk1 (by omega)
    have hgk:=hgo k (by omega)
    have hb:=hsb k (by omega)
    obtain ⟨g1,g2⟩:=EW hg
    obtain ⟨t1,t2⟩:=EW hth
    have hge:nE v ts k d=decide ((fE ts k d).hi+v.way.hi≤v.ripe):=rfl
    have hwe:(!GW v ts k d)=decide ((fE ts k d).lo<v.full):=by
     rw [GW,Bool.eq_iff_iff];simp
    simp only [hge] at g1 g2
    simp only [hwe] at t1 t2
    obtain ⟨s,hs⟩:∃ s,fE ts k d=s:=⟨_,rfl⟩
    simp only [hs] at hgk hb g1 g2 t1 t2
    have hwx:IntKind.i64.wrap (s.hi+v.way.hi)=s.hi+v.way.hi:=aX ⟨by omega,by omega⟩
    have hg4:g<16:=Nat.lt_of_lt_of_le hg.1 (show 2^k≤2^4 from Nat.pow_le_pow_right (by omega) (by omega))
    have ht4:th<16:=Nat.lt_of_lt_of_le hth.1 (show 2^k≤2^4 from Nat.pow_le_pow_right (by omega) (by omega))
    have hk4:2^k≤2^4:=Nat.pow_le_pow_right (by omega) (by omega)
    have vsh:=y9 k (by omega)
    have vog:=XT g (2^k) (by omega) (by omega)
    have vot:=XT th (2^k) (by omega) (by omega)
    (repeat (first|simp only [↓QA,QB,seval,aS]|refine rd0 rfl ?_))
    refine aV (hgk _) ?_
    cases h5:decide (s.hi+v.way.hi≤v.ripe)
    ·cases h6:decide (s.lo<v.full)
     ·(repeat (first|simp only [↓QA,QB,seval,aS,hwx,h5,h6,hw]|refine rd0 rfl ?_))
      refine ⟨(k+1,g,th),⟨by simp only;omega,g2 h5,t2 h6⟩,by simp only;omega,?_⟩
      try simp only [aF,QE,seval,aS,hw,gH (show 6<7 by omega)]
      try simp [aT]
     ·(repeat (first|simp only [↓QA,QB,seval,aS,hwx,h5,h6,vsh,vot,hw]|refine rd0 rfl ?_))
      refine ⟨(k+1,g,th|||2^k),⟨by simp only;omega,g2 h5,t1 h6⟩,by simp only;omega,?_⟩
      try simp only [aF,QE,seval,aS,hw,gH (show 6<7 by omega)]
      try simp [aT]
    ·cases h6:decide (s.lo<v.full)
     ·(repeat (first|simp only [↓QA,QB,seval,aS,hwx,h5,h6,vsh,vog,hw]|refine rd0 rfl ?_))
      refine ⟨(k+1,g|||2^k,th),⟨by simp only;omega,g1 h5,t2 h6⟩,by simp only;omega,?_⟩
      try simp only [aF,QE,seval,aS,hw,gH (show 6<7 by omega)]
      try simp [aT]
     ·(repeat (first|simp only [↓QA,QB,seval,aS,hwx,h5,h6,vsh,vog,vot,hw]|refine rd0 rfl ?_))
      refine ⟨(k+1,g|||2^k,th|||2^k),⟨by simp only;omega,g1 h5,t1 h6⟩,by simp only;omega,?_⟩
      try simp only [aF,QE,seval,aS,hw,gH (show 6<7 by omega)]
      try simp [aT]
   ·have hk1:k=n:=by simp at h;omega
    rw [hk1] at hg hth
    have hg4:g<16:=Nat.lt_of_lt_of_le hg.1 (by omega)
    have ht4:th<16:=Nat.lt_of_lt_of_le hth.1 (by omega)
    (repeat (first|simp only [↓QA,QB,seval,aS,hshl]|refine rd0 rfl ?_))
    refine bU (S:=Nat×Option (List Int)) (0,none) (fun a=>a.1≤Q∧(((List.range Q).drop a.1).map (lst n)).foldl f a.2=R∧(a.2.getD []).length≤n) (fun a=>Q-a.1)
     (fun a=>[(2,.int .i64 hands),(6,ints (a.2.getD [])),(7,ints (bA v ts (a.2.getD []) d)),(10,.int .i64 g),(11,.int .i64 th),(12,.ref 6 0 n 4),(15,.bool a.2.isSome),(80,.int .i64 Q),(81,.int .i64 a.1)])
     (fun a=>[.cells (aB v),.cells [.lit [.int .i64 d,.int .i64 v.rain.length,.int .i64 hands,.int .i64 400] true none],.cells (aB v),.cells (aB v),.map (ts.map kvT),.cells (db v 0 4),.cells PC]) ⟨Nat.zero_le _,by simpa using hei.symm,by simp⟩ (by simp [aK]) ?_ fun a ha=>?_
    ·have hso:bA v ts [] d=[]:=rfl
     try simp only [aF,QE,seval,aS,gH (show 6<7 by omega),Option.getD_none,Option.isSome_none,hso,ints,hk1]
     try simp [clr,clrs]
    ·obtain ⟨s,o⟩:=a
     obtain ⟨hs,hq,hol⟩:=ha
     simp only at hs hq hol
     (repeat (first|simp only [↓QA,QB,seval,aS,aAI]|refine rd0 rfl ?_))
     refine aJ (fun h2=>?_) fun h2=>?_
     ·have hs1:s<Q:=by simpa using h2
      have hw:=b7 hs1 (by omega)
      have hs2:s<2^n:=by omega
      have hr1:s<(List.range Q).length:=by simpa using hs1
      rw [List.drop_eq_getElem_cons hr1,List.getElem_range,List.map_cons,List.foldl_cons,hfst] at hq
      have hll:=rG n s
      have hlr:∀ x∈lst n s,0≤x∧x<n:=fun x hx=>by have:=(wP.1 hx).1;omega
      have hn1:=lQ s n (by omega) (by omega)
      have hn2:=lQ (s &&& th) n (Nat.lt_of_le_of_lt Nat.and_le_left (by omega)) (by omega)
      have hla:lst n (s &&& th)=bA v ts (lst n s) d:=WI hth
      rw [hla] at hn2
      have vand:=aEM s th (by omega) (by omega)
      have vann:=R5 s g (by omega) (by omega)
      have hzi:=TS hs2 (by omega) hg
      have hslen:(bA v ts (lst n s) d).length≤n:=Nat.le_trans (List.length_filter_le _ _) hll
      obtain ⟨L,hL⟩:∃ L,lst n s=L:=⟨_,rfl⟩
      rw [hL] at hq hll hlr hn1 hn2 hzi hslen
      have hzb:(((GR s g:Nat):Int)==0)=L.all (fun p=>nE v ts p.toNat d):=by
       rw [Bool.eq_iff_iff,List.all_eq_true,←hzi]
       simp
      obtain ⟨SL,hSL⟩:∃ SL,bA v ts L d=SL:=⟨_,rfl⟩
      rw [hSL] at hn2 hslen
      obtain ⟨H,hH⟩:∃ H,uR v L=H:=⟨_,rfl⟩
      have hdo:o7 v ts L d hands=(decide (hands≤H)&&L.all fun p=>nE v ts p.toNat d):=by rw [o7,hH]
      (repeat (first|simp only [↓QA,QB,seval,aS]|refine rd0 rfl ?_))
      ((first|refine aE (hn1) rfl dd ?_|refine aG (hn1) rfl dd ?_);(repeat (first|simp only [↓QA,QB,seval,aS,vand]|refine rd0 rfl ?_)))
      ((first|refine aE (hn2) rfl dd ?_|refine aG (hn2) rfl dd ?_);(repeat (first|simp only [↓QA,QB,seval,aS,ints]|refine rd0 rfl ?_)))
      refine bU (S:=Nat×Int) (0,0) (fun a=>a.1≤L.length∧a.2+uR v (L.drop a.1)=H∧0≤a.2∧a.2≤99*a.1) (fun a=>L.length-a.1)
       (fun a=>[(2,.int .i64 hands),(6,ints (o.getD [])),(7,ints (bA v ts (o.getD []) d)),(10,.int .i64 g),(11,.int .i64 th),(12,.ref 6 0 n 4),(15,.bool o.isSome),(16,.int .i64 s),(17,ints L),(18,ints SL),(19,.int .i64 a.2),(80,.int .i64 Q),(81,.int .i64 s),(94,ints L),(95,.int .i64 L.length),(96,.int .i64 a.1)])
       (fun a=>[.cells (aB v),.cells [.lit [.int .i64 d,.int .i64 v.rain.length,.int .i64 hands,.int .i64 400] true none],.cells (aB v),.cells (aB v),.map (ts.map kvT),.cells (db v 0 4),.cells PC]) ⟨Nat.zero_le _,by simpa using hH,Int.le_refl _,by simp⟩ (by simp [aK]) ?_ fun a ha=>?_
      ·try simp only [aF,QE,seval,aS,gH (show 6<7 by omega),ints]
       try simp
      ·obtain ⟨j,sum⟩:=a
       obtain ⟨hj,hsum,hs0,hs9⟩:=ha
       simp only at hj hsum hs0 hs9
       (repeat (first|simp only [↓QA,QB,seval,aS,Y9,ints]|refine rd0 rfl ?_))
       refine aJ (fun h3=>?_) fun h3=>?_
       ·have hj1:j<L.length:=by simpa using h3
        have hwj:=b7 hj1 (by omega)
        have hpr:=hlr _ (List.getElem_mem hj1)
        obtain ⟨p,hpe⟩:∃ p:Nat,L[j]=(p:Int):=⟨L[j].toNat,by omega⟩
        have hpp:p<v.plots.length:=by omega
        have hfp:=hfh p hpp
        have hhp:=hhands p hpp
        rw [List.drop_eq_getElem_cons hj1,uR,hpe,U0 hpp] at hsum
        obtain ⟨y,hy⟩:∃ y,v.plots[p].hands=y:=⟨_,rfl⟩
        rw [hy] at hhp hsum hfp
        have hwn:IntKind.i64.wrap (sum+y)=sum+y:=aX ⟨by omega,by omega⟩
        have i1:(0:Int)≤(p:Int)∧(p:Int)<((n:Nat):Int)∧4=4:=⟨by omega,by omega,rfl⟩
        (repeat (first|simp only [↓QA,QB,seval,aS,hj1,hpe,i1,Nat.zero_add,hfp,hwn,hwj,ints]|refine rd0 rfl ?_))
        refine ⟨(j+1,sum+y),⟨by simp only;omega,by simp only;omega,by simp only;omega,by simp only;omega⟩,by simp only;omega,?_⟩
        try simp only [aF,QE,seval,aS,hwj,hwn,gH (show 6<7 by omega),ints]
        try simp [aT]
       ·have hj1:j=L.length:=by simp at h3;omega
        rw [hj1,List.drop_length] at hsum
        simp only [uR,Int.add_zero] at hsum
        subst hsum
        cases hga:L.all (fun p=>nE v ts p.toNat d)
        ·have hst:oH (fun c=>o7 v ts c d hands) (fun c=>(bA v ts c d).length) o L=o:=by
          have hd0:o7 v ts L d hands=false:=by rw [hdo,hga,Bool.and_false]
          simp [oH,hd0]
         rw [hst] at hq
         (repeat (first|simp only [↓QA,QB,seval,aS,vann,hzb,hga,hw,ints]|refine rd0 rfl ?_))
         refine ⟨(s+1,o),⟨by simp only;omega,hq,hol⟩,by simp only;omega,?_⟩
         try simp only [aF,QE,seval,aS,hw,gH (show 6<7 by omega),ints]
         try simp [aT]
        ·cases hlt:decide (sum<hands)
         ·have hd1:o7 v ts L d hands=true:=by
           have:¬sum<hands:=by simpa using hlt
           have e:decide (hands≤sum)=true:=by simp;omega
           rw [hdo,hga,e];rfl
          have hsN:oH (fun c=>o7 v ts c d hands) (fun c=>(bA v ts c d).length) none L=some L:=by simp [oH,hd1]
          have hsS:∀ b,oH (fun c=>o7 v ts c d hands) (fun c=>(bA v ts c d).length) (some b) L=if SL.length<(bA v ts b d).length∨(SL.length=(bA v ts b d).length∧bD L b=true) then some L else some b:=fun b=>by simp only [oH,hd1,if_true,hSL]
          (repeat (first|simp only [↓QA,QB,seval,aS,vann,hzb,hga,hlt,ints]|refine rd0 rfl ?_))
          cases h1:decide (((SL.length:Nat):Int)<((bA v ts (o.getD []) d).length:Int))
          ·have h1':¬SL.length<(bA v ts (o.getD []) d).length:=by simpa using h1
           (repeat (first|simp only [↓QA,QB,seval,aS,h1,ints]|refine rd0 rfl ?_))
           cases h2:(((SL.length:Nat):Int)==((bA v ts (o.getD []) d).length:Int))
           ·have h2':¬SL.length=(bA v ts (o.getD []) d).length:=by intro h;rw [h] at h2;simp at h2
            have hb:¬(SL.length<(bA v ts (o.getD []) d).length∨(SL.length=(bA v ts (o.getD []) d).length∧bD L (o.getD [])=true)):=by rintro (h|⟨h,_⟩);exact h1' h;exact h2' h
            (repeat (first|simp only [↓QA,QB,seval,aS,h1,h2,ints]|refine rd0 rfl ?_))
            cases o with
            |none =>
             rw [hsN] at hq
             (repeat (first|simp only [↓QA,QB,seval,aS,Option.isSome_none,hw,ints]|refine rd0 rfl ?_))
             refine ⟨(s+1,some L),⟨by simp only;omega,hq,by simpa using hll⟩,by simp only;omega,?_⟩
             try simp only [aF,QE,seval,aS,hw,gH (show 6<7 by omega),ints,Option.isSome_some,Option.getD_some,hSL]
             try simp [aT]
            |some b =>
             simp only [Option.getD_some] at hol hb
             rw [hsS,if_neg hb] at hq
             (repeat (first|simp only [↓QA,QB,seval,aS,Option.isSome_some,Option.getD_some,hw,ints]|refine rd0 rfl ?_))
             refine ⟨(s+1,some b),⟨by simp only;omega,hq,by simpa using hol⟩,by simp only;omega,?_⟩
             try simp only [aF,QE,seval,aS,hw,gH (show 6<7 by omega),ints,Option.isSome_some,Option.getD_some]
             try simp [aT]
           ·have h2':SL.length=(bA v ts (o.getD []) d).length:=by simp at h2;omega
            (repeat (first|simp only [↓QA,QB,seval,aS,h1,h2,ints]|refine rd0 rfl ?_))
            cases h3:decide (((L.length:Nat):Int)<((o.getD []).length:Int))
            ·have h3':¬L.length<(o.getD []).length:=by simpa using h3
             (repeat (first|simp only [↓QA,QB,seval,aS,h3,ints]|refine rd0 rfl ?_))
             cases h4:(((L.length:Nat):Int)==((o.getD []).length:Int))
             ·have h4':¬L.length=(o.getD []).length:=by intro h;rw [h] at h4;simp at h4
              have hb:¬(SL.length<(bA v ts (o.getD []) d).length∨(SL.length=(bA v ts (o.getD []) d).length∧bD L (o.getD [])=true)):=by
               rintro (h|⟨_,h⟩)
               ·exact h1' h
               ·rw [bD,if_neg h4'] at h
                exact h3' (by simpa using h)
              (repeat (first|simp only [↓QA,QB,seval,aS,h3,h4,ints]|refine rd0 rfl ?_))
              cases o with
              |none =>
               rw [hsN] at hq
               (repeat (first|simp only [↓QA,QB,seval,aS,Option.isSome_none,hw,ints]|refine rd0 rfl ?_))
               refine ⟨(s+1,some L),⟨by simp only;omega,hq,by simpa using hll⟩,by simp only;omega,?_⟩
               try simp only [aF,QE,seval,aS,hw,gH (show 6<7 by omega),ints,Option.isSome_some,Option.getD_some,hSL]
               try simp [aT]
              |some b =>
               simp only [Option.getD_some] at hol hb
               rw [hsS,if_neg hb] at hq
               (repeat (first|simp only [↓QA,QB,seval,aS,Option.isSome_some,Option.getD_some,hw,ints]|refine rd0 rfl ?_))
               refine ⟨(s+1,some b),⟨by simp only;omega,hq,by simpa using hol⟩,by simp only;omega,?_⟩
               try simp only [aF,QE,seval,aS,hw,gH (show 6<7 by omega),ints,Option.isSome_some,Option.getD_some]
               try simp [aT]
             ·have h4':L.length=(o.getD []).length:=by simp at h4;omega
              (repeat (first|simp only [↓QA,QB,seval,aS,h3,h4,ints]|refine rd0 rfl ?_))
              ((first|refine aE (sM L (o.getD []) (by omega) (by omega)) rfl dd ?_|refine aG (sM L (o.getD []) (by omega) (by omega)) rfl dd ?_);(repeat (first|simp only [↓QA,QB,seval,aS,H5,h3,h4,ints]|refine rd0 rfl ?_)))
              cases h5:less L (o.getD [])
              ·have hb:¬(SL.length<(bA v ts (o.getD []) d).length∨(SL.length=(bA v ts (o.getD []) d).length∧bD L (o.getD [])=true)):=by
                rintro (h|⟨_,h⟩)
                ·exact h1' h
                ·rw [bD,if_pos h4',h5] at h
                 cases h
               (repeat (first|simp only [↓QA,QB,seval,aS,h5,ints]|refine rd0 rfl ?_))
               cases o with
               |none =>
                rw [hsN] at hq
                (repeat (first|simp only [↓QA,QB,seval,aS,Option.isSome_none,hw,ints]|refine rd0 rfl ?_))
                refine ⟨(s+1,some L),⟨by simp only;omega,hq,by simpa using hll⟩,by simp only;omega,?_⟩
                try simp only [aF,QE,seval,aS,hw,gH (show 6<7 by omega),ints,Option.isSome_some,Option.getD_some,hSL]
                try simp [aT]
               |some b =>
                simp only [Option.getD_some] at hol hb
                rw [hsS,if_neg hb] at hq
                (repeat (first|simp only [↓QA,QB,seval,aS,Option.isSome_some,Option.getD_some,hw,ints]|refine rd0 rfl ?_))
                refine ⟨(s+1,some b),⟨by simp only;omega,hq,by simpa using hol⟩,by simp only;omega,?_⟩
                try simp only [aF,QE,seval,aS,hw,gH (show 6<7 by omega),ints,Option.isSome_some,Option.getD_some]
                try simp [aT]
              ·have hb:(SL.length<(bA v ts (o.getD []) d).length∨(SL.length=(bA v ts (o.getD []) d).length∧bD L (o.getD [])=true)):=.inr ⟨h2',by rw [bD,if_pos h4',h5]⟩
               (repeat (first|simp only [↓QA,QB,seval,aS,h5,ints]|refine rd0 rfl ?_))
               cases o with
               |none =>
                rw [hsN] at hq
                (repeat (first|simp only [↓QA,QB,seval,aS,Option.isSome_none,hw,ints]|refine rd0 rfl ?_))
                refine ⟨(s+1,some L),⟨by simp only;omega,hq,by simpa using hll⟩,by simp only;omega,?_⟩
                try simp only [aF,QE,seval,aS,hw,gH (show 6<7 by omega),ints,Option.isSome_some,Option.getD_some,hSL]
                try simp [aT]
               |some b =>
                simp only [Option.getD_some] at hol hb
                rw [hsS,if_pos hb] at hq
                (repeat (first|simp only [↓QA,QB,seval,aS,Option.isSome_some,Option.getD_some,hw,ints]|refine rd0 rfl ?_))
                refine ⟨(s+1,some L),⟨by simp only;omega,hq,by simpa using hll⟩,by simp only;omega,?_⟩
                try simp only [aF,QE,seval,aS,hw,gH (show 6<7 by omega),ints,Option.isSome_some,Option.getD_some,hSL]
                try simp [aT]
            ·have h3':L.length<(o.getD []).length:=by simpa using h3
             have hb:(SL.length<(bA v ts (o.getD []) d).length∨(SL.length=(bA v ts (o.getD []) d).length∧bD L (o.getD [])=true)):=.inr ⟨h2',by rw [bD,if_neg (by omega)];simpa using h3'⟩
             (repeat (first|simp only [↓QA,QB,seval,aS,h3,ints]|refine rd0 rfl ?_))
             cases o with
             |none =>
              rw [hsN] at hq
              (repeat (first|simp only [↓QA,QB,seval,aS,Option.isSome_none,hw,ints]|refine rd0 rfl ?_))
              refine ⟨(s+1,some L),⟨by simp only;omega,hq,by simpa using hll⟩,by simp only;omega,?_⟩
              try simp only [aF,QE,seval,aS,hw,gH (show 6<7 by omega),ints,Option.isSome_some,Option.getD_some,hSL]
              try simp [aT]
             |some b =>
              simp only [Option.getD_some] at hol hb
              rw [hsS,if_pos hb] at hq
              (repeat (first|simp only [↓QA,QB,seval,aS,Option.isSome_some,Option.getD_some,hw,ints]|refine rd0 rfl ?_))
              refine ⟨(s+1,some L),⟨by simp only;omega,hq,by simpa using hll⟩,by simp only;omega,?_⟩
              try simp only [aF,QE,seval,aS,hw,gH (show 6<7 by omega),ints,Option.isSome_some,Option.getD_some,hSL]
              try simp [aT]
          ·have h1':SL.length<(bA v ts (o.getD []) d).length:=by simpa using h1
           have hb:(SL.length<(bA v ts (o.getD []) d).length∨(SL.length=(bA v ts (o.getD []) d).length∧bD L (o.getD [])=true)):=.inl h1'
           (repeat (first|simp only [↓QA,QB,seval,aS,h1,ints]|refine rd0 rfl ?_))
           cases o with
           |none =>
            rw [hsN] at hq
            (repeat (first|simp only [↓QA,QB,seval,aS,Option.isSome_none,hw,ints]|refine rd0 rfl ?_))
            refine ⟨(s+1,some L),⟨by simp only;omega,hq,by simpa using hll⟩,by simp only;omega,?_⟩
            try simp only [aF,QE,seval,aS,hw,gH (show 6<7 by omega),ints,Option.isSome_some,Option.getD_some,hSL]
            try simp [aT]
           |some b =>
            simp only [Option.getD_some] at hol hb
            rw [hsS,if_pos hb] at hq
            (repeat (first|simp only [↓QA,QB,seval,aS,Option.isSome_some,Option.getD_some,hw,ints]|refine rd0 rfl ?_))
            refine ⟨(s+1,some L),⟨by simp only;omega,hq,by simpa using hll⟩,by simp only;omega,?_⟩
            try simp only [aF,QE,seval,aS,hw,gH (show 6<7 by omega),ints,Option.isSome_some,Option.getD_some,hSL]
            try simp [aT]
         ·have hst:oH (fun c=>o7 v ts c d hands) (fun c=>(bA v ts c d).length) o L=o:=by
           have:sum<hands:=by simpa using hlt
           have e:decide (hands≤sum)=false:=by simp;omega
           have hd0:o7 v ts L d hands=false:=by rw [hdo,e,Bool.false_and]
           simp [oH,hd0]
          rw [hst] at hq
          (repeat (first|simp only [↓QA,QB,seval,aS,vann,hzb,hga,hlt,hw,ints]|refine rd0 rfl ?_))
          refine ⟨(s+1,o),⟨by simp only;omega,hq,hol⟩,by simp only;omega,?_⟩
          try simp only [aF,QE,seval,aS,hw,gH (show 6<7 by omega),ints]
          try simp [aT]
     ·have hs1:s=Q:=by simp at h2;omega
      have hdr:(List.range Q).drop s=[]:=by rw [List.drop_eq_nil_iff];simp;omega
      rw [hdr] at hq
      simp only [List.map_nil,List.foldl_nil] at hq
      subst hq
      cases o with
      |none =>
       (repeat (first|simp only [↓QA,QB,seval,aS,Option.isSome_none,Option.getD_none,GL,pW,ints,List.map_nil]|refine rd0 rfl ?_))
       try rfl
      |some b =>
       (repeat (first|simp only [↓QA,QB,seval,aS,Option.isSome_some,Option.getD_some,GL,pW]|refine rd0 rfl ?_))
       try try simp only [QS,QC,seval,aS]
 ·have hm:rM v da hands=([],[],E):=by rw [rM,hE,if_neg h0']
  have hg:(E==0)=false:=by simpa using h0'
  rw [hm]
  refine eL (mB hf (fun τ=>hu1 _ _ rfl) hask h0') ?_
  (repeat (first|simp only [↓QA,QB,seval,aS,hg,pW]|refine rd0 rfl ?_))
  try rfl
end Go.Am.Room.Fa
set_option maxRecDepth 8000
namespace Go.Am.Room.Fa
def mQ:=And.intro @cC (And.intro @aK (And.intro @cE (And.intro @encLook_eq (And.intro @aC (And.intro @cS (And.intro @S_mapLook (And.intro @cT (And.intro @bI (@List.length_append.{0})))))))))
theorem u3 (p d n:Int):cN T 73 [.int .i64 p,.int .i64 d,.int .i64 n] (encLook ⟨p,d,n⟩):=by
 refine aQ (af:=a73) rfl (by simp [a73]) dd ?_
 (repeat (first|simp only [↓QA,QB,seval,mQ,a73]|refine rd0 rfl ?_))
theorem yS (l:List Look):cN T 72 [.lit (l.map encLook) false none] (encFarm (exF l)):=by
 refine aQ (af:=a72) rfl (by simp [a72]) dd ?_
 (repeat (first|simp only [↓QA,QB,seval,mQ,a72]|refine rd0 rfl ?_))
 ((first|refine aE (bL 1 1) rfl dd ?_|refine aG (bL 1 1) rfl dd ?_);(repeat (first|simp only [↓QA,QB,seval,mQ]|refine rd0 rfl ?_)))
 ((first|refine aE (bL 0 1) rfl dd ?_|refine aG (bL 0 1) rfl dd ?_);(repeat (first|simp only [↓QA,QB,seval,mQ]|refine rd0 rfl ?_)))
 ((first|refine aE (bL 0 0) rfl dd ?_|refine aG (bL 0 0) rfl dd ?_);(repeat (first|simp only [↓QA,QB,seval,mQ]|refine rd0 rfl ?_)))
 ((first|refine aE (bL 1 2) rfl dd ?_|refine aG (bL 1 2) rfl dd ?_);(repeat (first|simp only [↓QA,QB,seval,mQ]|refine rd0 rfl ?_)))
 ((first|refine aE (bL 0 1) rfl dd ?_|refine aG (bL 0 1) rfl dd ?_);(repeat (first|simp only [↓QA,QB,seval,mQ]|refine rd0 rfl ?_)))
 ((first|refine aE (bL 2 3) rfl dd ?_|refine aG (bL 2 3) rfl dd ?_);(repeat (first|simp only [↓QA,QB,seval,mQ]|refine rd0 rfl ?_)))
 ((first|refine aE (bL 1 2) rfl dd ?_|refine aG (bL 1 2) rfl dd ?_);(repeat (first|simp only [↓QA,QB,seval,mQ]|refine rd0 rfl ?_)))
 ((first|refine aE (bL 0 1) rfl dd ?_|refine aG (bL 0 1) rfl dd ?_);(repeat (first|simp only [↓QA,QB,seval,mQ,exF,VE,SI,UA,List.map_cons,List.map_nil]|refine rd0 rfl ?_)))
theorem dP (l:List Look) (h:l.length≤100:=by decide):Fits (exF l):=⟨by simp [exF],by simp [exF],by simp [exF];omega,fun k hk=>by
 simp only [exF,List.mem_cons,List.not_mem_nil,or_false] at hk
 rcases hk with rfl|rfl|rfl<;>decide⟩
def FL (v:Farm):Bool:=decide ((check v).2.2=0)&&bQ v []
theorem QH {v:Farm} {but:List Int}:bQ v but=true↔aR v but≠[]:=by
 rw [bQ]
 cases aR v but<;>simp
theorem J5 {v:Farm}:FL v=true↔(check v).2.2=0∧aR v []≠[]:=by
 rw [FL,Bool.and_eq_true,decide_eq_true_eq,QH]
theorem aAL {v:Farm} (h:aR v []≠[]):aZ v 0=0:=by
 simp [aZ,h]
theorem aJ6 {v:Farm} (hc:(check v).2.2=0) {p:Nat} (hp:p<v.plots.length):dA v (p:Int)=0:=by
 rw [dA,if_pos hc,if_pos (gE.2 (by omega))]
theorem WB {n m:Int} (h:0≤n∧n≤m):cY n m 0=0:=by
 rw [cY,if_pos rfl,if_pos (gE.2 h)]
theorem QQ {v:Farm} (hs:FL v=true) {p d:Nat} (hp:p<v.plots.length) (hd:d≤v.rain.length):j9 v (p:Int) (d:Int)=0:=by
 obtain ⟨hc,hne⟩:=J5.1 hs
 rw [j9,aJ6 hc hp,WB (by simp only [fM];omega),aAL hne]
theorem T6 {v:Farm} (hs:FL v=true) {p d:Nat} (hp:p<v.plots.length) (hd:d≤v.rain.length):nN v (p:Int) (d:Int)=(fE (aR v []) p d,0):=by
 rw [nN,if_pos (QQ hs hp hd),Int.toNat_natCast,Int.toNat_natCast]
theorem tD {l:List Truth} {p d:Nat} {n:Int}:n∈cG l p d↔∃ t∈l,∃ h∈hO t p,n=nG t d h:=by
 simp only [cG,List.mem_flatMap,List.mem_map]
 constructor
 ·rintro ⟨t,ht,h,hh,rfl⟩;exact ⟨t,ht,h,hh,rfl⟩
 ·rintro ⟨t,ht,h,hh,rfl⟩;exact ⟨t,ht,h,hh,rfl⟩
theorem TB {v:Farm} (hv:Vd v) {t:Truth} (ht:TOk v t) (d:Nat) (h:Int):nG t d h≤nG t (d+1) h∧nG t (d+1) h≤nG t d h+3∧(h.toNat≤d→nG t d h+1≤nG t (d+1) h):=by
 have hr:=nY hv ht.rain d
 have hb:=vP (nY hv ht.rain) h.toNat d
 simp only [nG,yJ,Int.toNat_natCast]
 by_cases hh:h.toNat≤d
 ·rw [xC _ hh]
  omega
 ·rw [HO _ (show d+1≤h.toNat by omega),HO _ (show d≤h.toNat by omega)]
  omega
theorem TF {v:Farm} (hv:Vd v) {ts:List Truth} (hts:∀ t∈ts,TOk v t) (hne:ts≠[]) {p d:Nat} (hp:p<v.plots.length) :
  (fE ts p d).lo≤(fE ts p (d+1)).lo∧(fE ts p d).hi≤(fE ts p (d+1)).hi∧(fE ts p (d+1)).lo≤(fE ts p d).lo+3∧(fE ts p (d+1)).hi≤(fE ts p d).hi+3 ∧
   ((∀ t∈ts,∀ h∈hO t p,h.toNat≤d)→(fE ts p d).lo<(fE ts p (d+1)).lo∧(fE ts p d).hi<(fE ts p (d+1)).hi):=by
 obtain ⟨a1,a2,a3⟩:=lV (n9 hts hne hp d)
 obtain ⟨b1,b2,b3⟩:=lV (n9 hts hne hp (d+1))
 have up:∀ m∈cG ts p d,∃ n∈cG ts p (d+1),m≤n∧n≤m+3∧((∀ t∈ts,∀ h∈hO t p,h.toNat≤d)→m+1≤n):=fun m hm=>by
  obtain ⟨t,ht,h,hh,rfl⟩:=tD.1 hm
  have:=TB hv (hts t ht) d h
  exact ⟨_,tD.2 ⟨t,ht,h,hh,rfl⟩,this.1,this.2.1,fun q=>this.2.2 (q t ht h hh)⟩
 have dn:∀ n∈cG ts p (d+1),∃ m∈cG ts p d,m≤n∧n≤m+3∧((∀ t∈ts,∀ h∈hO t p,h.toNat≤d)→m+1≤n):=fun n hn=>by
  obtain ⟨t,ht,h,hh,rfl⟩:=tD.1 hn
  have:=TB hv (hts t ht) d h
  exact ⟨_,tD.2 ⟨t,ht,h,hh,rfl⟩,this.1,this.2.1,fun q=>this.2.2 (q t ht h hh)⟩
 obtain ⟨n1,c1,c2,c3,c4⟩:=up _ a1
 obtain ⟨n2,d1,d2,d3,d4⟩:=up _ a2
 obtain ⟨m1,e1,e2,e3,e4⟩:=dn _ b1
 obtain ⟨m2,f1,f2,f3,f4⟩:=dn _ b2
 have g1:=b3 _ c1
 have g2:=b3 _ d1
 have g3:=a3 _ e1
 have g4:=a3 _ f1
 simp only [fE]
 refine ⟨by omega,by omega,by omega,by omega,fun q=>?_⟩
 have:=e4 q
 have:=d4 q
 omega
end Go.Am.Room.Fa
set_option maxRecDepth 8000
namespace Go.Am.Room.Fa
def GS:=And.intro @aC (@List.length_append.{0})
theorem kK (l:List Int) (n:Nat) (h:B7 l) (hn:n<9223372036854775808):cN T 17 [u8s l,.int .i64 n] (.int .i64 (iD l n)):=by
 refine aQ (af:=a17) rfl (by simp [a17]) (a9 (xB l) (a9 (bT _ _) bF)) ?_
 have hl:=h.2
 (repeat (first|simp only [↓QA,QB,seval,GS,a17,u8s]|refine rd0 rfl ?_))
 refine aJ (fun h0=>?_) fun h0=>?_
 ·have h0':l.length=0:=by simp at h0;simp [h0]
  (repeat (first|simp only [↓QA,QB,seval,GS,iD,h0']|refine rd0 rfl ?_))
 ·have h0':l.length≠0:=by intro e;rw [e] at h0;simp at h0
  have hlt:n%l.length<l.length:=Nat.mod_lt _ (by omega)
  have hb:=h.1 _ (List.getElem_mem hlt)
  have hm:((n:Int).tmod (l.length:Int))=((n%l.length:Nat):Int):=by rw [Int.tmod_eq_emod_of_nonneg (by omega)];norm_cast
  have hw:IntKind.i64.wrap l[n%l.length]=l[n%l.length]:=aX ⟨by omega,by omega⟩
  (repeat (first|simp only [↓QA,QB,seval,GS,AE _ _ _ (show ((l.length:Nat):Int)≠0 by omega),hm,hlt,hw]|refine rd0 rfl ?_))
  simp [iD,h0',hlt]
def oT (s:Span) (n:Int):Int:=s.lo+n.tmod (s.hi-s.lo+1)
theorem GB {s:Span} {n:Int} (hs:s.lo≤s.hi) (hn:0≤n):s.lo≤oT s n∧oT s n≤s.hi:=by
 have h1:=Int.tmod_nonneg (s.hi-s.lo+1) hn
 have h2:=Int.tmod_lt_of_pos n (show 0<s.hi-s.lo+1 by omega)
 simp only [oT];omega
theorem NP (s:Span) (n:Int) (h0:0≤s.lo) (h1:s.lo≤s.hi) (h2:s.hi<1000000) (hn:0≤n) (hn2:n<9223372036854775808):cN T 19 [bC s,.int .i64 n] (.int .i64 (oT s n)):=by
 refine aQ (af:=a19) rfl (by simp [a19]) dd ?_
 have hin:=GB h1 hn
 have w1:IntKind.i64.wrap (s.hi-s.lo)=s.hi-s.lo:=aX ⟨by omega,by omega⟩
 have w2:IntKind.i64.wrap (s.hi-s.lo+1)=s.hi-s.lo+1:=aX ⟨by omega,by omega⟩
 have w3:IntKind.i64.wrap (s.lo+n.tmod (s.hi-s.lo+1))=s.lo+n.tmod (s.hi-s.lo+1):=aX ⟨by simp only [oT] at hin;omega,by simp only [oT] at hin;omega⟩
 (repeat (first|simp only [↓QA,QB,seval,GS,a19,w1,w2,AE _ _ _ (show (s.hi-s.lo+1:Int)≠0 by omega),w3,oT]|refine rd0 rfl ?_))
theorem A2 {a:Int} (ha:0≤a) {n:Nat} (hn:0<n):∃ j:Nat,a.tmod (n:Int)=(j:Int)∧j<n:=by
 obtain ⟨k,rfl⟩:∃ k:Nat,a=k:=⟨a.toNat,by omega⟩
 refine ⟨k%n,?_,Nat.mod_lt _ hn⟩
 rw [Int.tmod_eq_emod_of_nonneg (by omega)]
 norm_cast
end Go.Am.Room.Fa
namespace Go.Am.Room.Ro
structure Setting where
 name:ByteArray
 gain:Span
structure Look where
 day:Int
 colour:Int
 deriving DecidableEq
structure Rm where
 days:Int
 start:Span
 settings:List Setting
 opens:Int
 ran:List Int
 looks:List Look
def encSetting (s:Setting):AV:=.agg [.str s.name,.int .i64 s.gain.lo,.int .i64 s.gain.hi]
theorem encSetting_eq (s:Setting):encSetting s = .agg [.str s.name,.int .i64 s.gain.lo,.int .i64 s.gain.hi]:=by simp only [encSetting]
theorem iU (s:Setting):j4 (encSetting s):=iZ (a9 (sX _) (a9 (bT _ _) (a9 (bT _ _) bF)))
instance (s:Setting):Dat (encSetting s):=⟨iU s⟩
def encLook (s:Look):AV:=.agg [.int .i64 s.day,.int .i64 s.colour]
theorem encLook_eq (s:Look):encLook s = .agg [.int .i64 s.day,.int .i64 s.colour]:=by simp only [encLook]
theorem i8 (s:Look):j4 (encLook s):=iZ (a9 (bT _ _) (a9 (bT _ _) bF))
instance (s:Look):Dat (encLook s):=⟨i8 s⟩
def aI (r:Rm):List AV:=[.int .i64 r.days,.int .i64 r.start.lo,.int .i64 r.start.hi,.lit (r.settings.map encSetting) false none,.int .i64 r.opens,ints r.ran,.lit (r.looks.map encLook) false none]
theorem roomCells_eq (r:Rm):aI r=[.int .i64 r.days,.int .i64 r.start.lo,.int .i64 r.start.hi,.lit (r.settings.map encSetting) false none,.int .i64 r.opens,.lit (r.ran.map (.int .i64)) false none,.lit (r.looks.map encLook) false none]:=by simp only [aI,ints]
def encRoom (r:Rm):AV:=.agg (aI r)
theorem encRoom_eq (r:Rm):encRoom r = .agg (aI r):=by simp only [encRoom]
theorem y7 (r:Rm):j4 (encRoom r):=iZ (a9 (bT _ _) (a9 (bT _ _) (a9 (bT _ _) (a9 (fT iU _) (a9 (bT _ _) (a9 (jT _) (a9 (fT i8 _) bF)))))))
instance (r:Rm):Dat (encRoom r):=⟨y7 r⟩
instance (l:List Setting):Dats (l.map encSetting):=⟨bZ iU l⟩
instance (l:List Look):Dats (l.map encLook):=⟨bZ i8 l⟩
theorem S_mapSet (σ:St) (m d:Nat) (l:List Setting):cB σ m d (l.map encSetting)=some (l.map encSetting):=jD (bZ iU l) σ m d
theorem S_mapLook (σ:St) (m d:Nat) (l:List Look):cB σ m d (l.map encLook)=some (l.map encLook):=jD (bZ i8 l) σ m d
structure Fits (r:Rm):Prop where
 settings:r.settings.length<9223372036854775808
 ran:r.ran.length<9223372036854775808
 looks:r.looks.length<9223372036854775808
 names:∀ s∈r.settings,s.name.size<9223372036854775808
theorem H4 (r:Rm):cN T 70 [encRoom r] (.int .i64 r.ran.length):=by
 refine aQ (af:=a70) rfl (by simp [a70]) dd ?_
 (repeat (first|simp only [↓QA,QB,seval,encRoom_eq,roomCells_eq,encSetting_eq,encLook_eq,aC,a70]|refine rd0 rfl ?_))
def eD (r:Rm) (n:Int):Bool:=inR n 0 ((r.settings.length:Int)-1)
theorem B4 (r:Rm) (n:Int) (h:Fits r):cN T 69 [encRoom r,.int .i64 n] (.bool (eD r n)):=by
 refine aQ (af:=a69) rfl (by simp [a69]) dd ?_
 have hs:=h.settings
 (repeat (first|simp only [↓QA,QB,seval,encRoom_eq,roomCells_eq,encSetting_eq,encLook_eq,aC,a69,aX (show -9223372036854775808≤(r.settings.length:Int)-1∧(r.settings.length:Int)-1≤9223372036854775807 by omega)]|refine rd0 rfl ?_))
 ((first|refine aE (eG _ _ _) rfl dd ?_|refine aG (eG _ _ _) rfl dd ?_);(repeat (first|simp only [↓QA,QB,seval,encRoom_eq,roomCells_eq,encSetting_eq,encLook_eq,aC,eD]|refine rd0 rfl ?_)))
def gA (n:Int):Bool:=inR n 1 7
theorem AK (n:Int):cN T 71 [.int .i64 n] (.bool (gA n)):=by
 refine aQ (af:=a71) rfl (by simp [a71]) dd ?_
 (repeat (first|simp only [↓QA,QB,seval,encRoom_eq,roomCells_eq,encSetting_eq,encLook_eq,aC,a71]|refine rd0 rfl ?_))
 ((first|refine aE (eG _ _ _) rfl dd ?_|refine aG (eG _ _ _) rfl dd ?_);(repeat (first|simp only [↓QA,QB,seval,encRoom_eq,roomCells_eq,encSetting_eq,encLook_eq,aC,gA]|refine rd0 rfl ?_)))
def aL {α:Type} (f:Nat→α→Int):List α→Nat→Option (Nat×Int)
 |[],_=>none
 |x::xs,i=>if f i x=0 then aL f xs (i+1) else some (i,f i x)
theorem c9 {α:Type} {f:Nat→α→Int} {l:List α} {k:Nat} (h:k<l.length):aL f (l.drop k) k=if f k l[k]=0 then aL f (l.drop (k+1)) (k+1) else some (k,f k l[k]):=by
 rw [List.drop_eq_getElem_cons h];rfl
theorem dK {α:Type} {f:Nat→α→Int} {l:List α} {k:Nat} (h:k=l.length):aL f (l.drop k) k=none:=by
 rw [h,List.drop_length];rfl
def i9 (r:Rm) (i:Nat) (s:Setting):Int:=if fresh s.name ((r.settings.take i).map Setting.name)=0 then dV s.gain 0 15 else fresh s.name ((r.settings.take i).map Setting.name)
def kH (r:Rm) (_:Nat) (n:Int):Int:=if eD r n then 0 else 4
def iC (r:Rm) (_:Nat) (x:Look):Int:=if inR x.day 0 r.ran.length&&gA x.colour then 0 else 7
def gD (r:Rm):Int×Int×Int:=if 4<r.looks.length then (4,0,3) else match aL (iC r) r.looks 0 with|some (i,e)=>(4,i,e)|none=>(0,0,0)
def gI (r:Rm):Int×Int×Int:=if r.days<r.ran.length then (3,0,3) else match aL (kH r) r.ran 0 with|some (i,e)=>(3,i,e)|none=>gD r
def eK (r:Rm):Int×Int×Int:=if inR r.settings.length 1 4=false then (2,0,3) else match aL (i9 r) r.settings 0 with|some (i,e)=>(2,i,e)|none=>gI r
def check (r:Rm):Int×Int×Int :=
 if inR r.days 1 6=false∨dV r.start 0 69=7∨inR r.opens 0 6=false then (1,0,7) else if dV r.start 0 69≠0 then (1,0,dV r.start 0 69) else eK r
def enc3 (x:Int×Int×Int):AV:=.tuple [.int .i64 x.1,.int .i64 x.2.1,.int .i64 x.2.2]
theorem zA {r:Rm} {k:Nat} (h:k<r.settings.length):(r.settings.take (k+1)).map Setting.name=(r.settings.take k).map Setting.name++[r.settings[k].name]:=by
 rw [List.take_succ_eq_append_getElem h,List.map_append];rfl
theorem vS {k:Nat} {ns:List ByteArray} {s:ByteArray} {b:ABlk} {ex:Bool} (hk:ns.length=k) (hn:k<4):cZ 1 16 [b,.tok 1 k ex] (.lit (ns.map .str) false (some 1)) (.lit [.str s] true none)=some (.lit ((ns++[s]).map .str) false (some 1),[b,.tok 1 (k+1) true]):=by
 rw [uP (ex:=ex) ⟨qB 1 _ ns (fun x=>TA _),by simp [aU,AV.cells,AV.cell],by simp [room,hk];omega,by simp [room,hk];omega⟩ (by simp) (by simp [hk])]
 simp [hk]
theorem refcheck_ok (r:Rm) (h:Fits r):cN T 11 [encRoom r] (enc3 (check r)):=by
 refine aQ (af:=a11) rfl (by simp [a11]) dd ?_
 have hfs:=h.settings
 have hfr:=h.ran
 have hfl:=h.looks
 (repeat (first|simp only [↓QA,QB,seval,encRoom_eq,roomCells_eq,encSetting_eq,encLook_eq,aC,a11]|refine rd0 rfl ?_))
 ((first|refine aE (nV r.start _ _) rfl dd ?_|refine aG (nV r.start _ _) rfl dd ?_);(repeat (first|simp only [↓QA,QB,seval,encRoom_eq,roomCells_eq,encSetting_eq,encLook_eq,aC]|refine rd0 rfl ?_)))
 ((first|refine aE (eG _ _ _) rfl dd ?_|refine aG (eG _ _ _) rfl dd ?_);(repeat (first|simp only [↓QA,QB,seval,encRoom_eq,roomCells_eq,encSetting_eq,encLook_eq,aC]|refine rd0 rfl ?_)))
 cases h1:inR r.days 1 6
 ·(repeat (first|simp only [↓QA,QB,seval,encRoom_eq,roomCells_eq,encSetting_eq,encLook_eq,aC]|refine rd0 rfl ?_))
  simp [check,h1,enc3]
 ·(repeat (first|simp only [↓QA,QB,seval,encRoom_eq,roomCells_eq,encSetting_eq,encLook_eq,aC]|refine rd0 rfl ?_))
  cases h2:(dV r.start 0 69==7)
  ·have h2':dV r.start 0 69≠7:=by simpa using h2
   (repeat (first|simp only [↓QA,QB,seval,encRoom_eq,roomCells_eq,encSetting_eq,encLook_eq,aC,h2]|refine rd0 rfl ?_))
   ((first|refine aE (eG _ _ _) rfl dd ?_|refine aG (eG _ _ _) rfl dd ?_);(repeat (first|simp only [↓QA,QB,seval,encRoom_eq,roomCells_eq,encSetting_eq,encLook_eq,aC]|refine rd0 rfl ?_)))
   cases h3:inR r.opens 0 6
   ·(repeat (first|simp only [↓QA,QB,seval,encRoom_eq,roomCells_eq,encSetting_eq,encLook_eq,aC]|refine rd0 rfl ?_))
    simp [check,h3,enc3]
   ·(repeat (first|simp only [↓QA,QB,seval,encRoom_eq,roomCells_eq,encSetting_eq,encLook_eq,aC]|refine rd0 rfl ?_))
    cases h4:(dV r.start 0 69==0)
    ·have h4':dV r.start 0 69≠0:=by simpa using h4
     (repeat (first|simp only [↓QA,QB,seval,encRoom_eq,roomCells_eq,encSetting_eq,encLook_eq,aC,h4]|refine rd0 rfl ?_))
     simp [check,h1,h2',h3,h4',enc3]
    ·have h4':dV r.start 0 69=0:=by simpa using h4
     have hc:check r=eK r:=by simp [check,h1,h3,h4']
     rw [hc]
     (repeat (first|simp only [↓QA,QB,seval,encRoom_eq,roomCells_eq,encSetting_eq,encLook_eq,aC,h4]|refine rd0 rfl ?_))
     ((first|refine aE (eG _ _ _) rfl dd ?_|refine aG (eG _ _ _) rfl dd ?_);(repeat (first|simp only [↓QA,QB,seval,encRoom_eq,roomCells_eq,encSetting_eq,encLook_eq,aC]|refine rd0 rfl ?_)))
     cases h5:inR r.settings.length 1 4
     ·(repeat (first|simp only [↓QA,QB,seval,encRoom_eq,roomCells_eq,encSetting_eq,encLook_eq,aC]|refine rd0 rfl ?_))
      simp [eK,h5,enc3]
     ·have h5':r.settings.length≤4:=by simp [inR] at h5;omega
      have hc:eK r=match aL (i9 r) r.settings 0 with|some (i,e)=>(2,(i:Int),e)|none=>gI r:=by simp [eK,h5]
      rw [hc]
      (repeat (first|simp only [↓QA,QB,seval,encRoom_eq,roomCells_eq,encSetting_eq,encLook_eq,aC]|refine rd0 rfl ?_))
      refine oK 6 1 [] rfl ?_
      refine bU (S:=Nat×Bool) (0,false) (fun s=>s.1≤r.settings.length∧aL (i9 r) (r.settings.drop s.1) s.1=aL (i9 r) r.settings 0) (fun s=>r.settings.length-s.1)
       (fun s=>[(1,.ptr 0 0),(6,.lit (((r.settings.take s.1).map Setting.name).map .str) false (some 1)),(7,.int .i64 s.1)]) (fun s=>[.cells (aI r),.tok 1 s.1 s.2]) ⟨Nat.zero_le _,by simp⟩ (by simp [aI,ints]) ?_ fun s hs=>?_
      ·try simp only [aF,QE,seval,encRoom_eq,roomCells_eq,encSetting_eq,encLook_eq,aC]
       try simp
      ·obtain ⟨k,ex⟩:=s
       obtain ⟨hk,hb⟩:=hs
       simp only at hk hb
       have hlen:((r.settings.take k).map Setting.name).length=k:=by simp [hk]
       (repeat (first|simp only [↓QA,QB,seval,encRoom_eq,roomCells_eq,encSetting_eq,encLook_eq,aC,Z0]|refine rd0 rfl ?_))
       refine aJ (fun hd=>?_) fun hd=>?_
       ·have hk1:k<r.settings.length:=by simpa using hd
        rw [c9 hk1] at hb
        have hw:=b7 hk1 hfs
        have hap:=vS (k:=k) (ns:=(r.settings.take k).map Setting.name) (s:=r.settings[k].name) (b:=.cells (aI r)) (ex:=ex) hlen (by omega)
        rw [roomCells_eq] at hap
        (repeat (first|simp only [↓QA,QB,seval,encRoom_eq,roomCells_eq,encSetting_eq,encLook_eq,aC,hk1,hw]|refine rd0 rfl ?_))
        ((first|refine NQ (BN r.settings[k].name ((r.settings.take k).map Setting.name) (h.names _ (List.getElem_mem hk1)) (by rw [hlen];omega)) (by try simp only [QS,QC,seval,encRoom_eq,roomCells_eq,encSetting_eq,encLook_eq,aC]) trivial ?_|refine NF (BN r.settings[k].name ((r.settings.take k).map Setting.name) (h.names _ (List.getElem_mem hk1)) (by rw [hlen];omega)) (by try simp only [QS,QC,seval,encRoom_eq,roomCells_eq,encSetting_eq,encLook_eq,aC]) trivial ?_);(repeat (first|simp only [↓QA,QB,seval,encRoom_eq,roomCells_eq,encSetting_eq,encLook_eq,aC,hk1,hw,hap]|refine rd0 rfl ?_)))
        have hset:i9 r k r.settings[k]=if fresh r.settings[k].name ((r.settings.take k).map Setting.name)=0 then dV r.settings[k].gain 0 15 else fresh r.settings[k].name ((r.settings.take k).map Setting.name):=rfl
        cases hf:(fresh r.settings[k].name ((r.settings.take k).map Setting.name)==0)
        ·have hf':fresh r.settings[k].name ((r.settings.take k).map Setting.name)≠0:=by simpa using hf
         rw [hset,if_neg hf',if_neg hf'] at hb
         rw [←hb]
         (repeat (first|simp only [↓QA,QB,seval,encRoom_eq,roomCells_eq,encSetting_eq,encLook_eq,aC,hf]|refine rd0 rfl ?_))
         rfl
        ·have hf':fresh r.settings[k].name ((r.settings.take k).map Setting.name)=0:=by simpa using hf
         rw [hset,if_pos hf'] at hb
         (repeat (first|simp only [↓QA,QB,seval,encRoom_eq,roomCells_eq,encSetting_eq,encLook_eq,aC,hf,hk1]|refine rd0 rfl ?_))
         ((first|refine aE (nV r.settings[k].gain _ _) rfl dd ?_|refine aG (nV r.settings[k].gain _ _) rfl dd ?_);(repeat (first|simp only [↓QA,QB,seval,encRoom_eq,roomCells_eq,encSetting_eq,encLook_eq,aC]|refine rd0 rfl ?_)))
         cases hg:(dV r.settings[k].gain 0 15==0)
         ·have hg':dV r.settings[k].gain 0 15≠0:=by simpa using hg
          rw [if_neg hg'] at hb
          rw [←hb]
          (repeat (first|simp only [↓QA,QB,seval,encRoom_eq,roomCells_eq,encSetting_eq,encLook_eq,aC,hg]|refine rd0 rfl ?_))
          rfl
         ·have hg':dV r.settings[k].gain 0 15=0:=by simpa using hg
          (repeat (first|simp only [↓QA,QB,seval,encRoom_eq,roomCells_eq,encSetting_eq,encLook_eq,aC,hg,hw]|refine rd0 rfl ?_))
          refine ⟨(k+1,true),⟨by simp only;omega,by rw [←hb,if_pos hg']⟩,by simp only;omega,?_⟩
          try simp only [aF,QE,seval,encRoom_eq,roomCells_eq,encSetting_eq,encLook_eq,aC,zA hk1,hw]
          try simp [aT]
       ·have hk1:k=r.settings.length:=by simp at hd;omega
        rw [dK hk1] at hb
        rw [←hb]
        (repeat (first|simp only [↓QA,QB,seval,encRoom_eq,roomCells_eq,encSetting_eq,encLook_eq,aC]|refine rd0 rfl ?_))
        cases h6:decide (r.days<(r.ran.length:Int))
        ·have h6':¬r.days<r.ran.length:=by simpa using h6
         have hc:gI r=match aL (kH r) r.ran 0 with|some (i,e)=>(3,(i:Int),e)|none=>gD r:=by simp only [gI,h6',if_false]
         rw [hc]
         (repeat (first|simp only [↓QA,QB,seval,encRoom_eq,roomCells_eq,encSetting_eq,encLook_eq,aC]|refine rd0 rfl ?_))
         refine bU (S:=Nat) 0 (fun s=>s≤r.ran.length∧aL (kH r) (r.ran.drop s) s=aL (kH r) r.ran 0) (fun s=>r.ran.length-s)
          (fun s=>[(1,.ptr 0 0),(9,.int .i64 s)]) (fun _=>[.cells (aI r),.tok 1 k ex]) ⟨Nat.zero_le _,by simp⟩ (by simp [aI,ints]) ?_ fun j hj=>?_
         ·try simp only [aF,QE,seval,encRoom_eq,roomCells_eq,encSetting_eq,encLook_eq,aC]
          try simp
         ·obtain ⟨hj,hbj⟩:=hj
          (repeat (first|simp only [↓QA,QB,seval,encRoom_eq,roomCells_eq,encSetting_eq,encLook_eq,aC,aAF]|refine rd0 rfl ?_))
          refine aJ (fun hd2=>?_) fun hd2=>?_
          ·have hj1:j<r.ran.length:=by simpa using hd2
           rw [c9 hj1] at hbj
           have hw2:=b7 hj1 hfr
           (repeat (first|simp only [↓QA,QB,seval,encRoom_eq,roomCells_eq,encSetting_eq,encLook_eq,aC,hj1]|refine rd0 rfl ?_))
           ((first|refine aE (B4 r r.ran[j] h) rfl dd ?_|refine aG (B4 r r.ran[j] h) rfl dd ?_);(repeat (first|simp only [↓QA,QB,seval,encRoom_eq,roomCells_eq,encSetting_eq,encLook_eq,aC]|refine rd0 rfl ?_)))
           have hre:kH r j r.ran[j]=if eD r r.ran[j] then 0 else 4:=rfl
           rw [hre] at hbj
           cases hi:eD r r.ran[j]
           ·(repeat (first|simp only [↓QA,QB,seval,encRoom_eq,roomCells_eq,encSetting_eq,encLook_eq,aC,hj1]|refine rd0 rfl ?_))
            rw [←hbj,hi]
            rfl
           ·(repeat (first|simp only [↓QA,QB,seval,encRoom_eq,roomCells_eq,encSetting_eq,encLook_eq,aC,hj1,hw2]|refine rd0 rfl ?_))
            refine ⟨j+1,⟨by omega,by rw [←hbj,hi];rfl⟩,by omega,?_⟩
            try simp only [aF,QE,seval,encRoom_eq,roomCells_eq,encSetting_eq,encLook_eq,aC,hw2]
            try simp
          ·have hj1:j=r.ran.length:=by simp at hd2;omega
           rw [dK hj1] at hbj
           rw [←hbj]
           (repeat (first|simp only [↓QA,QB,seval,encRoom_eq,roomCells_eq,encSetting_eq,encLook_eq,aC]|refine rd0 rfl ?_))
           cases h7:decide (4<(r.looks.length:Int))
           ·have h7':¬4<r.looks.length:=by simp at h7;omega
            have hc:gD r=match aL (iC r) r.looks 0 with|some (i,e)=>(4,(i:Int),e)|none=>(0,0,0):=by simp only [gD,h7',if_false]
            rw [hc]
            (repeat (first|simp only [↓QA,QB,seval,encRoom_eq,roomCells_eq,encSetting_eq,encLook_eq,aC]|refine rd0 rfl ?_))
            refine bU (S:=Nat) 0 (fun s=>s≤r.looks.length∧aL (iC r) (r.looks.drop s) s=aL (iC r) r.looks 0) (fun s=>r.looks.length-s)
             (fun s=>[(1,.ptr 0 0),(10,.int .i64 s)]) (fun _=>[.cells (aI r),.tok 1 k ex]) ⟨Nat.zero_le _,by simp⟩ (by simp [aI,ints]) ?_ fun i hi=>?_
            ·try simp only [aF,QE,seval,encRoom_eq,roomCells_eq,encSetting_eq,encLook_eq,aC]
             try simp
            ·obtain ⟨hi,hbi⟩:=hi
             (repeat (first|simp only [↓QA,QB,seval,encRoom_eq,roomCells_eq,encSetting_eq,encLook_eq,aC,ZS]|refine rd0 rfl ?_))
             refine aJ (fun hd3=>?_) fun hd3=>?_
             ·have hi1:i<r.looks.length:=by simpa using hd3
              rw [c9 hi1] at hbi
              have hw3:=b7 hi1 hfl
              have hle:iC r i r.looks[i]=if inR r.looks[i].day 0 r.ran.length&&gA r.looks[i].colour then 0 else 7:=rfl
              rw [hle] at hbi
              (repeat (first|simp only [↓QA,QB,seval,encRoom_eq,roomCells_eq,encSetting_eq,encLook_eq,aC,hi1]|refine rd0 rfl ?_))
              ((first|refine aE (H4 r) rfl dd ?_|refine aG (H4 r) rfl dd ?_);(repeat (first|simp only [↓QA,QB,seval,encRoom_eq,roomCells_eq,encSetting_eq,encLook_eq,aC]|refine rd0 rfl ?_)))
              ((first|refine aE (eG _ _ _) rfl dd ?_|refine aG (eG _ _ _) rfl dd ?_);(repeat (first|simp only [↓QA,QB,seval,encRoom_eq,roomCells_eq,encSetting_eq,encLook_eq,aC]|refine rd0 rfl ?_)))
              cases ha:inR r.looks[i].day 0 r.ran.length
              ·(repeat (first|simp only [↓QA,QB,seval,encRoom_eq,roomCells_eq,encSetting_eq,encLook_eq,aC,hi1]|refine rd0 rfl ?_))
               rw [←hbi,ha]
               rfl
              ·(repeat (first|simp only [↓QA,QB,seval,encRoom_eq,roomCells_eq,encSetting_eq,encLook_eq,aC,hi1]|refine rd0 rfl ?_))
               ((first|refine aE (AK _) rfl dd ?_|refine aG (AK _) rfl dd ?_);(repeat (first|simp only [↓QA,QB,seval,encRoom_eq,roomCells_eq,encSetting_eq,encLook_eq,aC]|refine rd0 rfl ?_)))
               cases hcol:gA r.looks[i].colour
               ·(repeat (first|simp only [↓QA,QB,seval,encRoom_eq,roomCells_eq,encSetting_eq,encLook_eq,aC,hi1]|refine rd0 rfl ?_))
                rw [←hbi,ha,hcol]
                rfl
               ·(repeat (first|simp only [↓QA,QB,seval,encRoom_eq,roomCells_eq,encSetting_eq,encLook_eq,aC,hi1,hw3]|refine rd0 rfl ?_))
                refine ⟨i+1,⟨by omega,by rw [←hbi,ha,hcol];rfl⟩,by omega,?_⟩
                try simp only [aF,QE,seval,encRoom_eq,roomCells_eq,encSetting_eq,encLook_eq,aC,hw3]
                try simp
             ·have hi1:i=r.looks.length:=by simp at hd3;omega
              rw [dK hi1] at hbi
              rw [←hbi]
              (repeat (first|simp only [↓QA,QB,seval,encRoom_eq,roomCells_eq,encSetting_eq,encLook_eq,aC,enc3]|refine rd0 rfl ?_))
           ·have h7':4<r.looks.length:=by simp at h7;omega
            (repeat (first|simp only [↓QA,QB,seval,encRoom_eq,roomCells_eq,encSetting_eq,encLook_eq,aC]|refine rd0 rfl ?_))
            simp [gD,h7',enc3]
        ·have h6':r.days<r.ran.length:=by simpa using h6
         (repeat (first|simp only [↓QA,QB,seval,encRoom_eq,roomCells_eq,encSetting_eq,encLook_eq,aC]|refine rd0 rfl ?_))
         simp [gI,h6',enc3]
  ·have h2':dV r.start 0 69=7:=by simpa using h2
   (repeat (first|simp only [↓QA,QB,seval,encRoom_eq,roomCells_eq,encSetting_eq,encLook_eq,aC,h2]|refine rd0 rfl ?_))
   simp [check,h2',enc3]
end Go.Am.Room.Ro
set_option maxRecDepth 4000
namespace Go.Am.Room.Ro
def aC6:=And.intro @Nat.mul_one (And.intro @Int.toNat_natCast (And.intro @encRoom_eq (And.intro @roomCells_eq (And.intro @encSetting_eq (And.intro @encLook_eq (@aC))))))
def bits (p:Nat→Bool):List AV:=(List.range 160).map fun n=>.bool (p n)
theorem dY (p:Nat→Bool):(bits p).length=160:=by simp [bits]
theorem eC (p:Nat→Bool):bM (bits p)=true:=U2 (fun n=>.bool (p n)) _ fun _=>rfl
theorem dS (p:Nat→Bool):(bits p).take 160=bits p:=List.take_of_length_le (by simp [dY])
theorem dR (p:Nat→Bool):(bits p).drop 160=[]:=List.drop_of_length_le (by simp [dY])
theorem v5 (p:Nat→Bool):nM (bits p):=bZ (fun n=>E5 (p n)) _
instance (p:Nat→Bool):Dats (bits p):=⟨v5 p⟩
theorem jI (σ:St) (m d:Nat) (p:Nat→Bool):cB σ m d (bits p)=some (bits p):=jD (v5 p) σ m d
def PZ (p:Nat→Bool):AV:=.agg (bits p)
theorem gT (p:Nat→Bool):PZ p = .agg (bits p):=by simp only [PZ]
theorem R8 (p:Nat→Bool):j4 (PZ p):=iZ (v5 p)
instance (p:Nat→Bool):Dat (PZ p):=⟨R8 p⟩
def cY (s:Span) (n:Nat):Bool:=decide (s.lo≤n)&&decide ((n:Int)≤s.hi)
def wU (p:Nat→Bool) (g:Span) (n m:Nat):Bool:=(List.range n).any fun i=>p i&&(decide (g.lo≤(m:Int)-i)&&decide ((m:Int)-i≤g.hi))
def S3 (p:Nat→Bool) (a:Int) (x:Int) (n:Nat):Bool:=(List.range 160).any fun m=>p m&&(decide (a≤(m:Int)-n)&&decide ((m:Int)-n<x))
def CN (p:Nat→Bool) (g:Span) (n:Nat):Bool:=S3 p g.lo (g.hi+1) n
def wE (p:Nat→Bool):Nat→Span
 |0=>⟨160,-1⟩
 |n+1=>if p n then nF (wE p n) n else wE p n
def colourOf (n:Int):Int:=min 7 (1+n/10)
theorem colour_ok (n:Int) (h0:0≤n) (h1:n<9223372036854775808):cN T 21 [.int .i64 n] (.int .i64 (colourOf n)):=by
 refine aQ (af:=a21) rfl (by simp [a21]) dd ?_
 have e:n.tdiv 10=n/10:=Int.tdiv_eq_ediv_of_nonneg h0
 (repeat (first|simp only [↓QA,QB,seval,aC6,gT,dY,eC,dS,dR,jI,a21,ZX _ _ _ (show (10:Int)≠0 by decide),e,aX (show -9223372036854775808≤n/10∧n/10≤9223372036854775807 by omega),aX (show -9223372036854775808≤1+n/10∧1+n/10≤9223372036854775807 by omega),colourOf]|refine rd0 rfl ?_))
def DZ (day:Int) (but:List Int) (c:Int):List Look→Nat→Bool
 |[],_=>true
 |x::xs,i=>(if (x.day==day&&!but.contains (i:Int))=true then x.colour==c else true)&&DZ day but c xs (i+1)
def OD (looks:List Look) (day:Int) (but:List Int) (n:Nat):Bool:=DZ day but (colourOf n) looks 0
end Go.Am.Room.Ro
set_option maxRecDepth 4000
namespace Go.Am.Room.Ro
structure Vd (r:Rm):Prop where
 days:1≤r.days∧r.days≤6
 start:0≤r.start.lo∧r.start.lo≤r.start.hi∧r.start.hi≤69
 nset:1≤r.settings.length∧r.settings.length≤4
 gains:∀ s∈r.settings,0≤s.gain.lo∧s.gain.lo≤s.gain.hi∧s.gain.hi≤15
 opens:0≤r.opens∧r.opens≤6
 ranLen:(r.ran.length:Int)≤r.days
 ran:∀ n∈r.ran,0≤n∧n<r.settings.length
 looksLen:r.looks.length≤4
 looks:∀ x∈r.looks,0≤x.day∧x.day≤r.ran.length∧1≤x.colour∧x.colour≤7
def jN (r:Rm) (d:Nat):Span:=match r.ran[d]? with|some n=>(match r.settings[n.toNat]? with|some s=>s.gain|none=>⟨0,0⟩)|none=>⟨0,0⟩
theorem zJ {r:Rm} {d:Nat} (h:d<r.ran.length) (h2:r.ran[d].toNat<r.settings.length):jN r d=r.settings[r.ran[d].toNat].gain:=by
 simp [jN,h,h2]
def MW (r:Rm) (but:List Int):Nat→Nat→Bool
 |0=>fun n=>cY r.start n&&OD r.looks 0 but n
 |d+1=>fun n=>wU (MW r but d) (jN r d) 160 n&&OD r.looks ((d:Int)+1) but n
def GX (r:Rm) (but:List Int):Nat→Nat→Bool
 |0=>MW r but r.ran.length
 |k+1=>fun n=>MW r but (r.ran.length-(k+1)) n&&CN (GX r but k) (jN r (r.ran.length-(k+1))) n
def y2 (r:Rm) (but:List Int) (d:Nat):Nat→Bool:=GX r but (r.ran.length-d)
def vU (r:Rm) (but:List Int):List (Nat→Bool):=(List.range (r.ran.length+1)).map (y2 r but)
def vE (ps:List (Nat→Bool)):List AV:=ps.flatMap bits
theorem vV:∀ (ps:List (Nat→Bool)) (i:Nat),(vE ps).drop (i*160)=vE (ps.drop i)
 |ps,0=>by simp
 |[],i+1=>by simp [vE]
 |p::ps,i+1=>by
  rw [show (i+1)*160=160+i*160 by omega,←List.drop_drop]
  simp only [vE,List.flatMap_cons,List.drop_succ_cons]
  rw [List.drop_append_of_le_length (by rw [dY];omega),dR,List.nil_append]
  exact vV ps i
theorem RP {ps:List (Nat→Bool)} {i:Nat} (h:i<ps.length):((vE ps).drop (i*160)).take 160=bits ps[i]:=by
 rw [vV,List.drop_eq_getElem_cons h]
 simp only [vE,List.flatMap_cons]
 rw [List.take_append_of_le_length (by rw [dY];omega),dS]
theorem qY:∀ ps:List (Nat→Bool),DA 160 ps.length (vE ps)=ps.map PZ
 |[]=>rfl
 |p::ps=>by
  have h1:(vE (p::ps)).take 160=bits p:=by have:=RP (ps:=p::ps) (i:=0) (by simp);simpa using this
  have h2:(vE (p::ps)).drop 160=vE ps:=by have:=vV (p::ps) 1;simpa using this
  simp only [List.length_cons,DA,h1,h2,qY ps,List.map_cons]
  simp [PZ]
end Go.Am.Room.Ro
set_option maxRecDepth 4000
namespace Go.Am.Room.Ro
theorem gE {n lo hi:Int}:inR n lo hi=true↔lo≤n∧n≤hi:=by simp [inR]
theorem n5 {s:Span} {lo hi:Int} (h:dV s lo hi=0):lo≤s.lo∧s.lo≤s.hi∧s.hi≤hi:=by
 unfold dV at h
 split at h
 ·omega
 ·rename_i h1
  split at h
  ·omega
  ·simp [inR] at h1;omega
theorem gG {α:Type} {f:Nat→α→Int}:∀ {l:List α} {i:Nat},aL f l i=none→∀ k (h:k<l.length),f (i+k) l[k]=0
 |[],_,_,k,h=>by simp at h
 |x::xs,i,h,k,hk=>by
  simp only [aL] at h
  split at h
  ·rename_i h0
   cases k with
   |zero=>exact h0
   |succ k =>
    have:=gG h k (by simpa using hk)
    simpa [Nat.add_assoc,Nat.add_comm 1 k] using this
  ·cases h
theorem eP {α:Type} {f:Nat→α→Int}:∀ {l:List α} {i j:Nat} {e:Int},aL f l i=some (j,e)→e≠0
 |[],_,_,_,h=>by cases h
 |x::xs,i,j,e,h=>by
  simp only [aL] at h
  split at h
  ·exact eP h
  ·rename_i hn
   simp at h
   rw [←h.2]
   exact hn
theorem vd_of_check {r:Rm} (h:(check r).2.2=0):Vd r:=by
 unfold check at h
 split at h
 ·simp at h
 rename_i c1
 split at h
 ·rename_i c2;exact absurd h c2
 rename_i c2
 unfold eK at h
 split at h
 ·simp at h
 rename_i c3
 split at h
 ·rename_i i e he;exact absurd h (eP he)
 rename_i f1
 unfold gI at h
 split at h
 ·simp at h
 rename_i c4
 split at h
 ·rename_i i e he;exact absurd h (eP he)
 rename_i f2
 unfold gD at h
 split at h
 ·simp at h
 rename_i c5
 split at h
 ·rename_i i e he;exact absurd h (eP he)
 rename_i f3
 simp only [not_or,Bool.not_eq_false] at c1 c3
 obtain ⟨d1,d2,d3⟩:=c1
 have e0:dV r.start 0 69=0:=Decidable.not_not.1 c2
 have es:=n5 e0
 rw [gE] at d1 d3 c3
 refine ⟨d1,es,by omega,?_,d3,by omega,?_,by omega,?_⟩
 ·intro s hs
  obtain ⟨k,hk,rfl⟩:=List.getElem_of_mem hs
  have:=gG f1 k hk
  unfold i9 at this
  split at this
  ·exact n5 this
  ·rename_i hne;exact absurd this hne
 ·intro n hn
  obtain ⟨k,hk,rfl⟩:=List.getElem_of_mem hn
  have:=gG f2 k hk
  unfold kH at this
  split at this
  ·rename_i hi;rw [eD,gE] at hi;omega
  ·omega
 ·intro x hx
  obtain ⟨k,hk,rfl⟩:=List.getElem_of_mem hx
  have:=gG f3 k hk
  unfold iC at this
  split at this
  ·rename_i hi
   rw [Bool.and_eq_true,gA,gE,gE] at hi
   omega
  ·omega
def mD (p:Nat→Bool):Span:=wE p 160
def bQ (r:Rm) (but:List Int):Bool:=decide (0≤(mD (y2 r but r.ran.length)).hi)
def aZ (r:Rm) (e:Int):Int:=if e=0 then (if bQ r []=true then 0 else 8) else e
def dA (r:Rm) (n lo hi:Int):Int:=if (check r).2.2=0 then (if inR n lo hi=true then 0 else 7) else (check r).2.2
def cQ (r:Rm) (day:Int):Span×Int :=
 if aZ r (dA r day 0 r.ran.length)=0 then (mD (y2 r [] day.toNat),0) else (⟨0,0⟩,aZ r (dA r day 0 r.ran.length))
def iA (x:Span×Int):AV:=.tuple [bC x.1,.int .i64 x.2]
theorem eV {r:Rm} {n lo hi:Int} (h:dA r n lo hi=0):Vd r∧lo≤n∧n≤hi:=by
 unfold dA at h
 split at h
 ·rename_i h0
  split at h
  ·rename_i h1;exact ⟨vd_of_check h0,gE.1 h1⟩
  ·omega
 ·rename_i h0;exact absurd h h0
theorem dO {r:Rm} {e:Int} (h:aZ r e=0):e=0∧bQ r []=true:=by
 unfold aZ at h
 split at h
 ·rename_i h0
  split at h
  ·rename_i h1;exact ⟨h0,h1⟩
  ·omega
 ·rename_i h0;exact absurd h h0
theorem z0 (p:Nat→Bool):∀ n,(∀ m,m<n→p m=false)→wE p n=⟨160,-1⟩
 |0,_=>rfl
 |n+1,h=>by
  simp only [wE]
  rw [if_neg (by rw [h n (by omega)];simp),z0 p n fun m hm=>h m (by omega)]
theorem EH {s:Span} (h0:0≤s.lo) (h1:s.lo≤s.hi) (h2:s.hi<160) {p:Nat→Bool} (hp:∀ n,n<160→p n=cY s n):mD p=s:=by
 have key:∀ n:Nat,n≤160→wE p n=if (n:Int)≤s.lo then ⟨160,-1⟩ else ⟨s.lo,min s.hi ((n:Int)-1)⟩:=by
  intro n
  induction n with
  |zero=>intro _;rw [if_pos (by simpa using h0)];rfl
  |succ n ih =>
   intro hn
   have ih:=ih (by omega)
   simp only [wE]
   rw [hp n (by omega),ih]
   by_cases hw:cY s n=true
   ·rw [if_pos hw]
    simp only [cY,Bool.and_eq_true,decide_eq_true_eq] at hw
    split<;>split<;>simp only [nF,Span.mk.injEq]<;>omega
   ·rw [if_neg hw]
    simp only [cY,Bool.and_eq_true,decide_eq_true_eq] at hw
    split<;>split<;>simp only [Span.mk.injEq,true_and]<;>omega
 have:=key 160 (Nat.le_refl _)
 rw [mD,this,if_neg (by omega)]
 obtain ⟨lo,hi⟩:=s
 simp only [Span.mk.injEq,true_and] at *
 omega
theorem I8 {p:Nat→Bool} (hp:∀ n,n<160→p n=false):mD p=⟨160,-1⟩:=z0 p 160 hp
def plus (a b:Span):Span:=⟨a.lo+b.lo,a.hi+b.hi⟩
def gQ (a b:Span):Span:=⟨max a.lo b.lo,min a.hi b.hi⟩
def back (b g:Span):Span:=⟨b.lo-g.hi,b.hi-g.lo⟩
def ofC (c:Int):Span:=⟨(c-1)*10,if c=7 then 1000 else c*10-1⟩
def ne (s:Span):Option Span:=if s.lo≤s.hi then some s else none
theorem pO (a b:Span) (n:Nat):cY (gQ a b) n=(cY a n&&cY b n):=by
 rw [Bool.eq_iff_iff]
 simp only [cY,Bool.and_eq_true,decide_eq_true_eq]
 simp only [gQ]
 omega
theorem MQ {c:Int} (h1:1≤c) (h2:c≤7) (n:Nat) (hn:n≤1000):(c==colourOf n)=cY (ofC c) n:=by
 rw [Bool.eq_iff_iff]
 simp only [beq_iff_eq,cY,Bool.and_eq_true,decide_eq_true_eq]
 simp only [ofC,colourOf]
 split
 ·omega
 ·omega
theorem G7 {s g:Span} (h0:0≤s.lo) (hs:s.lo≤s.hi) (hg0:0≤g.lo) (hg:g.lo≤g.hi) (hsum:s.hi<160) {p:Nat→Bool} (hp:∀ n,n<160→p n=cY s n) (m:Nat):wU p g 160 m=cY (plus s g) m:=by
 rw [Bool.eq_iff_iff]
 simp only [wU,List.any_eq_true,List.mem_range,Bool.and_eq_true,decide_eq_true_eq,cY]
 simp only [plus]
 constructor
 ·rintro ⟨n,hn,h1,h2,h3⟩
  rw [hp n hn] at h1
  simp only [cY,Bool.and_eq_true,decide_eq_true_eq] at h1
  omega
 ·rintro ⟨h1,h2⟩
  -- the point from which it is got: az low az it can be
  refine ⟨(max s.lo ((m:Int)-g.hi)).toNat,by omega,?_,by omega,by omega⟩
  rw [hp _ (by omega)]
  simp only [cY,Bool.and_eq_true,decide_eq_true_eq]
  omega
theorem MR {g:Span} {p:Nat→Bool} (hp:∀ n,n<160→p n=false) (m:Nat):wU p g 160 m=false:=by
 rw [Bool.eq_false_iff]
 intro h
 simp only [wU,List.any_eq_true,List.mem_range,Bool.and_eq_true] at h
 obtain ⟨n,hn,h1,_⟩:=h
 rw [hp n hn] at h1
 cases h1
theorem D5 {s g:Span} (hs:s.lo≤s.hi) (h0:0≤s.lo) (h1:s.hi<160) (hg0:0≤g.lo) (hg:g.lo≤g.hi) {p:Nat→Bool} (hp:∀ n,n<160→p n=cY s n) (n:Nat):CN p g n=cY (back s g) n:=by
 rw [Bool.eq_iff_iff]
 simp only [CN,S3,List.any_eq_true,List.mem_range,Bool.and_eq_true,decide_eq_true_eq,cY]
 simp only [back]
 constructor
 ·rintro ⟨m,hm,q1,q2,q3⟩
  rw [hp m hm] at q1
  simp only [cY,Bool.and_eq_true,decide_eq_true_eq] at q1
  omega
 ·rintro ⟨q1,q2⟩
  refine ⟨(max s.lo ((n:Int)+g.lo)).toNat,by omega,?_,by omega,by omega⟩
  rw [hp _ (by omega)]
  simp only [cY,Bool.and_eq_true,decide_eq_true_eq]
  omega
theorem I5 {g:Span} {p:Nat→Bool} (hp:∀ n,n<160→p n=false) (n:Nat):CN p g n=false:=by
 rw [Bool.eq_false_iff]
 intro h
 simp only [CN,S3,List.any_eq_true,List.mem_range,Bool.and_eq_true] at h
 obtain ⟨m,hm,h1,_⟩:=h
 rw [hp m hm] at h1
 cases h1
def nJ (day:Int) (but:List Int):List Look→Nat→Span
 |[],_=>⟨0,1000⟩
 |x::xs,i=>if (x.day==day&&!but.contains (i:Int))=true then gQ (ofC x.colour) (nJ day but xs (i+1)) else nJ day but xs (i+1)
theorem tV (day:Int) (but:List Int) (n:Nat) (hn:n≤1000):∀ (l:List Look) (i:Nat),(∀ x∈l,1≤x.colour∧x.colour≤7)→DZ day but (colourOf n) l i=cY (nJ day but l i) n
 |[],i,_=>by
  rw [DZ,nJ,eq_comm]
  simp only [cY,Bool.and_eq_true,decide_eq_true_eq]
  omega
 |x::xs,i,h=>by
  have ih:=tV day but n hn xs (i+1) fun y hy=>h y (List.mem_cons_of_mem _ hy)
  have hx:=h x (by simp)
  simp only [DZ,nJ,ih]
  split
  ·rw [pO,MQ hx.1 hx.2 n hn]
  ·simp
theorem DH (day:Int) (but:List Int):∀ (l:List Look) (i:Nat),(∀ x∈l,1≤x.colour∧x.colour≤7)→0≤(nJ day but l i).lo∧(nJ day but l i).hi≤1000
 |[],i,_=>by simp [nJ]
 |x::xs,i,h=>by
  have ih:=DH day but xs (i+1) fun y hy=>h y (List.mem_cons_of_mem _ hy)
  have hx:=h x (by simp)
  simp only [nJ]
  split
  ·simp only [gQ,ofC];split<;>omega
  ·exact ih
def fwd (r:Rm) (but:List Int):Nat→Option Span
 |0=>ne (gQ r.start (nJ 0 but r.looks 0))
 |d+1=>(fwd r but d).bind fun s=>ne (gQ (plus s (jN r d)) (nJ ((d:Int)+1) but r.looks 0))
theorem nQ {r:Rm} (hv:Vd r) {d:Nat} (h:d<r.ran.length):0≤(jN r d).lo∧(jN r d).lo≤(jN r d).hi∧(jN r d).hi≤15:=by
 have hg:=hv.ran _ (List.getElem_mem h)
 have hg1:r.ran[d].toNat<r.settings.length:=by omega
 rw [zJ h hg1]
 exact hv.gains _ (List.getElem_mem hg1)
theorem p9 {r:Rm} (hv:Vd r) (but:List Int):∀ d,d≤r.ran.length→∀ s,fwd r but d=some s→0≤s.lo∧s.lo≤s.hi∧s.hi≤69+15*d
 |0,_,s,h=>by
  have hs:=hv.start
  have hb:=DH 0 but r.looks 0 fun x hx=>(hv.looks x hx).2.2
  simp only [fwd,ne] at h
  split at h
  ·simp only [Option.some.injEq] at h
   subst h
   simp only [gQ] at *
   omega
  ·cases h
 |d+1,hd,s,h=>by
  have hg:=nQ hv (show d<r.ran.length by omega)
  have hb:=DH ((d:Int)+1) but r.looks 0 fun x hx=>(hv.looks x hx).2.2
  simp only [fwd] at h
  cases hf:fwd r but d with
  |none=>rw [hf] at h;cases h
  |some s0 =>
   have ih:=p9 hv but d (by omega) s0 hf
   rw [hf] at h
   simp only [Option.bind_some,ne] at h
   split at h
   ·simp only [Option.some.injEq] at h
    subst h
    simp only [gQ,plus] at *
    omega
   ·cases h
def Is (o:Option Span) (p:Nat→Bool):Prop:=match o with|some s=>∀ n,n<160→p n=cY s n|none=>∀ n,n<160→p n=false
theorem TY {s:Span} {p:Nat→Bool} (h:∀ n,n<160→p n=cY s n):Is (ne s) p:=by
 unfold ne
 split
 ·exact h
 ·intro n hn
  rw [h n hn]
  simp only [cY]
  rw [Bool.eq_false_iff]
  simp
  omega
theorem GA {r:Rm} (hv:Vd r) (but:List Int):∀ d,d≤r.ran.length→Is (fwd r but d) (MW r but d)
 |0,_=>by
  refine TY fun n hn=>?_
  rw [pO]
  simp only [MW,OD]
  rw [tV 0 but n (by omega) r.looks 0 fun x hx=>(hv.looks x hx).2.2]
 |d+1,hd=>by
  have ih:=GA hv but d (by omega)
  have hg:=nQ hv (show d<r.ran.length by omega)
  simp only [fwd]
  cases hf:fwd r but d with
  |none =>
   rw [hf] at ih
   intro n hn
   simp only [MW]
   rw [MR ih];rfl
  |some s =>
   rw [hf] at ih
   have hb:=p9 hv but d (by omega) s hf
   have hrl:r.ran.length≤6:=by have:=hv.ranLen;have:=hv.days;omega
   refine TY fun n hn=>?_
   rw [pO]
   simp only [MW,OD]
   rw [G7 hb.1 hb.2.1 hg.1 hg.2.1 (by omega) ih,tV _ but n (by omega) r.looks 0 fun x hx=>(hv.looks x hx).2.2]
def bwd (r:Rm) (but:List Int):Nat→Option Span
 |0=>fwd r but r.ran.length
 |k+1=>(bwd r but k).bind fun b=>(fwd r but (r.ran.length-(k+1))).bind fun f=>ne (gQ f (back b (jN r (r.ran.length-(k+1)))))
theorem vT {r:Rm} (hv:Vd r) (but:List Int):∀ k,k≤r.ran.length→∀ s,bwd r but k=some s→0≤s.lo∧s.lo≤s.hi∧s.hi<160
 |0,_,s,h=>by
  have hrl:r.ran.length≤6:=by have:=hv.ranLen;have:=hv.days;omega
  have:=p9 hv but _ (Nat.le_refl _) s h
  omega
 |k+1,hk,s,h=>by
  have hrl:r.ran.length≤6:=by have:=hv.ranLen;have:=hv.days;omega
  simp only [bwd] at h
  cases hb:bwd r but k with
  |none=>rw [hb] at h;cases h
  |some b =>
   rw [hb] at h
   cases hf:fwd r but (r.ran.length-(k+1)) with
   |none=>rw [hf] at h;cases h
   |some f =>
    rw [hf] at h
    have h1:=p9 hv but _ (by omega) f hf
    simp only [Option.bind_some,ne] at h
    split at h
    ·simp only [Option.some.injEq] at h
     subst h
     simp only [gQ,back] at *
     omega
    ·cases h
theorem M8 {r:Rm} (hv:Vd r) (but:List Int):∀ k,k≤r.ran.length→Is (bwd r but k) (GX r but k)
 |0,_=>GA hv but _ (Nat.le_refl _)
 |k+1,hk=>by
  have ih:=M8 hv but k (by omega)
  have hF:=GA hv but (r.ran.length-(k+1)) (by omega)
  have hg:=nQ hv (show r.ran.length-(k+1)<r.ran.length by omega)
  simp only [bwd]
  cases hb:bwd r but k with
  |none =>
   rw [hb] at ih
   intro n hn
   simp only [GX]
   rw [I5 ih]
   simp
  |some b =>
   rw [hb] at ih
   have hbb:=vT hv but k (by omega) b hb
   cases hf:fwd r but (r.ran.length-(k+1)) with
   |none =>
    rw [hf] at hF
    intro n hn
    simp only [GX]
    rw [hF n hn];rfl
   |some f =>
    rw [hf] at hF
    refine TY fun n hn=>?_
    rw [pO]
    simp only [GX]
    rw [hF n hn,D5 hbb.2.1 hbb.1 hbb.2.2 hg.1 hg.2.1 ih]
theorem J1 {r:Rm} {but:List Int} {d:Nat}:∀ {e},e≤d→(fwd r but d).isSome=true→(fwd r but e).isSome=true:=by
  induction d with
  | zero => intro e he h; have : e = 0 := by omega
            subst this;exact h
  |succ d ih =>
    intro e he h
    by_cases hed:e=d+1
    · subst hed;exact h
    · refine ih (by omega) ?_
      simp only [fwd] at h
      cases hf:fwd r but d with
      |none=>rw [hf] at h;cases h
      |some s=>rfl
theorem nA {r:Rm} (hv:Vd r) {but:List Int} (h:(fwd r but r.ran.length).isSome=true):∀ k,k≤r.ran.length→∃ b f,bwd r but k=some b∧fwd r but (r.ran.length-k)=some f∧f.lo≤b.lo∧b.hi≤f.hi
 |0,_=>by
  obtain ⟨s,hs⟩:=Option.isSome_iff_exists.1 h
  exact ⟨s,s,hs,by simpa using hs,Int.le_refl _,Int.le_refl _⟩
 |k+1,hk=>by
  obtain ⟨b,f,h1,h2,h3,h4⟩:=nA hv h k (by omega)
  have hb:=vT hv but k (by omega) b h1
  have hg:=nQ hv (show r.ran.length-(k+1)<r.ran.length by omega)
  have e:r.ran.length-k=(r.ran.length-(k+1))+1:=by omega
  rw [e] at h2
  simp only [fwd] at h2
  cases hf:fwd r but (r.ran.length-(k+1)) with
  |none=>rw [hf] at h2;cases h2
  |some f0 =>
   rw [hf] at h2
   have hf0:=p9 hv but _ (show r.ran.length-(k+1)≤r.ran.length by omega) f0 hf
   simp only [Option.bind_some,ne] at h2
   split at h2
   ·simp only [Option.some.injEq] at h2
    subst h2
    simp only [gQ,plus] at h3 h4
    refine ⟨gQ f0 (back b (jN r (r.ran.length-(k+1)))),f0,?_,rfl,?_,?_⟩
    ·simp only [bwd,h1,hf,Option.bind_some,ne]
     rw [if_pos]
     simp only [gQ,back]
     omega
    ·simp only [gQ];omega
    ·simp only [gQ];omega
   ·cases h2
end Go.Am.Room.Ro
set_option maxRecDepth 4000
namespace Go.Am.Room.Ro
theorem N1 {o:Option Span} {p:Nat→Bool} (h:Is o p) (hb:∀ s,o=some s→0≤s.lo∧s.lo≤s.hi∧s.hi<160):mD p=o.getD ⟨160,-1⟩:=by
 cases o with
 |none=>exact I8 h
 |some s=>obtain ⟨h1,h2,h3⟩:=hb s rfl;exact EH h1 h2 h3 h
theorem k9 {r:Rm} (hv:Vd r) (but:List Int):bQ r but=(fwd r but r.ran.length).isSome:=by
 have h1:=N1 (M8 hv but 0 (by omega)) (vT hv but 0 (by omega))
 have h2:=vT hv but 0 (by omega)
 simp only [bwd,GX] at h1 h2
 simp only [bQ,y2,Nat.sub_self,GX]
 cases hf:fwd r but r.ran.length with
 |none=>rw [hf] at h1;rw [h1];rfl
 |some s =>
  rw [hf] at h1
  have:=h2 s hf
  rw [h1]
  simp
  omega
def gB (r:Rm) (d:Nat):Span:=(bwd r [] (r.ran.length-d)).getD ⟨160,-1⟩
theorem BE {r:Rm} (hv:Vd r) (d:Nat):mD (y2 r [] d)=gB r d :=
 N1 (M8 hv [] _ (by omega)) (vT hv [] _ (by omega))
theorem NR {r:Rm} (hv:Vd r) (hs:bQ r []=true) (d:Nat):0≤(gB r d).lo∧(gB r d).lo≤(gB r d).hi∧(gB r d).hi<160:=by
 rw [k9 hv] at hs
 obtain ⟨b,f,h1,_⟩:=nA hv hs (r.ran.length-d) (by omega)
 have:=vT hv [] _ (by omega) b h1
 rw [gB,h1]
 exact this
theorem vP {r:Rm} (hv:Vd r) (hs:bQ r []=true) (d:Nat):0≤(mD (y2 r [] d)).lo∧(mD (y2 r [] d)).lo≤(mD (y2 r [] d)).hi∧(mD (y2 r [] d)).hi<160:=by
 rw [BE hv];exact NR hv hs d
def colours (s:Span):Span:=⟨colourOf s.lo,colourOf s.hi⟩
def j2 (r:Rm) (day:Int):Span×Int:=if (cQ r day).2=0 then (colours (cQ r day).1,0) else (⟨0,0⟩,(cQ r day).2)
theorem J8 {r:Rm} {day:Int} (h:(cQ r day).2=0):Vd r∧bQ r []=true∧0≤day∧day≤r.ran.length∧(cQ r day).1=mD (y2 r [] day.toNat):=by
 unfold cQ at h ⊢
 split at h
 ·rename_i h0
  obtain ⟨h1,h2⟩:=dO h0
  obtain ⟨h3,h4,h5⟩:=eV h1
  rw [if_pos h0]
  exact ⟨h3,h2,h4,h5,rfl⟩
 ·rename_i h0;exact absurd h h0
def gainN (r:Rm) (n:Int):Span:=match r.settings[n.toNat]? with|some s=>s.gain|none=>⟨0,0⟩
theorem gainN_eq {r:Rm} {n:Int} (h:n.toNat<r.settings.length):gainN r n=r.settings[n.toNat].gain:=by simp [gainN,h]
def aW:Int→List Int→Int
 |_,[]=>0
 |b,x::xs=>(if 0≤b∧x≠b then 1 else 0)+aW x xs
theorem sL:∀ (l:List Int) (b:Int),0≤aW b l∧aW b l≤l.length
 |[],b=>by simp [aW]
 |x::xs,b=>by
  have:=sL xs x
  simp only [aW,List.length_cons]
  split<;>omega
def fZ (r:Rm):Int:=if r.ran.length=0 then -1 else (r.ran[r.ran.length-1]?).getD 0
def sumS (r:Rm):List Int→Span
 |[]=>⟨0,0⟩
 |n::ns=>plus (gainN r n) (sumS r ns)
theorem HJ {r:Rm} (hv:Vd r):∀ l:List Int,(∀ n∈l,0≤n∧n<r.settings.length)→0≤(sumS r l).lo∧(sumS r l).lo≤(sumS r l).hi∧(sumS r l).hi≤15*l.length
 |[],_=>by simp [sumS]
 |n::ns,h=>by
  have ih:=HJ hv ns fun m hm=>h m (List.mem_cons_of_mem _ hm)
  have hx:=h n (by simp)
  have h1:n.toNat<r.settings.length:=by omega
  have hg:=hv.gains _ (List.getElem_mem h1)
  simp only [sumS,plus,gainN_eq h1,List.length_cons]
  omega
def kA (r:Rm) (s:Span) (l:List Int) (c:Int):Bool:=colourOf (s.lo+(sumS r l).lo)==c&&colourOf (s.hi+(sumS r l).hi)==c
end Go.Am.Room.Ro
set_option maxRecDepth 4000
namespace Go.Am.Room.Ro
def dQ (m:Nat):Nat→List (List Int)
 |0=>[[]]
 |i+1=>(dQ m i).flatMap fun c=>(aP 0 m).map fun n=>c++[n]
theorem rS (m:Nat):∀ i c,c∈dQ m i→c.length=i∧∀ x∈c,0≤x∧x<m
 |0,c,h=>by simp [dQ] at h;subst h;simp
 |i+1,c,h=>by
  simp only [dQ,List.mem_flatMap,List.mem_map,cO] at h
  obtain ⟨d,h1,n,h2,rfl⟩:=h
  obtain ⟨q1,q2⟩:=rS m i d h1
  refine ⟨by simp [q1],fun x hx=>?_⟩
  rcases List.mem_append.1 hx with hx|hx
  ·exact q2 x hx
  ·simp at hx;omega
end Go.Am.Room.Ro
set_option maxRecDepth 4000
namespace Go.Am.Room.Ro
theorem CD (a b c:Span):plus (plus a b) c=plus a (plus b c):=by simp only [plus,Span.mk.injEq];omega
theorem MG {r:Rm} (hv:Vd r) (hs:bQ r []=true):0≤(gB r r.ran.length).lo∧(gB r r.ran.length).lo≤(gB r r.ran.length).hi∧(gB r r.ran.length).hi≤69+15*r.ran.length∧∀ n,n<160→y2 r [] r.ran.length n=cY (gB r r.ran.length) n:=by
 have hs':=hs
 rw [k9 hv] at hs'
 obtain ⟨s,h⟩:=Option.isSome_iff_exists.1 hs'
 have h1:=GA hv [] r.ran.length (Nat.le_refl _)
 rw [h] at h1
 have hb:=p9 hv [] _ (Nat.le_refl _) s h
 have e:gB r r.ran.length=s:=by simp [gB,bwd,h]
 rw [e]
 refine ⟨hb.1,hb.2.1,hb.2.2,?_⟩
 intro n hn
 simp only [y2,Nat.sub_self,GX]
 exact h1 n hn
def HD (r:Rm) (l:List Int):Int:=if (check r).2.2=0∧r.days-r.ran.length<l.length then 3 else (check r).2.2
def wZ (r:Rm):Int→List Int→Int
 |e,[]=>e
 |e,n::ns=>if e=0 then wZ r (if eD r n=true then 0 else 4) ns else e
theorem wF (r:Rm):∀ (l:List Int) (e:Int),wZ r e l=if e=0 then (if l.all (eD r)=true then 0 else 4) else e
 |[],e=>by
  simp only [wZ,List.all_nil,if_true]
  split<;>simp_all
 |n::ns,e=>by
  simp only [wZ]
  by_cases h:e=0
  ·simp only [h,if_true]
   rw [wF r ns]
   cases h2:eD r n<;>simp [h2]
  ·simp [h]
def kD (r:Rm) (l:List Int):Int:=wZ r (HD r l) l
theorem BR {r:Rm} {l:List Int} (h:kD r l=0):Vd r∧(l.length:Int)≤r.days-r.ran.length∧∀ n∈l,0≤n∧n<r.settings.length:=by
 rw [kD,wF] at h
 split at h
 ·rename_i h1
  unfold HD at h1
  split at h1
  ·omega
  ·rename_i h2
   split at h
   ·rename_i h3
    refine ⟨vd_of_check h1,?_,fun n hn=>?_⟩
    ·by_cases h4:r.days-r.ran.length<l.length
     ·exact absurd ⟨h1,h4⟩ h2
     ·omega
    ·have:=List.all_eq_true.1 h3 n hn
     rw [eD,gE] at this
     omega
   ·omega
 ·rename_i h1;exact absurd h h1
def oD (r:Rm) (l:List Int):Span×Int:=if aZ r (kD r l)=0 then (colours (plus (gB r r.ran.length) (sumS r l)),0) else (⟨0,0⟩,aZ r (kD r l))
end Go.Am.Room.Ro
set_option maxRecDepth 4000
namespace Go.Am.Room.Ro
def YD (o:Option (Nat×Int)) (n:Int):Bool:=match o with|none=>true|some x=>decide (n<x.2)
def uF (r:Rm) (s:Span) (b c:Int):List (List Int)→Nat→Option (Nat×Int)→Option (Nat×Int)
 |[],_,o=>o
 |l::ls,i,o=>uF r s b c ls (i+1) (if aW b l≤r.opens∧YD o (aW b l)=true∧kA r s l c=true then some (i,aW b l) else o)
def g0 (r:Rm) (s:Span) (b:Int) (many:Nat) (c:Int):Option (List Int×Int) :=
 (uF r s b c (dQ r.settings.length many) 0 none).map fun x=>(((dQ r.settings.length many)[x.1]?).getD [],x.2)
end Go.Am.Room.Ro
set_option maxRecDepth 4000
namespace Go.Am.Room.Ro
def kC (e c:Int):Int:=if e=0 then (if gA c=true then 0 else 7) else e
theorem v4 {e c:Int} (h:kC e c=0):e=0∧1≤c∧c≤7:=by
 unfold kC at h
 split at h
 ·rename_i h0
  split at h
  ·rename_i h1
   rw [gA,gE] at h1
   exact ⟨h0,h1⟩
  ·omega
 ·rename_i h0;exact absurd h h0
def encLNE (x:List Int×Int×Int):AV:=.tuple [ints x.1,.int .i64 x.2.1,.int .i64 x.2.2]
def iJ (x:List Int×Int):AV:=.tuple [ints x.1,.int .i64 x.2]
def nX (r:Rm) (day c:Int):Int:=aZ r (kC (dA r day r.ran.length r.days) c)
def lS (r:Rm) (day c:Int):List Int×Int×Int :=
 if nX r day c=0 then (match g0 r (gB r r.ran.length) (fZ r) (day-r.ran.length).toNat c with|none=>([],0,9)|some x=>(x.1,x.2,0)) else ([],0,nX r day c)
end Go.Am.Room.Ro
set_option maxRecDepth 4000
namespace Go.Am.Room.Ro
def mV (r:Rm) (day:Int):Int:=aZ r (dA r day r.ran.length r.days)
def rJ (r:Rm) (day c:Int):Bool:=(g0 r (gB r r.ran.length) (fZ r) (day-r.ran.length).toNat c).isSome
def nT (r:Rm) (day:Int):List Int×Int:=if mV r day=0 then ((aP 1 7).filter (rJ r day),0) else ([],mV r day)
def pN (r:Rm) (day c:Int):Int:=kC (dA r day 0 r.days) c
def ER (r:Rm) (day c d:Int):Bool:=(g0 r r.start (-1) (day-d).toNat c).isSome
def tK (r:Rm) (day c:Int):List Int×Int:=if pN r day c=0 then ((aP 0 (day+1).toNat).filter (ER r day c),0) else ([],pN r day c)
def eW (r:Rm):Nat→Nat→List Int
 |0,_=>((bE r.looks.length r.looks.length)[0]?).getD []
 |k+1,m=>match (bE r.looks.length m).find? (bQ r) with
  |some l=>l
  |none=>eW r k (m+1)
def lB (r:Rm):List Int×Int:=if (check r).2.2=0 then (eW r r.looks.length 0,0) else ([],(check r).2.2)
end Go.Am.Room.Ro
set_option maxRecDepth 4000
namespace Go.Am.Room.Ro
def mP:=And.intro @gT (And.intro @dY (And.intro @eC (And.intro @dS (And.intro @dR (And.intro @Nat.mul_one (And.intro @Int.toNat_natCast (And.intro @encRoom_eq (And.intro @roomCells_eq (And.intro @encSetting_eq (And.intro @encLook_eq (And.intro @aC (@jI))))))))))))
theorem aBM {n:Int} (h:0≤n):n.tdiv 10=n/10:=Int.tdiv_eq_ediv_of_nonneg h
theorem rR (n:Int) (h0:0≤n) (h1:n<9223372036854775808):cN T 355 [.int .i64 n] (.int .i64 (colourOf n)):=by
 refine aQ (af:=a355) rfl (by simp [a355]) dd ?_
 have hw:IntKind.i64.wrap (n.tdiv 10)=n/10:=by rw [aBM h0,aX ⟨by omega,by omega⟩]
 have hw2:IntKind.i64.wrap (1+n/10)=1+n/10:=aX ⟨by omega,by omega⟩
 (repeat (first|simp only [↓QA,QB,seval,mP,a355,ZX _ _ _ (show (10:Int)≠0 by decide),hw,hw2,colourOf]|refine rd0 rfl ?_))
theorem kO (s:Span) (h0:0≤s.lo) (h1:s.lo<9223372036854775808) (h2:0≤s.hi) (h3:s.hi<9223372036854775808):cN T 225 [bC s] (bC (colours s)):=by
 refine aQ (af:=a225) rfl (by simp [a225]) dd ?_
 (repeat (first|simp only [↓QA,QB,seval,mP,a225]|refine rd0 rfl ?_))
 ((first|refine aE (rR _ h0 h1) rfl dd ?_|refine aG (rR _ h0 h1) rfl dd ?_);(repeat (first|simp only [↓QA,QB,seval,mP]|refine rd0 rfl ?_)))
 ((first|refine aE (rR _ h2 h3) rfl dd ?_|refine aG (rR _ h2 h3) rfl dd ?_);(repeat (first|simp only [↓QA,QB,seval,mP,colours]|refine rd0 rfl ?_)))
theorem mZ (a b:Span) (h0:-9223372036854775808<a.lo+b.lo) (h1:a.lo+b.lo<9223372036854775808) (h2:-9223372036854775808<a.hi+b.hi) (h3:a.hi+b.hi<9223372036854775808):cN T 228 [bC a,bC b] (bC (plus a b)):=by
 refine aQ (af:=a228) rfl (by simp [a228]) dd ?_
 have w1:IntKind.i64.wrap (a.lo+b.lo)=a.lo+b.lo:=aX ⟨by omega,by omega⟩
 have w2:IntKind.i64.wrap (a.hi+b.hi)=a.hi+b.hi:=aX ⟨by omega,by omega⟩
 (repeat (first|simp only [↓QA,QB,seval,mP,a228,w1,w2,plus]|refine rd0 rfl ?_))
theorem DO (a b:Span):cN T 367 [bC a,bC b] (bC (gQ a b)):=by
 refine aQ (af:=a367) rfl (by simp [a367]) dd ?_
 (repeat (first|simp only [↓QA,QB,seval,mP,a367,gQ]|refine rd0 rfl ?_))
theorem aAO (c:Int) (h1:1≤c) (h2:c≤7):cN T 368 [.int .i64 c] (bC (ofC c)):=by
 refine aQ (af:=a368) rfl (by simp [a368]) dd ?_
 have w1:IntKind.i64.wrap (c-1)=c-1:=aX ⟨by omega,by omega⟩
 have w2:IntKind.i64.wrap ((c-1)*10)=(c-1)*10:=aX ⟨by omega,by omega⟩
 have w3:IntKind.i64.wrap (c*10)=c*10:=aX ⟨by omega,by omega⟩
 have w4:IntKind.i64.wrap (c*10-1)=c*10-1:=aX ⟨by omega,by omega⟩
 (repeat (first|simp only [↓QA,QB,seval,mP,a368,w1,w2,w3,w4]|refine rd0 rfl ?_))
 (repeat (first|simp only [↓QA,QB,seval,mP,w1,w2,w3,w4]|refine rd0 rfl ?_))
 cases h:(c==7)
 ·have h':c≠7:=by simpa using h
  (repeat (first|simp only [↓QA,QB,seval,mP,h]|refine rd0 rfl ?_))
  simp [ofC,h']
 ·have h':c=7:=by simpa using h
  (repeat (first|simp only [↓QA,QB,seval,mP,h]|refine rd0 rfl ?_))
  simp [ofC,h']
def cM (ps:Nat→Span):List AV:=[.int .i64 (ps 0).lo,.int .i64 (ps 0).hi,.int .i64 (ps 1).lo,.int .i64 (ps 1).hi,.int .i64 (ps 2).lo,.int .i64 (ps 2).hi,.int .i64 (ps 3).lo,.int .i64 (ps 3).hi,.int .i64 (ps 4).lo,.int .i64 (ps 4).hi,.int .i64 (ps 5).lo,.int .i64 (ps 5).hi,.int .i64 (ps 6).lo,.int .i64 (ps 6).hi]
def rb (r:Rm) (ps:Nat→Span) (m:Nat):List AV:=aI r++(cM ps++[.map m])
def MY (ps:Nat→Span) (d:Nat) (s:Span):Nat→Span:=fun i=>if i=d then s else ps i
theorem hJ (r:Rm) (ps:Nat→Span) (m:Nat):(rb r ps m).length=22:=by simp [rb,aI,cM]
theorem XW (ps:Nat→Span):(cM ps).length=14:=rfl
theorem T5 (r:Rm) (ps:Nat→Span) (m:Nat):((rb r ps m).drop 7).take 14=cM ps:=by simp [rb,aI,cM]
theorem aD5 (r:Rm) (ps:Nat→Span) (m:Nat):(rb r ps m)[0]? = some (.int .i64 r.days):=by simp [rb,aI]
theorem aAN (r:Rm) (ps:Nat→Span) (m:Nat):(rb r ps m)[3]? = some (.lit (r.settings.map encSetting) false none):=by simp [rb,aI]
theorem aCJ (r:Rm) (ps:Nat→Span) (m:Nat):(rb r ps m)[4]? = some (.int .i64 r.opens):=by simp [rb,aI]
theorem S8 (r:Rm) (ps:Nat→Span) (m:Nat):(rb r ps m)[5]? = some (ints r.ran):=by simp [rb,aI]
theorem ZY (r:Rm) (ps:Nat→Span) (m:Nat):(rb r ps m)[21]? = some (.map m):=by simp [rb,aI,cM]
theorem BL {P:Nat→Prop} (h0:P 0) (h1:P 1) (h2:P 2) (h3:P 3) (h4:P 4) (h5:P 5) (h6:P 6):∀ d,d<7→P d
 |0,_=>h0|1,_=>h1|2,_=>h2|3,_=>h3|4,_=>h4|5,_=>h5|6,_=>h6
 |d+7,h=>by omega
theorem FY (r:Rm) (ps:Nat→Span) (m:Nat):∀ d,d<7→((rb r ps m).drop (7+d*2)).take 2=[.int .i64 (ps d).lo,.int .i64 (ps d).hi]:=by
 refine BL ?_ ?_ ?_ ?_ ?_ ?_ ?_<;>simp [rb,aI,cM]
theorem aE0 (r:Rm) (ps:Nat→Span) (m:Nat):∀ d,d<7→(rb r ps m)[7+d*2]? = some (.int .i64 (ps d).lo):=by
 refine BL ?_ ?_ ?_ ?_ ?_ ?_ ?_<;>simp [rb,aI,cM]
theorem aFM (r:Rm) (ps:Nat→Span) (m:Nat):∀ d,d<7→(rb r ps m)[7+d*2+1]? = some (.int .i64 (ps d).hi):=by
 refine BL ?_ ?_ ?_ ?_ ?_ ?_ ?_<;>simp [rb,aI,cM]
theorem S7 (r:Rm) (ps:Nat→Span) (m:Nat) (s:Span):∀ d,d<7→(rb r ps m).take (7+d*2)++[.int .i64 s.lo,.int .i64 s.hi]++(rb r ps m).drop (7+d*2+2)=rb r (MY ps d s) m:=by
 refine BL ?_ ?_ ?_ ?_ ?_ ?_ ?_<;>simp [rb,aI,cM,MY]
theorem I0 (r:Rm) (ps:Nat→Span) {m k:Nat} (h:m<k):okVs k (rb r ps m):=by
 have:=okVs_up (m:=k) _ (y7 r).1
 refine s9 this ?_
 simp [cM,okVs,okV,h]
def nW (ps qs:Nat→Span):Bool:=(List.range 7).all fun d=>decide (ps d=qs d)
theorem tE (ps qs:Nat→Span):nW ps qs=true↔∀ d,d<7→ps d=qs d:=by simp [nW]
theorem aCC (ps qs:Nat→Span):bK [.i,.i,.i,.i,.i,.i,.i,.i,.i,.i,.i,.i,.i,.i] (cM ps) (cM qs)=some (nW ps qs):=by
 have key:∀ b:Bool,b=nW ps qs→some b=some (nW ps qs):=fun b h=>by rw [h]
 simp only [cM,GG,K6,N2,GU]
 refine key _ ?_
 rw [Bool.eq_iff_iff]
 rw [tE]
 simp only [Bool.and_eq_true,beq_iff_eq]
 constructor
 ·intro h
  have e:∀ a b:Span,a.lo=b.lo→a.hi=b.hi→a=b:=fun a b h1 h2=>by cases a;cases b;simp_all
  refine BL ?_ ?_ ?_ ?_ ?_ ?_ ?_<;>(refine e _ _ ?_ ?_<;>simp [h])
 ·intro h
  rw [h 0 (by omega),h 1 (by omega),h 2 (by omega),h 3 (by omega),h 4 (by omega),h 5 (by omega),h 6 (by omega)]
  simp
end Go.Am.Room.Ro
