/- A part of the proof of TramWays: an abstract machine, or what functions come to on it. -/
import Derived.Test.YtnjlkiflililkaaTramWaysQ3
set_option linter.unusedVariables false
set_option linter.unusedSimpArgs false
set_option linter.defProp false
namespace Go.Am.Room
theorem xS:∀ (l:List Int) (s:Span),s.lo≤s.hi→(l.foldl j6 s).lo≤s.lo∧s.hi≤(l.foldl j6 s).hi∧(∀ x∈l,(l.foldl j6 s).lo≤x∧x≤(l.foldl j6 s).hi)∧((l.foldl j6 s).lo=s.lo∨(l.foldl j6 s).lo∈l)∧((l.foldl j6 s).hi=s.hi∨(l.foldl j6 s).hi∈l)
 |[],s,h=>⟨Int.le_refl _,Int.le_refl _,fun x hx=>by simp at hx,.inl rfl,.inl rfl⟩
 |y::l,s,h=>by
  have hj:(j6 s y).lo≤(j6 s y).hi:=by simp only [j6];omega
  obtain ⟨a,b,c,d,e⟩:=xS l (j6 s y) hj
  simp only [List.foldl_cons]
  have h1:(j6 s y).lo≤s.lo∧(j6 s y).lo≤y∧((j6 s y).lo=s.lo∨(j6 s y).lo=y):=by simp only [j6];omega
  have h2:s.hi≤(j6 s y).hi∧y≤(j6 s y).hi∧((j6 s y).hi=s.hi∨(j6 s y).hi=y):=by simp only [j6];omega
  refine ⟨by omega,by omega,fun x hx=>?_,?_,?_⟩
  ·rcases List.mem_cons.1 hx with rfl|hx
   ·omega
   ·exact c x hx
  ·rcases d with d|d
   ·rcases h1.2.2 with h|h
    ·left;omega
    ·right;rw [d,h];simp
   ·right;simp [d]
  ·rcases e with e|e
   ·rcases h2.2.2 with h|h
    ·left;omega
    ·right;rw [e,h];simp
   ·right;simp [e]
theorem oC {l:List Int} (h:l≠[]):(fL l).lo∈l∧(fL l).hi∈l∧∀ x∈l,(fL l).lo≤x∧x≤(fL l).hi:=by
 cases l with
 |nil=>exact absurd rfl h
 |cons x l =>
  obtain ⟨a,b,c,d,e⟩:=xS l ⟨x,x⟩ (Int.le_refl _)
  simp only [fL]
  refine ⟨?_,?_,fun y hy=>?_⟩
  ·rcases d with d|d
   ·rw [d];simp
   ·simp [d]
  ·rcases e with e|e
   ·rw [e];simp
   ·simp [e]
  ·rcases List.mem_cons.1 hy with rfl|hy
   ·exact ⟨a,b⟩
   ·exact c y hy
theorem AY {l k:List Int} (hl:l≠[]) (h:∀ x∈l,x∈k):(fL k).lo≤(fL l).lo∧(fL l).hi≤(fL k).hi:=by
 have hk:k≠[]:=by
  intro e;subst e
  exact absurd (h _ (oC hl).1) (by simp)
 have a:=oC hl
 have b:=oC hk
 exact ⟨(b.2.2 _ (h _ a.1)).1,(b.2.2 _ (h _ a.2.1)).2⟩
theorem O7 {l k:List Int} (h:∀ x,x∈l↔x∈k):fL l=fL k:=by
 by_cases hl:l=[]
 ·subst hl
  have:k=[]:=by
   cases k with
   |nil=>rfl
   |cons y k=>exact absurd ((h y).2 (by simp)) (by simp)
  rw [this]
 ·have hk:k≠[]:=by
   intro e;subst e
   exact absurd ((h _).1 (oC hl).1) (by simp)
  have a:=AY hl fun x hx=>(h x).1 hx
  have b:=AY hk fun x hx=>(h x).2 hx
  obtain ⟨p,q⟩:(fL l).lo=(fL k).lo∧(fL l).hi=(fL k).hi:=⟨by omega,by omega⟩
  generalize fL l=x at *
  generalize fL k=y at *
  cases x;cases y;simp only at p q;rw [p,q]
theorem xI {α:Type} {p:α→Bool} {l:List α}:(l.filter p).length=l.length↔∀ x∈l,p x=true:=by
 rw [List.length_filter_eq_length_iff]
theorem qG {α:Type} {p:α→Bool} {l:List α}:eA (l.filter p).length l.length=1↔∀ x∈l,p x=true:=by
 rw [←xI]
 unfold eA
 split
 ·rename_i h;simp [h]
 ·rename_i h
  split
  ·simp [h]
  ·simp [h]
theorem p9 {α:Type} {p:α→Bool} {l:List α}:eA (l.filter p).length l.length=2↔l≠[]∧∀ x∈l,p x=false:=by
 unfold eA
 split
 ·rename_i h
  simp only [show ¬(1:Int)=2 by omega,false_iff]
  rintro ⟨h1,h2⟩
  rw [xI] at h
  cases l with
  |nil=>exact h1 rfl
  |cons x l =>
   have a:=h x (by simp)
   have b:=h2 x (by simp)
   rw [a] at b;cases b
 ·rename_i h
  split
  ·rename_i h0
   simp only [true_iff]
   refine ⟨fun e=>?_,fun x hx=>?_⟩
   ·subst e;simp at h
   ·have:=List.eq_nil_of_length_eq_zero h0
    rw [List.filter_eq_nil_iff] at this
    simpa using this x hx
  ·rename_i h0
   simp only [show ¬(0:Int)=2 by omega,false_iff]
   rintro ⟨h1,h2⟩
   apply h0
   rw [List.length_eq_zero_iff,List.filter_eq_nil_iff]
   intro x hx
   simp [h2 x hx]
theorem nI (a b:Nat):eA a b=0∨eA a b=1∨eA a b=2:=by
 unfold eA;split
 ·simp
 ·split<;>simp
theorem GE {α β:Type} {p:α→Bool} {q:β→Bool} {l:List α} {k:List β} (h1:∀ x∈l,∃ y∈k,q y=p x) (h2:∀ y∈k,∃ x∈l,p x=q y):eA (l.filter p).length l.length=eA (k.filter q).length k.length:=by
 have a:eA (l.filter p).length l.length=1↔eA (k.filter q).length k.length=1:=by
  rw [qG,qG]
  constructor
  ·intro h y hy;obtain ⟨x,hx,e⟩:=h2 y hy;rw [←e];exact h x hx
  ·intro h x hx;obtain ⟨y,hy,e⟩:=h1 x hx;rw [←e];exact h y hy
 have b:eA (l.filter p).length l.length=2↔eA (k.filter q).length k.length=2:=by
  rw [p9,p9]
  constructor
  ·rintro ⟨hn,h⟩
   refine ⟨fun e=>?_,fun y hy=>?_⟩
   ·subst e
    obtain ⟨x,hx⟩:=List.exists_mem_of_ne_nil l hn
    obtain ⟨y,hy,_⟩:=h1 x hx
    simp at hy
   ·obtain ⟨x,hx,e⟩:=h2 y hy;rw [←e];exact h x hx
  ·rintro ⟨hn,h⟩
   refine ⟨fun e=>?_,fun x hx=>?_⟩
   ·subst e
    obtain ⟨y,hy⟩:=List.exists_mem_of_ne_nil k hn
    obtain ⟨x,hx,_⟩:=h2 y hy
    simp at hx
   ·obtain ⟨y,hy,e⟩:=h1 x hx;rw [←e];exact h y hy
 rcases nI (l.filter p).length l.length with h|h|h<;>rcases nI (k.filter q).length k.length with h'|h'|h'<;>simp_all
def chP (r:Rail):List Int:=(if r.shut=0 then [] else [0])++(if r.shut=1 then [] else yF r.mins)
def eW:List Rail→List Int→List (List Int)
 |[],l=>[l]
 |r::rs,l=>(chP r).flatMap fun n=>eW rs (l++[n])
def rlI (c:List Int) (r:Int):Int:=(c[r.toNat]?).getD 0
def pZ (s:State):List Int:=(s.closed.zip s.mins).map fun x=>if x.1=true then 0 else x.2
theorem GB {s:State} (h:s.closed.length=s.mins.length):eff s=rlI (pZ s):=by
 funext r
 simp only [eff,rlI,pZ,List.getElem?_map,List.getElem?_zip_eq_some,List.zip]
 obtain ⟨i,hi⟩:∃ i,r.toNat=i:=⟨_,rfl⟩
 rw [hi]
 by_cases hl:i<s.closed.length
 ·have hm:i<s.mins.length:=by omega
  have e:(List.zipWith Prod.mk s.closed s.mins)[i]? = some (s.closed[i],s.mins[i]):=by
   rw [List.getElem?_zipWith];simp [hl,hm]
  rw [e]
  simp [hl,hm]
 ·have hm:¬i<s.mins.length:=by omega
  have e:(List.zipWith Prod.mk s.closed s.mins)[i]? = none:=by
   rw [List.getElem?_zipWith];simp [show s.closed.length≤i by omega]
  rw [e]
  simp [show s.closed.length≤i by omega,show s.mins.length≤i by omega]
theorem oO {s:Span} {x:Int}:x∈yF s↔s.lo≤x∧x≤s.hi:=by
 rw [yF,bU];omega
theorem yT {l:List Int} {x:Int} {k:Nat} (h:l.length=k):((l++[x])[k]?).getD 0=x:=by subst h;simp
def QF (rs:List Rail) (k:Nat) (c:List Int):Prop:=c.length=k∧∀ i (h:i<k) (hr:i<rs.length),(c[i]?).getD 0∈chP rs[i]
theorem u4 (s:State) (h:s.closed.length=s.mins.length) (c:Bool) (m:Int):pZ ⟨s.closed++[c],s.mins++[m]⟩=pZ s++[if c=true then 0 else m]:=by
 simp only [pZ,List.zip]
 rw [List.zipWith_append h]
 simp
theorem yZ {rs:List Rail}:∀ k,k≤rs.length→∀ s∈yB rs k,s.closed.length=k∧s.mins.length=k∧QF rs k (pZ s)
 |0,_,s,h=>by
  simp [yB] at h
  subst h
  exact ⟨rfl,rfl,rfl,fun i h=>by omega⟩
 |k+1,hk,s,h=>by
  have hk1:k<rs.length:=by omega
  simp only [yB,List.getElem?_eq_getElem hk1,List.mem_flatMap,P3,List.mem_map,List.mem_filter] at h
  obtain ⟨s0,hs0,m,hm,c,⟨_,hc⟩,rfl⟩:=h
  obtain ⟨h1,h2,h3,h4⟩:=yZ k (by omega) s0 hs0
  rw [u4 s0 (by omega)]
  refine ⟨by simp [h1],by simp [h2],by simp [h3],fun i hi hr=>?_⟩
  by_cases e:i=k
  ·subst e
   rw [yT h3]
   simp only [chP,List.mem_append]
   simp only [C2,Bool.not_eq_true',Bool.or_eq_false_iff,Bool.and_eq_false_iff,decide_eq_false_iff_not] at hc
   cases c
   ·simp only [Bool.not_false,false_or,Bool.true_eq_false] at hc
    simp only [Bool.false_eq_true,if_false]
    exact .inr (by rw [if_neg hc.2];exact hm)
   ·simp only [Bool.true_eq_false,false_or] at hc
    simp only [if_true]
    exact .inl (by rw [if_neg hc.1];simp)
  ·rw [List.getElem?_append_left (by omega)]
   exact h4 i (by omega) hr
theorem MM {rs:List Rail} (hr:∀ r∈rs,r.mins.lo≤r.mins.hi∧1≤r.mins.lo):∀ k,k≤rs.length→∀ c,QF rs k c→∃ s∈yB rs k,pZ s=c
 |0,_,c,h=>⟨⟨[],[]⟩,by simp [yB],by have:=h.1;rw [List.length_eq_zero_iff.1 this];rfl⟩
 |k+1,hk,c,h=>by
  have hk1:k<rs.length:=by omega
  obtain ⟨hl,hc⟩:=h
  obtain ⟨d,x,rfl⟩:∃ d x,c=d++[x]:=by
   rcases List.eq_nil_or_concat c with rfl|⟨d,x,rfl⟩
   ·simp at hl
   ·exact ⟨d,x,by simp⟩
  have hd:d.length=k:=by simpa using hl
  obtain ⟨s,hs,he⟩:=MM hr k (by omega) d ⟨hd,fun i hi hri=>by
   have:=hc i (by omega) hri
   rwa [List.getElem?_append_left (by omega)] at this⟩
  have hsl:=yZ k (by omega) s hs
  have hx:=hc k (by omega) hk1
  rw [yT hd] at hx
  simp only [chP,List.mem_append] at hx
  have hrk:=hr _ (List.getElem_mem hk1)
  simp only [yB,List.getElem?_eq_getElem hk1]
  rcases hx with hx|hx
  ·split at hx
   ·cases hx
   ·rename_i h0
    simp only [List.mem_singleton] at hx
    subst hx
    refine ⟨⟨s.closed++[true],s.mins++[rs[k].mins.lo]⟩,?_,by rw [u4 s (by omega),he];simp⟩
    simp only [List.mem_flatMap,P3,List.mem_map,List.mem_filter]
    exact ⟨s,hs,rs[k].mins.lo,oO.2 ⟨Int.le_refl _,hrk.1⟩,true,⟨by simp,by simp [C2,h0]⟩,rfl⟩
  ·split at hx
   ·cases hx
   ·rename_i h1
    refine ⟨⟨s.closed++[false],s.mins++[x]⟩,?_,by rw [u4 s (by omega),he];simp⟩
    simp only [List.mem_flatMap,P3,List.mem_map,List.mem_filter]
    exact ⟨s,hs,x,hx,false,⟨by simp,by simp [C2,h1]⟩,rfl⟩
theorem iZ:∀ (rs:List Rail) (l c:List Int),c∈eW rs l↔∃ t,c=l++t∧QF rs rs.length t
 |[],l,c=>by
  simp only [eW,List.mem_singleton]
  constructor
  ·rintro rfl;exact ⟨[],by simp,rfl,fun i h=>by simp at h⟩
  ·rintro ⟨t,rfl,ht,_⟩
   simp at ht
   simp [ht]
 |r::rs,l,c=>by
  simp only [eW,List.mem_flatMap]
  constructor
  ·rintro ⟨n,hn,hc⟩
   obtain ⟨t,rfl,ht,hx⟩:=(iZ rs _ c).1 hc
   refine ⟨n::t,by simp,by simp [ht],fun i h hr=>?_⟩
   cases i with
   |zero=>exact hn
   |succ i=>exact hx i (by simpa using h) (by simpa using hr)
  ·rintro ⟨t,rfl,ht,hx⟩
   cases t with
   |nil=>simp at ht
   |cons n t =>
    refine ⟨n,hx 0 (by simp) (by simp),(iZ rs _ _).2 ⟨t,by simp,by simpa using ht,fun i h hr=>?_⟩⟩
    exact hx (i+1) (by simpa using h) (by simpa using hr)
theorem A7 {rs:List Rail} {l c:List Int} (h:c∈eW rs l):c.length=l.length+rs.length:=by
 obtain ⟨t,rfl,ht,_⟩:=(iZ rs l c).1 h
 simp [ht]
theorem Y3 {r:Rail} (h:1≤r.mins.lo):(chP r).Pairwise (·≠·):=by
 have hn:∀ (n:Nat) (a:Int),(aO a n).Pairwise (·≠·):=by
  intro n
  induction n with
  |zero=>intro a;exact List.Pairwise.nil
  |succ n ih =>
   intro a
   simp only [aO]
   refine List.Pairwise.cons (fun x hx=>?_) (ih (a+1))
   have:=(bU _ _ _).1 hx
   omega
 unfold chP
 rw [List.pairwise_append]
 refine ⟨by split<;>simp,by split;exact List.Pairwise.nil;exact hn _ _,fun a ha b hb=>?_⟩
 split at ha
 ·cases ha
 ·simp only [List.mem_singleton] at ha
  subst ha
  split at hb
  ·cases hb
  ·have:=oO.1 hb;omega
theorem DN:∀ (rs:List Rail) (l:List Int),(∀ r∈rs,1≤r.mins.lo)→(eW rs l).Pairwise (·≠·)
 |[],l,_=>by simp [eW]
 |r::rs,l,h=>by
  simp only [eW]
  rw [List.pairwise_flatMap]
  refine ⟨fun n _=>DN rs _ (fun x hx=>h x (by simp [hx])),List.Pairwise.imp ?_ (Y3 (h r (by simp)))⟩
  intro n m hnm x hx y hy e
  obtain ⟨t,rfl,_⟩:=(iZ _ _ _).1 hx
  obtain ⟨u,hu,_⟩:=(iZ _ _ _).1 hy
  have e2:=e.trans hu
  rw [List.append_assoc,List.append_assoc] at e2
  have:=List.append_cancel_left e2
  simp at this
  exact hnm this.1
def cV (v:Net) (c:List Int):List Int:=iJ v (lR v) (rlI c)
def o4 (v:Net) (but c:List Int):Bool:=mL v but (cV v c)
def TL (v:Net) (but:List Int):List (List Int):=(eW v.rails []).filter (o4 v but)
theorem nK {s:State} (h:s.closed.length=s.mins.length) (v:Net):uO v s=cV v (pZ s):=by rw [uO,cV,GB h]
theorem n9 {v:Net} {s:State} (h:s∈t8 v):s.closed.length=v.rails.length∧s.mins.length=v.rails.length:=by
 have:=yZ v.rails.length (Nat.le_refl _) s h
 exact ⟨this.1,this.2.1⟩
theorem EX {v:Net} {s:State} (h:s∈t8 v):pZ s∈eW v.rails []:=by
 have:=yZ v.rails.length (Nat.le_refl _) s h
 exact (iZ _ _ _).2 ⟨pZ s,by simp,this.2.2⟩
theorem G6 {v:Net} (hv:Vd v) {c:List Int} (h:c∈eW v.rails []):∃ s∈t8 v,pZ s=c:=by
 obtain ⟨t,e,ht⟩:=(iZ _ _ _).1 h
 rw [List.nil_append] at e
 subst e
 exact MM (fun r hr=>by have:=(hv.ra r hr).mins;omega) v.rails.length (Nat.le_refl _) c ht
theorem tK {v:Net} {bl:List Int} {s:State} (h:s∈bY v bl):pZ s∈TL v bl:=by
 obtain ⟨h1,h2⟩:=List.mem_filter.1 h
 have hl:=n9 h1
 refine List.mem_filter.2 ⟨EX h1,?_⟩
 rw [o4,←nK (by omega)]
 exact h2
theorem pO {v:Net} (hv:Vd v) {bl:List Int} {c:List Int} (h:c∈TL v bl):∃ s∈bY v bl,pZ s=c:=by
 obtain ⟨h1,h2⟩:=List.mem_filter.1 h
 obtain ⟨s,hs,he⟩:=G6 hv h1
 have hl:=n9 hs
 refine ⟨s,List.mem_filter.2 ⟨hs,?_⟩,he⟩
 rw [nK (by omega),he]
 exact h2
theorem rB {v:Net} {bl:List Int} {s:State} (h:s∈bY v bl):s.closed.length=v.rails.length∧s.mins.length=v.rails.length:=n9 (List.mem_filter.1 h).1
theorem I7 {v:Net} (hv:Vd v) (bl:List Int):(TL v bl).isEmpty=(bY v bl).isEmpty:=by
 rw [Bool.eq_iff_iff,List.isEmpty_iff,List.isEmpty_iff,List.eq_nil_iff_forall_not_mem,List.eq_nil_iff_forall_not_mem]
 constructor
 ·intro h s hs;exact h _ (tK hs)
 ·intro h c hc
  obtain ⟨s,hs,_⟩:=pO hv hc
  exact h s hs
theorem HR {v:Net} (hv:Vd v) (bl:List Int) (p:State→Bool) (q:List Int→Bool) (h:∀ s∈bY v bl,p s=q (pZ s)):(bY v bl).all p=(TL v bl).all q:=by
 rw [Bool.eq_iff_iff,List.all_eq_true,List.all_eq_true]
 constructor
 ·intro a c hc
  obtain ⟨s,hs,rfl⟩:=pO hv hc
  rw [←h s hs]
  exact a s hs
 ·intro a s hs
  rw [h s hs]
  exact a _ (tK hs)
theorem L9 {v:Net} (hv:Vd v) (bl:List Int) (p:State→Bool) (q:List Int→Bool) (h:∀ s∈bY v bl,p s=q (pZ s)):(bY v bl).any p=(TL v bl).any q:=by
 rw [Bool.eq_iff_iff,List.any_eq_true,List.any_eq_true]
 constructor
 ·rintro ⟨s,hs,a⟩
  exact ⟨_,tK hs,by rw [←h s hs];exact a⟩
 ·rintro ⟨c,hc,a⟩
  obtain ⟨s,hs,rfl⟩:=pO hv hc
  exact ⟨s,hs,by rw [h s hs];exact a⟩
def jO (v:Net):Nat→List (List Int)→List (List (List Int))
 |0,p=>[p]
 |k+1,p=>(cF v (fH v p.length) []).flatMap fun w=>jO v k (p++[w])
theorem BG (v:Net):∀ k,∀ p∈lF v k,p.length=k
 |0,p,h=>by simp [lF] at h;simp [h]
 |k+1,p,h=>by
  simp only [lF,List.mem_flatMap,List.mem_map] at h
  obtain ⟨a,ha,w,_,rfl⟩:=h
  simp [BG v k a ha]
theorem jC {α β:Type} {f g:α→List β}:∀ {l:List α},(∀ x∈l,f x=g x)→l.flatMap f=l.flatMap g
 |[],_=>rfl
 |x::l,h=>by rw [List.flatMap_cons,List.flatMap_cons,h x (by simp),jC fun y hy=>h y (by simp [hy])]
theorem uP {α:Type}:∀ l:List α,(l.flatMap fun x=>[x])=l
 |[]=>rfl
 |x::l=>by rw [List.flatMap_cons,uP l];rfl
theorem BE (v:Net):∀ k j,(lF v j).flatMap (jO v k)=lF v (j+k)
 |0,j=>by
  have:jO v 0=fun x=>[x]:=by funext x;rfl
  rw [this,uP];rfl
 |k+1,j=>by
  rw [show j+(k+1)=(j+1)+k by omega,←BE v k (j+1)]
  simp only [lF]
  rw [List.flatMap_assoc]
  refine jC fun p hp=>?_
  rw [jO,BG v j p hp,List.flatMap_map]
theorem vK (v:Net):t7 v=jO v v.trams.length []:=by
 have:=BE v v.trams.length 0
 simp only [lF,List.flatMap_cons,List.flatMap_nil,List.append_nil,Nat.zero_add] at this
 exact this.symm
def fU (v:Net) (t:Nat) (w:List Int):Nat:=if w=eH (lR v) t then 0 else 1
def mvd (v:Net) (p:List (List Int)):Nat:=(lA v p).length
theorem HF {p:List (List Int)} {t:Nat} (h:t<p.length) (w:List Int):eH (p++[w]) t=eH p t:=by simp [eH,List.getElem?_append_left h]
theorem HK (v:Net) (p:List (List Int)) (w:List Int):lA v (p++[w])=lA v p++(if w=eH (lR v) p.length then [] else [(p.length:Int)]):=by
 simp only [lA,List.length_append,List.length_cons,List.length_nil,Nat.zero_add,tR,List.filter_append,Int.zero_add]
 congr 1
 ·refine List.filter_congr fun t ht=>?_
  have:=(bU _ _ _).1 ht
  rw [HF (by omega)]
 ·have:eH (p++[w]) p.length=w:=by simp [eH]
  simp only [List.filter_cons,List.filter_nil,Int.toNat_natCast,this]
  split<;>rename_i h
  ·split
   ·rename_i e;simp [e] at h
   ·rfl
  ·split
   ·rfl
   ·rename_i e;simp [e] at h
theorem zM (v:Net) (p:List (List Int)) (w:List Int):mvd v (p++[w])=mvd v p+fU v p.length w:=by
 rw [mvd,HK,List.length_append,mvd,fU]
 split<;>simp
theorem I5 (v:Net):∀ k p,∀ P∈jO v k p,mvd v p≤mvd v P
 |0,p,P,h=>by simp [jO] at h;subst h;exact Nat.le_refl _
 |k+1,p,P,h=>by
  simp only [jO,List.mem_flatMap] at h
  obtain ⟨w,_,hP⟩:=h
  have:=I5 v k _ P hP
  rw [zM] at this
  omega
def dfs (v:Net) (q:List (List Int)→Bool):Nat→List (List Int)→Nat→Option (List (List Int))
 |0,p,left=>if (decide (left=0)&&q p)=true then some p else none
 |k+1,p,left=>(cF v (fH v p.length) []).findSome? fun w=>if fU v p.length w≤left then dfs v q k (p++[w]) (left-fU v p.length w) else none
theorem A5 {α β:Type} (q:β→Bool) (f:α→List β):∀ l:List α,(l.flatMap f).find? q=l.findSome? fun x=>(f x).find? q
 |[]=>rfl
 |x::l=>by
  rw [List.flatMap_cons,List.find?_append,List.findSome?_cons,A5 q f l]
  cases (f x).find? q<;>rfl
theorem o7 {α β:Type} {f g:α→Option β}:∀ {l:List α},(∀ x∈l,f x=g x)→l.findSome? f=l.findSome? g
 |[],_=>rfl
 |x::l,h=>by rw [List.findSome?_cons,List.findSome?_cons,h x (by simp),o7 fun y hy=>h y (by simp [hy])]
theorem y5 (v:Net) (q:List (List Int)→Bool):∀ k p left,dfs v q k p left=(jO v k p).find? fun P=>(mvd v P==mvd v p+left)&&q P
 |0,p,left=>by
  have h:decide (left=0)=(mvd v p==mvd v p+left):=by
   rw [Bool.eq_iff_iff,decide_eq_true_eq,beq_iff_eq];omega
  simp only [dfs,jO,List.find?_cons,List.find?_nil]
  rw [←h]
  cases (decide (left=0)&&q p)<;>rfl
 |k+1,p,left=>by
  simp only [dfs,jO]
  rw [A5]
  refine o7 fun w _=>?_
  split
  ·rename_i h
   rw [y5 v q k,zM,show mvd v p+fU v p.length w+(left-fU v p.length w)=mvd v p+left by omega]
  ·rename_i h
   symm
   rw [List.find?_eq_none]
   intro P hP
   have:=I5 v k _ P hP
   rw [zM] at this
   simp only [Bool.and_eq_true,beq_iff_eq]
   omega
def sM (v:Net) (q:List (List Int)→Bool):Nat→Nat→Option (List (List Int))
 |0,_=>none
 |k+1,m=>match dfs v q v.trams.length [] m with|some p=>some p|none=>sM v q k (m+1)
theorem IZ {v:Net} {l:List State} {q:List (List Int)→Bool} (h:∀ p∈t7 v,QY v l p=q p):∀ k m,tT v l k m=sM v q k m
 |0,m=>rfl
 |k+1,m=>by
  have e:(t7 v).find? (GA v l m)=dfs v q v.trams.length [] m:=by
   have hf:∀ (L:List (List (List Int))) (f g:List (List Int)→Bool),(∀ x∈L,f x=g x)→L.find? f=L.find? g:=by
    intro L f g
    induction L with
    |nil=>intro _;rfl
    |cons x L ih =>
     intro hh
     rw [List.find?_cons,List.find?_cons,hh x (by simp),ih fun y hy=>hh y (by simp [hy])]
   rw [y5,←vK]
   refine hf _ _ _ fun p hp=>?_
   have h0:mvd v []=0:=rfl
   rw [GA,h p hp,h0,Nat.zero_add]
   rfl
  simp only [tT,sM,e]
  cases dfs v q v.trams.length [] m with
  |none=>exact IZ h k (m+1)
  |some p=>rfl
def DZ (v:Net) (ps:List (List Int)) (c:List Int):Bool:=(List.range v.trams.length).all fun t=>jI v t (fI (iJ v ps (rlI c)) t)
def mE (v:Net) (ps:List (List Int)):Bool:=(TL v []).all (DZ v ps)
theorem RI {v:Net} (hv:Vd v) (ps:List (List Int)):QY v (bY v []) ps=mE v ps:=by
 refine HR hv [] _ _ fun s hs=>?_
 have hl:=rB hs
 rw [PV,DZ,GB (by omega)]
theorem UA {v:Net} (hv:Vd v):pQ v (bY v [])=sM v (mE v) (v.trams.length+1) 0:=IZ (fun p _=>RI hv p) _ _
theorem xZ (v:Net) (but:List Int):∀ k,∀ l∈d4 v but k,∀ r∈l,0≤r∧r<v.rails.length
 |0,l,h,r,hr=>by simp [d4] at h;subst h;cases hr
 |k+1,l,h,r,hr=>by
  simp only [d4,List.mem_flatMap,s7,List.mem_map,List.mem_filter,bU] at h
  obtain ⟨a,ha,x,⟨hx,_⟩,rfl⟩:=h
  rcases List.mem_append.1 hr with hr|hr
  ·exact xZ v but k a ha r hr
  ·simp only [List.mem_singleton] at hr;subst hr;omega
theorem AC {v:Net} {s:Int} {but:List Int}:∀ k,∀ l∈d5 v s but k,l.length≤k∧∀ r∈l,0≤r∧r<v.rails.length
 |0,l,h=>by simp [d5] at h
 |k+1,l,h=>by
  simp only [d5,List.mem_append,List.mem_filter] at h
  rcases h with h|⟨h,_⟩
  ·have:=AC k l h
   exact ⟨by omega,this.2⟩
  ·refine ⟨?_,xZ v but (k+1) l h⟩
   have key:∀ k,∀ l∈d4 v but k,l.length=k:=by
    intro k
    induction k with
    |zero=>intro l h;simp [d4] at h;simp [h]
    |succ k ih =>
     intro l h
     simp only [d4,List.mem_flatMap,s7,List.mem_map] at h
     obtain ⟨a,ha,r,_,rfl⟩:=h
     simp [ih a ha]
   have:=key (k+1) l h
   omega
theorem C0 {v:Net} {s:Int} {but l:List Int} (h:l∈cF v s but):l.length≤4∧∀ r∈l,0≤r∧r<v.rails.length:=AC 4 l h
theorem lQ (v:Net) (but:List Int) (h5:v.rails.length≤5):∀ k,(d4 v but k).length≤5^k
 |0=>by simp [d4]
 |k+1=>by
  have h:=IV (s7 v but) 5 (d4 v but k) fun l _=>by
   have:=List.length_filter_le (CM v but l) (aO 0 v.rails.length)
   rw [mZ] at this
   simp only [s7,List.length_map]
   omega
  have:=lQ v but h5 k
  rw [Nat.pow_succ]
  simp only [d4]
  exact Nat.le_trans h (Nat.mul_le_mul_right 5 this)
theorem xJ {v:Net} (h5:v.rails.length≤5) (s:Int) (but:List Int):(cF v s but).length≤1000:=by
 have c1:=lQ v but h5 1
 have c2:=lQ v but h5 2
 have c3:=lQ v but h5 3
 have c4:=lQ v but h5 4
 have f:=fun (l:List (List Int))=>List.length_filter_le (d7 v s) l
 have f1:=f (d4 v but 1)
 have f2:=f (d4 v but 2)
 have f3:=f (d4 v but 3)
 have f4:=f (d4 v but 4)
 have e:cF v s but=((([]++(d4 v but 1).filter (d7 v s))++(d4 v but 2).filter (d7 v s))++(d4 v but 3).filter (d7 v s))++(d4 v but 4).filter (d7 v s):=rfl
 rw [e]
 simp only [List.length_append,List.length_nil]
 have p1:(5:Nat)^1=5:=rfl
 have p2:(5:Nat)^2=25:=rfl
 have p3:(5:Nat)^3=125:=rfl
 have p4:(5:Nat)^4=625:=rfl
 omega
theorem JD {v:Net}:∀ k p,∀ P∈jO v k p,P.length=p.length+k∧∀ w∈P,w∈p∨∃ s,w∈cF v s []
 |0,p,P,h=>by simp [jO] at h;subst h;exact ⟨rfl,fun w hw=>.inl hw⟩
 |k+1,p,P,h=>by
  simp only [jO,List.mem_flatMap] at h
  obtain ⟨w,hw,hP⟩:=h
  obtain ⟨h1,h2⟩:=JD k _ P hP
  refine ⟨by rw [h1];simp;omega,fun x hx=>?_⟩
  rcases h2 x hx with q|q
  ·rcases List.mem_append.1 q with q|q
   ·exact .inl q
   ·simp only [List.mem_singleton] at q
    subst q
    exact .inr ⟨_,hw⟩
  ·exact .inr q
theorem UM {v:Net} {P:List (List Int)} (h:P∈t7 v):RunOk v P:=by
 rw [vK] at h
 obtain ⟨h1,h2⟩:=JD _ _ P h
 refine ⟨by simpa using h1,fun p hp=>?_,fun p hp=>?_⟩
 ·rcases h2 p hp with q|⟨s,q⟩
  ·cases q
  ·exact (C0 q).1
 ·rcases h2 p hp with q|⟨s,q⟩
  ·cases q
  ·exact (C0 q).2
end Go.Am.Room
set_option maxRecDepth 4000
namespace Go.Am.Room
theorem HW {v:Net} (h5:v.rails.length≤5) (s:Int) (but:List Int) {k:Nat} (hk:k≤4):(d5 v s but k).length≤1000:=by
 have st:∀ j,(d5 v s but j).length≤(d5 v s but (j+1)).length:=fun j=>by simp only [d5,List.length_append];omega
 have:=xJ h5 s but
 rw [cF] at this
 have a0:(d5 v s but 0).length≤(d5 v s but 1).length:=st 0
 have a1:(d5 v s but 1).length≤(d5 v s but 2).length:=st 1
 have a2:(d5 v s but 2).length≤(d5 v s but 3).length:=st 2
 have a3:(d5 v s but 3).length≤(d5 v s but 4).length:=st 3
 have:k=0∨k=1∨k=2∨k=3∨k=4:=by omega
 rcases this with rfl|rfl|rfl|rfl|rfl<;>omega
def sV (x:List (List Int)×Int):AV:=.tuple [cL x.1,.int .i64 x.2]
end Go.Am.Room
set_option maxRecDepth 4000
namespace Go.Am.Room
theorem KZ {a b:Int} (h:a≤b):aO a (b+1-a).toNat=a::aO (a+1) (b+1-(a+1)).toNat:=by
 have:(b+1-a).toNat=(b+1-(a+1)).toNat+1:=by omega
 rw [this,aO]
theorem O3 {a b:Int} (h:¬a≤b):aO a (b+1-a).toNat=[]:=by
 have:(b+1-a).toNat=0:=by omega
 rw [this,aO]
end Go.Am.Room
set_option maxRecDepth 4000
namespace Go.Am.Room
theorem NA {α:Type} {p:α→Bool} {l:List α} {k:Nat} (h:k<l.length):(l.take (k+1)).any p=((l.take k).any p||p l[k]):=by
 rw [List.take_succ_eq_append_getElem h,List.any_append];simp
def ZZ (ss:List Stay) (rail m s r:Int) (k:Nat) (n:Int):Prop:=(n=r∧(ss.take k).any (iG rail r m)=false)∨(r<n∧qQ ss rail m s n)
end Go.Am.Room
set_option maxRecDepth 4000
namespace Go.Am.Room
theorem PL (v:Net) (m:Int→Int) (ps:List (List Int)) (k:Nat):fG v m ps (k+1)=((m7 m k (mD v k) (eH ps k) (fG v m ps k).1).1,(fG v m ps k).2++[(m7 m k (mD v k) (eH ps k) (fG v m ps k).1).2]):=rfl
end Go.Am.Room
set_option maxRecDepth 4000
namespace Go.Am.Room
instance (l:List Bool):Dats (l.map .bool):=⟨dB BM l⟩
def qI (v:Net) (but cs:List Int) (n:Nat):Bool:=(List.range n).all fun k=>match v.seen[k]? with|some x=>but.contains (k:Int)||fI cs x.tram==x.minute|none=>true
theorem y0 (v:Net) (but cs:List Int):qI v but cs v.seen.length=mL v but cs:=rfl
theorem DU {v:Net} {k:Nat} (hk:k<v.seen.length) (but cs:List Int):qI v but cs (k+1)=(qI v but cs k&&(but.contains (k:Int)||fI cs v.seen[k].tram==v.seen[k].minute)):=by
 simp [qI,List.range_succ,List.all_append,hk]
theorem rN {a:Nat} (h:a<9223372036854775808):(BitVec.ofInt 64 (a:Int)).toNat=a:=by
 rw [BitVec.toNat_ofInt]
 omega
theorem ZU (a b:Nat) (ha:a<4611686018427387904) (hb:b<4611686018427387904):fC .or (.int .i64 (a:Int)) (.int .i64 (b:Int))=some (.int .i64 ((a|||b:Nat):Int)):=by
 have h1:(BitVec.ofInt 64 (a:Int)|||BitVec.ofInt 64 (b:Int)).toNat=a|||b:=by rw [BitVec.toNat_or,rN (by omega),rN (by omega)]
 have h2:a|||b<2^62:=Nat.or_lt_two_pow (by omega) (by omega)
 have h3:Go.Am.bits .or .i64 (a:Int) (b:Int)=((a|||b:Nat):Int):=by
  show IntKind.i64.wrap (((BitVec.ofInt 64 (a:Int)|||BitVec.ofInt 64 (b:Int)).toNat:Nat):Int)=_
  rw [h1]
  exact dU ⟨by omega,by omega⟩
 simp [fC,jW,h3]
def zP (a b:Nat):Nat:=a &&& (2^64-(b+1))
theorem E5 {b:Nat} (hb:b<9223372036854775808) (a i:Nat) (ha:a<9223372036854775808):(zP a b).testBit i=(a.testBit i&&!b.testBit i):=by
 rw [zP,Nat.testBit_and,Nat.testBit_two_pow_sub_succ (by omega)]
 by_cases hi:i<64
 ·simp [hi]
 ·have:a.testBit i=false:=Nat.testBit_lt_two_pow (Nat.lt_of_lt_of_le (show a<2^63 by omega) (Nat.pow_le_pow_right (by omega) (by omega)))
  simp [this]
theorem I6 (a b:Nat):zP a b≤a:=Nat.and_le_left
theorem FU (a b:Nat) (ha:a<9223372036854775808) (hb:b<9223372036854775808):fC .andNot (.int .i64 (a:Int)) (.int .i64 (b:Int))=some (.int .i64 ((zP a b:Nat):Int)):=by
 have h1:(BitVec.ofInt 64 (a:Int) &&& ~~~BitVec.ofInt 64 (b:Int)).toNat=zP a b:=by
  rw [BitVec.toNat_and,BitVec.toNat_not,rN ha,rN hb,zP]
  congr 1
  omega
 have h2:=I6 a b
 have h3:Go.Am.bits .andNot .i64 (a:Int) (b:Int)=((zP a b:Nat):Int):=by
  show IntKind.i64.wrap (((BitVec.ofInt 64 (a:Int) &&& ~~~BitVec.ofInt 64 (b:Int)).toNat:Nat):Int)=_
  rw [h1]
  exact dU ⟨by omega,by omega⟩
 simp [fC,jW,h3]
theorem iW {i:Nat} (h:i≤60):2^i≤1152921504606846976:=by
 calc 2^i≤2^60:=Nat.pow_le_pow_right (by omega) h
  _=1152921504606846976:=by decide
theorem sI (i:Nat) (h:i≤60):fC .shl (.int .i64 1) (.int .i64 (i:Int))=some (.int .i64 ((2^i:Nat):Int)):=by
 have hm:Nat.min i 64=i:=Nat.min_eq_left (by omega)
 have h0:¬(i:Int)<0:=by omega
 have hp:=iW h
 have hc:(1:Int)*2^i=((2^i:Nat):Int):=by rw [Int.one_mul];exact (Int.natCast_pow 2 i).symm
 simp only [fC,h0,if_false,IntKind.bits,Int.toNat_natCast,hm,hc]
 generalize 2^i=q at hp
 rw [dU ⟨by omega,by omega⟩]
theorem s9 (a i:Nat):a.testBit i=decide (a/2^i%2=1):=Nat.testBit_eq_decide_div_mod_eq
theorem JB {n s:Nat} {x:Int}:x∈lst n s↔(0≤x∧x<n)∧s.testBit x.toNat=true:=by
 simp only [lst,List.mem_filter,bU,s9]
 constructor
 ·rintro ⟨h1,h2⟩;exact ⟨by omega,h2⟩
 ·rintro ⟨h1,h2⟩;exact ⟨by omega,h2⟩
theorem RW {n s i:Nat} (h:i<n):(lst n s).contains (i:Int)=s.testBit i:=by
 rw [Bool.eq_iff_iff,List.contains_iff_mem,JB]
 simp only [Int.toNat_natCast]
 constructor
 ·rintro ⟨_,h2⟩;exact h2
 ·intro h2;exact ⟨⟨by omega,by omega⟩,h2⟩
theorem C9 (a:Nat):((a:Int)==0)=decide (a=0):=by rw [Bool.eq_iff_iff];simp
structure ButIs (b:Nat) (bl:List Int):Prop where
 lt:b<9223372036854775808
 bit:∀ i:Nat,i<5→(((b/2^i%2:Nat):Int)==0) = !bl.contains (i:Int)
theorem KR:ButIs 0 []:=⟨by omega,fun i hi=>by simp⟩
theorem QZ {n set:Nat} (hn:n≤5) (hs:set<2^n):ButIs set (lst n set):=by
 have hp:2^n≤2^5:=Nat.pow_le_pow_right (by omega) hn
 refine ⟨by omega,fun i hi=>?_⟩
 have e:(((set/2^i%2:Nat):Int)==0) = !set.testBit i:=by
  rw [s9,C9,Bool.eq_iff_iff]
  simp
 rw [e]
 by_cases h:i<n
 ·rw [RW h]
 ·have h1:set.testBit i=false:=Nat.testBit_lt_two_pow (Nat.lt_of_lt_of_le hs (Nat.pow_le_pow_right (by omega) (by omega)))
  have h2:(lst n set).contains (i:Int)=false:=by
   rw [Bool.eq_false_iff]
   intro hc
   rw [List.contains_iff_mem,JB] at hc
   omega
  rw [h1,h2]
theorem nM {σ:St} {i:Nat} {cs:List AV} (h:aH σ i=some cs):i<σ.length:=by
 unfold aH at h
 by_cases hi:i<σ.length
 ·exact hi
 ·rw [List.getElem?_eq_none (by omega)] at h
  cases h
theorem iT {σ:St} {i:Nat} {cs:List AV} (h:aH σ i=some cs) (τ:St):aH (σ++τ) i=some cs:=by
 have hl:=nM h
 simp only [aH] at h ⊢
 rw [List.getElem?_append_left hl]
 exact h
end Go.Am.Room
namespace Go.Am.Room
structure MemAt {M:Type} (S:M→St) (obj:List AV) (es:M→List (AV×AV)) (p m N:Nat):Prop where
 len:∀ M,(S M).length=N
 at0:∀ M,aH (S M) p=some obj
 map0:∀ M,(S M)[m]? = some (.map (es M))
 mset:∀ M M',(S M).set m (.map (es M'))=S M'
 ok:∀ M k,aN k (.map (es M))
 pl:p<N
 ml:m<N
namespace MemAt
variable {M:Type} {S:M→St} {obj:List AV} {es:M→List (AV×AV)} {p m N:Nat}
theorem base (h:MemAt S obj es p m N) (A:M) (τ:St) (k:Nat):aH (S A++τ) (N+k)=aH τ k:=by rw [←h.len A];exact qV _ _ _
theorem base0 (h:MemAt S obj es p m N) (A:M) (τ:St):aH (S A++τ) N=aH τ 0:=h.base A τ 0
theorem bset (h:MemAt S obj es p m N) (A:M) (τ:St) (k:Nat) (x:ABlk):(S A++τ).set (N+k) x=S A++τ.set k x:=by rw [←h.len A];exact m6 _ _ _ _
theorem bset0 (h:MemAt S obj es p m N) (A:M) (τ:St) (x:ABlk):(S A++τ).set N x=S A++τ.set 0 x:=h.bset A τ 0 x
theorem at1 (h:MemAt S obj es p m N) (A:M) (τ:St):aH (S A++τ) p=some (obj):=by
 have:=h.at0 A
 have hl:=h.pl
 rw [←h.len A] at hl
 simp only [aH] at this ⊢
 rw [List.getElem?_append_left hl]
 exact this
theorem map1 (h:MemAt S obj es p m N) (A:M) (τ:St):(S A++τ)[m]? = some (.map (es A)):=by
 have hl:=h.ml
 rw [←h.len A] at hl
 rw [List.getElem?_append_left hl]
 exact h.map0 A
theorem mset1 (h:MemAt S obj es p m N) (A B:M) (τ:St):(S A++τ).set m (.map (es B))=S B++τ:=by
 have hl:=h.ml
 rw [←h.len A] at hl
 rw [List.set_append_left _ _ hl,h.mset]
theorem keep (h:MemAt S obj es p m N) (A B:M) (i:Nat) (hi:i≠m):(S B)[i]? = (S A)[i]?:=by
 rw [←h.mset A B,List.getElem?_set_ne (fun e=>hi e.symm)]
theorem kept (h:MemAt S obj es p m N) {A B:M} {σ τ:St} (hσ:σ=S B++τ):∀ i,i<(S A).length→eB (S A) σ (S A).length i:=by
 intro i hi
 rw [hσ]
 have hl:i<(S B).length:=by rw [h.len] at hi ⊢;exact hi
 by_cases him:i=m
 ·subst him
  refine .inr (.inl ⟨.map (es B),?_,h.ok B _⟩)
  rw [List.getElem?_append_left hl,h.map0]
 ·refine .inl ?_
  rw [List.getElem?_append_left hl,h.keep A B i him]
theorem app (h:MemAt S obj es p m N) (τ:St):MemAt (fun A=>S A++τ) obj es p m (N+τ.length) :=
 ⟨fun A=>by rw [List.length_append,h.len],fun A=>h.at1 A τ,fun A=>h.map1 A τ,fun A B=>h.mset1 A B τ,h.ok,by have:=h.pl;omega,by have:=h.ml;omega⟩
theorem eqS (h:MemAt S obj es p m N) (k:Nat) (A B:M) (x y z:St):EqS k (S A++x) (S B++y) (S B++z)=EqS k x y z:=by
 rw [←h.mset A B]
 exact I0 k _ (h.ok B k) _ _ _ _ _
end MemAt
theorem uU {M:Type} {S:M→St} {obj:List AV} {es:M→List (AV×AV)} {p m N:Nat} (hR:MemAt S obj es p m N) {f:FuncId} {first cap args:List AV} {af:AFunc} {v:AV} {A B:M} (hf:T f=some af) (hn:(first++args++cap).length≤af.ntmps)
  (h:wp T af.body (eX 0 (first++args++cap)) (S A) (fun j e σ1=>(j=none∨j=some .ret)∧∃ v0 τ,fY af.results e σ1=some v0∧σ1=S B++τ∧bT σ1 N 20 v0=some v)):yV T (.func f first cap) args (S A) v (S B):=by
 refine .callf (.call hf hn (fR h fun o ho=>ho) fun o ho=>?_)
 obtain ⟨hj,v0,τ,hres,hσ,h4⟩:=ho
 refine ⟨hj,v0,hres,?_⟩
 unfold bT at h4
 cases hs:snap o.σ N 20 v0 with
 |none=>rw [hs] at h4;cases h4
 |some v1 =>
  rw [hs] at h4
  simp at h4
  refine .inr ⟨20,v1,v,by rw [hR.len];exact hs,.inr h4.symm,hR.kept hσ,?_,rfl,?_⟩
  ·rw [hσ,List.length_append,hR.len,hR.len];omega
  ·rw [hσ,hR.len,←hR.len B,List.take_left]
def bL {A X:Type} (f:A→X→X×Bool):List A→X→X×Bool
 |[],x=>(x,true)
 |a::az,x=>if (f a x).2=true then bL f az (f a x).1 else ((f a x).1,false)
theorem uX {A X:Type} (f:A→X→X×Bool):∀ (az bs:List A) (x:X),bL f (az++bs) x=if (bL f az x).2=true then bL f bs (bL f az x).1 else ((bL f az x).1,false)
 |[],bs,x=>by simp [bL]
 |a::az,bs,x=>by
  simp only [List.cons_append,bL]
  split
  ·exact uX f az bs _
  ·simp
structure Fam {X:Type} (Z ZD:X→St) (obj:List AV) (p q N:Nat):Prop where
 len:∀ x,(Z x).length=N
 lenD:∀ x,(ZD x).length=N
 at0:∀ x,aH (Z x) p=some obj
 atq0:∀ x,aH (Z x) q=some [.ptr p 0]
 keep:∀ x y k i,N≤k→i<N→eB (Z x) (Z y) k i
 keepD:∀ x y k i,N≤k→i<N→eB (Z x) (ZD y) k i
 pl:p<N
 ql:q<N
namespace Fam
variable {X:Type} {Z ZD:X→St} {obj:List AV} {p q N:Nat}
theorem base (h:Fam Z ZD obj p q N) (x:X) (τ:St) (k:Nat):aH (Z x++τ) (N+k)=aH τ k:=by rw [←h.len x];exact qV _ _ _
theorem base0 (h:Fam Z ZD obj p q N) (x:X) (τ:St):aH (Z x++τ) N=aH τ 0:=h.base x τ 0
theorem bset (h:Fam Z ZD obj p q N) (x:X) (τ:St) (k:Nat) (y:ABlk):(Z x++τ).set (N+k) y=Z x++τ.set k y:=by rw [←h.len x];exact m6 _ _ _ _
theorem bset0 (h:Fam Z ZD obj p q N) (x:X) (τ:St) (y:ABlk):(Z x++τ).set N y=Z x++τ.set 0 y:=h.bset x τ 0 y
theorem at1 (h:Fam Z ZD obj p q N) (x:X) (τ:St):aH (Z x++τ) p=some obj:=by
 have:=h.at0 x
 have hl:=h.pl
 rw [←h.len x] at hl
 simp only [aH] at this ⊢
 rw [List.getElem?_append_left hl]
 exact this
theorem atq1 (h:Fam Z ZD obj p q N) (x:X) (τ:St):aH (Z x++τ) q=some [.ptr p 0]:=by
 have:=h.atq0 x
 have hl:=h.ql
 rw [←h.len x] at hl
 simp only [aH] at this ⊢
 rw [List.getElem?_append_left hl]
 exact this
def out (Z ZD:X→St) (r:X×Bool):St:=if r.2=true then Z r.1 else ZD r.1
end Fam
theorem KQ {A X:Type} (f:A→X→X×Bool) (a:A) (x:X):bL f [a] x=f a x:=by
 simp only [bL]
 obtain ⟨y,bb⟩:=f a x
 cases bb<;>simp
structure Fam1 {X:Type} {M:Type} (Z ZD:X→M→St) (obj:List AV) (es:M→List (AV×AV)) (p m q N:Nat):Prop where
 ship:∀ x,MemAt (Z x) obj es p m N
 lenD:∀ x A,(ZD x A).length=N
 atq0:∀ x A,aH (Z x A) q=some [.ptr p 0]
 keep:∀ x A y B k i,N≤k→i<N→eB (Z x A) (Z y B) k i
 keepD:∀ x A y B k i,N≤k→i<N→eB (Z x A) (ZD y B) k i
 ql:q<N
 pl:p<N
namespace Fam1
variable {X:Type} {M:Type} {Z ZD:X→M→St} {obj:List AV} {es:M→List (AV×AV)} {p m q N:Nat}
theorem atq1 (h:Fam1 Z ZD obj es p m q N) (x:X) (A:M) (τ:St):aH (Z x A++τ) q=some [.ptr p 0]:=by
 have:=h.atq0 x A
 have hl:=h.ql
 rw [←(h.ship x).len A] at hl
 simp only [aH] at this ⊢
 rw [List.getElem?_append_left hl]
 exact this
def out (Z ZD:X→M→St) (r:X×Bool) (A:M):St:=if r.2=true then Z r.1 A else ZD r.1 A
end Fam1
def tF {X A M:Type} (Z ZD:X→M→St) (id:Nat) (args:A→Bool→Option Nat→List AV) (P:A→Prop) (f:A→X→X×Bool):Prop :=
 ∀ t,P t→∀ (fl:Bool) (tk:Option Nat) x B τ,Run T (.callv (.yield id) (args t fl tk) (Z x B++τ)) fun o=>o.v = .bool (f t x).2∧∃ τ',o.σ=Fam1.out Z ZD (f t x) B++(τ++τ')
theorem TD {X:Type} {M:Type} {S:M→St} {obj:List AV} {es:M→List (AV×AV)} {p m N:Nat} (hS:MemAt S obj es p m N) (U UD:X→St) (n:Nat) (hU:∀ x,(U x).length=n) (hUD:∀ x,(UD x).length=n) (ok:∀ x y,y∈U x→∀ k,N≤k→aN k y) (okD:∀ x y,y∈UD x→∀ k,N≤k→aN k y)
  (env:Env) (ps:List Nat) (a bb:ACode) (st st':LS) (pe pe':Option AJump) :
  Fam1 (fun x A=>S A++(U x++[.cells [.ptr p 0],.loop st pe env ps a bb])) (fun x A=>S A++(UD x++[.cells [.ptr p 0],.loop st' pe' env ps a bb])) obj es p m (N+n) (N+n+2):=by
 have hpl:=hS.pl
 have low:∀ (A B:M) (C D:St) (k i:Nat),i<N→eB (S A++C) (S B++D) k i:=by
  intro A B C D k i hi
  have e1:(S A++C)[i]? = (S A)[i]?:=List.getElem?_append_left (by rw [hS.len];exact hi)
  have e2:(S B++D)[i]? = (S B)[i]?:=List.getElem?_append_left (by rw [hS.len];exact hi)
  simp only [eB,e1,e2]
  by_cases him:i=m
  ·subst him
   exact .inr (.inl ⟨_,hS.map0 B,hS.ok B k⟩)
  ·exact .inl (hS.keep A B i him)
 have high:∀ (A B:M) (C D:St) (l1 l2:ABlk) (k i:Nat),C.length=n→D.length=n→(∀ y∈D,aN k y)→N≤i→i<N+n+2→(l1=l2∨∃ st pe st' pe' env ps a b,l1 = .loop st pe env ps a b∧l2 = .loop st' pe' env ps a b) →
   eB (S A++(C++[.cells [.ptr p 0],l1])) (S B++(D++[.cells [.ptr p 0],l2])) k i:=by
  intro A B C D l1 l2 k i hA hB hk h1 h2 hl
  have e1:(S A++(C++[.cells [.ptr p 0],l1]))[i]? = (C++[.cells [.ptr p 0],l1])[i-N]?:=by rw [List.getElem?_append_right (by rw [hS.len];exact h1),hS.len]
  have e2:(S B++(D++[.cells [.ptr p 0],l2]))[i]? = (D++[.cells [.ptr p 0],l2])[i-N]?:=by rw [List.getElem?_append_right (by rw [hS.len];exact h1),hS.len]
  simp only [eB,e1,e2]
  obtain ⟨j,hj⟩:∃ j,i-N=j:=⟨_,rfl⟩
  rw [hj]
  by_cases hjn:j<n
  ·right;left
   have hb:j<D.length:=by omega
   refine ⟨D[j],?_,hk _ (List.getElem_mem hb)⟩
   rw [List.getElem?_append_left hb,List.getElem?_eq_getElem hb]
  ·have:j=n∨j=n+1:=by omega
   rcases this with rfl|rfl
   ·left
    rw [List.getElem?_append_right (by omega),List.getElem?_append_right (by omega),hA,hB]
    simp
   ·rw [List.getElem?_append_right (by omega),List.getElem?_append_right (by omega),hA,hB]
    simp only [Nat.add_sub_cancel_left,List.getElem?_cons_succ,List.getElem?_cons_zero]
    rcases hl with rfl|⟨_,_,_,_,_,_,_,_,rfl,rfl⟩
    ·exact .inl rfl
    ·exact .inr (.inr ⟨_,_,_,_,_,_,_,_,rfl,rfl⟩)
 refine ⟨fun x=>?_,fun x A=>?_,fun x A=>?_,fun x A y B k i hk hi=>?_,fun x A y B k i hk hi=>?_,by omega,by omega⟩
 ·have:=hS.app (U x++[.cells [.ptr p 0],.loop st pe env ps a bb])
  rw [List.length_append,hU] at this
  exact this
 ·simp [hS.len,hUD];omega
 ·have e:N+n=(S A).length+n:=by rw [hS.len]
  rw [e,qV]
  have:n=(U x).length:=by rw [hU]
  rw [this]
  exact iB _ _
 ·by_cases h:i<N
  ·exact low _ _ _ _ _ _ h
  ·exact high _ _ _ _ _ _ _ _ (hU x) (hU y) (fun z hz=>ok y z hz k (by omega)) (by omega) hi (.inl rfl)
 ·by_cases h:i<N
  ·exact low _ _ _ _ _ _ h
  ·exact high _ _ _ _ _ _ _ _ (hU x) (hUD y) (fun z hz=>okD y z hz k (by omega)) (by omega) hi (.inr ⟨_,_,_,_,_,_,_,_,rfl,rfl⟩)
theorem N0 {X A M:Type} {S:M→St} {obj:List AV} {es:M→List (AV×AV)} {p m N:Nat} (hS:MemAt S obj es p m N) (U UD:X→St) (n:Nat) (hU:∀ x,(U x).length=n) (hUD:∀ x,(UD x).length=n)
  (J:AJump) (e:Env) (k:Nat) (ps:List Nat) (a bb:ACode) (g:FuncId) (ek:Env.get e k = .func g [] [.ptr (N+n) 0]) (r:X×Bool) (B':M) (x:X) (B:M)
  (hrun:Run T (.call g [.yield (N+n+1),.ptr (N+n) 0] (S B++(U x++[.cells [.ptr p 0],.loop .ready none e ps a bb]))) fun o=>∃ τ',o.σ=Fam1.out (fun x A=>S A++(U x++[.cells [.ptr p 0],.loop .ready none e ps a bb])) (fun x A=>S A++(UD x++[.cells [.ptr p 0],.loop .done (some J) e ps a bb])) r B'++τ') (K:KJ)
  (hT:∀ τ,r.2=true→K none e (S B'++(U r.1++(.cells [.ptr p 0]::.dead::τ))))
  (hD:∀ τ,r.2=false→K (some J) e (S B'++(UD r.1++(.cells [.ptr p 0]::.dead::τ)))) :
  rK (K:=⟨K⟩) T (.rangeFunc (.t k) ps a bb) e (S B++(U x++[.cells [.ptr p 0]])):=by
 have hlen:(S B++(U x++[ABlk.cells [.ptr p 0]])).length=N+n+1:=by simp [hS.len,hU];omega
 have hout:∀ (A W:St) (lp:ABlk) (τ':St),A.length=N→W.length=n→(A++(W++[ABlk.cells [.ptr p 0],lp])++τ')[N+n+1]? = some lp∧(A++(W++[ABlk.cells [.ptr p 0],lp])++τ').set (N+n+1) .dead=A++(W++(.cells [.ptr p 0]::.dead::τ')):=by
  intro A W lp τ' hA hW
  have h1:N+n+1=(A++W).length+1:=by simp [hA,hW]
  have h2:A++(W++[ABlk.cells [.ptr p 0],lp])++τ'=(A++W)++(.cells [.ptr p 0]::lp::τ'):=by simp
  rw [h1,h2]
  constructor
  ·rw [qD];rfl
  ·rw [m6];simp
 refine D2 (by rw [O6,ek]) (by
  rw [hlen,List.append_assoc (S B),List.append_assoc (U x)]
  exact hrun) fun o ho=>?_
 obtain ⟨τ',hσ⟩:=ho
 rw [hlen,hσ]
 cases hr2:r.2
 ·have hD':=hD τ' hr2
  obtain ⟨g1,g2⟩:=hout (S B') (UD r.1) (.loop .done (some J) e ps a bb) τ' (hS.len _) (hUD _)
  simp only [Fam1.out,hr2,Bool.false_eq_true,if_false]
  rw [g1,g2]
  exact ⟨_,_,_,_,_,_,rfl,by simp,hD'⟩
 ·have hT':=hT τ' hr2
  obtain ⟨g1,g2⟩:=hout (S B') (U r.1) (.loop .ready none e ps a bb) τ' (hS.len _) (hU _)
  simp only [Fam1.out,hr2,if_true]
  rw [g1,g2]
  exact ⟨_,_,_,_,_,_,rfl,by simp,hT'⟩
theorem KB {X A M:Type} {S:M→St} {obj:List AV} {es:M→List (AV×AV)} {p m N:Nat} (hS:MemAt S obj es p m N) (U UD:X→St) (n:Nat) (hU:∀ x,(U x).length=n) (hUD:∀ x,(UD x).length=n) (J:AJump) (e:Env) (ps:List Nat) (args:A→Bool→Option Nat→List AV) (hps:∀ t fl tk,ps.length=(args t fl tk).length) (a bb:ACode) {P:A→Prop} {f:A→X→X×Bool}
  (h:∀ t,P t→∀ (fl:Bool) (tk:Option Nat) x B τ,wp T a (jN e ps (args t fl tk)) (S B++(U x++(.cells [.ptr p 0]::.loop .ready none e ps a bb::τ))) (fun j e' σ'=>j=none∧σ'=S B++(U x++(.cells [.ptr p 0]::.loop .ready none e ps a bb::τ)) ∧
   wp T bb e' (S B++(U x++(.cells [.ptr p 0]::.loop .busy none e ps a bb::τ))) (fun j e'' σ''=>((f t x).2=true∧j=none∧∃ τ',σ''=S B++(U (f t x).1++(.cells [.ptr p 0]::.loop .busy none e ps a bb::(τ++τ')))) ∨
    ((f t x).2=false∧j=some J∧∃ τ',σ''=S B++(UD (f t x).1++(.cells [.ptr p 0]::.loop .busy none e ps a bb::(τ++τ'))))))) :
  tF (fun x B=>S B++(U x++[.cells [.ptr p 0],.loop .ready none e ps a bb])) (fun x B=>S B++(UD x++[.cells [.ptr p 0],.loop .done (some J) e ps a bb])) (N+n+1) args P f:=by
 intro t ht fl tk x B τ
 have hget:∀ (A W:St) (lp:ABlk) (υ:St),A.length=N→W.length=n→(A++(W++(ABlk.cells [.ptr p 0]::lp::υ)))[N+n+1]? = some lp:=by
  intro A W lp υ hA hW
  have h1:N+n+1=(A++W).length+1:=by simp [hA,hW]
  rw [h1,←List.append_assoc,qD];rfl
 have hset:∀ (A W:St) (lp l2:ABlk) (υ:St),A.length=N→W.length=n→(A++(W++(ABlk.cells [.ptr p 0]::lp::υ))).set (N+n+1) l2=A++(W++(ABlk.cells [.ptr p 0]::l2::υ)):=by
  intro A W lp l2 υ hA hW
  have h1:N+n+1=(A++W).length+1:=by simp [hA,hW]
  rw [h1,←List.append_assoc,m6]
  simp
 obtain ⟨r,hr⟩:∃ r,f t x=r:=⟨_,rfl⟩
 have h:=h t ht fl tk x B τ
 rw [hr] at h ⊢
 have hst:(fun x B=>S B++(U x++[ABlk.cells [.ptr p 0],.loop .ready none e ps a bb])) x B++τ=S B++(U x++(.cells [.ptr p 0]::.loop .ready none e ps a bb::τ)):=by simp
 rw [hst]
 refine .round (env:=e) (ps:=ps) (a:=a) (b:=bb)
  (R:=fun o=>o.j=none∧o.σ=S B++(U x++(.cells [.ptr p 0]::.loop .ready none e ps a bb::τ))∧wp T bb o.env (S B++(U x++(.cells [.ptr p 0]::.loop .busy none e ps a bb::τ))) (fun j e'' σ''=>(r.2=true∧j=none∧∃ τ',σ''=S B++(U r.1++(.cells [.ptr p 0]::.loop .busy none e ps a bb::(τ++τ')))) ∨
    (r.2=false∧j=some J∧∃ τ',σ''=S B++(UD r.1++(.cells [.ptr p 0]::.loop .busy none e ps a bb::(τ++τ'))))))
  (S:=fun o=>(r.2=true∧o.j=none∧∃ τ',o.σ=S B++(U r.1++(.cells [.ptr p 0]::.loop .busy none e ps a bb::(τ++τ'))))∨(r.2=false∧o.j=some J∧∃ τ',o.σ=S B++(UD r.1++(.cells [.ptr p 0]::.loop .busy none e ps a bb::(τ++τ'))))) (hget _ _ _ _ (hS.len _) (hU _)) (by rw [hps t fl tk]) (fR h fun o ho=>ho) ?_ ?_ ?_
 ·rintro o ⟨hj,hσ,_⟩
  exact ⟨hj,by rw [hσ];exact hget _ _ _ _ (hS.len _) (hU _)⟩
 ·rintro o ⟨_,hσ,hw⟩
  rw [hσ,hset _ _ _ _ _ (hS.len _) (hU _)]
  exact fR hw fun o ho=>ho
 ·rintro o (⟨hr2,hj,τ',hσ⟩|⟨hr2,hj,τ',hσ⟩)
  ·rw [hσ,hj,hget _ _ _ _ (hS.len _) (hU _),hset _ _ _ _ _ (hS.len _) (hU _)]
   refine ⟨rfl,by rw [hr2];rfl,τ',?_⟩
   simp [Fam1.out,hr2]
  ·rw [hσ,hj,hget _ _ _ _ (hS.len _) (hUD _),hset _ _ _ _ _ (hS.len _) (hUD _)]
   refine ⟨rfl,by rw [hr2];rfl,τ',?_⟩
   simp [Fam1.out,hr2]
theorem xP {A X:Type} {f:A→X→X×Bool} (h:∀ a x,(f a x).2=true):∀ (l:List A) (x:X),bL f l x=(l.foldl (fun x a=>(f a x).1) x,true)
 |[],x=>rfl
 |a::az,x=>by simp only [bL,h,if_true,List.foldl_cons];exact xP h az _
end Go.Am.Room
namespace Go.Am.Room
def dH (fine:Nat→Bool):Nat→Nat×Nat→Nat×Nat
 |0,x=>x
 |k+1,x=>if fine k=true then (zP (dH fine k x).1 (2^k),(dH fine k x).2) else ((dH fine k x).1,(dH fine k x).2|||2^k)
theorem nT (fine:Nat→Bool) {n:Nat} {x:Nat×Nat} (h:x.1<2^n∧x.2<2^n):∀ k,k≤n→(dH fine k x).1<2^n∧(dH fine k x).2<2^n
 |0,_=>h
 |k+1,hk=>by
  obtain ⟨h1,h2⟩:=nT fine h k (by omega)
  simp only [dH]
  split
  ·exact ⟨Nat.lt_of_le_of_lt (I6 _ _) h1,h2⟩
  ·exact ⟨h1,Nat.or_lt_two_pow h2 (Nat.pow_lt_pow_right (by omega) (by omega))⟩
theorem y7 (fine:Nat→Bool) {n:Nat} (hn:n≤60) {x:Nat×Nat} (h:x.1<2^n∧x.2<2^n) (i:Nat):∀ k,k≤n→(dH fine k x).1.testBit i=(x.1.testBit i&&!(decide (i<k)&&fine i))∧(dH fine k x).2.testBit i=(x.2.testBit i||(decide (i<k)&&!fine i))
 |0,_=>by simp [dH]
 |k+1,hk=>by
  obtain ⟨h1,h2⟩:=y7 fine hn h i k (by omega)
  obtain ⟨l1,l2⟩:=nT fine h k (by omega)
  have hp:=iW (show k≤60 by omega)
  have hpn:=iW hn
  simp only [dH]
  by_cases e:i=k
  ·subst e
   cases hf:fine i
   ·simp only [Bool.false_eq_true,if_false]
    rw [Nat.testBit_or,h1,h2,Nat.testBit_two_pow_self]
    simp
   ·simp only [if_true]
    rw [E5 (by omega) _ _ (by omega),h1,h2,Nat.testBit_two_pow_self]
    simp
  ·have hd:decide (i<k+1)=decide (i<k):=by rw [decide_eq_decide];omega
   split
   ·rw [E5 (by omega) _ _ (by omega),h1,h2,Nat.testBit_two_pow_of_ne (Ne.symm e),hd]
    simp
   ·rw [Nat.testBit_or,h1,h2,Nat.testBit_two_pow_of_ne (Ne.symm e),hd]
    simp
abbrev B64:={ x:Nat×Nat // x.1<2^6∧x.2<2^6 }
def mU {A:Type} (fine:A→Nat→Bool) (n:Nat) (a:A) (x:B64):B64×Bool:=if hn:n≤6 then (⟨dH (fine a) n x.1,nT (fine a) x.2 n hn⟩,true) else (x,true)
theorem xQ {A:Type} (fine:A→Nat→Bool) (n:Nat) (a:A) (x:B64):(mU fine n a x).2=true:=by unfold mU;split<;>rfl
theorem uW {A:Type} (fine:A→Nat→Bool) {n:Nat} (hn:n≤6) (a:A) (x:B64):(mU fine n a x).1.1=dH (fine a) n x.1:=by unfold mU;rw [dif_pos hn]
def kZ {A:Type} (fine:A→Nat→Bool) (n:Nat) (l:List A) (x:B64):B64:=l.foldl (fun x a=>(mU fine n a x).1) x
theorem vH {A:Type} (fine:A→Nat→Bool) {n:Nat} (hn:n≤6) {i:Nat} (hi:i<n):∀ (l:List A) (x:B64),(kZ fine n l x).1.1.testBit i=(x.1.1.testBit i&&l.all fun a=>!fine a i)∧(kZ fine n l x).1.2.testBit i=(x.1.2.testBit i||l.any fun a=>!fine a i)
 |[],x=>by simp [kZ]
 |a::l,x=>by
  obtain ⟨h1,h2⟩:=vH fine hn hi l (mU fine n a x).1
  obtain ⟨q1,q2⟩:=y7 (fine a) (n:=6) (by omega) x.2 i n hn
  simp only [kZ,List.foldl_cons,List.all_cons,List.any_cons] at h1 h2 ⊢
  rw [h1,h2,uW fine hn,q1,q2]
  simp only [hi,decide_true,Bool.true_and]
  exact ⟨by rw [Bool.and_assoc],by rw [Bool.or_assoc]⟩
def jS (n:Nat) (hn:n≤6):B64:=⟨(2^n-1,0),by
 have:2^n≤2^6:=Nat.pow_le_pow_right (by omega) hn
 have:=Nat.two_pow_pos n
 exact ⟨by simp only;omega,by simp⟩⟩
theorem DW {A:Type} (fine:A→Nat→Bool) {n:Nat} (hn:n≤6) (l:List A):lst n (kZ fine n l (jS n hn)).1.1=(aO 0 n).filter (fun i=>l.all fun a=>!fine a i.toNat)∧lst n (kZ fine n l (jS n hn)).1.2=(aO 0 n).filter (fun i=>l.any fun a=>!fine a i.toNat):=by
 simp only [lst]
 constructor
 ·refine List.filter_congr fun x hx=>?_
  have hxr:=(bU _ _ _).1 hx
  have hi:x.toNat<n:=by omega
  rw [←s9,(vH fine hn hi l _).1]
  simp only [jS,Nat.testBit_two_pow_sub_one,hi,decide_true,Bool.true_and]
 ·refine List.filter_congr fun x hx=>?_
  have hxr:=(bU _ _ _).1 hx
  have hi:x.toNat<n:=by omega
  rw [←s9,(vH fine hn hi l _).2]
  simp only [jS,Nat.zero_testBit,Bool.false_or]
def fT (v:Net) (c:List Int) (t:Nat):Bool:=jI v t (fI (cV v c) t)
theorem EA {v:Net} {bl:List Int} {t:Nat}:∀ s∈bY v bl,B9 v (t:Int) s = !fT v (pZ s) t:=fun s hs=>by
 have hl:=rB hs
 simp only [B9,fT,nK (show s.closed.length=s.mins.length by omega),Int.toNat_natCast]
theorem DP {v:Net} (hv:Vd v) (h3:v.trams.length≤6):lst v.trams.length (kZ (fT v) v.trams.length (TL v []) (jS _ h3)).1.1=M3 v (bY v [])∧lst v.trams.length (kZ (fT v) v.trams.length (TL v []) (jS _ h3)).1.2=DY v (bY v []):=by
 obtain ⟨h1,h2⟩:=DW (fT v) h3 (TL v [])
 rw [h1,h2,M3,DY]
 constructor
 ·refine List.filter_congr fun x hx=>?_
  have hxr:=(bU _ _ _).1 hx
  obtain ⟨t,rfl⟩:∃ t:Nat,x=t:=⟨x.toNat,by omega⟩
  rw [FO,Int.toNat_natCast]
  exact (HR hv [] _ _ EA).symm
 ·refine List.filter_congr fun x hx=>?_
  have hxr:=(bU _ _ _).1 hx
  obtain ⟨t,rfl⟩:∃ t:Nat,x=t:=⟨x.toNat,by omega⟩
  rw [CQ,Int.toNat_natCast]
  exact (L9 hv [] _ _ EA).symm
def gU (c:List Int) (r:Nat):Bool:=!((c[r]?).getD 0==0)
theorem yY {v:Net} (hv:Vd v) {bl:List Int} {r:Nat} (hr:r<v.rails.length):∀ s∈bY v bl,uR (r:Int) s = !gU (pZ s) r:=fun s hs=>by
 have hs1:=(List.mem_filter.1 hs).1
 have hl:=n9 hs1
 have hst:∀ k,k≤v.rails.length→∀ s∈yB v.rails k,∀ i,i<k→1≤(s.mins[i]?).getD 0:=by
  intro k
  induction k with
  |zero=>intro _ s _ i hi;omega
  |succ k ih =>
   intro hk s h i hi
   have hk1:k<v.rails.length:=by omega
   simp only [yB,List.getElem?_eq_getElem hk1,List.mem_flatMap,P3,List.mem_map,List.mem_filter] at h
   obtain ⟨s0,hs0,m,hm,c,_,rfl⟩:=h
   have hl0:=(yZ k (by omega) s0 hs0).2.1
   by_cases e:i=k
   ·subst e
    rw [yT hl0]
    have:=(hv.ra _ (List.getElem_mem hk1)).mins
    have:=oO.1 hm
    omega
   ·rw [List.getElem?_append_left (by omega)]
    exact ih (by omega) s0 hs0 i (by omega)
 have hm:=hst v.rails.length (Nat.le_refl _) s hs1 r hr
 have he:=congrFun (GB (s:=s) (by omega)) (r:Int)
 simp only [rlI,Int.toNat_natCast] at he
 simp only [gU,←he,eff,uR,Int.toNat_natCast,Bool.not_not]
 split
 ·rename_i h;rw [h];rfl
 ·rename_i h
  rw [Bool.not_eq_true] at h
  rw [h]
  symm
  simp only [beq_eq_false_iff_ne]
  omega
theorem QJ {v:Net} (hv:Vd v) (h6:v.rails.length≤6):lst v.rails.length (kZ gU v.rails.length (TL v []) (jS _ h6)).1.1=L7 v (bY v [])∧lst v.rails.length (kZ gU v.rails.length (TL v []) (jS _ h6)).1.2=YK v (bY v []):=by
 obtain ⟨h1,h2⟩:=DW gU h6 (TL v [])
 rw [h1,h2,L7,YK]
 constructor
 ·refine List.filter_congr fun x hx=>?_
  have hxr:=(bU _ _ _).1 hx
  obtain ⟨t,rfl⟩:∃ t:Nat,x=t:=⟨x.toNat,by omega⟩
  rw [Int.toNat_natCast]
  exact (HR hv [] _ _ (yY hv (by omega))).symm
 ·refine List.filter_congr fun x hx=>?_
  have hxr:=(bU _ _ _).1 hx
  obtain ⟨t,rfl⟩:∃ t:Nat,x=t:=⟨x.toNat,by omega⟩
  rw [Int.toNat_natCast]
  exact (L9 hv [] _ _ (yY hv (by omega))).symm
def z0 (v:Net) (l:List (List Int)) (t:Nat):List Int:=l.map fun c=>fI (cV v c) t
theorem SG {v:Net} (hv:Vd v) (bl:List Int) (t:Nat) (x:Int):x∈JS v (bY v bl) t↔x∈z0 v (TL v bl) t:=by
 simp only [JS,z0,List.mem_map]
 constructor
 ·rintro ⟨s,hs,rfl⟩
  have hl:=rB hs
  exact ⟨_,tK hs,by rw [nK (by omega)]⟩
 ·rintro ⟨c,hc,rfl⟩
  obtain ⟨s,hs,rfl⟩:=pO hv hc
  have hl:=rB hs
  exact ⟨s,hs,by rw [nK (by omega)]⟩
theorem GH {l k:List Int} (h:∀ x,x∈l↔x∈k):oB l=oB k:=by
 have h1:fL (eG l)=fL (eG k):=O7 fun x=>by simp only [eG,List.mem_filter,h]
 have h2:eA (eG l).length l.length=eA (eG k).length k.length:=GE (fun x hx=>⟨x,(h x).1 hx,rfl⟩) (fun x hx=>⟨x,(h x).2 hx,rfl⟩)
 rw [oB,oB,h1,h2]
def P5 (a:Int) (x:Span×Bool×Bool):Span×Bool×Bool:=if a = -1 then (x.1,x.2.1,true) else if x.2.1=false then (⟨a,a⟩,true,x.2.2) else (j6 x.1 a,true,x.2.2)
theorem GV (l:List Int) (a:Int):fL (l++[a])=if l=[] then ⟨a,a⟩ else j6 (fL l) a:=by
 cases l with
 |nil=>simp [fL]
 |cons x l=>simp [fL,List.foldl_append]
theorem NT (l:List Int):∀ (k:List Int),l.foldl (fun x a=>P5 a x) (fL (eG k),!(eG k).isEmpty,k.contains (-1))=(fL (eG (k++l)),!(eG (k++l)).isEmpty,(k++l).contains (-1)):=by
 induction l with
 |nil=>intro k;simp
 |cons a l ih =>
  intro k
  rw [List.foldl_cons,show k++a::l=(k++[a])++l by simp,←ih (k++[a])]
  congr 1
  simp only [eG,List.filter_append,P5]
  by_cases h:a = -1
  ·subst h;simp
  ·have hc:(k++[a]).contains (-1)=k.contains (-1):=by
    rw [Bool.eq_iff_iff,List.contains_iff_mem,List.contains_iff_mem]
    simp;omega
   have hf:[a].filter (fun c=>!decide (c = -1))=[a]:=by simp [h]
   rw [hf,hc,GV,if_neg h]
   by_cases h2:k.filter (fun c=>!decide (c = -1))=[]
   ·simp [h2]
   ·have:(k.filter (fun c=>!decide (c = -1))).isEmpty=false:=by simpa using h2
    simp [h2,this]
theorem SH (l:List Int):l.foldl (fun x a=>P5 a x) (⟨0,0⟩,false,false)=(fL (eG l),!(eG l).isEmpty,l.contains (-1)):=NT l []
theorem E8 {l:List Int} (h:l≠[]):eA (eG l).length l.length=if l.contains (-1)=false then 1 else if (eG l).isEmpty=true then 2 else 0:=by
 have h1:eA (eG l).length l.length=1↔∀ x∈l,(!decide (x = -1))=true:=qG
 have h2:eA (eG l).length l.length=2↔l≠[]∧∀ x∈l,(!decide (x = -1))=false:=p9
 have h3:=nI (eG l).length l.length
 have he:(eG l).isEmpty=true↔∀ x∈l,(!decide (x = -1))=false:=by
  rw [List.isEmpty_iff,eG,List.filter_eq_nil_iff]
  simp
 by_cases a:l.contains (-1)=false
 ·rw [if_pos a]
  refine h1.2 fun x hx=>?_
  simp only [Bool.not_eq_true',decide_eq_false_iff_not]
  rintro rfl
  rw [←Bool.not_eq_true,List.contains_iff_mem] at a
  exact a hx
 ·rw [if_neg a]
  have n1:¬eA (eG l).length l.length=1:=by
   rw [h1]
   intro q
   rw [Bool.not_eq_false,List.contains_iff_mem] at a
   have:=q _ a
   simp at this
  by_cases b:(eG l).isEmpty=true
  ·rw [if_pos b]
   exact h2.2 ⟨h,he.1 b⟩
  ·rw [if_neg b]
   rcases h3 with h3|h3|h3
   ·exact h3
   ·exact absurd h3 n1
   ·exact absurd (he.2 (h2.1 h3).2) b
def kT (f:Nat→Int) (i:Nat) (v:Int):Nat→Int:=fun j=>if j=i then v else f j
def bF (n:Nat) (f:Nat→Int):List AV:=(List.range n).map fun i=>.int .i64 (f i)
theorem dO (n:Nat) (f:Nat→Int):(bF n f).length=n:=by simp [bF]
theorem iE (n:Nat) (f:Nat→Int) {i:Nat} (h:i<n):(bF n f)[i]? = some (.int .i64 (f i)):=by simp [bF,h]
theorem GY {n:Nat} {f g:Nat→Int} (h:∀ i,i<n→f i=g i):bF n f=bF n g:=by
 refine List.map_congr_left fun i hi=>?_
 rw [h i (by simpa using hi)]
theorem pL (n:Nat) (f:Nat→Int) (v:Int) {i:Nat} (h:i<n):(bF n f).take i++[AV.int .i64 v]++(bF n f).drop (i+1)=bF n (kT f i v):=by
 have h1:(bF n f).take i++[AV.int .i64 v]++(bF n f).drop (i+1)=(bF n f).set i (.int .i64 v):=by
  rw [List.set_eq_take_append_cons_drop,if_pos (by rw [dO];exact h)];simp
 rw [h1]
 refine List.ext_getElem? fun j=>?_
 by_cases hj:j<n
 ·rw [iE n _ hj,List.getElem?_set]
  by_cases e:i=j
  ·subst e;simp [dO,hj,kT]
  ·rw [if_neg e,iE n _ hj];simp [kT,show ¬j=i from fun q=>e q.symm]
 ·rw [List.getElem?_eq_none (by rw [List.length_set,dO];omega),List.getElem?_eq_none (by rw [dO];omega)]
theorem mA (n:Nat) (f:Nat→Int):kY (bF n f):=dB (enc:=fun i:Nat=>AV.int .i64 (f i)) (fun i=>cN _ _) (List.range n)
instance (n:Nat) (f:Nat→Int):Dats (bF n f):=⟨mA n f⟩
theorem CY (n:Nat) (f:Nat→Int) (m:Nat):okVs m (bF n f):=EZ (mA n f) m
theorem jF (n:Nat) (f:Nat→Int) (σ:St) (m d:Nat):cM σ m d (bF n f)=some (bF n f):=lH (mA n f) σ m d
theorem eT (n:Nat) (f:Nat→Int):bK (bF n f)=true:=YU _ _ fun i=>by simp [AV.cell]
theorem eO (n:Nat) (f:Nat→Int):(bF n f).take n=bF n f:=List.take_of_length_le (by rw [dO];exact Nat.le_refl n)
theorem eN (n:Nat) (f:Nat→Int):(bF n f).drop n=[]:=List.drop_eq_nil_of_le (by rw [dO];exact Nat.le_refl n)
theorem E7 (f g:Nat→Int):∀ l:List Nat,bC (List.replicate l.length .i) (l.map fun i=>.int .i64 (f i)) (l.map fun i=>.int .i64 (g i))=some (l.all fun i=>f i==g i)
 |[]=>rfl
 |x::l=>by
  simp only [List.length_cons,List.replicate_succ,List.map_cons,PQ,V6,E7 f g l,L8,List.all_cons]
theorem I0q (n:Nat) (f g:Nat→Int):bC (List.replicate n .i) (bF n f) (bF n g)=some ((List.range n).all fun i=>f i==g i):=by
 have:=E7 f g (List.range n)
 rwa [List.length_range] at this
section
variable {K:Type} [DecidableEq K]
def lZ (M:List K) (w:K):List K:=if w∈M then M else M++[w]
structure KeyIs (sh:EqTy) (enc val:K→AV):Prop where
 eq:∀ w x,iN sh (enc w) (enc x)=some (decide (w=x))
 dk:∀ w,kU (enc w)
 dv:∀ w,kU (val w)
variable {sh:EqTy} {enc val:K→AV}
def pB (enc val:K→AV) (M:List K):List (AV×AV):=M.map fun w=>(enc w,val w)
theorem JQ (h:KeyIs sh enc val) (w:K):∀ M:List K,findKey sh (enc w) (pB enc val M)=some (if w∈M then some (val w) else none)
 |[]=>by simp [pB,findKey]
 |x::M=>by
  have ih:=JQ h w M
  simp only [pB,List.map_cons,findKey,h.eq] at ih ⊢
  by_cases e:w=x
  ·subst e;simp
  ·simp only [e,decide_false,ih,List.mem_cons,false_or]
theorem MB (h:KeyIs sh enc val) (w:K):∀ M:List K,w∉M→mJ sh (enc w) (val w) (pB enc val M)=some (pB enc val (M++[w]))
 |[],_=>by simp [pB,mJ]
 |x::M,hn=>by
  have ih:=MB h w M (fun q=>hn (List.mem_cons_of_mem _ q))
  have hx:w≠x:=fun e=>hn (by rw [e];simp)
  simp only [pB,List.map_cons,mJ,h.eq,List.cons_append] at ih ⊢
  simp only [hx,decide_false,ih,Option.map_some]
theorem ZA (h:KeyIs sh enc val) (M:List K) (k:Nat):aN k (.map (pB enc val M)):=by
 simp only [aN,pB]
 intro q hq
 obtain ⟨w,hw,rfl⟩:=List.mem_map.1 hq
 exact ⟨w6 (h.dk w) k,w6 (h.dv w) k⟩
variable {S:List K→St} {obj:List AV} {p m N:Nat}
theorem TR (hk:KeyIs sh enc val) (h:MemAt S obj (pB enc val) p m N) (M:List K) (τ:St) (w:K):sZ sh (S M++τ) (.map m) (enc w)=some (if w∈M then some (val w) else none):=by
 simp only [sZ,h.map1,JQ hk,hk.eq]
 simp
theorem XI (hk:KeyIs sh enc val) (h:MemAt S obj (pB enc val) p m N) (M:List K) (τ:St) (w:K) (hw:w∉M):wN sh (S M++τ) (.map m) (enc w) (val w)=some (S (M++[w])++τ):=by
 simp only [wN,hk.eq,h.map1,MB hk w M hw,Option.map_some,h.mset1]
 simp
end
end Go.Am.Room
set_option maxRecDepth 4000
namespace Go.Am.Room
def pK (x:List Int×List Int×Int):AV:=.tuple [ints x.1,ints x.2.1,.int .i64 x.2.2]
def xU (x:Int×Int):AV:=.tuple [.int .i64 x.1,.int .i64 x.2]
def pX (x:Span×Int×Int):AV:=.tuple [oL x.1,.int .i64 x.2.1,.int .i64 x.2.2]
end Go.Am.Room
set_option maxRecDepth 4000
namespace Go.Am.Room
theorem F5 {n:Nat} {k:Nat} (h:k<n) (p:Int→Bool):(aO (k:Int) ((n:Int)-k).toNat).filter p=(if p (k:Int)=true then [(k:Int)] else [])++(aO ((k+1:Nat):Int) ((n:Int)-((k+1:Nat):Int)).toNat).filter p:=by
 rw [oW (by omega),List.filter_cons,show (k:Int)+1=((k+1:Nat):Int) by omega]
 split<;>rfl
theorem OA {n k:Nat} (h:k=n) (p:Int→Bool):(aO (k:Int) ((n:Int)-k).toNat).filter p=[]:=by
 rw [n8 (by omega)];rfl
theorem B6 {v:Net} {l:List Int} {k:Nat} (h:k<l.length) (b:Int):iL v (l.drop k) b=iL v (l.drop (k+1)) (if b<0∨vY v l[k].toNat<vY v b.toNat then l[k] else b):=by
 rw [List.drop_eq_getElem_cons h,iL]
theorem PJ {v:Net} {t:Nat} (h:t<v.trams.length):vY v t=v.trams[t].due:=by simp [vY,h]
theorem RK {v:Net} {l:List State}:∀ t∈DY v l,0≤t∧t<v.trams.length:=fun t ht=>by
 have:=(bU _ _ _).1 (List.mem_filter.1 ht).1
 omega
theorem N7 (v:Net) (l:List State):(DY v l).length≤v.trams.length:=by
 have:=List.length_filter_le (CQ v l) (aO 0 v.trams.length)
 rw [mZ] at this
 exact this
end Go.Am.Room
set_option maxRecDepth 4000
namespace Go.Am.Room
instance (l:List (List (List Int))):Dats (l.map cL):=⟨dB oT l⟩
theorem bE (l:List (List Int)):cL l = .lit (l.map ints) false none:=by simp only [cL]
def uC (x:List (List Int)×List Int×Int):AV:=.tuple [cL x.1,ints x.2.1,.int .i64 x.2.2]
def nH (v:Net) (cs:List Int) (n:Nat):Bool:=(List.range n).all fun t=>jI v t (fI cs t)
theorem DM (v:Net) (cs:List Int) (n:Nat):nH v cs (n+1)=(nH v cs n&&jI v n (fI cs n)):=by simp [nH,List.range_succ,List.all_append]
theorem KU {v:Net} {cs:List Int} {k:Nat} (h:nH v cs k=false) {j:Nat} (hj:k≤j):nH v cs j=false:=by
 simp only [nH,List.all_eq_false,List.mem_range] at h ⊢
 obtain ⟨a,ha,h1⟩:=h
 exact ⟨a,by omega,h1⟩
theorem A4 {v:Net} {t:Nat} {z:Tram} (h:v.trams[t]? = some z) (c:Int):jI v t c=(!decide (c = -1)&&decide (c≤z.due)):=by simp only [jI,vY,h]
theorem GC {v:Net} {t:Nat} (h:t<v.trams.length):eH (lR v) t=v.trams[t].path:=by simp [eH,lR,h]
theorem JK {ps:List (List Int)} {t:Nat} (h:t<ps.length):eH ps t=ps[t]:=by simp [eH,h]
def US (v:Net) (ps:List (List Int)) (t:Int):Bool:=!decide (eH ps t.toNat=eH (lR v) t.toNat)
theorem C4 {v:Net} {t:Nat} (h:t<v.trams.length):fH v t=v.trams[t].frm:=by simp [fH,h]
end Go.Am.Room
set_option maxRecDepth 4000
namespace Go.Am.Room
instance (l:List (List Int)):Dats (l.map ints):=⟨dB jZ l⟩
def JH (x:List Int×Int):AV:=.tuple [ints x.1,.int .i64 x.2]
def y6 (x:Int×Int×Int):AV:=.tuple [.int .i64 x.1,.int .i64 x.2.1,.int .i64 x.2.2]
theorem rH {v:Net} (h:fE v=0):Vd v∧bY v []≠[]:=by
 have hta:fE v=g0 v (cG v).2.2:=rfl
 rw [hta,g0] at h
 split at h
 ·rename_i q
  refine ⟨gS q,fun e=>?_⟩
  rw [e] at h;simp at h
 ·rename_i q;exact absurd h q
end Go.Am.Room
set_option maxRecDepth 4000
namespace Go.Am.Room
def sC (v:Net) (r:Int) (k:Nat):Nat:=((List.range k).filter fun t=>(cF v (fH v t) [r]).isEmpty).length
theorem H4 (v:Net) (r:Int) (k:Nat):sC v r (k+1)=sC v r k+(if (cF v (fH v k) [r]).isEmpty=true then 1 else 0):=by
 rw [sC,List.range_succ,List.filter_append,List.length_append,sC]
 by_cases e:(cF v (fH v k) [r]).isEmpty=true
 ·simp [e]
 ·simp [e]
theorem PB (v:Net) (r:Int) (k:Nat):sC v r k≤k:=by
 have:=List.length_filter_le (fun t=>(cF v (fH v t) [r]).isEmpty) (List.range k)
 rw [List.length_range] at this
 exact this
theorem EU {v:Net} {k:Nat} (h:k<v.rails.length) (b:Int×Int):qK v (aO (k:Int) ((v.rails.length:Int)-k).toNat) b=qK v (aO ((k+1:Nat):Int) ((v.rails.length:Int)-((k+1:Nat):Int)).toNat) (if v.rails[k].shut=1 then b else if b.1<0∨b.2<xM v k then ((k:Int),xM v k) else b):=by
 rw [oW (by omega),qK,show (k:Int)+1=((k+1:Nat):Int) by omega,wQ h]
end Go.Am.Room
set_option maxRecDepth 4000
namespace Go.Am.Room
def lV {α:Type} (p:α→Bool):List α→Nat→Int
 |[],_=>-1
 |x::xs,k=>if p x then k else lV p xs (k+1)
theorem vB {α:Type} (p:α→Bool):∀ (l:List α) (k:Nat),decide (0≤lV p l k)=l.any p
 |[],k=>by simp [lV]
 |x::xs,k=>by
  cases h:p x
  ·simp [lV,h,vB p xs (k+1)]
  ·simp [lV,h]
theorem KS (σ:St) (f:AV) (l:List Int) (p:Int→Bool) (hl:l.length<9223372036854775808) (hk:rY σ f) (h:∀ x∈l,iC T f [.int .i64 x] σ (.bool (p x))):iC T (.func 114 [] []) [ints l,f] σ (.int .i64 (lV p l 0)):=by
 refine dY (af:=a114) rfl (by simp [a114]) ?_
 have hk0:=hk.nil
 (repeat (first|simp only [↓QA,QB,Nat.reduceLT,reduceIte,Nat.reduceEqDiff,Nat.reduceAdd,Nat.reduceLeDiff,Nat.reduceMul,Nat.reduceBEq,a114]|refine rd0 rfl ?_))
 refine dF (S:=Nat) 0 (fun k=>k≤l.length∧lV p (l.drop k) k=lV p l 0) (fun k=>l.length-k) (fun k=>[(0,ints l),(1,f),(7,.int .i64 l.length),(8,.int .i64 k)]) (fun _=>σ) ⟨Nat.zero_le _,by simp⟩ rfl ?_ fun k hk1=>?_
 ·try simp only [aD,QE,Nat.reduceLT,reduceIte,Nat.reduceEqDiff,Nat.reduceAdd,Nat.reduceLeDiff,Nat.reduceMul,Nat.reduceBEq]
  try simp
 ·obtain ⟨hkl,hi⟩:=hk1
  (repeat (first|simp only [↓QA,QB,Nat.reduceLT,reduceIte,Nat.reduceEqDiff,Nat.reduceAdd,Nat.reduceLeDiff,Nat.reduceMul,Nat.reduceBEq,PG]|refine rd0 rfl ?_))
  refine aI (fun hd=>?_) fun hd=>?_
  ·have hlt:k<l.length:=by simpa using hd
   rw [List.drop_eq_getElem_cons hlt] at hi
   simp only [lV] at hi
   have hw:=cR hlt hl
   (repeat (first|simp only [↓QA,QB,Nat.reduceLT,reduceIte,Nat.reduceEqDiff,Nat.reduceAdd,Nat.reduceLeDiff,Nat.reduceMul,Nat.reduceBEq,hlt]|refine rd0 rfl ?_))
   refine bM (h l[k] (List.getElem_mem hlt)) ?_
   (repeat (first|simp only [↓QA,QB,Nat.reduceLT,reduceIte,Nat.reduceEqDiff,Nat.reduceAdd,Nat.reduceLeDiff,Nat.reduceMul,Nat.reduceBEq]|refine rd0 rfl ?_))
   cases hp:p l[k]
   ·(repeat (first|simp only [↓QA,QB,Nat.reduceLT,reduceIte,Nat.reduceEqDiff,Nat.reduceAdd,Nat.reduceLeDiff,Nat.reduceMul,Nat.reduceBEq,hw]|refine rd0 rfl ?_))
    refine ⟨k+1,⟨by omega,by rw [←hi,hp];rfl⟩,by omega,?_⟩
    try simp only [aD,QE,Nat.reduceLT,reduceIte,Nat.reduceEqDiff,Nat.reduceAdd,Nat.reduceLeDiff,Nat.reduceMul,Nat.reduceBEq,hw,hk0,Nat.le_refl]
   ·(repeat (first|simp only [↓QA,QB,Nat.reduceLT,reduceIte,Nat.reduceEqDiff,Nat.reduceAdd,Nat.reduceLeDiff,Nat.reduceMul,Nat.reduceBEq]|refine rd0 rfl ?_))
    refine eI [] (by first|rfl|simp) ?_
    rw [←hi,hp]
    try simp only [QS,QC,Nat.reduceLT,reduceIte,Nat.reduceEqDiff,Nat.reduceAdd,Nat.reduceLeDiff,Nat.reduceMul,Nat.reduceBEq]
  ·have hlt:k=l.length:=by simp at hd;omega
   (repeat (first|simp only [↓QA,QB,Nat.reduceLT,reduceIte,Nat.reduceEqDiff,Nat.reduceAdd,Nat.reduceLeDiff,Nat.reduceMul,Nat.reduceBEq]|refine rd0 rfl ?_))
   refine eI [] (by first|rfl|simp) ?_
   rw [←hi,hlt,List.drop_length]
   try simp only [QS,QC,Nat.reduceLT,reduceIte,Nat.reduceEqDiff,Nat.reduceAdd,Nat.reduceLeDiff,Nat.reduceMul,Nat.reduceBEq,lV]
theorem oQ (σ:St) (f:AV) (l:List Int) (p:Int→Bool) (hl:l.length<9223372036854775808) (hk:rY σ f) (h:∀ x∈l,iC T f [.int .i64 x] σ (.bool (p x))):iC T (.func 98 [] []) [ints l,f] σ (.bool (l.any p)):=by
 refine dY (af:=a98) rfl (by simp [a98]) ?_
 (repeat (first|simp only [↓QA,QB,Nat.reduceLT,reduceIte,Nat.reduceEqDiff,Nat.reduceAdd,Nat.reduceLeDiff,Nat.reduceMul,Nat.reduceBEq,a98]|refine rd0 rfl ?_))
 refine bM (KS σ f l p hl hk h) ?_
 (repeat (first|simp only [↓QA,QB,Nat.reduceLT,reduceIte,Nat.reduceEqDiff,Nat.reduceAdd,Nat.reduceLeDiff,Nat.reduceMul,Nat.reduceBEq]|refine rd0 rfl ?_))
 refine eI [] (by first|rfl|simp) ?_
 rw [←vB p l 0]
 try simp only [QS,QC,Nat.reduceLT,reduceIte,Nat.reduceEqDiff,Nat.reduceAdd,Nat.reduceLeDiff,Nat.reduceMul,Nat.reduceBEq]
def kA (lo hi n:Int):Bool:=decide (n<lo)||decide (hi<n)
theorem GP (lo hi n:Int):iC T (.func 99 [] [.ptr 0 0,.ptr 1 0]) [.int .i64 n] [.cells [.int .i64 lo],.cells [.int .i64 hi]] (.bool (kA lo hi n)):=by
 refine dY (af:=a99) rfl (by simp [a99]) ?_
 (repeat (first|simp only [↓QA,QB,Nat.reduceLT,reduceIte,Nat.reduceEqDiff,Nat.reduceAdd,Nat.reduceLeDiff,Nat.reduceMul,Nat.reduceBEq,a99]|refine rd0 rfl ?_))
 refine aI (fun h=>?_) fun h=>?_
 all_goals
  (repeat (first|simp only [↓QA,QB,Nat.reduceLT,reduceIte,Nat.reduceEqDiff,Nat.reduceAdd,Nat.reduceLeDiff,Nat.reduceMul,Nat.reduceBEq,h]|refine rd0 rfl ?_))
  refine eI [] (by first|rfl|simp) ?_
  try simp only [QS,QC,Nat.reduceLT,reduceIte,Nat.reduceEqDiff,Nat.reduceAdd,Nat.reduceLeDiff,Nat.reduceMul,Nat.reduceBEq,kA,h]
  try simp
def nD (lo hi:Int) (ns:List Int):Bool:=ns.any (kA lo hi)
theorem bI (lo hi:Int) (ns:List Int) (hl:ns.length<9223372036854775808):d6 T 63 [.int .i64 lo,.int .i64 hi,ints ns] (.bool (nD lo hi ns)):=by
 refine aZ (af:=a63) rfl (by simp [a63]) dd ?_
 (repeat (first|simp only [↓QA,QB,Nat.reduceLT,reduceIte,Nat.reduceEqDiff,Nat.reduceAdd,Nat.reduceLeDiff,Nat.reduceMul,Nat.reduceBEq,a63]|refine rd0 rfl ?_))
 refine bM (oQ _ _ ns (kA lo hi) hl (fun τ=>?_) fun x _=>GP lo hi x) ?_
 ·try simp only [QS,QC,Nat.reduceLT,reduceIte,Nat.reduceEqDiff,Nat.reduceAdd,Nat.reduceLeDiff,Nat.reduceMul,Nat.reduceBEq]
 ·(repeat (first|simp only [↓QA,QB,Nat.reduceLT,reduceIte,Nat.reduceEqDiff,Nat.reduceAdd,Nat.reduceLeDiff,Nat.reduceMul,Nat.reduceBEq,nD]|refine rd0 rfl ?_))
theorem S8 (lo hi n:Int):iC T (.func 115 [] [.ptr 0 0,.ptr 1 0]) [.int .i64 n] [.cells [.int .i64 lo],.cells [.int .i64 hi]] (.bool (kA lo hi n)):=by
 refine dY (af:=a115) rfl (by simp [a115]) ?_
 (repeat (first|simp only [↓QA,QB,Nat.reduceLT,reduceIte,Nat.reduceEqDiff,Nat.reduceAdd,Nat.reduceLeDiff,Nat.reduceMul,Nat.reduceBEq,a115]|refine rd0 rfl ?_))
 refine aI (fun h=>?_) fun h=>?_
 all_goals
  (repeat (first|simp only [↓QA,QB,Nat.reduceLT,reduceIte,Nat.reduceEqDiff,Nat.reduceAdd,Nat.reduceLeDiff,Nat.reduceMul,Nat.reduceBEq,h]|refine rd0 rfl ?_))
  refine eI [] (by first|rfl|simp) ?_
  try simp only [QS,QC,Nat.reduceLT,reduceIte,Nat.reduceEqDiff,Nat.reduceAdd,Nat.reduceLeDiff,Nat.reduceMul,Nat.reduceBEq,kA,h]
  try simp
theorem PX (lo hi:Int) (ns:List Int) (hl:ns.length<9223372036854775808):d6 T 100 [.int .i64 lo,.int .i64 hi,ints ns] (.bool (nD lo hi ns)):=by
 refine aZ (af:=a100) rfl (by simp [a100]) dd ?_
 (repeat (first|simp only [↓QA,QB,Nat.reduceLT,reduceIte,Nat.reduceEqDiff,Nat.reduceAdd,Nat.reduceLeDiff,Nat.reduceMul,Nat.reduceBEq,a100]|refine rd0 rfl ?_))
 refine bM (oQ _ _ ns (kA lo hi) hl (fun τ=>?_) fun x _=>S8 lo hi x) ?_
 ·try simp only [QS,QC,Nat.reduceLT,reduceIte,Nat.reduceEqDiff,Nat.reduceAdd,Nat.reduceLeDiff,Nat.reduceMul,Nat.reduceBEq]
 ·(repeat (first|simp only [↓QA,QB,Nat.reduceLT,reduceIte,Nat.reduceEqDiff,Nat.reduceAdd,Nat.reduceLeDiff,Nat.reduceMul,Nat.reduceBEq,nD]|refine rd0 rfl ?_))
theorem v6 (s:ByteArray):∀ n k,k≤n→fX s k=false→fX s n=false
  | 0, k, h, h1 => by have : k = 0 := by omega
                      subst this;exact h1
  |n+1,k,h,h1=>by
    by_cases hk:k=n+1
    · subst hk;exact h1
    · simp [fX,v6 s n k (by omega) h1]
theorem iK (lo hi n:Int):nD lo hi [n] = !inR n lo hi:=by
 rw [Bool.eq_iff_iff];simp [nD,kA,inR]
theorem JM (lo hi n m:Int):nD lo hi [n,m]=(!inR n lo hi||!inR m lo hi):=by
 rw [Bool.eq_iff_iff];simp [nD,kA,inR]
theorem v9 (s:ByteArray) (hs:s.size<9223372036854775808):d6 T 68 [.str s] (.bool (nF s)):=by
 refine aZ (af:=a68) rfl (by simp [a68]) dd ?_
 (repeat (first|simp only [↓QA,QB,Nat.reduceLT,reduceIte,Nat.reduceEqDiff,Nat.reduceAdd,Nat.reduceLeDiff,Nat.reduceMul,Nat.reduceBEq,a68]|refine rd0 rfl ?_))
 refine dF (S:=Nat) 0 (fun k=>k≤s.size∧fX s k=true) (fun k=>s.size-k) (fun k=>[(0,.str s),(7,.ptr 0 0)]) (fun k=>[.siter s k]) ⟨Nat.zero_le _,rfl⟩ rfl ?_ fun k hk=>?_
 ·try simp only [aD,QE,Nat.reduceLT,reduceIte,Nat.reduceEqDiff,Nat.reduceAdd,Nat.reduceLeDiff,Nat.reduceMul,Nat.reduceBEq]
  try simp
 ·obtain ⟨hkl,hok⟩:=hk
  by_cases hk1:k<s.size
  ·obtain ⟨R,hR⟩:∃ R:Int,((Utf8.decode s k).1:Int)=R:=⟨_,rfl⟩
   obtain ⟨W,hW⟩:∃ W,(Utf8.decode s k).2=W:=⟨_,rfl⟩
   have hstep:fX s (k+1)=yC k (dZ s k):=by simp [fX,hok]
   have hbl:=BP s k
   have key:(97≤R∧R≤122∨0<k∧(R=46∨48≤R∧R≤57))→W=1∧fX s (k+1)=true:=by
    intro h
    by_cases hb:dZ s k<128
    ·have:=uD hk1 hb
     rw [this] at hR hW
     have hR':R=dZ s k:=by simp at hR;omega
     refine ⟨hW.symm,?_⟩
     rw [hstep,yC,←hR']
     simp [inR]
     omega
    ·have:=DT hk1 (by omega)
     omega
   have key2:¬(97≤R∧R≤122∨0<k∧(R=46∨48≤R∧R≤57))→nF s=false:=by
    intro h
    have:fX s (k+1)=false:=by
     rw [hstep,yC]
     by_cases hb:dZ s k<128
     ·have:=uD hk1 hb
      rw [this] at hR hW
      have hR':R=dZ s k:=by simp at hR;omega
      rw [←hR']
      simp [inR]
      omega
     ·simp [inR];omega
    simp [nF,v6 s s.size (k+1) (by omega) this]
   have go:∀ (e:Env),W=1∧fX s (k+1)=true→Env.get e 0 = .str s→Env.get e 7 = .ptr 0 0→∃ s',(s'≤s.size∧fX s s'=true)∧s.size-s'<s.size-k∧aD [.siter s k] e [.siter s (k+W)] [(0,.str s),(7,.ptr 0 0)] [.siter s s']:=by
    intro e h e0 e7
    refine ⟨k+1,⟨by omega,h.2⟩,by omega,?_⟩
    try simp only [aD,QE,Nat.reduceLT,reduceIte,Nat.reduceEqDiff,Nat.reduceAdd,Nat.reduceLeDiff,Nat.reduceMul,Nat.reduceBEq,e0,e7,h.1]
    try simp [aN]
   (repeat (first|simp only [↓QA,QB,Nat.reduceLT,reduceIte,Nat.reduceEqDiff,Nat.reduceAdd,Nat.reduceLeDiff,Nat.reduceMul,Nat.reduceBEq,P1,OV hk1,hR,hW]|refine rd0 rfl ?_))
   cases h1:decide (97≤R)
   ·have h1':¬97≤R:=by simpa using h1
    (repeat (first|simp only [↓QA,QB,Nat.reduceLT,reduceIte,Nat.reduceEqDiff,Nat.reduceAdd,Nat.reduceLeDiff,Nat.reduceMul,Nat.reduceBEq,h1]|refine rd0 rfl ?_))
    cases h3:((k:Int)==0)
    ·have h3':0<k:=by simp at h3;omega
     (repeat (first|simp only [↓QA,QB,Nat.reduceLT,reduceIte,Nat.reduceEqDiff,Nat.reduceAdd,Nat.reduceLeDiff,Nat.reduceMul,Nat.reduceBEq,h3]|refine rd0 rfl ?_))
     cases h4:(R==46)
     ·have h4':R≠46:=by simpa using h4
      (repeat (first|simp only [↓QA,QB,Nat.reduceLT,reduceIte,Nat.reduceEqDiff,Nat.reduceAdd,Nat.reduceLeDiff,Nat.reduceMul,Nat.reduceBEq,h4]|refine rd0 rfl ?_))
      cases h5:decide (R<48)
      ·have h5':¬R<48:=by simpa using h5
       (repeat (first|simp only [↓QA,QB,Nat.reduceLT,reduceIte,Nat.reduceEqDiff,Nat.reduceAdd,Nat.reduceLeDiff,Nat.reduceMul,Nat.reduceBEq,h5]|refine rd0 rfl ?_))
       cases h6:decide (57<R)
       ·have h6':¬57<R:=by simpa using h6
        (repeat (first|simp only [↓QA,QB,Nat.reduceLT,reduceIte,Nat.reduceEqDiff,Nat.reduceAdd,Nat.reduceLeDiff,Nat.reduceMul,Nat.reduceBEq,h6]|refine rd0 rfl ?_))
        exact go _ (key (by omega)) (by try simp only [aD,QE,Nat.reduceLT,reduceIte,Nat.reduceEqDiff,Nat.reduceAdd,Nat.reduceLeDiff,Nat.reduceMul,Nat.reduceBEq]) (by try simp only [aD,QE,Nat.reduceLT,reduceIte,Nat.reduceEqDiff,Nat.reduceAdd,Nat.reduceLeDiff,Nat.reduceMul,Nat.reduceBEq])
       ·have h6':57<R:=by simpa using h6
        rw [key2 (by omega)]
        (repeat (first|simp only [↓QA,QB,Nat.reduceLT,reduceIte,Nat.reduceEqDiff,Nat.reduceAdd,Nat.reduceLeDiff,Nat.reduceMul,Nat.reduceBEq,h6]|refine rd0 rfl ?_))
      ·have h5':R<48:=by simpa using h5
       rw [key2 (by omega)]
       (repeat (first|simp only [↓QA,QB,Nat.reduceLT,reduceIte,Nat.reduceEqDiff,Nat.reduceAdd,Nat.reduceLeDiff,Nat.reduceMul,Nat.reduceBEq,h5]|refine rd0 rfl ?_))
     ·have h4':R=46:=by simpa using h4
      (repeat (first|simp only [↓QA,QB,Nat.reduceLT,reduceIte,Nat.reduceEqDiff,Nat.reduceAdd,Nat.reduceLeDiff,Nat.reduceMul,Nat.reduceBEq,h4]|refine rd0 rfl ?_))
      exact go _ (key (by omega)) (by try simp only [aD,QE,Nat.reduceLT,reduceIte,Nat.reduceEqDiff,Nat.reduceAdd,Nat.reduceLeDiff,Nat.reduceMul,Nat.reduceBEq]) (by try simp only [aD,QE,Nat.reduceLT,reduceIte,Nat.reduceEqDiff,Nat.reduceAdd,Nat.reduceLeDiff,Nat.reduceMul,Nat.reduceBEq])
    ·have h3':k=0:=by simp at h3;omega
     rw [key2 (by omega)]
     (repeat (first|simp only [↓QA,QB,Nat.reduceLT,reduceIte,Nat.reduceEqDiff,Nat.reduceAdd,Nat.reduceLeDiff,Nat.reduceMul,Nat.reduceBEq,h3]|refine rd0 rfl ?_))
   ·have h1':97≤R:=by simpa using h1
    (repeat (first|simp only [↓QA,QB,Nat.reduceLT,reduceIte,Nat.reduceEqDiff,Nat.reduceAdd,Nat.reduceLeDiff,Nat.reduceMul,Nat.reduceBEq,h1]|refine rd0 rfl ?_))
    cases h2:decide (R≤122)
    ·have h2':¬R≤122:=by simpa using h2
     (repeat (first|simp only [↓QA,QB,Nat.reduceLT,reduceIte,Nat.reduceEqDiff,Nat.reduceAdd,Nat.reduceLeDiff,Nat.reduceMul,Nat.reduceBEq,h2]|refine rd0 rfl ?_))
     cases h3:((k:Int)==0)
     ·have h3':0<k:=by simp at h3;omega
      (repeat (first|simp only [↓QA,QB,Nat.reduceLT,reduceIte,Nat.reduceEqDiff,Nat.reduceAdd,Nat.reduceLeDiff,Nat.reduceMul,Nat.reduceBEq,h3]|refine rd0 rfl ?_))
      cases h4:(R==46)
      ·have h4':R≠46:=by simpa using h4
       (repeat (first|simp only [↓QA,QB,Nat.reduceLT,reduceIte,Nat.reduceEqDiff,Nat.reduceAdd,Nat.reduceLeDiff,Nat.reduceMul,Nat.reduceBEq,h4]|refine rd0 rfl ?_))
       cases h5:decide (R<48)
       ·have h5':¬R<48:=by simpa using h5
        (repeat (first|simp only [↓QA,QB,Nat.reduceLT,reduceIte,Nat.reduceEqDiff,Nat.reduceAdd,Nat.reduceLeDiff,Nat.reduceMul,Nat.reduceBEq,h5]|refine rd0 rfl ?_))
        cases h6:decide (57<R)
        ·have h6':¬57<R:=by simpa using h6
         (repeat (first|simp only [↓QA,QB,Nat.reduceLT,reduceIte,Nat.reduceEqDiff,Nat.reduceAdd,Nat.reduceLeDiff,Nat.reduceMul,Nat.reduceBEq,h6]|refine rd0 rfl ?_))
         exact go _ (key (by omega)) (by try simp only [aD,QE,Nat.reduceLT,reduceIte,Nat.reduceEqDiff,Nat.reduceAdd,Nat.reduceLeDiff,Nat.reduceMul,Nat.reduceBEq]) (by try simp only [aD,QE,Nat.reduceLT,reduceIte,Nat.reduceEqDiff,Nat.reduceAdd,Nat.reduceLeDiff,Nat.reduceMul,Nat.reduceBEq])
        ·have h6':57<R:=by simpa using h6
         rw [key2 (by omega)]
         (repeat (first|simp only [↓QA,QB,Nat.reduceLT,reduceIte,Nat.reduceEqDiff,Nat.reduceAdd,Nat.reduceLeDiff,Nat.reduceMul,Nat.reduceBEq,h6]|refine rd0 rfl ?_))
       ·have h5':R<48:=by simpa using h5
        rw [key2 (by omega)]
        (repeat (first|simp only [↓QA,QB,Nat.reduceLT,reduceIte,Nat.reduceEqDiff,Nat.reduceAdd,Nat.reduceLeDiff,Nat.reduceMul,Nat.reduceBEq,h5]|refine rd0 rfl ?_))
      ·have h4':R=46:=by simpa using h4
       (repeat (first|simp only [↓QA,QB,Nat.reduceLT,reduceIte,Nat.reduceEqDiff,Nat.reduceAdd,Nat.reduceLeDiff,Nat.reduceMul,Nat.reduceBEq,h4]|refine rd0 rfl ?_))
       exact go _ (key (by omega)) (by try simp only [aD,QE,Nat.reduceLT,reduceIte,Nat.reduceEqDiff,Nat.reduceAdd,Nat.reduceLeDiff,Nat.reduceMul,Nat.reduceBEq]) (by try simp only [aD,QE,Nat.reduceLT,reduceIte,Nat.reduceEqDiff,Nat.reduceAdd,Nat.reduceLeDiff,Nat.reduceMul,Nat.reduceBEq])
     ·have h3':k=0:=by simp at h3;omega
      rw [key2 (by omega)]
      (repeat (first|simp only [↓QA,QB,Nat.reduceLT,reduceIte,Nat.reduceEqDiff,Nat.reduceAdd,Nat.reduceLeDiff,Nat.reduceMul,Nat.reduceBEq,h3]|refine rd0 rfl ?_))
    ·have h2':R≤122:=by simpa using h2
     (repeat (first|simp only [↓QA,QB,Nat.reduceLT,reduceIte,Nat.reduceEqDiff,Nat.reduceAdd,Nat.reduceLeDiff,Nat.reduceMul,Nat.reduceBEq,h2]|refine rd0 rfl ?_))
     exact go _ (key (by omega)) (by try simp only [aD,QE,Nat.reduceLT,reduceIte,Nat.reduceEqDiff,Nat.reduceAdd,Nat.reduceLeDiff,Nat.reduceMul,Nat.reduceBEq]) (by try simp only [aD,QE,Nat.reduceLT,reduceIte,Nat.reduceEqDiff,Nat.reduceAdd,Nat.reduceLeDiff,Nat.reduceMul,Nat.reduceBEq])
  ·have hk2:k=s.size:=by omega
   (repeat (first|simp only [↓QA,QB,Nat.reduceLT,reduceIte,Nat.reduceEqDiff,Nat.reduceAdd,Nat.reduceLeDiff,Nat.reduceMul,Nat.reduceBEq,P1,QG hk1]|refine rd0 rfl ?_))
   ((first|refine d8 (PX 1 16 [(s.size:Int)] (by simp)) (by simp [clr,clrs,ints]) (by simp [okV,okVs]) ?_|refine eS (PX 1 16 [(s.size:Int)] (by simp)) (by simp [clr,clrs,ints]) (by simp [okV,okVs]) ?_);(repeat (first|simp only [↓QA,QB,Nat.reduceLT,reduceIte,Nat.reduceEqDiff,Nat.reduceAdd,Nat.reduceLeDiff,Nat.reduceMul,Nat.reduceBEq]|refine rd0 rfl ?_)))
   rw [iK]
   (repeat (first|simp only [↓QA,QB,Nat.reduceLT,reduceIte,Nat.reduceEqDiff,Nat.reduceAdd,Nat.reduceLeDiff,Nat.reduceMul,Nat.reduceBEq]|refine rd0 rfl ?_))
   simp [nF,←hk2,hok]
def sQ (x:Int×Int):AV:=.tuple [.int .i64 x.1,.int .i64 x.2]
theorem xH {α:Type} (f:α→ByteArray) (s:ByteArray):∀ l:List α,l.any (fun x=>decide (f x=s))=decide (iO s (l.map f)≠(l.map f).length)
 |[]=>by simp [iO]
 |x::xs=>by
  simp only [List.any_cons,xH f s xs,List.map_cons,iO,List.length_cons]
  by_cases h:f x=s
  ·simp [h]
  ·simp [h]
end Go.Am.Room
set_option maxRecDepth 4000
namespace Go.Am.Room
def dS:=And.intro @Int.toNat_natCast (@List.length_append.{0})
theorem tH (n:Int):d6 T 121 [.int .i64 n] (.bool false):=by
 refine aZ (af:=a121) rfl (by simp [a121]) dd ?_
 (repeat (first|simp only [↓QA,QB,Nat.reduceLT,reduceIte,Nat.reduceEqDiff,Nat.reduceAdd,Nat.reduceLeDiff,Nat.reduceMul,Nat.reduceBEq,dS,a121]|refine rd0 rfl ?_))
 try simp
def zT (a b:Int):Int:=if a<b then -1 else if b<a then 1 else 0
theorem OG (a b:Int):d6 T 113 [.int .i64 a,.int .i64 b] (.int .i64 (zT a b)):=by
 refine aZ (af:=a113) rfl (by simp [a113]) dd ?_
 (repeat (first|simp only [↓QA,QB,Nat.reduceLT,reduceIte,Nat.reduceEqDiff,Nat.reduceAdd,Nat.reduceLeDiff,Nat.reduceMul,Nat.reduceBEq,dS,a113]|refine rd0 rfl ?_))
 ((first|refine aF (tH a) rfl dd ?_|refine aG (tH a) rfl dd ?_);(repeat (first|simp only [↓QA,QB,Nat.reduceLT,reduceIte,Nat.reduceEqDiff,Nat.reduceAdd,Nat.reduceLeDiff,Nat.reduceMul,Nat.reduceBEq,dS]|refine rd0 rfl ?_)))
 ((first|refine aF (tH b) rfl dd ?_|refine aG (tH b) rfl dd ?_);(repeat (first|simp only [↓QA,QB,Nat.reduceLT,reduceIte,Nat.reduceEqDiff,Nat.reduceAdd,Nat.reduceLeDiff,Nat.reduceMul,Nat.reduceBEq,dS]|refine rd0 rfl ?_)))
 cases h1:decide (a<b)
 ·have h1':¬a<b:=by simpa using h1
  (repeat (first|simp only [↓QA,QB,Nat.reduceLT,reduceIte,Nat.reduceEqDiff,Nat.reduceAdd,Nat.reduceLeDiff,Nat.reduceMul,Nat.reduceBEq,dS]|refine rd0 rfl ?_))
  cases h2:decide (b<a)
  ·have h2':¬b<a:=by simpa using h2
   (repeat (first|simp only [↓QA,QB,Nat.reduceLT,reduceIte,Nat.reduceEqDiff,Nat.reduceAdd,Nat.reduceLeDiff,Nat.reduceMul,Nat.reduceBEq,dS]|refine rd0 rfl ?_))
   simp [zT,h1',h2']
  ·have h2':b<a:=by simpa using h2
   (repeat (first|simp only [↓QA,QB,Nat.reduceLT,reduceIte,Nat.reduceEqDiff,Nat.reduceAdd,Nat.reduceLeDiff,Nat.reduceMul,Nat.reduceBEq,dS]|refine rd0 rfl ?_))
   simp [zT,h1',h2']
 ·have h1':a<b:=by simpa using h1
  (repeat (first|simp only [↓QA,QB,Nat.reduceLT,reduceIte,Nat.reduceEqDiff,Nat.reduceAdd,Nat.reduceLeDiff,Nat.reduceMul,Nat.reduceBEq,dS]|refine rd0 rfl ?_))
  simp [zT,h1']
def AA:List Int→List Int→Int
 |[],[]=>0
 |[],_::_=>-1
 |_::_,[]=>1
 |a::az,b::bs=>if zT a b=0 then AA az bs else zT a b
theorem BW:∀ a b:List Int,decide (0<AA a b)=less b a
 |[],[]=>rfl
 |[],b::bs=>rfl
 |a::az,[]=>rfl
 |a::az,b::bs=>by
  have ih:=BW az bs
  simp only [AA,less,zT]
  by_cases h1:a<b
  ·simp [h1,show ¬b=a by omega];omega
  ·by_cases h2:b<a
   ·simp [h1,h2,show ¬b=a by omega]
   ·have:b=a:=by omega
    subst this
    simp [ih]
theorem JL (a b:List Int) (ha:a.length<9223372036854775808) (hb:b.length<9223372036854775808):d6 T 91 [ints a,ints b] (.int .i64 (AA a b)):=by
 refine aZ (af:=a91) rfl (by simp [a91]) dd ?_
 (repeat (first|simp only [↓QA,QB,Nat.reduceLT,reduceIte,Nat.reduceEqDiff,Nat.reduceAdd,Nat.reduceLeDiff,Nat.reduceMul,Nat.reduceBEq,dS,a91]|refine rd0 rfl ?_))
 refine dF (S:=Nat) 0 (fun k=>k≤a.length∧k≤b.length∧AA (a.drop k) (b.drop k)=AA a b) (fun k=>a.length-k) (fun k=>[(0,ints a),(1,ints b),(9,ints a),(10,.int .i64 a.length),(11,.int .i64 k)]) (fun _=>[]) ⟨by simp,by simp,by simp⟩ rfl ?_ fun k hk=>?_
 ·try simp only [aD,QE,Nat.reduceLT,reduceIte,Nat.reduceEqDiff,Nat.reduceAdd,Nat.reduceLeDiff,Nat.reduceMul,Nat.reduceBEq,dS]
  try simp
 ·obtain ⟨hk,hkb,hq⟩:=hk
  (repeat (first|simp only [↓QA,QB,Nat.reduceLT,reduceIte,Nat.reduceEqDiff,Nat.reduceAdd,Nat.reduceLeDiff,Nat.reduceMul,Nat.reduceBEq,dS,VV]|refine rd0 rfl ?_))
  refine aI (fun h=>?_) fun h=>?_
  ·have hk1:k<a.length:=by simpa using h
   have hw:=cR hk1 ha
   rw [List.drop_eq_getElem_cons hk1] at hq
   (repeat (first|simp only [↓QA,QB,Nat.reduceLT,reduceIte,Nat.reduceEqDiff,Nat.reduceAdd,Nat.reduceLeDiff,Nat.reduceMul,Nat.reduceBEq,dS,hk1]|refine rd0 rfl ?_))
   refine aI (fun h2=>?_) fun h2=>?_
   ·have hk2:k=b.length:=by simp at h2;omega
    have hd:b.drop k=[]:=by rw [hk2,List.drop_length]
    rw [hd] at hq
    simp only [AA] at hq
    (repeat (first|simp only [↓QA,QB,Nat.reduceLT,reduceIte,Nat.reduceEqDiff,Nat.reduceAdd,Nat.reduceLeDiff,Nat.reduceMul,Nat.reduceBEq,dS,hk1,←hq]|refine rd0 rfl ?_))
   ·have hk2:k<b.length:=by simp at h2;omega
    rw [List.drop_eq_getElem_cons hk2] at hq
    simp only [AA] at hq
    (repeat (first|simp only [↓QA,QB,Nat.reduceLT,reduceIte,Nat.reduceEqDiff,Nat.reduceAdd,Nat.reduceLeDiff,Nat.reduceMul,Nat.reduceBEq,dS,hk1,hk2]|refine rd0 rfl ?_))
    ((first|refine aF (OG a[k] b[k]) rfl dd ?_|refine aG (OG a[k] b[k]) rfl dd ?_);(repeat (first|simp only [↓QA,QB,Nat.reduceLT,reduceIte,Nat.reduceEqDiff,Nat.reduceAdd,Nat.reduceLeDiff,Nat.reduceMul,Nat.reduceBEq,dS,hk1,hk2]|refine rd0 rfl ?_)))
    cases h3:(zT a[k] b[k]==0)
    ·have h3':zT a[k] b[k]≠0:=by simpa using h3
     rw [if_neg h3'] at hq
     (repeat (first|simp only [↓QA,QB,Nat.reduceLT,reduceIte,Nat.reduceEqDiff,Nat.reduceAdd,Nat.reduceLeDiff,Nat.reduceMul,Nat.reduceBEq,dS,h3,hk1,hk2,hq]|refine rd0 rfl ?_))
    ·have h3':zT a[k] b[k]=0:=by simpa using h3
     rw [if_pos h3'] at hq
     (repeat (first|simp only [↓QA,QB,Nat.reduceLT,reduceIte,Nat.reduceEqDiff,Nat.reduceAdd,Nat.reduceLeDiff,Nat.reduceMul,Nat.reduceBEq,dS,h3,hk1,hk2]|refine rd0 rfl ?_))
     refine ⟨k+1,⟨by omega,by omega,hq⟩,by omega,?_⟩
     try simp only [aD,QE,Nat.reduceLT,reduceIte,Nat.reduceEqDiff,Nat.reduceAdd,Nat.reduceLeDiff,Nat.reduceMul,Nat.reduceBEq,dS,hw]
  ·have hk1:k=a.length:=by simp at h;omega
   rw [hk1,List.drop_length] at hq
   (repeat (first|simp only [↓QA,QB,Nat.reduceLT,reduceIte,Nat.reduceEqDiff,Nat.reduceAdd,Nat.reduceLeDiff,Nat.reduceMul,Nat.reduceBEq,dS]|refine rd0 rfl ?_))
   refine aI (fun h2=>?_) fun h2=>?_
   ·have hk2:a.length<b.length:=by simpa using h2
    rw [List.drop_eq_getElem_cons hk2] at hq
    (repeat (first|simp only [↓QA,QB,Nat.reduceLT,reduceIte,Nat.reduceEqDiff,Nat.reduceAdd,Nat.reduceLeDiff,Nat.reduceMul,Nat.reduceBEq,dS,←hq,AA]|refine rd0 rfl ?_))
   ·have hk2:a.length=b.length:=by simp at h2;omega
    rw [hk2,List.drop_length] at hq
    (repeat (first|simp only [↓QA,QB,Nat.reduceLT,reduceIte,Nat.reduceEqDiff,Nat.reduceAdd,Nat.reduceLeDiff,Nat.reduceMul,Nat.reduceBEq,dS,←hq,AA]|refine rd0 rfl ?_))
theorem rS (s n:Nat) (hs:s<9223372036854775808) (hn:n≤60):d6 T 85 [.int .i64 s,.int .i64 n] (ints (lst n s)):=by
 refine aZ (af:=a85) rfl (by simp [a85]) dd ?_
 (repeat (first|simp only [↓QA,QB,Nat.reduceLT,reduceIte,Nat.reduceEqDiff,Nat.reduceAdd,Nat.reduceLeDiff,Nat.reduceMul,Nat.reduceBEq,dS,a85]|refine rd0 rfl ?_))
 obtain ⟨R,hRR⟩:∃ R,lst n s=R:=⟨_,rfl⟩
 have hRR':[]++(aO ((0:Nat):Int) (n-0)).filter (fun i=>decide (s/2^i.toNat%2=1))=R:=hRR
 rw [hRR]
 refine pU 4 1 [] rfl ?_
 refine dF (S:=Nat×List Int×Bool) (0,[],false) (fun x=>x.1≤n∧x.2.1.length≤x.1∧x.2.1++(aO (x.1:Int) (n-x.1)).filter (fun i=>decide (s/2^i.toNat%2=1))=R) (fun x=>n-x.1)
  (fun x=>[(0,.int .i64 s),(4,.lit (x.2.1.map (.int .i64)) false (some 0)),(6,.int .i64 n),(7,.int .i64 x.1)]) (fun x=>[.tok 1 x.2.1.length x.2.2]) ⟨by simp,by simp,hRR'⟩ rfl ?_ fun x hx=>?_
 ·try simp only [aD,QE,Nat.reduceLT,reduceIte,Nat.reduceEqDiff,Nat.reduceAdd,Nat.reduceLeDiff,Nat.reduceMul,Nat.reduceBEq,dS]
  try simp
 ·obtain ⟨k,acc,ex⟩:=x
  obtain ⟨hk,hal,hacc⟩:=hx
  simp only at hk hal hacc
  (repeat (first|simp only [↓QA,QB,Nat.reduceLT,reduceIte,Nat.reduceEqDiff,Nat.reduceAdd,Nat.reduceLeDiff,Nat.reduceMul,Nat.reduceBEq,dS,U8]|refine rd0 rfl ?_))
  refine aI (fun h=>?_) fun h=>?_
  ·have hk1:k<n:=by simpa using h
   have hw:=cR hk1 (by omega)
   rw [show n-k=(n-(k+1))+1 by omega] at hacc
   simp only [aO,List.filter_cons,Int.toNat_natCast] at hacc
   rw [show ((k:Int)+1)=((k+1:Nat):Int) by omega] at hacc
   have vs:=NG s k (by omega)
   have va:=HA (s/2^k) (Nat.lt_of_le_of_lt (Nat.div_le_self _ _) hs)
   have hbit:(((s/2^k%2:Nat):Int)==1)=decide (s/2^k%2=1):=by
    generalize s/2^k%2=q
    rw [Bool.eq_iff_iff,beq_iff_eq,decide_eq_true_eq];omega
   (repeat (first|simp only [↓QA,QB,Nat.reduceLT,reduceIte,Nat.reduceEqDiff,Nat.reduceAdd,Nat.reduceLeDiff,Nat.reduceMul,Nat.reduceBEq,dS,vs,va,hbit]|refine rd0 rfl ?_))
   cases hb:decide (s/2^k%2=1)
   ·simp only [hb,Bool.false_eq_true,if_false] at hacc
    (repeat (first|simp only [↓QA,QB,Nat.reduceLT,reduceIte,Nat.reduceEqDiff,Nat.reduceAdd,Nat.reduceLeDiff,Nat.reduceMul,Nat.reduceBEq,dS,hw]|refine rd0 rfl ?_))
    refine ⟨(k+1,acc,ex),⟨by simp only;omega,by simp only;omega,by simpa using hacc⟩,by simp only;omega,?_⟩
    try simp only [aD,QE,Nat.reduceLT,reduceIte,Nat.reduceEqDiff,Nat.reduceAdd,Nat.reduceLeDiff,Nat.reduceMul,Nat.reduceBEq,dS,hw,nE]
    try simp [aN]
   ·simp only [hb,if_true] at hacc
    have hap:=fun (τ:St)=>pM (σ:=.tok 1 acc.length ex::τ) (l:=acc) (a:=(k:Int)) (ex:=ex) (t:=0) (by omega) rfl
    (repeat (first|simp only [↓QA,QB,Nat.reduceLT,reduceIte,Nat.reduceEqDiff,Nat.reduceAdd,Nat.reduceLeDiff,Nat.reduceMul,Nat.reduceBEq,dS,hw,hap]|refine rd0 rfl ?_))
    refine ⟨(k+1,acc++[(k:Int)],true),⟨by simp only;omega,by simp only [List.length_append,List.length_cons,List.length_nil];omega,by
     rw [←hacc];simp⟩,by simp only;omega,?_⟩
    try simp only [aD,QE,Nat.reduceLT,reduceIte,Nat.reduceEqDiff,Nat.reduceAdd,Nat.reduceLeDiff,Nat.reduceMul,Nat.reduceBEq,dS,hw,nE,List.map_append,List.map_cons,List.map_nil]
    try simp [aN]
  ·have hk1:k=n:=by simp at h;omega
   rw [hk1] at hacc
   simp only [Nat.sub_self,aO,List.filter_nil,List.append_nil] at hacc
   (repeat (first|simp only [↓QA,QB,Nat.reduceLT,reduceIte,Nat.reduceEqDiff,Nat.reduceAdd,Nat.reduceLeDiff,Nat.reduceMul,Nat.reduceBEq,dS,hacc,ints]|refine rd0 rfl ?_))
end Go.Am.Room
set_option maxRecDepth 4000
namespace Go.Am.Room
def cC:=And.intro @bD (And.intro @aK (And.intro @aU (And.intro @aV (And.intro @aT (And.intro @aR (And.intro @a9 (And.intro @aY (And.intro @aW (And.intro @dV (And.intro @dR (@Nat.not_lt_zero)))))))))))
theorem NX (r:Rail) (s:Int):d6 T 102 [dD r,.int .i64 s] (.int .i64 (cA r s)):=by
 refine aZ (af:=a102) rfl (by simp [a102]) dd ?_
 (repeat (first|simp only [↓QA,QB,Nat.reduceLT,reduceIte,Nat.reduceEqDiff,Nat.reduceAdd,Nat.reduceLeDiff,Nat.reduceMul,Nat.reduceBEq,cC,a102]|refine rd0 rfl ?_))
 cases h1:(s==r.a)
 ·have h1':s≠r.a:=by simpa using h1
  (repeat (first|simp only [↓QA,QB,Nat.reduceLT,reduceIte,Nat.reduceEqDiff,Nat.reduceAdd,Nat.reduceLeDiff,Nat.reduceMul,Nat.reduceBEq,cC,h1]|refine rd0 rfl ?_))
  cases h2:(s==r.b)
  ·have h2':s≠r.b:=by simpa using h2
   (repeat (first|simp only [↓QA,QB,Nat.reduceLT,reduceIte,Nat.reduceEqDiff,Nat.reduceAdd,Nat.reduceLeDiff,Nat.reduceMul,Nat.reduceBEq,cC,h2]|refine rd0 rfl ?_))
   simp [cA,h1',h2']
  ·have h2':s=r.b:=by simpa using h2
   (repeat (first|simp only [↓QA,QB,Nat.reduceLT,reduceIte,Nat.reduceEqDiff,Nat.reduceAdd,Nat.reduceLeDiff,Nat.reduceMul,Nat.reduceBEq,cC,h2]|refine rd0 rfl ?_))
   simp only [cA,if_neg h1',if_pos h2']
 ·have h1':s=r.a:=by simpa using h1
  (repeat (first|simp only [↓QA,QB,Nat.reduceLT,reduceIte,Nat.reduceEqDiff,Nat.reduceAdd,Nat.reduceLeDiff,Nat.reduceMul,Nat.reduceBEq,cC,h1]|refine rd0 rfl ?_))
  simp only [cA,if_pos h1']
structure MetIs (b:Nat) (met:List Int):Prop where
 lt:b<2^6
 bit:∀ i:Nat,i<6→b.testBit i=met.contains (i:Int)
theorem JE {b:Nat} {met:List Int} (h:MetIs b met) {x:Nat} (hx:x<6):MetIs (b|||2^x) (met++[(x:Int)]):=by
 refine ⟨Nat.or_lt_two_pow h.lt (Nat.pow_lt_pow_right (by omega) hx),fun i hi=>?_⟩
 rw [Nat.testBit_or,h.bit i hi,Nat.testBit_two_pow,Bool.eq_iff_iff]
 simp
 rw [or_congr_right]
 omega
theorem S7 {x:Nat} (hx:x<6):MetIs (2^x) [(x:Int)]:=by
 have:=JE (b:=0) (met:=[]) ⟨by simp,fun i _=>by simp⟩ hx
 simpa using this
theorem UI {b:Nat} {met:List Int} (h:MetIs b met) {i:Nat} (hi:i<6):(((b/2^i%2:Nat):Int)==0) = !met.contains (i:Int):=by
 have e:(((b/2^i%2:Nat):Int)==0) = !b.testBit i:=by
  rw [s9,C9,Bool.eq_iff_iff]
  simp
 rw [e,h.bit i hi]
theorem R8 {v:Net} {r:Rail} (h:RailOk v r) (s:Int):-1≤cA r s∧cA r s<v.stations:=by
 have h1:=h.a
 have h2:=h.b
 unfold cA
 split
 ·omega
 ·split<;>omega
theorem KH {v:Net} {p:List Int} {k:Nat} (hk:k<p.length) (s:Int) (met:List Int):eM v (p.drop k) s met=if s=0∨cA (cB v p[k]) s<0∨met.contains (cA (cB v p[k]) s)=true then none else eM v (p.drop (k+1)) (cA (cB v p[k]) s) (met++[cA (cB v p[k]) s]):=by
 rw [List.drop_eq_getElem_cons hk,eM]
def whB (o:Option Int) (p:List Int):Bool:=match o with|some o=>o==0&&!p.isEmpty|none=>false
def bgB (o:Option Int):Bool:=match o with|some o=>!(o==0)|none=>false
theorem BR (v:Net) (hst:2≤v.stations∧v.stations≤5) (hra:∀ r∈v.rails,RailOk v r) (s:Nat) (hs:s<5) (p:List Int) (hp:∀ r∈p,0≤r∧r<v.rails.length) (hl:p.length<9223372036854775808) :
  d6 T 71 [dK v,.int .i64 s,ints p] (.tuple [.bool (gN v s p),.bool (eD v s p)]):=by
 refine aZ (af:=a71) rfl (by simp [a71]) dd ?_
 obtain ⟨R,hR⟩:∃ R,eM v p s [(s:Int)]=R:=⟨_,rfl⟩
 have hwb:gN v s p=whB R p:=by rw [←hR];rfl
 have hbb:eD v s p=bgB R:=by rw [←hR];rfl
 rw [hwb,hbb]
 have hsh:=sI s (by omega)
 (repeat (first|simp only [↓QA,QB,Nat.reduceLT,reduceIte,Nat.reduceEqDiff,Nat.reduceAdd,Nat.reduceLeDiff,Nat.reduceMul,Nat.reduceBEq,cC,a71,hsh]|refine rd0 rfl ?_))
 refine dF (S:=Nat×Nat×Nat×List Int) (0,s,2^s,[(s:Int)]) (fun a=>a.1≤p.length∧a.2.1<5∧MetIs a.2.2.1 a.2.2.2∧eM v (p.drop a.1) (a.2.1:Int) a.2.2.2=R) (fun a=>p.length-a.1)
  (fun a=>[(1,.int .i64 (a.2.1:Nat)),(2,ints p),(3,.ptr 0 0),(8,.int .i64 (a.2.2.1:Nat)),(13,ints p),(14,.int .i64 p.length),(15,.int .i64 a.1)]) (fun a=>[.cells (aB v)]) ⟨Nat.zero_le _,hs,S7 (by omega),by simpa using hR⟩ (by simp [aB,ints]) ?_ fun a ha=>?_
 ·try simp only [aD,QE,Nat.reduceLT,reduceIte,Nat.reduceEqDiff,Nat.reduceAdd,Nat.reduceLeDiff,Nat.reduceMul,Nat.reduceBEq,cC,ints]
  try simp
 ·obtain ⟨k,c,b,met⟩:=a
  obtain ⟨hk,hc,hm,hq⟩:=ha
  simp only at hk hc hm hq
  (repeat (first|simp only [↓QA,QB,Nat.reduceLT,reduceIte,Nat.reduceEqDiff,Nat.reduceAdd,Nat.reduceLeDiff,Nat.reduceMul,Nat.reduceBEq,cC,UU]|refine rd0 rfl ?_))
  refine aI (fun h=>?_) fun h=>?_
  ·have hk1:k<p.length:=by simpa using h
   have hw:=cR hk1 hl
   rw [KH hk1] at hq
   have hpk:=hp _ (List.getElem_mem hk1)
   obtain ⟨r,hr⟩:∃ r:Nat,p[k]=(r:Int):=⟨p[k].toNat,by omega⟩
   rw [hr] at hpk hq
   have hr1:r<v.rails.length:=by omega
   rw [wQ hr1] at hq
   have hro:=hra _ (List.getElem_mem hr1)
   obtain ⟨z,hz⟩:∃ z,v.rails[r]=z:=⟨_,rfl⟩
   rw [hz] at hq hro
   have hov:=NX z c
   have hoi:=R8 hro (c:Int)
   obtain ⟨o,ho⟩:∃ o,cA z (c:Int)=o:=⟨_,rfl⟩
   rw [ho] at hq hov hoi
   have hc0:((c:Int)==0)=decide (c=0):=C9 c
   (repeat (first|simp only [↓QA,QB,Nat.reduceLT,reduceIte,Nat.reduceEqDiff,Nat.reduceAdd,Nat.reduceLeDiff,Nat.reduceMul,Nat.reduceBEq,cC,hk1,hr]|refine rd0 rfl ?_))
   cases q1:((c:Int)==0)
   ·have q1':¬(c:Int)=0:=by simpa using q1
    (repeat (first|simp only [↓QA,QB,Nat.reduceLT,reduceIte,Nat.reduceEqDiff,Nat.reduceAdd,Nat.reduceLeDiff,Nat.reduceMul,Nat.reduceBEq,cC,hr1,hz]|refine rd0 rfl ?_))
    ((first|refine aF (hov) rfl dd ?_|refine aG (hov) rfl dd ?_);(repeat (first|simp only [↓QA,QB,Nat.reduceLT,reduceIte,Nat.reduceEqDiff,Nat.reduceAdd,Nat.reduceLeDiff,Nat.reduceMul,Nat.reduceBEq,cC,hr1,hz]|refine rd0 rfl ?_)))
    cases q2:decide ((0:Int)≤o)
    ·have q2':¬0≤o:=by simpa using q2
     rw [if_pos (.inr (.inl (by omega)))] at hq
     (repeat (first|simp only [↓QA,QB,Nat.reduceLT,reduceIte,Nat.reduceEqDiff,Nat.reduceAdd,Nat.reduceLeDiff,Nat.reduceMul,Nat.reduceBEq,cC,q2]|refine rd0 rfl ?_))
     rw [←hq]
     try rfl
    ·have q2':0≤o:=by simpa using q2
     obtain ⟨O,rfl⟩:∃ O:Nat,o=(O:Int):=⟨o.toNat,by omega⟩
     have hO:O<5:=by omega
     have hb:=hm.lt
     have vs:=NG b O (by omega)
     have va:=HA (b/2^O) (Nat.lt_of_le_of_lt (Nat.div_le_self _ _) (by omega))
     have vb:=UI hm (show O<6 by omega)
     have hsh:=sI O (by omega)
     have hp2:=iW (show O≤60 by omega)
     have hor:=ZU b (2^O) (by omega) (by omega)
     cases q3:met.contains (O:Int)
     ·rw [q3] at vb
      rw [if_neg (by rw [not_or,not_or];exact ⟨q1',by omega,by rw [q3];simp⟩)] at hq
      (repeat (first|simp only [↓QA,QB,Nat.reduceLT,reduceIte,Nat.reduceEqDiff,Nat.reduceAdd,Nat.reduceLeDiff,Nat.reduceMul,Nat.reduceBEq,cC,q2,vs,va,vb,hsh,hor,hw]|refine rd0 rfl ?_))
      refine ⟨(k+1,O,b|||2^O,met++[(O:Int)]),⟨by simp only;omega,hO,JE hm (by omega),hq⟩,by simp only;omega,?_⟩
      try simp only [aD,QE,Nat.reduceLT,reduceIte,Nat.reduceEqDiff,Nat.reduceAdd,Nat.reduceLeDiff,Nat.reduceMul,Nat.reduceBEq,cC,hw,ints]
      try simp [aN]
     ·rw [q3] at vb
      rw [if_pos (.inr (.inr q3))] at hq
      (repeat (first|simp only [↓QA,QB,Nat.reduceLT,reduceIte,Nat.reduceEqDiff,Nat.reduceAdd,Nat.reduceLeDiff,Nat.reduceMul,Nat.reduceBEq,cC,q2,vs,va,vb]|refine rd0 rfl ?_))
      rw [←hq]
      try rfl
   ·have q1':(c:Int)=0:=by simpa using q1
    rw [if_pos (.inl q1')] at hq
    (repeat (first|simp only [↓QA,QB,Nat.reduceLT,reduceIte,Nat.reduceEqDiff,Nat.reduceAdd,Nat.reduceLeDiff,Nat.reduceMul,Nat.reduceBEq,cC]|refine rd0 rfl ?_))
    rw [←hq]
    try rfl
  ·have hk1:k=p.length:=by
    have:¬k<p.length:=by simpa using h
    omega
   rw [hk1,List.drop_length,eM] at hq
   have hle:decide ((0:Int)<(p.length:Int)) = !p.isEmpty:=by cases p<;>simp
   cases q1:((c:Int)==0)
   ·(repeat (first|simp only [↓QA,QB,Nat.reduceLT,reduceIte,Nat.reduceEqDiff,Nat.reduceAdd,Nat.reduceLeDiff,Nat.reduceMul,Nat.reduceBEq,cC,q1]|refine rd0 rfl ?_))
    rw [←hq]
    simp only [whB,bgB,q1]
    try rfl
   ·(repeat (first|simp only [↓QA,QB,Nat.reduceLT,reduceIte,Nat.reduceEqDiff,Nat.reduceAdd,Nat.reduceLeDiff,Nat.reduceMul,Nat.reduceBEq,cC,q1,hle]|refine rd0 rfl ?_))
    rw [←hq]
    simp only [whB,bgB,q1]
    try rfl
theorem MY (σ:St) (f:AV) (l:List Tram) (p:Tram→Bool) (hl:l.length<9223372036854775808) (hk:rY σ f) (h:∀ x∈l,iC T f [cE x] σ (.bool (p x))):iC T (.func 101 [] []) [.lit (l.map cE) false none,f] σ (.int .i64 (lV p l 0)):=by
 refine dY (af:=a101) rfl (by simp [a101]) ?_
 have hk0:=hk.nil
 (repeat (first|simp only [↓QA,QB,Nat.reduceLT,reduceIte,Nat.reduceEqDiff,Nat.reduceAdd,Nat.reduceLeDiff,Nat.reduceMul,Nat.reduceBEq,cC,a101]|refine rd0 rfl ?_))
 refine dF (S:=Nat) 0 (fun k=>k≤l.length∧lV p (l.drop k) k=lV p l 0) (fun k=>l.length-k) (fun k=>[(0,.lit (l.map cE) false none),(1,f),(7,.int .i64 l.length),(8,.int .i64 k)]) (fun _=>σ) ⟨Nat.zero_le _,by simp⟩ rfl ?_ fun k hk1=>?_
 ·try simp only [aD,QE,Nat.reduceLT,reduceIte,Nat.reduceEqDiff,Nat.reduceAdd,Nat.reduceLeDiff,Nat.reduceMul,Nat.reduceBEq,cC]
  try simp
 ·obtain ⟨hkl,hi⟩:=hk1
  (repeat (first|simp only [↓QA,QB,Nat.reduceLT,reduceIte,Nat.reduceEqDiff,Nat.reduceAdd,Nat.reduceLeDiff,Nat.reduceMul,Nat.reduceBEq,cC,NK]|refine rd0 rfl ?_))
  refine aI (fun hd=>?_) fun hd=>?_
  ·have hlt:k<l.length:=by simpa using hd
   rw [List.drop_eq_getElem_cons hlt] at hi
   simp only [lV] at hi
   have hw:=cR hlt hl
   (repeat (first|simp only [↓QA,QB,Nat.reduceLT,reduceIte,Nat.reduceEqDiff,Nat.reduceAdd,Nat.reduceLeDiff,Nat.reduceMul,Nat.reduceBEq,cC,hlt]|refine rd0 rfl ?_))
   refine bM (h l[k] (List.getElem_mem hlt)) ?_
   (repeat (first|simp only [↓QA,QB,Nat.reduceLT,reduceIte,Nat.reduceEqDiff,Nat.reduceAdd,Nat.reduceLeDiff,Nat.reduceMul,Nat.reduceBEq,cC]|refine rd0 rfl ?_))
   cases hp:p l[k]
   ·(repeat (first|simp only [↓QA,QB,Nat.reduceLT,reduceIte,Nat.reduceEqDiff,Nat.reduceAdd,Nat.reduceLeDiff,Nat.reduceMul,Nat.reduceBEq,cC,hw]|refine rd0 rfl ?_))
    refine ⟨k+1,⟨by omega,by rw [←hi,hp];rfl⟩,by omega,?_⟩
    try simp only [aD,QE,Nat.reduceLT,reduceIte,Nat.reduceEqDiff,Nat.reduceAdd,Nat.reduceLeDiff,Nat.reduceMul,Nat.reduceBEq,cC,hw,hk0,Nat.le_refl,aY]
   ·(repeat (first|simp only [↓QA,QB,Nat.reduceLT,reduceIte,Nat.reduceEqDiff,Nat.reduceAdd,Nat.reduceLeDiff,Nat.reduceMul,Nat.reduceBEq,cC]|refine rd0 rfl ?_))
    refine eI [] (by first|rfl|simp) ?_
    rw [←hi,hp]
    try simp only [QS,QC,Nat.reduceLT,reduceIte,Nat.reduceEqDiff,Nat.reduceAdd,Nat.reduceLeDiff,Nat.reduceMul,Nat.reduceBEq,cC]
  ·have hlt:k=l.length:=by simp at hd;omega
   (repeat (first|simp only [↓QA,QB,Nat.reduceLT,reduceIte,Nat.reduceEqDiff,Nat.reduceAdd,Nat.reduceLeDiff,Nat.reduceMul,Nat.reduceBEq,cC]|refine rd0 rfl ?_))
   refine eI [] (by first|rfl|simp) ?_
   rw [←hi,hlt,List.drop_length]
   try simp only [QS,QC,Nat.reduceLT,reduceIte,Nat.reduceEqDiff,Nat.reduceAdd,Nat.reduceLeDiff,Nat.reduceMul,Nat.reduceBEq,cC,lV]
theorem FE (σ:St) (f:AV) (l:List Tram) (p:Tram→Bool) (hl:l.length<9223372036854775808) (hk:rY σ f) (h:∀ x∈l,iC T f [cE x] σ (.bool (p x))):iC T (.func 69 [] []) [.lit (l.map cE) false none,f] σ (.bool (l.any p)):=by
 refine dY (af:=a69) rfl (by simp [a69]) ?_
 (repeat (first|simp only [↓QA,QB,Nat.reduceLT,reduceIte,Nat.reduceEqDiff,Nat.reduceAdd,Nat.reduceLeDiff,Nat.reduceMul,Nat.reduceBEq,cC,a69]|refine rd0 rfl ?_))
 refine bM (MY σ f l p hl hk h) ?_
 (repeat (first|simp only [↓QA,QB,Nat.reduceLT,reduceIte,Nat.reduceEqDiff,Nat.reduceAdd,Nat.reduceLeDiff,Nat.reduceMul,Nat.reduceBEq,cC]|refine rd0 rfl ?_))
 refine eI [] (by first|rfl|simp) ?_
 rw [←vB p l 0]
 try simp only [QS,QC,Nat.reduceLT,reduceIte,Nat.reduceEqDiff,Nat.reduceAdd,Nat.reduceLeDiff,Nat.reduceMul,Nat.reduceBEq,cC]
end Go.Am.Room
set_option maxRecDepth 4000
namespace Go.Am.Room
def aE:=And.intro @bD (And.intro @aK (And.intro @aU (And.intro @aV (And.intro @aT (And.intro @aR (And.intro @a9 (And.intro @aY (And.intro @aW (And.intro @dV (And.intro @dR (@Nat.not_lt_zero)))))))))))
def mG {α:Type} (of:Nat→α→Int) (l:List α):Int×Int:=match aS of l 0 with|some (i,e)=>(i,e)|none=>(0,0)
theorem B5 (σ:St) (f:AV) (l:List Rail) (of:Nat→Rail→Int) (hl:l.length<9223372036854775808) (hk:rY σ f)
  (h:∀ i (hi:i<l.length),iC T f [.int .i64 i,dD l[i]] (σ++[.cells (dD l[i]).cells]) (.int .i64 (of i l[i]))):iC T (.func 64 [] []) [.lit (l.map dD) false none,f] σ (sQ (mG of l)):=by
 refine dY (af:=a64) rfl (by simp [a64]) ?_
 have hk0:=hk.nil
 have hk2:∀ τ,bT (σ++τ) σ.length 20 f=some f:=hk
 (repeat (first|simp only [↓QA,QB,Nat.reduceLT,reduceIte,Nat.reduceEqDiff,Nat.reduceAdd,Nat.reduceLeDiff,Nat.reduceMul,Nat.reduceBEq,aE,a64]|refine rd0 rfl ?_))
 refine dF (S:=Nat) 0 (fun k=>k≤l.length∧aS of (l.drop k) k=aS of l 0) (fun k=>l.length-k) (fun k=>[(1,f),(9,.lit (l.map dD) false none),(10,.int .i64 l.length),(11,.int .i64 k)]) (fun _=>σ) ⟨Nat.zero_le _,by simp⟩ rfl ?_ fun k hk1=>?_
 ·try simp only [aD,QE,Nat.reduceLT,reduceIte,Nat.reduceEqDiff,Nat.reduceAdd,Nat.reduceLeDiff,Nat.reduceMul,Nat.reduceBEq,aE]
  try simp
 ·obtain ⟨hkl,hi⟩:=hk1
  (repeat (first|simp only [↓QA,QB,Nat.reduceLT,reduceIte,Nat.reduceEqDiff,Nat.reduceAdd,Nat.reduceLeDiff,Nat.reduceMul,Nat.reduceBEq,aE,V0]|refine rd0 rfl ?_))
  refine aI (fun hd=>?_) fun hd=>?_
  ·have hlt:k<l.length:=by simpa using hd
   have hs:=h k hlt
   rw [gL hlt] at hi
   have hw:=cR hlt hl
   try simp only [↓QA,QB,Nat.reduceLT,reduceIte,Nat.reduceEqDiff,Nat.reduceAdd,Nat.reduceLeDiff,Nat.reduceMul,Nat.reduceBEq,aE,hlt] at hs
   (repeat (first|simp only [↓QA,QB,Nat.reduceLT,reduceIte,Nat.reduceEqDiff,Nat.reduceAdd,Nat.reduceLeDiff,Nat.reduceMul,Nat.reduceBEq,aE,hlt]|refine rd0 rfl ?_))
   refine bM hs ?_
   (repeat (first|simp only [↓QA,QB,Nat.reduceLT,reduceIte,Nat.reduceEqDiff,Nat.reduceAdd,Nat.reduceLeDiff,Nat.reduceMul,Nat.reduceBEq,aE]|refine rd0 rfl ?_))
   cases hp:(of k l[k]==0)
   ·have hp':of k l[k]≠0:=by simpa using hp
    rw [if_neg hp'] at hi
    (repeat (first|simp only [↓QA,QB,Nat.reduceLT,reduceIte,Nat.reduceEqDiff,Nat.reduceAdd,Nat.reduceLeDiff,Nat.reduceMul,Nat.reduceBEq,aE,hp]|refine rd0 rfl ?_))
    refine eI _ rfl ?_
    try simp only [QS,QC,Nat.reduceLT,reduceIte,Nat.reduceEqDiff,Nat.reduceAdd,Nat.reduceLeDiff,Nat.reduceMul,Nat.reduceBEq,aE,sQ,mG,←hi,reduceCtorEq]
   ·have hp':of k l[k]=0:=by simpa using hp
    rw [if_pos hp'] at hi
    (repeat (first|simp only [↓QA,QB,Nat.reduceLT,reduceIte,Nat.reduceEqDiff,Nat.reduceAdd,Nat.reduceLeDiff,Nat.reduceMul,Nat.reduceBEq,aE,hp,hw]|refine rd0 rfl ?_))
    refine ⟨k+1,⟨by omega,hi⟩,by omega,?_⟩
    try simp only [aD,QE,Nat.reduceLT,reduceIte,Nat.reduceEqDiff,Nat.reduceAdd,Nat.reduceLeDiff,Nat.reduceMul,Nat.reduceBEq,aE,hw,hk0,hk2,Nat.le_refl,a9]
  ·have hlt:k=l.length:=by simp at hd;omega
   rw [g9 hlt] at hi
   (repeat (first|simp only [↓QA,QB,Nat.reduceLT,reduceIte,Nat.reduceEqDiff,Nat.reduceAdd,Nat.reduceLeDiff,Nat.reduceMul,Nat.reduceBEq,aE]|refine rd0 rfl ?_))
   refine eI [] (by first|rfl|simp) ?_
   try simp only [QS,QC,Nat.reduceLT,reduceIte,Nat.reduceEqDiff,Nat.reduceAdd,Nat.reduceLeDiff,Nat.reduceMul,Nat.reduceBEq,aE,sQ,mG,←hi,reduceCtorEq]
theorem CR (σ:St) (f:AV) (l:List Tram) (of:Nat→Tram→Int) (hl:l.length<9223372036854775808) (hk:rY σ f)
  (h:∀ i (hi:i<l.length),iC T f [.int .i64 i,cE l[i]] (σ++[.cells (cE l[i]).cells]) (.int .i64 (of i l[i]))):iC T (.func 66 [] []) [.lit (l.map cE) false none,f] σ (sQ (mG of l)):=by
 refine dY (af:=a66) rfl (by simp [a66]) ?_
 have hk0:=hk.nil
 have hk2:∀ τ,bT (σ++τ) σ.length 20 f=some f:=hk
 (repeat (first|simp only [↓QA,QB,Nat.reduceLT,reduceIte,Nat.reduceEqDiff,Nat.reduceAdd,Nat.reduceLeDiff,Nat.reduceMul,Nat.reduceBEq,aE,a66]|refine rd0 rfl ?_))
 refine dF (S:=Nat) 0 (fun k=>k≤l.length∧aS of (l.drop k) k=aS of l 0) (fun k=>l.length-k) (fun k=>[(1,f),(9,.lit (l.map cE) false none),(10,.int .i64 l.length),(11,.int .i64 k)]) (fun _=>σ) ⟨Nat.zero_le _,by simp⟩ rfl ?_ fun k hk1=>?_
 ·try simp only [aD,QE,Nat.reduceLT,reduceIte,Nat.reduceEqDiff,Nat.reduceAdd,Nat.reduceLeDiff,Nat.reduceMul,Nat.reduceBEq,aE]
  try simp
 ·obtain ⟨hkl,hi⟩:=hk1
  (repeat (first|simp only [↓QA,QB,Nat.reduceLT,reduceIte,Nat.reduceEqDiff,Nat.reduceAdd,Nat.reduceLeDiff,Nat.reduceMul,Nat.reduceBEq,aE,V8]|refine rd0 rfl ?_))
  refine aI (fun hd=>?_) fun hd=>?_
  ·have hlt:k<l.length:=by simpa using hd
   have hs:=h k hlt
   rw [gL hlt] at hi
   have hw:=cR hlt hl
   try simp only [↓QA,QB,Nat.reduceLT,reduceIte,Nat.reduceEqDiff,Nat.reduceAdd,Nat.reduceLeDiff,Nat.reduceMul,Nat.reduceBEq,aE,hlt] at hs
   (repeat (first|simp only [↓QA,QB,Nat.reduceLT,reduceIte,Nat.reduceEqDiff,Nat.reduceAdd,Nat.reduceLeDiff,Nat.reduceMul,Nat.reduceBEq,aE,hlt]|refine rd0 rfl ?_))
   refine bM hs ?_
   (repeat (first|simp only [↓QA,QB,Nat.reduceLT,reduceIte,Nat.reduceEqDiff,Nat.reduceAdd,Nat.reduceLeDiff,Nat.reduceMul,Nat.reduceBEq,aE]|refine rd0 rfl ?_))
   cases hp:(of k l[k]==0)
   ·have hp':of k l[k]≠0:=by simpa using hp
    rw [if_neg hp'] at hi
    (repeat (first|simp only [↓QA,QB,Nat.reduceLT,reduceIte,Nat.reduceEqDiff,Nat.reduceAdd,Nat.reduceLeDiff,Nat.reduceMul,Nat.reduceBEq,aE,hp]|refine rd0 rfl ?_))
    refine eI _ rfl ?_
    try simp only [QS,QC,Nat.reduceLT,reduceIte,Nat.reduceEqDiff,Nat.reduceAdd,Nat.reduceLeDiff,Nat.reduceMul,Nat.reduceBEq,aE,sQ,mG,←hi,reduceCtorEq]
   ·have hp':of k l[k]=0:=by simpa using hp
    rw [if_pos hp'] at hi
    (repeat (first|simp only [↓QA,QB,Nat.reduceLT,reduceIte,Nat.reduceEqDiff,Nat.reduceAdd,Nat.reduceLeDiff,Nat.reduceMul,Nat.reduceBEq,aE,hp,hw]|refine rd0 rfl ?_))
    refine ⟨k+1,⟨by omega,hi⟩,by omega,?_⟩
    try simp only [aD,QE,Nat.reduceLT,reduceIte,Nat.reduceEqDiff,Nat.reduceAdd,Nat.reduceLeDiff,Nat.reduceMul,Nat.reduceBEq,aE,hw,hk0,hk2,Nat.le_refl,aY]
  ·have hlt:k=l.length:=by simp at hd;omega
   rw [g9 hlt] at hi
   (repeat (first|simp only [↓QA,QB,Nat.reduceLT,reduceIte,Nat.reduceEqDiff,Nat.reduceAdd,Nat.reduceLeDiff,Nat.reduceMul,Nat.reduceBEq,aE]|refine rd0 rfl ?_))
   refine eI [] (by first|rfl|simp) ?_
   try simp only [QS,QC,Nat.reduceLT,reduceIte,Nat.reduceEqDiff,Nat.reduceAdd,Nat.reduceLeDiff,Nat.reduceMul,Nat.reduceBEq,aE,sQ,mG,←hi,reduceCtorEq]
theorem B7 (σ:St) (f:AV) (l:List Seen) (of:Nat→Seen→Int) (hl:l.length<9223372036854775808) (hk:rY σ f)
  (h:∀ i (hi:i<l.length),iC T f [.int .i64 i,dQ l[i]] (σ++[.cells (dQ l[i]).cells]) (.int .i64 (of i l[i]))):iC T (.func 72 [] []) [.lit (l.map dQ) false none,f] σ (sQ (mG of l)):=by
 refine dY (af:=a72) rfl (by simp [a72]) ?_
 have hk0:=hk.nil
 have hk2:∀ τ,bT (σ++τ) σ.length 20 f=some f:=hk
 (repeat (first|simp only [↓QA,QB,Nat.reduceLT,reduceIte,Nat.reduceEqDiff,Nat.reduceAdd,Nat.reduceLeDiff,Nat.reduceMul,Nat.reduceBEq,aE,a72]|refine rd0 rfl ?_))
 refine dF (S:=Nat) 0 (fun k=>k≤l.length∧aS of (l.drop k) k=aS of l 0) (fun k=>l.length-k) (fun k=>[(1,f),(9,.lit (l.map dQ) false none),(10,.int .i64 l.length),(11,.int .i64 k)]) (fun _=>σ) ⟨Nat.zero_le _,by simp⟩ rfl ?_ fun k hk1=>?_
 ·try simp only [aD,QE,Nat.reduceLT,reduceIte,Nat.reduceEqDiff,Nat.reduceAdd,Nat.reduceLeDiff,Nat.reduceMul,Nat.reduceBEq,aE]
  try simp
 ·obtain ⟨hkl,hi⟩:=hk1
  (repeat (first|simp only [↓QA,QB,Nat.reduceLT,reduceIte,Nat.reduceEqDiff,Nat.reduceAdd,Nat.reduceLeDiff,Nat.reduceMul,Nat.reduceBEq,aE,VZ]|refine rd0 rfl ?_))
  refine aI (fun hd=>?_) fun hd=>?_
  ·have hlt:k<l.length:=by simpa using hd
   have hs:=h k hlt
   rw [gL hlt] at hi
   have hw:=cR hlt hl
   try simp only [↓QA,QB,Nat.reduceLT,reduceIte,Nat.reduceEqDiff,Nat.reduceAdd,Nat.reduceLeDiff,Nat.reduceMul,Nat.reduceBEq,aE,hlt] at hs
   (repeat (first|simp only [↓QA,QB,Nat.reduceLT,reduceIte,Nat.reduceEqDiff,Nat.reduceAdd,Nat.reduceLeDiff,Nat.reduceMul,Nat.reduceBEq,aE,hlt]|refine rd0 rfl ?_))
   refine bM hs ?_
   (repeat (first|simp only [↓QA,QB,Nat.reduceLT,reduceIte,Nat.reduceEqDiff,Nat.reduceAdd,Nat.reduceLeDiff,Nat.reduceMul,Nat.reduceBEq,aE]|refine rd0 rfl ?_))
   cases hp:(of k l[k]==0)
   ·have hp':of k l[k]≠0:=by simpa using hp
    rw [if_neg hp'] at hi
    (repeat (first|simp only [↓QA,QB,Nat.reduceLT,reduceIte,Nat.reduceEqDiff,Nat.reduceAdd,Nat.reduceLeDiff,Nat.reduceMul,Nat.reduceBEq,aE,hp]|refine rd0 rfl ?_))
    refine eI _ rfl ?_
    try simp only [QS,QC,Nat.reduceLT,reduceIte,Nat.reduceEqDiff,Nat.reduceAdd,Nat.reduceLeDiff,Nat.reduceMul,Nat.reduceBEq,aE,sQ,mG,←hi,reduceCtorEq]
   ·have hp':of k l[k]=0:=by simpa using hp
    rw [if_pos hp'] at hi
    (repeat (first|simp only [↓QA,QB,Nat.reduceLT,reduceIte,Nat.reduceEqDiff,Nat.reduceAdd,Nat.reduceLeDiff,Nat.reduceMul,Nat.reduceBEq,aE,hp,hw]|refine rd0 rfl ?_))
    refine ⟨k+1,⟨by omega,hi⟩,by omega,?_⟩
    try simp only [aD,QE,Nat.reduceLT,reduceIte,Nat.reduceEqDiff,Nat.reduceAdd,Nat.reduceLeDiff,Nat.reduceMul,Nat.reduceBEq,aE,hw,hk0,hk2,Nat.le_refl,aW]
  ·have hlt:k=l.length:=by simp at hd;omega
   rw [g9 hlt] at hi
   (repeat (first|simp only [↓QA,QB,Nat.reduceLT,reduceIte,Nat.reduceEqDiff,Nat.reduceAdd,Nat.reduceLeDiff,Nat.reduceMul,Nat.reduceBEq,aE]|refine rd0 rfl ?_))
   refine eI [] (by first|rfl|simp) ?_
   try simp only [QS,QC,Nat.reduceLT,reduceIte,Nat.reduceEqDiff,Nat.reduceAdd,Nat.reduceLeDiff,Nat.reduceMul,Nat.reduceBEq,aE,sQ,mG,←hi,reduceCtorEq]
theorem FL (s:Span):(mN s 1 20=7)↔(!inR s.lo 1 20||!inR s.hi 1 20)=true:=by
 unfold mN
 split
 ·rename_i h;simp [h]
 ·rename_i h
  constructor
  ·intro q;split at q<;>omega
  ·intro q;exact absurd q h
theorem TF (v:Net) (W:Int) (hW:∀ s:Int,inR s 0 W=kS v s) (i:Int) (r:Rail) (b:ABlk) (τ:St):iC T (.func 65 [] [.ptr 1 0]) [.int .i64 i,dD r] (b::.cells [.int .i64 W]::τ) (.int .i64 (bX v r)):=by
 refine dY (af:=a65) rfl (by simp [a65]) ?_
 (repeat (first|simp only [↓QA,QB,Nat.reduceLT,reduceIte,Nat.reduceEqDiff,Nat.reduceAdd,Nat.reduceLeDiff,Nat.reduceMul,Nat.reduceBEq,aE,a65]|refine rd0 rfl ?_))
 ((first|refine d8 (bI 0 W [r.a,r.b] (by simp)) (by simp [clr,clrs,ints]) (by simp [okV,okVs]) ?_|refine eS (bI 0 W [r.a,r.b] (by simp)) (by simp [clr,clrs,ints]) (by simp [okV,okVs]) ?_);(repeat (first|simp only [↓QA,QB,Nat.reduceLT,reduceIte,Nat.reduceEqDiff,Nat.reduceAdd,Nat.reduceLeDiff,Nat.reduceMul,Nat.reduceBEq,aE,JM]|refine rd0 rfl ?_)))
 rw [hW,hW]
 cases h1:(!kS v r.a||!kS v r.b)
 ·have h1':¬(kS v r.a=false∨kS v r.b=false):=by
   rintro (h|h)<;>rw [h] at h1<;>simp at h1
  (repeat (first|simp only [↓QA,QB,Nat.reduceLT,reduceIte,Nat.reduceEqDiff,Nat.reduceAdd,Nat.reduceLeDiff,Nat.reduceMul,Nat.reduceBEq,aE]|refine rd0 rfl ?_))
  cases h2:(r.a==r.b)
  ·have h2':r.a≠r.b:=by simpa using h2
   (repeat (first|simp only [↓QA,QB,Nat.reduceLT,reduceIte,Nat.reduceEqDiff,Nat.reduceAdd,Nat.reduceLeDiff,Nat.reduceMul,Nat.reduceBEq,aE,h2]|refine rd0 rfl ?_))
   ((first|refine d8 (bI 1 20 [r.mins.lo,r.mins.hi] (by simp)) (by simp [clr,clrs,ints]) (by simp [okV,okVs]) ?_|refine eS (bI 1 20 [r.mins.lo,r.mins.hi] (by simp)) (by simp [clr,clrs,ints]) (by simp [okV,okVs]) ?_);(repeat (first|simp only [↓QA,QB,Nat.reduceLT,reduceIte,Nat.reduceEqDiff,Nat.reduceAdd,Nat.reduceLeDiff,Nat.reduceMul,Nat.reduceBEq,aE,JM]|refine rd0 rfl ?_)))
   cases h3:(!inR r.mins.lo 1 20||!inR r.mins.hi 1 20)
   ·have h3':mN r.mins 1 20≠7:=fun q=>by rw [FL,h3] at q;cases q
    (repeat (first|simp only [↓QA,QB,Nat.reduceLT,reduceIte,Nat.reduceEqDiff,Nat.reduceAdd,Nat.reduceLeDiff,Nat.reduceMul,Nat.reduceBEq,aE]|refine rd0 rfl ?_))
    ((first|refine d8 (bI 0 2 [r.shut] (by simp)) (by simp [clr,clrs,ints]) (by simp [okV,okVs]) ?_|refine eS (bI 0 2 [r.shut] (by simp)) (by simp [clr,clrs,ints]) (by simp [okV,okVs]) ?_);(repeat (first|simp only [↓QA,QB,Nat.reduceLT,reduceIte,Nat.reduceEqDiff,Nat.reduceAdd,Nat.reduceLeDiff,Nat.reduceMul,Nat.reduceBEq,aE,iK]|refine rd0 rfl ?_)))
    cases h4:inR r.shut 0 2
    ·(repeat (first|simp only [↓QA,QB,Nat.reduceLT,reduceIte,Nat.reduceEqDiff,Nat.reduceAdd,Nat.reduceLeDiff,Nat.reduceMul,Nat.reduceBEq,aE]|refine rd0 rfl ?_))
     refine eI _ rfl ?_
     have:bX v r=7:=by rw [bX,if_neg h1',if_neg h2',if_pos (.inr h4)]
     rw [this]
     try simp only [QS,QC,Nat.reduceLT,reduceIte,Nat.reduceEqDiff,Nat.reduceAdd,Nat.reduceLeDiff,Nat.reduceMul,Nat.reduceBEq,aE]
    ·have hlo:inR r.mins.lo 1 20=true:=by
      cases q:inR r.mins.lo 1 20
      ·rw [q] at h3;simp at h3
      ·rfl
     have hhi:inR r.mins.hi 1 20=true:=by
      cases q:inR r.mins.hi 1 20
      ·rw [q] at h3;simp at h3
      ·rfl
     rw [cW] at hlo hhi
     have hw:IntKind.i64.wrap (r.mins.hi-r.mins.lo)=r.mins.hi-r.mins.lo:=dU ⟨by omega,by omega⟩
     have hen:mN r.mins 1 20=if r.mins.hi<r.mins.lo then 2 else 0:=by rw [mN,h3];rfl
     simp only [Bool.not_true,oJ]
     (repeat (first|simp only [↓QA,QB,Nat.reduceLT,reduceIte,Nat.reduceEqDiff,Nat.reduceAdd,Nat.reduceLeDiff,Nat.reduceMul,Nat.reduceBEq,aE,hw]|refine rd0 rfl ?_))
     ((first|refine d8 (bI 0 1 [r.mins.hi-r.mins.lo] (by simp)) (by simp [clr,clrs,ints]) (by simp [okV,okVs]) ?_|refine eS (bI 0 1 [r.mins.hi-r.mins.lo] (by simp)) (by simp [clr,clrs,ints]) (by simp [okV,okVs]) ?_);(repeat (first|simp only [↓QA,QB,Nat.reduceLT,reduceIte,Nat.reduceEqDiff,Nat.reduceAdd,Nat.reduceLeDiff,Nat.reduceMul,Nat.reduceBEq,aE,iK]|refine rd0 rfl ?_)))
     cases h5:inR (r.mins.hi-r.mins.lo) 0 1
     ·have h5':¬(0≤r.mins.hi-r.mins.lo∧r.mins.hi-r.mins.lo≤1):=fun q=>by rw [←cW,h5] at q;cases q
      (repeat (first|simp only [↓QA,QB,Nat.reduceLT,reduceIte,Nat.reduceEqDiff,Nat.reduceAdd,Nat.reduceLeDiff,Nat.reduceMul,Nat.reduceBEq,aE]|refine rd0 rfl ?_))
      refine eI _ rfl ?_
      have:bX v r=2:=by
       rw [bX,if_neg h1',if_neg h2',if_neg (by rw [not_or];exact ⟨h3',by rw [h4];simp⟩),hen]
       split
       ·rw [if_pos (.inl (by omega))]
       ·rw [if_pos (.inr (by omega))]
      rw [this]
      try simp only [QS,QC,Nat.reduceLT,reduceIte,Nat.reduceEqDiff,Nat.reduceAdd,Nat.reduceLeDiff,Nat.reduceMul,Nat.reduceBEq,aE]
     ·rw [cW] at h5
      (repeat (first|simp only [↓QA,QB,Nat.reduceLT,reduceIte,Nat.reduceEqDiff,Nat.reduceAdd,Nat.reduceLeDiff,Nat.reduceMul,Nat.reduceBEq,aE]|refine rd0 rfl ?_))
      refine eI _ rfl ?_
      have:bX v r=0:=by
       rw [bX,if_neg h1',if_neg h2',if_neg (by rw [not_or];exact ⟨h3',by rw [h4];simp⟩),hen,if_neg (by omega)]
       try rfl
      rw [this]
      try simp only [QS,QC,Nat.reduceLT,reduceIte,Nat.reduceEqDiff,Nat.reduceAdd,Nat.reduceLeDiff,Nat.reduceMul,Nat.reduceBEq,aE]
   ·have h3':mN r.mins 1 20=7:=FL _ |>.2 h3
    (repeat (first|simp only [↓QA,QB,Nat.reduceLT,reduceIte,Nat.reduceEqDiff,Nat.reduceAdd,Nat.reduceLeDiff,Nat.reduceMul,Nat.reduceBEq,aE]|refine rd0 rfl ?_))
    refine eI _ rfl ?_
    have:bX v r=7:=by rw [bX,if_neg h1',if_neg h2',if_pos (.inl h3')]
    rw [this]
    try simp only [QS,QC,Nat.reduceLT,reduceIte,Nat.reduceEqDiff,Nat.reduceAdd,Nat.reduceLeDiff,Nat.reduceMul,Nat.reduceBEq,aE]
  ·have h2':r.a=r.b:=by simpa using h2
   (repeat (first|simp only [↓QA,QB,Nat.reduceLT,reduceIte,Nat.reduceEqDiff,Nat.reduceAdd,Nat.reduceLeDiff,Nat.reduceMul,Nat.reduceBEq,aE,h2]|refine rd0 rfl ?_))
   refine eI _ rfl ?_
   have:bX v r=2:=by rw [bX,if_neg h1',if_pos h2']
   rw [this]
   try simp only [QS,QC,Nat.reduceLT,reduceIte,Nat.reduceEqDiff,Nat.reduceAdd,Nat.reduceLeDiff,Nat.reduceMul,Nat.reduceBEq,aE]
 ·have h1':kS v r.a=false∨kS v r.b=false:=by
   cases a:kS v r.a
   ·exact .inl rfl
   ·cases b:kS v r.b
    ·exact .inr rfl
    ·rw [a,b] at h1;simp at h1
  (repeat (first|simp only [↓QA,QB,Nat.reduceLT,reduceIte,Nat.reduceEqDiff,Nat.reduceAdd,Nat.reduceLeDiff,Nat.reduceMul,Nat.reduceBEq,aE]|refine rd0 rfl ?_))
  refine eI _ rfl ?_
  have:bX v r=4:=by rw [bX,if_pos h1']
  rw [this]
  try simp only [QS,QC,Nat.reduceLT,reduceIte,Nat.reduceEqDiff,Nat.reduceAdd,Nat.reduceLeDiff,Nat.reduceMul,Nat.reduceBEq,aE]
theorem PN (s x:Tram) (b0 b1:ABlk) (τ:St):iC T (.func 70 [] [.ptr (τ.length+2) 0]) [cE x] (b0::b1::(τ++[.cells (cE s).cells])) (.bool (decide (x.name=s.name))):=by
 refine dY (af:=a70) rfl (by simp [a70]) ?_
 (repeat (first|simp only [↓QA,QB,Nat.reduceLT,reduceIte,Nat.reduceEqDiff,Nat.reduceAdd,Nat.reduceLeDiff,Nat.reduceMul,Nat.reduceBEq,aE,a70,CL,List.length_append]|refine rd0 rfl ?_))
 refine eI [.cells [.str x.name,.int .i64 x.frm,.int .i64 x.leaves,.int .i64 x.due,.lit (x.path.map (.int .i64)) false none]] (by first|rfl|simp) ?_
 try simp only [QS,QC,Nat.reduceLT,reduceIte,Nat.reduceEqDiff,Nat.reduceAdd,Nat.reduceLeDiff,Nat.reduceMul,Nat.reduceBEq,aE]
theorem H6 (lo hi:Int) (l:List Int):nD lo hi l = !l.all (fun r=>inR r lo hi):=by
 rw [nD]
 induction l with
 |nil=>rfl
 |cons x l ih =>
  rw [List.any_cons,List.all_cons,ih,Bool.not_and]
  congr 1
  rw [Bool.eq_iff_iff]
  simp [kA,inR]
  try omega
theorem SR (v:Net) (h:Fits v) (hst:2≤v.stations∧v.stations≤5) (hra:∀ r∈v.rails,RailOk v r) (i:Nat) (hi:i<v.trams.length) (τ:St):iC T (.func 67 [] [.ptr 0 0,.ptr 1 0]) [.int .i64 i,cE v.trams[i]] (.cells (aB v)::.cells [.int .i64 (v.stations-1)]::τ) (.int .i64 (gQ v i v.trams[i])):=by
 refine dY (af:=a67) rfl (by simp [a67]) ?_
 have hfr:=h.rails
 have hsz:=h.names _ (List.getElem_mem hi)
 have hpz:=h.paths _ (List.getElem_mem hi)
 have hts:(v.trams.take i).length<9223372036854775808:=by have:=h.trams;simp;omega
 obtain ⟨s,hs⟩:∃ s,v.trams[i]=s:=⟨_,rfl⟩
 have hk:gQ v i s=if fresh s.name ((v.trams.take i).map Tram.name)=0 then fF v s else fresh s.name ((v.trams.take i).map Tram.name):=rfl
 rw [hs] at hsz hpz ⊢
 obtain ⟨E,hE⟩:∃ E,gQ v i s=E:=⟨_,rfl⟩
 rw [hE] at hk ⊢
 have hwr:IntKind.i64.wrap ((v.rails.length:Int)-1)=(v.rails.length:Int)-1:=dU ⟨by omega,by omega⟩
 have fin:∀ (n:Int) (b:List AV),n=E→yA (some (.int .i64 n)) (.cells (aB v)::.cells [.int .i64 (v.stations-1)]::τ) (.cells (aB v)::.cells [.int .i64 (v.stations-1)]::(τ++[.cells b])) (.int .i64 E):=fun n b hv=>by
  refine eI [.cells b] (by first|rfl|simp) ?_
  rw [hv]
  try simp only [QS,QC,Nat.reduceLT,reduceIte,Nat.reduceEqDiff,Nat.reduceAdd,Nat.reduceLeDiff,Nat.reduceMul,Nat.reduceBEq,aE]
 simp only [aK] at fin
 (repeat (first|simp only [↓QA,QB,Nat.reduceLT,reduceIte,Nat.reduceEqDiff,Nat.reduceAdd,Nat.reduceLeDiff,Nat.reduceMul,Nat.reduceBEq,aE,a67]|refine rd0 rfl ?_))
 ((first|refine aF (v9 s.name hsz) rfl dd ?_|refine aG (v9 s.name hsz) rfl dd ?_);(repeat (first|simp only [↓QA,QB,Nat.reduceLT,reduceIte,Nat.reduceEqDiff,Nat.reduceAdd,Nat.reduceLeDiff,Nat.reduceMul,Nat.reduceBEq,aE]|refine rd0 rfl ?_)))
 cases h1:nF s.name
 ·(repeat (first|simp only [↓QA,QB,Nat.reduceLT,reduceIte,Nat.reduceEqDiff,Nat.reduceAdd,Nat.reduceLeDiff,Nat.reduceMul,Nat.reduceBEq,aE]|refine rd0 rfl ?_))
  exact fin _ _ (by rw [hk];simp [fresh,h1])
 ·have hc:=FE (.cells (aB v)::.cells [.int .i64 (v.stations-1)]::(τ++[.cells (cE s).cells])) (.func 70 [] [.ptr (τ.length+2) 0]) (v.trams.take i) (fun x=>decide (x.name=s.name)) hts (fun υ=>by try simp only [QS,QC,Nat.reduceLT,reduceIte,Nat.reduceEqDiff,Nat.reduceAdd,Nat.reduceLeDiff,Nat.reduceMul,Nat.reduceBEq,aE,List.length_append];simp) fun x _=>PN s x _ _ τ
  try simp only [↓QA,QB,Nat.reduceLT,reduceIte,Nat.reduceEqDiff,Nat.reduceAdd,Nat.reduceLeDiff,Nat.reduceMul,Nat.reduceBEq,aE] at hc
  (repeat (first|simp only [↓QA,QB,Nat.reduceLT,reduceIte,Nat.reduceEqDiff,Nat.reduceAdd,Nat.reduceLeDiff,Nat.reduceMul,Nat.reduceBEq,aE,XU (enc:=cE) (l:=v.trams) (Nat.le_of_lt hi)]|refine rd0 rfl ?_))
  refine bM hc ?_
  rw [xH]
  cases h2:decide (iO s.name ((v.trams.take i).map Tram.name)≠((v.trams.take i).map Tram.name).length)
  ·have h2':iO s.name ((v.trams.take i).map Tram.name)=((v.trams.take i).map Tram.name).length:=by simpa using h2
   have hf:fresh s.name ((v.trams.take i).map Tram.name)=0:=by simp only [fresh,h1,h2'];simp
   rw [hf] at hk
   simp only [if_true] at hk
   (repeat (first|simp only [↓QA,QB,Nat.reduceLT,reduceIte,Nat.reduceEqDiff,Nat.reduceAdd,Nat.reduceLeDiff,Nat.reduceMul,Nat.reduceBEq,aE]|refine rd0 rfl ?_))
   ((first|refine d8 (bI 0 (v.stations-1) [s.frm] (by simp)) (by simp [clr,clrs,ints]) (by simp [okV,okVs]) ?_|refine eS (bI 0 (v.stations-1) [s.frm] (by simp)) (by simp [clr,clrs,ints]) (by simp [okV,okVs]) ?_);(repeat (first|simp only [↓QA,QB,Nat.reduceLT,reduceIte,Nat.reduceEqDiff,Nat.reduceAdd,Nat.reduceLeDiff,Nat.reduceMul,Nat.reduceBEq,aE,iK]|refine rd0 rfl ?_)))
   have hsi:inR s.frm 0 (v.stations-1)=kS v s.frm:=rfl
   rw [hsi]
   cases h3:kS v s.frm
   ·(repeat (first|simp only [↓QA,QB,Nat.reduceLT,reduceIte,Nat.reduceEqDiff,Nat.reduceAdd,Nat.reduceLeDiff,Nat.reduceMul,Nat.reduceBEq,aE]|refine rd0 rfl ?_))
    exact fin _ _ (by rw [hk,fF,if_pos h3])
   ·rw [fF,if_neg (by rw [h3];simp)] at hk
    (repeat (first|simp only [↓QA,QB,Nat.reduceLT,reduceIte,Nat.reduceEqDiff,Nat.reduceAdd,Nat.reduceLeDiff,Nat.reduceMul,Nat.reduceBEq,aE]|refine rd0 rfl ?_))
    ((first|refine d8 (bI 0 60 [s.leaves] (by simp)) (by simp [clr,clrs,ints]) (by simp [okV,okVs]) ?_|refine eS (bI 0 60 [s.leaves] (by simp)) (by simp [clr,clrs,ints]) (by simp [okV,okVs]) ?_);(repeat (first|simp only [↓QA,QB,Nat.reduceLT,reduceIte,Nat.reduceEqDiff,Nat.reduceAdd,Nat.reduceLeDiff,Nat.reduceMul,Nat.reduceBEq,aE,iK]|refine rd0 rfl ?_)))
    cases h4:inR s.leaves 0 60
    ·(repeat (first|simp only [↓QA,QB,Nat.reduceLT,reduceIte,Nat.reduceEqDiff,Nat.reduceAdd,Nat.reduceLeDiff,Nat.reduceMul,Nat.reduceBEq,aE]|refine rd0 rfl ?_))
     exact fin _ _ (by rw [hk,if_pos (.inl h4)])
    ·(repeat (first|simp only [↓QA,QB,Nat.reduceLT,reduceIte,Nat.reduceEqDiff,Nat.reduceAdd,Nat.reduceLeDiff,Nat.reduceMul,Nat.reduceBEq,aE]|refine rd0 rfl ?_))
     ((first|refine d8 (bI 0 400 [s.due] (by simp)) (by simp [clr,clrs,ints]) (by simp [okV,okVs]) ?_|refine eS (bI 0 400 [s.due] (by simp)) (by simp [clr,clrs,ints]) (by simp [okV,okVs]) ?_);(repeat (first|simp only [↓QA,QB,Nat.reduceLT,reduceIte,Nat.reduceEqDiff,Nat.reduceAdd,Nat.reduceLeDiff,Nat.reduceMul,Nat.reduceBEq,aE,iK]|refine rd0 rfl ?_)))
     cases h5:inR s.due 0 400
     ·(repeat (first|simp only [↓QA,QB,Nat.reduceLT,reduceIte,Nat.reduceEqDiff,Nat.reduceAdd,Nat.reduceLeDiff,Nat.reduceMul,Nat.reduceBEq,aE]|refine rd0 rfl ?_))
      exact fin _ _ (by rw [hk,if_pos (.inr h5)])
     ·rw [if_neg (by rw [h4,h5];simp)] at hk
      (repeat (first|simp only [↓QA,QB,Nat.reduceLT,reduceIte,Nat.reduceEqDiff,Nat.reduceAdd,Nat.reduceLeDiff,Nat.reduceMul,Nat.reduceBEq,aE]|refine rd0 rfl ?_))
      ((first|refine d8 (bI 1 4 [(s.path.length:Int)] (by simp)) (by simp [clr,clrs,ints]) (by simp [okV,okVs]) ?_|refine eS (bI 1 4 [(s.path.length:Int)] (by simp)) (by simp [clr,clrs,ints]) (by simp [okV,okVs]) ?_);(repeat (first|simp only [↓QA,QB,Nat.reduceLT,reduceIte,Nat.reduceEqDiff,Nat.reduceAdd,Nat.reduceLeDiff,Nat.reduceMul,Nat.reduceBEq,aE,iK]|refine rd0 rfl ?_)))
      cases h6:inR s.path.length 1 4
      ·(repeat (first|simp only [↓QA,QB,Nat.reduceLT,reduceIte,Nat.reduceEqDiff,Nat.reduceAdd,Nat.reduceLeDiff,Nat.reduceMul,Nat.reduceBEq,aE]|refine rd0 rfl ?_))
       exact fin _ _ (by rw [hk,if_pos h6])
      ·rw [if_neg (by rw [h6];simp)] at hk
       (repeat (first|simp only [↓QA,QB,Nat.reduceLT,reduceIte,Nat.reduceEqDiff,Nat.reduceAdd,Nat.reduceLeDiff,Nat.reduceMul,Nat.reduceBEq,aE,hwr]|refine rd0 rfl ?_))
       ((first|refine aF (bI 0 ((v.rails.length:Int)-1) s.path hpz) rfl dd ?_|refine aG (bI 0 ((v.rails.length:Int)-1) s.path hpz) rfl dd ?_);(repeat (first|simp only [↓QA,QB,Nat.reduceLT,reduceIte,Nat.reduceEqDiff,Nat.reduceAdd,Nat.reduceLeDiff,Nat.reduceMul,Nat.reduceBEq,aE,H6]|refine rd0 rfl ?_)))
       cases h7:s.path.all (fun r=>inR r 0 ((v.rails.length:Int)-1))
       ·rw [if_pos h7] at hk
        (repeat (first|simp only [↓QA,QB,Nat.reduceLT,reduceIte,Nat.reduceEqDiff,Nat.reduceAdd,Nat.reduceLeDiff,Nat.reduceMul,Nat.reduceBEq,aE]|refine rd0 rfl ?_))
        exact fin _ _ hk.symm
       ·rw [if_neg (by rw [h7];simp)] at hk
        rw [kL] at h3
        obtain ⟨S,hS⟩:∃ S:Nat,s.frm=(S:Int):=⟨s.frm.toNat,by omega⟩
        rw [cW] at h6
        have hld:=BR v hst hra S (by omega) s.path (fun r hr=>by
         have:=cW.1 (List.all_eq_true.1 h7 r hr)
         omega) hpz
        have hlw:d7 v s.frm s.path=gN v S s.path:=by rw [hS];exact vV (by omega)
        rw [hlw] at hk
        obtain ⟨B,hB⟩:∃ B,gN v S s.path=B:=⟨_,rfl⟩
        rw [hB] at hk hld
        (repeat (first|simp only [↓QA,QB,Nat.reduceLT,reduceIte,Nat.reduceEqDiff,Nat.reduceAdd,Nat.reduceLeDiff,Nat.reduceMul,Nat.reduceBEq,aE,hS]|refine rd0 rfl ?_))
        ((first|refine aF (hld) rfl dd ?_|refine aG (hld) rfl dd ?_);(repeat (first|simp only [↓QA,QB,Nat.reduceLT,reduceIte,Nat.reduceEqDiff,Nat.reduceAdd,Nat.reduceLeDiff,Nat.reduceMul,Nat.reduceBEq,aE,hS]|refine rd0 rfl ?_)))
        cases B
        ·(repeat (first|simp only [↓QA,QB,Nat.reduceLT,reduceIte,Nat.reduceEqDiff,Nat.reduceAdd,Nat.reduceLeDiff,Nat.reduceMul,Nat.reduceBEq,aE]|refine rd0 rfl ?_))
         exact fin _ _ (by rw [hk];rfl)
        ·(repeat (first|simp only [↓QA,QB,Nat.reduceLT,reduceIte,Nat.reduceEqDiff,Nat.reduceAdd,Nat.reduceLeDiff,Nat.reduceMul,Nat.reduceBEq,aE]|refine rd0 rfl ?_))
         exact fin _ _ (by rw [hk];rfl)
  ·have h2':iO s.name ((v.trams.take i).map Tram.name)≠((v.trams.take i).map Tram.name).length:=by simpa using h2
   have hf:fresh s.name ((v.trams.take i).map Tram.name)=5:=by simp only [fresh,h1,h2',if_false];simp
   rw [hf] at hk
   (repeat (first|simp only [↓QA,QB,Nat.reduceLT,reduceIte,Nat.reduceEqDiff,Nat.reduceAdd,Nat.reduceLeDiff,Nat.reduceMul,Nat.reduceBEq,aE]|refine rd0 rfl ?_))
   exact fin _ _ (by rw [hk];simp)
theorem UO (v:Net) (h:Fits v) (i:Nat) (x:Seen) (b:ABlk):iC T (.func 73 [] [.ptr 0 0]) [.int .i64 i,dQ x] [.cells (aB v),b,.cells (dQ x).cells] (.int .i64 (gO v i x)):=by
 refine dY (af:=a73) rfl (by simp [a73]) ?_
 have hfp:=h.trams
 have hw:IntKind.i64.wrap ((v.trams.length:Int)-1)=(v.trams.length:Int)-1:=dU ⟨by omega,by omega⟩
 (repeat (first|simp only [↓QA,QB,Nat.reduceLT,reduceIte,Nat.reduceEqDiff,Nat.reduceAdd,Nat.reduceLeDiff,Nat.reduceMul,Nat.reduceBEq,aE,a73,hw]|refine rd0 rfl ?_))
 ((first|refine d8 (bI 0 ((v.trams.length:Int)-1) [x.tram] (by simp)) (by simp [clr,clrs,ints]) (by simp [okV,okVs]) ?_|refine eS (bI 0 ((v.trams.length:Int)-1) [x.tram] (by simp)) (by simp [clr,clrs,ints]) (by simp [okV,okVs]) ?_);(repeat (first|simp only [↓QA,QB,Nat.reduceLT,reduceIte,Nat.reduceEqDiff,Nat.reduceAdd,Nat.reduceLeDiff,Nat.reduceMul,Nat.reduceBEq,aE,iK]|refine rd0 rfl ?_)))
 cases h1:inR x.tram 0 ((v.trams.length:Int)-1)
 ·(repeat (first|simp only [↓QA,QB,Nat.reduceLT,reduceIte,Nat.reduceEqDiff,Nat.reduceAdd,Nat.reduceLeDiff,Nat.reduceMul,Nat.reduceBEq,aE]|refine rd0 rfl ?_))
  refine eI _ rfl ?_
  try simp only [QS,QC,Nat.reduceLT,reduceIte,Nat.reduceEqDiff,Nat.reduceAdd,Nat.reduceLeDiff,Nat.reduceMul,Nat.reduceBEq,aE,gO,h1]
 ·(repeat (first|simp only [↓QA,QB,Nat.reduceLT,reduceIte,Nat.reduceEqDiff,Nat.reduceAdd,Nat.reduceLeDiff,Nat.reduceMul,Nat.reduceBEq,aE]|refine rd0 rfl ?_))
  ((first|refine d8 (bI (-1) 400 [x.minute] (by simp)) (by simp [clr,clrs,ints]) (by simp [okV,okVs]) ?_|refine eS (bI (-1) 400 [x.minute] (by simp)) (by simp [clr,clrs,ints]) (by simp [okV,okVs]) ?_);(repeat (first|simp only [↓QA,QB,Nat.reduceLT,reduceIte,Nat.reduceEqDiff,Nat.reduceAdd,Nat.reduceLeDiff,Nat.reduceMul,Nat.reduceBEq,aE,iK]|refine rd0 rfl ?_)))
  cases h2:inR x.minute (-1) 400
  all_goals
   (repeat (first|simp only [↓QA,QB,Nat.reduceLT,reduceIte,Nat.reduceEqDiff,Nat.reduceAdd,Nat.reduceLeDiff,Nat.reduceMul,Nat.reduceBEq,aE]|refine rd0 rfl ?_))
   refine eI _ rfl ?_
   try simp only [QS,QC,Nat.reduceLT,reduceIte,Nat.reduceEqDiff,Nat.reduceAdd,Nat.reduceLeDiff,Nat.reduceMul,Nat.reduceBEq,aE,gO,h1,h2,Bool.true_eq_false]
end Go.Am.Room
set_option maxRecDepth 4000
namespace Go.Am.Room
def eC:=And.intro @bD (And.intro @aK (And.intro @aU (And.intro @aV (And.intro @aT (And.intro @aR (And.intro @a9 (And.intro @aY (And.intro @aW (And.intro @dV (And.intro @dR (@Nat.not_lt_zero)))))))))))
theorem kM (v:Net) (h:Fits v):d6 T 17 [dK v] (n7 (cG v)):=by
 refine aZ (af:=a17) rfl (by simp [a17]) dd ?_
 obtain ⟨W,hW⟩:∃ W,IntKind.i64.wrap (v.stations-1)=W:=⟨_,rfl⟩
 (repeat (first|simp only [↓QA,QB,Nat.reduceLT,reduceIte,Nat.reduceEqDiff,Nat.reduceAdd,Nat.reduceLeDiff,Nat.reduceMul,Nat.reduceBEq,eC,a17,hW]|refine rd0 rfl ?_))
 ((first|refine d8 (bI 2 5 [v.stations] (by simp)) (by simp [clr,clrs,ints]) (by simp [okV,okVs]) ?_|refine eS (bI 2 5 [v.stations] (by simp)) (by simp [clr,clrs,ints]) (by simp [okV,okVs]) ?_);(repeat (first|simp only [↓QA,QB,Nat.reduceLT,reduceIte,Nat.reduceEqDiff,Nat.reduceAdd,Nat.reduceLeDiff,Nat.reduceMul,Nat.reduceBEq,eC,iK]|refine rd0 rfl ?_)))
 cases h1:inR v.stations 2 5
 ·(repeat (first|simp only [↓QA,QB,Nat.reduceLT,reduceIte,Nat.reduceEqDiff,Nat.reduceAdd,Nat.reduceLeDiff,Nat.reduceMul,Nat.reduceBEq,eC]|refine rd0 rfl ?_))
  simp [cG,h1,n7]
 ·have hc:cG v=kR v:=by simp only [cG,h1,Bool.true_eq_false,if_false]
  rw [hc]
  have hst:=cW.1 h1
  have hWe:W=v.stations-1:=by rw [←hW];exact dU ⟨by omega,by omega⟩
  subst hWe
  have hWs:∀ s:Int,inR s 0 (v.stations-1)=kS v s:=fun s=>rfl
  (repeat (first|simp only [↓QA,QB,Nat.reduceLT,reduceIte,Nat.reduceEqDiff,Nat.reduceAdd,Nat.reduceLeDiff,Nat.reduceMul,Nat.reduceBEq,eC]|refine rd0 rfl ?_))
  cases h2:decide ((5:Int)<(v.rails.length:Int))
  case' true =>
   have h2':5<v.rails.length:=by first|(have:=of_decide_eq_false h2;omega)|(have:=of_decide_eq_true h2;omega)
   (repeat (first|simp only [↓QA,QB,Nat.reduceLT,reduceIte,Nat.reduceEqDiff,Nat.reduceAdd,Nat.reduceLeDiff,Nat.reduceMul,Nat.reduceBEq,eC,h2]|refine rd0 rfl ?_))
   simp [kR,h2',n7]
  have h2':¬5<v.rails.length:=by first|(have:=of_decide_eq_false h2;omega)|(have:=of_decide_eq_true h2;omega)
  have hc:kR v=match aS (fun _ r=>bX v r) v.rails 0 with|some (i,e)=>(2,(i:Int),e)|none=>kW v:=by simp only [kR,h2',if_false];try rfl
  rw [hc]
  have hf:=B5 [.cells (aB v),.cells [.int .i64 (v.stations-1)]] (.func 65 [] [.ptr 1 0]) v.rails (fun _ r=>bX v r) h.rails (fun τ=>by try simp only [QS,QC,Nat.reduceLT,reduceIte,Nat.reduceEqDiff,Nat.reduceAdd,Nat.reduceLeDiff,Nat.reduceMul,Nat.reduceBEq,eC]) fun i hi=>TF v _ hWs i _ _ _
  try simp only [↓QA,QB,Nat.reduceLT,reduceIte,Nat.reduceEqDiff,Nat.reduceAdd,Nat.reduceLeDiff,Nat.reduceMul,Nat.reduceBEq,eC] at hf
  (repeat (first|simp only [↓QA,QB,Nat.reduceLT,reduceIte,Nat.reduceEqDiff,Nat.reduceAdd,Nat.reduceLeDiff,Nat.reduceMul,Nat.reduceBEq,eC,h2]|refine rd0 rfl ?_))
  refine bM hf ?_
  cases hb:aS (fun _ r=>bX v r) v.rails 0 with
  |some p =>
   obtain ⟨i,e⟩:=p
   have he:=gX hb
   have hg:(e==0)=false:=by simpa using he
   (repeat (first|simp only [↓QA,QB,Nat.reduceLT,reduceIte,Nat.reduceEqDiff,Nat.reduceAdd,Nat.reduceLeDiff,Nat.reduceMul,Nat.reduceBEq,eC,mG,hb,sQ,hg,n7]|refine rd0 rfl ?_))
  |none =>
   have hra:∀ r∈v.rails,RailOk v r:=fun x hx=>by
    obtain ⟨k,hk,rfl⟩:=List.getElem_of_mem hx
    exact vS.1 (jQ hb k hk)
   (repeat (first|simp only [↓QA,QB,Nat.reduceLT,reduceIte,Nat.reduceEqDiff,Nat.reduceAdd,Nat.reduceLeDiff,Nat.reduceMul,Nat.reduceBEq,eC,mG,hb,sQ]|refine rd0 rfl ?_))
   cases h6:decide ((3:Int)<(v.trams.length:Int))
   case' true =>
    have h6':3<v.trams.length:=by first|(have:=of_decide_eq_false h6;omega)|(have:=of_decide_eq_true h6;omega)
    (repeat (first|simp only [↓QA,QB,Nat.reduceLT,reduceIte,Nat.reduceEqDiff,Nat.reduceAdd,Nat.reduceLeDiff,Nat.reduceMul,Nat.reduceBEq,eC,h6]|refine rd0 rfl ?_))
    simp [kW,h6',n7]
   have h6':¬3<v.trams.length:=by first|(have:=of_decide_eq_false h6;omega)|(have:=of_decide_eq_true h6;omega)
   have hc:kW v=match aS (gQ v) v.trams 0 with|some (i,e)=>(3,(i:Int),e)|none=>kV v:=by simp only [kW,h6',if_false];try rfl
   rw [hc]
   have hf:=CR [.cells (aB v),.cells [.int .i64 (v.stations-1)]] (.func 67 [] [.ptr 0 0,.ptr 1 0]) v.trams (gQ v) h.trams (fun τ=>by try simp only [QS,QC,Nat.reduceLT,reduceIte,Nat.reduceEqDiff,Nat.reduceAdd,Nat.reduceLeDiff,Nat.reduceMul,Nat.reduceBEq,eC]) fun i hi=>SR v h hst hra i hi _
   try simp only [↓QA,QB,Nat.reduceLT,reduceIte,Nat.reduceEqDiff,Nat.reduceAdd,Nat.reduceLeDiff,Nat.reduceMul,Nat.reduceBEq,eC] at hf
   (repeat (first|simp only [↓QA,QB,Nat.reduceLT,reduceIte,Nat.reduceEqDiff,Nat.reduceAdd,Nat.reduceLeDiff,Nat.reduceMul,Nat.reduceBEq,eC,h6]|refine rd0 rfl ?_))
   refine bM hf ?_
   cases hb:aS (gQ v) v.trams 0 with
   |some p =>
    obtain ⟨i,e⟩:=p
    have he:=gX hb
    have hg:(e==0)=false:=by simpa using he
    (repeat (first|simp only [↓QA,QB,Nat.reduceLT,reduceIte,Nat.reduceEqDiff,Nat.reduceAdd,Nat.reduceLeDiff,Nat.reduceMul,Nat.reduceBEq,eC,mG,hb,sQ,hg,n7]|refine rd0 rfl ?_))
   |none =>
    (repeat (first|simp only [↓QA,QB,Nat.reduceLT,reduceIte,Nat.reduceEqDiff,Nat.reduceAdd,Nat.reduceLeDiff,Nat.reduceMul,Nat.reduceBEq,eC,mG,hb,sQ]|refine rd0 rfl ?_))
    cases h7:decide ((3:Int)<(v.seen.length:Int))
    case' true =>
     have h7':3<v.seen.length:=by first|(have:=of_decide_eq_false h7;omega)|(have:=of_decide_eq_true h7;omega)
     (repeat (first|simp only [↓QA,QB,Nat.reduceLT,reduceIte,Nat.reduceEqDiff,Nat.reduceAdd,Nat.reduceLeDiff,Nat.reduceMul,Nat.reduceBEq,eC,h7]|refine rd0 rfl ?_))
     simp [kV,h7',n7]
    have h7':¬3<v.seen.length:=by first|(have:=of_decide_eq_false h7;omega)|(have:=of_decide_eq_true h7;omega)
    have hc:kV v=match aS (gO v) v.seen 0 with|some (i,e)=>(4,(i:Int),e)|none=>(0,0,0):=by simp only [kV,h7',if_false];try rfl
    rw [hc]
    have hf:=B7 [.cells (aB v),.cells [.int .i64 (v.stations-1)]] (.func 73 [] [.ptr 0 0]) v.seen (gO v) h.seen (fun τ=>by try simp only [QS,QC,Nat.reduceLT,reduceIte,Nat.reduceEqDiff,Nat.reduceAdd,Nat.reduceLeDiff,Nat.reduceMul,Nat.reduceBEq,eC]) fun i hi=>UO v h i _ _
    try simp only [↓QA,QB,Nat.reduceLT,reduceIte,Nat.reduceEqDiff,Nat.reduceAdd,Nat.reduceLeDiff,Nat.reduceMul,Nat.reduceBEq,eC] at hf
    (repeat (first|simp only [↓QA,QB,Nat.reduceLT,reduceIte,Nat.reduceEqDiff,Nat.reduceAdd,Nat.reduceLeDiff,Nat.reduceMul,Nat.reduceBEq,eC,h7]|refine rd0 rfl ?_))
    refine bM hf ?_
    cases hb:aS (gO v) v.seen 0 with
    |some p =>
     obtain ⟨i,e⟩:=p
     have he:=gX hb
     have hg:(e==0)=false:=by simpa using he
     (repeat (first|simp only [↓QA,QB,Nat.reduceLT,reduceIte,Nat.reduceEqDiff,Nat.reduceAdd,Nat.reduceLeDiff,Nat.reduceMul,Nat.reduceBEq,eC,mG,hb,sQ,hg,n7]|refine rd0 rfl ?_))
    |none =>
     (repeat (first|simp only [↓QA,QB,Nat.reduceLT,reduceIte,Nat.reduceEqDiff,Nat.reduceAdd,Nat.reduceLeDiff,Nat.reduceMul,Nat.reduceBEq,eC,mG,hb,sQ,n7]|refine rd0 rfl ?_))
end Go.Am.Room
set_option maxRecDepth 4000
namespace Go.Am.Room
def bP:=And.intro @bD (And.intro @aK (And.intro @aU (And.intro @aV (And.intro @aT (And.intro @aR (And.intro @a9 (And.intro @aY (And.intro @aW (And.intro @dV (And.intro @dR (And.intro @Nat.not_lt_zero (And.intro @List.length_append.{0} (And.intro @List.length_replicate.{0} (And.intro @Nat.zero_add (And.intro @Nat.mul_one (@Int.toNat_natCast))))))))))))))))
theorem A3:∀ l:List Int,sL 1 l.length (l.map (AV.int .i64))=l.map (.int .i64)
 |[]=>rfl
 |x::l=>by simp [sL,A3 l,AV.cell]
theorem IB {σ:St} {m id n:Nat} {l:List Int} (hm:¬id<m) (hn:n=l.length) (hl:aH σ id=some (l.map (.int .i64))):bT σ m 20 (.ref id 0 n 1)=some (.lit (l.map (.int .i64)) false none):=by
 subst hn
 have hv:jV σ (.ref id 0 l.length 1)=some (l.map (.int .i64)):=by simp [jV,hl,A3]
 rw [I4,if_neg hm,hv]
 simp [tV,nE]
theorem PW {σ:St} {id:Nat} {l:List Int} (h:aH σ id=some (List.replicate (l.length+1) (.int .i64 0))):pV 1 σ (.ref id 0 (l.length+1) 1) (.lit (l.map (.int .i64)) false none)=some (.int .i64 l.length,σ.set id (.cells (l.map (.int .i64)++[.int .i64 0]))):=by
 have h1:=tV l
 have h2:(l.map (AV.int .i64)).take (l.length+1)=l.map (.int .i64):=List.take_of_length_le (by simp)
 have h3:Nat.min l.length (l.length+1)=l.length:=Nat.min_eq_left (by omega)
 have h4:(List.replicate (l.length+1) (AV.int .i64 0)).drop l.length=[.int .i64 0]:=by rw [List.drop_replicate];simp [List.replicate]
 simp [pV,jV,yS,h1,h,fJ,h2,ID,h3,h4]
theorem Q1 (l:List Int) (r:Int):(l.map (AV.int .i64)++[AV.int .i64 0]).take l.length++[AV.int .i64 r]++(l.map (AV.int .i64)++[AV.int .i64 0]).drop (l.length+1)=(l++[r]).map (.int .i64):=by
 simp [List.take_append_of_le_length]
def okR (v:Net) (b:Int) (l:List Int) (r:Int):Bool:=uK v b r&&!(l.length==4)
def gF (v:Net) (b:Int) (l:List Int) (k:Int):List (List Int):=((aO k ((v.rails.length:Int)-k).toNat).filter (okR v b l)).map fun r=>l++[r]
def gW (v:Net) (b:Int) (l:List Int):List (List Int):=gF v b l 0
theorem TO {v:Net} {k:Nat} (h:k<v.rails.length) (b:Int) (l:List Int):gF v b l k=(if okR v b l (k:Int)=true then [l++[(k:Int)]] else [])++gF v b l ((k+1:Nat):Int):=by
 have:=oW (a:=(k:Int)) (below:=v.rails.length) (by omega)
 rw [gF,this,List.filter_cons,show (k:Int)+1=((k+1:Nat):Int) by omega]
 split<;>rfl
theorem XN (v:Net) (b:Int) (l:List Int):gF v b l (v.rails.length:Int)=[]:=by rw [gF,n8 (by omega)];rfl
theorem FT {v:Net} {b:Int} {l:List Int} (h:l.length≠4):gW v b l=E0 v b l:=by
 have e:∀ r,okR v b l r=uK v b r:=fun r=>by simp [okR,h]
 simp only [gW,gF,E0,Int.sub_zero,Int.toNat_natCast]
 congr 1
 exact List.filter_congr fun r _=>e r
theorem JT {v:Net} {b:Int} {l:List Int} (h:l.length=4):gW v b l=[]:=by
 have e:∀ r,okR v b l r=false:=fun r=>by simp [okR,h]
 simp only [gW,gF,List.map_eq_nil_iff,List.filter_eq_nil_iff]
 intro r _
 rw [e];simp
def mP (v:Net) (s b:Int) (k:Nat):List (List Int):=if k≤4 then rW v s b k else []
def aP (v:Net) (s b:Int) (k:Nat):List (List Int):=CV v s b (min k 4)
theorem pG {v:Net} {s b:Int} (hs:s≠0) {k:Nat}:∀ l∈rW v s b k,l.length=k∧∀ r∈l,0≤r∧r<v.rails.length:=fun l hl=>by
 rw [tC hs] at hl
 have:=(List.mem_filter.1 hl).1
 exact ⟨vT _ _ _ _ this,xZ _ _ _ _ this⟩
theorem KD {v:Net} {s b:Int} (hs:s≠0) (h5:v.rails.length≤5) (k:Nat):(rW v s b k).length≤5^k:=by
 rw [tC hs]
 exact Nat.le_trans (List.length_filter_le _ _) (lQ v _ h5 k)
theorem ML {v:Net} {s b:Int} (hs:s≠0) (h5:v.rails.length≤5) {k:Nat} (hk:k≤4):(CV v s b k).length≤1000:=by
 rw [C6 hs k hk]
 exact HW h5 _ _ hk
theorem aCB {v:Net} {s b:Int} (hs:s≠0) {k:Nat}:∀ l∈mP v s b k,l.length=k∧l.length≤4∧∀ r∈l,0≤r∧r<v.rails.length:=fun l hl=>by
 unfold mP at hl
 split at hl
 ·have:=pG hs l hl
  exact ⟨this.1,by omega,this.2⟩
 ·cases hl
theorem xY {α β:Type} {f:α→List β}:∀ {l:List α},(∀ x∈l,f x=[])→l.flatMap f=[]
 |[],_=>rfl
 |x::l,h=>by rw [List.flatMap_cons,h x (by simp),xY fun y hy=>h y (by simp [hy])];rfl
theorem JG {v:Net} {s b:Int} (hs:s≠0) (k:Nat):(mP v s b k).flatMap (fun l=>(gW v b l).filter (eD v s))=mP v s b (k+1):=by
 unfold mP
 by_cases h:k≤4
 ·rw [if_pos h]
  by_cases h4:k=4
  ·rw [if_neg (by omega)]
   refine xY fun l hl=>?_
   rw [JT (by rw [(pG hs l hl).1,h4])];rfl
  ·rw [if_pos (by omega),rW]
   refine jC fun l hl=>?_
   rw [FT (by rw [(pG hs l hl).1];exact h4)]
 ·rw [if_neg h,if_neg (by omega)];rfl
theorem JP {v:Net} {s b:Int} (hs:s≠0) (k:Nat):aP v s b k++(mP v s b k).flatMap (fun l=>(gW v b l).filter (gN v s))=aP v s b (k+1):=by
 unfold mP aP
 by_cases h:k≤4
 ·rw [if_pos h]
  by_cases h4:k=4
  ·subst h4
   rw [xY fun l hl=>by rw [JT (pG hs l hl).1];rfl]
   simp
  ·rw [show min k 4=k by omega,show min (k+1) 4=k+1 by omega,CV]
   congr 1
   refine jC fun l hl=>?_
   rw [FT (by rw [(pG hs l hl).1];exact h4)]
 ·rw [if_neg h,show min k 4=4 by omega,show min (k+1) 4=4 by omega]
  simp
theorem DE {v:Net} {s b:Int} (hs:s≠0) {k:Nat} (h:mP v s b k=[]):∀ j,mP v s b (k+j)=[]∧aP v s b (k+j)=aP v s b k
 |0=>⟨h,rfl⟩
 |j+1=>by
  obtain ⟨h1,h2⟩:=DE hs h j
  have m:=JG (v:=v) (s:=s) (b:=b) hs (k+j)
  have a:=JP (v:=v) (s:=s) (b:=b) hs (k+j)
  rw [h1] at m a
  simp only [List.flatMap_nil,List.append_nil] at m a
  rw [show k+(j+1)=k+j+1 by omega]
  exact ⟨m.symm,by rw [←a,h2]⟩
theorem Y8 {v:Net} {s b:Int} (hs:s≠0) {k:Nat} (h:mP v s b k=[]):aP v s b k=cF v s (nO b):=by
 rw [←aDA v hs]
 by_cases hk:k≤4
 ·have:=(DE hs h (4-k)).2
  rw [show k+(4-k)=4 by omega] at this
  rw [←this];rfl
 ·rw [aP,show min k 4=4 by omega]
theorem LL {v:Net} {s:Int} {p:List Int} (h:gN v s p=true):eD v s p=false:=by
 unfold gN at h
 unfold eD
 split at h
 ·rename_i o ho
  simp only [Bool.and_eq_true] at h
  simp [ho,h.1]
 ·cases h
theorem xR (v:Net) (hv:Vd v) (s:Nat) (hs5:s<5) (b:Int):d6 T 77 [dK v,.int .i64 s,.int .i64 b] (cL (cF v s (nO b))):=by
 refine aZ (af:=a77) rfl (by simp [a77]) dd ?_
 have hnr:=hv.nra
 (repeat (first|simp only [↓QA,QB,Nat.reduceLT,reduceIte,Nat.reduceEqDiff,Nat.reduceAdd,Nat.reduceLeDiff,Nat.reduceMul,Nat.reduceBEq,bP,a77]|refine rd0 rfl ?_))
 cases h0:((s:Int)==0)
 case' true =>
  have h0':(s:Int)=0:=by simpa using h0
  have hz:=JZ v (nO b)
  rw [←h0'] at hz
  rw [hz]
  (repeat (first|simp only [↓QA,QB,Nat.reduceLT,reduceIte,Nat.reduceEqDiff,Nat.reduceAdd,Nat.reduceLeDiff,Nat.reduceMul,Nat.reduceBEq,bP,h0,bE,List.map_nil]|refine rd0 rfl ?_))
  try try simp only [QS,QC,Nat.reduceLT,reduceIte,Nat.reduceEqDiff,Nat.reduceAdd,Nat.reduceLeDiff,Nat.reduceMul,Nat.reduceBEq,bP]
 have hs:(s:Int)≠0:=by simpa using h0
 obtain ⟨Z,hZ⟩:∃ Z,cF v s (nO b)=Z:=⟨_,rfl⟩
 have hall:=fun k=>Y8 (v:=v) (s:=s) (b:=b) hs (k:=k)
 simp only [hZ] at hall
 rw [hZ]
 (repeat (first|simp only [↓QA,QB,Nat.reduceLT,reduceIte,Nat.reduceEqDiff,Nat.reduceAdd,Nat.reduceLeDiff,Nat.reduceMul,Nat.reduceBEq,bP,h0]|refine rd0 rfl ?_))
 refine pU 6 1 [] rfl ?_
 refine dF (S:=Nat×Bool) (0,false) (fun a=>a.1≤5) (fun a=>5-a.1)
  (fun a=>[(1,.int .i64 s),(2,.int .i64 b),(3,.ptr 0 0),(6,.lit ((aP v s b a.1).map ints) false (some 1)),(7,cL (mP v s b a.1))])
  (fun a=>[.cells (aB v),.tok 1 (aP v s b a.1).length a.2]) (Nat.zero_le _) (by simp [aB,ints,aP,CV]) ?_ fun a hk=>?_
 ·try simp only [aD,QE,Nat.reduceLT,reduceIte,Nat.reduceEqDiff,Nat.reduceAdd,Nat.reduceLeDiff,Nat.reduceMul,Nat.reduceBEq,bP]
  simp [cL,ints,mP,rW,aP,CV,clr,clrs]
 ·obtain ⟨k,ex⟩:=a
  simp only at hk
  have hin:=aCB (v:=v) (s:=s) (b:=b) hs (k:=k)
  have hmn:=JG (v:=v) (s:=s) (b:=b) hs k
  have han:=JP (v:=v) (s:=s) (b:=b) hs k
  have hac:∀ j,(aP v s b j).length≤1000:=fun j=>ML hs (by omega) (by omega)
  have hmc:∀ j,(mP v s b j).length≤625:=fun j=>by
   unfold mP
   split
   ·exact Nat.le_trans (KD hs (by omega) j) (Nat.le_trans (Nat.pow_le_pow_right (by omega) (by omega):5^j≤5^4) (by decide))
   ·simp
  have c1:=hac k
  have c2:=hac (k+1)
  have c3:=hmc k
  have c4:=hmc (k+1)
  have hfin:=hall k
  have hm5:k=5→mP v s b k=[]:=fun q=>by rw [q];rfl
  obtain ⟨W,hW⟩:∃ W,mP v s b k=W:=⟨_,rfl⟩
  obtain ⟨X,hX⟩:∃ X,mP v s b (k+1)=X:=⟨_,rfl⟩
  obtain ⟨O,hO⟩:∃ O,aP v s b k=O:=⟨_,rfl⟩
  obtain ⟨Y,hY⟩:∃ Y,aP v s b (k+1)=Y:=⟨_,rfl⟩
  rw [hO] at c1 han hfin
  rw [hY] at c2 han
  rw [hX] at c4 hmn
  rw [hW] at c3 hmn han hfin hm5
  simp only [hW] at hin
  rw [hW,hO]
  (repeat (first|simp only [↓QA,QB,Nat.reduceLT,reduceIte,Nat.reduceEqDiff,Nat.reduceAdd,Nat.reduceLeDiff,Nat.reduceMul,Nat.reduceBEq,bP,UY,cL]|refine rd0 rfl ?_))
  cases hne:decide ((0:Int)<(W.length:Int))
  ·have hw0:W=[]:=by
    have:¬(0:Int)<(W.length:Int):=by simpa using hne
    exact List.length_eq_zero_iff.1 (by omega)
   rw [hfin hw0]
   (repeat (first|simp only [↓QA,QB,Nat.reduceLT,reduceIte,Nat.reduceEqDiff,Nat.reduceAdd,Nat.reduceLeDiff,Nat.reduceMul,Nat.reduceBEq,bP]|refine rd0 rfl ?_))
   try try simp only [QS,QC,Nat.reduceLT,reduceIte,Nat.reduceEqDiff,Nat.reduceAdd,Nat.reduceLeDiff,Nat.reduceMul,Nat.reduceBEq,bP]
  ·have hw0:W≠[]:=by
    have:(0:Int)<(W.length:Int):=by simpa using hne
    rintro rfl
    simp at this
   have hk4:k<5:=by
    by_cases q:k=5
    ·exact absurd (hm5 q) hw0
    ·omega
   (repeat (first|simp only [↓QA,QB,Nat.reduceLT,reduceIte,Nat.reduceEqDiff,Nat.reduceAdd,Nat.reduceLeDiff,Nat.reduceMul,Nat.reduceBEq,bP]|refine rd0 rfl ?_))
   refine pU 8 1 [] rfl ?_
   (repeat (first|simp only [↓QA,QB,Nat.reduceLT,reduceIte,Nat.reduceEqDiff,Nat.reduceAdd,Nat.reduceLeDiff,Nat.reduceMul,Nat.reduceBEq,bP]|refine rd0 rfl ?_))
   refine dF (S:=Nat×List (List Int)×List (List Int)×Bool×Bool) (0,O,[],ex,false) (fun a=>a.1≤W.length∧a.2.2.1++(W.drop a.1).flatMap (fun l=>(gW v b l).filter (eD v s))=X∧a.2.1++(W.drop a.1).flatMap (fun l=>(gW v b l).filter (gN v s))=Y) (fun a=>W.length-a.1)
    (fun a=>[(1,.int .i64 s),(2,.int .i64 b),(3,.ptr 0 0),(6,.lit (a.2.1.map ints) false (some 1)),(8,.lit (a.2.2.1.map ints) false (some 2)),(22,cL W),(23,.int .i64 W.length),(24,.int .i64 a.1)])
    (fun a=>[.cells (aB v),.tok 1 a.2.1.length a.2.2.2.1,.tok 1 a.2.2.1.length a.2.2.2.2]) ⟨Nat.zero_le _,by simpa using hmn,by simpa using han⟩ (by simp [aB,ints]) ?_ fun a ha=>?_
   ·try simp only [aD,QE,Nat.reduceLT,reduceIte,Nat.reduceEqDiff,Nat.reduceAdd,Nat.reduceLeDiff,Nat.reduceMul,Nat.reduceBEq,bP,cL,ints]
    try simp
   ·obtain ⟨i,O,A,ex,ex2⟩:=a
    obtain ⟨hi,hA,hB⟩:=ha
    simp only at hi hA hB
    (repeat (first|simp only [↓QA,QB,Nat.reduceLT,reduceIte,Nat.reduceEqDiff,Nat.reduceAdd,Nat.reduceLeDiff,Nat.reduceMul,Nat.reduceBEq,bP,WL,cL]|refine rd0 rfl ?_))
    refine aI (fun h2=>?_) fun h2=>?_
    ·have hi1:i<W.length:=by simpa using h2
     have hwi:=cR hi1 (by omega)
     obtain ⟨l,hl⟩:∃ l,W[i]=l:=⟨_,rfl⟩
     obtain ⟨_,hl4,hlr⟩:=hin _ (List.getElem_mem hi1)
     rw [hl] at hl4 hlr
     rw [List.drop_eq_getElem_cons hi1,hl,List.flatMap_cons] at hA hB
     obtain ⟨F,hF⟩:∃ F,(W.drop (i+1)).flatMap (fun l=>(gW v b l).filter (eD v s))=F:=⟨_,rfl⟩
     obtain ⟨G,hG⟩:∃ G,(W.drop (i+1)).flatMap (fun l=>(gW v b l).filter (gN v s))=G:=⟨_,rfl⟩
     rw [hF,gW] at hA
     rw [hG,gW] at hB
     have hwl:=cR (show l.length<5 by omega) (by omega)
     have hmk:n5 8 (.int .i64 ((l.length+1:Nat):Int)) (.int .i64 ((l.length+1:Nat):Int))=some (l.length+1):=by simp [n5,room];omega
     (repeat (first|simp only [↓QA,QB,Nat.reduceLT,reduceIte,Nat.reduceEqDiff,Nat.reduceAdd,Nat.reduceLeDiff,Nat.reduceMul,Nat.reduceBEq,bP,hi1,hl,cL]|refine rd0 rfl ?_))
     refine dF (S:=Nat×List (List Int)×List (List Int)×Bool×Bool) (0,O,A,ex,ex2) (fun a=>a.1≤v.rails.length∧a.2.2.1++((gF v b l a.1).filter (eD v s)++F)=X∧a.2.1++((gF v b l a.1).filter (gN v s)++G)=Y) (fun a=>v.rails.length-a.1)
      (fun a=>[(1,.int .i64 s),(2,.int .i64 b),(3,.ptr 0 0),(6,.lit (a.2.1.map ints) false (some 1)),(8,.lit (a.2.2.1.map ints) false (some 2)),(10,ints l),(22,cL W),(23,.int .i64 W.length),(24,.int .i64 i),(29,.lit (v.rails.map dD) false none),(30,.int .i64 v.rails.length),(31,.int .i64 a.1)])
      (fun a=>[.cells (aB v),.tok 1 a.2.1.length a.2.2.2.1,.tok 1 a.2.2.1.length a.2.2.2.2]) ⟨Nat.zero_le _,hA,hB⟩ (by simp [aB]) ?_ fun a ha=>?_
     ·try simp only [aD,QE,Nat.reduceLT,reduceIte,Nat.reduceEqDiff,Nat.reduceAdd,Nat.reduceLeDiff,Nat.reduceMul,Nat.reduceBEq,bP,cL,ints]
      try simp
     ·obtain ⟨r,O,A,ex,ex2⟩:=a
      obtain ⟨hr,hA,hB⟩:=ha
      simp only at hr hA hB
      (repeat (first|simp only [↓QA,QB,Nat.reduceLT,reduceIte,Nat.reduceEqDiff,Nat.reduceAdd,Nat.reduceLeDiff,Nat.reduceMul,Nat.reduceBEq,bP,VY,cL]|refine rd0 rfl ?_))
      refine aI (fun h3=>?_) fun h3=>?_
      ·have hr1:r<v.rails.length:=by simpa using h3
       have hwr:=cR hr1 (by omega)
       rw [TO hr1] at hA hB
       have hok:okR v b l (r:Int)=(!((r:Int)==b)&&!(v.rails[r].shut==1)&&!((l.length:Int)==4)):=by
        rw [okR,uK,wQ hr1]
        have e1:(v.rails[r].shut==1)=decide (v.rails[r].shut=1):=by rw [Bool.eq_iff_iff];simp
        have e2:((l.length:Int)==4)=(l.length==4):=by rw [Bool.eq_iff_iff];simp;omega
        rw [e1,e2]
       obtain ⟨z,hz⟩:∃ z,v.rails[r]=z:=⟨_,rfl⟩
       rw [hz] at hok
       obtain ⟨E,hE⟩:∃ E,gF v b l ((r+1:Nat):Int)=E:=⟨_,rfl⟩
       rw [hE] at hA hB
       have no:okR v b l (r:Int)=false→A++(E.filter (eD v s)++F)=X∧O++(E.filter (gN v s)++G)=Y:=fun q=>by
        rw [q] at hA hB
        exact ⟨by simpa using hA,by simpa using hB⟩
       (repeat (first|simp only [↓QA,QB,Nat.reduceLT,reduceIte,Nat.reduceEqDiff,Nat.reduceAdd,Nat.reduceLeDiff,Nat.reduceMul,Nat.reduceBEq,bP,hr1,hz]|refine rd0 rfl ?_))
       cases q0:((r:Int)==b)
       ·cases q1:(z.shut==1)
        ·cases q2:((l.length:Int)==4)
         ·rw [q0,q1,q2] at hok
          rw [hok] at hA hB
          simp only [Bool.not_false,Bool.and_self,if_true,List.singleton_append,List.cons_append,List.filter_cons] at hA hB
          have hal:A.length≤625:=by
           have:=congrArg List.length hA
           simp only [List.length_append] at this
           omega
          have hol:O.length≤1000:=by
           have:=congrArg List.length hB
           simp only [List.length_append] at this
           omega
          have hbw:=LL (v:=v) (s:=s) (p:=l++[(r:Int)])
          have hld:=BR v hv.st hv.ra s hs5 (l++[(r:Int)]) (fun x hx=>by
           rcases List.mem_append.1 hx with hx|hx
           ·exact hlr x hx
           ·simp only [List.mem_singleton] at hx;subst hx;omega) (by simp;omega)
          have hcp:=fun (b0 b1 b2 b3:ABlk)=>PW (σ:=[b0,b1,b2,b3,.cells (List.replicate (l.length+1) (.int .i64 0))]) (id:=4) (l:=l) rfl
          have hos:=Q1 l r
          have hsr:=fun (b0 b1 b2 b3:ABlk) (m:Nat) (hm:m≤4)=>IB (σ:=[b0,b1,b2,b3,.cells ((l++[(r:Int)]).map (.int .i64))]) (m:=m) (id:=4) (n:=l.length+1) (l:=l++[(r:Int)]) (by omega) (by simp) rfl
          have i4:(0:Int)≤(l.length:Int)∧(l.length:Int)<((l.length+1:Nat):Int)∧1=1:=⟨by omega,by omega,rfl⟩
          obtain ⟨WB,hWB⟩:∃ WB,gN v s (l++[(r:Int)])=WB:=⟨_,rfl⟩
          obtain ⟨BB,hBB⟩:∃ BB,eD v s (l++[(r:Int)])=BB:=⟨_,rfl⟩
          rw [hWB,hBB] at hld
          rw [hWB] at hB hbw
          rw [hBB] at hA hbw
          have a2:=fun (b0 b1:ABlk) (τ:St)=>u3 (σ:=b0::b1::.tok 1 A.length ex2::τ) (t:=2) (ex:=ex2) (sz:=1) (b:=24) (xs:=A.map ints) (ys:=[.ref 4 0 (l.length+1) 1]) (f:=true) (tk:=none) ⟨m8 A,by simp [aM,AV.cells,AV.cell],by simp [room];omega,by simp [room];omega⟩ (by simp) A.length (by simp) rfl
          have a3:=fun (b0:ABlk) (τ:St)=>u3 (σ:=b0::.tok 1 O.length ex::τ) (t:=1) (ex:=ex) (sz:=1) (b:=24) (xs:=O.map ints) (ys:=[.ref 4 0 (l.length+1) 1]) (f:=true) (tk:=none) ⟨m8 O,by simp [aM,AV.cells,AV.cell],by simp [room];omega,by simp [room];omega⟩ (by simp) O.length (by simp) rfl
          have hml:(l++[(r:Int)]).map (AV.int .i64)=l.map (.int .i64)++[.int .i64 r]:=by simp
          (repeat (first|simp only [↓QA,QB,Nat.reduceLT,reduceIte,Nat.reduceEqDiff,Nat.reduceAdd,Nat.reduceLeDiff,Nat.reduceMul,Nat.reduceBEq,bP,q0,q1,q2,hwl,hmk,HH,hcp,i4,hos]|refine rd0 rfl ?_))
          refine w8 hld (by try simp only [QS,QC,Nat.reduceLT,reduceIte,Nat.reduceEqDiff,Nat.reduceAdd,Nat.reduceLeDiff,Nat.reduceMul,Nat.reduceBEq,bP,hsr]) (by simp [Scal,Scals]) ?_
          (repeat (first|simp only [↓QA,QB,Nat.reduceLT,reduceIte,Nat.reduceEqDiff,Nat.reduceAdd,Nat.reduceLeDiff,Nat.reduceMul,Nat.reduceBEq,bP]|refine rd0 rfl ?_))
          cases WB
          ·cases BB
           ·(repeat (first|simp only [↓QA,QB,Nat.reduceLT,reduceIte,Nat.reduceEqDiff,Nat.reduceAdd,Nat.reduceLeDiff,Nat.reduceMul,Nat.reduceBEq,bP,hwr]|refine rd0 rfl ?_))
            refine ⟨(r+1,O,A,ex,ex2),⟨by simp only;omega,by rw [hE];simpa using hA,by rw [hE];simpa using hB⟩,by simp only;omega,?_⟩
            try simp only [aD,QE,Nat.reduceLT,reduceIte,Nat.reduceEqDiff,Nat.reduceAdd,Nat.reduceLeDiff,Nat.reduceMul,Nat.reduceBEq,bP,hwr,cL,ints]
            try simp [aN]
           ·(repeat (first|simp only [↓QA,QB,Nat.reduceLT,reduceIte,Nat.reduceEqDiff,Nat.reduceAdd,Nat.reduceLeDiff,Nat.reduceMul,Nat.reduceBEq,bP,hwr,a2]|refine rd0 rfl ?_))
            refine ⟨(r+1,O,A++[l++[(r:Int)]],ex,true),⟨by simp only;omega,by rw [hE,←hA];simp,by rw [hE];simpa using hB⟩,by simp only;omega,?_⟩
            have hs1:=IB (σ:=[.cells (aB v),.tok 1 O.length ex,.tok 1 (A.length+1) true,.cells (dD z).cells,.cells ((l++[(r:Int)]).map (.int .i64))]) (m:=3) (id:=4) (n:=l.length+1) (l:=l++[(r:Int)]) (by omega) (by simp) rfl
            rw [hml] at hs1
            try simp only [↓QA,QB,Nat.reduceLT,reduceIte,Nat.reduceEqDiff,Nat.reduceAdd,Nat.reduceLeDiff,Nat.reduceMul,Nat.reduceBEq,bP] at hs1
            try simp only [aD,QE,Nat.reduceLT,reduceIte,Nat.reduceEqDiff,Nat.reduceAdd,Nat.reduceLeDiff,Nat.reduceMul,Nat.reduceBEq,bP,hwr,cL,ints,hs1,List.map_append,List.map_cons,List.map_nil]
            try simp [aN]
          ·have:=hbw rfl
           subst this
           (repeat (first|simp only [↓QA,QB,Nat.reduceLT,reduceIte,Nat.reduceEqDiff,Nat.reduceAdd,Nat.reduceLeDiff,Nat.reduceMul,Nat.reduceBEq,bP,hwr,a3]|refine rd0 rfl ?_))
           refine ⟨(r+1,O++[l++[(r:Int)]],A,true,ex2),⟨by simp only;omega,by rw [hE];simpa using hA,by rw [hE,←hB];simp⟩,by simp only;omega,?_⟩
           have hs1:=IB (σ:=[.cells (aB v),.tok 1 (O.length+1) true,.tok 1 A.length ex2,.cells (dD z).cells,.cells ((l++[(r:Int)]).map (.int .i64))]) (m:=3) (id:=4) (n:=l.length+1) (l:=l++[(r:Int)]) (by omega) (by simp) rfl
           rw [hml] at hs1
           try simp only [↓QA,QB,Nat.reduceLT,reduceIte,Nat.reduceEqDiff,Nat.reduceAdd,Nat.reduceLeDiff,Nat.reduceMul,Nat.reduceBEq,bP] at hs1
           try simp only [aD,QE,Nat.reduceLT,reduceIte,Nat.reduceEqDiff,Nat.reduceAdd,Nat.reduceLeDiff,Nat.reduceMul,Nat.reduceBEq,bP,hwr,cL,ints,hs1,List.map_append,List.map_cons,List.map_nil]
           try simp [aN]
         ·have nn:=no (by rw [hok,q2];simp)
          (repeat (first|simp only [↓QA,QB,Nat.reduceLT,reduceIte,Nat.reduceEqDiff,Nat.reduceAdd,Nat.reduceLeDiff,Nat.reduceMul,Nat.reduceBEq,bP,q0,q1,q2,hwr]|refine rd0 rfl ?_))
          refine ⟨(r+1,O,A,ex,ex2),⟨by simp only;omega,by rw [hE];exact nn.1,by rw [hE];exact nn.2⟩,by simp only;omega,?_⟩
          try simp only [aD,QE,Nat.reduceLT,reduceIte,Nat.reduceEqDiff,Nat.reduceAdd,Nat.reduceLeDiff,Nat.reduceMul,Nat.reduceBEq,bP,hwr,cL,ints]
          try simp [aN]
        ·have nn:=no (by rw [hok,q1];simp)
         (repeat (first|simp only [↓QA,QB,Nat.reduceLT,reduceIte,Nat.reduceEqDiff,Nat.reduceAdd,Nat.reduceLeDiff,Nat.reduceMul,Nat.reduceBEq,bP,q0,q1,hwr]|refine rd0 rfl ?_))
         refine ⟨(r+1,O,A,ex,ex2),⟨by simp only;omega,by rw [hE];exact nn.1,by rw [hE];exact nn.2⟩,by simp only;omega,?_⟩
         try simp only [aD,QE,Nat.reduceLT,reduceIte,Nat.reduceEqDiff,Nat.reduceAdd,Nat.reduceLeDiff,Nat.reduceMul,Nat.reduceBEq,bP,hwr,cL,ints]
         try simp [aN]
       ·have nn:=no (by rw [hok,q0];simp)
        (repeat (first|simp only [↓QA,QB,Nat.reduceLT,reduceIte,Nat.reduceEqDiff,Nat.reduceAdd,Nat.reduceLeDiff,Nat.reduceMul,Nat.reduceBEq,bP,q0,hwr]|refine rd0 rfl ?_))
        refine ⟨(r+1,O,A,ex,ex2),⟨by simp only;omega,by rw [hE];exact nn.1,by rw [hE];exact nn.2⟩,by simp only;omega,?_⟩
        try simp only [aD,QE,Nat.reduceLT,reduceIte,Nat.reduceEqDiff,Nat.reduceAdd,Nat.reduceLeDiff,Nat.reduceMul,Nat.reduceBEq,bP,hwr,cL,ints]
        try simp [aN]
      ·have hr1:r=v.rails.length:=by simp at h3;omega
       rw [hr1,XN] at hA hB
       simp only [List.nil_append,List.filter_nil] at hA hB
       (repeat (first|simp only [↓QA,QB,Nat.reduceLT,reduceIte,Nat.reduceEqDiff,Nat.reduceAdd,Nat.reduceLeDiff,Nat.reduceMul,Nat.reduceBEq,bP,hwi]|refine rd0 rfl ?_))
       refine ⟨(i+1,O,A,ex,ex2),⟨by simp only;omega,by rw [hF];exact hA,by rw [hG];exact hB⟩,by simp only;omega,?_⟩
       try simp only [aD,QE,Nat.reduceLT,reduceIte,Nat.reduceEqDiff,Nat.reduceAdd,Nat.reduceLeDiff,Nat.reduceMul,Nat.reduceBEq,bP,hwi,cL,ints]
       try simp [aN]
    ·have hi1:i=W.length:=by simp at h2;omega
     rw [hi1,List.drop_length] at hA hB
     simp only [List.flatMap_nil,List.append_nil] at hA hB
     subst hA hB
     (repeat (first|simp only [↓QA,QB,Nat.reduceLT,reduceIte,Nat.reduceEqDiff,Nat.reduceAdd,Nat.reduceLeDiff,Nat.reduceMul,Nat.reduceBEq,bP]|refine rd0 rfl ?_))
     refine ⟨(k+1,ex),by simp only;omega,by simp only;omega,?_⟩
     try simp only [aD,QE,Nat.reduceLT,reduceIte,Nat.reduceEqDiff,Nat.reduceAdd,Nat.reduceLeDiff,Nat.reduceMul,Nat.reduceBEq,bP,hX,hY,cL,ints]
     try simp [aN]
end Go.Am.Room
set_option maxRecDepth 4000
namespace Go.Am.Room
def cP:=And.intro @bD (And.intro @aK (And.intro @aU (And.intro @aV (And.intro @aT (And.intro @aR (And.intro @a9 (And.intro @aY (And.intro @aW (And.intro @dV (And.intro @dR (And.intro @Nat.not_lt_zero (And.intro @List.length_append.{0} (And.intro @Nat.zero_add (And.intro @Nat.mul_one (And.intro @Int.toNat_natCast (And.intro @dO (And.intro @eO (And.intro @eN (And.intro @jF (@eT))))))))))))))))))))
def jG (x:Stay):AV:=.agg [.int .i64 x.rail,.int .i64 x.frm,.int .i64 x.til]
theorem bN (x:Stay):jG x = .agg [.int .i64 x.rail,.int .i64 x.frm,.int .i64 x.til]:=by simp only [jG]
theorem C5 (x:Stay):kU (jG x):=i7 (bA (cN _ _) (bA (cN _ _) (bA (cN _ _) eQ)))
instance (x:Stay):Dat (jG x):=⟨C5 x⟩
instance (l:List Stay):Dats (l.map jG):=⟨dB C5 l⟩
theorem cJ (σ:St) (m d:Nat) (l:List Stay):cM σ m d (l.map jG)=some (l.map jG):=lH (dB C5 l) σ m d
theorem D3 (l:List Stay):aM 3 (l.map jG)=true:=vQ 3 jG l fun x=>by simp [cI,jG,AV.cells,AV.cell]
def db (v:Net) (b m:Nat):List AV:=aB v++[.int .i64 b,.map m]
theorem gC (v:Net) (b m:Nat):(db v b m)[0]? = some (.int .i64 v.stations):=by simp [db,aB]
theorem gA (v:Net) (b m:Nat):(db v b m)[1]? = some (.lit (v.rails.map dD) false none):=by simp [db,aB]
theorem gE (v:Net) (b m:Nat):(db v b m)[2]? = some (.lit (v.trams.map cE) false none):=by simp [db,aB]
theorem gB (v:Net) (b m:Nat):(db v b m)[3]? = some (.lit (v.seen.map dQ) false none):=by simp [db,aB]
theorem f9 (v:Net) (b m:Nat):(db v b m)[4]? = some (.int .i64 b):=by simp [db,aB]
theorem gD (v:Net) (b m:Nat):(db v b m)[5]? = some (.map m):=by simp [db,aB]
theorem M4 (ss:List Stay) (rail ready m B:Int) (hl:ss.length<9223372036854775808) (hB:∀ x∈ss,x.til≤B) (h0:0≤ready) (hr:ready≤B) (hB2:B≤1000) (hm:0≤m∧m≤20) :
  d6 T 120 [.lit (ss.map jG) false none,.agg [.int .i64 rail,.int .i64 ready,.int .i64 (ready+m)]] (.int .i64 (jT ss rail ready m)):=by
 refine aZ (af:=a120) rfl (by simp [a120]) dd ?_
 have hfi:=AM (rail:=rail) (m:=m) hB (show B≤ready+1000 by omega)
 obtain ⟨Z,hZ⟩:∃ Z,jT ss rail ready m=Z:=⟨_,rfl⟩
 rw [hZ] at hfi ⊢
 (repeat (first|simp only [↓QA,QB,Nat.reduceLT,reduceIte,Nat.reduceEqDiff,Nat.reduceAdd,Nat.reduceLeDiff,Nat.reduceMul,Nat.reduceBEq,cP,bN,cJ,gC,gA,gE,gB,f9,gD,a120]|refine rd0 rfl ?_))
 refine dF (S:=Int) ready (fun r=>qQ ss rail m ready r) (fun r=>(B-r).toNat)
  (fun r=>[(0,.lit (ss.map jG) false none),(3,.ptr 0 0)]) (fun r=>[.cells [.int .i64 rail,.int .i64 r,.int .i64 (r+m)]]) (LC _ _ _ _) rfl ?_ fun r hb=>?_
 ·try simp only [aD,QE,Nat.reduceLT,reduceIte,Nat.reduceEqDiff,Nat.reduceAdd,Nat.reduceLeDiff,Nat.reduceMul,Nat.reduceBEq,cP,bN,cJ,gC,gA,gE,gB,f9,gD]
  try simp
 ·have hrB:=IR hB hb hr
  have hr0:=hb.1
  (repeat (first|simp only [↓QA,QB,Nat.reduceLT,reduceIte,Nat.reduceEqDiff,Nat.reduceAdd,Nat.reduceLeDiff,Nat.reduceMul,Nat.reduceBEq,cP,bN,cJ,gC,gA,gE,gB,f9,gD,PI]|refine rd0 rfl ?_))
  refine dF (S:=Nat×Int) (0,r) (fun a=>a.1≤ss.length∧ZZ ss rail m ready r a.1 a.2) (fun a=>ss.length-a.1)
   (fun a=>[(0,.lit (ss.map jG) false none),(3,.ptr 0 0),(5,.ptr 1 0),(10,.lit (ss.map jG) false none),(11,.int .i64 ss.length),(12,.int .i64 a.1)]) (fun a=>[.cells [.int .i64 rail,.int .i64 a.2,.int .i64 (a.2+m)],.cells [.int .i64 rail,.int .i64 r,.int .i64 (r+m)]]) ⟨by simp,.inl ⟨rfl,by simp⟩⟩ rfl ?_ fun a ha=>?_
  ·try simp only [aD,QE,Nat.reduceLT,reduceIte,Nat.reduceEqDiff,Nat.reduceAdd,Nat.reduceLeDiff,Nat.reduceMul,Nat.reduceBEq,cP,bN,cJ,gC,gA,gE,gB,f9,gD]
   try simp
  ·obtain ⟨k,n⟩:=a
   obtain ⟨hk,hlk⟩:=ha
   simp only at hk hlk
   have hbn:qQ ss rail m ready n:=by
    rcases hlk with ⟨e,_⟩|⟨_,e⟩
    ·rw [e];exact hb
    ·exact e
   have hnB:=IR hB hbn hr
   have hn0:=hbn.1
   (repeat (first|simp only [↓QA,QB,Nat.reduceLT,reduceIte,Nat.reduceEqDiff,Nat.reduceAdd,Nat.reduceLeDiff,Nat.reduceMul,Nat.reduceBEq,cP,bN,cJ,gC,gA,gE,gB,f9,gD,M5]|refine rd0 rfl ?_))
   refine aI (fun h=>?_) fun h=>?_
   ·have hk1:k<ss.length:=by simpa using h
    have hw:=cR hk1 hl
    obtain ⟨x,hx⟩:∃ x,ss[k]=x:=⟨_,rfl⟩
    have hxm:x∈ss:=by rw [←hx];exact List.getElem_mem hk1
    have hat:=NA (p:=iG rail r m) hk1
    rw [hx] at hat
    have no:iG rail n m x=false→ZZ ss rail m ready r (k+1) n:=fun q=>by
     rcases hlk with ⟨e,a⟩|e
     ·subst e
      exact .inl ⟨rfl,by rw [hat,a,q];rfl⟩
     ·exact .inr e
    have yes:iG rail n m x=true→ZZ ss rail m ready r (k+1) x.til:=fun q=>by
     have q1:=zB q
     have hrn:r≤n:=by rcases hlk with ⟨e,_⟩|⟨e,_⟩<;>omega
     exact .inr ⟨by omega,L4 hbn hxm (Int.le_refl n) q (fun y h1 h2=>by omega)⟩
    have hcl:iG rail n m x=((x.rail==rail)&&decide (x.frm<n+m)&&decide (n<x.til)):=by
     have:decide (x.rail=rail)=(x.rail==rail):=by rw [Bool.eq_iff_iff];simp
     rw [iG,this]
    have hxB:=hB x hxm
    (repeat (first|simp only [↓QA,QB,Nat.reduceLT,reduceIte,Nat.reduceEqDiff,Nat.reduceAdd,Nat.reduceLeDiff,Nat.reduceMul,Nat.reduceBEq,cP,bN,cJ,gC,gA,gE,gB,f9,gD,hk1,hx]|refine rd0 rfl ?_))
    cases q1:(x.rail==rail)
    ·have nn:=no (by rw [hcl,q1];simp)
     (repeat (first|simp only [↓QA,QB,Nat.reduceLT,reduceIte,Nat.reduceEqDiff,Nat.reduceAdd,Nat.reduceLeDiff,Nat.reduceMul,Nat.reduceBEq,cP,bN,cJ,gC,gA,gE,gB,f9,gD,q1,hw]|refine rd0 rfl ?_))
     refine ⟨(k+1,n),⟨by simp only;omega,nn⟩,by simp only;omega,?_⟩
     try simp only [aD,QE,Nat.reduceLT,reduceIte,Nat.reduceEqDiff,Nat.reduceAdd,Nat.reduceLeDiff,Nat.reduceMul,Nat.reduceBEq,cP,bN,cJ,gC,gA,gE,gB,f9,gD,hw]
     try simp [aN]
    ·cases q2:decide (x.frm<n+m)
     ·have nn:=no (by rw [hcl,q1,q2];simp)
      (repeat (first|simp only [↓QA,QB,Nat.reduceLT,reduceIte,Nat.reduceEqDiff,Nat.reduceAdd,Nat.reduceLeDiff,Nat.reduceMul,Nat.reduceBEq,cP,bN,cJ,gC,gA,gE,gB,f9,gD,q1,hw,q2]|refine rd0 rfl ?_))
      refine ⟨(k+1,n),⟨by simp only;omega,nn⟩,by simp only;omega,?_⟩
      try simp only [aD,QE,Nat.reduceLT,reduceIte,Nat.reduceEqDiff,Nat.reduceAdd,Nat.reduceLeDiff,Nat.reduceMul,Nat.reduceBEq,cP,bN,cJ,gC,gA,gE,gB,f9,gD,hw]
      try simp [aN]
     ·cases q3:decide (n<x.til)
      ·have nn:=no (by rw [hcl,q1,q2,q3];simp)
       (repeat (first|simp only [↓QA,QB,Nat.reduceLT,reduceIte,Nat.reduceEqDiff,Nat.reduceAdd,Nat.reduceLeDiff,Nat.reduceMul,Nat.reduceBEq,cP,bN,cJ,gC,gA,gE,gB,f9,gD,q1,hw,q2,q3]|refine rd0 rfl ?_))
       refine ⟨(k+1,n),⟨by simp only;omega,nn⟩,by simp only;omega,?_⟩
       try simp only [aD,QE,Nat.reduceLT,reduceIte,Nat.reduceEqDiff,Nat.reduceAdd,Nat.reduceLeDiff,Nat.reduceMul,Nat.reduceBEq,cP,bN,cJ,gC,gA,gE,gB,f9,gD,hw]
       try simp [aN]
      ·have hc:iG rail n m x=true:=by rw [hcl,q1,q2,q3];rfl
       have nn:=yes hc
       have hlt:=zB hc
       have w1:IntKind.i64.wrap (n+m-n)=m:=by rw [show n+m-n=m by omega];exact dU ⟨by omega,by omega⟩
       have w2:IntKind.i64.wrap (x.til+m)=x.til+m:=dU ⟨by omega,by omega⟩
       (repeat (first|simp only [↓QA,QB,Nat.reduceLT,reduceIte,Nat.reduceEqDiff,Nat.reduceAdd,Nat.reduceLeDiff,Nat.reduceMul,Nat.reduceBEq,cP,bN,cJ,gC,gA,gE,gB,f9,gD,q1,hw,q2,q3,w1,w2]|refine rd0 rfl ?_))
       refine ⟨(k+1,x.til),⟨by simp only;omega,nn⟩,by simp only;omega,?_⟩
       try simp only [aD,QE,Nat.reduceLT,reduceIte,Nat.reduceEqDiff,Nat.reduceAdd,Nat.reduceLeDiff,Nat.reduceMul,Nat.reduceBEq,cP,bN,cJ,gC,gA,gE,gB,f9,gD,hw]
       try simp [aN,okVs,okV]
   ·have hk1:k=ss.length:=by simp at h;omega
    rw [hk1] at hlk
    have hrr:(rail==rail)=true:=by simp
    rcases hlk with ⟨e,a⟩|⟨e1,e2⟩
    ·rw [List.take_length] at a
     have hz:=LW hfi (LV hb a)
     subst e
     have g:(n==n)=true:=by simp
     have g2:(n+m==n+m)=true:=by simp
     (repeat (first|simp only [↓QA,QB,Nat.reduceLT,reduceIte,Nat.reduceEqDiff,Nat.reduceAdd,Nat.reduceLeDiff,Nat.reduceMul,Nat.reduceBEq,cP,bN,cJ,gC,gA,gE,gB,f9,gD,g,g2,hrr,hz]|refine rd0 rfl ?_))
    ·have g:(n==r)=false:=by simp;omega
     (repeat (first|simp only [↓QA,QB,Nat.reduceLT,reduceIte,Nat.reduceEqDiff,Nat.reduceAdd,Nat.reduceLeDiff,Nat.reduceMul,Nat.reduceBEq,cP,bN,cJ,gC,gA,gE,gB,f9,gD,g,hrr,Bool.false_and]|refine rd0 rfl ?_))
     refine ⟨n,e2,by omega,?_⟩
     try simp only [aD,QE,Nat.reduceLT,reduceIte,Nat.reduceEqDiff,Nat.reduceAdd,Nat.reduceLeDiff,Nat.reduceMul,Nat.reduceBEq,cP,bN,cJ,gC,gA,gE,gB,f9,gD]
     try simp [aN,okVs,okV]
theorem MK (v:Net) (b m p:Nat) (σ:St) (hσ:aH σ p=some (db v b m)) (i:Nat) (hi:i<v.trams.length):iC T (.func 110 [.ptr p 0] []) [.int .i64 i] σ (ints (eH (lR v) i)):=by
 refine dY (af:=a110) rfl (by simp [a110]) ?_
 rw [GC hi]
 obtain ⟨z,hz⟩:∃ z,v.trams[i]=z:=⟨_,rfl⟩
 rw [hz]
 (repeat (first|simp only [↓QA,QB,Nat.reduceLT,reduceIte,Nat.reduceEqDiff,Nat.reduceAdd,Nat.reduceLeDiff,Nat.reduceMul,Nat.reduceBEq,cP,bN,cJ,gC,gA,gE,gB,f9,gD,a110,hσ,hi,hz]|refine rd0 rfl ?_))
 refine eI [] (by first|rfl|simp) ?_
 try simp only [QS,QC,Nat.reduceLT,reduceIte,Nat.reduceEqDiff,Nat.reduceAdd,Nat.reduceLeDiff,Nat.reduceMul,Nat.reduceBEq,cP,bN,cJ,gC,gA,gE,gB,f9,gD]
def bS (cs:List Int) (j:Nat):Int:=fI cs (j:Int)
theorem HC (cs:List Int) (x:Int) {k:Nat} (hk:cs.length=k):bS (cs++[x])=kT (bS cs) k x:=by
 funext j
 simp only [bS,fI,Int.toNat_natCast,kT]
 by_cases e:j=k
 ·subst e;simp [←hk]
 ·rw [if_neg e]
  by_cases h:j<cs.length
  ·rw [List.getElem?_append_left h]
  ·rw [List.getElem?_eq_none (by simp;omega),List.getElem?_eq_none (by omega)]
theorem uJ (f:Nat→Int) (i:Nat) (a b:Int):kT (kT f i a) i b=kT f i b:=by
 funext j;simp only [kT];split<;>rfl
theorem OX (f:Nat→Int) (i:Nat) (a:Int):kT f i a i=a:=by simp [kT]
theorem XP (v:Net) (m:Int→Int) (ps:List (List Int)):bF 3 (bS (fG v m ps 0).2)=[.int .i64 0,.int .i64 0,.int .i64 0]:=by
 simp [bF,bS,fI,fG,List.range_succ]
theorem LP (M:Nat→Int) (k:Nat) (σ:St) (hσ:aH σ k=some (bF 5 M)) (r:Nat) (hr:r<5):iC T (.func 119 [] [.ptr k 0]) [.int .i64 r] σ (.bool (M r==0)):=by
 refine dY (af:=a119) rfl (by simp [a119]) ?_
 have i5:(0:Int)≤(r:Int)∧(r:Int)<((5:Nat):Int):=⟨by omega,by omega⟩
 have hg:=iE 5 M hr
 (repeat (first|simp only [↓QA,QB,Nat.reduceLT,reduceIte,Nat.reduceEqDiff,Nat.reduceAdd,Nat.reduceLeDiff,Nat.reduceMul,Nat.reduceBEq,cP,bN,cJ,gC,gA,gE,gB,f9,gD,a119,i5,hσ,hg]|refine rd0 rfl ?_))
 refine eI [] (by first|rfl|simp) ?_
 try simp only [QS,QC,Nat.reduceLT,reduceIte,Nat.reduceEqDiff,Nat.reduceAdd,Nat.reduceLeDiff,Nat.reduceMul,Nat.reduceBEq,cP,bN,cJ,gC,gA,gE,gB,f9,gD]
theorem lM (v:Net) (h:Fits v) (s:Int):d6 T 19 [dK v,.int .i64 s] (sV (jM v s)):=by
 refine aZ (af:=a19) rfl (by simp [a19]) dd ?_
 obtain ⟨W,hW⟩:∃ W,IntKind.i64.wrap (v.stations-1)=W:=⟨_,rfl⟩
 (repeat (first|simp only [↓QA,QB,Nat.reduceLT,reduceIte,Nat.reduceEqDiff,Nat.reduceAdd,Nat.reduceLeDiff,Nat.reduceMul,Nat.reduceBEq,cP,bN,cJ,gC,gA,gE,gB,f9,gD,a19]|refine rd0 rfl ?_))
 ((first|refine aF (kM v h) rfl dd ?_|refine aG (kM v h) rfl dd ?_);(repeat (first|simp only [↓QA,QB,Nat.reduceLT,reduceIte,Nat.reduceEqDiff,Nat.reduceAdd,Nat.reduceLeDiff,Nat.reduceMul,Nat.reduceBEq,cP,bN,cJ,gC,gA,gE,gB,f9,gD,n7]|refine rd0 rfl ?_)))
 cases h0:((cG v).2.2==0)
 ·have h0':(cG v).2.2≠0:=by simpa using h0
  have hp:jM v s=([],(cG v).2.2):=by simp [jM,h0']
  rw [hp]
  (repeat (first|simp only [↓QA,QB,Nat.reduceLT,reduceIte,Nat.reduceEqDiff,Nat.reduceAdd,Nat.reduceLeDiff,Nat.reduceMul,Nat.reduceBEq,cP,bN,cJ,gC,gA,gE,gB,f9,gD,h0,sV,bE,List.map_nil]|refine rd0 rfl ?_))
  try rfl
 ·have h0':(cG v).2.2=0:=by simpa using h0
  have hv:=gS h0'
  have hst:=hv.st
  have hWe:IntKind.i64.wrap (v.stations-1)=v.stations-1:=dU ⟨by omega,by omega⟩
  (repeat (first|simp only [↓QA,QB,Nat.reduceLT,reduceIte,Nat.reduceEqDiff,Nat.reduceAdd,Nat.reduceLeDiff,Nat.reduceMul,Nat.reduceBEq,cP,bN,cJ,gC,gA,gE,gB,f9,gD,h0,hWe]|refine rd0 rfl ?_))
  ((first|refine d8 (bI 0 (v.stations-1) [s] (by simp)) (by simp [clr,clrs,ints]) (by simp [okV,okVs]) ?_|refine eS (bI 0 (v.stations-1) [s] (by simp)) (by simp [clr,clrs,ints]) (by simp [okV,okVs]) ?_);(repeat (first|simp only [↓QA,QB,Nat.reduceLT,reduceIte,Nat.reduceEqDiff,Nat.reduceAdd,Nat.reduceLeDiff,Nat.reduceMul,Nat.reduceBEq,cP,bN,cJ,gC,gA,gE,gB,f9,gD,iK]|refine rd0 rfl ?_)))
  rw [show inR s 0 (v.stations-1)=kS v s from rfl]
  cases h1:kS v s
  ·have hp:jM v s=([],4):=by simp [jM,h0',h1]
   rw [hp]
   (repeat (first|simp only [↓QA,QB,Nat.reduceLT,reduceIte,Nat.reduceEqDiff,Nat.reduceAdd,Nat.reduceLeDiff,Nat.reduceMul,Nat.reduceBEq,cP,bN,cJ,gC,gA,gE,gB,f9,gD,h0,sV,bE,List.map_nil]|refine rd0 rfl ?_))
   try rfl
  ·have hp:jM v s=(cF v s [],0):=by simp [jM,h0',h1]
   rw [hp]
   rw [kL] at h1
   obtain ⟨S,rfl⟩:∃ S:Nat,s=(S:Int):=⟨s.toNat,by omega⟩
   have hw:=xR v hv S (by omega) (-1)
   have hb:nO (-1)=[]:=rfl
   rw [hb] at hw
   (repeat (first|simp only [↓QA,QB,Nat.reduceLT,reduceIte,Nat.reduceEqDiff,Nat.reduceAdd,Nat.reduceLeDiff,Nat.reduceMul,Nat.reduceBEq,cP,bN,cJ,gC,gA,gE,gB,f9,gD,h0]|refine rd0 rfl ?_))
   ((first|refine aF (hw) rfl dd ?_|refine aG (hw) rfl dd ?_);(repeat (first|simp only [↓QA,QB,Nat.reduceLT,reduceIte,Nat.reduceEqDiff,Nat.reduceAdd,Nat.reduceLeDiff,Nat.reduceMul,Nat.reduceBEq,cP,bN,cJ,gC,gA,gE,gB,f9,gD,sV,bE]|refine rd0 rfl ?_)))
   try try simp only [QS,QC,Nat.reduceLT,reduceIte,Nat.reduceEqDiff,Nat.reduceAdd,Nat.reduceLeDiff,Nat.reduceMul,Nat.reduceBEq,cP,bN,cJ,gC,gA,gE,gB,f9,gD]
end Go.Am.Room
set_option maxRecDepth 8000
namespace Go.Am.Room
def dW:=And.intro @bD (And.intro @aK (And.intro @aU (And.intro @aV (And.intro @aT (And.intro @aR (And.intro @a9 (And.intro @aY (And.intro @aW (And.intro @dV (And.intro @dR (And.intro @Nat.not_lt_zero (And.intro @List.length_append.{0} (And.intro @Nat.zero_add (And.intro @Nat.mul_one (And.intro @Int.toNat_natCast (And.intro @bN (And.intro @cJ (And.intro @dO (And.intro @eO (And.intro @eN (And.intro @jF (And.intro @eT (And.intro @gC (And.intro @gA (And.intro @gE (And.intro @gB (And.intro @f9 (And.intro @gD (And.intro @Nat.add_lt_add_iff_left (@Nat.lt_add_right_iff_pos))))))))))))))))))))))))))))))
theorem EQ (v:Net) (hv:Vd v) (b m0 p:Nat) (σ:St) (hσ:aH σ p=some (db v b m0)) (hp:p<σ.length) (f:AV) (hk3:∀ τ n,σ.length≤n→bT (σ++τ) n 20 f=some f) (ps:List (List Int)) (hps:RunOk v ps) (hf:∀ i,i<v.trams.length→∀ τ,iC T f [.int .i64 i] (σ++τ) (ints (eH ps i))) (M:Nat→Int) (m:Int→Int) (hM:∀ i:Nat,m (i:Int)=M i) (hm:C7 v m) :
  iC T (.func 109 [] []) [.ptr p 0,.agg (bF 5 M),f] σ (.agg (bF 3 (bS (iJ v ps m)))):=by
 refine dY (af:=a109) rfl (by simp [a109]) ?_
 have hnt:=hv.ntr
 have hnr:=hv.nra
 have hk:rY σ f:=fun τ=>hk3 τ _ (Nat.le_refl _)
 have hk0:=hk.nil
 have hk2:∀ τ n,bT (σ++τ) (σ.length+n) 20 f=some f:=fun τ n=>hk3 τ _ (by omega)
 have hk4:∀ τ,bT (σ++τ) σ.length 20 f=some f:=hk
 have hσ2:=fun τ=>iT hσ τ
 have hbd:=O2 hv hm hps
 have hz:=XP v m ps
 (repeat (first|simp only [↓QA,QB,Nat.reduceLT,reduceIte,Nat.reduceEqDiff,Nat.reduceAdd,Nat.reduceLeDiff,Nat.reduceMul,Nat.reduceBEq,dW,a109,hσ2,←hz]|refine rd0 rfl ?_))
 refine pU 7 3 [] rfl ?_
 refine dF (S:=Nat×Bool) (0,false) (fun a=>a.1≤v.trams.length) (fun a=>v.trams.length-a.1)
  (fun a=>[(2,f),(4,.ptr σ.length 0),(6,.ptr (σ.length+1) 0),(7,.lit ((fG v m ps a.1).1.map jG) false (some (σ.length+2))),(18,.lit (v.trams.map cE) false none),(19,.int .i64 v.trams.length),(20,.int .i64 a.1)])
  (fun a=>σ++[.cells (bF 5 M),.cells (bF 3 (bS (fG v m ps a.1).2)),.tok 3 (fG v m ps a.1).1.length a.2]) (Nat.zero_le _) (by simp [fG]) ?_ fun a ha=>?_
 ·try simp only [aD,QE,Nat.reduceLT,reduceIte,Nat.reduceEqDiff,Nat.reduceAdd,Nat.reduceLeDiff,Nat.reduceMul,Nat.reduceBEq,dW,hk2,hk4]
  try simp [fG]
 ·obtain ⟨i,ex⟩:=a
  simp only at ha
  (repeat (first|simp only [↓QA,QB,Nat.reduceLT,reduceIte,Nat.reduceEqDiff,Nat.reduceAdd,Nat.reduceLeDiff,Nat.reduceMul,Nat.reduceBEq,dW,QI]|refine rd0 rfl ?_))
  refine aI (fun h=>?_) fun h=>?_
  ·have hi1:i<v.trams.length:=by simpa using h
   have hwi:=cR hi1 (by omega)
   obtain ⟨b1,b2⟩:=hbd i (by omega)
   have hlc:=wR v m ps i
   have hsu:=PL v m ps i
   have hto:=xC hv hi1
   have hpm:=E4 hps hi1
   have hp4:=hps.few _ hpm
   have hpr:=hps.rails _ hpm
   have hfp:=fun τ=>hf i hi1 τ
   rw [BD hi1] at hsu
   obtain ⟨t,ht⟩:∃ t,v.trams[i]=t:=⟨_,rfl⟩
   obtain ⟨p,hpp⟩:∃ p,eH ps i=p:=⟨_,rfl⟩
   rw [ht] at hto hsu
   rw [hpp] at hp4 hpr hsu
   simp only [hpp] at hfp
   have hlv:=hto.leaves
   obtain ⟨L,hL⟩:∃ L,t.leaves=L:=⟨_,rfl⟩
   rw [hL] at hlv hsu
   obtain ⟨SS,hSS⟩:∃ SS,(fG v m ps i).1=SS:=⟨_,rfl⟩
   obtain ⟨OO,hOO⟩:∃ OO,(fG v m ps i).2=OO:=⟨_,rfl⟩
   rw [hSS] at b1 hsu
   rw [hOO] at b2 hlc hsu
   have hgo:m7 m i L p SS=if p.any (fun r=>m r==0)=true then (SS,-1) else pA m i p L SS:=rfl
   rw [hSS,hOO]
   obtain ⟨R,hR⟩:∃ R,m7 m i L p SS=R:=⟨_,rfl⟩
   rw [hR] at hsu hgo
   have hsu1:(fG v m ps (i+1)).1=R.1:=by rw [hsu]
   have hsu2:bS (fG v m ps (i+1)).2=kT (bS OO) i R.2:=by rw [hsu];exact HC OO R.2 hlc
   have i3:(0:Int)≤(i:Int)∧(i:Int)<((3:Nat):Int):=⟨by omega,by omega⟩
   have c3:i+1≤3:=by omega
   have hset:=fun (g:Nat→Int) x=>pL 3 g x (i:=i) (by omega)
   have hget:=fun (g:Nat→Int)=>iE 3 g (i:=i) (by omega)
   have hct:=fun (C:ABlk) (τ:St)=>oQ (σ++(.cells (bF 5 M)::C::τ)) (.func 119 [] [.ptr σ.length 0]) p (fun r=>m r==0) (by omega) (fun υ=>by try simp only [QS,QC,Nat.reduceLT,reduceIte,Nat.reduceEqDiff,Nat.reduceAdd,Nat.reduceLeDiff,Nat.reduceMul,Nat.reduceBEq,dW,List.length_append];simp) (fun x hx=>by
    have hxr:=hpr x hx
    obtain ⟨r,rfl⟩:∃ r:Nat,x=(r:Int):=⟨x.toNat,by omega⟩
    rw [hM]
    exact LP M σ.length _ (by rw [iB];rfl) r (by omega))
   (repeat (first|simp only [↓QA,QB,Nat.reduceLT,reduceIte,Nat.reduceEqDiff,Nat.reduceAdd,Nat.reduceLeDiff,Nat.reduceMul,Nat.reduceBEq,dW,hi1,ht,hL,i3,c3,hset]|refine rd0 rfl ?_))
   refine bM (hfp _) ?_
   (repeat (first|simp only [↓QA,QB,Nat.reduceLT,reduceIte,Nat.reduceEqDiff,Nat.reduceAdd,Nat.reduceLeDiff,Nat.reduceMul,Nat.reduceBEq,dW]|refine rd0 rfl ?_))
   refine bM (hct _ _) ?_
   have hwt:∀ (TB:ABlk) (K:KJ) (e:Env),Env.get e 2=f→Env.get e 4 = .ptr σ.length 0→Env.get e 6 = .ptr (σ.length+1) 0→Env.get e 7 = .lit (SS.map jG) false (some (σ.length+2))→Env.get e 8 = .int .i64 i→Env.get e 18 = .lit (v.trams.map cE) false none→Env.get e 19 = .int .i64 v.trams.length→Env.get e 20 = .int .i64 i→Env.get e 37=ints p→Env.get e 38 = .int .i64 p.length→Env.get e 39 = .int .i64 0 →
     p.any (fun r=>m r==0)=false→pA m i p L SS=R →
     (∀ e' ex',Env.get e' 2=f→Env.get e' 4 = .ptr σ.length 0→Env.get e' 6 = .ptr (σ.length+1) 0→Env.get e' 7 = .lit (R.1.map jG) false (some (σ.length+2))→Env.get e' 18 = .lit (v.trams.map cE) false none→Env.get e' 19 = .int .i64 v.trams.length→Env.get e' 20 = .int .i64 i →
      K (some (.exit 2)) e' (σ++[.cells (bF 5 M),.cells (bF 3 (kT (bS OO) i R.2)),.tok 3 R.1.length ex',TB])) →
     rK (K:=⟨K⟩) T (.loop GW) e (σ++[.cells (bF 5 M),.cells (bF 3 (kT (bS OO) i L)),.tok 3 SS.length ex,TB]):=by
    intro TB K e q2 q4 q6 q7 q8 q18 q19 q20 q37 q38 q39 hc hgo hK
    refine dF (S:=Nat×Int×List Stay×Bool) (0,L,SS,ex) (fun a=>a.1≤p.length∧0≤a.2.1∧a.2.1≤60+20*(4*i+a.1:Nat)∧StaysOk a.2.2.1 (4*i+a.1)∧pA m i (p.drop a.1) a.2.1 a.2.2.1=R) (fun a=>p.length-a.1)
     (fun a=>[(2,f),(4,.ptr σ.length 0),(6,.ptr (σ.length+1) 0),(7,.lit (a.2.2.1.map jG) false (some (σ.length+2))),(8,.int .i64 i),(18,.lit (v.trams.map cE) false none),(19,.int .i64 v.trams.length),(20,.int .i64 i),(37,ints p),(38,.int .i64 p.length),(39,.int .i64 a.1)])
     (fun a=>σ++[.cells (bF 5 M),.cells (bF 3 (kT (bS OO) i a.2.1)),.tok 3 a.2.2.1.length a.2.2.2,TB]) ⟨by simp,by simp only;omega,by simp only;omega,b1,hgo⟩ rfl ?_ fun a ha=>?_
    ·try simp only [aD,QE,Nat.reduceLT,reduceIte,Nat.reduceEqDiff,Nat.reduceAdd,Nat.reduceLeDiff,Nat.reduceMul,Nat.reduceBEq,dW,ints,hk2,hk4,q2,q4,q6,q7,q8,q18,q19,q20,q37,q38,q39]
     try simp [aN]
    ·obtain ⟨j,at_,SS,ex⟩:=a
     obtain ⟨hj,ha0,ha1,hso,hgo⟩:=ha
     simp only at hj ha0 ha1 hso hgo
     (repeat (first|simp only [↓QA,QB,Nat.reduceLT,reduceIte,Nat.reduceEqDiff,Nat.reduceAdd,Nat.reduceLeDiff,Nat.reduceMul,Nat.reduceBEq,dW,GW]|refine rd0 rfl ?_))
     refine aI (fun h2=>?_) fun h2=>?_
     ·have hj1:j<p.length:=by simpa using h2
      have hwj:=cR hj1 (by omega)
      have hpk:=hpr _ (List.getElem_mem hj1)
      rw [List.drop_eq_getElem_cons hj1] at hgo
      obtain ⟨r,hr⟩:∃ r:Nat,p[j]=(r:Int):=⟨p[j].toNat,by omega⟩
      rw [hr] at hpk hgo
      have hmr:=hm r hpk.1 hpk.2
      have hMr:=hM r
      obtain ⟨Q,hQ⟩:∃ Q,M r=Q:=⟨_,rfl⟩
      rw [hQ] at hMr
      rw [hMr] at hmr
      simp only [pA,hMr] at hgo
      obtain ⟨f1,f2,f3⟩:=JF (rail:=(r:Int)) (m:=Q) hso (by omega) ha0 ha1
      have hsl:=hso.len
      have hfr:=M4 SS r at_ Q (60+20*((4*i+j:Nat):Int)) (by omega) hso.til ha0 ha1 (by omega) (by omega)
      obtain ⟨F,hF⟩:∃ F,jT SS r at_ Q=F:=⟨_,rfl⟩
      rw [hF] at hgo f2 f3 hfr
      have hwF:IntKind.i64.wrap (F+Q)=F+Q:=dU ⟨by omega,by omega⟩
      have hwA:IntKind.i64.wrap (at_+Q)=at_+Q:=dU ⟨by omega,by omega⟩
      have i5:(0:Int)≤(r:Int)∧(r:Int)<((5:Nat):Int):=⟨by omega,by omega⟩
      have hg5:=iE 5 M (show r<5 by omega)
      rw [hQ] at hg5
      have a7:=fun (b0 b1:ABlk) (τ:St)=>u3 (σ:=σ++(b0::b1::.tok 3 SS.length ex::τ)) (t:=σ.length+2) (ex:=ex) (sz:=3) (b:=24) (xs:=SS.map jG) (ys:=[.agg [.int .i64 r,.int .i64 F,.int .i64 (F+Q)]]) (f:=true) (tk:=none) ⟨D3 SS,by simp [aM,cI,AV.cells,AV.cell],by simp [room];omega,by simp [room];omega⟩ (by simp) SS.length (by simp) (by rw [qD];rfl)
      (repeat (first|simp only [↓QA,QB,Nat.reduceLT,reduceIte,Nat.reduceEqDiff,Nat.reduceAdd,Nat.reduceLeDiff,Nat.reduceMul,Nat.reduceBEq,dW,hj1,hr,i3,i5,hget,hg5,OX,hwA]|refine rd0 rfl ?_))
      ((first|refine w8 (hfr) (by try simp only [QS,QC,Nat.reduceLT,reduceIte,Nat.reduceEqDiff,Nat.reduceAdd,Nat.reduceLeDiff,Nat.reduceMul,Nat.reduceBEq,dW]) trivial ?_|refine B8 (hfr) (by try simp only [QS,QC,Nat.reduceLT,reduceIte,Nat.reduceEqDiff,Nat.reduceAdd,Nat.reduceLeDiff,Nat.reduceMul,Nat.reduceBEq,dW]) trivial ?_);(repeat (first|simp only [↓QA,QB,Nat.reduceLT,reduceIte,Nat.reduceEqDiff,Nat.reduceAdd,Nat.reduceLeDiff,Nat.reduceMul,Nat.reduceBEq,dW,hj1,hr,i3,i5,c3,hget,hg5,OX,hwA,hwF,hset,uJ,a7]|refine rd0 rfl ?_)))
      refine ⟨(j+1,F+Q,SS++[⟨i,r,F,F+Q⟩],true),⟨by simp only;omega,by simp only;omega,by simp only;omega,?_,hgo⟩,by simp only;omega,?_⟩
      ·refine ⟨by simp;omega,fun x hx=>?_,fun x hx=>?_⟩
       ·rcases List.mem_append.1 hx with hx|hx
        ·have:=hso.til x hx;simp only;omega
        ·simp only [List.mem_singleton] at hx;subst hx;simp only;omega
       ·rcases List.mem_append.1 hx with hx|hx
        ·exact hso.frm x hx
        ·simp only [List.mem_singleton] at hx;subst hx;simp only;omega
      ·try simp only [aD,QE,Nat.reduceLT,reduceIte,Nat.reduceEqDiff,Nat.reduceAdd,Nat.reduceLeDiff,Nat.reduceMul,Nat.reduceBEq,dW,hwj,ints,hk2,hk4,List.map_append,List.map_cons,List.map_nil]
       try simp [aN,okVs,okV,CY]
     ·have hj1:j=p.length:=by
       have:¬j<p.length:=by simpa using h2
       omega
      rw [List.drop_eq_nil_of_le (by omega),pA] at hgo
      subst hgo
      (repeat (first|simp only [↓QA,QB,Nat.reduceLT,reduceIte,Nat.reduceEqDiff,Nat.reduceAdd,Nat.reduceLeDiff,Nat.reduceMul,Nat.reduceBEq,dW]|refine rd0 rfl ?_))
      refine hK _ ex ?_ ?_ ?_ ?_ ?_ ?_ ?_
      all_goals try simp only [aD,QE,Nat.reduceLT,reduceIte,Nat.reduceEqDiff,Nat.reduceAdd,Nat.reduceLeDiff,Nat.reduceMul,Nat.reduceBEq,dW]
   cases hc:p.any (fun r=>m r==0)
   ·rw [hc] at hgo
    simp only [Bool.false_eq_true,if_false] at hgo
    (repeat (first|simp only [↓QA,QB,Nat.reduceLT,reduceIte,Nat.reduceEqDiff,Nat.reduceAdd,Nat.reduceLeDiff,Nat.reduceMul,Nat.reduceBEq,dW]|refine rd0 rfl ?_))
    refine hwt _ _ _ ?_ ?_ ?_ ?_ ?_ ?_ ?_ ?_ ?_ ?_ ?_ hc hgo.symm ?_
    all_goals try try simp only [aD,QE,Nat.reduceLT,reduceIte,Nat.reduceEqDiff,Nat.reduceAdd,Nat.reduceLeDiff,Nat.reduceMul,Nat.reduceBEq,dW,ints]
    intro e' ex' q2 q4 q6 q7 q18 q19 q20
    (repeat (first|simp only [↓QA,QB,Nat.reduceLT,reduceIte,Nat.reduceEqDiff,Nat.reduceAdd,Nat.reduceLeDiff,Nat.reduceMul,Nat.reduceBEq,dW,q2,q4,q6,q7,q18,q19,q20,hwi]|refine rd0 rfl ?_))
    refine ⟨(i+1,ex'),by simp only;omega,by simp only;omega,?_⟩
    try simp only [aD,QE,Nat.reduceLT,reduceIte,Nat.reduceEqDiff,Nat.reduceAdd,Nat.reduceLeDiff,Nat.reduceMul,Nat.reduceBEq,dW,q2,q4,q6,q7,q18,q19,q20,hwi,hsu1,hsu2,hk2,hk4]
    try simp [aN,okVs,okV,CY]
   ·rw [hc] at hgo
    simp only [if_true] at hgo
    subst hgo
    (repeat (first|simp only [↓QA,QB,Nat.reduceLT,reduceIte,Nat.reduceEqDiff,Nat.reduceAdd,Nat.reduceLeDiff,Nat.reduceMul,Nat.reduceBEq,dW,hset,i3,c3,uJ,hwi]|refine rd0 rfl ?_))
    refine ⟨(i+1,ex),by simp only;omega,by simp only;omega,?_⟩
    try simp only [aD,QE,Nat.reduceLT,reduceIte,Nat.reduceEqDiff,Nat.reduceAdd,Nat.reduceLeDiff,Nat.reduceMul,Nat.reduceBEq,dW,hwi,hsu1,hsu2,hk2,hk4]
    try simp [aN,okVs,okV,CY]
  ·have hi1:i=v.trams.length:=by
    have:¬i<v.trams.length:=by simpa using h
    omega
   rw [hi1]
   (repeat (first|simp only [↓QA,QB,Nat.reduceLT,reduceIte,Nat.reduceEqDiff,Nat.reduceAdd,Nat.reduceLeDiff,Nat.reduceMul,Nat.reduceBEq,dW]|refine rd0 rfl ?_))
   refine eI [.cells (bF 5 M),.cells (bF 3 (bS (fG v m ps v.trams.length).2)),.tok 3 (fG v m ps v.trams.length).1.length ex] (by first|rfl|simp) ?_
   try simp only [QS,QC,Nat.reduceLT,reduceIte,Nat.reduceEqDiff,Nat.reduceAdd,Nat.reduceLeDiff,Nat.reduceMul,Nat.reduceBEq,dW,iJ]
end Go.Am.Room
set_option maxRecDepth 8000
namespace Go.Am.Room
def gG:=And.intro @bD (And.intro @aK (And.intro @aU (And.intro @aV (And.intro @aT (And.intro @aR (And.intro @a9 (And.intro @aY (And.intro @aW (And.intro @dV (And.intro @dR (And.intro @Nat.not_lt_zero (And.intro @List.length_append.{0} (And.intro @Nat.zero_add (And.intro @Nat.mul_one (And.intro @Int.toNat_natCast (And.intro @dO (And.intro @eO (And.intro @eN (And.intro @jF (And.intro @eT (And.intro @gC (And.intro @gA (And.intro @gE (And.intro @gB (And.intro @f9 (And.intro @gD (And.intro @Nat.add_lt_add_iff_left (@Nat.lt_add_right_iff_pos))))))))))))))))))))))))))))
def rl (l:List Int) (i:Nat):Int:=(l[i]?).getD 0
theorem V3 {l:List Int} {k:Nat} (h:k<l.length):rl l k=l[k]:=by simp [rl,h]
theorem P0 (c:List Int) (i:Nat):rlI c (i:Int)=rl c i:=by simp [rlI,rl]
theorem MG {a b:List Int} (h1:a.length=b.length) (h2:a.length≤5):((List.range 5).all fun i=>rl a i==rl b i)=decide (a=b):=by
 rw [Bool.eq_iff_iff,List.all_eq_true,decide_eq_true_eq]
 constructor
 ·intro h
  refine List.ext_getElem h1 fun i hi1 hi2=>?_
  have:=h i (by simp;omega)
  rw [beq_iff_eq,V3 (by omega),V3 (by omega)] at this
  exact this
 ·rintro rfl i _
  simp
abbrev K5:={ c:List Int // c.length=5 }
def pad (c:List Int):K5:=⟨(List.range 5).map (rl c),by simp⟩
theorem MW (c:List Int) {i:Nat} (h:i<5):rl (pad c).1 i=rl c i:=by simp [pad,rl,h]
theorem RN (c:List Int):bF 5 (rl (pad c).1)=bF 5 (rl c):=GY fun i hi=>MW c hi
theorem KV (v:Net) {c:List Int} (h:c.length≤5):cV v (pad c).1=cV v c:=by
 have:rlI (pad c).1=rlI c:=by
  funext r
  simp only [rlI]
  by_cases hr:r.toNat<5
  ·exact MW c hr
  ·rw [List.getElem?_eq_none (by rw [(pad c).2];omega),List.getElem?_eq_none (by omega)]
 rw [cV,cV,this]
def ST (w:K5):AV:=.agg (bF 5 (rl w.1))
theorem T6 (w:K5):ST w = .agg (bF 5 (rl w.1)):=by simp only [ST]
def RG (v:Net) (w:K5):AV:=.agg (bF 3 (bS (cV v w.1)))
theorem TY (v:Net) (w:K5):RG v w = .agg (bF 3 (bS (cV v w.1))):=by simp only [RG]
theorem xE (v:Net):KeyIs (.agg [.i,.i,.i,.i,.i]) ST (RG v) where
 eq:=fun w x=>by
  have:=I0q 5 (rl w.1) (rl x.1)
  rw [MG (by rw [w.2,x.2]) (by rw [w.2];exact Nat.le_refl _)] at this
  have e:decide (w.1=x.1)=decide (w=x):=by rw [decide_eq_decide];exact Subtype.ext_iff.symm
  rw [e] at this
  exact this
 dk:=fun w=>i7 (mA _ _)
 dv:=fun w=>i7 (mA _ _)
abbrev tEs (v:Net):List K5→List (AV×AV):=pB ST (RG v)
def TC (k:Nat):AV:=if k=0 then .func 116 [] [] else if k=1 then .func 117 [] [] else .func 118 [] []
def kI:List AV:=[.func 116 [] [],.func 117 [] [],.func 118 [] []]
theorem pF:kI=[.func 116 [] [],.func 117 [] [],.func 118 [] []]:=by simp only [kI]
theorem N6 {k:Nat} (h:k<3):kI[k]? = some (TC k):=by
 have:k=0∨k=1∨k=2:=by omega
 rcases this with rfl|rfl|rfl<;>rfl
theorem AF (k:Nat) (hk:k<3) (c:Bool) (σ:St):iC T (TC k) [.bool c] σ (.bool (C2 (k:Int) c)):=by
 have:k=0∨k=1∨k=2:=by omega
 rcases this with rfl|rfl|rfl
 ·refine dY (af:=a116) rfl (by simp [a116]) ?_
  (repeat (first|simp only [↓QA,QB,Nat.reduceLT,reduceIte,Nat.reduceEqDiff,Nat.reduceAdd,Nat.reduceLeDiff,Nat.reduceMul,Nat.reduceBEq,gG,a116]|refine rd0 rfl ?_))
  refine eI [] (by first|rfl|simp) ?_
  cases c<;>(rw [CI];rfl)
 ·refine dY (af:=a117) rfl (by simp [a117]) ?_
  (repeat (first|simp only [↓QA,QB,Nat.reduceLT,reduceIte,Nat.reduceEqDiff,Nat.reduceAdd,Nat.reduceLeDiff,Nat.reduceMul,Nat.reduceBEq,gG,a117]|refine rd0 rfl ?_))
  refine eI [] (by first|rfl|simp) ?_
  cases c<;>(rw [CI];rfl)
 ·refine dY (af:=a118) rfl (by simp [a118]) ?_
  (repeat (first|simp only [↓QA,QB,Nat.reduceLT,reduceIte,Nat.reduceEqDiff,Nat.reduceAdd,Nat.reduceLeDiff,Nat.reduceMul,Nat.reduceBEq,gG,a118]|refine rd0 rfl ?_))
  refine eI [] (by first|rfl|simp) ?_
  cases c<;>(rw [CI];rfl)
theorem H1 (σ:St):iC T (.func 107 [] []) [] σ (.agg kI):=by
 refine dY (af:=a107) rfl (by simp [a107]) ?_
 have j0:(0:Int)≤0∧(0:Int)<((3:Nat):Int):=by decide
 have j1:(0:Int)≤1∧(1:Int)<((3:Nat):Int):=by decide
 have j2:(0:Int)≤2∧(2:Int)<((3:Nat):Int):=by decide
 have t0:Int.toNat 0=0:=rfl
 have t1:Int.toNat 1=1:=rfl
 have t2:Int.toNat 2=2:=rfl
 (repeat (first|simp only [↓QA,QB,Nat.reduceLT,reduceIte,Nat.reduceEqDiff,Nat.reduceAdd,Nat.reduceLeDiff,Nat.reduceMul,Nat.reduceBEq,gG,a107,j0,j1,j2,t0,t1,t2]|refine rd0 rfl ?_))
 refine eI [.cells kI] (by first|rfl|simp [kI]) ?_
 try simp only [QS,QC,Nat.reduceLT,reduceIte,Nat.reduceEqDiff,Nat.reduceAdd,Nat.reduceLeDiff,Nat.reduceMul,Nat.reduceBEq,gG,pF,CN]
theorem TS (v:Net) (hv:Vd v) (b m p q tt s2 s5:Nat) (bl CS:List Int) (hb:ButIs b bl) (hcl:CS.length=v.trams.length) (σ:St) (hq:aH σ q=some [.ptr p 0]) (hp:aH σ p=some (db v b m)) (ht:aH σ tt=some (bF 3 (bS CS))) (hs2:s2<σ.length) (hs5:s5<σ.length) (e:Env) (K:KJ)
  (e1:Env.get e 1 = .ptr q 0) (e2:Env.get e 2 = .ptr s2 0) (e5:Env.get e 5 = .ptr s5 0) (e10:Env.get e 10 = .ptr tt 0) (e58:Env.get e 58 = .lit (v.seen.map dQ) false none) (e59:Env.get e 59 = .int .i64 v.seen.length) (e60:Env.get e 60 = .int .i64 0)
  (hKt:mL v bl CS=true→∀ e',Env.get e' 2 = .ptr s2 0→Env.get e' 5 = .ptr s5 0→Env.get e' 10 = .ptr tt 0→K (some (.exit 0)) e' σ)
  (hKf:mL v bl CS=false→∀ e' τ',Env.get e' 9 = .bool true→K (some .ret) e' (σ++τ')) :
  rK (K:=⟨K⟩) T (.loop CA) e σ:=by
 have hse:=hv.nse
 have hnt:=hv.ntr
 have hql:=nM hq
 have htl:=nM ht
 have hq2:=fun τ=>iT hq τ
 have hp2:=fun τ=>iT hp τ
 have ht2:=fun τ=>iT ht τ
 refine dF (S:=Nat) 0 (fun k=>k≤v.seen.length∧qI v bl CS k=true) (fun k=>v.seen.length-k)
  (fun k=>[(1,.ptr q 0),(2,.ptr s2 0),(5,.ptr s5 0),(10,.ptr tt 0),(58,.lit (v.seen.map dQ) false none),(59,.int .i64 v.seen.length),(60,.int .i64 k)])
  (fun k=>σ) ⟨Nat.zero_le _,rfl⟩ rfl ?_ fun k hk=>?_
 ·try simp only [aD,QE,Nat.reduceLT,reduceIte,Nat.reduceEqDiff,Nat.reduceAdd,Nat.reduceLeDiff,Nat.reduceMul,Nat.reduceBEq,gG,e1,e2,e5,e10,e58,e59,e60]
  try simp [hs2,hs5,hql,htl]
 ·obtain ⟨hk,hok⟩:=hk
  (repeat (first|simp only [↓QA,QB,Nat.reduceLT,reduceIte,Nat.reduceEqDiff,Nat.reduceAdd,Nat.reduceLeDiff,Nat.reduceMul,Nat.reduceBEq,gG,CA]|refine rd0 rfl ?_))
  refine aI (fun hd=>?_) fun hd=>?_
  ·have hk1:k<v.seen.length:=by simpa using hd
   have hw:=cR hk1 (by omega)
   have hsu:=DU hk1 bl CS
   have hsx:=hv.se _ (List.getElem_mem hk1)
   obtain ⟨x,hx⟩:∃ x,v.seen[k]=x:=⟨_,rfl⟩
   rw [hx] at hsu hsx
   rw [hok,Bool.true_and] at hsu
   obtain ⟨t,hte⟩:∃ t:Nat,x.tram=t:=⟨x.tram.toNat,by omega⟩
   rw [hte] at hsu hsx
   have hdiv:b/2^k<9223372036854775808:=Nat.lt_of_le_of_lt (Nat.div_le_self _ _) hb.lt
   have hbit:=hb.bit k (by omega)
   have vs:=NG b k (by omega)
   have va:=HA (b/2^k) hdiv
   have i3:(0:Int)≤(t:Int)∧(t:Int)<((3:Nat):Int):=⟨by omega,by omega⟩
   have hg:=iE 3 (bS CS) (i:=t) (by omega)
   have hcf:bS CS t=fI CS (t:Int):=rfl
   rw [hcf] at hg
   obtain ⟨C,hC⟩:∃ C,fI CS (t:Int)=C:=⟨_,rfl⟩
   rw [hC] at hsu hg
   have go:qI v bl CS (k+1)=true→(k+1≤v.seen.length∧qI v bl CS (k+1)=true):=fun q=>⟨by omega,q⟩
   have snp:∀ τ n,n<σ.length→bT (σ++τ) σ.length 20 (.ptr n 0)=some (.ptr n 0):=fun τ n hn=>by rw [WM,if_pos hn]
   cases h2:bl.contains (k:Int)
   ·rw [h2] at hbit hsu
    rw [Bool.false_or] at hsu
    cases h3:(C==x.minute)
    ·rw [h3] at hsu
     have hqf:mL v bl CS=false:=by
      rw [←y0]
      simp only [qI,List.all_eq_false,List.mem_range] at hsu ⊢
      obtain ⟨a,ha,h1⟩:=hsu
      exact ⟨a,by omega,h1⟩
     (repeat (first|simp only [↓QA,QB,Nat.reduceLT,reduceIte,Nat.reduceEqDiff,Nat.reduceAdd,Nat.reduceLeDiff,Nat.reduceMul,Nat.reduceBEq,gG,hk1,hx,hte,hq2,hp2,ht2,vs,va,hbit,i3,hg,h3]|refine rd0 rfl ?_))
     exact hKf hqf _ _ (by try simp only [aD,QE,Nat.reduceLT,reduceIte,Nat.reduceEqDiff,Nat.reduceAdd,Nat.reduceLeDiff,Nat.reduceMul,Nat.reduceBEq,gG])
    ·rw [h3] at hsu
     (repeat (first|simp only [↓QA,QB,Nat.reduceLT,reduceIte,Nat.reduceEqDiff,Nat.reduceAdd,Nat.reduceLeDiff,Nat.reduceMul,Nat.reduceBEq,gG,hk1,hx,hte,hq2,hp2,ht2,vs,va,hbit,i3,hg,h3]|refine rd0 rfl ?_))
     refine ⟨k+1,go hsu,by omega,?_⟩
     try simp only [aD,QE,Nat.reduceLT,reduceIte,Nat.reduceEqDiff,Nat.reduceAdd,Nat.reduceLeDiff,Nat.reduceMul,Nat.reduceBEq,gG,hw,snp _ _ hql,snp _ _ hs2,snp _ _ hs5,snp _ _ htl]
     try simp [aN,hs2,hs5,hql,htl]
   ·rw [h2] at hbit hsu
    rw [Bool.true_or] at hsu
    (repeat (first|simp only [↓QA,QB,Nat.reduceLT,reduceIte,Nat.reduceEqDiff,Nat.reduceAdd,Nat.reduceLeDiff,Nat.reduceMul,Nat.reduceBEq,gG,hk1,hx,hte,hq2,hp2,ht2,vs,va,hbit]|refine rd0 rfl ?_))
    refine ⟨k+1,go hsu,by omega,?_⟩
    try simp only [aD,QE,Nat.reduceLT,reduceIte,Nat.reduceEqDiff,Nat.reduceAdd,Nat.reduceLeDiff,Nat.reduceMul,Nat.reduceBEq,gG,hw,snp _ _ hql,snp _ _ hs2,snp _ _ hs5,snp _ _ htl]
    try simp [aN,hs2,hs5,hql,htl]
  ·have hk1:k=v.seen.length:=by
    have:¬k<v.seen.length:=by simpa using hd
    omega
   rw [hk1,y0] at hok
   (repeat (first|simp only [↓QA,QB,Nat.reduceLT,reduceIte,Nat.reduceEqDiff,Nat.reduceAdd,Nat.reduceLeDiff,Nat.reduceMul,Nat.reduceBEq,gG]|refine rd0 rfl ?_))
   refine hKt hok _ ?_ ?_ ?_
   all_goals try simp only [aD,QE,Nat.reduceLT,reduceIte,Nat.reduceEqDiff,Nat.reduceAdd,Nat.reduceLeDiff,Nat.reduceMul,Nat.reduceBEq,gG]
end Go.Am.Room
set_option maxRecDepth 8000
namespace Go.Am.Room
def cX:=And.intro @bD (And.intro @aK (And.intro @aU (And.intro @aV (And.intro @aT (And.intro @aR (And.intro @a9 (And.intro @aY (And.intro @aW (And.intro @dV (And.intro @dR (And.intro @Nat.not_lt_zero (And.intro @List.length_append.{0} (And.intro @Nat.zero_add (And.intro @Nat.mul_one (And.intro @Int.toNat_natCast (And.intro @dO (And.intro @eO (And.intro @eN (And.intro @jF (And.intro @eT (And.intro @gC (And.intro @gA (And.intro @gE (And.intro @gB (And.intro @f9 (And.intro @gD (And.intro @Nat.add_lt_add_iff_left (And.intro @Nat.lt_add_right_iff_pos (And.intro @mY (@m5))))))))))))))))))))))))))))))
def iH {A X:Type} [DecidableEq A] (f:A→X→X×Bool) (a:A) (s:Option A×X):(Option A×X)×Bool:=if s.1=some a then (s,true) else ((some a,(f a s.2).1),(f a s.2).2)
theorem yX {A X:Type} [DecidableEq A] (f:A→X→X×Bool):∀ (l:List A) (o:Option A) (x:X),l.Pairwise (·≠·)→(∀ a∈l,o≠some a)→(bL (iH f) l (o,x)).1.2=(bL f l x).1∧(bL (iH f) l (o,x)).2=(bL f l x).2
 |[],o,x,_,_=>⟨rfl,rfl⟩
 |a::l,o,x,h,ho=>by
  have h0:=ho a (by simp)
  obtain ⟨h1,h2⟩:=List.pairwise_cons.1 h
  have ih:=yX f l (some a) (f a x).1 h2 fun b hb e=>h1 b hb (by simpa using e)
  simp only [bL,iH,h0,if_false]
  split
  ·exact ih
  ·exact ⟨rfl,rfl⟩
theorem uH {A X:Type} [DecidableEq A] (f:A→X→X×Bool):∀ (az:List A) (o:Option A) (x:X) (u:A),(bL (iH f) az (o,x)).1.1=some u→o=some u∨u∈az
 |[],o,x,u,h=>.inl h
 |a::az,o,x,u,h=>by
  simp only [bL,iH] at h
  by_cases ho:o=some a
  ·simp only [ho,if_true] at h
   rcases uH f az (some a) x u h with h|h
   ·exact .inl (ho.trans h)
   ·exact .inr (by simp [h])
  ·simp only [ho,if_false] at h
   split at h
   ·rcases uH f az (some a) _ u h with h|h
    ·simp at h;exact .inr (by simp [h])
    ·exact .inr (by simp [h])
   ·simp at h;exact .inr (by simp [h])
theorem B3 (l:List Int) (n:Int):rl (l++[n])=kT (rl l) l.length n:=by
 funext i
 simp only [rl,kT]
 by_cases h:i=l.length
 ·subst h;simp
 ·rw [if_neg h]
  by_cases h2:i<l.length
  ·rw [List.getElem?_append_left h2]
  ·rw [List.getElem?_eq_none (by simp;omega),List.getElem?_eq_none (by omega)]
theorem tW (l:List Int):kT (rl l) l.length 0=rl l:=by
 funext i
 simp only [kT]
 split
 ·rename_i h;subst h;simp [rl]
 ·rfl
def kH {X:Type} (v:Net) (bl:List Int) (f:List Int→X→X×Bool) (c:List Int) (y:X×List K5):(X×List K5)×Bool :=
 if o4 v bl c=true then (((f c y.1).1,lZ y.2 (pad c)),(f c y.1).2) else ((y.1,lZ y.2 (pad c)),true)
structure LeafOk (v:Net) (c:List Int):Prop where
 len:c.length=v.rails.length
 mins:C7 v (rlI c)
def nQ (v:Net) (c:List Int) (_:Bool) (_:Option Nat):List AV:=[.agg (bF 5 (rl c)),.agg (bF 3 (bS (cV v c)))]
def B4 {X:Type} (Zp ZDp:X×List K5→St) (id:Nat) (v:Net) (P:List Int→Prop) (f:List Int→X→X×Bool):Prop :=
 ∀ t,P t→∀ (y:X×List K5) τ,Run T (.callv (.yield id) [.agg (bF 5 (rl t)),.agg (bF 3 (bS (cV v t)))] (Zp y++τ)) fun o=>o.v = .bool (f t y.1).2∧∃ τ',o.σ=Fam.out Zp ZDp (((f t y.1).1,y.2),(f t y.1).2)++(τ++τ')
def AE (q N:Nat):AV:=.func 108 [] [.ptr q 0,.ptr (N+1) 0,.ptr (N+2) 0,.ptr (N+3) 0,.ptr N 0,.ptr (N+4) 0,.ptr (N+5) 0]
theorem xX (q N:Nat):AE q N = .func 108 [] [.ptr q 0,.ptr (N+1) 0,.ptr (N+2) 0,.ptr (N+3) 0,.ptr N 0,.ptr (N+4) 0,.ptr (N+5) 0]:=by simp only [AE]
def iF (id q N:Nat) (o:Option (List Int)) (A:Nat→Int):St:=[.cells [.yield id],.cells (bF 5 A),.cells (bF 5 (rl (o.getD []))),.cells [.bool o.isNone],.cells kI,.cells [AE q N]]
theorem dG (id q N:Nat) (o:Option (List Int)) (A:Nat→Int) (τ:St):iF id q N o A++τ = .cells [.yield id]::.cells (bF 5 A)::.cells (bF 5 (rl (o.getD [])))::.cells [.bool o.isNone]::.cells kI::.cells [AE q N]::τ:=by simp [iF]
def BX {X:Type} (Zp ZDp:X×List K5→St) (id q N:Nat) (l:List Int) (τ:St) (r:(Option (List Int)×(X×List K5))×Bool) (o:Out):Prop :=
 o.v = .bool r.2∧∃ A τ',o.σ=Fam.out Zp ZDp (r.1.2,r.2)++(iF id q N r.1.1 A++(τ++τ'))∧(r.2=true→A=rl l)
theorem N9 {X:Type} {Zp ZDp:X×List K5→St} {v:Net} {b p m q N:Nat} {bl:List Int} (hR:Fam Zp ZDp (db v b m) p q N) (hS:∀ x,MemAt (fun A=>Zp (x,A)) (db v b m) (tEs v) p m N) (hv:Vd v) (hb:ButIs b bl) {id:Nat} {P:List Int→Prop} {f:List Int→X→X×Bool} (hy:B4 Zp ZDp id v P f)
  (c:List Int) (hc:LeafOk v c) (hP:o4 v bl c=true→P c) (o:Option (List Int)) (ho:∀ u,o=some u→u.length=v.rails.length) (y:X×List K5) (τ:St) :
  Run T (.callv (AE q N) [.int .i64 c.length] (Zp y++(iF id q N o (rl c)++τ))) (BX Zp ZDp id q N c τ (iH (kH v bl f) c (o,y))):=by
 have hnr:=hv.nra
 have hcl:=hc.len
 simp only [xX]
 refine .callf (.call (af:=a108) rfl (by simp [a108]) (fR (K:=fun j e σ'=>(j=none∨j=some .ret)∧BX Zp ZDp id q N c τ (iH (kH v bl f) c (o,y)) ⟨none,[],σ',Env.get e 9⟩) ?_ fun o ho=>ho) fun w hw=>⟨hw.1,_,rfl,.inl hw.2⟩)
 have hE:((c.length:Int)==(v.rails.length:Int))=true:=by rw [hcl];simp
 have heq:bC [.i,.i,.i,.i,.i] (bF 5 (rl c)) (bF 5 (rl (o.getD [])))=some ((List.range 5).all fun i=>rl c i==rl (o.getD []) i):=I0q 5 (rl c) (rl (o.getD []))
 obtain ⟨B,hB⟩:∃ B,((List.range 5).all fun i=>rl c i==rl (o.getD []) i)=B:=⟨_,rfl⟩
 rw [hB] at heq
 by_cases hu:o=some c
 ·subst hu
  have hBt:B=true:=by rw [←hB];simp
  subst hBt
  have hon:iH (kH v bl f) c (some c,y)=((some c,y),true):=by simp [iH]
  rw [hon,dG]
  simp only [Option.getD_some] at heq
  (repeat (first|simp only [↓QA,QB,Nat.reduceLT,reduceIte,Nat.reduceEqDiff,Nat.reduceAdd,Nat.reduceLeDiff,Nat.reduceMul,Nat.reduceBEq,cX,hR.len,hR.base,hR.base0,hR.bset,hR.bset0,hR.at1,hR.atq1,a108,hE,heq,Option.isNone_some,Option.getD_some]|refine rd0 rfl ?_))
  exact ⟨rfl,rl c,[],by simp [iF,Fam.out],fun _=>rfl⟩
 ·have hon:iH (kH v bl f) c (o,y)=((some c,(kH v bl f c y).1),(kH v bl f c y).2):=by simp [iH,hu]
  have hgo:(B&&!o.isNone)=false:=by
   cases o with
   |none=>simp
   |some u =>
    have hul:=ho u rfl
    have:B=decide (c=u):=by rw [←hB];exact MG (a:=c) (b:=u) (by omega) (by omega)
    rw [this]
    simp only [Option.isNone_some,Bool.not_false,Bool.and_true,decide_eq_false_iff_not]
    rintro rfl
    exact hu rfl
  rw [hon]
  obtain ⟨x,A⟩:=y
  obtain ⟨A',hA'⟩:∃ A',lZ A (pad c)=A':=⟨_,rfl⟩
  have hper:kH v bl f c (x,A)=if o4 v bl c=true then (((f c x).1,A'),(f c x).2) else ((x,A'),true):=by rw [kH,hA']
  have hl1:=fun τ=>TR (xE v) (hS x) A τ (pad c)
  have hput:=fun τ (hw:pad c∉A)=>XI (xE v) (hS x) A τ (pad c) hw
  simp only [T6,TY,RN,KV v (show c.length≤5 by omega)] at hl1 hput
  have hcal:=hy c
  have hfit:o4 v bl c=mL v bl (cV v c):=rfl
  have hcc:(cV v c).length=v.trams.length:=wR _ _ _ _
  obtain ⟨CS,hCS⟩:∃ CS,cV v c=CS:=⟨_,rfl⟩
  have hrun:∀ (σ:St) (hσ:aH σ p=some (db v b m)),iC T (.func 109 [] []) [.ptr p 0,.agg (bF 5 (rl c)),.func 110 [.ptr p 0] []] σ (.agg (bF 3 (bS CS))):=fun σ hσ=>by
   have hpl:=nM hσ
   rw [←hCS]
   exact EQ v hv b m p σ hσ hpl _ (fun τ n hn=>by
    try simp only [QS,QC,Nat.reduceLT,reduceIte,Nat.reduceEqDiff,Nat.reduceAdd,Nat.reduceLeDiff,Nat.reduceMul,Nat.reduceBEq,cX,hR.len,hR.base,hR.base0,hR.bset,hR.bset0,hR.at1,hR.atq1,CN]
    simp [show p<n by omega]) (lR v) (W6 hv) (fun i hi τ=>MK v b m p _ (iT hσ τ) i hi) (rl c) (rlI c) (P0 c) hc.mins
  rw [hCS] at hl1 hput hfit hcc hcal
  have hpN:=hR.pl
  have hqN:=hR.ql
  have hP':=hP
  rw [hfit] at hP' hper
  rw [dG]
  -- behind the look into the map: the things that were seen
  have tail:∀ (e:Env) (K:KJ),Env.get e 1 = .ptr q 0→Env.get e 2 = .ptr (N+1) 0→Env.get e 5 = .ptr N 0→Env.get e 10 = .ptr (N+(τ.length+1+1+1+1+1+1)) 0→Env.get e 58 = .lit (v.seen.map dQ) false none→Env.get e 59 = .int .i64 v.seen.length→Env.get e 60 = .int .i64 0 →
    (mL v bl CS=true→∀ e',Env.get e' 2 = .ptr (N+1) 0→Env.get e' 5 = .ptr N 0→Env.get e' 10 = .ptr (N+(τ.length+1+1+1+1+1+1)) 0→K (some (.exit 0)) e' (Zp (x,A')++(iF id q N (some c) (rl c)++(τ++[.cells (bF 3 (bS CS))])))) →
    (mL v bl CS=false→∀ e' τ',Env.get e' 9 = .bool true→K (some .ret) e' ((Zp (x,A')++(iF id q N (some c) (rl c)++(τ++[.cells (bF 3 (bS CS))])))++τ')) →
    rK (K:=⟨K⟩) T (.loop CA) e (Zp (x,A')++(iF id q N (some c) (rl c)++(τ++[.cells (bF 3 (bS CS))]))):=by
   intro e K e1 e2 e5 e10 e58 e59 e60 hKt hKf
   refine TS v hv b m p q (N+(τ.length+1+1+1+1+1+1)) (N+1) N bl CS hb hcc _ (hR.atq1 _ _) (hR.at1 _ _) ?_ ?_ ?_ e K e1 e2 e5 e10 e58 e59 e60 hKt hKf
   ·rw [dG,hR.base]
    simp only [o0]
    have:=iB τ [.cells (bF 3 (bS CS))]
    rw [this];rfl
   ·simp [hR.len,iF]
   ·simp [hR.len,iF]
  have hta:∀ (y:X×List K5) (b0 b1 b2 b3 b4 b5:ABlk),aH (Zp y++(b0::b1::b2::b3::b4::b5::(τ++[.cells (bF 3 (bS CS))]))) (N+(τ.length+1+1+1+1+1+1))=some (bF 3 (bS CS)):=fun y b0 b1 b2 b3 b4 b5=>by
   rw [hR.base]
   simp only [o0]
   rw [iB];rfl
  have htz:∀ (y:X×List K5) (b0 b1 b2 b3 b4 b5:ABlk) (cs:List AV),aH (Zp y++(b0::b1::b2::b3::b4::b5::(τ++[.cells cs]))) (N+(τ.length+1+1+1+1+1+1))=some cs:=fun y b0 b1 b2 b3 b4 b5 cs=>by
   rw [hR.base]
   simp only [o0]
   rw [iB];rfl
  have hts:∀ (y:X×List K5) (b0 b1 b2 b3 b4 b5:ABlk) (cs:List AV) (B:ABlk),(Zp y++(b0::b1::b2::b3::b4::b5::(τ++[.cells cs]))).set (N+(τ.length+1+1+1+1+1+1)) B=Zp y++(b0::b1::b2::b3::b4::b5::(τ++[B])):=fun y b0 b1 b2 b3 b4 b5 cs B=>by
   rw [hR.bset]
   simp only [List.set_cons_succ]
   rw [IF];rfl
  have hlen:∀ (y:X×List K5),(Zp y).length=N:=hR.len
  by_cases hw:pad c∈A
  ·have hA2:A'=A:=by rw [←hA',lZ,if_pos hw]
   subst hA2
   simp only [hw,if_true] at hl1
   cases B
   ·(repeat (first|simp only [↓QA,QB,Nat.reduceLT,reduceIte,Nat.reduceEqDiff,Nat.reduceAdd,Nat.reduceLeDiff,Nat.reduceMul,Nat.reduceBEq,cX,hR.len,hR.base,hR.base0,hR.bset,hR.bset0,hR.at1,hR.atq1,a108,hE,heq]|refine rd0 rfl ?_))
    refine tE [.cells [.int .i64 0,.int .i64 0,.int .i64 0]] rfl ?_
    (repeat (first|simp only [↓QA,QB,Nat.reduceLT,reduceIte,Nat.reduceEqDiff,Nat.reduceAdd,Nat.reduceLeDiff,Nat.reduceMul,Nat.reduceBEq,cX,hR.len,hR.base,hR.base0,hR.bset,hR.bset0,hR.at1,hR.atq1,hl1,wV,w5,hlen,htz,hts]|refine rd0 rfl ?_))
    refine tail _ _ ?_ ?_ ?_ ?_ ?_ ?_ ?_ ?_ ?_
    all_goals try try simp only [aD,QE,Nat.reduceLT,reduceIte,Nat.reduceEqDiff,Nat.reduceAdd,Nat.reduceLeDiff,Nat.reduceMul,Nat.reduceBEq,cX,hR.len,hR.base,hR.base0,hR.bset,hR.bset0,hR.at1,hR.atq1]
    ·intro hs e' q2 q5 q10
     have hc2:=fun A=>hcal (hP' hs) (x,A)
     rw [hs,if_pos rfl] at hper
     rw [hper,dG]
     (repeat (first|simp only [↓QA,QB,Nat.reduceLT,reduceIte,Nat.reduceEqDiff,Nat.reduceAdd,Nat.reduceLeDiff,Nat.reduceMul,Nat.reduceBEq,cX,hR.len,hR.base,hR.base0,hR.bset,hR.bset0,hR.at1,hR.atq1,q2,q5,q10,hta]|refine rd0 rfl ?_))
     refine .mono (hc2 _ _) fun w hw=>?_
     obtain ⟨hw1,τ',hw2⟩:=hw
     rw [hw1,hw2]
     (repeat (first|simp only [↓QA,QB,Nat.reduceLT,reduceIte,Nat.reduceEqDiff,Nat.reduceAdd,Nat.reduceLeDiff,Nat.reduceMul,Nat.reduceBEq,cX,hR.len,hR.base,hR.base0,hR.bset,hR.bset0,hR.at1,hR.atq1,q2,q5,q10]|refine rd0 rfl ?_))
     exact ⟨rfl,rl c,[.cells (bF 3 (bS CS))]++τ',by simp [iF],fun _=>rfl⟩
    ·intro hs e' τ' q9
     rw [hs] at hper
     simp only [Bool.false_eq_true,if_false] at hper
     rw [hper]
     (repeat (first|simp only [↓QA,QB,Nat.reduceLT,reduceIte,Nat.reduceEqDiff,Nat.reduceAdd,Nat.reduceLeDiff,Nat.reduceMul,Nat.reduceBEq,cX,hR.len,hR.base,hR.base0,hR.bset,hR.bset0,hR.at1,hR.atq1,q9]|refine rd0 rfl ?_))
     exact ⟨rfl,rl c,[.cells (bF 3 (bS CS))]++τ',by simp [Fam.out],fun _=>rfl⟩
   ·rw [Bool.true_and] at hgo
    have hgo':o.isNone=true:=by simpa using hgo
    (repeat (first|simp only [↓QA,QB,Nat.reduceLT,reduceIte,Nat.reduceEqDiff,Nat.reduceAdd,Nat.reduceLeDiff,Nat.reduceMul,Nat.reduceBEq,cX,hR.len,hR.base,hR.base0,hR.bset,hR.bset0,hR.at1,hR.atq1,a108,hE,heq,hgo']|refine rd0 rfl ?_))
    refine tE [.cells [.int .i64 0,.int .i64 0,.int .i64 0]] rfl ?_
    (repeat (first|simp only [↓QA,QB,Nat.reduceLT,reduceIte,Nat.reduceEqDiff,Nat.reduceAdd,Nat.reduceLeDiff,Nat.reduceMul,Nat.reduceBEq,cX,hR.len,hR.base,hR.base0,hR.bset,hR.bset0,hR.at1,hR.atq1,hl1,wV,w5,hlen,htz,hts]|refine rd0 rfl ?_))
    refine tail _ _ ?_ ?_ ?_ ?_ ?_ ?_ ?_ ?_ ?_
    all_goals try try simp only [aD,QE,Nat.reduceLT,reduceIte,Nat.reduceEqDiff,Nat.reduceAdd,Nat.reduceLeDiff,Nat.reduceMul,Nat.reduceBEq,cX,hR.len,hR.base,hR.base0,hR.bset,hR.bset0,hR.at1,hR.atq1]
    ·intro hs e' q2 q5 q10
     have hc2:=fun A=>hcal (hP' hs) (x,A)
     rw [hs,if_pos rfl] at hper
     rw [hper,dG]
     (repeat (first|simp only [↓QA,QB,Nat.reduceLT,reduceIte,Nat.reduceEqDiff,Nat.reduceAdd,Nat.reduceLeDiff,Nat.reduceMul,Nat.reduceBEq,cX,hR.len,hR.base,hR.base0,hR.bset,hR.bset0,hR.at1,hR.atq1,q2,q5,q10,hta]|refine rd0 rfl ?_))
     refine .mono (hc2 _ _) fun w hw=>?_
     obtain ⟨hw1,τ',hw2⟩:=hw
     rw [hw1,hw2]
     (repeat (first|simp only [↓QA,QB,Nat.reduceLT,reduceIte,Nat.reduceEqDiff,Nat.reduceAdd,Nat.reduceLeDiff,Nat.reduceMul,Nat.reduceBEq,cX,hR.len,hR.base,hR.base0,hR.bset,hR.bset0,hR.at1,hR.atq1,q2,q5,q10]|refine rd0 rfl ?_))
     exact ⟨rfl,rl c,[.cells (bF 3 (bS CS))]++τ',by simp [iF],fun _=>rfl⟩
    ·intro hs e' τ' q9
     rw [hs] at hper
     simp only [Bool.false_eq_true,if_false] at hper
     rw [hper]
     (repeat (first|simp only [↓QA,QB,Nat.reduceLT,reduceIte,Nat.reduceEqDiff,Nat.reduceAdd,Nat.reduceLeDiff,Nat.reduceMul,Nat.reduceBEq,cX,hR.len,hR.base,hR.base0,hR.bset,hR.bset0,hR.at1,hR.atq1,q9]|refine rd0 rfl ?_))
     exact ⟨rfl,rl c,[.cells (bF 3 (bS CS))]++τ',by simp [Fam.out],fun _=>rfl⟩
  ·have hA2:A'=A++[pad c]:=by rw [←hA',lZ,if_neg hw]
   subst hA2
   simp only [hw,if_false] at hl1
   have hput:=fun τ=>hput τ hw
   cases B
   ·(repeat (first|simp only [↓QA,QB,Nat.reduceLT,reduceIte,Nat.reduceEqDiff,Nat.reduceAdd,Nat.reduceLeDiff,Nat.reduceMul,Nat.reduceBEq,cX,hR.len,hR.base,hR.base0,hR.bset,hR.bset0,hR.at1,hR.atq1,a108,hE,heq]|refine rd0 rfl ?_))
    refine tE [.cells [.int .i64 0,.int .i64 0,.int .i64 0]] rfl ?_
    (repeat (first|simp only [↓QA,QB,Nat.reduceLT,reduceIte,Nat.reduceEqDiff,Nat.reduceAdd,Nat.reduceLeDiff,Nat.reduceMul,Nat.reduceBEq,cX,hR.len,hR.base,hR.base0,hR.bset,hR.bset0,hR.at1,hR.atq1,hl1,wV,w5,hlen,htz,hts]|refine rd0 rfl ?_))
    refine bM (hrun _ (hR.at1 _ _)) ?_
    (repeat (first|simp only [↓QA,QB,Nat.reduceLT,reduceIte,Nat.reduceEqDiff,Nat.reduceAdd,Nat.reduceLeDiff,Nat.reduceMul,Nat.reduceBEq,cX,hR.len,hR.base,hR.base0,hR.bset,hR.bset0,hR.at1,hR.atq1,hlen,htz,hts,hput]|refine rd0 rfl ?_))
    refine tail _ _ ?_ ?_ ?_ ?_ ?_ ?_ ?_ ?_ ?_
    all_goals try try simp only [aD,QE,Nat.reduceLT,reduceIte,Nat.reduceEqDiff,Nat.reduceAdd,Nat.reduceLeDiff,Nat.reduceMul,Nat.reduceBEq,cX,hR.len,hR.base,hR.base0,hR.bset,hR.bset0,hR.at1,hR.atq1]
    ·intro hs e' q2 q5 q10
     have hc2:=fun A=>hcal (hP' hs) (x,A)
     rw [hs,if_pos rfl] at hper
     rw [hper,dG]
     (repeat (first|simp only [↓QA,QB,Nat.reduceLT,reduceIte,Nat.reduceEqDiff,Nat.reduceAdd,Nat.reduceLeDiff,Nat.reduceMul,Nat.reduceBEq,cX,hR.len,hR.base,hR.base0,hR.bset,hR.bset0,hR.at1,hR.atq1,q2,q5,q10,hta]|refine rd0 rfl ?_))
     refine .mono (hc2 _ _) fun w hw=>?_
     obtain ⟨hw1,τ',hw2⟩:=hw
     rw [hw1,hw2]
     (repeat (first|simp only [↓QA,QB,Nat.reduceLT,reduceIte,Nat.reduceEqDiff,Nat.reduceAdd,Nat.reduceLeDiff,Nat.reduceMul,Nat.reduceBEq,cX,hR.len,hR.base,hR.base0,hR.bset,hR.bset0,hR.at1,hR.atq1,q2,q5,q10]|refine rd0 rfl ?_))
     exact ⟨rfl,rl c,[.cells (bF 3 (bS CS))]++τ',by simp [iF],fun _=>rfl⟩
    ·intro hs e' τ' q9
     rw [hs] at hper
     simp only [Bool.false_eq_true,if_false] at hper
     rw [hper]
     (repeat (first|simp only [↓QA,QB,Nat.reduceLT,reduceIte,Nat.reduceEqDiff,Nat.reduceAdd,Nat.reduceLeDiff,Nat.reduceMul,Nat.reduceBEq,cX,hR.len,hR.base,hR.base0,hR.bset,hR.bset0,hR.at1,hR.atq1,q9]|refine rd0 rfl ?_))
     exact ⟨rfl,rl c,[.cells (bF 3 (bS CS))]++τ',by simp [Fam.out],fun _=>rfl⟩
   ·rw [Bool.true_and] at hgo
    have hgo':o.isNone=true:=by simpa using hgo
    (repeat (first|simp only [↓QA,QB,Nat.reduceLT,reduceIte,Nat.reduceEqDiff,Nat.reduceAdd,Nat.reduceLeDiff,Nat.reduceMul,Nat.reduceBEq,cX,hR.len,hR.base,hR.base0,hR.bset,hR.bset0,hR.at1,hR.atq1,a108,hE,heq,hgo']|refine rd0 rfl ?_))
    refine tE [.cells [.int .i64 0,.int .i64 0,.int .i64 0]] rfl ?_
    (repeat (first|simp only [↓QA,QB,Nat.reduceLT,reduceIte,Nat.reduceEqDiff,Nat.reduceAdd,Nat.reduceLeDiff,Nat.reduceMul,Nat.reduceBEq,cX,hR.len,hR.base,hR.base0,hR.bset,hR.bset0,hR.at1,hR.atq1,hl1,wV,w5,hlen,htz,hts]|refine rd0 rfl ?_))
    refine bM (hrun _ (hR.at1 _ _)) ?_
    (repeat (first|simp only [↓QA,QB,Nat.reduceLT,reduceIte,Nat.reduceEqDiff,Nat.reduceAdd,Nat.reduceLeDiff,Nat.reduceMul,Nat.reduceBEq,cX,hR.len,hR.base,hR.base0,hR.bset,hR.bset0,hR.at1,hR.atq1,hlen,htz,hts,hput]|refine rd0 rfl ?_))
    refine tail _ _ ?_ ?_ ?_ ?_ ?_ ?_ ?_ ?_ ?_
    all_goals try try simp only [aD,QE,Nat.reduceLT,reduceIte,Nat.reduceEqDiff,Nat.reduceAdd,Nat.reduceLeDiff,Nat.reduceMul,Nat.reduceBEq,cX,hR.len,hR.base,hR.base0,hR.bset,hR.bset0,hR.at1,hR.atq1]
    ·intro hs e' q2 q5 q10
     have hc2:=fun A=>hcal (hP' hs) (x,A)
     rw [hs,if_pos rfl] at hper
     rw [hper,dG]
     (repeat (first|simp only [↓QA,QB,Nat.reduceLT,reduceIte,Nat.reduceEqDiff,Nat.reduceAdd,Nat.reduceLeDiff,Nat.reduceMul,Nat.reduceBEq,cX,hR.len,hR.base,hR.base0,hR.bset,hR.bset0,hR.at1,hR.atq1,q2,q5,q10,hta]|refine rd0 rfl ?_))
     refine .mono (hc2 _ _) fun w hw=>?_
     obtain ⟨hw1,τ',hw2⟩:=hw
     rw [hw1,hw2]
     (repeat (first|simp only [↓QA,QB,Nat.reduceLT,reduceIte,Nat.reduceEqDiff,Nat.reduceAdd,Nat.reduceLeDiff,Nat.reduceMul,Nat.reduceBEq,cX,hR.len,hR.base,hR.base0,hR.bset,hR.bset0,hR.at1,hR.atq1,q2,q5,q10]|refine rd0 rfl ?_))
     exact ⟨rfl,rl c,[.cells (bF 3 (bS CS))]++τ',by simp [iF],fun _=>rfl⟩
    ·intro hs e' τ' q9
     rw [hs] at hper
     simp only [Bool.false_eq_true,if_false] at hper
     rw [hper]
     (repeat (first|simp only [↓QA,QB,Nat.reduceLT,reduceIte,Nat.reduceEqDiff,Nat.reduceAdd,Nat.reduceLeDiff,Nat.reduceMul,Nat.reduceBEq,cX,hR.len,hR.base,hR.base0,hR.bset,hR.bset0,hR.at1,hR.atq1,q9]|refine rd0 rfl ?_))
     exact ⟨rfl,rl c,[.cells (bF 3 (bS CS))]++τ',by simp [Fam.out],fun _=>rfl⟩
end Go.Am.Room
set_option maxRecDepth 8000
namespace Go.Am.Room
def cO:=And.intro @bD (And.intro @aK (And.intro @aU (And.intro @aV (And.intro @aT (And.intro @aR (And.intro @a9 (And.intro @aY (And.intro @aW (And.intro @dV (And.intro @dR (And.intro @Nat.not_lt_zero (And.intro @List.length_append.{0} (And.intro @Nat.zero_add (And.intro @Nat.mul_one (And.intro @Int.toNat_natCast (And.intro @dO (And.intro @eO (And.intro @eN (And.intro @jF (And.intro @eT (And.intro @gC (And.intro @gA (And.intro @gE (And.intro @gB (And.intro @f9 (And.intro @gD (And.intro @Nat.add_lt_add_iff_left (And.intro @Nat.lt_add_right_iff_pos (And.intro @mY (And.intro @m5 (And.intro @yI (@xA))))))))))))))))))))))))))))))))
theorem SW (k:Nat):TC k = .func (if k=0 then 116 else if k=1 then 117 else 118) [] []:=by
 unfold TC;split
 ·rfl
 ·split<;>rfl
def o6 (v:Net) (r:Rail) (rs:List Rail) (l:List Int) (n:Int):List (List Int):=(if r.shut=1 then [] else aO n (r.mins.hi+1-n).toNat).flatMap fun n=>eW rs (l++[n])
def fW (r:Rail):List AV:=[.int .i64 r.a,.int .i64 r.b,.int .i64 r.mins.lo,.int .i64 r.mins.hi,.int .i64 r.shut]
theorem cQ (r:Rail):fW r=[.int .i64 r.a,.int .i64 r.b,.int .i64 r.mins.lo,.int .i64 r.mins.hi,.int .i64 r.shut]:=by simp only [fW]
def aAF {X:Type} (Zp ZDp:X×List K5→St) (F:List Int→X×List K5→(X×List K5)×Bool) (v:Net) (q id N:Nat) (l:List Int) (r:Rail) (rs:List Rail) (τ:St) (R:(Option (List Int)×(X×List K5))×Bool) (k:Nat) (e:Env) (σ:St):Prop :=
 Env.get e 0 = .int .i64 l.length∧Env.get e 2 = .ptr (N+1) 0∧Env.get e 6 = .ptr (N+4) 0∧Env.get e 7 = .ptr (N+5) 0∧Env.get e 14 = .ptr (N+(τ.length+1+1+1+1+1+1)) 0∧∃ n o y c τ2,Env.get e 15 = .int .i64 n∧r.mins.lo≤n∧n≤r.mins.hi+1∧k=(r.mins.hi+1-n).toNat∧(∀ u,o=some u→u.length=v.rails.length) ∧
   σ=Zp y++(iF id q N o (kT (rl l) l.length c)++(τ++(.cells (fW r)::τ2)))∧bL (iH F) (o6 v r rs l n) (o,y)=R
theorem DI {X:Type} {Zp ZDp:X×List K5→St} {v:Net} {b p m q N:Nat} {bl:List Int} (hR:Fam Zp ZDp (db v b m) p q N) (hS:∀ x,MemAt (fun A=>Zp (x,A)) (db v b m) (tEs v) p m N) (hv:Vd v) (hb:ButIs b bl) {id:Nat} {P:List Int→Prop} {f:List Int→X→X×Bool} (hy:B4 Zp ZDp id v P f) (hP:∀ c,LeafOk v c→o4 v bl c=true→P c) :
  ∀ (rs:List Rail) (l:List Int) (o:Option (List Int)) (y:X×List K5) (τ:St),rs=v.rails.drop l.length→l.length≤v.rails.length→(∀ i,i<l.length→0≤rl l i∧rl l i≤20)→(∀ u,o=some u→u.length=v.rails.length) →
   Run T (.callv (AE q N) [.int .i64 l.length] (Zp y++(iF id q N o (rl l)++τ))) (BX Zp ZDp id q N l τ (bL (iH (kH v bl f)) (eW rs l) (o,y)))
 |[],l,o,y,τ,hrs,hl,hbd,ho=>by
  have hl2:l.length=v.rails.length:=by
   have:=congrArg List.length hrs
   simp at this
   omega
  simp only [eW,KQ]
  refine N9 hR hS hv hb hy l ⟨hl2,fun r h0 h1=>?_⟩ (hP l ⟨hl2,fun r h0 h1=>?_⟩) o ho y τ
  all_goals
   have:=hbd r.toNat (by omega)
   simpa [rlI,rl] using this
 |r::rs,l,o,y,τ,hrs,hl,hbd,ho=>by
  have hlt:l.length<v.rails.length:=by
   have:=congrArg List.length hrs
   simp at this
   omega
  have hnr:=hv.nra
  have hdr:=List.drop_eq_getElem_cons hlt
  rw [←hrs] at hdr
  have hs:v.rails[l.length]=r:=by have:=(List.cons.inj hdr).1;exact this.symm
  have hrs2:rs=v.rails.drop (l.length+1):=(List.cons.inj hdr).2
  have hra:=hv.ra _ (List.getElem_mem hlt)
  rw [hs] at hra
  have hmi:=hra.mins
  have hsh:=hra.shut
  obtain ⟨S,hS2⟩:∃ S:Nat,r.shut=(S:Int):=⟨r.shut.toNat,by omega⟩
  have hS3:S<3:=by omega
  have hE:((l.length:Int)==(v.rails.length:Int))=false:=by simp;omega
  have i5:(0:Int)≤(l.length:Int)∧(l.length:Int)<((5:Nat):Int):=⟨by omega,by omega⟩
  have c5:l.length+1≤5:=by omega
  have iS:(0:Int)≤(S:Int)∧(S:Int)<((3:Nat):Int):=⟨by omega,by omega⟩
  have hcg:=N6 hS3
  have hct:=fun σ=>AF S hS3 true σ
  have hcf:=fun σ=>AF S hS3 false σ
  have hc1:C2 (S:Int) true = !decide (S=0):=by
   have:((S:Int)=0)=(S=0):=by rw [eq_iff_iff];omega
   simp [C2]
  have hc2:C2 (S:Int) false = !decide (S=1):=by
   have:((S:Int)=1)=(S=1):=by rw [eq_iff_iff];omega
   simp [C2];omega
  rw [hc1] at hct
  rw [hc2] at hcf
  have hcE:=SW S
  obtain ⟨CF,hCF⟩:∃ CF,(if S=0 then 116 else if S=1 then 117 else 118)=CF:=⟨_,rfl⟩
  rw [hCF] at hcE
  rw [hcE] at hcg
  simp only [hcE] at hct hcf
  have hwd:IntKind.i64.wrap ((l.length:Int)+1)=((l.length+1:Nat):Int):=cR hlt (by omega)
  have ih:=fun (n:Int) (hn:0≤n∧n≤20) (o:Option (List Int)) (y:X×List K5) (τ:St) (ho:∀ u,o=some u→u.length=v.rails.length)=>DI hR hS hv hb hy hP rs (l++[n]) o y τ (by rw [hrs2];simp) (by simp;omega) (fun i hi=>by
   rw [B3]
   simp only [kT]
   by_cases e:i=l.length
   ·subst e
    rw [if_pos rfl]
    exact hn
   ·rw [if_neg e]
    exact hbd i (by simp at hi;omega)) ho
  obtain ⟨F,hF⟩:∃ F,kH v bl f=F:=⟨_,rfl⟩
  rw [hF] at ih ⊢
  obtain ⟨R,hRR⟩:∃ R,bL (iH F) (eW (r::rs) l) (o,y)=R:=⟨_,rfl⟩
  rw [hRR]
  have hsplit:eW (r::rs) l=(if S=0 then [] else eW rs (l++[0]))++o6 v r rs l r.mins.lo:=by
   have e0:(r.shut=0)=(S=0):=by rw [eq_iff_iff];omega
   simp only [eW,chP,List.flatMap_append,o6,yF,e0]
   congr 1
   split<;>simp
  rw [hsplit,uX] at hRR
  have hht:∀ (y:X×List K5) (b0 b1 b2 b3 b4 b5:ABlk) (cs:List AV) (τ2:St),aH (Zp y++(b0::b1::b2::b3::b4::b5::(τ++(.cells cs::τ2)))) (N+(τ.length+1+1+1+1+1+1))=some cs:=fun y b0 b1 b2 b3 b4 b5 cs τ2=>by
   rw [hR.base]
   simp only [o0]
   rw [iB];rfl
  have hlen:∀ (y:X×List K5),(Zp y).length=N:=hR.len
  simp only [xX]
  refine .callf (.call (af:=a108) rfl (by simp [a108]) (fR (K:=fun j e σ'=>(j=none∨j=some .ret)∧BX Zp ZDp id q N l τ R ⟨none,[],σ',Env.get e 9⟩) ?_ fun o ho=>ho) fun w hw=>⟨hw.1,_,rfl,.inl hw.2⟩)
  have hst0:=pL 5 (rl l) 0 (show l.length<5 by omega)
  rw [tW] at hst0
  rw [dG]
  -- the loop over minutes
  have loop:∀ (e:Env) (K:KJ) (y:X×List K5) (o:Option (List Int)) (τ2:St),(∀ u,o=some u→u.length=v.rails.length)→Env.get e 0 = .int .i64 l.length→Env.get e 2 = .ptr (N+1) 0→Env.get e 6 = .ptr (N+4) 0→Env.get e 7 = .ptr (N+5) 0→Env.get e 14 = .ptr (N+(τ.length+1+1+1+1+1+1)) 0→Env.get e 15 = .int .i64 r.mins.lo→bL (iH F) (o6 v r rs l r.mins.lo) (o,y)=R →
    (∀ e' y' o' τ2 c,Env.get e' 0 = .int .i64 l.length→Env.get e' 2 = .ptr (N+1) 0→R=((o',y'),true)→K (some (.exit 2)) e' (Zp y'++(iF id q N o' (kT (rl l) l.length c)++(τ++(.cells (fW r)::τ2))))) →
    (∀ e' A τ2,Env.get e' 9 = .bool false→R.2=false→K (some .ret) e' (Fam.out Zp ZDp (R.1.2,R.2)++(iF id q N R.1.1 A++(τ++(.cells (fW r)::τ2))))) →
    rK (K:=⟨K⟩) T (.loop y3) e (Zp y++(iF id q N o (rl l)++(τ++(.cells (fW r)::τ2)))):=by
   intro e K y o τ2 ho e0 e2 e6 e7 e14 e15 hq hKx hKf
   refine aC0 (aAF Zp ZDp F v q id N l r rs τ R) ?_ (r.mins.hi+1-r.mins.lo).toNat _ _ ?_
   ·rintro k e σ ⟨e0,e2,e6,e7,e14,n,o,y,c,τ2,e15,hn0,hn1,hk,ho,rfl,hq⟩
    subst hk
    have hst:=pL 5 (kT (rl l) l.length c) n (show l.length<5 by omega)
    rw [uJ,←B3 l n] at hst
    rw [dG]
    cases hle:decide (n≤r.mins.hi)
    ·have hn2:¬n≤r.mins.hi:=by simpa using hle
     have hrn:o6 v r rs l n=[]:=by
      rw [o6,O3 hn2];simp
     rw [hrn] at hq
     simp only [bL] at hq
     (repeat (first|simp only [↓QA,QB,Nat.reduceLT,reduceIte,Nat.reduceEqDiff,Nat.reduceAdd,Nat.reduceLeDiff,Nat.reduceMul,Nat.reduceBEq,cO,hR.len,hR.base,hR.base0,hR.bset,hR.bset0,hR.at1,hR.atq1,y3,e0,e2,e6,e7,e14,e15,hht,cQ,hle]|refine rd0 rfl ?_))
     have:=fun e'=>hKx e' y o τ2 c
     simp only [dG,cQ] at this
     refine this _ ?_ ?_ hq.symm
     all_goals try simp only [aD,QE,Nat.reduceLT,reduceIte,Nat.reduceEqDiff,Nat.reduceAdd,Nat.reduceLeDiff,Nat.reduceMul,Nat.reduceBEq,cO,hR.len,hR.base,hR.base0,hR.bset,hR.bset0,hR.at1,hR.atq1,e0,e2]
    ·have hn2:n≤r.mins.hi:=by simpa using hle
     by_cases hS1:S=1
     ·have hrn:o6 v r rs l n=[]:=by
       rw [o6,if_pos (by omega)];simp
      rw [hrn] at hq
      simp only [bL] at hq
      have hd1:(!decide (S=1))=false:=by simp [hS1]
      rw [hd1] at hcf
      (repeat (first|simp only [↓QA,QB,Nat.reduceLT,reduceIte,Nat.reduceEqDiff,Nat.reduceAdd,Nat.reduceLeDiff,Nat.reduceMul,Nat.reduceBEq,cO,hR.len,hR.base,hR.base0,hR.bset,hR.bset0,hR.at1,hR.atq1,y3,e0,e2,e6,e7,e14,e15,hht,cQ,hle,hS2,iS,hcg,Nat.add_zero]|refine rd0 rfl ?_))
      refine bM (hcf _) ?_
      (repeat (first|simp only [↓QA,QB,Nat.reduceLT,reduceIte,Nat.reduceEqDiff,Nat.reduceAdd,Nat.reduceLeDiff,Nat.reduceMul,Nat.reduceBEq,cO,hR.len,hR.base,hR.base0,hR.bset,hR.bset0,hR.at1,hR.atq1,e0,e2,e6,e7,e14,e15]|refine rd0 rfl ?_))
      have:=fun e'=>hKx e' y o τ2 c
      simp only [dG,cQ,hS2] at this
      refine this _ ?_ ?_ hq.symm
      all_goals try simp only [aD,QE,Nat.reduceLT,reduceIte,Nat.reduceEqDiff,Nat.reduceAdd,Nat.reduceLeDiff,Nat.reduceMul,Nat.reduceBEq,cO,hR.len,hR.base,hR.base0,hR.bset,hR.bset0,hR.at1,hR.atq1,e0,e2]
     ·have hd1:(!decide (S=1))=true:=by simp [hS1]
      rw [hd1] at hcf
      have hrn:o6 v r rs l n=eW rs (l++[n])++o6 v r rs l (n+1):=by
       rw [o6,o6,if_neg (by omega),if_neg (by omega),KZ hn2,List.flatMap_cons]
      rw [hrn,uX] at hq
      have hwn:IntKind.i64.wrap (n+1)=n+1:=dU ⟨by omega,by omega⟩
      have hc:=ih n ⟨by omega,by omega⟩ o y (τ++(.cells (fW r)::τ2)) ho
      simp only [dG,cQ,hS2,List.length_append,List.length_cons,List.length_nil,Nat.zero_add] at hc
      obtain ⟨r1,hr1⟩:∃ r1,bL (iH F) (eW rs (l++[n])) (o,y)=r1:=⟨_,rfl⟩
      rw [hr1] at hq hc
      (repeat (first|simp only [↓QA,QB,Nat.reduceLT,reduceIte,Nat.reduceEqDiff,Nat.reduceAdd,Nat.reduceLeDiff,Nat.reduceMul,Nat.reduceBEq,cO,hR.len,hR.base,hR.base0,hR.bset,hR.bset0,hR.at1,hR.atq1,y3,e0,e2,e6,e7,e14,e15,hht,cQ,hle,hS2,iS,hcg,Nat.add_zero]|refine rd0 rfl ?_))
      refine bM (hcf _) ?_
      (repeat (first|simp only [↓QA,QB,Nat.reduceLT,reduceIte,Nat.reduceEqDiff,Nat.reduceAdd,Nat.reduceLeDiff,Nat.reduceMul,Nat.reduceBEq,cO,hR.len,hR.base,hR.base0,hR.bset,hR.bset0,hR.at1,hR.atq1,e0,e2,e6,e7,e14,e15,i5,c5,hst,hwd]|refine rd0 rfl ?_))
      refine .mono hc fun w hw=>?_
      obtain ⟨hw1,A,τ',hw2,hw3⟩:=hw
      rw [hw1,hw2]
      cases hr2:r1.2
      ·rw [hr2] at hq
       simp only [Bool.false_eq_true,if_false] at hq
       (repeat (first|simp only [↓QA,QB,Nat.reduceLT,reduceIte,Nat.reduceEqDiff,Nat.reduceAdd,Nat.reduceLeDiff,Nat.reduceMul,Nat.reduceBEq,cO,hR.len,hR.base,hR.base0,hR.bset,hR.bset0,hR.at1,hR.atq1,e0,e2,e6,e7,e14,e15]|refine rd0 rfl ?_))
       subst hq
       have hKf':=fun e'=>hKf e' A (τ2++τ')
       simp only [cQ,hS2] at hKf'
       first|exact hKf' _ (by try simp only [aD,QE,Nat.reduceLT,reduceIte,Nat.reduceEqDiff,Nat.reduceAdd,Nat.reduceLeDiff,Nat.reduceMul,Nat.reduceBEq,cO,hR.len,hR.base,hR.base0,hR.bset,hR.bset0,hR.at1,hR.atq1]) trivial|exact hKf' _ (by try simp only [aD,QE,Nat.reduceLT,reduceIte,Nat.reduceEqDiff,Nat.reduceAdd,Nat.reduceLeDiff,Nat.reduceMul,Nat.reduceBEq,cO,hR.len,hR.base,hR.base0,hR.bset,hR.bset0,hR.at1,hR.atq1]) rfl|exact hKf' _ (by try simp only [aD,QE,Nat.reduceLT,reduceIte,Nat.reduceEqDiff,Nat.reduceAdd,Nat.reduceLeDiff,Nat.reduceMul,Nat.reduceBEq,cO,hR.len,hR.base,hR.base0,hR.bset,hR.bset0,hR.at1,hR.atq1])
      ·rw [hr2] at hq
       simp only [if_true] at hq
       have hA:=hw3 hr2
       rw [hA]
       simp only [Fam.out,if_true]
       rw [dG]
       (repeat (first|simp only [↓QA,QB,Nat.reduceLT,reduceIte,Nat.reduceEqDiff,Nat.reduceAdd,Nat.reduceLeDiff,Nat.reduceMul,Nat.reduceBEq,cO,hR.len,hR.base,hR.base0,hR.bset,hR.bset0,hR.at1,hR.atq1,e0,e2,e6,e7,e14,e15,hwn]|refine rd0 rfl ?_))
       refine ⟨(r.mins.hi+1-(n+1)).toNat,by omega,?_,?_,?_,?_,?_,n+1,r1.1.1,r1.1.2,n,τ2++τ',?_,by omega,by omega,rfl,fun u hu=>?_,?_,hq⟩
       ·try simp only [aD,QE,Nat.reduceLT,reduceIte,Nat.reduceEqDiff,Nat.reduceAdd,Nat.reduceLeDiff,Nat.reduceMul,Nat.reduceBEq,cO,hR.len,hR.base,hR.base0,hR.bset,hR.bset0,hR.at1,hR.atq1,e0]
       ·try simp only [aD,QE,Nat.reduceLT,reduceIte,Nat.reduceEqDiff,Nat.reduceAdd,Nat.reduceLeDiff,Nat.reduceMul,Nat.reduceBEq,cO,hR.len,hR.base,hR.base0,hR.bset,hR.bset0,hR.at1,hR.atq1,e2]
       ·try simp only [aD,QE,Nat.reduceLT,reduceIte,Nat.reduceEqDiff,Nat.reduceAdd,Nat.reduceLeDiff,Nat.reduceMul,Nat.reduceBEq,cO,hR.len,hR.base,hR.base0,hR.bset,hR.bset0,hR.at1,hR.atq1,e6]
       ·try simp only [aD,QE,Nat.reduceLT,reduceIte,Nat.reduceEqDiff,Nat.reduceAdd,Nat.reduceLeDiff,Nat.reduceMul,Nat.reduceBEq,cO,hR.len,hR.base,hR.base0,hR.bset,hR.bset0,hR.at1,hR.atq1,e7]
       ·try simp only [aD,QE,Nat.reduceLT,reduceIte,Nat.reduceEqDiff,Nat.reduceAdd,Nat.reduceLeDiff,Nat.reduceMul,Nat.reduceBEq,cO,hR.len,hR.base,hR.base0,hR.bset,hR.bset0,hR.at1,hR.atq1,e14]
       ·try simp only [aD,QE,Nat.reduceLT,reduceIte,Nat.reduceEqDiff,Nat.reduceAdd,Nat.reduceLeDiff,Nat.reduceMul,Nat.reduceBEq,cO,hR.len,hR.base,hR.base0,hR.bset,hR.bset0,hR.at1,hR.atq1]
       ·rw [←hr1] at hu
        rcases uH F _ o y u hu with h|h
        ·exact ho u h
        ·have:=A7 h
         have hlr:l.length+1+rs.length=v.rails.length:=by rw [hrs2];simp;omega
         simp at this
         omega
       ·rw [dG,B3,cQ,hS2]
        try simp
   ·refine ⟨e0,e2,e6,e7,e14,r.mins.lo,o,y,0,τ2,e15,Int.le_refl _,by omega,rfl,ho,?_,hq⟩
    rw [tW]
  have fin:∀ (y:X×List K5) (o:Option (List Int)) (τ2:St),R=((o,y),true)→BX Zp ZDp id q N l τ R ⟨none,[],Zp y++(iF id q N o (rl l)++(τ++(.cells (fW r)::τ2))),.bool true⟩:=fun y o τ2 hq=>by
   rw [hq]
   exact ⟨rfl,rl l,.cells (fW r)::τ2,by simp [Fam.out],fun _=>rfl⟩
  by_cases hS0:S=0
  ·have hd0:(!decide (S=0))=false:=by simp [hS0]
   rw [hd0] at hct
   rw [if_pos hS0] at hRR
   simp only [bL,if_true] at hRR
   (repeat (first|simp only [↓QA,QB,Nat.reduceLT,reduceIte,Nat.reduceEqDiff,Nat.reduceAdd,Nat.reduceLeDiff,Nat.reduceMul,Nat.reduceBEq,cO,hR.len,hR.base,hR.base0,hR.bset,hR.bset0,hR.at1,hR.atq1,a108,hE,hlt,hs,hlen,hS2,hht,iS,hcg,Nat.add_zero]|refine rd0 rfl ?_))
   refine bM (hct _) ?_
   (repeat (first|simp only [↓QA,QB,Nat.reduceLT,reduceIte,Nat.reduceEqDiff,Nat.reduceAdd,Nat.reduceLeDiff,Nat.reduceMul,Nat.reduceBEq,cO,hR.len,hR.base,hR.base0,hR.bset,hR.bset0,hR.at1,hR.atq1,hht]|refine rd0 rfl ?_))
   have lp:=fun e K=>loop e K y o [] ho
   simp only [dG,cQ,hS2] at lp
   refine lp _ _ ?_ ?_ ?_ ?_ ?_ ?_ hRR ?_ ?_
   all_goals try try simp only [aD,QE,Nat.reduceLT,reduceIte,Nat.reduceEqDiff,Nat.reduceAdd,Nat.reduceLeDiff,Nat.reduceMul,Nat.reduceBEq,cO,hR.len,hR.base,hR.base0,hR.bset,hR.bset0,hR.at1,hR.atq1]
   ·intro e' y' o' τ2 c q0 q2 hq
    have hst0:=pL 5 (kT (rl l) l.length c) 0 (show l.length<5 by omega)
    rw [uJ,tW] at hst0
    have fn:=fin y' o' τ2 hq
    simp only [dG,cQ,hS2] at fn
    (repeat (first|simp only [↓QA,QB,Nat.reduceLT,reduceIte,Nat.reduceEqDiff,Nat.reduceAdd,Nat.reduceLeDiff,Nat.reduceMul,Nat.reduceBEq,cO,hR.len,hR.base,hR.base0,hR.bset,hR.bset0,hR.at1,hR.atq1,q0,q2,i5,c5,hst0]|refine rd0 rfl ?_))
    exact fn
   ·intro e' A τ2 q9 hq
    (repeat (first|simp only [↓QA,QB,Nat.reduceLT,reduceIte,Nat.reduceEqDiff,Nat.reduceAdd,Nat.reduceLeDiff,Nat.reduceMul,Nat.reduceBEq,cO,hR.len,hR.base,hR.base0,hR.bset,hR.bset0,hR.at1,hR.atq1,q9]|refine rd0 rfl ?_))
    exact ⟨by rw [hq],A,_,rfl,fun h=>by rw [hq] at h;cases h⟩
  ·have hd0:(!decide (S=0))=true:=by simp [hS0]
   rw [hd0] at hct
   rw [if_neg hS0] at hRR
   have hc:=ih 0 ⟨by omega,by omega⟩ o y (τ++[.cells (fW r)]) ho
   have hr0:rl (l++[0])=rl l:=by rw [B3,tW]
   rw [hr0] at hc
   simp only [dG,cQ,hS2,List.length_append,List.length_cons,List.length_nil,Nat.zero_add] at hc
   obtain ⟨r1,hr1⟩:∃ r1,bL (iH F) (eW rs (l++[0])) (o,y)=r1:=⟨_,rfl⟩
   rw [hr1] at hRR hc
   (repeat (first|simp only [↓QA,QB,Nat.reduceLT,reduceIte,Nat.reduceEqDiff,Nat.reduceAdd,Nat.reduceLeDiff,Nat.reduceMul,Nat.reduceBEq,cO,hR.len,hR.base,hR.base0,hR.bset,hR.bset0,hR.at1,hR.atq1,a108,hE,hlt,hs,hlen,hS2,hht,iS,hcg,Nat.add_zero]|refine rd0 rfl ?_))
   refine bM (hct _) ?_
   (repeat (first|simp only [↓QA,QB,Nat.reduceLT,reduceIte,Nat.reduceEqDiff,Nat.reduceAdd,Nat.reduceLeDiff,Nat.reduceMul,Nat.reduceBEq,cO,hR.len,hR.base,hR.base0,hR.bset,hR.bset0,hR.at1,hR.atq1,hht,i5,c5,hst0,hwd]|refine rd0 rfl ?_))
   refine .mono hc fun w hw=>?_
   obtain ⟨hw1,A,τ',hw2,hw3⟩:=hw
   rw [hw1,hw2]
   cases hr2:r1.2
   ·rw [hr2] at hRR
    simp only [Bool.false_eq_true,if_false] at hRR
    (repeat (first|simp only [↓QA,QB,Nat.reduceLT,reduceIte,Nat.reduceEqDiff,Nat.reduceAdd,Nat.reduceLeDiff,Nat.reduceMul,Nat.reduceBEq,cO,hR.len,hR.base,hR.base0,hR.bset,hR.bset0,hR.at1,hR.atq1]|refine rd0 rfl ?_))
    rw [←hRR]
    exact ⟨rfl,A,.cells (fW r)::τ',by simp [cQ,hS2],fun h=>by cases h⟩
   ·rw [hr2] at hRR
    simp only [if_true] at hRR
    have hA:=hw3 hr2
    rw [hr0] at hA
    rw [hA]
    simp only [Fam.out,if_true]
    have ho1:∀ u,r1.1.1=some u→u.length=v.rails.length:=fun u hu=>by
     rw [←hr1] at hu
     rcases uH F _ o y u hu with h|h
     ·exact ho u h
     ·have:=A7 h
      have hlr:l.length+1+rs.length=v.rails.length:=by rw [hrs2];simp;omega
      simp at this
      omega
    rw [dG]
    (repeat (first|simp only [↓QA,QB,Nat.reduceLT,reduceIte,Nat.reduceEqDiff,Nat.reduceAdd,Nat.reduceLeDiff,Nat.reduceMul,Nat.reduceBEq,cO,hR.len,hR.base,hR.base0,hR.bset,hR.bset0,hR.at1,hR.atq1,hht]|refine rd0 rfl ?_))
    have lp:=fun e K=>loop e K r1.1.2 r1.1.1 τ' ho1
    simp only [dG,cQ,hS2] at lp
    refine lp _ _ ?_ ?_ ?_ ?_ ?_ ?_ hRR ?_ ?_
    all_goals try try simp only [aD,QE,Nat.reduceLT,reduceIte,Nat.reduceEqDiff,Nat.reduceAdd,Nat.reduceLeDiff,Nat.reduceMul,Nat.reduceBEq,cO,hR.len,hR.base,hR.base0,hR.bset,hR.bset0,hR.at1,hR.atq1]
    ·intro e' y' o' τ2 c q0 q2 hq
     have hst0:=pL 5 (kT (rl l) l.length c) 0 (show l.length<5 by omega)
     rw [uJ,tW] at hst0
     have fn:=fin y' o' τ2 hq
     simp only [dG,cQ,hS2] at fn
     (repeat (first|simp only [↓QA,QB,Nat.reduceLT,reduceIte,Nat.reduceEqDiff,Nat.reduceAdd,Nat.reduceLeDiff,Nat.reduceMul,Nat.reduceBEq,cO,hR.len,hR.base,hR.base0,hR.bset,hR.bset0,hR.at1,hR.atq1,q0,q2,i5,c5,hst0]|refine rd0 rfl ?_))
     exact fn
    ·intro e' A τ2 q9 hq
     (repeat (first|simp only [↓QA,QB,Nat.reduceLT,reduceIte,Nat.reduceEqDiff,Nat.reduceAdd,Nat.reduceLeDiff,Nat.reduceMul,Nat.reduceBEq,cO,hR.len,hR.base,hR.base0,hR.bset,hR.bset0,hR.at1,hR.atq1,q9]|refine rd0 rfl ?_))
     exact ⟨by rw [hq],A,_,rfl,fun h=>by rw [hq] at h;cases h⟩
end Go.Am.Room
set_option maxRecDepth 8000
namespace Go.Am.Room
def jA:=And.intro @bD (And.intro @aK (And.intro @aU (And.intro @aV (And.intro @aT (And.intro @aR (And.intro @a9 (And.intro @aY (And.intro @aW (And.intro @dV (And.intro @dR (And.intro @Nat.not_lt_zero (And.intro @List.length_append.{0} (And.intro @Nat.zero_add (And.intro @Nat.mul_one (And.intro @Int.toNat_natCast (And.intro @dO (And.intro @eO (And.intro @eN (And.intro @jF (And.intro @eT (And.intro @gC (And.intro @gA (And.intro @gE (And.intro @gB (And.intro @f9 (And.intro @gD (And.intro @Nat.add_lt_add_iff_left (And.intro @Nat.lt_add_right_iff_pos (And.intro @mY (@m5))))))))))))))))))))))))))))))
def eR {X:Type} (v:Net) (bl:List Int) (f:List Int→X→X×Bool) (x:X) (A:List K5):(X×List K5)×Bool:=bL (kH v bl f) (eW v.rails []) (x,A)
theorem KO {X:Type} {Zp ZDp:X×List K5→St} {v:Net} {b p m q N:Nat} {bl:List Int} (hR:Fam Zp ZDp (db v b m) p q N) (hS:∀ x,MemAt (fun A=>Zp (x,A)) (db v b m) (tEs v) p m N) (hv:Vd v) (hb:ButIs b bl) {id:Nat} {P:List Int→Prop} {f:List Int→X→X×Bool} (hy:B4 Zp ZDp id v P f) (hP:∀ c,LeafOk v c→o4 v bl c=true→P c) (y:X×List K5) :
  Run T (.call 106 [.yield id,.ptr q 0] (Zp y)) fun o=>∃ τ',o.σ=Fam.out Zp ZDp (bL (kH v bl f) (eW v.rails []) y)++τ':=by
 have hn:=DI hR hS hv hb hy hP v.rails [] none y [] (by simp) (by simp) (fun i hi=>by simp at hi) (fun u hu=>by cases hu)
 have hl:=hR.len y
 have hz:[AV.int .i64 0,.int .i64 0,.int .i64 0,.int .i64 0,.int .i64 0]=bF 5 (rl []):=by simp [bF,rl,List.range_succ]
 obtain ⟨ho1,ho2⟩:=yX (kH v bl f) (eW v.rails []) none y (DN _ _ (fun r hr=>(hv.ra r hr).mins.1)) (fun a _ h=>by cases h)
 have hend:∀ w,BX Zp ZDp id q N [] [] (bL (iH (kH v bl f)) (eW v.rails []) (none,y)) w→∃ τ',w.σ=Fam.out Zp ZDp (bL (kH v bl f) (eW v.rails []) y)++τ':=by
  rintro w ⟨_,A,τ',h2,_⟩
  refine ⟨iF id q N (bL (iH (kH v bl f)) (eW v.rails []) (none,y)).1.1 A++([]++τ'),?_⟩
  rw [h2,show ((bL (iH (kH v bl f)) (eW v.rails []) (none,y)).1.2,(bL (iH (kH v bl f)) (eW v.rails []) (none,y)).2)=bL (kH v bl f) (eW v.rails []) y from Prod.ext ho1 ho2]
 rw [dG,xX] at hn
 simp only [List.length_nil,Option.getD_none,Option.isNone_none] at hn
 refine .call (af:=a106) rfl (by simp [a106]) (fR (K:=fun j e σ'=>(j=none∨j=some .ret)∧∃ τ',σ'=Fam.out Zp ZDp (bL (kH v bl f) (eW v.rails []) y)++τ') ?_ fun o ho=>ho) fun o ho=>⟨ho.1,_,rfl,.inl ho.2⟩
 (repeat (first|simp only [↓QA,QB,Nat.reduceLT,reduceIte,Nat.reduceEqDiff,Nat.reduceAdd,Nat.reduceLeDiff,Nat.reduceMul,Nat.reduceBEq,jA,hR.len,hR.base,hR.base0,hR.bset,hR.bset0,hR.at1,hR.at0,a106,hl,hz]|refine rd0 rfl ?_))
 refine bM (H1 _) ?_
 (repeat (first|simp only [↓QA,QB,Nat.reduceLT,reduceIte,Nat.reduceEqDiff,Nat.reduceAdd,Nat.reduceLeDiff,Nat.reduceMul,Nat.reduceBEq,jA,hR.len,hR.base,hR.base0,hR.bset,hR.bset0,hR.at1,hR.at0,hl,hz,pF]|refine rd0 rfl ?_))
 simp only [pF] at hn
 refine .mono hn fun w hw=>?_
 have:=hend w hw
 (repeat (first|simp only [↓QA,QB,Nat.reduceLT,reduceIte,Nat.reduceEqDiff,Nat.reduceAdd,Nat.reduceLeDiff,Nat.reduceMul,Nat.reduceBEq,jA,hR.len,hR.base,hR.base0,hR.bset,hR.bset0,hR.at1,hR.at0]|refine rd0 rfl ?_))
 exact this
theorem XA {X M:Type} {Z ZD:X→M→St} {obj:List AV} {es:M→List (AV×AV)} {p m q N:Nat} (h:Fam1 Z ZD obj es p m q N):Fam (fun y:X×M=>Z y.1 y.2) (fun y=>ZD y.1 y.2) obj p q N :=
 ⟨fun y=>(h.ship y.1).len y.2,fun y=>h.lenD y.1 y.2,fun y=>(h.ship y.1).at0 y.2,fun y=>h.atq0 y.1 y.2,fun x y k i hk hi=>h.keep _ _ _ _ k i hk hi,fun x y k i hk hi=>h.keepD _ _ _ _ k i hk hi,h.pl,h.ql⟩
theorem wB {X:Type} {Z ZD:X→List K5→St} {v:Net} {b p m q N:Nat} {bl:List Int} (hF:Fam1 Z ZD (db v b m) (tEs v) p m q N) (hv:Vd v) (hb:ButIs b bl) {id:Nat} {P:List Int→Prop} {f:List Int→X→X×Bool} (hy:tF Z ZD id (nQ v) P f) (hP:∀ c,LeafOk v c→o4 v bl c=true→P c) (x:X) (A:List K5) :
  Run T (.call 106 [.yield id,.ptr q 0] (Z x A)) fun o=>∃ τ',o.σ=Fam1.out Z ZD ((eR v bl f x A).1.1,(eR v bl f x A).2) (eR v bl f x A).1.2++τ' :=
 KO (XA hF) (fun x=>hF.ship x) hv hb (f:=f) (fun t ht x τ=>hy t ht false none x.1 x.2 τ) hP (x,A)
theorem sE {X:Type} (v:Net) (bl:List Int) (f:List Int→X→X×Bool) (x:X) (A:List K5):((eR v bl f x A).1.1,(eR v bl f x A).2)=bL f (TL v bl) x:=by
 have key:∀ (l:List (List Int)) (x:X) (A:List K5),((bL (kH v bl f) l (x,A)).1.1,(bL (kH v bl f) l (x,A)).2)=bL f (l.filter (o4 v bl)) x:=by
  intro l
  induction l with
  |nil=>intro x A;rfl
  |cons c l ih =>
   intro x A
   simp only [bL,List.filter_cons]
   cases h:o4 v bl c
   ·have hp:kH v bl f c (x,A)=((x,lZ A (pad c)),true):=by simp only [kH,h,Bool.false_eq_true,if_false]
    rw [hp]
    simp only [if_true,Bool.false_eq_true,if_false]
    exact ih x _
   ·have hp:kH v bl f c (x,A)=(((f c x).1,lZ A (pad c)),(f c x).2):=by simp only [kH,h,if_true]
    rw [hp]
    simp only [if_true,bL]
    split
    ·exact ih _ _
    ·rfl
 exact key _ x A
def TOk (v:Net) (bl c:List Int):Prop:=LeafOk v c∧o4 v bl c=true
theorem lI {X:Type} {S:List K5→St} {v:Net} {b p m N:Nat} {bl:List Int} (hS:MemAt S (db v b m) (tEs v) p m N) (hv:Vd v) (hb:ButIs b bl) (U UD:X→St) (n:Nat) (hU:∀ x,(U x).length=n) (hUD:∀ x,(UD x).length=n) (ok:∀ x y,y∈U x→∀ k,N≤k→aN k y) (okD:∀ x y,y∈UD x→∀ k,N≤k→aN k y)
  (J:AJump) {f:List Int→X→X×Bool} (e:Env) (k:Nat) (ps:List Nat) (a bb:ACode) (ek:Env.get e k = .func 106 [] [.ptr (N+n) 0])
  (hy:tF (fun x B=>S B++(U x++[.cells [.ptr p 0],.loop .ready none e ps a bb])) (fun x B=>S B++(UD x++[.cells [.ptr p 0],.loop .done (some J) e ps a bb])) (N+n+1) (nQ v) (TOk v bl) f)
  (x:X) (A:List K5) (K:KJ)
  (hT:∀ τ,(bL f (TL v bl) x).2=true→K none e (S (eR v bl f x A).1.2++(U (bL f (TL v bl) x).1++(.cells [.ptr p 0]::.dead::τ))))
  (hD:∀ τ,(bL f (TL v bl) x).2=false→K (some J) e (S (eR v bl f x A).1.2++(UD (bL f (TL v bl) x).1++(.cells [.ptr p 0]::.dead::τ)))) :
  rK (K:=⟨K⟩) T (.rangeFunc (.t k) ps a bb) e (S A++(U x++[.cells [.ptr p 0]])):=by
 have hrun:=wB (TD hS U UD n hU hUD ok okD e ps a bb .ready .done none (some J)) hv hb hy (fun c h1 h2=>⟨h1,h2⟩) x A
 rw [sE] at hrun
 exact N0 (A:=List Int) hS U UD n hU hUD J e k ps a bb 106 ek (bL f (TL v bl) x) (eR v bl f x A).1.2 x A hrun K hT hD
def D5 (_:List Int) (x:Unit):Unit×Bool:=(x,false)
theorem LY (l:List (List Int)):(bL D5 l ()).2=l.isEmpty:=by
 cases l<;>simp [bL,D5]
def EP (v:Net) (bl:List Int) (A:List K5):List K5:=(eR v bl D5 () A).1.2
theorem BH {S:List K5→St} {v:Net} {b p m N:Nat} {bl:List Int} (hR:MemAt S (db v b m) (tEs v) p m N) (hv:Vd v) (hb:ButIs b bl) (A:List K5) :
  yV T (.func 93 [] []) [.ptr p 0] (S A) (.bool !(bY v bl).isEmpty) (S (EP v bl A)):=by
 have hit:=LY (TL v bl)
 rw [I7 hv] at hit
 refine uU hR (af:=a93) rfl (by simp [a93]) ?_
 (repeat (first|simp only [↓QA,QB,Nat.reduceLT,reduceIte,Nat.reduceEqDiff,Nat.reduceAdd,Nat.reduceLeDiff,Nat.reduceMul,Nat.reduceBEq,jA,hR.len,hR.base,hR.base0,hR.bset,hR.bset0,hR.at1,hR.at0,a93]|refine rd0 rfl ?_))
 refine qW rfl (by simp [a80]) ?_
 (repeat (first|simp only [↓QA,QB,Nat.reduceLT,reduceIte,Nat.reduceEqDiff,Nat.reduceAdd,Nat.reduceLeDiff,Nat.reduceMul,Nat.reduceBEq,jA,hR.len,hR.base,hR.base0,hR.bset,hR.bset0,hR.at1,hR.at0,a80]|refine rd0 rfl ?_))
 refine lI hR hv hb (fun _:Unit=>[.cells [.bool false]]) (fun _=>[.cells [.bool true]]) 1 (fun _=>rfl) (fun _=>rfl) (fun _ y hy k _=>by simp at hy;subst hy;simp [aN,okVs,okV]) (fun _ y hy k _=>by simp at hy;subst hy;simp [aN,okVs,okV]) .ret (f:=D5) _ 4 [5,6] _ _ ?_ ?_ () A _ ?_ ?_
 ·try simp only [aD,QE,Nat.reduceLT,reduceIte,Nat.reduceEqDiff,Nat.reduceAdd,Nat.reduceLeDiff,Nat.reduceMul,Nat.reduceBEq,jA,hR.len,hR.base,hR.base0,hR.bset,hR.bset0,hR.at1,hR.at0]
 ·refine KB hR _ _ 1 (fun _=>rfl) (fun _=>rfl) .ret _ _ (nQ v) (fun _ _ _=>rfl) _ _ ?_
  intro t _ fl tk x A' τ
  simp only [jN,nQ]
  (repeat (first|simp only [↓QA,QB,Nat.reduceLT,reduceIte,Nat.reduceEqDiff,Nat.reduceAdd,Nat.reduceLeDiff,Nat.reduceMul,Nat.reduceBEq,jA,hR.len,hR.base,hR.base0,hR.bset,hR.bset0,hR.at1,hR.at0,V9,D5]|refine rd0 rfl ?_))
  exact .inr ⟨[],by simp⟩
 ·intro τ h2
  rw [hit] at h2
  (repeat (first|simp only [↓QA,QB,Nat.reduceLT,reduceIte,Nat.reduceEqDiff,Nat.reduceAdd,Nat.reduceLeDiff,Nat.reduceMul,Nat.reduceBEq,jA,hR.len,hR.base,hR.base0,hR.bset,hR.bset0,hR.at1,hR.at0,h2]|refine rd0 rfl ?_))
  refine ⟨_,_,rfl,rfl,?_⟩
  try simp only [QS,QC,Nat.reduceLT,reduceIte,Nat.reduceEqDiff,Nat.reduceAdd,Nat.reduceLeDiff,Nat.reduceMul,Nat.reduceBEq,jA,hR.len,hR.base,hR.base0,hR.bset,hR.bset0,hR.at1,hR.at0]
 ·intro τ h2
  rw [hit] at h2
  (repeat (first|simp only [↓QA,QB,Nat.reduceLT,reduceIte,Nat.reduceEqDiff,Nat.reduceAdd,Nat.reduceLeDiff,Nat.reduceMul,Nat.reduceBEq,jA,hR.len,hR.base,hR.base0,hR.bset,hR.bset0,hR.at1,hR.at0,h2]|refine rd0 rfl ?_))
  refine ⟨_,_,rfl,rfl,?_⟩
  try simp only [QS,QC,Nat.reduceLT,reduceIte,Nat.reduceEqDiff,Nat.reduceAdd,Nat.reduceLeDiff,Nat.reduceMul,Nat.reduceBEq,jA,hR.len,hR.base,hR.base0,hR.bset,hR.bset0,hR.at1,hR.at0]
end Go.Am.Room
set_option maxRecDepth 4000
namespace Go.Am.Room
def d9:=And.intro @bD (And.intro @aK (And.intro @aU (And.intro @aV (And.intro @aT (And.intro @aR (And.intro @a9 (And.intro @aY (And.intro @aW (And.intro @dV (And.intro @dR (And.intro @Nat.not_lt_zero (And.intro @List.length_append.{0} (And.intro @Nat.add_lt_add_iff_left (And.intro @Nat.lt_add_right_iff_pos (And.intro @Nat.mul_one (@Int.toNat_natCast))))))))))))))))
def yG (σ:St) (v:Net) (b:Nat):St:=σ++[.cells (aB v),.map [],.cells (db v b (σ.length+1))]
theorem DB (σ:St) (v:Net) (b:Nat):yV T (.func 92 [] []) [dK v,.int .i64 b] σ (.ptr (σ.length+2) 0) (yG σ v b):=by
 refine .callf (.call (af:=a92) rfl (by simp [a92]) (fR (K:=fun j e σ1=>(j=none∨j=some .ret)∧Env.get e 4 = .ptr (σ.length+2) 0∧σ1=yG σ v b) ?_ fun o ho=>ho) fun o ho=>?_)
 ·(repeat (first|simp only [↓QA,QB,Nat.reduceLT,reduceIte,Nat.reduceEqDiff,Nat.reduceAdd,Nat.reduceLeDiff,Nat.reduceMul,Nat.reduceBEq,d9,a92,List.length_append,yG,db]|refine rd0 rfl ?_))
  try simp [db,aB,ints]
 ·exact ⟨ho.1,_,rfl,.inl ⟨ho.2.1,ho.2.2⟩⟩
theorem pT (v:Net) (A:List K5) (k:Nat):aN k (.map (tEs v A)):=ZA (xE v) A k
def jR (σ:St) (v:Net) (A:List K5):St:=σ++[.cells (aB v),.cells (aB v),.map (tEs v A),.cells (db v 0 (σ.length+2))]
theorem xK (σ:St) (v:Net):MemAt (jR σ v) (db v 0 (σ.length+2)) (tEs v) (σ.length+3) (σ.length+2) (σ.length+4) :=
 ⟨fun M=>by simp [jR],fun M=>by simp [jR,qV,o0,NY],fun M=>by rw [jR,qD];rfl,fun M M'=>by rw [jR,jR,m6];rfl,fun A k=>pT v A k,by omega,by omega⟩
def A2:List Int→Bool
 |[t,n]=>inR t 0 (n-1)
 |_=>true
def tY (v:Net) (ns:List Int):Int:=g0 v (if (cG v).2.2=0 then (if A2 ns=true then 0 else 4) else (cG v).2.2)
theorem kN (v:Net):tY v []=fE v:=by
 have:(if (cG v).2.2=0 then (if A2 []=true then 0 else 4) else (cG v).2.2:Int)=(cG v).2.2:=by
  split
  ·rename_i h;simp [A2,h]
  ·rfl
 rw [tY,this];rfl
theorem NV (v:Net) (t:Int):tY v [t,v.trams.length]=lC v t:=rfl
def kX (v:Net) (ns:List Int) (k:Nat):AV:=if tY v ns=0 then .tuple [.ptr (k+3) 0,.int .i64 0] else .tuple [.nilPtr,.int .i64 (tY v ns)]
def nZ (v:Net):List K5:=EP v [] []
def oY (σ:St) (v:Net) (ns:List Int):St:=if tY v ns=0 then jR σ v (nZ v) else σ
theorem rE (σ:St) (v:Net) (ns:List Int) (hns:ns=[]∨∃ t,ns=[t,(v.trams.length:Int)]) (hf:Fits v):yV T (.func 79 [] []) [dK v,.lit (ns.map (.int .i64)) true none] σ (kX v ns σ.length) (oY σ v ns):=by
 refine .callf (.call (af:=a79) rfl (by simp [a79]) (fR (K:=fun j e σ1=>(j=none∨j=some .ret)∧(if tY v ns=0 then Env.get e 4 = .ptr (σ.length+3) 0∧Env.get e 5 = .int .i64 0∧σ1=jR σ v (nZ v) else Env.get e 4 = .nilPtr∧Env.get e 5 = .int .i64 (tY v ns)∧∃ τ,σ1=σ++τ)) ?_ fun o ho=>ho) fun o ho=>?_)
 ·obtain ⟨E,hE⟩:∃ E,tY v ns=E:=⟨_,rfl⟩
  rw [hE]
  rw [tY] at hE
  (repeat (first|simp only [↓QA,QB,Nat.reduceLT,reduceIte,Nat.reduceEqDiff,Nat.reduceAdd,Nat.reduceLeDiff,Nat.reduceMul,Nat.reduceBEq,d9,a79]|refine rd0 rfl ?_))
  ((first|refine aF (kM v hf) rfl dd ?_|refine aG (kM v hf) rfl dd ?_);(repeat (first|simp only [↓QA,QB,Nat.reduceLT,reduceIte,Nat.reduceEqDiff,Nat.reduceAdd,Nat.reduceLeDiff,Nat.reduceMul,Nat.reduceBEq,d9,n7]|refine rd0 rfl ?_)))
  cases h0:((cG v).2.2==0)
  ·have h0':(cG v).2.2≠0:=by simpa using h0
   have he:E=(cG v).2.2:=by rw [←hE];simp [h0',g0]
   (repeat (first|simp only [↓QA,QB,Nat.reduceLT,reduceIte,Nat.reduceEqDiff,Nat.reduceAdd,Nat.reduceLeDiff,Nat.reduceMul,Nat.reduceBEq,d9,h0]|refine rd0 rfl ?_))
   rw [he,if_neg h0']
   simp
  ·have h0':(cG v).2.2=0:=by simpa using h0
   have hv:=gS h0'
   have hnt:=hv.ntr
   rw [if_pos h0'] at hE
   have hlk:=DB (σ++[.cells (aB v)]) v 0
   have hso:=BH (xK σ v) hv KR []
   have e0:tEs v []=[]:=rfl
   simp only [jR,yG,e0] at hso hlk
   try simp only [↓QA,QB,Nat.reduceLT,reduceIte,Nat.reduceEqDiff,Nat.reduceAdd,Nat.reduceLeDiff,Nat.reduceMul,Nat.reduceBEq,d9,List.append_assoc] at hso hlk
   have tail:A2 ns=true→(if (bY v []).isEmpty then 8 else 0)=E:=fun q=>by
    rw [q] at hE;simpa [g0] using hE
   have hk0:σ.length<σ.length+1:=by omega
   rcases hns with rfl|⟨t,rfl⟩
   ·have tl:=tail rfl
    have w01:IntKind.i64.wrap ((0:Int)+1)=1:=rfl
    have d01:decide ((1:Int)<((0:Nat):Int))=false:=rfl
    (repeat (first|simp only [↓QA,QB,Nat.reduceLT,reduceIte,Nat.reduceEqDiff,Nat.reduceAdd,Nat.reduceLeDiff,Nat.reduceMul,Nat.reduceBEq,d9,h0]|refine rd0 rfl ?_))
    refine dF (S:=Unit) () (fun _=>True) (fun _=>0) (fun _=>[(1,.lit [] false none),(2,.ptr σ.length 0),(9,.int .i64 0)]) (fun _=>σ++[.cells (aB v)]) trivial (by simp [aB,ints]) ?_ fun _ _=>?_
    ·try simp only [aD,QE,Nat.reduceLT,reduceIte,Nat.reduceEqDiff,Nat.reduceAdd,Nat.reduceLeDiff,Nat.reduceMul,Nat.reduceBEq,d9,List.map_nil]
     try simp [clr,clrs]
    ·(repeat (first|simp only [↓QA,QB,Nat.reduceLT,reduceIte,Nat.reduceEqDiff,Nat.reduceAdd,Nat.reduceLeDiff,Nat.reduceMul,Nat.reduceBEq,d9,JN,w01,d01]|refine rd0 rfl ?_))
     refine cT hlk ?_
     (repeat (first|simp only [↓QA,QB,Nat.reduceLT,reduceIte,Nat.reduceEqDiff,Nat.reduceAdd,Nat.reduceLeDiff,Nat.reduceMul,Nat.reduceBEq,d9]|refine rd0 rfl ?_))
     refine cT hso ?_
     cases hs:(bY v []).isEmpty
     ·have he:E=0:=by rw [←tl];simp [hs]
      subst he
      (repeat (first|simp only [↓QA,QB,Nat.reduceLT,reduceIte,Nat.reduceEqDiff,Nat.reduceAdd,Nat.reduceLeDiff,Nat.reduceMul,Nat.reduceBEq,d9]|refine rd0 rfl ?_))
      simp [jR,nZ,aB,ints]
     ·have he:E=8:=by rw [←tl];simp [hs]
      subst he
      (repeat (first|simp only [↓QA,QB,Nat.reduceLT,reduceIte,Nat.reduceEqDiff,Nat.reduceAdd,Nat.reduceLeDiff,Nat.reduceMul,Nat.reduceBEq,d9]|refine rd0 rfl ?_))
      simp
   ·have w01:IntKind.i64.wrap ((0:Int)+1)=1:=rfl
    have w21:IntKind.i64.wrap ((2:Int)+1)=3:=rfl
    have w02:IntKind.i64.wrap ((0:Int)+2)=2:=rfl
    have d12:decide ((1:Int)<((2:Nat):Int))=true:=rfl
    have d32:decide ((3:Int)<((2:Nat):Int))=false:=rfl
    have j0:(0:Int)≤0:=by decide
    have j1:(0:Int)≤1:=by decide
    have t0:Int.toNat 0=0:=rfl
    have t1:Int.toNat 1=1:=rfl
    have hwl:IntKind.i64.wrap ((v.trams.length:Int)-1)=(v.trams.length:Int)-1:=dU ⟨by omega,by omega⟩
    have hix0:∀ l:List AV,EF 1 (.int .i64 t::l) 0 none=some (.lptr (.int .i64 t::l) 0 0 none):=fun l=>by simp [EF,AV.cells]
    have hix1:∀ l:List AV,EF 1 (.int .i64 t::.int .i64 (v.trams.length:Int)::l) 1 none=some (.lptr (.int .i64 t::.int .i64 (v.trams.length:Int)::l) 1 0 none):=fun l=>by simp [EF,AV.cells]
    have hpb:A2 [t,(v.trams.length:Int)]=inR t 0 ((v.trams.length:Int)-1):=rfl
    (repeat (first|simp only [↓QA,QB,Nat.reduceLT,reduceIte,Nat.reduceEqDiff,Nat.reduceAdd,Nat.reduceLeDiff,Nat.reduceMul,Nat.reduceBEq,d9,h0]|refine rd0 rfl ?_))
    refine dF (S:=Bool) false (fun b=>b=true→A2 [t,(v.trams.length:Int)]=true) (fun b=>if b then 0 else 1) (fun b=>[(1,.lit [.int .i64 t,.int .i64 v.trams.length] false none),(2,.ptr σ.length 0),(9,.int .i64 (if b then 2 else 0))]) (fun _=>σ++[.cells (aB v)]) (fun h=>by cases h) (by simp [aB,ints]) ?_ fun b hb=>?_
    ·try simp only [aD,QE,Nat.reduceLT,reduceIte,Nat.reduceEqDiff,Nat.reduceAdd,Nat.reduceLeDiff,Nat.reduceMul,Nat.reduceBEq,d9,List.map_nil,List.map_cons]
     try simp [clr,clrs]
    ·cases b
     ·simp only [Bool.false_eq_true,if_false]
      (repeat (first|simp only [↓QA,QB,Nat.reduceLT,reduceIte,Nat.reduceEqDiff,Nat.reduceAdd,Nat.reduceLeDiff,Nat.reduceMul,Nat.reduceBEq,d9,JN,w01,d12,hix0,hix1,hwl]|refine rd0 rfl ?_))
      ((first|refine d8 (bI 0 ((v.trams.length:Int)-1) [t] (by simp)) (by simp [clr,clrs,ints]) (by simp [okV,okVs]) ?_|refine eS (bI 0 ((v.trams.length:Int)-1) [t] (by simp)) (by simp [clr,clrs,ints]) (by simp [okV,okVs]) ?_);(repeat (first|simp only [↓QA,QB,Nat.reduceLT,reduceIte,Nat.reduceEqDiff,Nat.reduceAdd,Nat.reduceLeDiff,Nat.reduceMul,Nat.reduceBEq,d9,iK,w01,d12,hix0,hix1,hwl]|refine rd0 rfl ?_)))
      cases h1:inR t 0 ((v.trams.length:Int)-1)
      ·rw [hpb,h1] at hE
       have he:E=4:=by rw [←hE];simp [g0]
       subst he
       (repeat (first|simp only [↓QA,QB,Nat.reduceLT,reduceIte,Nat.reduceEqDiff,Nat.reduceAdd,Nat.reduceLeDiff,Nat.reduceMul,Nat.reduceBEq,d9,hix0,hix1]|refine rd0 rfl ?_))
       simp
      ·(repeat (first|simp only [↓QA,QB,Nat.reduceLT,reduceIte,Nat.reduceEqDiff,Nat.reduceAdd,Nat.reduceLeDiff,Nat.reduceMul,Nat.reduceBEq,d9,hix0,hix1,w02]|refine rd0 rfl ?_))
       refine ⟨true,fun _=>by rw [hpb,h1],by simp,?_⟩
       try simp only [aD,QE,Nat.reduceLT,reduceIte,Nat.reduceEqDiff,Nat.reduceAdd,Nat.reduceLeDiff,Nat.reduceMul,Nat.reduceBEq,d9,w02]
       try simp [aN]
     ·have tl:=tail (hb rfl)
      simp only [if_true]
      (repeat (first|simp only [↓QA,QB,Nat.reduceLT,reduceIte,Nat.reduceEqDiff,Nat.reduceAdd,Nat.reduceLeDiff,Nat.reduceMul,Nat.reduceBEq,d9,JN,w21,d32]|refine rd0 rfl ?_))
      refine cT hlk ?_
      (repeat (first|simp only [↓QA,QB,Nat.reduceLT,reduceIte,Nat.reduceEqDiff,Nat.reduceAdd,Nat.reduceLeDiff,Nat.reduceMul,Nat.reduceBEq,d9]|refine rd0 rfl ?_))
      refine cT hso ?_
      cases hs:(bY v []).isEmpty
      ·have he:E=0:=by rw [←tl];simp [hs]
       subst he
       (repeat (first|simp only [↓QA,QB,Nat.reduceLT,reduceIte,Nat.reduceEqDiff,Nat.reduceAdd,Nat.reduceLeDiff,Nat.reduceMul,Nat.reduceBEq,d9]|refine rd0 rfl ?_))
       simp [jR,nZ,aB,ints]
      ·have he:E=8:=by rw [←tl];simp [hs]
       subst he
       (repeat (first|simp only [↓QA,QB,Nat.reduceLT,reduceIte,Nat.reduceEqDiff,Nat.reduceAdd,Nat.reduceLeDiff,Nat.reduceMul,Nat.reduceBEq,d9]|refine rd0 rfl ?_))
       simp
 ·obtain ⟨hj,ho⟩:=ho
  by_cases he:tY v ns=0
  ·rw [if_pos he] at ho
   refine ⟨hj,kX v ns σ.length,?_,.inl ⟨rfl,?_⟩⟩
   ·simp [fY,lU,a79,ho.1,ho.2.1,kX,he]
   ·rw [ho.2.2,oY,if_pos he]
  ·rw [if_neg he] at ho
   obtain ⟨h4,h5,τ,hσ⟩:=ho
   refine ⟨hj,kX v ns σ.length,?_,.inr ⟨20,kX v ns σ.length,kX v ns σ.length,?_,.inl rfl,fun i hi=>.inl (by rw [hσ];exact List.getElem?_append_left hi),by rw [hσ];simp,rfl,by rw [hσ];simp [oY,he]⟩⟩
   ·simp [fY,lU,a79,h4,h5,kX,he]
   ·simp [kX,he,snap,snaps]
theorem OU {X:Type} {M:Type} {S:X→M→St} {obj:List AV} {es:M→List (AV×AV)} {p m N:Nat} (hS:∀ x,MemAt (S x) obj es p m N) (hK:∀ x A y B k i,N≤k→i<N→eB (S x A) (S y B) k i) (hpl:p<N) (U UD:X→St) (n:Nat) (hU:∀ x,(U x).length=n) (hUD:∀ x,(UD x).length=n) (ok:∀ x y,y∈U x→∀ k,N≤k→aN k y) (okD:∀ x y,y∈UD x→∀ k,N≤k→aN k y)
  (env:Env) (ps:List Nat) (a bb:ACode) (st st':LS) (pe pe':Option AJump) :
  Fam1 (fun x A=>S x A++(U x++[.cells [.ptr p 0],.loop st pe env ps a bb])) (fun x A=>S x A++(UD x++[.cells [.ptr p 0],.loop st' pe' env ps a bb])) obj es p m (N+n) (N+n+2):=by
 have low:∀ (x:X) (A:M) (y:X) (B:M) (C D:St) (k i:Nat),N≤k→i<N→eB (S x A++C) (S y B++D) k i:=by
  intro x A y B C D k i hk hi
  have e1:(S x A++C)[i]? = (S x A)[i]?:=List.getElem?_append_left (by rw [(hS x).len];exact hi)
  have e2:(S y B++D)[i]? = (S y B)[i]?:=List.getElem?_append_left (by rw [(hS y).len];exact hi)
  have:=hK x A y B k i hk hi
  simp only [eB,e1,e2] at this ⊢
  exact this
 have high:∀ (P Q:St) (C D:St) (l1 l2:ABlk) (k i:Nat),P.length=N→Q.length=N→C.length=n→D.length=n→(∀ y∈D,aN k y)→N≤i→i<N+n+2→(l1=l2∨∃ st pe st' pe' env ps a b,l1 = .loop st pe env ps a b∧l2 = .loop st' pe' env ps a b) →
   eB (P++(C++[.cells [.ptr p 0],l1])) (Q++(D++[.cells [.ptr p 0],l2])) k i:=by
  intro P Q C D l1 l2 k i hP hQ hA hB hk h1 h2 hl
  have e1:(P++(C++[.cells [.ptr p 0],l1]))[i]? = (C++[.cells [.ptr p 0],l1])[i-N]?:=by rw [List.getElem?_append_right (by rw [hP];exact h1),hP]
  have e2:(Q++(D++[.cells [.ptr p 0],l2]))[i]? = (D++[.cells [.ptr p 0],l2])[i-N]?:=by rw [List.getElem?_append_right (by rw [hQ];exact h1),hQ]
  simp only [eB,e1,e2]
  obtain ⟨j,hj⟩:∃ j,i-N=j:=⟨_,rfl⟩
  rw [hj]
  by_cases hjn:j<n
  ·right;left
   have hb:j<D.length:=by omega
   refine ⟨D[j],?_,hk _ (List.getElem_mem hb)⟩
   rw [List.getElem?_append_left hb,List.getElem?_eq_getElem hb]
  ·have:j=n∨j=n+1:=by omega
   rcases this with rfl|rfl
   ·left
    rw [List.getElem?_append_right (by omega),List.getElem?_append_right (by omega),hA,hB]
    simp
   ·rw [List.getElem?_append_right (by omega),List.getElem?_append_right (by omega),hA,hB]
    simp only [Nat.add_sub_cancel_left,List.getElem?_cons_succ,List.getElem?_cons_zero]
    rcases hl with rfl|⟨_,_,_,_,_,_,_,_,rfl,rfl⟩
    ·exact .inl rfl
    ·exact .inr (.inr ⟨_,_,_,_,_,_,_,_,rfl,rfl⟩)
 refine ⟨fun x=>?_,fun x A=>?_,fun x A=>?_,fun x A y B k i hk hi=>?_,fun x A y B k i hk hi=>?_,by omega,by omega⟩
 ·have:=(hS x).app (U x++[.cells [.ptr p 0],.loop st pe env ps a bb])
  rw [List.length_append,hU] at this
  exact this
 ·simp [(hS x).len,hUD];omega
 ·have e:N+n=(S x A).length+n:=by rw [(hS x).len]
  rw [e,qV]
  have:n=(U x).length:=by rw [hU]
  rw [this]
  exact iB _ _
 ·by_cases h:i<N
  ·exact low _ _ _ _ _ _ _ _ (by omega) h
  ·exact high _ _ _ _ _ _ _ _ ((hS x).len A) ((hS y).len B) (hU x) (hU y) (fun z hz=>ok y z hz k (by omega)) (by omega) hi (.inl rfl)
 ·by_cases h:i<N
  ·exact low _ _ _ _ _ _ _ _ (by omega) h
  ·exact high _ _ _ _ _ _ _ _ ((hS x).len A) ((hS y).len B) (hU x) (hUD y) (fun z hz=>okD y z hz k (by omega)) (by omega) hi (.inr ⟨_,_,_,_,_,_,_,_,rfl,rfl⟩)
theorem KT {X M:Type} {S:X→M→St} {obj:List AV} {es:M→List (AV×AV)} {p m N:Nat} (hS:∀ x,MemAt (S x) obj es p m N) (U UD:X→St) (n:Nat) (hU:∀ x,(U x).length=n) (hUD:∀ x,(UD x).length=n)
  (J:AJump) (e:Env) (k:Nat) (ps:List Nat) (a bb:ACode) (g:FuncId) (ek:Env.get e k = .func g [] [.ptr (N+n) 0]) (r:X×Bool) (B':M) (x:X) (B:M)
  (hrun:Run T (.call g [.yield (N+n+1),.ptr (N+n) 0] (S x B++(U x++[.cells [.ptr p 0],.loop .ready none e ps a bb]))) fun o=>∃ τ',o.σ=Fam1.out (fun x A=>S x A++(U x++[.cells [.ptr p 0],.loop .ready none e ps a bb])) (fun x A=>S x A++(UD x++[.cells [.ptr p 0],.loop .done (some J) e ps a bb])) r B'++τ') (K:KJ)
  (hT:∀ τ,r.2=true→K none e (S r.1 B'++(U r.1++(.cells [.ptr p 0]::.dead::τ))))
  (hD:∀ τ,r.2=false→K (some J) e (S r.1 B'++(UD r.1++(.cells [.ptr p 0]::.dead::τ)))) :
  rK (K:=⟨K⟩) T (.rangeFunc (.t k) ps a bb) e (S x B++(U x++[.cells [.ptr p 0]])):=by
 have hlen:(S x B++(U x++[ABlk.cells [.ptr p 0]])).length=N+n+1:=by simp [(hS x).len,hU];omega
 have hout:∀ (A W:St) (lp:ABlk) (τ':St),A.length=N→W.length=n→(A++(W++[ABlk.cells [.ptr p 0],lp])++τ')[N+n+1]? = some lp∧(A++(W++[ABlk.cells [.ptr p 0],lp])++τ').set (N+n+1) .dead=A++(W++(.cells [.ptr p 0]::.dead::τ')):=by
  intro A W lp τ' hA hW
  have h1:N+n+1=(A++W).length+1:=by simp [hA,hW]
  have h2:A++(W++[ABlk.cells [.ptr p 0],lp])++τ'=(A++W)++(.cells [.ptr p 0]::lp::τ'):=by simp
  rw [h1,h2]
  constructor
  ·rw [qD];rfl
  ·rw [m6];simp
 refine D2 (by rw [O6,ek]) (by
  rw [hlen,List.append_assoc (S x B),List.append_assoc (U x)]
  exact hrun) fun o ho=>?_
 obtain ⟨τ',hσ⟩:=ho
 rw [hlen,hσ]
 cases hr2:r.2
 ·have hD':=hD τ' hr2
  obtain ⟨g1,g2⟩:=hout (S r.1 B') (UD r.1) (.loop .done (some J) e ps a bb) τ' ((hS _).len _) (hUD _)
  simp only [Fam1.out,hr2,Bool.false_eq_true,if_false]
  rw [g1,g2]
  exact ⟨_,_,_,_,_,_,rfl,by simp,hD'⟩
 ·have hT':=hT τ' hr2
  obtain ⟨g1,g2⟩:=hout (S r.1 B') (U r.1) (.loop .ready none e ps a bb) τ' ((hS _).len _) (hU _)
  simp only [Fam1.out,hr2,if_true]
  rw [g1,g2]
  exact ⟨_,_,_,_,_,_,rfl,by simp,hT'⟩
theorem mS {X A M:Type} {S:X→M→St} {obj:List AV} {es:M→List (AV×AV)} {p m N:Nat} (hS:∀ x,MemAt (S x) obj es p m N) (U UD:X→St) (n:Nat) (hU:∀ x,(U x).length=n) (hUD:∀ x,(UD x).length=n) (J:AJump) (e:Env) (ps:List Nat) (args:A→Bool→Option Nat→List AV) (hps:∀ t fl tk,ps.length=(args t fl tk).length) (a bb:ACode) {P:A→Prop} {f:A→X→X×Bool}
  (h:∀ t,P t→∀ (fl:Bool) (tk:Option Nat) x B τ,wp T a (jN e ps (args t fl tk)) (S x B++(U x++(.cells [.ptr p 0]::.loop .ready none e ps a bb::τ))) (fun j e' σ'=>j=none∧∃ τ1,σ'=S x B++(U x++(.cells [.ptr p 0]::.loop .ready none e ps a bb::(τ++τ1))) ∧
   wp T bb e' (S x B++(U x++(.cells [.ptr p 0]::.loop .busy none e ps a bb::(τ++τ1)))) (fun j e'' σ''=>((f t x).2=true∧j=none∧∃ τ',σ''=S (f t x).1 B++(U (f t x).1++(.cells [.ptr p 0]::.loop .busy none e ps a bb::(τ++τ')))) ∨
    ((f t x).2=false∧j=some J∧∃ τ',σ''=S (f t x).1 B++(UD (f t x).1++(.cells [.ptr p 0]::.loop .busy none e ps a bb::(τ++τ'))))))) :
  tF (fun x B=>S x B++(U x++[.cells [.ptr p 0],.loop .ready none e ps a bb])) (fun x B=>S x B++(UD x++[.cells [.ptr p 0],.loop .done (some J) e ps a bb])) (N+n+1) args P f:=by
 intro t ht fl tk x B τ
 have hget:∀ (A W:St) (lp:ABlk) (υ:St),A.length=N→W.length=n→(A++(W++(ABlk.cells [.ptr p 0]::lp::υ)))[N+n+1]? = some lp:=by
  intro A W lp υ hA hW
  have h1:N+n+1=(A++W).length+1:=by simp [hA,hW]
  rw [h1,←List.append_assoc,qD];rfl
 have hset:∀ (A W:St) (lp l2:ABlk) (υ:St),A.length=N→W.length=n→(A++(W++(ABlk.cells [.ptr p 0]::lp::υ))).set (N+n+1) l2=A++(W++(ABlk.cells [.ptr p 0]::l2::υ)):=by
  intro A W lp l2 υ hA hW
  have h1:N+n+1=(A++W).length+1:=by simp [hA,hW]
  rw [h1,←List.append_assoc,m6]
  simp
 obtain ⟨r,hr⟩:∃ r,f t x=r:=⟨_,rfl⟩
 have h:=h t ht fl tk x B τ
 rw [hr] at h ⊢
 have hst:(fun x B=>S x B++(U x++[ABlk.cells [.ptr p 0],.loop .ready none e ps a bb])) x B++τ=S x B++(U x++(.cells [.ptr p 0]::.loop .ready none e ps a bb::τ)):=by simp
 rw [hst]
 refine .round (env:=e) (ps:=ps) (a:=a) (b:=bb)
  (R:=fun o=>o.j=none∧∃ τ1,o.σ=S x B++(U x++(.cells [.ptr p 0]::.loop .ready none e ps a bb::(τ++τ1)))∧wp T bb o.env (S x B++(U x++(.cells [.ptr p 0]::.loop .busy none e ps a bb::(τ++τ1)))) (fun j e'' σ''=>(r.2=true∧j=none∧∃ τ',σ''=S r.1 B++(U r.1++(.cells [.ptr p 0]::.loop .busy none e ps a bb::(τ++τ')))) ∨
    (r.2=false∧j=some J∧∃ τ',σ''=S r.1 B++(UD r.1++(.cells [.ptr p 0]::.loop .busy none e ps a bb::(τ++τ'))))))
  (S:=fun o=>(r.2=true∧o.j=none∧∃ τ',o.σ=S r.1 B++(U r.1++(.cells [.ptr p 0]::.loop .busy none e ps a bb::(τ++τ'))))∨(r.2=false∧o.j=some J∧∃ τ',o.σ=S r.1 B++(UD r.1++(.cells [.ptr p 0]::.loop .busy none e ps a bb::(τ++τ'))))) (hget _ _ _ _ ((hS _).len _) (hU _)) (by rw [hps t fl tk]) (fR h fun o ho=>ho) ?_ ?_ ?_
 ·rintro o ⟨hj,τ1,hσ,_⟩
  exact ⟨hj,by rw [hσ];exact hget _ _ _ _ ((hS _).len _) (hU _)⟩
 ·rintro o ⟨_,τ1,hσ,hw⟩
  rw [hσ,hset _ _ _ _ _ ((hS _).len _) (hU _)]
  exact fR hw fun o ho=>ho
 ·rintro o (⟨hr2,hj,τ',hσ⟩|⟨hr2,hj,τ',hσ⟩)
  ·rw [hσ,hj,hget _ _ _ _ ((hS _).len _) (hU _),hset _ _ _ _ _ ((hS _).len _) (hU _)]
   refine ⟨rfl,by rw [hr2];rfl,τ',?_⟩
   simp [Fam1.out,hr2]
  ·rw [hσ,hj,hget _ _ _ _ ((hS _).len _) (hUD _),hset _ _ _ _ _ ((hS _).len _) (hUD _)]
   refine ⟨rfl,by rw [hr2];rfl,τ',?_⟩
   simp [Fam1.out,hr2]
end Go.Am.Room
set_option maxRecDepth 8000
namespace Go.Am.Room
def wU:=And.intro @bD (And.intro @aK (And.intro @aU (And.intro @aV (And.intro @aT (And.intro @aR (And.intro @a9 (And.intro @aY (And.intro @aW (And.intro @dV (And.intro @dR (And.intro @Nat.not_lt_zero (And.intro @List.length_append.{0} (And.intro @Nat.zero_add (And.intro @Nat.mul_one (And.intro @Int.toNat_natCast (And.intro @dO (And.intro @eO (And.intro @eN (And.intro @jF (And.intro @eT (And.intro @gC (And.intro @gA (And.intro @gE (And.intro @gB (And.intro @f9 (And.intro @gD (And.intro @Nat.add_lt_add_iff_left (@Nat.lt_add_right_iff_pos))))))))))))))))))))))))))))
theorem DH (v:Net) (b m p:Nat) (σ:St) (hσ:aH σ p=some (db v b m)) (t:Nat) (ht:t<v.trams.length) (c:Int):iC T (.func 111 [.ptr p 0] []) [.int .i64 t,.int .i64 c] σ (.bool (jI v t c)):=by
 refine dY (af:=a111) rfl (by simp [a111]) ?_
 have hit:=A4 (v:=v) (t:=t) (z:=v.trams[t]) (by simp [ht]) c
 obtain ⟨z,hz⟩:∃ z,v.trams[t]=z:=⟨_,rfl⟩
 rw [hz] at hit
 have e:decide (c = -1)=(c==-1):=by rw [Bool.eq_iff_iff];simp
 rw [e] at hit
 rw [hit]
 cases h:(c==-1)
 ·(repeat (first|simp only [↓QA,QB,Nat.reduceLT,reduceIte,Nat.reduceEqDiff,Nat.reduceAdd,Nat.reduceLeDiff,Nat.reduceMul,Nat.reduceBEq,wU,a111,h,hσ,ht,hz]|refine rd0 rfl ?_))
  refine eI [] (by first|rfl|simp) ?_
  try simp only [QS,QC,Nat.reduceLT,reduceIte,Nat.reduceEqDiff,Nat.reduceAdd,Nat.reduceLeDiff,Nat.reduceMul,Nat.reduceBEq,wU]
 ·(repeat (first|simp only [↓QA,QB,Nat.reduceLT,reduceIte,Nat.reduceEqDiff,Nat.reduceAdd,Nat.reduceLeDiff,Nat.reduceMul,Nat.reduceBEq,wU,a111,h]|refine rd0 rfl ?_))
  refine eI [] (by first|rfl|simp) ?_
  try simp only [QS,QC,Nat.reduceLT,reduceIte,Nat.reduceEqDiff,Nat.reduceAdd,Nat.reduceLeDiff,Nat.reduceMul,Nat.reduceBEq,wU,Bool.false_and]
def UL (p:Nat):AV:=.func 111 [.ptr p 0] []
theorem CE (p:Nat):UL p = .func 111 [.ptr p 0] []:=by simp only [UL]
end Go.Am.Room
set_option maxRecDepth 8000
namespace Go.Am.Room
def lE:=And.intro @bD (And.intro @aK (And.intro @aU (And.intro @aV (And.intro @aT (And.intro @aR (And.intro @a9 (And.intro @aY (And.intro @aW (And.intro @dV (And.intro @dR (And.intro @Nat.not_lt_zero (And.intro @List.length_append.{0} (And.intro @Nat.zero_add (And.intro @Nat.mul_one (And.intro @Int.toNat_natCast (And.intro @dO (And.intro @eO (And.intro @eN (And.intro @jF (And.intro @eT (And.intro @gC (And.intro @gA (And.intro @gE (And.intro @gB (And.intro @f9 (And.intro @gD (And.intro @Nat.add_lt_add_iff_left (And.intro @Nat.lt_add_right_iff_pos (And.intro @mY (@m5))))))))))))))))))))))))))))))
theorem zO {X:Type} {S:X→List K5→St} {v:Net} {b p m N:Nat} {bl:List Int} (hS:∀ x,MemAt (S x) (db v b m) (tEs v) p m N) (hK:∀ x A y B k i,N≤k→i<N→eB (S x A) (S y B) k i) (hpl:p<N) (hv:Vd v) (hb:ButIs b bl) (U UD:X→St) (n:Nat) (hU:∀ x,(U x).length=n) (hUD:∀ x,(UD x).length=n) (ok:∀ x y,y∈U x→∀ k,N≤k→aN k y) (okD:∀ x y,y∈UD x→∀ k,N≤k→aN k y)
  (J:AJump) {f:List Int→X→X×Bool} (e:Env) (k:Nat) (ps:List Nat) (a bb:ACode) (ek:Env.get e k = .func 106 [] [.ptr (N+n) 0])
  (hy:tF (fun x B=>S x B++(U x++[.cells [.ptr p 0],.loop .ready none e ps a bb])) (fun x B=>S x B++(UD x++[.cells [.ptr p 0],.loop .done (some J) e ps a bb])) (N+n+1) (nQ v) (TOk v bl) f)
  (x:X) (A:List K5) (K:KJ)
  (hT:∀ τ,(bL f (TL v bl) x).2=true→K none e (S (bL f (TL v bl) x).1 (eR v bl f x A).1.2++(U (bL f (TL v bl) x).1++(.cells [.ptr p 0]::.dead::τ))))
  (hD:∀ τ,(bL f (TL v bl) x).2=false→K (some J) e (S (bL f (TL v bl) x).1 (eR v bl f x A).1.2++(UD (bL f (TL v bl) x).1++(.cells [.ptr p 0]::.dead::τ)))) :
  rK (K:=⟨K⟩) T (.rangeFunc (.t k) ps a bb) e (S x A++(U x++[.cells [.ptr p 0]])):=by
 have hrun:=wB (OU hS hK hpl U UD n hU hUD ok okD e ps a bb .ready .done none (some J)) hv hb hy (fun c h1 h2=>⟨h1,h2⟩) x A
 rw [sE] at hrun
 exact KT hS U UD n hU hUD J e k ps a bb 106 ek (bL f (TL v bl) x) (eR v bl f x A).1.2 x A hrun K hT hD
def pE (p:Nat) (x:B64):St:=[.cells [.ptr p 0],.cells [.int .i64 (x.1.1:Nat)],.cells [.int .i64 (x.1.2:Nat)],.cells [UL p]]
theorem AH {S:List K5→St} {v:Net} {b p m N:Nat} (hR:MemAt S (db v b m) (tEs v) p m N) (hv:Vd v) (c:List Int) (x:B64) (B:List K5) (lp:ABlk) (τ:St) (e:Env) (G:Option AJump→St→Prop)
  (e1:Env.get e 1 = .ptr N 0) (e2:Env.get e 2 = .ptr (N+1) 0) (e3:Env.get e 3 = .ptr (N+2) 0) (e4:Env.get e 4 = .ptr (N+3) 0) (e6:Env.get e 6 = .ptr (N+(τ.length+1+1+1+1+1+1)) 0) (R:B64×Bool) (hRr:mU (fT v) v.trams.length c x=R) :
  wp T M0 e (S B++(pE p x++(.cells [.ptr p 0]::lp::(τ++[.cells (bF 3 (bS (cV v c)))])))) (fun j e'' σ''=>(R.2=true∧j=none∧∃ τ',σ''=S B++(pE p R.1++(.cells [.ptr p 0]::lp::(τ++τ'))))∨G j σ''):=by
 have hnt:=hv.ntr
 have hR1:R.1.1=dH (fT v c) v.trams.length x.1:=by rw [←hRr,uW (fT v) (by omega)]
 have hR2:R.2=true:=by rw [←hRr];exact xQ _ _ _ _
 have hpl:=hR.pl
 have hta:∀ (b0 b1 b2 b3 b4 b5:ABlk),aH (S B++(b0::b1::b2::b3::b4::b5::(τ++[.cells (bF 3 (bS (cV v c)))]))) (N+(τ.length+1+1+1+1+1+1))=some (bF 3 (bS (cV v c))):=fun b0 b1 b2 b3 b4 b5=>by
  rw [hR.base]
  simp only [o0]
  rw [iB];rfl
 have hlt:=fun k hk=>nT (fT v c) (n:=6) x.2 k hk
 simp only [pE,hR1,CE]
 (repeat (first|simp only [↓QA,QB,Nat.reduceLT,reduceIte,Nat.reduceEqDiff,Nat.reduceAdd,Nat.reduceLeDiff,Nat.reduceMul,Nat.reduceBEq,lE,hR.len,hR.base,hR.base0,hR.bset,hR.bset0,hR.at1,hR.at0,M0,e1]|refine rd0 rfl ?_))
 refine dF (S:=Nat) 0 (fun k=>k≤v.trams.length) (fun k=>v.trams.length-k)
  (fun k=>[(2,.ptr (N+1) 0),(3,.ptr (N+2) 0),(4,.ptr (N+3) 0),(6,.ptr (N+(τ.length+1+1+1+1+1+1)) 0),(27,.int .i64 v.trams.length),(28,.int .i64 k)])
  (fun k=>S B++(.cells [.ptr p 0]::.cells [.int .i64 ((dH (fT v c) k x.1).1:Nat)]::.cells [.int .i64 ((dH (fT v c) k x.1).2:Nat)]::.cells [.func 111 [.ptr p 0] []]::.cells [.ptr p 0]::lp::(τ++[.cells (bF 3 (bS (cV v c)))]))) (Nat.zero_le _) rfl ?_ fun k hk=>?_
 ·try simp only [aD,QE,Nat.reduceLT,reduceIte,Nat.reduceEqDiff,Nat.reduceAdd,Nat.reduceLeDiff,Nat.reduceMul,Nat.reduceBEq,lE,hR.len,hR.base,hR.base0,hR.bset,hR.bset0,hR.at1,hR.at0,e2,e3,e4,e6]
  try simp
 ·(repeat (first|simp only [↓QA,QB,Nat.reduceLT,reduceIte,Nat.reduceEqDiff,Nat.reduceAdd,Nat.reduceLeDiff,Nat.reduceMul,Nat.reduceBEq,lE,hR.len,hR.base,hR.base0,hR.bset,hR.bset0,hR.at1,hR.at0,UV]|refine rd0 rfl ?_))
  refine aI (fun hd=>?_) fun hd=>?_
  ·have hk1:k<v.trams.length:=by simpa using hd
   have hw:=cR hk1 (by omega)
   have hst:dH (fT v c) (k+1) x.1=if fT v c k=true then (zP (dH (fT v c) k x.1).1 (2^k),(dH (fT v c) k x.1).2) else ((dH (fT v c) k x.1).1,(dH (fT v c) k x.1).2|||2^k):=rfl
   obtain ⟨l1,l2⟩:=hlt k (by omega)
   obtain ⟨⟨Y1,Y2⟩,hY⟩:∃ Y,dH (fT v c) k x.1=Y:=⟨_,rfl⟩
   rw [hY] at hst l1 l2
   simp only at hst l1 l2
   have hp2:=iW (show k≤60 by omega)
   have hsh:=sI k (by omega)
   have hor:=ZU Y2 (2^k) (by omega) (by omega)
   have han:=FU Y1 (2^k) (by omega) (by omega)
   have i3:(0:Int)≤(k:Int)∧(k:Int)<((3:Nat):Int):=⟨by omega,by omega⟩
   have hg:=iE 3 (bS (cV v c)) (i:=k) (by omega)
   have hin:=fun σ (hσ:aH σ p=some (db v b m))=>DH v b m p σ hσ k hk1 (bS (cV v c) k)
   have hfe:jI v k (bS (cV v c) k)=fT v c k:=rfl
   rw [hY]
   (repeat (first|simp only [↓QA,QB,Nat.reduceLT,reduceIte,Nat.reduceEqDiff,Nat.reduceAdd,Nat.reduceLeDiff,Nat.reduceMul,Nat.reduceBEq,lE,hR.len,hR.base,hR.base0,hR.bset,hR.bset0,hR.at1,hR.at0,hta,i3,hg]|refine rd0 rfl ?_))
   refine y9 (hin _ (hR.at1 _ _)) ?_
   rw [hfe]
   cases hf:fT v c k
   ·rw [hf] at hst
    simp only [Bool.false_eq_true,if_false] at hst
    (repeat (first|simp only [↓QA,QB,Nat.reduceLT,reduceIte,Nat.reduceEqDiff,Nat.reduceAdd,Nat.reduceLeDiff,Nat.reduceMul,Nat.reduceBEq,lE,hR.len,hR.base,hR.base0,hR.bset,hR.bset0,hR.at1,hR.at0,hta,i3,hg,hsh,hor]|refine rd0 rfl ?_))
    refine ⟨k+1,by omega,by omega,?_⟩
    rw [hst]
    try simp only [aD,QE,Nat.reduceLT,reduceIte,Nat.reduceEqDiff,Nat.reduceAdd,Nat.reduceLeDiff,Nat.reduceMul,Nat.reduceBEq,lE,hR.len,hR.base,hR.base0,hR.bset,hR.bset0,hR.at1,hR.at0,hw,hR.eqS]
    try simp [aN,okVs,okV]
    try omega
   ·rw [hf] at hst
    simp only [if_true] at hst
    (repeat (first|simp only [↓QA,QB,Nat.reduceLT,reduceIte,Nat.reduceEqDiff,Nat.reduceAdd,Nat.reduceLeDiff,Nat.reduceMul,Nat.reduceBEq,lE,hR.len,hR.base,hR.base0,hR.bset,hR.bset0,hR.at1,hR.at0,hta,i3,hg,hsh,han]|refine rd0 rfl ?_))
    refine ⟨k+1,by omega,by omega,?_⟩
    rw [hst]
    try simp only [aD,QE,Nat.reduceLT,reduceIte,Nat.reduceEqDiff,Nat.reduceAdd,Nat.reduceLeDiff,Nat.reduceMul,Nat.reduceBEq,lE,hR.len,hR.base,hR.base0,hR.bset,hR.bset0,hR.at1,hR.at0,hw,hR.eqS]
    try simp [aN,okVs,okV]
    try omega
  ·have hk1:k=v.trams.length:=by
    have:¬k<v.trams.length:=by simpa using hd
    omega
   rw [hk1]
   (repeat (first|simp only [↓QA,QB,Nat.reduceLT,reduceIte,Nat.reduceEqDiff,Nat.reduceAdd,Nat.reduceLeDiff,Nat.reduceMul,Nat.reduceBEq,lE,hR.len,hR.base,hR.base0,hR.bset,hR.bset0,hR.at1,hR.at0]|refine rd0 rfl ?_))
   exact .inl ⟨hR2,[.cells (bF 3 (bS (cV v c)))],rfl⟩
end Go.Am.Room
set_option maxRecDepth 8000
namespace Go.Am.Room
def oP:=And.intro @bD (And.intro @aK (And.intro @aU (And.intro @aV (And.intro @aT (And.intro @aR (And.intro @a9 (And.intro @aY (And.intro @aW (And.intro @dV (And.intro @dR (And.intro @Nat.not_lt_zero (And.intro @List.length_append.{0} (And.intro @Nat.zero_add (And.intro @Nat.mul_one (And.intro @Int.toNat_natCast (And.intro @dO (And.intro @eO (And.intro @eN (And.intro @jF (And.intro @eT (And.intro @gC (And.intro @gA (And.intro @gE (And.intro @gB (And.intro @f9 (And.intro @gD (And.intro @Nat.add_lt_add_iff_left (And.intro @Nat.lt_add_right_iff_pos (And.intro @mY (@m5))))))))))))))))))))))))))))))
def AX (v:Net) (h:v.trams.length≤6):B64:=kZ (fT v) v.trams.length (TL v []) (jS _ h)
def D8 (v:Net) (h:v.trams.length≤6) (A:List K5):List K5:=(eR v [] (mU (fT v) v.trams.length) (jS _ h) A).1.2
theorem AB {A:Type} (fine:A→Nat→Bool) (n:Nat) (l:List A) (x:B64):bL (mU fine n) l x=(kZ fine n l x,true):=xP (xQ fine n) l x
theorem AS {S:List K5→St} {v:Net} {b p m N:Nat} (hR:MemAt S (db v b m) (tEs v) p m N) (hv:Vd v) (hb:ButIs b []) (h6:v.trams.length≤6) (A:List K5) :
  yV T (.func 84 [] []) [.ptr p 0] (S A) (.tuple [.int .i64 ((AX v h6).1.1:Nat),.int .i64 ((AX v h6).1.2:Nat)]) (S (D8 v h6 A)):=by
 have hit:=AB (fT v) v.trams.length (TL v []) (jS _ h6)
 obtain ⟨Y,hY⟩:∃ Y,kZ (fT v) v.trams.length (TL v []) (jS _ h6)=Y:=⟨_,rfl⟩
 have hl:AX v h6=Y:=hY
 rw [hY] at hit
 rw [hl]
 have hsh:=sI v.trams.length (by omega)
 have hp2:=iW (show v.trams.length≤60 by omega)
 have hw:IntKind.i64.wrap (((2^v.trams.length:Nat):Int)-1)=((2^v.trams.length-1:Nat):Int):=by
  have:=Nat.two_pow_pos v.trams.length
  rw [dU ⟨by omega,by omega⟩];omega
 have hok:∀ (x:B64) (y:ABlk),y∈pE p x→∀ k,N≤k→aN k y:=by
  intro x y hy k hk
  have hpl:=hR.pl
  simp only [pE,List.mem_cons,List.not_mem_nil,or_false] at hy
  rcases hy with rfl|rfl|rfl|rfl<;>simp [aN,okVs,okV,UL]<;>omega
 refine uU hR (af:=a84) rfl (by simp [a84]) ?_
 have hrg:=lI hR hv hb (pE p) (pE p) 4 (fun _=>rfl) (fun _=>rfl) hok hok .ret (f:=mU (fT v) v.trams.length)
 (repeat (first|simp only [↓QA,QB,Nat.reduceLT,reduceIte,Nat.reduceEqDiff,Nat.reduceAdd,Nat.reduceLeDiff,Nat.reduceMul,Nat.reduceBEq,oP,hR.len,hR.base,hR.base0,hR.bset,hR.bset0,hR.at1,hR.at0,a84,hsh,hw]|refine rd0 rfl ?_))
 refine qW rfl (by simp [a80]) ?_
 (repeat (first|simp only [↓QA,QB,Nat.reduceLT,reduceIte,Nat.reduceEqDiff,Nat.reduceAdd,Nat.reduceLeDiff,Nat.reduceMul,Nat.reduceBEq,oP,hR.len,hR.base,hR.base0,hR.bset,hR.bset0,hR.at1,hR.at0,a80]|refine rd0 rfl ?_))
 refine hrg _ 19 [20,21] _ _ ?_ ?_ (jS _ h6) A _ ?_ ?_
 ·try simp only [aD,QE,Nat.reduceLT,reduceIte,Nat.reduceEqDiff,Nat.reduceAdd,Nat.reduceLeDiff,Nat.reduceMul,Nat.reduceBEq,oP,hR.len,hR.base,hR.base0,hR.bset,hR.bset0,hR.at1,hR.at0]
 ·refine mS (S:=fun _=>S) (fun _=>hR) (pE p) (pE p) 4 (fun _=>rfl) (fun _=>rfl) .ret _ _ (nQ v) (fun _ _ _=>rfl) _ _ ?_
  intro c _ fl tk x B τ
  simp only [jN,nQ]
  obtain ⟨R,hRr⟩:∃ R,mU (fT v) v.trams.length c x=R:=⟨_,rfl⟩
  rw [hRr]
  have lb:=fun lp e G=>AH hR hv c x B lp τ e G
  simp only [pE,CE] at lb ⊢
  (repeat (first|simp only [↓QA,QB,Nat.reduceLT,reduceIte,Nat.reduceEqDiff,Nat.reduceAdd,Nat.reduceLeDiff,Nat.reduceMul,Nat.reduceBEq,oP,hR.len,hR.base,hR.base0,hR.bset,hR.bset0,hR.at1,hR.at0]|refine rd0 rfl ?_))
  refine ⟨[.cells (bF 3 (bS (cV v c)))],by simp,?_⟩
  simp only [←CE]
  refine AH hR hv c x B _ τ _ _ ?_ ?_ ?_ ?_ ?_ R hRr
  all_goals try simp only [aD,QE,Nat.reduceLT,reduceIte,Nat.reduceEqDiff,Nat.reduceAdd,Nat.reduceLeDiff,Nat.reduceMul,Nat.reduceBEq,oP,hR.len,hR.base,hR.base0,hR.bset,hR.bset0,hR.at1,hR.at0]
 ·intro τ h2
  rw [hit]
  simp only [pE]
  (repeat (first|simp only [↓QA,QB,Nat.reduceLT,reduceIte,Nat.reduceEqDiff,Nat.reduceAdd,Nat.reduceLeDiff,Nat.reduceMul,Nat.reduceBEq,oP,hR.len,hR.base,hR.base0,hR.bset,hR.bset0,hR.at1,hR.at0]|refine rd0 rfl ?_))
  refine ⟨_,_,rfl,rfl,?_⟩
  try simp only [QS,QC,Nat.reduceLT,reduceIte,Nat.reduceEqDiff,Nat.reduceAdd,Nat.reduceLeDiff,Nat.reduceMul,Nat.reduceBEq,oP,hR.len,hR.base,hR.base0,hR.bset,hR.bset0,hR.at1,hR.at0]
 ·intro τ h2
  rw [hit] at h2
  cases h2
end Go.Am.Room
set_option maxRecDepth 8000
namespace Go.Am.Room
def dE:=And.intro @bD (And.intro @aK (And.intro @aU (And.intro @aV (And.intro @aT (And.intro @aR (And.intro @a9 (And.intro @aY (And.intro @aW (And.intro @dV (And.intro @dR (And.intro @Nat.not_lt_zero (And.intro @List.length_append.{0} (And.intro @Nat.zero_add (And.intro @Nat.mul_one (And.intro @Int.toNat_natCast (And.intro @Nat.add_lt_add_iff_left (@Nat.lt_add_right_iff_pos)))))))))))))))))
theorem F4 (v:Net) (hf:Fits v):d6 T 25 [dK v] (pK (vJ v)):=by
 refine aZ (af:=a25) rfl (by simp [a25]) dd ?_
 have her:=fun σ=>rE σ v [] (.inl rfl) hf
 simp only [List.map_nil,kX,oY,kN] at her
 (repeat (first|simp only [↓QA,QB,Nat.reduceLT,reduceIte,Nat.reduceEqDiff,Nat.reduceAdd,Nat.reduceLeDiff,Nat.reduceMul,Nat.reduceBEq,dE,a25]|refine rd0 rfl ?_))
 refine cT (her _) ?_
 by_cases h0:fE v=0
 ·obtain ⟨hv,hne⟩:=rH h0
  have hnt:=hv.ntr
  have h6:v.trams.length≤6:=by omega
  obtain ⟨hl1,hl2⟩:=DP hv h6
  have hld:=AS (xK [.cells (aB v)] v) hv KR h6 (nZ v)
  have hlt:=(AX v h6).2
  obtain ⟨⟨⟨P,Q⟩,hPQ⟩,hY⟩:∃ Y,AX v h6=Y:=⟨_,rfl⟩
  have hYl:kZ (fT v) v.trams.length (TL v []) (jS _ h6)=⟨(P,Q),hPQ⟩:=hY
  rw [hYl] at hl1 hl2
  rw [hY] at hld
  simp only at hl1 hl2 hld hPQ
  have hm:vJ v=(lst v.trams.length P,lst v.trams.length Q,0):=by rw [vJ,if_pos h0,hl1,hl2]
  have hlo1:=rS P v.trams.length (by omega) (by omega)
  have hlo2:=rS Q v.trams.length (by omega) (by omega)
  rw [if_pos h0,if_pos h0,hm]
  simp only [jR] at hld ⊢
  try simp only [↓QA,QB,Nat.reduceLT,reduceIte,Nat.reduceEqDiff,Nat.reduceAdd,Nat.reduceLeDiff,Nat.reduceMul,Nat.reduceBEq,dE] at hld
  (repeat (first|simp only [↓QA,QB,Nat.reduceLT,reduceIte,Nat.reduceEqDiff,Nat.reduceAdd,Nat.reduceLeDiff,Nat.reduceMul,Nat.reduceBEq,dE,show ((0:Int)==0)=true from rfl]|refine rd0 rfl ?_))
  refine cT hld ?_
  (repeat (first|simp only [↓QA,QB,Nat.reduceLT,reduceIte,Nat.reduceEqDiff,Nat.reduceAdd,Nat.reduceLeDiff,Nat.reduceMul,Nat.reduceBEq,dE]|refine rd0 rfl ?_))
  ((first|refine aF (hlo1) rfl dd ?_|refine aG (hlo1) rfl dd ?_);(repeat (first|simp only [↓QA,QB,Nat.reduceLT,reduceIte,Nat.reduceEqDiff,Nat.reduceAdd,Nat.reduceLeDiff,Nat.reduceMul,Nat.reduceBEq,dE]|refine rd0 rfl ?_)))
  ((first|refine aF (hlo2) rfl dd ?_|refine aG (hlo2) rfl dd ?_);(repeat (first|simp only [↓QA,QB,Nat.reduceLT,reduceIte,Nat.reduceEqDiff,Nat.reduceAdd,Nat.reduceLeDiff,Nat.reduceMul,Nat.reduceBEq,dE,pK]|refine rd0 rfl ?_)))
 ·have h0':(fE v==0)=false:=by simpa using h0
  have hm:vJ v=([],[],fE v):=by rw [vJ,if_neg h0]
  rw [if_neg h0,if_neg h0,hm]
  (repeat (first|simp only [↓QA,QB,Nat.reduceLT,reduceIte,Nat.reduceEqDiff,Nat.reduceAdd,Nat.reduceLeDiff,Nat.reduceMul,Nat.reduceBEq,dE,h0',pK]|refine rd0 rfl ?_))
  try rfl
theorem lP (v:Net) (hf:Fits v):d6 T 28 [dK v] (xU (lG v)):=by
 refine aZ (af:=a28) rfl (by simp [a28]) dd ?_
 have her:=fun σ=>rE σ v [] (.inl rfl) hf
 simp only [List.map_nil,kX,oY,kN] at her
 (repeat (first|simp only [↓QA,QB,Nat.reduceLT,reduceIte,Nat.reduceEqDiff,Nat.reduceAdd,Nat.reduceLeDiff,Nat.reduceMul,Nat.reduceBEq,dE,a28]|refine rd0 rfl ?_))
 refine cT (her _) ?_
 by_cases h0:fE v=0
 ·obtain ⟨hv,hne⟩:=rH h0
  have hnt:=hv.ntr
  have h6:v.trams.length≤6:=by omega
  obtain ⟨hl1,hl2⟩:=DP hv h6
  have hld:=AS (xK [.cells (aB v)] v) hv KR h6 (nZ v)
  obtain ⟨⟨⟨P,Q⟩,hPQ⟩,hY⟩:∃ Y,AX v h6=Y:=⟨_,rfl⟩
  have hYl:kZ (fT v) v.trams.length (TL v []) (jS _ h6)=⟨(P,Q),hPQ⟩:=hY
  rw [hYl] at hl1 hl2
  rw [hY] at hld
  simp only at hl1 hl2 hld hPQ
  have hin:=RK (v:=v) (l:=bY v [])
  have hml:=N7 v (bY v [])
  have hlo2:=rS Q v.trams.length (by omega) (by omega)
  rw [hl2] at hlo2
  obtain ⟨M,hM⟩:∃ M,DY v (bY v [])=M:=⟨_,rfl⟩
  have hfo:lG v=if M=[] then (0,9) else (iL v M (-1),0):=by rw [lG,if_pos h0,hM]
  rw [hM] at hlo2 hml
  simp only [hM] at hin
  obtain ⟨Z,hZ⟩:∃ Z,iL v M (-1)=Z:=⟨_,rfl⟩
  have hZM:(Z<0↔M=[]):=by
   have key:∀ (l:List Int) (b:Int),(∀ t∈l,0≤t)→(iL v l b<0↔b<0∧l=[]):=by
    intro l
    induction l with
    |nil=>intro b _;simp [iL]
    |cons t l ih =>
     intro b h
     have ht:=h t (by simp)
     rw [iL,ih _ fun x hx=>h x (by simp [hx])]
     split<;>simp_all<;>omega
   rw [←hZ,key M (-1) fun t ht=>(hin t ht).1]
   simp
  have hfo2:lG v=if Z<0 then (0,9) else (Z,0):=by
   rw [hfo,hZ]
   by_cases h:M=[]
   ·rw [if_pos h,if_pos (hZM.2 h)]
   ·rw [if_neg h,if_neg fun q=>h (hZM.1 q)]
  rw [if_pos h0,if_pos h0,hfo2]
  simp only [jR] at hld ⊢
  try simp only [↓QA,QB,Nat.reduceLT,reduceIte,Nat.reduceEqDiff,Nat.reduceAdd,Nat.reduceLeDiff,Nat.reduceMul,Nat.reduceBEq,dE] at hld
  (repeat (first|simp only [↓QA,QB,Nat.reduceLT,reduceIte,Nat.reduceEqDiff,Nat.reduceAdd,Nat.reduceLeDiff,Nat.reduceMul,Nat.reduceBEq,dE,show ((0:Int)==0)=true from rfl]|refine rd0 rfl ?_))
  refine cT hld ?_
  (repeat (first|simp only [↓QA,QB,Nat.reduceLT,reduceIte,Nat.reduceEqDiff,Nat.reduceAdd,Nat.reduceLeDiff,Nat.reduceMul,Nat.reduceBEq,dE]|refine rd0 rfl ?_))
  ((first|refine aF (hlo2) rfl dd ?_|refine aG (hlo2) rfl dd ?_);(repeat (first|simp only [↓QA,QB,Nat.reduceLT,reduceIte,Nat.reduceEqDiff,Nat.reduceAdd,Nat.reduceLeDiff,Nat.reduceMul,Nat.reduceBEq,dE]|refine rd0 rfl ?_)))
  refine dF (S:=Nat×Int) (0,-1) (fun a=>a.1≤M.length∧a.2<v.trams.length∧iL v (M.drop a.1) a.2=Z) (fun a=>M.length-a.1)
   (fun a=>[(1,.ptr 0 0),(8,.int .i64 a.2),(28,ints M),(29,.int .i64 M.length),(30,.int .i64 a.1)]) (fun a=>[.cells (aB v),.cells (aB v),.cells (aB v),.map (tEs v (D8 v h6 (nZ v))),.cells (db v 0 3)]) ⟨Nat.zero_le _,by simp only;omega,hZ⟩ (by simp [aB,ints]) ?_ fun a ha=>?_
  ·try simp only [aD,QE,Nat.reduceLT,reduceIte,Nat.reduceEqDiff,Nat.reduceAdd,Nat.reduceLeDiff,Nat.reduceMul,Nat.reduceBEq,dE,ints]
   try simp
  ·obtain ⟨k,b⟩:=a
   obtain ⟨hk,hb,hgo⟩:=ha
   simp only at hk hb hgo
   (repeat (first|simp only [↓QA,QB,Nat.reduceLT,reduceIte,Nat.reduceEqDiff,Nat.reduceAdd,Nat.reduceLeDiff,Nat.reduceMul,Nat.reduceBEq,dE,WA]|refine rd0 rfl ?_))
   refine aI (fun h2=>?_) fun h2=>?_
   ·have hk1:k<M.length:=by simpa using h2
    have hw:=cR hk1 (by omega)
    have hx:=hin _ (List.getElem_mem hk1)
    rw [B6 hk1] at hgo
    obtain ⟨x,hxe⟩:∃ x:Nat,M[k]=(x:Int):=⟨M[k].toNat,by omega⟩
    rw [hxe] at hx hgo
    have hx1:x<v.trams.length:=by omega
    (repeat (first|simp only [↓QA,QB,Nat.reduceLT,reduceIte,Nat.reduceEqDiff,Nat.reduceAdd,Nat.reduceLeDiff,Nat.reduceMul,Nat.reduceBEq,dE,hk1,hxe]|refine rd0 rfl ?_))
    cases hbn:decide (b<0)
    ·have hbn':¬b<0:=by simpa using hbn
     obtain ⟨B,rfl⟩:∃ B:Nat,b=(B:Int):=⟨b.toNat,by omega⟩
     have hB1:B<v.trams.length:=by omega
     rw [Int.toNat_natCast,Int.toNat_natCast,PJ hx1,PJ hB1] at hgo
     obtain ⟨zx,hzx⟩:∃ z,v.trams[x]=z:=⟨_,rfl⟩
     obtain ⟨zb,hzb⟩:∃ z,v.trams[B]=z:=⟨_,rfl⟩
     rw [hzx,hzb] at hgo
     cases q:decide (zx.due<zb.due)
     ·have q':¬zx.due<zb.due:=by simpa using q
      rw [if_neg (by omega)] at hgo
      (repeat (first|simp only [↓QA,QB,Nat.reduceLT,reduceIte,Nat.reduceEqDiff,Nat.reduceAdd,Nat.reduceLeDiff,Nat.reduceMul,Nat.reduceBEq,dE,hbn,hx1,hB1,hzx,hzb,q,hw]|refine rd0 rfl ?_))
      refine ⟨(k+1,(B:Int)),⟨by simp only;omega,by simp only;omega,hgo⟩,by simp only;omega,?_⟩
      try simp only [aD,QE,Nat.reduceLT,reduceIte,Nat.reduceEqDiff,Nat.reduceAdd,Nat.reduceLeDiff,Nat.reduceMul,Nat.reduceBEq,dE,hw,ints]
      try simp [aN]
     ·have q':zx.due<zb.due:=by simpa using q
      rw [if_pos (.inr q')] at hgo
      (repeat (first|simp only [↓QA,QB,Nat.reduceLT,reduceIte,Nat.reduceEqDiff,Nat.reduceAdd,Nat.reduceLeDiff,Nat.reduceMul,Nat.reduceBEq,dE,hbn,hx1,hB1,hzx,hzb,q,hw]|refine rd0 rfl ?_))
      refine ⟨(k+1,(x:Int)),⟨by simp only;omega,by simp only;omega,hgo⟩,by simp only;omega,?_⟩
      try simp only [aD,QE,Nat.reduceLT,reduceIte,Nat.reduceEqDiff,Nat.reduceAdd,Nat.reduceLeDiff,Nat.reduceMul,Nat.reduceBEq,dE,hw,ints]
      try simp [aN]
    ·have hbn':b<0:=by simpa using hbn
     rw [if_pos (.inl hbn')] at hgo
     (repeat (first|simp only [↓QA,QB,Nat.reduceLT,reduceIte,Nat.reduceEqDiff,Nat.reduceAdd,Nat.reduceLeDiff,Nat.reduceMul,Nat.reduceBEq,dE,hbn,hw]|refine rd0 rfl ?_))
     refine ⟨(k+1,(x:Int)),⟨by simp only;omega,by simp only;omega,hgo⟩,by simp only;omega,?_⟩
     try simp only [aD,QE,Nat.reduceLT,reduceIte,Nat.reduceEqDiff,Nat.reduceAdd,Nat.reduceLeDiff,Nat.reduceMul,Nat.reduceBEq,dE,hw,ints]
     try simp [aN]
   ·have hk1:k=M.length:=by simp at h2;omega
    rw [hk1,List.drop_length,iL] at hgo
    subst hgo
    cases q:decide (b<0)
    ·have q':¬b<0:=by simpa using q
     rw [if_neg q']
     (repeat (first|simp only [↓QA,QB,Nat.reduceLT,reduceIte,Nat.reduceEqDiff,Nat.reduceAdd,Nat.reduceLeDiff,Nat.reduceMul,Nat.reduceBEq,dE,q,xU]|refine rd0 rfl ?_))
     try try simp only [QS,QC,Nat.reduceLT,reduceIte,Nat.reduceEqDiff,Nat.reduceAdd,Nat.reduceLeDiff,Nat.reduceMul,Nat.reduceBEq,dE]
    ·have q':b<0:=by simpa using q
     rw [if_pos q']
     (repeat (first|simp only [↓QA,QB,Nat.reduceLT,reduceIte,Nat.reduceEqDiff,Nat.reduceAdd,Nat.reduceLeDiff,Nat.reduceMul,Nat.reduceBEq,dE,q,xU]|refine rd0 rfl ?_))
     try try simp only [QS,QC,Nat.reduceLT,reduceIte,Nat.reduceEqDiff,Nat.reduceAdd,Nat.reduceLeDiff,Nat.reduceMul,Nat.reduceBEq,dE]
 ·have h0':(fE v==0)=false:=by simpa using h0
  have hm:lG v=(0,fE v):=by rw [lG,if_neg h0]
  rw [if_neg h0,if_neg h0,hm]
  (repeat (first|simp only [↓QA,QB,Nat.reduceLT,reduceIte,Nat.reduceEqDiff,Nat.reduceAdd,Nat.reduceLeDiff,Nat.reduceMul,Nat.reduceBEq,dE,h0',xU]|refine rd0 rfl ?_))
  try rfl
end Go.Am.Room
set_option maxRecDepth 8000
namespace Go.Am.Room
def gH:=And.intro @bD (And.intro @aK (And.intro @aU (And.intro @aV (And.intro @aT (And.intro @aR (And.intro @a9 (And.intro @aY (And.intro @aW (And.intro @dV (And.intro @dR (And.intro @Nat.not_lt_zero (And.intro @List.length_append.{0} (And.intro @Nat.zero_add (And.intro @Nat.mul_one (And.intro @Int.toNat_natCast (And.intro @Nat.add_lt_add_iff_left (And.intro @Nat.lt_add_right_iff_pos (And.intro @dO (And.intro @eO (And.intro @eN (And.intro @jF (@eT))))))))))))))))))))))
theorem vD (σ:St) (v:Net) (ns:List Int) (hns:ns=[]∨∃ t,ns=[t,(v.trams.length:Int)]) (hf:Fits v) (h:tY v ns=0):yV T (.func 79 [] []) [dK v,.lit (ns.map (.int .i64)) true none] σ (.tuple [.ptr (σ.length+3) 0,.int .i64 0]) (jR σ v (nZ v)):=by
 have:=rE σ v ns hns hf
 rwa [kX,if_pos h,oY,if_pos h] at this
theorem yP (σ:St) (v:Net) (ns:List Int) (hns:ns=[]∨∃ t,ns=[t,(v.trams.length:Int)]) (hf:Fits v) (h:tY v ns≠0):yV T (.func 79 [] []) [dK v,.lit (ns.map (.int .i64)) true none] σ (.tuple [.nilPtr,.int .i64 (tY v ns)]) σ:=by
 have:=rE σ v ns hns hf
 rwa [kX,if_neg h,oY,if_neg h] at this
abbrev Com:=Span×Bool×Bool
def cU (x:Com):St:=[.cells [.bool x.2.1],.cells [.bool x.2.2]]
theorem VM (N:Nat) (x:Com) (y:ABlk) (hy:y∈cU x) (k:Nat) (hk:N≤k):aN k y:=by
 simp only [cU,List.mem_cons,List.not_mem_nil,or_false] at hy
 rcases hy with rfl|rfl<;>simp [aN,okVs,okV]
def cS (v:Net) (t:Nat) (x:Com) (A:List K5):St:=jR [.cells (aB v),.cells [.int .i64 t],.cells [.int .i64 x.1.lo,.int .i64 x.1.hi]] v A
theorem VI (v:Net) (t:Nat) (x:Com):MemAt (cS v t x) (db v 0 5) (tEs v) 6 5 7:=xK [.cells (aB v),.cells [.int .i64 t],.cells [.int .i64 x.1.lo,.int .i64 x.1.hi]] v
theorem UN (v:Net) (t:Nat) (x:Com) (A:List K5) (y:Com) (B:List K5) (k i:Nat) (hk:7≤k) (hi:i<7):eB (cS v t x A) (cS v t y B) k i:=by
 match i,hi with
 |0,_=>exact .inl rfl
 |1,_=>exact .inl rfl
 |2,_=>exact .inr (.inl ⟨_,rfl,by simp [aN,okVs,okV]⟩)
 |3,_=>exact .inl rfl
 |4,_=>exact .inl rfl
 |5,_=>exact .inr (.inl ⟨_,rfl,pT v B k⟩)
 |6,_=>exact .inl rfl
def OZ (v:Net) (t:Nat) (c:List Int) (x:Com):Com×Bool:=(P5 (fI (cV v c) (t:Int)) x,true)
theorem lN (v:Net) (hf:Fits v) (n:Int):d6 T 23 [dK v,.int .i64 n] (pX (qJ v n)):=by
 refine aZ (af:=a23) rfl (by simp [a23]) dd ?_
 (repeat (first|simp only [↓QA,QB,Nat.reduceLT,reduceIte,Nat.reduceEqDiff,Nat.reduceAdd,Nat.reduceLeDiff,Nat.reduceMul,Nat.reduceBEq,gH,a23]|refine rd0 rfl ?_))
 by_cases h0:lC v n=0
 ·have hck:(cG v).2.2=0∧inR n 0 ((v.trams.length:Int)-1)=true∧bY v []≠[]:=by
   have h1:=h0
   by_cases q:(cG v).2.2=0
   ·cases q2:inR n 0 ((v.trams.length:Int)-1)
    ·simp [lC,g0,q,q2] at h1
    ·refine ⟨q,rfl,fun e=>?_⟩
     simp [lC,g0,q,q2,e] at h1
   ·simp [lC,g0,q] at h1
  obtain ⟨hc0,hin,hne⟩:=hck
  have hv:=gS hc0
  have hnt:=hv.ntr
  rw [cW] at hin
  obtain ⟨t,rfl⟩:∃ t:Nat,n=t:=⟨n.toNat,by omega⟩
  have htl:t<v.trams.length:=by omega
  have hmem:=GH (SG hv [] t)
  have hTne:z0 v (TL v []) t≠[]:=by
   intro e
   have:TL v []=[]:=by simpa [z0] using e
   have h2:=I7 hv []
   rw [this] at h2
   simp at h2
   exact hne h2
  have hst:=E8 hTne
  have hca:=SH (z0 v (TL v []) t)
  have hgo:=xP (f:=OZ v t) (fun _ _=>rfl) (TL v []) (⟨0,0⟩,false,false)
  have hfd:(TL v []).foldl (fun x c=>(OZ v t c x).1) (⟨0,0⟩,false,false)=(z0 v (TL v []) t).foldl (fun x a=>P5 a x) (⟨0,0⟩,false,false):=by
   rw [z0,List.foldl_map];rfl
  rw [hfd,hca] at hgo
  have hm:qJ v t=((oB (z0 v (TL v []) t)).1,(oB (z0 v (TL v []) t)).2,0):=by rw [qJ,if_pos h0,Int.toNat_natCast,hmem]
  obtain ⟨AT,hAT⟩:∃ AT,z0 v (TL v []) t=AT:=⟨_,rfl⟩
  rw [hAT] at hm hgo hst
  have hcs:oB AT=(fL (eG AT),eA (eG AT).length AT.length):=rfl
  rw [hcs,hst] at hm
  obtain ⟨SP,hSP⟩:∃ SP,fL (eG AT)=SP:=⟨_,rfl⟩
  obtain ⟨EM,hEM⟩:∃ EM,(eG AT).isEmpty=EM:=⟨_,rfl⟩
  obtain ⟨SY,hSY⟩:∃ SY,AT.contains (-1)=SY:=⟨_,rfl⟩
  rw [hSP,hEM,hSY] at hgo
  rw [hSP,hEM,hSY] at hm
  rw [hm]
  have her:=fun σ=>vD σ v [(t:Int),(v.trams.length:Int)] (.inr ⟨_,rfl⟩) hf h0
  simp only [List.map_nil,List.map_cons] at her
  have hrng:=zO (S:=cS v t) (VI v t) (UN v t) (by decide) hv KR cU cU 2 (fun _=>rfl) (fun _=>rfl) (VM _) (VM _) .ret (f:=OZ v t)
  simp only [cS,jR] at hrng her
  simp only [aK] at hrng her
  refine cT (her _) ?_
  (repeat (first|simp only [↓QA,QB,Nat.reduceLT,reduceIte,Nat.reduceEqDiff,Nat.reduceAdd,Nat.reduceLeDiff,Nat.reduceMul,Nat.reduceBEq,gH,show ((0:Int)==0)=true from rfl]|refine rd0 rfl ?_))
  refine qW rfl (by simp [a80]) ?_
  (repeat (first|simp only [↓QA,QB,Nat.reduceLT,reduceIte,Nat.reduceEqDiff,Nat.reduceAdd,Nat.reduceLeDiff,Nat.reduceMul,Nat.reduceBEq,gH,a80]|refine rd0 rfl ?_))
  refine hrng _ 28 [29,30] _ _ ?_ ?_ (⟨0,0⟩,false,false) (nZ v) _ ?_ ?_
  ·try simp only [aD,QE,Nat.reduceLT,reduceIte,Nat.reduceEqDiff,Nat.reduceAdd,Nat.reduceLeDiff,Nat.reduceMul,Nat.reduceBEq,gH]
  ·refine mS (VI v t) cU cU 2 (fun _=>rfl) (fun _=>rfl) .ret _ _ (nQ v) (fun _ _ _=>rfl) _ _ ?_
   intro c _ fl tk x B τ
   have i3:(0:Int)≤(t:Int)∧(t:Int)<((3:Nat):Int):=⟨by omega,by omega⟩
   have hg:=iE 3 (bS (cV v c)) (i:=t) (by omega)
   have hcf:bS (cV v c) t=fI (cV v c) (t:Int):=rfl
   rw [hcf] at hg
   have hta:∀ (b0 b1 b2 b3 b4 b5 b6 b7 b8 b9 b10:ABlk),aH (b0::b1::b2::b3::b4::b5::b6::b7::b8::b9::b10::(τ++[.cells (bF 3 (bS (cV v c)))])) (τ.length+1+1+1+1+1+1+1+1+1+1+1)=some (bF 3 (bS (cV v c))):=fun b0 b1 b2 b3 b4 b5 b6 b7 b8 b9 b10=>by
    simp only [o0]
    rw [iB];rfl
   obtain ⟨C,hC⟩:∃ C,fI (cV v c) (t:Int)=C:=⟨_,rfl⟩
   have hcy:OZ v t c x=(if C = -1 then (x.1,x.2.1,true) else if x.2.1=false then (⟨C,C⟩,true,x.2.2) else (j6 x.1 C,true,x.2.2),true):=by rw [OZ,hC];rfl
   rw [hC] at hg
   rw [hcy]
   obtain ⟨⟨lo,hi⟩,ru,sy⟩:=x
   simp only [jN,nQ,cS,jR,cU,aK]
   (repeat (first|simp only [↓QA,QB,Nat.reduceLT,reduceIte,Nat.reduceEqDiff,Nat.reduceAdd,Nat.reduceLeDiff,Nat.reduceMul,Nat.reduceBEq,gH]|refine rd0 rfl ?_))
   refine ⟨[.cells (bF 3 (bS (cV v c)))],by simp,?_⟩
   cases q1:(C==-1)
   ·have q1':C≠-1:=by simpa using q1
    rw [if_neg q1']
    cases ru
    ·(repeat (first|simp only [↓QA,QB,Nat.reduceLT,reduceIte,Nat.reduceEqDiff,Nat.reduceAdd,Nat.reduceLeDiff,Nat.reduceMul,Nat.reduceBEq,gH,JI,hta,i3,hg,q1]|refine rd0 rfl ?_))
     exact .inl ⟨[.cells (bF 3 (bS (cV v c)))],by simp⟩
    ·(repeat (first|simp only [↓QA,QB,Nat.reduceLT,reduceIte,Nat.reduceEqDiff,Nat.reduceAdd,Nat.reduceLeDiff,Nat.reduceMul,Nat.reduceBEq,gH,JI,hta,i3,hg,q1]|refine rd0 rfl ?_))
     exact .inl ⟨[.cells (bF 3 (bS (cV v c)))],by simp [j6]⟩
   ·have q1':C = -1:=by simpa using q1
    rw [if_pos q1']
    (repeat (first|simp only [↓QA,QB,Nat.reduceLT,reduceIte,Nat.reduceEqDiff,Nat.reduceAdd,Nat.reduceLeDiff,Nat.reduceMul,Nat.reduceBEq,gH,JI,hta,i3,hg,q1]|refine rd0 rfl ?_))
    exact .inl ⟨[.cells (bF 3 (bS (cV v c)))],by simp⟩
  ·intro τ h2
   rw [hgo]
   simp only [cU,cS,jR,aK]
   cases SY
   ·(repeat (first|simp only [↓QA,QB,Nat.reduceLT,reduceIte,Nat.reduceEqDiff,Nat.reduceAdd,Nat.reduceLeDiff,Nat.reduceMul,Nat.reduceBEq,gH,pX]|refine rd0 rfl ?_))
    try try simp only [QS,QC,Nat.reduceLT,reduceIte,Nat.reduceEqDiff,Nat.reduceAdd,Nat.reduceLeDiff,Nat.reduceMul,Nat.reduceBEq,gH]
   ·cases EM
    ·(repeat (first|simp only [↓QA,QB,Nat.reduceLT,reduceIte,Nat.reduceEqDiff,Nat.reduceAdd,Nat.reduceLeDiff,Nat.reduceMul,Nat.reduceBEq,gH,pX,Bool.true_eq_false,Bool.false_eq_true]|refine rd0 rfl ?_))
     try try simp only [QS,QC,Nat.reduceLT,reduceIte,Nat.reduceEqDiff,Nat.reduceAdd,Nat.reduceLeDiff,Nat.reduceMul,Nat.reduceBEq,gH]
    ·(repeat (first|simp only [↓QA,QB,Nat.reduceLT,reduceIte,Nat.reduceEqDiff,Nat.reduceAdd,Nat.reduceLeDiff,Nat.reduceMul,Nat.reduceBEq,gH,pX,Bool.true_eq_false,Bool.false_eq_true]|refine rd0 rfl ?_))
     try try simp only [QS,QC,Nat.reduceLT,reduceIte,Nat.reduceEqDiff,Nat.reduceAdd,Nat.reduceLeDiff,Nat.reduceMul,Nat.reduceBEq,gH]
  ·intro τ h2
   rw [hgo] at h2
   cases h2
 ·have h0':(lC v n==0)=false:=by simpa using h0
  have hm:qJ v n=(⟨0,0⟩,0,lC v n):=by rw [qJ,if_neg h0]
  have her:=fun σ=>yP σ v [n,(v.trams.length:Int)] (.inr ⟨n,rfl⟩) hf h0
  simp only [List.map_nil,List.map_cons,NV] at her
  rw [hm]
  refine cT (her _) ?_
  (repeat (first|simp only [↓QA,QB,Nat.reduceLT,reduceIte,Nat.reduceEqDiff,Nat.reduceAdd,Nat.reduceLeDiff,Nat.reduceMul,Nat.reduceBEq,gH,h0',pX]|refine rd0 rfl ?_))
  try rfl
end Go.Am.Room
