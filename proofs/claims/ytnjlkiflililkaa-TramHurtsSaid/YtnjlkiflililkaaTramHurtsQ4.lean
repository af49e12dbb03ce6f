/- A part of the proof of TramHurts: an abstract machine, or what functions come to on it. -/
import Derived.Test.YtnjlkiflililkaaTramHurtsQ3
set_option linter.unusedVariables false
set_option linter.unusedSimpArgs false
set_option linter.defProp false
namespace Go.Am.Room
theorem xM:∀ (l:List Int) (s:Span),s.lo≤s.hi→(l.foldl kA s).lo≤s.lo∧s.hi≤(l.foldl kA s).hi∧(∀ x∈l,(l.foldl kA s).lo≤x∧x≤(l.foldl kA s).hi)∧((l.foldl kA s).lo=s.lo∨(l.foldl kA s).lo∈l)∧((l.foldl kA s).hi=s.hi∨(l.foldl kA s).hi∈l)
 |[],s,h=>⟨Int.le_refl _,Int.le_refl _,fun x hx=>by simp at hx,.inl rfl,.inl rfl⟩
 |y::l,s,h=>by
  have hj:(kA s y).lo≤(kA s y).hi:=by simp only [kA];omega
  obtain ⟨a,b,c,d,e⟩:=xM l (kA s y) hj
  simp only [List.foldl_cons]
  have h1:(kA s y).lo≤s.lo∧(kA s y).lo≤y∧((kA s y).lo=s.lo∨(kA s y).lo=y):=by simp only [kA];omega
  have h2:s.hi≤(kA s y).hi∧y≤(kA s y).hi∧((kA s y).hi=s.hi∨(kA s y).hi=y):=by simp only [kA];omega
  refine ⟨by omega,by omega,fun x hx=>?_,?_,?_⟩
  ·rcases List.mem_cons.1 hx with rfl|hx
   ·omega
   ·exact c x hx
  ·rcases d with d|d
   ·rcases h1.2.2 with h|h
    ·left;omega
    ·right;rw [d,h];simp
   ·right;simp [d]
  ·rcases e with e|e
   ·rcases h2.2.2 with h|h
    ·left;omega
    ·right;rw [e,h];simp
   ·right;simp [e]
theorem oV {l:List Int} (h:l≠[]):(fM l).lo∈l∧(fM l).hi∈l∧∀ x∈l,(fM l).lo≤x∧x≤(fM l).hi:=by
 cases l with
 |nil=>exact absurd rfl h
 |cons x l =>
  obtain ⟨a,b,c,d,e⟩:=xM l ⟨x,x⟩ (Int.le_refl _)
  simp only [fM]
  refine ⟨?_,?_,fun y hy=>?_⟩
  ·rcases d with d|d
   ·rw [d];simp
   ·simp [d]
  ·rcases e with e|e
   ·rw [e];simp
   ·simp [e]
  ·rcases List.mem_cons.1 hy with rfl|hy
   ·exact ⟨a,b⟩
   ·exact c y hy
theorem BM {l k:List Int} (hl:l≠[]) (h:∀ x∈l,x∈k):(fM k).lo≤(fM l).lo∧(fM l).hi≤(fM k).hi:=by
 have hk:k≠[]:=by
  intro e;subst e
  exact absurd (h _ (oV hl).1) (by simp)
 have a:=oV hl
 have b:=oV hk
 exact ⟨(b.2.2 _ (h _ a.1)).1,(b.2.2 _ (h _ a.2.1)).2⟩
theorem MU {l k:List Int} (h:∀ x,x∈l↔x∈k):fM l=fM k:=by
 by_cases hl:l=[]
 ·subst hl
  have:k=[]:=by
   cases k with
   |nil=>rfl
   |cons y k=>exact absurd ((h y).2 (by simp)) (by simp)
  rw [this]
 ·have hk:k≠[]:=by
   intro e;subst e
   exact absurd ((h _).1 (oV hl).1) (by simp)
  have a:=BM hl fun x hx=>(h x).1 hx
  have b:=BM hk fun x hx=>(h x).2 hx
  obtain ⟨p,q⟩:(fM l).lo=(fM k).lo∧(fM l).hi=(fM k).hi:=⟨by omega,by omega⟩
  generalize fM l=x at *
  generalize fM k=y at *
  cases x;cases y;simp only at p q;rw [p,q]
theorem xL {α:Type} {p:α→Bool} {l:List α}:(l.filter p).length=l.length↔∀ x∈l,p x=true:=by
 rw [List.length_filter_eq_length_iff]
theorem pV {α:Type} {p:α→Bool} {l:List α}:d9 (l.filter p).length l.length=1↔∀ x∈l,p x=true:=by
 rw [←xL]
 unfold d9
 split
 ·rename_i h;simp [h]
 ·rename_i h
  split
  ·simp [h]
  ·simp [h]
theorem rA {α:Type} {p:α→Bool} {l:List α}:d9 (l.filter p).length l.length=2↔l≠[]∧∀ x∈l,p x=false:=by
 unfold d9
 split
 ·rename_i h
  simp only [show ¬(1:Int)=2 by omega,false_iff]
  rintro ⟨h1,h2⟩
  rw [xL] at h
  cases l with
  |nil=>exact h1 rfl
  |cons x l =>
   have a:=h x (by simp)
   have b:=h2 x (by simp)
   rw [a] at b;cases b
 ·rename_i h
  split
  ·rename_i h0
   simp only [true_iff]
   refine ⟨fun e=>?_,fun x hx=>?_⟩
   ·subst e;simp at h
   ·have:=List.eq_nil_of_length_eq_zero h0
    rw [List.filter_eq_nil_iff] at this
    simpa using this x hx
  ·rename_i h0
   simp only [show ¬(0:Int)=2 by omega,false_iff]
   rintro ⟨h1,h2⟩
   apply h0
   rw [List.length_eq_zero_iff,List.filter_eq_nil_iff]
   intro x hx
   simp [h2 x hx]
theorem nI (a b:Nat):d9 a b=0∨d9 a b=1∨d9 a b=2:=by
 unfold d9;split
 ·simp
 ·split<;>simp
theorem IJ {α β:Type} {p:α→Bool} {q:β→Bool} {l:List α} {k:List β} (h1:∀ x∈l,∃ y∈k,q y=p x) (h2:∀ y∈k,∃ x∈l,p x=q y):d9 (l.filter p).length l.length=d9 (k.filter q).length k.length:=by
 have a:d9 (l.filter p).length l.length=1↔d9 (k.filter q).length k.length=1:=by
  rw [pV,pV]
  constructor
  ·intro h y hy;obtain ⟨x,hx,e⟩:=h2 y hy;rw [←e];exact h x hx
  ·intro h x hx;obtain ⟨y,hy,e⟩:=h1 x hx;rw [←e];exact h y hy
 have b:d9 (l.filter p).length l.length=2↔d9 (k.filter q).length k.length=2:=by
  rw [rA,rA]
  constructor
  ·rintro ⟨hn,h⟩
   refine ⟨fun e=>?_,fun y hy=>?_⟩
   ·subst e
    obtain ⟨x,hx⟩:=List.exists_mem_of_ne_nil l hn
    obtain ⟨y,hy,_⟩:=h1 x hx
    simp at hy
   ·obtain ⟨x,hx,e⟩:=h2 y hy;rw [←e];exact h x hx
  ·rintro ⟨hn,h⟩
   refine ⟨fun e=>?_,fun x hx=>?_⟩
   ·subst e
    obtain ⟨y,hy⟩:=List.exists_mem_of_ne_nil k hn
    obtain ⟨x,hx,_⟩:=h2 y hy
    simp at hx
   ·obtain ⟨y,hy,e⟩:=h1 x hx;rw [←e];exact h y hy
 rcases nI (l.filter p).length l.length with h|h|h<;>rcases nI (k.filter q).length k.length with h'|h'|h'<;>simp_all
def chP (r:Rail):List Int:=(if r.shut=0 then [] else [0])++(if r.shut=1 then [] else yG r.mins)
def eY:List Rail→List Int→List (List Int)
 |[],l=>[l]
 |r::rs,l=>(chP r).flatMap fun n=>eY rs (l++[n])
def rlI (c:List Int) (r:Int):Int:=(c[r.toNat]?).getD 0
def qM (s:State):List Int:=(s.closed.zip s.mins).map fun x=>if x.1=true then 0 else x.2
theorem G5 {s:State} (h:s.closed.length=s.mins.length):eff s=rlI (qM s):=by
 funext r
 simp only [eff,rlI,qM,List.getElem?_map,List.getElem?_zip_eq_some,List.zip]
 obtain ⟨i,hi⟩:∃ i,r.toNat=i:=⟨_,rfl⟩
 rw [hi]
 by_cases hl:i<s.closed.length
 ·have hm:i<s.mins.length:=by omega
  have e:(List.zipWith Prod.mk s.closed s.mins)[i]? = some (s.closed[i],s.mins[i]):=by
   rw [List.getElem?_zipWith];simp [hl,hm]
  rw [e]
  simp [hl,hm]
 ·have hm:¬i<s.mins.length:=by omega
  have e:(List.zipWith Prod.mk s.closed s.mins)[i]? = none:=by
   rw [List.getElem?_zipWith];simp [show s.closed.length≤i by omega]
  rw [e]
  simp [show s.closed.length≤i by omega,show s.mins.length≤i by omega]
theorem oM {s:Span} {x:Int}:x∈yG s↔s.lo≤x∧x≤s.hi:=by
 rw [yG,cA];omega
theorem xR {l:List Int} {x:Int} {k:Nat} (h:l.length=k):((l++[x])[k]?).getD 0=x:=by subst h;simp
def O5 (rs:List Rail) (k:Nat) (c:List Int):Prop:=c.length=k∧∀ i (h:i<k) (hr:i<rs.length),(c[i]?).getD 0∈chP rs[i]
theorem vK (s:State) (h:s.closed.length=s.mins.length) (c:Bool) (m:Int):qM ⟨s.closed++[c],s.mins++[m]⟩=qM s++[if c=true then 0 else m]:=by
 simp only [qM,List.zip]
 rw [List.zipWith_append h]
 simp
theorem xZ {rs:List Rail}:∀ k,k≤rs.length→∀ s∈y0 rs k,s.closed.length=k∧s.mins.length=k∧O5 rs k (qM s)
 |0,_,s,h=>by
  simp [y0] at h
  subst h
  exact ⟨rfl,rfl,rfl,fun i h=>by omega⟩
 |k+1,hk,s,h=>by
  have hk1:k<rs.length:=by omega
  simp only [y0,List.getElem?_eq_getElem hk1,List.mem_flatMap,O6,List.mem_map,List.mem_filter] at h
  obtain ⟨s0,hs0,m,hm,c,⟨_,hc⟩,rfl⟩:=h
  obtain ⟨h1,h2,h3,h4⟩:=xZ k (by omega) s0 hs0
  rw [vK s0 (by omega)]
  refine ⟨by simp [h1],by simp [h2],by simp [h3],fun i hi hr=>?_⟩
  by_cases e:i=k
  ·subst e
   rw [xR h3]
   simp only [chP,List.mem_append]
   simp only [C8,Bool.not_eq_true',Bool.or_eq_false_iff,Bool.and_eq_false_iff,decide_eq_false_iff_not] at hc
   cases c
   ·simp only [Bool.not_false,false_or,Bool.true_eq_false] at hc
    simp only [Bool.false_eq_true,if_false]
    exact .inr (by rw [if_neg hc.2];exact hm)
   ·simp only [Bool.true_eq_false,false_or] at hc
    simp only [if_true]
    exact .inl (by rw [if_neg hc.1];simp)
  ·rw [List.getElem?_append_left (by omega)]
   exact h4 i (by omega) hr
theorem OD {rs:List Rail} (hr:∀ r∈rs,r.mins.lo≤r.mins.hi∧1≤r.mins.lo):∀ k,k≤rs.length→∀ c,O5 rs k c→∃ s∈y0 rs k,qM s=c
 |0,_,c,h=>⟨⟨[],[]⟩,by simp [y0],by have:=h.1;rw [List.length_eq_zero_iff.1 this];rfl⟩
 |k+1,hk,c,h=>by
  have hk1:k<rs.length:=by omega
  obtain ⟨hl,hc⟩:=h
  obtain ⟨d,x,rfl⟩:∃ d x,c=d++[x]:=by
   rcases List.eq_nil_or_concat c with rfl|⟨d,x,rfl⟩
   ·simp at hl
   ·exact ⟨d,x,by simp⟩
  have hd:d.length=k:=by simpa using hl
  obtain ⟨s,hs,he⟩:=OD hr k (by omega) d ⟨hd,fun i hi hri=>by
   have:=hc i (by omega) hri
   rwa [List.getElem?_append_left (by omega)] at this⟩
  have hsl:=xZ k (by omega) s hs
  have hx:=hc k (by omega) hk1
  rw [xR hd] at hx
  simp only [chP,List.mem_append] at hx
  have hrk:=hr _ (List.getElem_mem hk1)
  simp only [y0,List.getElem?_eq_getElem hk1]
  rcases hx with hx|hx
  ·split at hx
   ·cases hx
   ·rename_i h0
    simp only [List.mem_singleton] at hx
    subst hx
    refine ⟨⟨s.closed++[true],s.mins++[rs[k].mins.lo]⟩,?_,by rw [vK s (by omega),he];simp⟩
    simp only [List.mem_flatMap,O6,List.mem_map,List.mem_filter]
    exact ⟨s,hs,rs[k].mins.lo,oM.2 ⟨Int.le_refl _,hrk.1⟩,true,⟨by simp,by simp [C8,h0]⟩,rfl⟩
  ·split at hx
   ·cases hx
   ·rename_i h1
    refine ⟨⟨s.closed++[false],s.mins++[x]⟩,?_,by rw [vK s (by omega),he];simp⟩
    simp only [List.mem_flatMap,O6,List.mem_map,List.mem_filter]
    exact ⟨s,hs,x,hx,false,⟨by simp,by simp [C8,h1]⟩,rfl⟩
theorem i6:∀ (rs:List Rail) (l c:List Int),c∈eY rs l↔∃ t,c=l++t∧O5 rs rs.length t
 |[],l,c=>by
  simp only [eY,List.mem_singleton]
  constructor
  ·rintro rfl;exact ⟨[],by simp,rfl,fun i h=>by simp at h⟩
  ·rintro ⟨t,rfl,ht,_⟩
   simp at ht
   simp [ht]
 |r::rs,l,c=>by
  simp only [eY,List.mem_flatMap]
  constructor
  ·rintro ⟨n,hn,hc⟩
   obtain ⟨t,rfl,ht,hx⟩:=(i6 rs _ c).1 hc
   refine ⟨n::t,by simp,by simp [ht],fun i h hr=>?_⟩
   cases i with
   |zero=>exact hn
   |succ i=>exact hx i (by simpa using h) (by simpa using hr)
  ·rintro ⟨t,rfl,ht,hx⟩
   cases t with
   |nil=>simp at ht
   |cons n t =>
    refine ⟨n,hx 0 (by simp) (by simp),(i6 rs _ _).2 ⟨t,by simp,by simpa using ht,fun i h hr=>?_⟩⟩
    exact hx (i+1) (by simpa using h) (by simpa using hr)
theorem AI {rs:List Rail} {l c:List Int} (h:c∈eY rs l):c.length=l.length+rs.length:=by
 obtain ⟨t,rfl,ht,_⟩:=(i6 rs l c).1 h
 simp [ht]
theorem Y4 {r:Rail} (h:1≤r.mins.lo):(chP r).Pairwise (·≠·):=by
 have hn:∀ (n:Nat) (a:Int),(aO a n).Pairwise (·≠·):=by
  intro n
  induction n with
  |zero=>intro a;exact List.Pairwise.nil
  |succ n ih =>
   intro a
   simp only [aO]
   refine List.Pairwise.cons (fun x hx=>?_) (ih (a+1))
   have:=(cA _ _ _).1 hx
   omega
 unfold chP
 rw [List.pairwise_append]
 refine ⟨by split<;>simp,by split;exact List.Pairwise.nil;exact hn _ _,fun a ha b hb=>?_⟩
 split at ha
 ·cases ha
 ·simp only [List.mem_singleton] at ha
  subst ha
  split at hb
  ·cases hb
  ·have:=oM.1 hb;omega
theorem D0:∀ (rs:List Rail) (l:List Int),(∀ r∈rs,1≤r.mins.lo)→(eY rs l).Pairwise (·≠·)
 |[],l,_=>by simp [eY]
 |r::rs,l,h=>by
  simp only [eY]
  rw [List.pairwise_flatMap]
  refine ⟨fun n _=>D0 rs _ (fun x hx=>h x (by simp [hx])),List.Pairwise.imp ?_ (Y4 (h r (by simp)))⟩
  intro n m hnm x hx y hy e
  obtain ⟨t,rfl,_⟩:=(i6 _ _ _).1 hx
  obtain ⟨u,hu,_⟩:=(i6 _ _ _).1 hy
  have e2:=e.trans hu
  rw [List.append_assoc,List.append_assoc] at e2
  have:=List.append_cancel_left e2
  simp at this
  exact hnm this.1
def cQ (v:Net) (c:List Int):List Int:=iR v (lY v) (rlI c)
def o9 (v:Net) (but c:List Int):Bool:=lW v but (cQ v c)
def TL (v:Net) (but:List Int):List (List Int):=(eY v.rails []).filter (o9 v but)
theorem nT {s:State} (h:s.closed.length=s.mins.length) (v:Net):uD v s=cQ v (qM s):=by rw [uD,cQ,G5 h]
theorem oK {v:Net} {s:State} (h:s∈uA v):s.closed.length=v.rails.length∧s.mins.length=v.rails.length:=by
 have:=xZ v.rails.length (Nat.le_refl _) s h
 exact ⟨this.1,this.2.1⟩
theorem EP {v:Net} {s:State} (h:s∈uA v):qM s∈eY v.rails []:=by
 have:=xZ v.rails.length (Nat.le_refl _) s h
 exact (i6 _ _ _).2 ⟨qM s,by simp,this.2.2⟩
theorem HH {v:Net} (hv:Vd v) {c:List Int} (h:c∈eY v.rails []):∃ s∈uA v,qM s=c:=by
 obtain ⟨t,e,ht⟩:=(i6 _ _ _).1 h
 rw [List.nil_append] at e
 subst e
 exact OD (fun r hr=>by have:=(hv.ra r hr).mins;omega) v.rails.length (Nat.le_refl _) c ht
theorem t8 {v:Net} {bl:List Int} {s:State} (h:s∈bZ v bl):qM s∈TL v bl:=by
 obtain ⟨h1,h2⟩:=List.mem_filter.1 h
 have hl:=oK h1
 refine List.mem_filter.2 ⟨EP h1,?_⟩
 rw [o9,←nT (by omega)]
 exact h2
theorem rD {v:Net} (hv:Vd v) {bl:List Int} {c:List Int} (h:c∈TL v bl):∃ s∈bZ v bl,qM s=c:=by
 obtain ⟨h1,h2⟩:=List.mem_filter.1 h
 obtain ⟨s,hs,he⟩:=HH hv h1
 have hl:=oK hs
 refine ⟨s,List.mem_filter.2 ⟨hs,?_⟩,he⟩
 rw [nT (by omega),he]
 exact h2
theorem rS {v:Net} {bl:List Int} {s:State} (h:s∈bZ v bl):s.closed.length=v.rails.length∧s.mins.length=v.rails.length:=oK (List.mem_filter.1 h).1
theorem JQ {v:Net} (hv:Vd v) (bl:List Int):(TL v bl).isEmpty=(bZ v bl).isEmpty:=by
 rw [Bool.eq_iff_iff,List.isEmpty_iff,List.isEmpty_iff,List.eq_nil_iff_forall_not_mem,List.eq_nil_iff_forall_not_mem]
 constructor
 ·intro h s hs;exact h _ (t8 hs)
 ·intro h c hc
  obtain ⟨s,hs,_⟩:=rD hv hc
  exact h s hs
theorem H2 {v:Net} (hv:Vd v) (bl:List Int) (p:State→Bool) (q:List Int→Bool) (h:∀ s∈bZ v bl,p s=q (qM s)):(bZ v bl).all p=(TL v bl).all q:=by
 rw [Bool.eq_iff_iff,List.all_eq_true,List.all_eq_true]
 constructor
 ·intro a c hc
  obtain ⟨s,hs,rfl⟩:=rD hv hc
  rw [←h s hs]
  exact a s hs
 ·intro a s hs
  rw [h s hs]
  exact a _ (t8 hs)
theorem O8 {v:Net} (hv:Vd v) (bl:List Int) (p:State→Bool) (q:List Int→Bool) (h:∀ s∈bZ v bl,p s=q (qM s)):(bZ v bl).any p=(TL v bl).any q:=by
 rw [Bool.eq_iff_iff,List.any_eq_true,List.any_eq_true]
 constructor
 ·rintro ⟨s,hs,a⟩
  exact ⟨_,t8 hs,by rw [←h s hs];exact a⟩
 ·rintro ⟨c,hc,a⟩
  obtain ⟨s,hs,rfl⟩:=rD hv hc
  exact ⟨s,hs,by rw [h s hs];exact a⟩
def jS (v:Net):Nat→List (List Int)→List (List (List Int))
 |0,p=>[p]
 |k+1,p=>(bW v (fK v p.length) []).flatMap fun w=>jS v k (p++[w])
theorem AQ (v:Net):∀ k,∀ p∈lI v k,p.length=k
 |0,p,h=>by simp [lI] at h;simp [h]
 |k+1,p,h=>by
  simp only [lI,List.mem_flatMap,List.mem_map] at h
  obtain ⟨a,ha,w,_,rfl⟩:=h
  simp [AQ v k a ha]
theorem g9 {α β:Type} {f g:α→List β}:∀ {l:List α},(∀ x∈l,f x=g x)→l.flatMap f=l.flatMap g
 |[],_=>rfl
 |x::l,h=>by rw [List.flatMap_cons,List.flatMap_cons,h x (by simp),g9 fun y hy=>h y (by simp [hy])]
theorem tP {α:Type}:∀ l:List α,(l.flatMap fun x=>[x])=l
 |[]=>rfl
 |x::l=>by rw [List.flatMap_cons,tP l];rfl
theorem BL (v:Net):∀ k j,(lI v j).flatMap (jS v k)=lI v (j+k)
 |0,j=>by
  have:jS v 0=fun x=>[x]:=by funext x;rfl
  rw [this,tP];rfl
 |k+1,j=>by
  rw [show j+(k+1)=(j+1)+k by omega,←BL v k (j+1)]
  simp only [lI]
  rw [List.flatMap_assoc]
  refine g9 fun p hp=>?_
  rw [jS,AQ v j p hp,List.flatMap_map]
theorem vA (v:Net):uH v=jS v v.trams.length []:=by
 have:=BL v v.trams.length 0
 simp only [lI,List.flatMap_cons,List.flatMap_nil,List.append_nil,Nat.zero_add] at this
 exact this.symm
def gA (v:Net) (t:Nat) (w:List Int):Nat:=if w=eE (lY v) t then 0 else 1
def mvd (v:Net) (p:List (List Int)):Nat:=(lE v p).length
theorem HR {p:List (List Int)} {t:Nat} (h:t<p.length) (w:List Int):eE (p++[w]) t=eE p t:=by simp [eE,List.getElem?_append_left h]
theorem HZ (v:Net) (p:List (List Int)) (w:List Int):lE v (p++[w])=lE v p++(if w=eE (lY v) p.length then [] else [(p.length:Int)]):=by
 simp only [lE,List.length_append,List.length_cons,List.length_nil,Nat.zero_add,uO,List.filter_append,Int.zero_add]
 congr 1
 ·refine List.filter_congr fun t ht=>?_
  have:=(cA _ _ _).1 ht
  rw [HR (by omega)]
 ·have:eE (p++[w]) p.length=w:=by simp [eE]
  simp only [List.filter_cons,List.filter_nil,Int.toNat_natCast,this]
  split<;>rename_i h
  ·split
   ·rename_i e;simp [e] at h
   ·rfl
  ·split
   ·rfl
   ·rename_i e;simp [e] at h
theorem xW (v:Net) (p:List (List Int)) (w:List Int):mvd v (p++[w])=mvd v p+gA v p.length w:=by
 rw [mvd,HZ,List.length_append,mvd,gA]
 split<;>simp
theorem JJ (v:Net):∀ k p,∀ P∈jS v k p,mvd v p≤mvd v P
 |0,p,P,h=>by simp [jS] at h;subst h;exact Nat.le_refl _
 |k+1,p,P,h=>by
  simp only [jS,List.mem_flatMap] at h
  obtain ⟨w,_,hP⟩:=h
  have:=JJ v k _ P hP
  rw [xW] at this
  omega
def dfs (v:Net) (q:List (List Int)→Bool):Nat→List (List Int)→Nat→Option (List (List Int))
 |0,p,left=>if (decide (left=0)&&q p)=true then some p else none
 |k+1,p,left=>(bW v (fK v p.length) []).findSome? fun w=>if gA v p.length w≤left then dfs v q k (p++[w]) (left-gA v p.length w) else none
theorem AX {α β:Type} (q:β→Bool) (f:α→List β):∀ l:List α,(l.flatMap f).find? q=l.findSome? fun x=>(f x).find? q
 |[]=>rfl
 |x::l=>by
  rw [List.flatMap_cons,List.find?_append,List.findSome?_cons,AX q f l]
  cases (f x).find? q<;>rfl
theorem pH {α β:Type} {f g:α→Option β}:∀ {l:List α},(∀ x∈l,f x=g x)→l.findSome? f=l.findSome? g
 |[],_=>rfl
 |x::l,h=>by rw [List.findSome?_cons,List.findSome?_cons,h x (by simp),pH fun y hy=>h y (by simp [hy])]
theorem y6 (v:Net) (q:List (List Int)→Bool):∀ k p left,dfs v q k p left=(jS v k p).find? fun P=>(mvd v P==mvd v p+left)&&q P
 |0,p,left=>by
  have h:decide (left=0)=(mvd v p==mvd v p+left):=by
   rw [Bool.eq_iff_iff,decide_eq_true_eq,beq_iff_eq];omega
  simp only [dfs,jS,List.find?_cons,List.find?_nil]
  rw [←h]
  cases (decide (left=0)&&q p)<;>rfl
 |k+1,p,left=>by
  simp only [dfs,jS]
  rw [AX]
  refine pH fun w _=>?_
  split
  ·rename_i h
   rw [y6 v q k,xW,show mvd v p+gA v p.length w+(left-gA v p.length w)=mvd v p+left by omega]
  ·rename_i h
   symm
   rw [List.find?_eq_none]
   intro P hP
   have:=JJ v k _ P hP
   rw [xW] at this
   simp only [Bool.and_eq_true,beq_iff_eq]
   omega
def sJ (v:Net) (q:List (List Int)→Bool):Nat→Nat→Option (List (List Int))
 |0,_=>none
 |k+1,m=>match dfs v q v.trams.length [] m with|some p=>some p|none=>sJ v q k (m+1)
theorem JB {v:Net} {l:List State} {q:List (List Int)→Bool} (h:∀ p∈uH v,MT v l p=q p):∀ k m,uT v l k m=sJ v q k m
 |0,m=>rfl
 |k+1,m=>by
  have e:(uH v).find? (GZ v l m)=dfs v q v.trams.length [] m:=by
   have hf:∀ (L:List (List (List Int))) (f g:List (List Int)→Bool),(∀ x∈L,f x=g x)→L.find? f=L.find? g:=by
    intro L f g
    induction L with
    |nil=>intro _;rfl
    |cons x L ih =>
     intro hh
     rw [List.find?_cons,List.find?_cons,hh x (by simp),ih fun y hy=>hh y (by simp [hy])]
   rw [y6,←vA]
   refine hf _ _ _ fun p hp=>?_
   have h0:mvd v []=0:=rfl
   rw [GZ,h p hp,h0,Nat.zero_add]
   rfl
  simp only [uT,sJ,e]
  cases dfs v q v.trams.length [] m with
  |none=>exact JB h k (m+1)
  |some p=>rfl
def E4 (v:Net) (ps:List (List Int)) (c:List Int):Bool:=(List.range v.trams.length).all fun t=>jT v t (fL (iR v ps (rlI c)) t)
def mM (v:Net) (ps:List (List Int)):Bool:=(TL v []).all (E4 v ps)
theorem TN {v:Net} (hv:Vd v) (ps:List (List Int)):MT v (bZ v []) ps=mM v ps:=by
 refine H2 hv [] _ _ fun s hs=>?_
 have hl:=rS hs
 rw [QH,E4,G5 (by omega)]
theorem SX {v:Net} (hv:Vd v):pK v (bZ v [])=sJ v (mM v) (v.trams.length+1) 0:=JB (fun p _=>TN hv p) _ _
theorem y1 (v:Net) (but:List Int):∀ k,∀ l∈eM v but k,∀ r∈l,0≤r∧r<v.rails.length
 |0,l,h,r,hr=>by simp [eM] at h;subst h;cases hr
 |k+1,l,h,r,hr=>by
  simp only [eM,List.mem_flatMap,rZ,List.mem_map,List.mem_filter,cA] at h
  obtain ⟨a,ha,x,⟨hx,_⟩,rfl⟩:=h
  rcases List.mem_append.1 hr with hr|hr
  ·exact y1 v but k a ha r hr
  ·simp only [List.mem_singleton] at hr;subst hr;omega
theorem A8 {v:Net} {s:Int} {but:List Int}:∀ k,∀ l∈eD v s but k,l.length≤k∧∀ r∈l,0≤r∧r<v.rails.length
 |0,l,h=>by simp [eD] at h
 |k+1,l,h=>by
  simp only [eD,List.mem_append,List.mem_filter] at h
  rcases h with h|⟨h,_⟩
  ·have:=A8 k l h
   exact ⟨by omega,this.2⟩
  ·refine ⟨?_,y1 v but (k+1) l h⟩
   have key:∀ k,∀ l∈eM v but k,l.length=k:=by
    intro k
    induction k with
    |zero=>intro l h;simp [eM] at h;simp [h]
    |succ k ih =>
     intro l h
     simp only [eM,List.mem_flatMap,rZ,List.mem_map] at h
     obtain ⟨a,ha,r,_,rfl⟩:=h
     simp [ih a ha]
   have:=key (k+1) l h
   omega
theorem CC {v:Net} {s:Int} {but l:List Int} (h:l∈bW v s but):l.length≤4∧∀ r∈l,0≤r∧r<v.rails.length:=A8 4 l h
theorem lQ (v:Net) (but:List Int) (h5:v.rails.length≤5):∀ k,(eM v but k).length≤5^k
 |0=>by simp [eM]
 |k+1=>by
  have h:=IP (rZ v but) 5 (eM v but k) fun l _=>by
   have:=List.length_filter_le (s8 v but l) (aO 0 v.rails.length)
   rw [mW] at this
   simp only [rZ,List.length_map]
   omega
  have:=lQ v but h5 k
  rw [Nat.pow_succ]
  simp only [eM]
  exact Nat.le_trans h (Nat.mul_le_mul_right 5 this)
theorem DM {v:Net} (h5:v.rails.length≤5) (s:Int) (but:List Int):(bW v s but).length≤1000:=by
 have c1:=lQ v but h5 1
 have c2:=lQ v but h5 2
 have c3:=lQ v but h5 3
 have c4:=lQ v but h5 4
 have f:=fun (l:List (List Int))=>List.length_filter_le (fH v s) l
 have f1:=f (eM v but 1)
 have f2:=f (eM v but 2)
 have f3:=f (eM v but 3)
 have f4:=f (eM v but 4)
 have e:bW v s but=((([]++(eM v but 1).filter (fH v s))++(eM v but 2).filter (fH v s))++(eM v but 3).filter (fH v s))++(eM v but 4).filter (fH v s):=rfl
 rw [e]
 simp only [List.length_append,List.length_nil]
 have p1:(5:Nat)^1=5:=rfl
 have p2:(5:Nat)^2=25:=rfl
 have p3:(5:Nat)^3=125:=rfl
 have p4:(5:Nat)^4=625:=rfl
 omega
theorem JK {v:Net}:∀ k p,∀ P∈jS v k p,P.length=p.length+k∧∀ w∈P,w∈p∨∃ s,w∈bW v s []
 |0,p,P,h=>by simp [jS] at h;subst h;exact ⟨rfl,fun w hw=>.inl hw⟩
 |k+1,p,P,h=>by
  simp only [jS,List.mem_flatMap] at h
  obtain ⟨w,hw,hP⟩:=h
  obtain ⟨h1,h2⟩:=JK k _ P hP
  refine ⟨by rw [h1];simp;omega,fun x hx=>?_⟩
  rcases h2 x hx with q|q
  ·rcases List.mem_append.1 q with q|q
   ·exact .inl q
   ·simp only [List.mem_singleton] at q
    subst q
    exact .inr ⟨_,hw⟩
  ·exact .inr q
theorem R2 {v:Net} {P:List (List Int)} (h:P∈uH v):RunOk v P:=by
 rw [vA] at h
 obtain ⟨h1,h2⟩:=JK _ _ P h
 refine ⟨by simpa using h1,fun p hp=>?_,fun p hp=>?_⟩
 ·rcases h2 p hp with q|⟨s,q⟩
  ·cases q
  ·exact (CC q).1
 ·rcases h2 p hp with q|⟨s,q⟩
  ·cases q
  ·exact (CC q).2
end Go.Am.Room
set_option maxRecDepth 4000
namespace Go.Am.Room
theorem G8 {v:Net} (h5:v.rails.length≤5) (s:Int) (but:List Int) {k:Nat} (hk:k≤4):(eD v s but k).length≤1000:=by
 have st:∀ j,(eD v s but j).length≤(eD v s but (j+1)).length:=fun j=>by simp only [eD,List.length_append];omega
 have:=DM h5 s but
 rw [bW] at this
 have a0:(eD v s but 0).length≤(eD v s but 1).length:=st 0
 have a1:(eD v s but 1).length≤(eD v s but 2).length:=st 1
 have a2:(eD v s but 2).length≤(eD v s but 3).length:=st 2
 have a3:(eD v s but 3).length≤(eD v s but 4).length:=st 3
 have:k=0∨k=1∨k=2∨k=3∨k=4:=by omega
 rcases this with rfl|rfl|rfl|rfl|rfl<;>omega
def qJ (x:List (List Int)×Int):AV:=.tuple [dD x.1,.int .i64 x.2]
end Go.Am.Room
set_option maxRecDepth 4000
namespace Go.Am.Room
theorem K9 {a b:Int} (h:a≤b):aO a (b+1-a).toNat=a::aO (a+1) (b+1-(a+1)).toNat:=by
 have:(b+1-a).toNat=(b+1-(a+1)).toNat+1:=by omega
 rw [this,aO]
theorem NM {a b:Int} (h:¬a≤b):aO a (b+1-a).toNat=[]:=by
 have:(b+1-a).toNat=0:=by omega
 rw [this,aO]
end Go.Am.Room
set_option maxRecDepth 4000
namespace Go.Am.Room
theorem NS {α:Type} {p:α→Bool} {l:List α} {k:Nat} (h:k<l.length):(l.take (k+1)).any p=((l.take k).any p||p l[k]):=by
 rw [List.take_succ_eq_append_getElem h,List.any_append];simp
def W8 (ss:List Stay) (rail m s r:Int) (k:Nat) (n:Int):Prop:=(n=r∧(ss.take k).any (iL rail r m)=false)∨(r<n∧rF ss rail m s n)
end Go.Am.Room
set_option maxRecDepth 4000
namespace Go.Am.Room
theorem NK (v:Net) (m:Int→Int) (ps:List (List Int)) (k:Nat):fJ v m ps (k+1)=((nO m k (l0 v k) (eE ps k) (fJ v m ps k).1).1,(fJ v m ps k).2++[(nO m k (l0 v k) (eE ps k) (fJ v m ps k).1).2]):=rfl
end Go.Am.Room
set_option maxRecDepth 4000
namespace Go.Am.Room
instance (l:List Bool):Dats (l.map .bool):=⟨dE BH l⟩
def qC (v:Net) (but cs:List Int) (n:Nat):Bool:=(List.range n).all fun k=>match v.seen[k]? with|some x=>but.contains (k:Int)||fL cs x.tram==x.minute|none=>true
theorem zH (v:Net) (but cs:List Int):qC v but cs v.seen.length=lW v but cs:=rfl
theorem EL {v:Net} {k:Nat} (hk:k<v.seen.length) (but cs:List Int):qC v but cs (k+1)=(qC v but cs k&&(but.contains (k:Int)||fL cs v.seen[k].tram==v.seen[k].minute)):=by
 simp [qC,List.range_succ,List.all_append,hk]
theorem rV {a:Nat} (h:a<9223372036854775808):(BitVec.ofInt 64 (a:Int)).toNat=a:=by
 rw [BitVec.toNat_ofInt]
 omega
theorem YJ (a b:Nat) (ha:a<4611686018427387904) (hb:b<4611686018427387904):fD .or (.int .i64 (a:Int)) (.int .i64 (b:Int))=some (.int .i64 ((a|||b:Nat):Int)):=by
 have h1:(BitVec.ofInt 64 (a:Int)|||BitVec.ofInt 64 (b:Int)).toNat=a|||b:=by rw [BitVec.toNat_or,rV (by omega),rV (by omega)]
 have h2:a|||b<2^62:=Nat.or_lt_two_pow (by omega) (by omega)
 have h3:Go.Am.bits .or .i64 (a:Int) (b:Int)=((a|||b:Nat):Int):=by
  show IntKind.i64.wrap (((BitVec.ofInt 64 (a:Int)|||BitVec.ofInt 64 (b:Int)).toNat:Nat):Int)=_
  rw [h1]
  exact dZ ⟨by omega,by omega⟩
 simp [fD,kC,h3]
def AD (a b:Nat):Nat:=a &&& (2^64-(b+1))
theorem DQ {b:Nat} (hb:b<9223372036854775808) (a i:Nat) (ha:a<9223372036854775808):(AD a b).testBit i=(a.testBit i&&!b.testBit i):=by
 rw [AD,Nat.testBit_and,Nat.testBit_two_pow_sub_succ (by omega)]
 by_cases hi:i<64
 ·simp [hi]
 ·have:a.testBit i=false:=Nat.testBit_lt_two_pow (Nat.lt_of_lt_of_le (show a<2^63 by omega) (Nat.pow_le_pow_right (by omega) (by omega)))
  simp [this]
theorem IR (a b:Nat):AD a b≤a:=Nat.and_le_left
theorem EQ (a b:Nat) (ha:a<9223372036854775808) (hb:b<9223372036854775808):fD .andNot (.int .i64 (a:Int)) (.int .i64 (b:Int))=some (.int .i64 ((AD a b:Nat):Int)):=by
 have h1:(BitVec.ofInt 64 (a:Int) &&& ~~~BitVec.ofInt 64 (b:Int)).toNat=AD a b:=by
  rw [BitVec.toNat_and,BitVec.toNat_not,rV ha,rV hb,AD]
  congr 1
  omega
 have h2:=IR a b
 have h3:Go.Am.bits .andNot .i64 (a:Int) (b:Int)=((AD a b:Nat):Int):=by
  show IntKind.i64.wrap (((BitVec.ofInt 64 (a:Int) &&& ~~~BitVec.ofInt 64 (b:Int)).toNat:Nat):Int)=_
  rw [h1]
  exact dZ ⟨by omega,by omega⟩
 simp [fD,kC,h3]
theorem i9 {i:Nat} (h:i≤60):2^i≤1152921504606846976:=by
 calc 2^i≤2^60:=Nat.pow_le_pow_right (by omega) h
  _=1152921504606846976:=by decide
theorem sQ (i:Nat) (h:i≤60):fD .shl (.int .i64 1) (.int .i64 (i:Int))=some (.int .i64 ((2^i:Nat):Int)):=by
 have hm:Nat.min i 64=i:=Nat.min_eq_left (by omega)
 have h0:¬(i:Int)<0:=by omega
 have hp:=i9 h
 have hc:(1:Int)*2^i=((2^i:Nat):Int):=by rw [Int.one_mul];exact (Int.natCast_pow 2 i).symm
 simp only [fD,h0,if_false,IntKind.bits,Int.toNat_natCast,hm,hc]
 generalize 2^i=q at hp
 rw [dZ ⟨by omega,by omega⟩]
theorem uW (a i:Nat):a.testBit i=decide (a/2^i%2=1):=Nat.testBit_eq_decide_div_mod_eq
theorem IU {n s:Nat} {x:Int}:x∈lst n s↔(0≤x∧x<n)∧s.testBit x.toNat=true:=by
 simp only [lst,List.mem_filter,cA,uW]
 constructor
 ·rintro ⟨h1,h2⟩;exact ⟨by omega,h2⟩
 ·rintro ⟨h1,h2⟩;exact ⟨by omega,h2⟩
theorem TM {n s i:Nat} (h:i<n):(lst n s).contains (i:Int)=s.testBit i:=by
 rw [Bool.eq_iff_iff,List.contains_iff_mem,IU]
 simp only [Int.toNat_natCast]
 constructor
 ·rintro ⟨_,h2⟩;exact h2
 ·intro h2;exact ⟨⟨by omega,by omega⟩,h2⟩
theorem CU (a:Nat):((a:Int)==0)=decide (a=0):=by rw [Bool.eq_iff_iff];simp
structure ButIs (b:Nat) (bl:List Int):Prop where
 lt:b<9223372036854775808
 bit:∀ i:Nat,i<5→(((b/2^i%2:Nat):Int)==0) = !bl.contains (i:Int)
theorem KQ:ButIs 0 []:=⟨by omega,fun i hi=>by simp⟩
theorem R7 {n set:Nat} (hn:n≤5) (hs:set<2^n):ButIs set (lst n set):=by
 have hp:2^n≤2^5:=Nat.pow_le_pow_right (by omega) hn
 refine ⟨by omega,fun i hi=>?_⟩
 have e:(((set/2^i%2:Nat):Int)==0) = !set.testBit i:=by
  rw [uW,CU,Bool.eq_iff_iff]
  simp
 rw [e]
 by_cases h:i<n
 ·rw [TM h]
 ·have h1:set.testBit i=false:=Nat.testBit_lt_two_pow (Nat.lt_of_lt_of_le hs (Nat.pow_le_pow_right (by omega) (by omega)))
  have h2:(lst n set).contains (i:Int)=false:=by
   rw [Bool.eq_false_iff]
   intro hc
   rw [List.contains_iff_mem,IU] at hc
   omega
  rw [h1,h2]
theorem nY {σ:St} {i:Nat} {cs:List AV} (h:aG σ i=some cs):i<σ.length:=by
 unfold aG at h
 by_cases hi:i<σ.length
 ·exact hi
 ·rw [List.getElem?_eq_none (by omega)] at h
  cases h
theorem iY {σ:St} {i:Nat} {cs:List AV} (h:aG σ i=some cs) (τ:St):aG (σ++τ) i=some cs:=by
 have hl:=nY h
 simp only [aG] at h ⊢
 rw [List.getElem?_append_left hl]
 exact h
end Go.Am.Room
namespace Go.Am.Room
structure MemAt {M:Type} (S:M→St) (obj:List AV) (es:M→List (AV×AV)) (p m N:Nat):Prop where
 len:∀ M,(S M).length=N
 at0:∀ M,aG (S M) p=some obj
 map0:∀ M,(S M)[m]? = some (.map (es M))
 mset:∀ M M',(S M).set m (.map (es M'))=S M'
 ok:∀ M k,aN k (.map (es M))
 pl:p<N
 ml:m<N
namespace MemAt
variable {M:Type} {S:M→St} {obj:List AV} {es:M→List (AV×AV)} {p m N:Nat}
theorem base (h:MemAt S obj es p m N) (A:M) (τ:St) (k:Nat):aG (S A++τ) (N+k)=aG τ k:=by rw [←h.len A];exact qQ _ _ _
theorem base0 (h:MemAt S obj es p m N) (A:M) (τ:St):aG (S A++τ) N=aG τ 0:=h.base A τ 0
theorem bset (h:MemAt S obj es p m N) (A:M) (τ:St) (k:Nat) (x:ABlk):(S A++τ).set (N+k) x=S A++τ.set k x:=by rw [←h.len A];exact nL _ _ _ _
theorem bset0 (h:MemAt S obj es p m N) (A:M) (τ:St) (x:ABlk):(S A++τ).set N x=S A++τ.set 0 x:=h.bset A τ 0 x
theorem at1 (h:MemAt S obj es p m N) (A:M) (τ:St):aG (S A++τ) p=some (obj):=by
 have:=h.at0 A
 have hl:=h.pl
 rw [←h.len A] at hl
 simp only [aG] at this ⊢
 rw [List.getElem?_append_left hl]
 exact this
theorem map1 (h:MemAt S obj es p m N) (A:M) (τ:St):(S A++τ)[m]? = some (.map (es A)):=by
 have hl:=h.ml
 rw [←h.len A] at hl
 rw [List.getElem?_append_left hl]
 exact h.map0 A
theorem mset1 (h:MemAt S obj es p m N) (A B:M) (τ:St):(S A++τ).set m (.map (es B))=S B++τ:=by
 have hl:=h.ml
 rw [←h.len A] at hl
 rw [List.set_append_left _ _ hl,h.mset]
theorem keep (h:MemAt S obj es p m N) (A B:M) (i:Nat) (hi:i≠m):(S B)[i]? = (S A)[i]?:=by
 rw [←h.mset A B,List.getElem?_set_ne (fun e=>hi e.symm)]
theorem kept (h:MemAt S obj es p m N) {A B:M} {σ τ:St} (hσ:σ=S B++τ):∀ i,i<(S A).length→d7 (S A) σ (S A).length i:=by
 intro i hi
 rw [hσ]
 have hl:i<(S B).length:=by rw [h.len] at hi ⊢;exact hi
 by_cases him:i=m
 ·subst him
  refine .inr (.inl ⟨.map (es B),?_,h.ok B _⟩)
  rw [List.getElem?_append_left hl,h.map0]
 ·refine .inl ?_
  rw [List.getElem?_append_left hl,h.keep A B i him]
theorem app (h:MemAt S obj es p m N) (τ:St):MemAt (fun A=>S A++τ) obj es p m (N+τ.length) :=
 ⟨fun A=>by rw [List.length_append,h.len],fun A=>h.at1 A τ,fun A=>h.map1 A τ,fun A B=>h.mset1 A B τ,h.ok,by have:=h.pl;omega,by have:=h.ml;omega⟩
theorem eqS (h:MemAt S obj es p m N) (k:Nat) (A B:M) (x y z:St):EqS k (S A++x) (S B++y) (S B++z)=EqS k x y z:=by
 rw [←h.mset A B]
 exact JO k _ (h.ok B k) _ _ _ _ _
end MemAt
theorem vM {M:Type} {S:M→St} {obj:List AV} {es:M→List (AV×AV)} {p m N:Nat} (hR:MemAt S obj es p m N) {f:FuncId} {first cap args:List AV} {af:AFunc} {v:AV} {A B:M} (hf:T f=some af) (hn:(first++args++cap).length≤af.ntmps)
  (h:wp T af.body (fI 0 (first++args++cap)) (S A) (fun j e σ1=>(j=none∨j=some .ret)∧∃ v0 τ,f9 af.results e σ1=some v0∧σ1=S B++τ∧bS σ1 N 20 v0=some v)):xP T (.func f first cap) args (S A) v (S B):=by
 refine .callf (.call hf hn (gK h fun o ho=>ho) fun o ho=>?_)
 obtain ⟨hj,v0,τ,hres,hσ,h4⟩:=ho
 refine ⟨hj,v0,hres,?_⟩
 unfold bS at h4
 cases hs:snap o.σ N 20 v0 with
 |none=>rw [hs] at h4;cases h4
 |some v1 =>
  rw [hs] at h4
  simp at h4
  refine .inr ⟨20,v1,v,by rw [hR.len];exact hs,.inr h4.symm,hR.kept hσ,?_,rfl,?_⟩
  ·rw [hσ,List.length_append,hR.len,hR.len];omega
  ·rw [hσ,hR.len,←hR.len B,List.take_left]
def bJ {A X:Type} (f:A→X→X×Bool):List A→X→X×Bool
 |[],x=>(x,true)
 |a::az,x=>if (f a x).2=true then bJ f az (f a x).1 else ((f a x).1,false)
theorem vR {A X:Type} (f:A→X→X×Bool):∀ (az bs:List A) (x:X),bJ f (az++bs) x=if (bJ f az x).2=true then bJ f bs (bJ f az x).1 else ((bJ f az x).1,false)
 |[],bs,x=>by simp [bJ]
 |a::az,bs,x=>by
  simp only [List.cons_append,bJ]
  split
  ·exact vR f az bs _
  ·simp
structure Fam {X:Type} (Z ZD:X→St) (obj:List AV) (p q N:Nat):Prop where
 len:∀ x,(Z x).length=N
 lenD:∀ x,(ZD x).length=N
 at0:∀ x,aG (Z x) p=some obj
 atq0:∀ x,aG (Z x) q=some [.ptr p 0]
 keep:∀ x y k i,N≤k→i<N→d7 (Z x) (Z y) k i
 keepD:∀ x y k i,N≤k→i<N→d7 (Z x) (ZD y) k i
 pl:p<N
 ql:q<N
namespace Fam
variable {X:Type} {Z ZD:X→St} {obj:List AV} {p q N:Nat}
theorem base (h:Fam Z ZD obj p q N) (x:X) (τ:St) (k:Nat):aG (Z x++τ) (N+k)=aG τ k:=by rw [←h.len x];exact qQ _ _ _
theorem base0 (h:Fam Z ZD obj p q N) (x:X) (τ:St):aG (Z x++τ) N=aG τ 0:=h.base x τ 0
theorem bset (h:Fam Z ZD obj p q N) (x:X) (τ:St) (k:Nat) (y:ABlk):(Z x++τ).set (N+k) y=Z x++τ.set k y:=by rw [←h.len x];exact nL _ _ _ _
theorem bset0 (h:Fam Z ZD obj p q N) (x:X) (τ:St) (y:ABlk):(Z x++τ).set N y=Z x++τ.set 0 y:=h.bset x τ 0 y
theorem at1 (h:Fam Z ZD obj p q N) (x:X) (τ:St):aG (Z x++τ) p=some obj:=by
 have:=h.at0 x
 have hl:=h.pl
 rw [←h.len x] at hl
 simp only [aG] at this ⊢
 rw [List.getElem?_append_left hl]
 exact this
theorem atq1 (h:Fam Z ZD obj p q N) (x:X) (τ:St):aG (Z x++τ) q=some [.ptr p 0]:=by
 have:=h.atq0 x
 have hl:=h.ql
 rw [←h.len x] at hl
 simp only [aG] at this ⊢
 rw [List.getElem?_append_left hl]
 exact this
def out (Z ZD:X→St) (r:X×Bool):St:=if r.2=true then Z r.1 else ZD r.1
end Fam
theorem MF {A X:Type} (f:A→X→X×Bool) (a:A) (x:X):bJ f [a] x=f a x:=by
 simp only [bJ]
 obtain ⟨y,bb⟩:=f a x
 cases bb<;>simp
structure Fam1 {X:Type} {M:Type} (Z ZD:X→M→St) (obj:List AV) (es:M→List (AV×AV)) (p m q N:Nat):Prop where
 ship:∀ x,MemAt (Z x) obj es p m N
 lenD:∀ x A,(ZD x A).length=N
 atq0:∀ x A,aG (Z x A) q=some [.ptr p 0]
 keep:∀ x A y B k i,N≤k→i<N→d7 (Z x A) (Z y B) k i
 keepD:∀ x A y B k i,N≤k→i<N→d7 (Z x A) (ZD y B) k i
 ql:q<N
 pl:p<N
namespace Fam1
variable {X:Type} {M:Type} {Z ZD:X→M→St} {obj:List AV} {es:M→List (AV×AV)} {p m q N:Nat}
theorem atq1 (h:Fam1 Z ZD obj es p m q N) (x:X) (A:M) (τ:St):aG (Z x A++τ) q=some [.ptr p 0]:=by
 have:=h.atq0 x A
 have hl:=h.ql
 rw [←(h.ship x).len A] at hl
 simp only [aG] at this ⊢
 rw [List.getElem?_append_left hl]
 exact this
def out (Z ZD:X→M→St) (r:X×Bool) (A:M):St:=if r.2=true then Z r.1 A else ZD r.1 A
end Fam1
def uU {X A M:Type} (Z ZD:X→M→St) (id:Nat) (args:A→Bool→Option Nat→List AV) (P:A→Prop) (f:A→X→X×Bool):Prop :=
 ∀ t,P t→∀ (fl:Bool) (tk:Option Nat) x B τ,Run T (.callv (.yield id) (args t fl tk) (Z x B++τ)) fun o=>o.v = .bool (f t x).2∧∃ τ',o.σ=Fam1.out Z ZD (f t x) B++(τ++τ')
theorem UK {X:Type} {M:Type} {S:M→St} {obj:List AV} {es:M→List (AV×AV)} {p m N:Nat} (hS:MemAt S obj es p m N) (U UD:X→St) (n:Nat) (hU:∀ x,(U x).length=n) (hUD:∀ x,(UD x).length=n) (ok:∀ x y,y∈U x→∀ k,N≤k→aN k y) (okD:∀ x y,y∈UD x→∀ k,N≤k→aN k y)
  (env:Env) (ps:List Nat) (a bb:ACode) (st st':LS) (pe pe':Option AJump) :
  Fam1 (fun x A=>S A++(U x++[.cells [.ptr p 0],.loop st pe env ps a bb])) (fun x A=>S A++(UD x++[.cells [.ptr p 0],.loop st' pe' env ps a bb])) obj es p m (N+n) (N+n+2):=by
 have hpl:=hS.pl
 have low:∀ (A B:M) (C D:St) (k i:Nat),i<N→d7 (S A++C) (S B++D) k i:=by
  intro A B C D k i hi
  have e1:(S A++C)[i]? = (S A)[i]?:=List.getElem?_append_left (by rw [hS.len];exact hi)
  have e2:(S B++D)[i]? = (S B)[i]?:=List.getElem?_append_left (by rw [hS.len];exact hi)
  simp only [d7,e1,e2]
  by_cases him:i=m
  ·subst him
   exact .inr (.inl ⟨_,hS.map0 B,hS.ok B k⟩)
  ·exact .inl (hS.keep A B i him)
 have high:∀ (A B:M) (C D:St) (l1 l2:ABlk) (k i:Nat),C.length=n→D.length=n→(∀ y∈D,aN k y)→N≤i→i<N+n+2→(l1=l2∨∃ st pe st' pe' env ps a b,l1 = .loop st pe env ps a b∧l2 = .loop st' pe' env ps a b) →
   d7 (S A++(C++[.cells [.ptr p 0],l1])) (S B++(D++[.cells [.ptr p 0],l2])) k i:=by
  intro A B C D l1 l2 k i hA hB hk h1 h2 hl
  have e1:(S A++(C++[.cells [.ptr p 0],l1]))[i]? = (C++[.cells [.ptr p 0],l1])[i-N]?:=by rw [List.getElem?_append_right (by rw [hS.len];exact h1),hS.len]
  have e2:(S B++(D++[.cells [.ptr p 0],l2]))[i]? = (D++[.cells [.ptr p 0],l2])[i-N]?:=by rw [List.getElem?_append_right (by rw [hS.len];exact h1),hS.len]
  simp only [d7,e1,e2]
  obtain ⟨j,hj⟩:∃ j,i-N=j:=⟨_,rfl⟩
  rw [hj]
  by_cases hjn:j<n
  ·right;left
   have hb:j<D.length:=by omega
   refine ⟨D[j],?_,hk _ (List.getElem_mem hb)⟩
   rw [List.getElem?_append_left hb,List.getElem?_eq_getElem hb]
  ·have:j=n∨j=n+1:=by omega
   rcases this with rfl|rfl
   ·left
    rw [List.getElem?_append_right (by omega),List.getElem?_append_right (by omega),hA,hB]
    simp
   ·rw [List.getElem?_append_right (by omega),List.getElem?_append_right (by omega),hA,hB]
    simp only [Nat.add_sub_cancel_left,List.getElem?_cons_succ,List.getElem?_cons_zero]
    rcases hl with rfl|⟨_,_,_,_,_,_,_,_,rfl,rfl⟩
    ·exact .inl rfl
    ·exact .inr (.inr ⟨_,_,_,_,_,_,_,_,rfl,rfl⟩)
 refine ⟨fun x=>?_,fun x A=>?_,fun x A=>?_,fun x A y B k i hk hi=>?_,fun x A y B k i hk hi=>?_,by omega,by omega⟩
 ·have:=hS.app (U x++[.cells [.ptr p 0],.loop st pe env ps a bb])
  rw [List.length_append,hU] at this
  exact this
 ·simp [hS.len,hUD];omega
 ·have e:N+n=(S A).length+n:=by rw [hS.len]
  rw [e,qQ]
  have:n=(U x).length:=by rw [hU]
  rw [this]
  exact iH _ _
 ·by_cases h:i<N
  ·exact low _ _ _ _ _ _ h
  ·exact high _ _ _ _ _ _ _ _ (hU x) (hU y) (fun z hz=>ok y z hz k (by omega)) (by omega) hi (.inl rfl)
 ·by_cases h:i<N
  ·exact low _ _ _ _ _ _ h
  ·exact high _ _ _ _ _ _ _ _ (hU x) (hUD y) (fun z hz=>okD y z hz k (by omega)) (by omega) hi (.inr ⟨_,_,_,_,_,_,_,_,rfl,rfl⟩)
theorem OT {X A M:Type} {S:M→St} {obj:List AV} {es:M→List (AV×AV)} {p m N:Nat} (hS:MemAt S obj es p m N) (U UD:X→St) (n:Nat) (hU:∀ x,(U x).length=n) (hUD:∀ x,(UD x).length=n)
  (J:AJump) (e:Env) (k:Nat) (ps:List Nat) (a bb:ACode) (g:FuncId) (ek:Env.get e k = .func g [] [.ptr (N+n) 0]) (r:X×Bool) (B':M) (x:X) (B:M)
  (hrun:Run T (.call g [.yield (N+n+1),.ptr (N+n) 0] (S B++(U x++[.cells [.ptr p 0],.loop .ready none e ps a bb]))) fun o=>∃ τ',o.σ=Fam1.out (fun x A=>S A++(U x++[.cells [.ptr p 0],.loop .ready none e ps a bb])) (fun x A=>S A++(UD x++[.cells [.ptr p 0],.loop .done (some J) e ps a bb])) r B'++τ') (K:KJ)
  (hT:∀ τ,r.2=true→K none e (S B'++(U r.1++(.cells [.ptr p 0]::.dead::τ))))
  (hD:∀ τ,r.2=false→K (some J) e (S B'++(UD r.1++(.cells [.ptr p 0]::.dead::τ)))) :
  rK (K:=⟨K⟩) T (.rangeFunc (.t k) ps a bb) e (S B++(U x++[.cells [.ptr p 0]])):=by
 have hlen:(S B++(U x++[ABlk.cells [.ptr p 0]])).length=N+n+1:=by simp [hS.len,hU];omega
 have hout:∀ (A W:St) (lp:ABlk) (τ':St),A.length=N→W.length=n→(A++(W++[ABlk.cells [.ptr p 0],lp])++τ')[N+n+1]? = some lp∧(A++(W++[ABlk.cells [.ptr p 0],lp])++τ').set (N+n+1) .dead=A++(W++(.cells [.ptr p 0]::.dead::τ')):=by
  intro A W lp τ' hA hW
  have h1:N+n+1=(A++W).length+1:=by simp [hA,hW]
  have h2:A++(W++[ABlk.cells [.ptr p 0],lp])++τ'=(A++W)++(.cells [.ptr p 0]::lp::τ'):=by simp
  rw [h1,h2]
  constructor
  ·rw [qG];rfl
  ·rw [nL];simp
 refine EK (by rw [QL,ek]) (by
  rw [hlen,List.append_assoc (S B),List.append_assoc (U x)]
  exact hrun) fun o ho=>?_
 obtain ⟨τ',hσ⟩:=ho
 rw [hlen,hσ]
 cases hr2:r.2
 ·have hD':=hD τ' hr2
  obtain ⟨g1,g2⟩:=hout (S B') (UD r.1) (.loop .done (some J) e ps a bb) τ' (hS.len _) (hUD _)
  simp only [Fam1.out,hr2,Bool.false_eq_true,if_false]
  rw [g1,g2]
  exact ⟨_,_,_,_,_,_,rfl,by simp,hD'⟩
 ·have hT':=hT τ' hr2
  obtain ⟨g1,g2⟩:=hout (S B') (U r.1) (.loop .ready none e ps a bb) τ' (hS.len _) (hU _)
  simp only [Fam1.out,hr2,if_true]
  rw [g1,g2]
  exact ⟨_,_,_,_,_,_,rfl,by simp,hT'⟩
theorem LN {X A M:Type} {S:M→St} {obj:List AV} {es:M→List (AV×AV)} {p m N:Nat} (hS:MemAt S obj es p m N) (U UD:X→St) (n:Nat) (hU:∀ x,(U x).length=n) (hUD:∀ x,(UD x).length=n) (J:AJump) (e:Env) (ps:List Nat) (args:A→Bool→Option Nat→List AV) (hps:∀ t fl tk,ps.length=(args t fl tk).length) (a bb:ACode) {P:A→Prop} {f:A→X→X×Bool}
  (h:∀ t,P t→∀ (fl:Bool) (tk:Option Nat) x B τ,wp T a (jV e ps (args t fl tk)) (S B++(U x++(.cells [.ptr p 0]::.loop .ready none e ps a bb::τ))) (fun j e' σ'=>j=none∧σ'=S B++(U x++(.cells [.ptr p 0]::.loop .ready none e ps a bb::τ)) ∧
   wp T bb e' (S B++(U x++(.cells [.ptr p 0]::.loop .busy none e ps a bb::τ))) (fun j e'' σ''=>((f t x).2=true∧j=none∧∃ τ',σ''=S B++(U (f t x).1++(.cells [.ptr p 0]::.loop .busy none e ps a bb::(τ++τ')))) ∨
    ((f t x).2=false∧j=some J∧∃ τ',σ''=S B++(UD (f t x).1++(.cells [.ptr p 0]::.loop .busy none e ps a bb::(τ++τ'))))))) :
  uU (fun x B=>S B++(U x++[.cells [.ptr p 0],.loop .ready none e ps a bb])) (fun x B=>S B++(UD x++[.cells [.ptr p 0],.loop .done (some J) e ps a bb])) (N+n+1) args P f:=by
 intro t ht fl tk x B τ
 have hget:∀ (A W:St) (lp:ABlk) (υ:St),A.length=N→W.length=n→(A++(W++(ABlk.cells [.ptr p 0]::lp::υ)))[N+n+1]? = some lp:=by
  intro A W lp υ hA hW
  have h1:N+n+1=(A++W).length+1:=by simp [hA,hW]
  rw [h1,←List.append_assoc,qG];rfl
 have hset:∀ (A W:St) (lp l2:ABlk) (υ:St),A.length=N→W.length=n→(A++(W++(ABlk.cells [.ptr p 0]::lp::υ))).set (N+n+1) l2=A++(W++(ABlk.cells [.ptr p 0]::l2::υ)):=by
  intro A W lp l2 υ hA hW
  have h1:N+n+1=(A++W).length+1:=by simp [hA,hW]
  rw [h1,←List.append_assoc,nL]
  simp
 obtain ⟨r,hr⟩:∃ r,f t x=r:=⟨_,rfl⟩
 have h:=h t ht fl tk x B τ
 rw [hr] at h ⊢
 have hst:(fun x B=>S B++(U x++[ABlk.cells [.ptr p 0],.loop .ready none e ps a bb])) x B++τ=S B++(U x++(.cells [.ptr p 0]::.loop .ready none e ps a bb::τ)):=by simp
 rw [hst]
 refine .round (env:=e) (ps:=ps) (a:=a) (b:=bb)
  (R:=fun o=>o.j=none∧o.σ=S B++(U x++(.cells [.ptr p 0]::.loop .ready none e ps a bb::τ))∧wp T bb o.env (S B++(U x++(.cells [.ptr p 0]::.loop .busy none e ps a bb::τ))) (fun j e'' σ''=>(r.2=true∧j=none∧∃ τ',σ''=S B++(U r.1++(.cells [.ptr p 0]::.loop .busy none e ps a bb::(τ++τ')))) ∨
    (r.2=false∧j=some J∧∃ τ',σ''=S B++(UD r.1++(.cells [.ptr p 0]::.loop .busy none e ps a bb::(τ++τ'))))))
  (S:=fun o=>(r.2=true∧o.j=none∧∃ τ',o.σ=S B++(U r.1++(.cells [.ptr p 0]::.loop .busy none e ps a bb::(τ++τ'))))∨(r.2=false∧o.j=some J∧∃ τ',o.σ=S B++(UD r.1++(.cells [.ptr p 0]::.loop .busy none e ps a bb::(τ++τ'))))) (hget _ _ _ _ (hS.len _) (hU _)) (by rw [hps t fl tk]) (gK h fun o ho=>ho) ?_ ?_ ?_
 ·rintro o ⟨hj,hσ,_⟩
  exact ⟨hj,by rw [hσ];exact hget _ _ _ _ (hS.len _) (hU _)⟩
 ·rintro o ⟨_,hσ,hw⟩
  rw [hσ,hset _ _ _ _ _ (hS.len _) (hU _)]
  exact gK hw fun o ho=>ho
 ·rintro o (⟨hr2,hj,τ',hσ⟩|⟨hr2,hj,τ',hσ⟩)
  ·rw [hσ,hj,hget _ _ _ _ (hS.len _) (hU _),hset _ _ _ _ _ (hS.len _) (hU _)]
   refine ⟨rfl,by rw [hr2];rfl,τ',?_⟩
   simp [Fam1.out,hr2]
  ·rw [hσ,hj,hget _ _ _ _ (hS.len _) (hUD _),hset _ _ _ _ _ (hS.len _) (hUD _)]
   refine ⟨rfl,by rw [hr2];rfl,τ',?_⟩
   simp [Fam1.out,hr2]
theorem zO {A X:Type} {f:A→X→X×Bool} (h:∀ a x,(f a x).2=true):∀ (l:List A) (x:X),bJ f l x=(l.foldl (fun x a=>(f a x).1) x,true)
 |[],x=>rfl
 |a::az,x=>by simp only [bJ,h,if_true,List.foldl_cons];exact zO h az _
end Go.Am.Room
namespace Go.Am.Room
def dG (fine:Nat→Bool):Nat→Nat×Nat→Nat×Nat
 |0,x=>x
 |k+1,x=>if fine k=true then (AD (dG fine k x).1 (2^k),(dG fine k x).2) else ((dG fine k x).1,(dG fine k x).2|||2^k)
theorem oA (fine:Nat→Bool) {n:Nat} {x:Nat×Nat} (h:x.1<2^n∧x.2<2^n):∀ k,k≤n→(dG fine k x).1<2^n∧(dG fine k x).2<2^n
 |0,_=>h
 |k+1,hk=>by
  obtain ⟨h1,h2⟩:=oA fine h k (by omega)
  simp only [dG]
  split
  ·exact ⟨Nat.lt_of_le_of_lt (IR _ _) h1,h2⟩
  ·exact ⟨h1,Nat.or_lt_two_pow h2 (Nat.pow_lt_pow_right (by omega) (by omega))⟩
theorem zR (fine:Nat→Bool) {n:Nat} (hn:n≤60) {x:Nat×Nat} (h:x.1<2^n∧x.2<2^n) (i:Nat):∀ k,k≤n→(dG fine k x).1.testBit i=(x.1.testBit i&&!(decide (i<k)&&fine i))∧(dG fine k x).2.testBit i=(x.2.testBit i||(decide (i<k)&&!fine i))
 |0,_=>by simp [dG]
 |k+1,hk=>by
  obtain ⟨h1,h2⟩:=zR fine hn h i k (by omega)
  obtain ⟨l1,l2⟩:=oA fine h k (by omega)
  have hp:=i9 (show k≤60 by omega)
  have hpn:=i9 hn
  simp only [dG]
  by_cases e:i=k
  ·subst e
   cases hf:fine i
   ·simp only [Bool.false_eq_true,if_false]
    rw [Nat.testBit_or,h1,h2,Nat.testBit_two_pow_self]
    simp
   ·simp only [if_true]
    rw [DQ (by omega) _ _ (by omega),h1,h2,Nat.testBit_two_pow_self]
    simp
  ·have hd:decide (i<k+1)=decide (i<k):=by rw [decide_eq_decide];omega
   split
   ·rw [DQ (by omega) _ _ (by omega),h1,h2,Nat.testBit_two_pow_of_ne (Ne.symm e),hd]
    simp
   ·rw [Nat.testBit_or,h1,h2,Nat.testBit_two_pow_of_ne (Ne.symm e),hd]
    simp
abbrev B64:={ x:Nat×Nat // x.1<2^6∧x.2<2^6 }
def nA {A:Type} (fine:A→Nat→Bool) (n:Nat) (a:A) (x:B64):B64×Bool:=if hn:n≤6 then (⟨dG (fine a) n x.1,oA (fine a) x.2 n hn⟩,true) else (x,true)
theorem zT {A:Type} (fine:A→Nat→Bool) (n:Nat) (a:A) (x:B64):(nA fine n a x).2=true:=by unfold nA;split<;>rfl
theorem u0 {A:Type} (fine:A→Nat→Bool) {n:Nat} (hn:n≤6) (a:A) (x:B64):(nA fine n a x).1.1=dG (fine a) n x.1:=by unfold nA;rw [dif_pos hn]
def lB {A:Type} (fine:A→Nat→Bool) (n:Nat) (l:List A) (x:B64):B64:=l.foldl (fun x a=>(nA fine n a x).1) x
theorem u5 {A:Type} (fine:A→Nat→Bool) {n:Nat} (hn:n≤6) {i:Nat} (hi:i<n):∀ (l:List A) (x:B64),(lB fine n l x).1.1.testBit i=(x.1.1.testBit i&&l.all fun a=>!fine a i)∧(lB fine n l x).1.2.testBit i=(x.1.2.testBit i||l.any fun a=>!fine a i)
 |[],x=>by simp [lB]
 |a::l,x=>by
  obtain ⟨h1,h2⟩:=u5 fine hn hi l (nA fine n a x).1
  obtain ⟨q1,q2⟩:=zR (fine a) (n:=6) (by omega) x.2 i n hn
  simp only [lB,List.foldl_cons,List.all_cons,List.any_cons] at h1 h2 ⊢
  rw [h1,h2,u0 fine hn,q1,q2]
  simp only [hi,decide_true,Bool.true_and]
  exact ⟨by rw [Bool.and_assoc],by rw [Bool.or_assoc]⟩
def j4 (n:Nat) (hn:n≤6):B64:=⟨(2^n-1,0),by
 have:2^n≤2^6:=Nat.pow_le_pow_right (by omega) hn
 have:=Nat.two_pow_pos n
 exact ⟨by simp only;omega,by simp⟩⟩
theorem ES {A:Type} (fine:A→Nat→Bool) {n:Nat} (hn:n≤6) (l:List A):lst n (lB fine n l (j4 n hn)).1.1=(aO 0 n).filter (fun i=>l.all fun a=>!fine a i.toNat)∧lst n (lB fine n l (j4 n hn)).1.2=(aO 0 n).filter (fun i=>l.any fun a=>!fine a i.toNat):=by
 simp only [lst]
 constructor
 ·refine List.filter_congr fun x hx=>?_
  have hxr:=(cA _ _ _).1 hx
  have hi:x.toNat<n:=by omega
  rw [←uW,(u5 fine hn hi l _).1]
  simp only [j4,Nat.testBit_two_pow_sub_one,hi,decide_true,Bool.true_and]
 ·refine List.filter_congr fun x hx=>?_
  have hxr:=(cA _ _ _).1 hx
  have hi:x.toNat<n:=by omega
  rw [←uW,(u5 fine hn hi l _).2]
  simp only [j4,Nat.zero_testBit,Bool.false_or]
def fW (v:Net) (c:List Int) (t:Nat):Bool:=jT v t (fL (cQ v c) t)
theorem FI {v:Net} {bl:List Int} {t:Nat}:∀ s∈bZ v bl,CZ v (t:Int) s = !fW v (qM s) t:=fun s hs=>by
 have hl:=rS hs
 simp only [CZ,fW,nT (show s.closed.length=s.mins.length by omega),Int.toNat_natCast]
theorem D5 {v:Net} (hv:Vd v) (h3:v.trams.length≤6):lst v.trams.length (lB (fW v) v.trams.length (TL v []) (j4 _ h3)).1.1=NI v (bZ v [])∧lst v.trams.length (lB (fW v) v.trams.length (TL v []) (j4 _ h3)).1.2=EG v (bZ v []):=by
 obtain ⟨h1,h2⟩:=ES (fW v) h3 (TL v [])
 rw [h1,h2,NI,EG]
 constructor
 ·refine List.filter_congr fun x hx=>?_
  have hxr:=(cA _ _ _).1 hx
  obtain ⟨t,rfl⟩:∃ t:Nat,x=t:=⟨x.toNat,by omega⟩
  rw [FC,Int.toNat_natCast]
  exact (H2 hv [] _ _ FI).symm
 ·refine List.filter_congr fun x hx=>?_
  have hxr:=(cA _ _ _).1 hx
  obtain ⟨t,rfl⟩:∃ t:Nat,x=t:=⟨x.toNat,by omega⟩
  rw [CR,Int.toNat_natCast]
  exact (O8 hv [] _ _ FI).symm
def gY (c:List Int) (r:Nat):Bool:=!((c[r]?).getD 0==0)
theorem yT {v:Net} (hv:Vd v) {bl:List Int} {r:Nat} (hr:r<v.rails.length):∀ s∈bZ v bl,tV (r:Int) s = !gY (qM s) r:=fun s hs=>by
 have hs1:=(List.mem_filter.1 hs).1
 have hl:=oK hs1
 have hst:∀ k,k≤v.rails.length→∀ s∈y0 v.rails k,∀ i,i<k→1≤(s.mins[i]?).getD 0:=by
  intro k
  induction k with
  |zero=>intro _ s _ i hi;omega
  |succ k ih =>
   intro hk s h i hi
   have hk1:k<v.rails.length:=by omega
   simp only [y0,List.getElem?_eq_getElem hk1,List.mem_flatMap,O6,List.mem_map,List.mem_filter] at h
   obtain ⟨s0,hs0,m,hm,c,_,rfl⟩:=h
   have hl0:=(xZ k (by omega) s0 hs0).2.1
   by_cases e:i=k
   ·subst e
    rw [xR hl0]
    have:=(hv.ra _ (List.getElem_mem hk1)).mins
    have:=oM.1 hm
    omega
   ·rw [List.getElem?_append_left (by omega)]
    exact ih (by omega) s0 hs0 i (by omega)
 have hm:=hst v.rails.length (Nat.le_refl _) s hs1 r hr
 have he:=congrFun (G5 (s:=s) (by omega)) (r:Int)
 simp only [rlI,Int.toNat_natCast] at he
 simp only [gY,←he,eff,tV,Int.toNat_natCast,Bool.not_not]
 split
 ·rename_i h;rw [h];rfl
 ·rename_i h
  rw [Bool.not_eq_true] at h
  rw [h]
  symm
  simp only [beq_eq_false_iff_ne]
  omega
theorem OU {v:Net} (hv:Vd v) (h6:v.rails.length≤6):lst v.rails.length (lB gY v.rails.length (TL v []) (j4 _ h6)).1.1=N0 v (bZ v [])∧lst v.rails.length (lB gY v.rails.length (TL v []) (j4 _ h6)).1.2=YD v (bZ v []):=by
 obtain ⟨h1,h2⟩:=ES gY h6 (TL v [])
 rw [h1,h2,N0,YD]
 constructor
 ·refine List.filter_congr fun x hx=>?_
  have hxr:=(cA _ _ _).1 hx
  obtain ⟨t,rfl⟩:∃ t:Nat,x=t:=⟨x.toNat,by omega⟩
  rw [Int.toNat_natCast]
  exact (H2 hv [] _ _ (yT hv (by omega))).symm
 ·refine List.filter_congr fun x hx=>?_
  have hxr:=(cA _ _ _).1 hx
  obtain ⟨t,rfl⟩:∃ t:Nat,x=t:=⟨x.toNat,by omega⟩
  rw [Int.toNat_natCast]
  exact (O8 hv [] _ _ (yT hv (by omega))).symm
def AB (v:Net) (l:List (List Int)) (t:Nat):List Int:=l.map fun c=>fL (cQ v c) t
theorem RN {v:Net} (hv:Vd v) (bl:List Int) (t:Nat) (x:Int):x∈I3 v (bZ v bl) t↔x∈AB v (TL v bl) t:=by
 simp only [I3,AB,List.mem_map]
 constructor
 ·rintro ⟨s,hs,rfl⟩
  have hl:=rS hs
  exact ⟨_,t8 hs,by rw [nT (by omega)]⟩
 ·rintro ⟨c,hc,rfl⟩
  obtain ⟨s,hs,rfl⟩:=rD hv hc
  have hl:=rS hs
  exact ⟨s,hs,by rw [nT (by omega)]⟩
theorem HL {l k:List Int} (h:∀ x,x∈l↔x∈k):oZ l=oZ k:=by
 have h1:fM (eG l)=fM (eG k):=MU fun x=>by simp only [eG,List.mem_filter,h]
 have h2:d9 (eG l).length l.length=d9 (eG k).length k.length:=IJ (fun x hx=>⟨x,(h x).1 hx,rfl⟩) (fun x hx=>⟨x,(h x).2 hx,rfl⟩)
 rw [oZ,oZ,h1,h2]
def QU (a:Int) (x:Span×Bool×Bool):Span×Bool×Bool:=if a = -1 then (x.1,x.2.1,true) else if x.2.1=false then (⟨a,a⟩,true,x.2.2) else (kA x.1 a,true,x.2.2)
theorem GM (l:List Int) (a:Int):fM (l++[a])=if l=[] then ⟨a,a⟩ else kA (fM l) a:=by
 cases l with
 |nil=>simp [fM]
 |cons x l=>simp [fM,List.foldl_append]
theorem N1 (l:List Int):∀ (k:List Int),l.foldl (fun x a=>QU a x) (fM (eG k),!(eG k).isEmpty,k.contains (-1))=(fM (eG (k++l)),!(eG (k++l)).isEmpty,(k++l).contains (-1)):=by
 induction l with
 |nil=>intro k;simp
 |cons a l ih =>
  intro k
  rw [List.foldl_cons,show k++a::l=(k++[a])++l by simp,←ih (k++[a])]
  congr 1
  simp only [eG,List.filter_append,QU]
  by_cases h:a = -1
  ·subst h;simp
  ·have hc:(k++[a]).contains (-1)=k.contains (-1):=by
    rw [Bool.eq_iff_iff,List.contains_iff_mem,List.contains_iff_mem]
    simp;omega
   have hf:[a].filter (fun c=>!decide (c = -1))=[a]:=by simp [h]
   rw [hf,hc,GM,if_neg h]
   by_cases h2:k.filter (fun c=>!decide (c = -1))=[]
   ·simp [h2]
   ·have:(k.filter (fun c=>!decide (c = -1))).isEmpty=false:=by simpa using h2
    simp [h2,this]
theorem R6 (l:List Int):l.foldl (fun x a=>QU a x) (⟨0,0⟩,false,false)=(fM (eG l),!(eG l).isEmpty,l.contains (-1)):=N1 l []
theorem EX {l:List Int} (h:l≠[]):d9 (eG l).length l.length=if l.contains (-1)=false then 1 else if (eG l).isEmpty=true then 2 else 0:=by
 have h1:d9 (eG l).length l.length=1↔∀ x∈l,(!decide (x = -1))=true:=pV
 have h2:d9 (eG l).length l.length=2↔l≠[]∧∀ x∈l,(!decide (x = -1))=false:=rA
 have h3:=nI (eG l).length l.length
 have he:(eG l).isEmpty=true↔∀ x∈l,(!decide (x = -1))=false:=by
  rw [List.isEmpty_iff,eG,List.filter_eq_nil_iff]
  simp
 by_cases a:l.contains (-1)=false
 ·rw [if_pos a]
  refine h1.2 fun x hx=>?_
  simp only [Bool.not_eq_true',decide_eq_false_iff_not]
  rintro rfl
  rw [←Bool.not_eq_true,List.contains_iff_mem] at a
  exact a hx
 ·rw [if_neg a]
  have n1:¬d9 (eG l).length l.length=1:=by
   rw [h1]
   intro q
   rw [Bool.not_eq_false,List.contains_iff_mem] at a
   have:=q _ a
   simp at this
  by_cases b:(eG l).isEmpty=true
  ·rw [if_pos b]
   exact h2.2 ⟨h,he.1 b⟩
  ·rw [if_neg b]
   rcases h3 with h3|h3|h3
   ·exact h3
   ·exact absurd h3 n1
   ·exact absurd (he.2 (h2.1 h3).2) b
def k7 (f:Nat→Int) (i:Nat) (v:Int):Nat→Int:=fun j=>if j=i then v else f j
def bC (n:Nat) (f:Nat→Int):List AV:=(List.range n).map fun i=>.int .i64 (f i)
theorem dO (n:Nat) (f:Nat→Int):(bC n f).length=n:=by simp [bC]
theorem iO (n:Nat) (f:Nat→Int) {i:Nat} (h:i<n):(bC n f)[i]? = some (.int .i64 (f i)):=by simp [bC,h]
theorem GS {n:Nat} {f g:Nat→Int} (h:∀ i,i<n→f i=g i):bC n f=bC n g:=by
 refine List.map_congr_left fun i hi=>?_
 rw [h i (by simpa using hi)]
theorem pN (n:Nat) (f:Nat→Int) (v:Int) {i:Nat} (h:i<n):(bC n f).take i++[AV.int .i64 v]++(bC n f).drop (i+1)=bC n (k7 f i v):=by
 have h1:(bC n f).take i++[AV.int .i64 v]++(bC n f).drop (i+1)=(bC n f).set i (.int .i64 v):=by
  rw [List.set_eq_take_append_cons_drop,if_pos (by rw [dO];exact h)];simp
 rw [h1]
 refine List.ext_getElem? fun j=>?_
 by_cases hj:j<n
 ·rw [iO n _ hj,List.getElem?_set]
  by_cases e:i=j
  ·subst e;simp [dO,hj,k7]
  ·rw [if_neg e,iO n _ hj];simp [k7,show ¬j=i from fun q=>e q.symm]
 ·rw [List.getElem?_eq_none (by rw [List.length_set,dO];omega),List.getElem?_eq_none (by rw [dO];omega)]
theorem lV (n:Nat) (f:Nat→Int):mI (bC n f):=dE (enc:=fun i:Nat=>AV.int .i64 (f i)) (fun i=>c9 _ _) (List.range n)
instance (n:Nat) (f:Nat→Int):Dats (bC n f):=⟨lV n f⟩
theorem CM (n:Nat) (f:Nat→Int) (m:Nat):okVs m (bC n f):=E7 (lV n f) m
theorem jY (n:Nat) (f:Nat→Int) (σ:St) (m d:Nat):cN σ m d (bC n f)=some (bC n f):=m4 (lV n f) σ m d
theorem eN (n:Nat) (f:Nat→Int):bK (bC n f)=true:=ZB _ _ fun i=>by simp [AV.cell]
theorem eR (n:Nat) (f:Nat→Int):(bC n f).take n=bC n f:=List.take_of_length_le (by rw [dO];exact Nat.le_refl n)
theorem eQ (n:Nat) (f:Nat→Int):(bC n f).drop n=[]:=List.drop_eq_nil_of_le (by rw [dO];exact Nat.le_refl n)
theorem F3 (f g:Nat→Int):∀ l:List Nat,a9 (List.replicate l.length .i) (l.map fun i=>.int .i64 (f i)) (l.map fun i=>.int .i64 (g i))=some (l.all fun i=>f i==g i)
 |[]=>rfl
 |x::l=>by
  simp only [List.length_cons,List.replicate_succ,List.map_cons,QI,VF,F3 f g l,N3,List.all_cons]
theorem JR (n:Nat) (f g:Nat→Int):a9 (List.replicate n .i) (bC n f) (bC n g)=some ((List.range n).all fun i=>f i==g i):=by
 have:=F3 f g (List.range n)
 rwa [List.length_range] at this
section
variable {K:Type} [DecidableEq K]
def mH (M:List K) (w:K):List K:=if w∈M then M else M++[w]
structure KeyIs (sh:EqTy) (enc val:K→AV):Prop where
 eq:∀ w x,iU sh (enc w) (enc x)=some (decide (w=x))
 dk:∀ w,kQ (enc w)
 dv:∀ w,kQ (val w)
variable {sh:EqTy} {enc val:K→AV}
def pA (enc val:K→AV) (M:List K):List (AV×AV):=M.map fun w=>(enc w,val w)
theorem J0 (h:KeyIs sh enc val) (w:K):∀ M:List K,findKey sh (enc w) (pA enc val M)=some (if w∈M then some (val w) else none)
 |[]=>by simp [pA,findKey]
 |x::M=>by
  have ih:=J0 h w M
  simp only [pA,List.map_cons,findKey,h.eq] at ih ⊢
  by_cases e:w=x
  ·subst e;simp
  ·simp only [e,decide_false,ih,List.mem_cons,false_or]
theorem M9 (h:KeyIs sh enc val) (w:K):∀ M:List K,w∉M→mE sh (enc w) (val w) (pA enc val M)=some (pA enc val (M++[w]))
 |[],_=>by simp [pA,mE]
 |x::M,hn=>by
  have ih:=M9 h w M (fun q=>hn (List.mem_cons_of_mem _ q))
  have hx:w≠x:=fun e=>hn (by rw [e];simp)
  simp only [pA,List.map_cons,mE,h.eq,List.cons_append] at ih ⊢
  simp only [hx,decide_false,ih,Option.map_some]
theorem WY (h:KeyIs sh enc val) (M:List K) (k:Nat):aN k (.map (pA enc val M)):=by
 simp only [aN,pA]
 intro q hq
 obtain ⟨w,hw,rfl⟩:=List.mem_map.1 hq
 exact ⟨xG (h.dk w) k,xG (h.dv w) k⟩
variable {S:List K→St} {obj:List AV} {p m N:Nat}
theorem SQ (hk:KeyIs sh enc val) (h:MemAt S obj (pA enc val) p m N) (M:List K) (τ:St) (w:K):sY sh (S M++τ) (.map m) (enc w)=some (if w∈M then some (val w) else none):=by
 simp only [sY,h.map1,J0 hk,hk.eq]
 simp
theorem XQ (hk:KeyIs sh enc val) (h:MemAt S obj (pA enc val) p m N) (M:List K) (τ:St) (w:K) (hw:w∉M):w4 sh (S M++τ) (.map m) (enc w) (val w)=some (S (M++[w])++τ):=by
 simp only [w4,hk.eq,h.map1,M9 hk w M hw,Option.map_some,h.mset1]
 simp
end
end Go.Am.Room
set_option maxRecDepth 4000
namespace Go.Am.Room
def qU (x:List Int×List Int×Int):AV:=.tuple [ints x.1,ints x.2.1,.int .i64 x.2.2]
def zM (x:Int×Int):AV:=.tuple [.int .i64 x.1,.int .i64 x.2]
def qW (x:Span×Int×Int):AV:=.tuple [o4 x.1,.int .i64 x.2.1,.int .i64 x.2.2]
end Go.Am.Room
set_option maxRecDepth 4000
namespace Go.Am.Room
theorem DY {n:Nat} {k:Nat} (h:k<n) (p:Int→Bool):(aO (k:Int) ((n:Int)-k).toNat).filter p=(if p (k:Int)=true then [(k:Int)] else [])++(aO ((k+1:Nat):Int) ((n:Int)-((k+1:Nat):Int)).toNat).filter p:=by
 rw [oO (by omega),List.filter_cons,show (k:Int)+1=((k+1:Nat):Int) by omega]
 split<;>rfl
theorem NA {n k:Nat} (h:k=n) (p:Int→Bool):(aO (k:Int) ((n:Int)-k).toNat).filter p=[]:=by
 rw [lL (by omega)];rfl
theorem C7 {v:Net} {l:List Int} {k:Nat} (h:k<l.length) (b:Int):iT v (l.drop k) b=iT v (l.drop (k+1)) (if b<0∨wB v l[k].toNat<wB v b.toNat then l[k] else b):=by
 rw [List.drop_eq_getElem_cons h,iT]
theorem OJ {v:Net} {t:Nat} (h:t<v.trams.length):wB v t=v.trams[t].due:=by simp [wB,h]
theorem SU {v:Net} {l:List State}:∀ t∈EG v l,0≤t∧t<v.trams.length:=fun t ht=>by
 have:=(cA _ _ _).1 (List.mem_filter.1 ht).1
 omega
theorem N2 (v:Net) (l:List State):(EG v l).length≤v.trams.length:=by
 have:=List.length_filter_le (CR v l) (aO 0 v.trams.length)
 rw [mW] at this
 exact this
end Go.Am.Room
set_option maxRecDepth 4000
namespace Go.Am.Room
instance (l:List (List (List Int))):Dats (l.map dD):=⟨dE sR l⟩
theorem bF (l:List (List Int)):dD l = .lit (l.map ints) false none:=by simp only [dD]
def t9 (x:List (List Int)×List Int×Int):AV:=.tuple [dD x.1,ints x.2.1,.int .i64 x.2.2]
def nD (v:Net) (cs:List Int) (n:Nat):Bool:=(List.range n).all fun t=>jT v t (fL cs t)
theorem FP (v:Net) (cs:List Int) (n:Nat):nD v cs (n+1)=(nD v cs n&&jT v n (fL cs n)):=by simp [nD,List.range_succ,List.all_append]
theorem KW {v:Net} {cs:List Int} {k:Nat} (h:nD v cs k=false) {j:Nat} (hj:k≤j):nD v cs j=false:=by
 simp only [nD,List.all_eq_false,List.mem_range] at h ⊢
 obtain ⟨a,ha,h1⟩:=h
 exact ⟨a,by omega,h1⟩
theorem A4 {v:Net} {t:Nat} {z:Tram} (h:v.trams[t]? = some z) (c:Int):jT v t c=(!decide (c = -1)&&decide (c≤z.due)):=by simp only [jT,wB,h]
theorem GF {v:Net} {t:Nat} (h:t<v.trams.length):eE (lY v) t=v.trams[t].path:=by simp [eE,lY,h]
theorem JG {ps:List (List Int)} {t:Nat} (h:t<ps.length):eE ps t=ps[t]:=by simp [eE,h]
def Q3 (v:Net) (ps:List (List Int)) (t:Int):Bool:=!decide (eE ps t.toNat=eE (lY v) t.toNat)
theorem w8 {v:Net} {t:Nat} (h:t<v.trams.length):fK v t=v.trams[t].frm:=by simp [fK,h]
end Go.Am.Room
set_option maxRecDepth 4000
namespace Go.Am.Room
instance (l:List (List Int)):Dats (l.map ints):=⟨dE jA l⟩
def JZ (x:List Int×Int):AV:=.tuple [ints x.1,.int .i64 x.2]
def sX (x:Int×Int×Int):AV:=.tuple [.int .i64 x.1,.int .i64 x.2.1,.int .i64 x.2.2]
theorem rN {v:Net} (h:fG v=0):Vd v∧bZ v []≠[]:=by
 have hta:fG v=gZ v (cF v).2.2:=rfl
 rw [hta,gZ] at h
 split at h
 ·rename_i q
  refine ⟨g7 q,fun e=>?_⟩
  rw [e] at h;simp at h
 ·rename_i q;exact absurd h q
end Go.Am.Room
set_option maxRecDepth 4000
namespace Go.Am.Room
def mY (v:Net) (r:Int) (k:Nat):Nat:=((List.range k).filter fun t=>(bW v (fK v t) [r]).isEmpty).length
theorem xY (v:Net) (r:Int) (k:Nat):mY v r (k+1)=mY v r k+(if (bW v (fK v k) [r]).isEmpty=true then 1 else 0):=by
 rw [mY,List.range_succ,List.filter_append,List.length_append,mY]
 by_cases e:(bW v (fK v k) [r]).isEmpty=true
 ·simp [e]
 ·simp [e]
theorem DV (v:Net) (r:Int) (k:Nat):mY v r k≤k:=by
 have:=List.length_filter_le (fun t=>(bW v (fK v t) [r]).isEmpty) (List.range k)
 rw [List.length_range] at this
 exact this
theorem wG {v:Net} {k:Nat} (h:k<v.rails.length) (b:Int×Int):nF v (aO (k:Int) ((v.rails.length:Int)-k).toNat) b=nF v (aO ((k+1:Nat):Int) ((v.rails.length:Int)-((k+1:Nat):Int)).toNat) (if v.rails[k].shut=1 then b else if b.1<0∨b.2<eV v k then ((k:Int),eV v k) else b):=by
 rw [oO (by omega),nF,show (k:Int)+1=((k+1:Nat):Int) by omega,wY h]
end Go.Am.Room
set_option maxRecDepth 4000
namespace Go.Am.Room
def mF {α:Type} (p:α→Bool):List α→Nat→Int
 |[],_=>-1
 |x::xs,k=>if p x then k else mF p xs (k+1)
theorem uZ {α:Type} (p:α→Bool):∀ (l:List α) (k:Nat),decide (0≤mF p l k)=l.any p
 |[],k=>by simp [mF]
 |x::xs,k=>by
  cases h:p x
  ·simp [mF,h,uZ p xs (k+1)]
  ·simp [mF,h]
theorem LH (σ:St) (f:AV) (l:List Int) (p:Int→Bool) (hl:l.length<9223372036854775808) (hk:sI σ f) (h:∀ x∈l,iG T f [.int .i64 x] σ (.bool (p x))):iG T (.func 114 [] []) [ints l,f] σ (.int .i64 (mF p l 0)):=by
 refine dX (af:=a114) rfl (by simp [a114]) ?_
 have hk0:=hk.nil
 (repeat (first|simp only [↓QA,QB,Nat.reduceLT,reduceIte,Nat.reduceEqDiff,Nat.reduceAdd,Nat.reduceLeDiff,Nat.reduceMul,Nat.reduceBEq,a114]|refine rd0 rfl ?_))
 refine dJ (S:=Nat) 0 (fun k=>k≤l.length∧mF p (l.drop k) k=mF p l 0) (fun k=>l.length-k) (fun k=>[(0,ints l),(1,f),(7,.int .i64 l.length),(8,.int .i64 k)]) (fun _=>σ) ⟨Nat.zero_le _,by simp⟩ rfl ?_ fun k hk1=>?_
 ·try simp only [aD,QE,Nat.reduceLT,reduceIte,Nat.reduceEqDiff,Nat.reduceAdd,Nat.reduceLeDiff,Nat.reduceMul,Nat.reduceBEq]
  try simp
 ·obtain ⟨hkl,hi⟩:=hk1
  (repeat (first|simp only [↓QA,QB,Nat.reduceLT,reduceIte,Nat.reduceEqDiff,Nat.reduceAdd,Nat.reduceLeDiff,Nat.reduceMul,Nat.reduceBEq,NU]|refine rd0 rfl ?_))
  refine aI (fun hd=>?_) fun hd=>?_
  ·have hlt:k<l.length:=by simpa using hd
   rw [List.drop_eq_getElem_cons hlt] at hi
   simp only [mF] at hi
   have hw:=cM hlt hl
   (repeat (first|simp only [↓QA,QB,Nat.reduceLT,reduceIte,Nat.reduceEqDiff,Nat.reduceAdd,Nat.reduceLeDiff,Nat.reduceMul,Nat.reduceBEq,hlt]|refine rd0 rfl ?_))
   refine bM (h l[k] (List.getElem_mem hlt)) ?_
   (repeat (first|simp only [↓QA,QB,Nat.reduceLT,reduceIte,Nat.reduceEqDiff,Nat.reduceAdd,Nat.reduceLeDiff,Nat.reduceMul,Nat.reduceBEq]|refine rd0 rfl ?_))
   cases hp:p l[k]
   ·(repeat (first|simp only [↓QA,QB,Nat.reduceLT,reduceIte,Nat.reduceEqDiff,Nat.reduceAdd,Nat.reduceLeDiff,Nat.reduceMul,Nat.reduceBEq,hw]|refine rd0 rfl ?_))
    refine ⟨k+1,⟨by omega,by rw [←hi,hp];rfl⟩,by omega,?_⟩
    try simp only [aD,QE,Nat.reduceLT,reduceIte,Nat.reduceEqDiff,Nat.reduceAdd,Nat.reduceLeDiff,Nat.reduceMul,Nat.reduceBEq,hw,hk0,Nat.le_refl]
   ·(repeat (first|simp only [↓QA,QB,Nat.reduceLT,reduceIte,Nat.reduceEqDiff,Nat.reduceAdd,Nat.reduceLeDiff,Nat.reduceMul,Nat.reduceBEq]|refine rd0 rfl ?_))
    refine eH [] (by first|rfl|simp) ?_
    rw [←hi,hp]
    try simp only [QS,QC,Nat.reduceLT,reduceIte,Nat.reduceEqDiff,Nat.reduceAdd,Nat.reduceLeDiff,Nat.reduceMul,Nat.reduceBEq]
  ·have hlt:k=l.length:=by simp at hd;omega
   (repeat (first|simp only [↓QA,QB,Nat.reduceLT,reduceIte,Nat.reduceEqDiff,Nat.reduceAdd,Nat.reduceLeDiff,Nat.reduceMul,Nat.reduceBEq]|refine rd0 rfl ?_))
   refine eH [] (by first|rfl|simp) ?_
   rw [←hi,hlt,List.drop_length]
   try simp only [QS,QC,Nat.reduceLT,reduceIte,Nat.reduceEqDiff,Nat.reduceAdd,Nat.reduceLeDiff,Nat.reduceMul,Nat.reduceBEq,mF]
theorem o6 (σ:St) (f:AV) (l:List Int) (p:Int→Bool) (hl:l.length<9223372036854775808) (hk:sI σ f) (h:∀ x∈l,iG T f [.int .i64 x] σ (.bool (p x))):iG T (.func 98 [] []) [ints l,f] σ (.bool (l.any p)):=by
 refine dX (af:=a98) rfl (by simp [a98]) ?_
 (repeat (first|simp only [↓QA,QB,Nat.reduceLT,reduceIte,Nat.reduceEqDiff,Nat.reduceAdd,Nat.reduceLeDiff,Nat.reduceMul,Nat.reduceBEq,a98]|refine rd0 rfl ?_))
 refine bM (LH σ f l p hl hk h) ?_
 (repeat (first|simp only [↓QA,QB,Nat.reduceLT,reduceIte,Nat.reduceEqDiff,Nat.reduceAdd,Nat.reduceLeDiff,Nat.reduceMul,Nat.reduceBEq]|refine rd0 rfl ?_))
 refine eH [] (by first|rfl|simp) ?_
 rw [←uZ p l 0]
 try simp only [QS,QC,Nat.reduceLT,reduceIte,Nat.reduceEqDiff,Nat.reduceAdd,Nat.reduceLeDiff,Nat.reduceMul,Nat.reduceBEq]
def kE (lo hi n:Int):Bool:=decide (n<lo)||decide (hi<n)
theorem HN (lo hi n:Int):iG T (.func 99 [] [.ptr 0 0,.ptr 1 0]) [.int .i64 n] [.cells [.int .i64 lo],.cells [.int .i64 hi]] (.bool (kE lo hi n)):=by
 refine dX (af:=a99) rfl (by simp [a99]) ?_
 (repeat (first|simp only [↓QA,QB,Nat.reduceLT,reduceIte,Nat.reduceEqDiff,Nat.reduceAdd,Nat.reduceLeDiff,Nat.reduceMul,Nat.reduceBEq,a99]|refine rd0 rfl ?_))
 refine aI (fun h=>?_) fun h=>?_
 all_goals
  (repeat (first|simp only [↓QA,QB,Nat.reduceLT,reduceIte,Nat.reduceEqDiff,Nat.reduceAdd,Nat.reduceLeDiff,Nat.reduceMul,Nat.reduceBEq,h]|refine rd0 rfl ?_))
  refine eH [] (by first|rfl|simp) ?_
  try simp only [QS,QC,Nat.reduceLT,reduceIte,Nat.reduceEqDiff,Nat.reduceAdd,Nat.reduceLeDiff,Nat.reduceMul,Nat.reduceBEq,kE,h]
  try simp
def nK (lo hi:Int) (ns:List Int):Bool:=ns.any (kE lo hi)
theorem bE (lo hi:Int) (ns:List Int) (hl:ns.length<9223372036854775808):eC T 63 [.int .i64 lo,.int .i64 hi,ints ns] (.bool (nK lo hi ns)):=by
 refine bA (af:=a63) rfl (by simp [a63]) dd ?_
 (repeat (first|simp only [↓QA,QB,Nat.reduceLT,reduceIte,Nat.reduceEqDiff,Nat.reduceAdd,Nat.reduceLeDiff,Nat.reduceMul,Nat.reduceBEq,a63]|refine rd0 rfl ?_))
 refine bM (o6 _ _ ns (kE lo hi) hl (fun τ=>?_) fun x _=>HN lo hi x) ?_
 ·try simp only [QS,QC,Nat.reduceLT,reduceIte,Nat.reduceEqDiff,Nat.reduceAdd,Nat.reduceLeDiff,Nat.reduceMul,Nat.reduceBEq]
 ·(repeat (first|simp only [↓QA,QB,Nat.reduceLT,reduceIte,Nat.reduceEqDiff,Nat.reduceAdd,Nat.reduceLeDiff,Nat.reduceMul,Nat.reduceBEq,nK]|refine rd0 rfl ?_))
theorem RX (lo hi n:Int):iG T (.func 115 [] [.ptr 0 0,.ptr 1 0]) [.int .i64 n] [.cells [.int .i64 lo],.cells [.int .i64 hi]] (.bool (kE lo hi n)):=by
 refine dX (af:=a115) rfl (by simp [a115]) ?_
 (repeat (first|simp only [↓QA,QB,Nat.reduceLT,reduceIte,Nat.reduceEqDiff,Nat.reduceAdd,Nat.reduceLeDiff,Nat.reduceMul,Nat.reduceBEq,a115]|refine rd0 rfl ?_))
 refine aI (fun h=>?_) fun h=>?_
 all_goals
  (repeat (first|simp only [↓QA,QB,Nat.reduceLT,reduceIte,Nat.reduceEqDiff,Nat.reduceAdd,Nat.reduceLeDiff,Nat.reduceMul,Nat.reduceBEq,h]|refine rd0 rfl ?_))
  refine eH [] (by first|rfl|simp) ?_
  try simp only [QS,QC,Nat.reduceLT,reduceIte,Nat.reduceEqDiff,Nat.reduceAdd,Nat.reduceLeDiff,Nat.reduceMul,Nat.reduceBEq,kE,h]
  try simp
theorem PC (lo hi:Int) (ns:List Int) (hl:ns.length<9223372036854775808):eC T 100 [.int .i64 lo,.int .i64 hi,ints ns] (.bool (nK lo hi ns)):=by
 refine bA (af:=a100) rfl (by simp [a100]) dd ?_
 (repeat (first|simp only [↓QA,QB,Nat.reduceLT,reduceIte,Nat.reduceEqDiff,Nat.reduceAdd,Nat.reduceLeDiff,Nat.reduceMul,Nat.reduceBEq,a100]|refine rd0 rfl ?_))
 refine bM (o6 _ _ ns (kE lo hi) hl (fun τ=>?_) fun x _=>RX lo hi x) ?_
 ·try simp only [QS,QC,Nat.reduceLT,reduceIte,Nat.reduceEqDiff,Nat.reduceAdd,Nat.reduceLeDiff,Nat.reduceMul,Nat.reduceBEq]
 ·(repeat (first|simp only [↓QA,QB,Nat.reduceLT,reduceIte,Nat.reduceEqDiff,Nat.reduceAdd,Nat.reduceLeDiff,Nat.reduceMul,Nat.reduceBEq,nK]|refine rd0 rfl ?_))
theorem wN (s:ByteArray):∀ n k,k≤n→fX s k=false→fX s n=false
  | 0, k, h, h1 => by have : k = 0 := by omega
                      subst this;exact h1
  |n+1,k,h,h1=>by
    by_cases hk:k=n+1
    · subst hk;exact h1
    · simp [fX,wN s n k (by omega) h1]
theorem iQ (lo hi n:Int):nK lo hi [n] = !inR n lo hi:=by
 rw [Bool.eq_iff_iff];simp [nK,kE,inR]
theorem JS (lo hi n m:Int):nK lo hi [n,m]=(!inR n lo hi||!inR m lo hi):=by
 rw [Bool.eq_iff_iff];simp [nK,kE,inR]
theorem v3 (s:ByteArray) (hs:s.size<9223372036854775808):eC T 68 [.str s] (.bool (nJ s)):=by
 refine bA (af:=a68) rfl (by simp [a68]) dd ?_
 (repeat (first|simp only [↓QA,QB,Nat.reduceLT,reduceIte,Nat.reduceEqDiff,Nat.reduceAdd,Nat.reduceLeDiff,Nat.reduceMul,Nat.reduceBEq,a68]|refine rd0 rfl ?_))
 refine dJ (S:=Nat) 0 (fun k=>k≤s.size∧fX s k=true) (fun k=>s.size-k) (fun k=>[(0,.str s),(7,.ptr 0 0)]) (fun k=>[.siter s k]) ⟨Nat.zero_le _,rfl⟩ rfl ?_ fun k hk=>?_
 ·try simp only [aD,QE,Nat.reduceLT,reduceIte,Nat.reduceEqDiff,Nat.reduceAdd,Nat.reduceLeDiff,Nat.reduceMul,Nat.reduceBEq]
  try simp
 ·obtain ⟨hkl,hok⟩:=hk
  by_cases hk1:k<s.size
  ·obtain ⟨R,hR⟩:∃ R:Int,((Utf8.decode s k).1:Int)=R:=⟨_,rfl⟩
   obtain ⟨W,hW⟩:∃ W,(Utf8.decode s k).2=W:=⟨_,rfl⟩
   have hstep:fX s (k+1)=xX k (dY s k):=by simp [fX,hok]
   have hbl:=BT s k
   have key:(97≤R∧R≤122∨0<k∧(R=46∨48≤R∧R≤57))→W=1∧fX s (k+1)=true:=by
    intro h
    by_cases hb:dY s k<128
    ·have:=tK hk1 hb
     rw [this] at hR hW
     have hR':R=dY s k:=by simp at hR;omega
     refine ⟨hW.symm,?_⟩
     rw [hstep,xX,←hR']
     simp [inR]
     omega
    ·have:=EZ hk1 (by omega)
     omega
   have key2:¬(97≤R∧R≤122∨0<k∧(R=46∨48≤R∧R≤57))→nJ s=false:=by
    intro h
    have:fX s (k+1)=false:=by
     rw [hstep,xX]
     by_cases hb:dY s k<128
     ·have:=tK hk1 hb
      rw [this] at hR hW
      have hR':R=dY s k:=by simp at hR;omega
      rw [←hR']
      simp [inR]
      omega
     ·simp [inR];omega
    simp [nJ,wN s s.size (k+1) (by omega) this]
   have go:∀ (e:Env),W=1∧fX s (k+1)=true→Env.get e 0 = .str s→Env.get e 7 = .ptr 0 0→∃ s',(s'≤s.size∧fX s s'=true)∧s.size-s'<s.size-k∧aD [.siter s k] e [.siter s (k+W)] [(0,.str s),(7,.ptr 0 0)] [.siter s s']:=by
    intro e h e0 e7
    refine ⟨k+1,⟨by omega,h.2⟩,by omega,?_⟩
    try simp only [aD,QE,Nat.reduceLT,reduceIte,Nat.reduceEqDiff,Nat.reduceAdd,Nat.reduceLeDiff,Nat.reduceMul,Nat.reduceBEq,e0,e7,h.1]
    try simp [aN]
   (repeat (first|simp only [↓QA,QB,Nat.reduceLT,reduceIte,Nat.reduceEqDiff,Nat.reduceAdd,Nat.reduceLeDiff,Nat.reduceMul,Nat.reduceBEq,OI,P0 hk1,hR,hW]|refine rd0 rfl ?_))
   cases h1:decide (97≤R)
   ·have h1':¬97≤R:=by simpa using h1
    (repeat (first|simp only [↓QA,QB,Nat.reduceLT,reduceIte,Nat.reduceEqDiff,Nat.reduceAdd,Nat.reduceLeDiff,Nat.reduceMul,Nat.reduceBEq,h1]|refine rd0 rfl ?_))
    cases h3:((k:Int)==0)
    ·have h3':0<k:=by simp at h3;omega
     (repeat (first|simp only [↓QA,QB,Nat.reduceLT,reduceIte,Nat.reduceEqDiff,Nat.reduceAdd,Nat.reduceLeDiff,Nat.reduceMul,Nat.reduceBEq,h3]|refine rd0 rfl ?_))
     cases h4:(R==46)
     ·have h4':R≠46:=by simpa using h4
      (repeat (first|simp only [↓QA,QB,Nat.reduceLT,reduceIte,Nat.reduceEqDiff,Nat.reduceAdd,Nat.reduceLeDiff,Nat.reduceMul,Nat.reduceBEq,h4]|refine rd0 rfl ?_))
      cases h5:decide (R<48)
      ·have h5':¬R<48:=by simpa using h5
       (repeat (first|simp only [↓QA,QB,Nat.reduceLT,reduceIte,Nat.reduceEqDiff,Nat.reduceAdd,Nat.reduceLeDiff,Nat.reduceMul,Nat.reduceBEq,h5]|refine rd0 rfl ?_))
       cases h6:decide (57<R)
       ·have h6':¬57<R:=by simpa using h6
        (repeat (first|simp only [↓QA,QB,Nat.reduceLT,reduceIte,Nat.reduceEqDiff,Nat.reduceAdd,Nat.reduceLeDiff,Nat.reduceMul,Nat.reduceBEq,h6]|refine rd0 rfl ?_))
        exact go _ (key (by omega)) (by try simp only [aD,QE,Nat.reduceLT,reduceIte,Nat.reduceEqDiff,Nat.reduceAdd,Nat.reduceLeDiff,Nat.reduceMul,Nat.reduceBEq]) (by try simp only [aD,QE,Nat.reduceLT,reduceIte,Nat.reduceEqDiff,Nat.reduceAdd,Nat.reduceLeDiff,Nat.reduceMul,Nat.reduceBEq])
       ·have h6':57<R:=by simpa using h6
        rw [key2 (by omega)]
        (repeat (first|simp only [↓QA,QB,Nat.reduceLT,reduceIte,Nat.reduceEqDiff,Nat.reduceAdd,Nat.reduceLeDiff,Nat.reduceMul,Nat.reduceBEq,h6]|refine rd0 rfl ?_))
      ·have h5':R<48:=by simpa using h5
       rw [key2 (by omega)]
       (repeat (first|simp only [↓QA,QB,Nat.reduceLT,reduceIte,Nat.reduceEqDiff,Nat.reduceAdd,Nat.reduceLeDiff,Nat.reduceMul,Nat.reduceBEq,h5]|refine rd0 rfl ?_))
     ·have h4':R=46:=by simpa using h4
      (repeat (first|simp only [↓QA,QB,Nat.reduceLT,reduceIte,Nat.reduceEqDiff,Nat.reduceAdd,Nat.reduceLeDiff,Nat.reduceMul,Nat.reduceBEq,h4]|refine rd0 rfl ?_))
      exact go _ (key (by omega)) (by try simp only [aD,QE,Nat.reduceLT,reduceIte,Nat.reduceEqDiff,Nat.reduceAdd,Nat.reduceLeDiff,Nat.reduceMul,Nat.reduceBEq]) (by try simp only [aD,QE,Nat.reduceLT,reduceIte,Nat.reduceEqDiff,Nat.reduceAdd,Nat.reduceLeDiff,Nat.reduceMul,Nat.reduceBEq])
    ·have h3':k=0:=by simp at h3;omega
     rw [key2 (by omega)]
     (repeat (first|simp only [↓QA,QB,Nat.reduceLT,reduceIte,Nat.reduceEqDiff,Nat.reduceAdd,Nat.reduceLeDiff,Nat.reduceMul,Nat.reduceBEq,h3]|refine rd0 rfl ?_))
   ·have h1':97≤R:=by simpa using h1
    (repeat (first|simp only [↓QA,QB,Nat.reduceLT,reduceIte,Nat.reduceEqDiff,Nat.reduceAdd,Nat.reduceLeDiff,Nat.reduceMul,Nat.reduceBEq,h1]|refine rd0 rfl ?_))
    cases h2:decide (R≤122)
    ·have h2':¬R≤122:=by simpa using h2
     (repeat (first|simp only [↓QA,QB,Nat.reduceLT,reduceIte,Nat.reduceEqDiff,Nat.reduceAdd,Nat.reduceLeDiff,Nat.reduceMul,Nat.reduceBEq,h2]|refine rd0 rfl ?_))
     cases h3:((k:Int)==0)
     ·have h3':0<k:=by simp at h3;omega
      (repeat (first|simp only [↓QA,QB,Nat.reduceLT,reduceIte,Nat.reduceEqDiff,Nat.reduceAdd,Nat.reduceLeDiff,Nat.reduceMul,Nat.reduceBEq,h3]|refine rd0 rfl ?_))
      cases h4:(R==46)
      ·have h4':R≠46:=by simpa using h4
       (repeat (first|simp only [↓QA,QB,Nat.reduceLT,reduceIte,Nat.reduceEqDiff,Nat.reduceAdd,Nat.reduceLeDiff,Nat.reduceMul,Nat.reduceBEq,h4]|refine rd0 rfl ?_))
       cases h5:decide (R<48)
       ·have h5':¬R<48:=by simpa using h5
        (repeat (first|simp only [↓QA,QB,Nat.reduceLT,reduceIte,Nat.reduceEqDiff,Nat.reduceAdd,Nat.reduceLeDiff,Nat.reduceMul,Nat.reduceBEq,h5]|refine rd0 rfl ?_))
        cases h6:decide (57<R)
        ·have h6':¬57<R:=by simpa using h6
         (repeat (first|simp only [↓QA,QB,Nat.reduceLT,reduceIte,Nat.reduceEqDiff,Nat.reduceAdd,Nat.reduceLeDiff,Nat.reduceMul,Nat.reduceBEq,h6]|refine rd0 rfl ?_))
         exact go _ (key (by omega)) (by try simp only [aD,QE,Nat.reduceLT,reduceIte,Nat.reduceEqDiff,Nat.reduceAdd,Nat.reduceLeDiff,Nat.reduceMul,Nat.reduceBEq]) (by try simp only [aD,QE,Nat.reduceLT,reduceIte,Nat.reduceEqDiff,Nat.reduceAdd,Nat.reduceLeDiff,Nat.reduceMul,Nat.reduceBEq])
        ·have h6':57<R:=by simpa using h6
         rw [key2 (by omega)]
         (repeat (first|simp only [↓QA,QB,Nat.reduceLT,reduceIte,Nat.reduceEqDiff,Nat.reduceAdd,Nat.reduceLeDiff,Nat.reduceMul,Nat.reduceBEq,h6]|refine rd0 rfl ?_))
       ·have h5':R<48:=by simpa using h5
        rw [key2 (by omega)]
        (repeat (first|simp only [↓QA,QB,Nat.reduceLT,reduceIte,Nat.reduceEqDiff,Nat.reduceAdd,Nat.reduceLeDiff,Nat.reduceMul,Nat.reduceBEq,h5]|refine rd0 rfl ?_))
      ·have h4':R=46:=by simpa using h4
       (repeat (first|simp only [↓QA,QB,Nat.reduceLT,reduceIte,Nat.reduceEqDiff,Nat.reduceAdd,Nat.reduceLeDiff,Nat.reduceMul,Nat.reduceBEq,h4]|refine rd0 rfl ?_))
       exact go _ (key (by omega)) (by try simp only [aD,QE,Nat.reduceLT,reduceIte,Nat.reduceEqDiff,Nat.reduceAdd,Nat.reduceLeDiff,Nat.reduceMul,Nat.reduceBEq]) (by try simp only [aD,QE,Nat.reduceLT,reduceIte,Nat.reduceEqDiff,Nat.reduceAdd,Nat.reduceLeDiff,Nat.reduceMul,Nat.reduceBEq])
     ·have h3':k=0:=by simp at h3;omega
      rw [key2 (by omega)]
      (repeat (first|simp only [↓QA,QB,Nat.reduceLT,reduceIte,Nat.reduceEqDiff,Nat.reduceAdd,Nat.reduceLeDiff,Nat.reduceMul,Nat.reduceBEq,h3]|refine rd0 rfl ?_))
    ·have h2':R≤122:=by simpa using h2
     (repeat (first|simp only [↓QA,QB,Nat.reduceLT,reduceIte,Nat.reduceEqDiff,Nat.reduceAdd,Nat.reduceLeDiff,Nat.reduceMul,Nat.reduceBEq,h2]|refine rd0 rfl ?_))
     exact go _ (key (by omega)) (by try simp only [aD,QE,Nat.reduceLT,reduceIte,Nat.reduceEqDiff,Nat.reduceAdd,Nat.reduceLeDiff,Nat.reduceMul,Nat.reduceBEq]) (by try simp only [aD,QE,Nat.reduceLT,reduceIte,Nat.reduceEqDiff,Nat.reduceAdd,Nat.reduceLeDiff,Nat.reduceMul,Nat.reduceBEq])
  ·have hk2:k=s.size:=by omega
   (repeat (first|simp only [↓QA,QB,Nat.reduceLT,reduceIte,Nat.reduceEqDiff,Nat.reduceAdd,Nat.reduceLeDiff,Nat.reduceMul,Nat.reduceBEq,OI,MN hk1]|refine rd0 rfl ?_))
   ((first|refine d5 (PC 1 16 [(s.size:Int)] (by simp)) (by simp [clr,clrs,ints]) (by simp [okV,okVs]) ?_|refine eP (PC 1 16 [(s.size:Int)] (by simp)) (by simp [clr,clrs,ints]) (by simp [okV,okVs]) ?_);(repeat (first|simp only [↓QA,QB,Nat.reduceLT,reduceIte,Nat.reduceEqDiff,Nat.reduceAdd,Nat.reduceLeDiff,Nat.reduceMul,Nat.reduceBEq]|refine rd0 rfl ?_)))
   rw [iQ]
   (repeat (first|simp only [↓QA,QB,Nat.reduceLT,reduceIte,Nat.reduceEqDiff,Nat.reduceAdd,Nat.reduceLeDiff,Nat.reduceMul,Nat.reduceBEq]|refine rd0 rfl ?_))
   simp [nJ,←hk2,hok]
def tD (x:Int×Int):AV:=.tuple [.int .i64 x.1,.int .i64 x.2]
theorem yE {α:Type} (f:α→ByteArray) (s:ByteArray):∀ l:List α,l.any (fun x=>decide (f x=s))=decide (iW s (l.map f)≠(l.map f).length)
 |[]=>by simp [iW]
 |x::xs=>by
  simp only [List.any_cons,yE f s xs,List.map_cons,iW,List.length_cons]
  by_cases h:f x=s
  ·simp [h]
  ·simp [h]
end Go.Am.Room
set_option maxRecDepth 4000
namespace Go.Am.Room
def dS:=And.intro @Int.toNat_natCast (@List.length_append.{0})
theorem tZ (n:Int):eC T 121 [.int .i64 n] (.bool false):=by
 refine bA (af:=a121) rfl (by simp [a121]) dd ?_
 (repeat (first|simp only [↓QA,QB,Nat.reduceLT,reduceIte,Nat.reduceEqDiff,Nat.reduceAdd,Nat.reduceLeDiff,Nat.reduceMul,Nat.reduceBEq,dS,a121]|refine rd0 rfl ?_))
 try simp
def zY (a b:Int):Int:=if a<b then -1 else if b<a then 1 else 0
theorem PO (a b:Int):eC T 113 [.int .i64 a,.int .i64 b] (.int .i64 (zY a b)):=by
 refine bA (af:=a113) rfl (by simp [a113]) dd ?_
 (repeat (first|simp only [↓QA,QB,Nat.reduceLT,reduceIte,Nat.reduceEqDiff,Nat.reduceAdd,Nat.reduceLeDiff,Nat.reduceMul,Nat.reduceBEq,dS,a113]|refine rd0 rfl ?_))
 ((first|refine aF (tZ a) rfl dd ?_|refine aH (tZ a) rfl dd ?_);(repeat (first|simp only [↓QA,QB,Nat.reduceLT,reduceIte,Nat.reduceEqDiff,Nat.reduceAdd,Nat.reduceLeDiff,Nat.reduceMul,Nat.reduceBEq,dS]|refine rd0 rfl ?_)))
 ((first|refine aF (tZ b) rfl dd ?_|refine aH (tZ b) rfl dd ?_);(repeat (first|simp only [↓QA,QB,Nat.reduceLT,reduceIte,Nat.reduceEqDiff,Nat.reduceAdd,Nat.reduceLeDiff,Nat.reduceMul,Nat.reduceBEq,dS]|refine rd0 rfl ?_)))
 cases h1:decide (a<b)
 ·have h1':¬a<b:=by simpa using h1
  (repeat (first|simp only [↓QA,QB,Nat.reduceLT,reduceIte,Nat.reduceEqDiff,Nat.reduceAdd,Nat.reduceLeDiff,Nat.reduceMul,Nat.reduceBEq,dS]|refine rd0 rfl ?_))
  cases h2:decide (b<a)
  ·have h2':¬b<a:=by simpa using h2
   (repeat (first|simp only [↓QA,QB,Nat.reduceLT,reduceIte,Nat.reduceEqDiff,Nat.reduceAdd,Nat.reduceLeDiff,Nat.reduceMul,Nat.reduceBEq,dS]|refine rd0 rfl ?_))
   simp [zY,h1',h2']
  ·have h2':b<a:=by simpa using h2
   (repeat (first|simp only [↓QA,QB,Nat.reduceLT,reduceIte,Nat.reduceEqDiff,Nat.reduceAdd,Nat.reduceLeDiff,Nat.reduceMul,Nat.reduceBEq,dS]|refine rd0 rfl ?_))
   simp [zY,h1',h2']
 ·have h1':a<b:=by simpa using h1
  (repeat (first|simp only [↓QA,QB,Nat.reduceLT,reduceIte,Nat.reduceEqDiff,Nat.reduceAdd,Nat.reduceLeDiff,Nat.reduceMul,Nat.reduceBEq,dS]|refine rd0 rfl ?_))
  simp [zY,h1']
def zU:List Int→List Int→Int
 |[],[]=>0
 |[],_::_=>-1
 |_::_,[]=>1
 |a::az,b::bs=>if zY a b=0 then zU az bs else zY a b
theorem A3:∀ a b:List Int,decide (0<zU a b)=less b a
 |[],[]=>rfl
 |[],b::bs=>rfl
 |a::az,[]=>rfl
 |a::az,b::bs=>by
  have ih:=A3 az bs
  simp only [zU,less,zY]
  by_cases h1:a<b
  ·simp [h1,show ¬b=a by omega];omega
  ·by_cases h2:b<a
   ·simp [h1,h2,show ¬b=a by omega]
   ·have:b=a:=by omega
    subst this
    simp [ih]
theorem IT (a b:List Int) (ha:a.length<9223372036854775808) (hb:b.length<9223372036854775808):eC T 91 [ints a,ints b] (.int .i64 (zU a b)):=by
 refine bA (af:=a91) rfl (by simp [a91]) dd ?_
 (repeat (first|simp only [↓QA,QB,Nat.reduceLT,reduceIte,Nat.reduceEqDiff,Nat.reduceAdd,Nat.reduceLeDiff,Nat.reduceMul,Nat.reduceBEq,dS,a91]|refine rd0 rfl ?_))
 refine dJ (S:=Nat) 0 (fun k=>k≤a.length∧k≤b.length∧zU (a.drop k) (b.drop k)=zU a b) (fun k=>a.length-k) (fun k=>[(0,ints a),(1,ints b),(9,ints a),(10,.int .i64 a.length),(11,.int .i64 k)]) (fun _=>[]) ⟨by simp,by simp,by simp⟩ rfl ?_ fun k hk=>?_
 ·try simp only [aD,QE,Nat.reduceLT,reduceIte,Nat.reduceEqDiff,Nat.reduceAdd,Nat.reduceLeDiff,Nat.reduceMul,Nat.reduceBEq,dS]
  try simp
 ·obtain ⟨hk,hkb,hq⟩:=hk
  (repeat (first|simp only [↓QA,QB,Nat.reduceLT,reduceIte,Nat.reduceEqDiff,Nat.reduceAdd,Nat.reduceLeDiff,Nat.reduceMul,Nat.reduceBEq,dS,WF]|refine rd0 rfl ?_))
  refine aI (fun h=>?_) fun h=>?_
  ·have hk1:k<a.length:=by simpa using h
   have hw:=cM hk1 ha
   rw [List.drop_eq_getElem_cons hk1] at hq
   (repeat (first|simp only [↓QA,QB,Nat.reduceLT,reduceIte,Nat.reduceEqDiff,Nat.reduceAdd,Nat.reduceLeDiff,Nat.reduceMul,Nat.reduceBEq,dS,hk1]|refine rd0 rfl ?_))
   refine aI (fun h2=>?_) fun h2=>?_
   ·have hk2:k=b.length:=by simp at h2;omega
    have hd:b.drop k=[]:=by rw [hk2,List.drop_length]
    rw [hd] at hq
    simp only [zU] at hq
    (repeat (first|simp only [↓QA,QB,Nat.reduceLT,reduceIte,Nat.reduceEqDiff,Nat.reduceAdd,Nat.reduceLeDiff,Nat.reduceMul,Nat.reduceBEq,dS,hk1,←hq]|refine rd0 rfl ?_))
   ·have hk2:k<b.length:=by simp at h2;omega
    rw [List.drop_eq_getElem_cons hk2] at hq
    simp only [zU] at hq
    (repeat (first|simp only [↓QA,QB,Nat.reduceLT,reduceIte,Nat.reduceEqDiff,Nat.reduceAdd,Nat.reduceLeDiff,Nat.reduceMul,Nat.reduceBEq,dS,hk1,hk2]|refine rd0 rfl ?_))
    ((first|refine aF (PO a[k] b[k]) rfl dd ?_|refine aH (PO a[k] b[k]) rfl dd ?_);(repeat (first|simp only [↓QA,QB,Nat.reduceLT,reduceIte,Nat.reduceEqDiff,Nat.reduceAdd,Nat.reduceLeDiff,Nat.reduceMul,Nat.reduceBEq,dS,hk1,hk2]|refine rd0 rfl ?_)))
    cases h3:(zY a[k] b[k]==0)
    ·have h3':zY a[k] b[k]≠0:=by simpa using h3
     rw [if_neg h3'] at hq
     (repeat (first|simp only [↓QA,QB,Nat.reduceLT,reduceIte,Nat.reduceEqDiff,Nat.reduceAdd,Nat.reduceLeDiff,Nat.reduceMul,Nat.reduceBEq,dS,h3,hk1,hk2,hq]|refine rd0 rfl ?_))
    ·have h3':zY a[k] b[k]=0:=by simpa using h3
     rw [if_pos h3'] at hq
     (repeat (first|simp only [↓QA,QB,Nat.reduceLT,reduceIte,Nat.reduceEqDiff,Nat.reduceAdd,Nat.reduceLeDiff,Nat.reduceMul,Nat.reduceBEq,dS,h3,hk1,hk2]|refine rd0 rfl ?_))
     refine ⟨k+1,⟨by omega,by omega,hq⟩,by omega,?_⟩
     try simp only [aD,QE,Nat.reduceLT,reduceIte,Nat.reduceEqDiff,Nat.reduceAdd,Nat.reduceLeDiff,Nat.reduceMul,Nat.reduceBEq,dS,hw]
  ·have hk1:k=a.length:=by simp at h;omega
   rw [hk1,List.drop_length] at hq
   (repeat (first|simp only [↓QA,QB,Nat.reduceLT,reduceIte,Nat.reduceEqDiff,Nat.reduceAdd,Nat.reduceLeDiff,Nat.reduceMul,Nat.reduceBEq,dS]|refine rd0 rfl ?_))
   refine aI (fun h2=>?_) fun h2=>?_
   ·have hk2:a.length<b.length:=by simpa using h2
    rw [List.drop_eq_getElem_cons hk2] at hq
    (repeat (first|simp only [↓QA,QB,Nat.reduceLT,reduceIte,Nat.reduceEqDiff,Nat.reduceAdd,Nat.reduceLeDiff,Nat.reduceMul,Nat.reduceBEq,dS,←hq,zU]|refine rd0 rfl ?_))
   ·have hk2:a.length=b.length:=by simp at h2;omega
    rw [hk2,List.drop_length] at hq
    (repeat (first|simp only [↓QA,QB,Nat.reduceLT,reduceIte,Nat.reduceEqDiff,Nat.reduceAdd,Nat.reduceLeDiff,Nat.reduceMul,Nat.reduceBEq,dS,←hq,zU]|refine rd0 rfl ?_))
theorem rM (s n:Nat) (hs:s<9223372036854775808) (hn:n≤60):eC T 85 [.int .i64 s,.int .i64 n] (ints (lst n s)):=by
 refine bA (af:=a85) rfl (by simp [a85]) dd ?_
 (repeat (first|simp only [↓QA,QB,Nat.reduceLT,reduceIte,Nat.reduceEqDiff,Nat.reduceAdd,Nat.reduceLeDiff,Nat.reduceMul,Nat.reduceBEq,dS,a85]|refine rd0 rfl ?_))
 obtain ⟨R,hRR⟩:∃ R,lst n s=R:=⟨_,rfl⟩
 have hRR':[]++(aO ((0:Nat):Int) (n-0)).filter (fun i=>decide (s/2^i.toNat%2=1))=R:=hRR
 rw [hRR]
 refine sO 4 1 [] rfl ?_
 refine dJ (S:=Nat×List Int×Bool) (0,[],false) (fun x=>x.1≤n∧x.2.1.length≤x.1∧x.2.1++(aO (x.1:Int) (n-x.1)).filter (fun i=>decide (s/2^i.toNat%2=1))=R) (fun x=>n-x.1)
  (fun x=>[(0,.int .i64 s),(4,.lit (x.2.1.map (.int .i64)) false (some 0)),(6,.int .i64 n),(7,.int .i64 x.1)]) (fun x=>[.tok 1 x.2.1.length x.2.2]) ⟨by simp,by simp,hRR'⟩ rfl ?_ fun x hx=>?_
 ·try simp only [aD,QE,Nat.reduceLT,reduceIte,Nat.reduceEqDiff,Nat.reduceAdd,Nat.reduceLeDiff,Nat.reduceMul,Nat.reduceBEq,dS]
  try simp
 ·obtain ⟨k,acc,ex⟩:=x
  obtain ⟨hk,hal,hacc⟩:=hx
  simp only at hk hal hacc
  (repeat (first|simp only [↓QA,QB,Nat.reduceLT,reduceIte,Nat.reduceEqDiff,Nat.reduceAdd,Nat.reduceLeDiff,Nat.reduceMul,Nat.reduceBEq,dS,VQ]|refine rd0 rfl ?_))
  refine aI (fun h=>?_) fun h=>?_
  ·have hk1:k<n:=by simpa using h
   have hw:=cM hk1 (by omega)
   rw [show n-k=(n-(k+1))+1 by omega] at hacc
   simp only [aO,List.filter_cons,Int.toNat_natCast] at hacc
   rw [show ((k:Int)+1)=((k+1:Nat):Int) by omega] at hacc
   have vs:=O7 s k (by omega)
   have va:=H7 (s/2^k) (Nat.lt_of_le_of_lt (Nat.div_le_self _ _) hs)
   have hbit:(((s/2^k%2:Nat):Int)==1)=decide (s/2^k%2=1):=by
    generalize s/2^k%2=q
    rw [Bool.eq_iff_iff,beq_iff_eq,decide_eq_true_eq];omega
   (repeat (first|simp only [↓QA,QB,Nat.reduceLT,reduceIte,Nat.reduceEqDiff,Nat.reduceAdd,Nat.reduceLeDiff,Nat.reduceMul,Nat.reduceBEq,dS,vs,va,hbit]|refine rd0 rfl ?_))
   cases hb:decide (s/2^k%2=1)
   ·simp only [hb,Bool.false_eq_true,if_false] at hacc
    (repeat (first|simp only [↓QA,QB,Nat.reduceLT,reduceIte,Nat.reduceEqDiff,Nat.reduceAdd,Nat.reduceLeDiff,Nat.reduceMul,Nat.reduceBEq,dS,hw]|refine rd0 rfl ?_))
    refine ⟨(k+1,acc,ex),⟨by simp only;omega,by simp only;omega,by simpa using hacc⟩,by simp only;omega,?_⟩
    try simp only [aD,QE,Nat.reduceLT,reduceIte,Nat.reduceEqDiff,Nat.reduceAdd,Nat.reduceLeDiff,Nat.reduceMul,Nat.reduceBEq,dS,hw,oY]
    try simp [aN]
   ·simp only [hb,if_true] at hacc
    have hap:=fun (τ:St)=>qE (σ:=.tok 1 acc.length ex::τ) (l:=acc) (a:=(k:Int)) (ex:=ex) (t:=0) (by omega) rfl
    (repeat (first|simp only [↓QA,QB,Nat.reduceLT,reduceIte,Nat.reduceEqDiff,Nat.reduceAdd,Nat.reduceLeDiff,Nat.reduceMul,Nat.reduceBEq,dS,hw,hap]|refine rd0 rfl ?_))
    refine ⟨(k+1,acc++[(k:Int)],true),⟨by simp only;omega,by simp only [List.length_append,List.length_cons,List.length_nil];omega,by
     rw [←hacc];simp⟩,by simp only;omega,?_⟩
    try simp only [aD,QE,Nat.reduceLT,reduceIte,Nat.reduceEqDiff,Nat.reduceAdd,Nat.reduceLeDiff,Nat.reduceMul,Nat.reduceBEq,dS,hw,oY,List.map_append,List.map_cons,List.map_nil]
    try simp [aN]
  ·have hk1:k=n:=by simp at h;omega
   rw [hk1] at hacc
   simp only [Nat.sub_self,aO,List.filter_nil,List.append_nil] at hacc
   (repeat (first|simp only [↓QA,QB,Nat.reduceLT,reduceIte,Nat.reduceEqDiff,Nat.reduceAdd,Nat.reduceLeDiff,Nat.reduceMul,Nat.reduceBEq,dS,hacc,ints]|refine rd0 rfl ?_))
end Go.Am.Room
set_option maxRecDepth 4000
namespace Go.Am.Room
def cE:=And.intro @aZ (And.intro @aK (And.intro @aR (And.intro @aT (And.intro @aS (And.intro @aQ (And.intro @aY (And.intro @aW (And.intro @aV (And.intro @dL (And.intro @dR (@Nat.not_lt_zero)))))))))))
theorem OZ (r:Rail) (s:Int):eC T 102 [cV r,.int .i64 s] (.int .i64 (bU r s)):=by
 refine bA (af:=a102) rfl (by simp [a102]) dd ?_
 (repeat (first|simp only [↓QA,QB,Nat.reduceLT,reduceIte,Nat.reduceEqDiff,Nat.reduceAdd,Nat.reduceLeDiff,Nat.reduceMul,Nat.reduceBEq,cE,a102]|refine rd0 rfl ?_))
 cases h1:(s==r.a)
 ·have h1':s≠r.a:=by simpa using h1
  (repeat (first|simp only [↓QA,QB,Nat.reduceLT,reduceIte,Nat.reduceEqDiff,Nat.reduceAdd,Nat.reduceLeDiff,Nat.reduceMul,Nat.reduceBEq,cE,h1]|refine rd0 rfl ?_))
  cases h2:(s==r.b)
  ·have h2':s≠r.b:=by simpa using h2
   (repeat (first|simp only [↓QA,QB,Nat.reduceLT,reduceIte,Nat.reduceEqDiff,Nat.reduceAdd,Nat.reduceLeDiff,Nat.reduceMul,Nat.reduceBEq,cE,h2]|refine rd0 rfl ?_))
   simp [bU,h1',h2']
  ·have h2':s=r.b:=by simpa using h2
   (repeat (first|simp only [↓QA,QB,Nat.reduceLT,reduceIte,Nat.reduceEqDiff,Nat.reduceAdd,Nat.reduceLeDiff,Nat.reduceMul,Nat.reduceBEq,cE,h2]|refine rd0 rfl ?_))
   simp only [bU,if_neg h1',if_pos h2']
 ·have h1':s=r.a:=by simpa using h1
  (repeat (first|simp only [↓QA,QB,Nat.reduceLT,reduceIte,Nat.reduceEqDiff,Nat.reduceAdd,Nat.reduceLeDiff,Nat.reduceMul,Nat.reduceBEq,cE,h1]|refine rd0 rfl ?_))
  simp only [bU,if_pos h1']
structure MetIs (b:Nat) (met:List Int):Prop where
 lt:b<2^6
 bit:∀ i:Nat,i<6→b.testBit i=met.contains (i:Int)
theorem I7 {b:Nat} {met:List Int} (h:MetIs b met) {x:Nat} (hx:x<6):MetIs (b|||2^x) (met++[(x:Int)]):=by
 refine ⟨Nat.or_lt_two_pow h.lt (Nat.pow_lt_pow_right (by omega) hx),fun i hi=>?_⟩
 rw [Nat.testBit_or,h.bit i hi,Nat.testBit_two_pow,Bool.eq_iff_iff]
 simp
 rw [or_congr_right]
 omega
theorem R8 {x:Nat} (hx:x<6):MetIs (2^x) [(x:Int)]:=by
 have:=I7 (b:=0) (met:=[]) ⟨by simp,fun i _=>by simp⟩ hx
 simpa using this
theorem SO {b:Nat} {met:List Int} (h:MetIs b met) {i:Nat} (hi:i<6):(((b/2^i%2:Nat):Int)==0) = !met.contains (i:Int):=by
 have e:(((b/2^i%2:Nat):Int)==0) = !b.testBit i:=by
  rw [uW,CU,Bool.eq_iff_iff]
  simp
 rw [e,h.bit i hi]
theorem UA {v:Net} {r:Rail} (h:RailOk v r) (s:Int):-1≤bU r s∧bU r s<v.stations:=by
 have h1:=h.a
 have h2:=h.b
 unfold bU
 split
 ·omega
 ·split<;>omega
theorem L8 {v:Net} {p:List Int} {k:Nat} (hk:k<p.length) (s:Int) (met:List Int):eU v (p.drop k) s met=if s=0∨bU (cI v p[k]) s<0∨met.contains (bU (cI v p[k]) s)=true then none else eU v (p.drop (k+1)) (bU (cI v p[k]) s) (met++[bU (cI v p[k]) s]):=by
 rw [List.drop_eq_getElem_cons hk,eU]
def whB (o:Option Int) (p:List Int):Bool:=match o with|some o=>o==0&&!p.isEmpty|none=>false
def bgB (o:Option Int):Bool:=match o with|some o=>!(o==0)|none=>false
theorem B3 (v:Net) (hst:2≤v.stations∧v.stations≤5) (hra:∀ r∈v.rails,RailOk v r) (s:Nat) (hs:s<5) (p:List Int) (hp:∀ r∈p,0≤r∧r<v.rails.length) (hl:p.length<9223372036854775808) :
  eC T 71 [dH v,.int .i64 s,ints p] (.tuple [.bool (gS v s p),.bool (d4 v s p)]):=by
 refine bA (af:=a71) rfl (by simp [a71]) dd ?_
 obtain ⟨R,hR⟩:∃ R,eU v p s [(s:Int)]=R:=⟨_,rfl⟩
 have hwb:gS v s p=whB R p:=by rw [←hR];rfl
 have hbb:d4 v s p=bgB R:=by rw [←hR];rfl
 rw [hwb,hbb]
 have hsh:=sQ s (by omega)
 (repeat (first|simp only [↓QA,QB,Nat.reduceLT,reduceIte,Nat.reduceEqDiff,Nat.reduceAdd,Nat.reduceLeDiff,Nat.reduceMul,Nat.reduceBEq,cE,a71,hsh]|refine rd0 rfl ?_))
 refine dJ (S:=Nat×Nat×Nat×List Int) (0,s,2^s,[(s:Int)]) (fun a=>a.1≤p.length∧a.2.1<5∧MetIs a.2.2.1 a.2.2.2∧eU v (p.drop a.1) (a.2.1:Int) a.2.2.2=R) (fun a=>p.length-a.1)
  (fun a=>[(1,.int .i64 (a.2.1:Nat)),(2,ints p),(3,.ptr 0 0),(8,.int .i64 (a.2.2.1:Nat)),(13,ints p),(14,.int .i64 p.length),(15,.int .i64 a.1)]) (fun a=>[.cells (aB v)]) ⟨Nat.zero_le _,hs,R8 (by omega),by simpa using hR⟩ (by simp [aB,ints]) ?_ fun a ha=>?_
 ·try simp only [aD,QE,Nat.reduceLT,reduceIte,Nat.reduceEqDiff,Nat.reduceAdd,Nat.reduceLeDiff,Nat.reduceMul,Nat.reduceBEq,cE,ints]
  try simp
 ·obtain ⟨k,c,b,met⟩:=a
  obtain ⟨hk,hc,hm,hq⟩:=ha
  simp only at hk hc hm hq
  (repeat (first|simp only [↓QA,QB,Nat.reduceLT,reduceIte,Nat.reduceEqDiff,Nat.reduceAdd,Nat.reduceLeDiff,Nat.reduceMul,Nat.reduceBEq,cE,VU]|refine rd0 rfl ?_))
  refine aI (fun h=>?_) fun h=>?_
  ·have hk1:k<p.length:=by simpa using h
   have hw:=cM hk1 hl
   rw [L8 hk1] at hq
   have hpk:=hp _ (List.getElem_mem hk1)
   obtain ⟨r,hr⟩:∃ r:Nat,p[k]=(r:Int):=⟨p[k].toNat,by omega⟩
   rw [hr] at hpk hq
   have hr1:r<v.rails.length:=by omega
   rw [wY hr1] at hq
   have hro:=hra _ (List.getElem_mem hr1)
   obtain ⟨z,hz⟩:∃ z,v.rails[r]=z:=⟨_,rfl⟩
   rw [hz] at hq hro
   have hov:=OZ z c
   have hoi:=UA hro (c:Int)
   obtain ⟨o,ho⟩:∃ o,bU z (c:Int)=o:=⟨_,rfl⟩
   rw [ho] at hq hov hoi
   have hc0:((c:Int)==0)=decide (c=0):=CU c
   (repeat (first|simp only [↓QA,QB,Nat.reduceLT,reduceIte,Nat.reduceEqDiff,Nat.reduceAdd,Nat.reduceLeDiff,Nat.reduceMul,Nat.reduceBEq,cE,hk1,hr]|refine rd0 rfl ?_))
   cases q1:((c:Int)==0)
   ·have q1':¬(c:Int)=0:=by simpa using q1
    (repeat (first|simp only [↓QA,QB,Nat.reduceLT,reduceIte,Nat.reduceEqDiff,Nat.reduceAdd,Nat.reduceLeDiff,Nat.reduceMul,Nat.reduceBEq,cE,hr1,hz]|refine rd0 rfl ?_))
    ((first|refine aF (hov) rfl dd ?_|refine aH (hov) rfl dd ?_);(repeat (first|simp only [↓QA,QB,Nat.reduceLT,reduceIte,Nat.reduceEqDiff,Nat.reduceAdd,Nat.reduceLeDiff,Nat.reduceMul,Nat.reduceBEq,cE,hr1,hz]|refine rd0 rfl ?_)))
    cases q2:decide ((0:Int)≤o)
    ·have q2':¬0≤o:=by simpa using q2
     rw [if_pos (.inr (.inl (by omega)))] at hq
     (repeat (first|simp only [↓QA,QB,Nat.reduceLT,reduceIte,Nat.reduceEqDiff,Nat.reduceAdd,Nat.reduceLeDiff,Nat.reduceMul,Nat.reduceBEq,cE,q2]|refine rd0 rfl ?_))
     rw [←hq]
     try rfl
    ·have q2':0≤o:=by simpa using q2
     obtain ⟨O,rfl⟩:∃ O:Nat,o=(O:Int):=⟨o.toNat,by omega⟩
     have hO:O<5:=by omega
     have hb:=hm.lt
     have vs:=O7 b O (by omega)
     have va:=H7 (b/2^O) (Nat.lt_of_le_of_lt (Nat.div_le_self _ _) (by omega))
     have vb:=SO hm (show O<6 by omega)
     have hsh:=sQ O (by omega)
     have hp2:=i9 (show O≤60 by omega)
     have hor:=YJ b (2^O) (by omega) (by omega)
     cases q3:met.contains (O:Int)
     ·rw [q3] at vb
      rw [if_neg (by rw [not_or,not_or];exact ⟨q1',by omega,by rw [q3];simp⟩)] at hq
      (repeat (first|simp only [↓QA,QB,Nat.reduceLT,reduceIte,Nat.reduceEqDiff,Nat.reduceAdd,Nat.reduceLeDiff,Nat.reduceMul,Nat.reduceBEq,cE,q2,vs,va,vb,hsh,hor,hw]|refine rd0 rfl ?_))
      refine ⟨(k+1,O,b|||2^O,met++[(O:Int)]),⟨by simp only;omega,hO,I7 hm (by omega),hq⟩,by simp only;omega,?_⟩
      try simp only [aD,QE,Nat.reduceLT,reduceIte,Nat.reduceEqDiff,Nat.reduceAdd,Nat.reduceLeDiff,Nat.reduceMul,Nat.reduceBEq,cE,hw,ints]
      try simp [aN]
     ·rw [q3] at vb
      rw [if_pos (.inr (.inr q3))] at hq
      (repeat (first|simp only [↓QA,QB,Nat.reduceLT,reduceIte,Nat.reduceEqDiff,Nat.reduceAdd,Nat.reduceLeDiff,Nat.reduceMul,Nat.reduceBEq,cE,q2,vs,va,vb]|refine rd0 rfl ?_))
      rw [←hq]
      try rfl
   ·have q1':(c:Int)=0:=by simpa using q1
    rw [if_pos (.inl q1')] at hq
    (repeat (first|simp only [↓QA,QB,Nat.reduceLT,reduceIte,Nat.reduceEqDiff,Nat.reduceAdd,Nat.reduceLeDiff,Nat.reduceMul,Nat.reduceBEq,cE]|refine rd0 rfl ?_))
    rw [←hq]
    try rfl
  ·have hk1:k=p.length:=by
    have:¬k<p.length:=by simpa using h
    omega
   rw [hk1,List.drop_length,eU] at hq
   have hle:decide ((0:Int)<(p.length:Int)) = !p.isEmpty:=by cases p<;>simp
   cases q1:((c:Int)==0)
   ·(repeat (first|simp only [↓QA,QB,Nat.reduceLT,reduceIte,Nat.reduceEqDiff,Nat.reduceAdd,Nat.reduceLeDiff,Nat.reduceMul,Nat.reduceBEq,cE,q1]|refine rd0 rfl ?_))
    rw [←hq]
    simp only [whB,bgB,q1]
    try rfl
   ·(repeat (first|simp only [↓QA,QB,Nat.reduceLT,reduceIte,Nat.reduceEqDiff,Nat.reduceAdd,Nat.reduceLeDiff,Nat.reduceMul,Nat.reduceBEq,cE,q1,hle]|refine rd0 rfl ?_))
    rw [←hq]
    simp only [whB,bgB,q1]
    try rfl
theorem M1 (σ:St) (f:AV) (l:List Tram) (p:Tram→Bool) (hl:l.length<9223372036854775808) (hk:sI σ f) (h:∀ x∈l,iG T f [bX x] σ (.bool (p x))):iG T (.func 101 [] []) [.lit (l.map bX) false none,f] σ (.int .i64 (mF p l 0)):=by
 refine dX (af:=a101) rfl (by simp [a101]) ?_
 have hk0:=hk.nil
 (repeat (first|simp only [↓QA,QB,Nat.reduceLT,reduceIte,Nat.reduceEqDiff,Nat.reduceAdd,Nat.reduceLeDiff,Nat.reduceMul,Nat.reduceBEq,cE,a101]|refine rd0 rfl ?_))
 refine dJ (S:=Nat) 0 (fun k=>k≤l.length∧mF p (l.drop k) k=mF p l 0) (fun k=>l.length-k) (fun k=>[(0,.lit (l.map bX) false none),(1,f),(7,.int .i64 l.length),(8,.int .i64 k)]) (fun _=>σ) ⟨Nat.zero_le _,by simp⟩ rfl ?_ fun k hk1=>?_
 ·try simp only [aD,QE,Nat.reduceLT,reduceIte,Nat.reduceEqDiff,Nat.reduceAdd,Nat.reduceLeDiff,Nat.reduceMul,Nat.reduceBEq,cE]
  try simp
 ·obtain ⟨hkl,hi⟩:=hk1
  (repeat (first|simp only [↓QA,QB,Nat.reduceLT,reduceIte,Nat.reduceEqDiff,Nat.reduceAdd,Nat.reduceLeDiff,Nat.reduceMul,Nat.reduceBEq,cE,NT]|refine rd0 rfl ?_))
  refine aI (fun hd=>?_) fun hd=>?_
  ·have hlt:k<l.length:=by simpa using hd
   rw [List.drop_eq_getElem_cons hlt] at hi
   simp only [mF] at hi
   have hw:=cM hlt hl
   (repeat (first|simp only [↓QA,QB,Nat.reduceLT,reduceIte,Nat.reduceEqDiff,Nat.reduceAdd,Nat.reduceLeDiff,Nat.reduceMul,Nat.reduceBEq,cE,hlt]|refine rd0 rfl ?_))
   refine bM (h l[k] (List.getElem_mem hlt)) ?_
   (repeat (first|simp only [↓QA,QB,Nat.reduceLT,reduceIte,Nat.reduceEqDiff,Nat.reduceAdd,Nat.reduceLeDiff,Nat.reduceMul,Nat.reduceBEq,cE]|refine rd0 rfl ?_))
   cases hp:p l[k]
   ·(repeat (first|simp only [↓QA,QB,Nat.reduceLT,reduceIte,Nat.reduceEqDiff,Nat.reduceAdd,Nat.reduceLeDiff,Nat.reduceMul,Nat.reduceBEq,cE,hw]|refine rd0 rfl ?_))
    refine ⟨k+1,⟨by omega,by rw [←hi,hp];rfl⟩,by omega,?_⟩
    try simp only [aD,QE,Nat.reduceLT,reduceIte,Nat.reduceEqDiff,Nat.reduceAdd,Nat.reduceLeDiff,Nat.reduceMul,Nat.reduceBEq,cE,hw,hk0,Nat.le_refl,aW]
   ·(repeat (first|simp only [↓QA,QB,Nat.reduceLT,reduceIte,Nat.reduceEqDiff,Nat.reduceAdd,Nat.reduceLeDiff,Nat.reduceMul,Nat.reduceBEq,cE]|refine rd0 rfl ?_))
    refine eH [] (by first|rfl|simp) ?_
    rw [←hi,hp]
    try simp only [QS,QC,Nat.reduceLT,reduceIte,Nat.reduceEqDiff,Nat.reduceAdd,Nat.reduceLeDiff,Nat.reduceMul,Nat.reduceBEq,cE]
  ·have hlt:k=l.length:=by simp at hd;omega
   (repeat (first|simp only [↓QA,QB,Nat.reduceLT,reduceIte,Nat.reduceEqDiff,Nat.reduceAdd,Nat.reduceLeDiff,Nat.reduceMul,Nat.reduceBEq,cE]|refine rd0 rfl ?_))
   refine eH [] (by first|rfl|simp) ?_
   rw [←hi,hlt,List.drop_length]
   try simp only [QS,QC,Nat.reduceLT,reduceIte,Nat.reduceEqDiff,Nat.reduceAdd,Nat.reduceLeDiff,Nat.reduceMul,Nat.reduceBEq,cE,mF]
theorem E8 (σ:St) (f:AV) (l:List Tram) (p:Tram→Bool) (hl:l.length<9223372036854775808) (hk:sI σ f) (h:∀ x∈l,iG T f [bX x] σ (.bool (p x))):iG T (.func 69 [] []) [.lit (l.map bX) false none,f] σ (.bool (l.any p)):=by
 refine dX (af:=a69) rfl (by simp [a69]) ?_
 (repeat (first|simp only [↓QA,QB,Nat.reduceLT,reduceIte,Nat.reduceEqDiff,Nat.reduceAdd,Nat.reduceLeDiff,Nat.reduceMul,Nat.reduceBEq,cE,a69]|refine rd0 rfl ?_))
 refine bM (M1 σ f l p hl hk h) ?_
 (repeat (first|simp only [↓QA,QB,Nat.reduceLT,reduceIte,Nat.reduceEqDiff,Nat.reduceAdd,Nat.reduceLeDiff,Nat.reduceMul,Nat.reduceBEq,cE]|refine rd0 rfl ?_))
 refine eH [] (by first|rfl|simp) ?_
 rw [←uZ p l 0]
 try simp only [QS,QC,Nat.reduceLT,reduceIte,Nat.reduceEqDiff,Nat.reduceAdd,Nat.reduceLeDiff,Nat.reduceMul,Nat.reduceBEq,cE]
end Go.Am.Room
set_option maxRecDepth 4000
namespace Go.Am.Room
def aE:=And.intro @aZ (And.intro @aK (And.intro @aR (And.intro @aT (And.intro @aS (And.intro @aQ (And.intro @aY (And.intro @aW (And.intro @aV (And.intro @dL (And.intro @dR (@Nat.not_lt_zero)))))))))))
def lZ {α:Type} (of:Nat→α→Int) (l:List α):Int×Int:=match aU of l 0 with|some (i,e)=>(i,e)|none=>(0,0)
theorem C4 (σ:St) (f:AV) (l:List Rail) (of:Nat→Rail→Int) (hl:l.length<9223372036854775808) (hk:sI σ f)
  (h:∀ i (hi:i<l.length),iG T f [.int .i64 i,cV l[i]] (σ++[.cells (cV l[i]).cells]) (.int .i64 (of i l[i]))):iG T (.func 64 [] []) [.lit (l.map cV) false none,f] σ (tD (lZ of l)):=by
 refine dX (af:=a64) rfl (by simp [a64]) ?_
 have hk0:=hk.nil
 have hk2:∀ τ,bS (σ++τ) σ.length 20 f=some f:=hk
 (repeat (first|simp only [↓QA,QB,Nat.reduceLT,reduceIte,Nat.reduceEqDiff,Nat.reduceAdd,Nat.reduceLeDiff,Nat.reduceMul,Nat.reduceBEq,aE,a64]|refine rd0 rfl ?_))
 refine dJ (S:=Nat) 0 (fun k=>k≤l.length∧aU of (l.drop k) k=aU of l 0) (fun k=>l.length-k) (fun k=>[(1,f),(9,.lit (l.map cV) false none),(10,.int .i64 l.length),(11,.int .i64 k)]) (fun _=>σ) ⟨Nat.zero_le _,by simp⟩ rfl ?_ fun k hk1=>?_
 ·try simp only [aD,QE,Nat.reduceLT,reduceIte,Nat.reduceEqDiff,Nat.reduceAdd,Nat.reduceLeDiff,Nat.reduceMul,Nat.reduceBEq,aE]
  try simp
 ·obtain ⟨hkl,hi⟩:=hk1
  (repeat (first|simp only [↓QA,QB,Nat.reduceLT,reduceIte,Nat.reduceEqDiff,Nat.reduceAdd,Nat.reduceLeDiff,Nat.reduceMul,Nat.reduceBEq,aE,WI]|refine rd0 rfl ?_))
  refine aI (fun hd=>?_) fun hd=>?_
  ·have hlt:k<l.length:=by simpa using hd
   have hs:=h k hlt
   rw [gQ hlt] at hi
   have hw:=cM hlt hl
   try simp only [↓QA,QB,Nat.reduceLT,reduceIte,Nat.reduceEqDiff,Nat.reduceAdd,Nat.reduceLeDiff,Nat.reduceMul,Nat.reduceBEq,aE,hlt] at hs
   (repeat (first|simp only [↓QA,QB,Nat.reduceLT,reduceIte,Nat.reduceEqDiff,Nat.reduceAdd,Nat.reduceLeDiff,Nat.reduceMul,Nat.reduceBEq,aE,hlt]|refine rd0 rfl ?_))
   refine bM hs ?_
   (repeat (first|simp only [↓QA,QB,Nat.reduceLT,reduceIte,Nat.reduceEqDiff,Nat.reduceAdd,Nat.reduceLeDiff,Nat.reduceMul,Nat.reduceBEq,aE]|refine rd0 rfl ?_))
   cases hp:(of k l[k]==0)
   ·have hp':of k l[k]≠0:=by simpa using hp
    rw [if_neg hp'] at hi
    (repeat (first|simp only [↓QA,QB,Nat.reduceLT,reduceIte,Nat.reduceEqDiff,Nat.reduceAdd,Nat.reduceLeDiff,Nat.reduceMul,Nat.reduceBEq,aE,hp]|refine rd0 rfl ?_))
    refine eH _ rfl ?_
    try simp only [QS,QC,Nat.reduceLT,reduceIte,Nat.reduceEqDiff,Nat.reduceAdd,Nat.reduceLeDiff,Nat.reduceMul,Nat.reduceBEq,aE,tD,lZ,←hi,reduceCtorEq]
   ·have hp':of k l[k]=0:=by simpa using hp
    rw [if_pos hp'] at hi
    (repeat (first|simp only [↓QA,QB,Nat.reduceLT,reduceIte,Nat.reduceEqDiff,Nat.reduceAdd,Nat.reduceLeDiff,Nat.reduceMul,Nat.reduceBEq,aE,hp,hw]|refine rd0 rfl ?_))
    refine ⟨k+1,⟨by omega,hi⟩,by omega,?_⟩
    try simp only [aD,QE,Nat.reduceLT,reduceIte,Nat.reduceEqDiff,Nat.reduceAdd,Nat.reduceLeDiff,Nat.reduceMul,Nat.reduceBEq,aE,hw,hk0,hk2,Nat.le_refl,aY]
  ·have hlt:k=l.length:=by simp at hd;omega
   rw [iE hlt] at hi
   (repeat (first|simp only [↓QA,QB,Nat.reduceLT,reduceIte,Nat.reduceEqDiff,Nat.reduceAdd,Nat.reduceLeDiff,Nat.reduceMul,Nat.reduceBEq,aE]|refine rd0 rfl ?_))
   refine eH [] (by first|rfl|simp) ?_
   try simp only [QS,QC,Nat.reduceLT,reduceIte,Nat.reduceEqDiff,Nat.reduceAdd,Nat.reduceLeDiff,Nat.reduceMul,Nat.reduceBEq,aE,tD,lZ,←hi,reduceCtorEq]
theorem DI (σ:St) (f:AV) (l:List Tram) (of:Nat→Tram→Int) (hl:l.length<9223372036854775808) (hk:sI σ f)
  (h:∀ i (hi:i<l.length),iG T f [.int .i64 i,bX l[i]] (σ++[.cells (bX l[i]).cells]) (.int .i64 (of i l[i]))):iG T (.func 66 [] []) [.lit (l.map bX) false none,f] σ (tD (lZ of l)):=by
 refine dX (af:=a66) rfl (by simp [a66]) ?_
 have hk0:=hk.nil
 have hk2:∀ τ,bS (σ++τ) σ.length 20 f=some f:=hk
 (repeat (first|simp only [↓QA,QB,Nat.reduceLT,reduceIte,Nat.reduceEqDiff,Nat.reduceAdd,Nat.reduceLeDiff,Nat.reduceMul,Nat.reduceBEq,aE,a66]|refine rd0 rfl ?_))
 refine dJ (S:=Nat) 0 (fun k=>k≤l.length∧aU of (l.drop k) k=aU of l 0) (fun k=>l.length-k) (fun k=>[(1,f),(9,.lit (l.map bX) false none),(10,.int .i64 l.length),(11,.int .i64 k)]) (fun _=>σ) ⟨Nat.zero_le _,by simp⟩ rfl ?_ fun k hk1=>?_
 ·try simp only [aD,QE,Nat.reduceLT,reduceIte,Nat.reduceEqDiff,Nat.reduceAdd,Nat.reduceLeDiff,Nat.reduceMul,Nat.reduceBEq,aE]
  try simp
 ·obtain ⟨hkl,hi⟩:=hk1
  (repeat (first|simp only [↓QA,QB,Nat.reduceLT,reduceIte,Nat.reduceEqDiff,Nat.reduceAdd,Nat.reduceLeDiff,Nat.reduceMul,Nat.reduceBEq,aE,VN]|refine rd0 rfl ?_))
  refine aI (fun hd=>?_) fun hd=>?_
  ·have hlt:k<l.length:=by simpa using hd
   have hs:=h k hlt
   rw [gQ hlt] at hi
   have hw:=cM hlt hl
   try simp only [↓QA,QB,Nat.reduceLT,reduceIte,Nat.reduceEqDiff,Nat.reduceAdd,Nat.reduceLeDiff,Nat.reduceMul,Nat.reduceBEq,aE,hlt] at hs
   (repeat (first|simp only [↓QA,QB,Nat.reduceLT,reduceIte,Nat.reduceEqDiff,Nat.reduceAdd,Nat.reduceLeDiff,Nat.reduceMul,Nat.reduceBEq,aE,hlt]|refine rd0 rfl ?_))
   refine bM hs ?_
   (repeat (first|simp only [↓QA,QB,Nat.reduceLT,reduceIte,Nat.reduceEqDiff,Nat.reduceAdd,Nat.reduceLeDiff,Nat.reduceMul,Nat.reduceBEq,aE]|refine rd0 rfl ?_))
   cases hp:(of k l[k]==0)
   ·have hp':of k l[k]≠0:=by simpa using hp
    rw [if_neg hp'] at hi
    (repeat (first|simp only [↓QA,QB,Nat.reduceLT,reduceIte,Nat.reduceEqDiff,Nat.reduceAdd,Nat.reduceLeDiff,Nat.reduceMul,Nat.reduceBEq,aE,hp]|refine rd0 rfl ?_))
    refine eH _ rfl ?_
    try simp only [QS,QC,Nat.reduceLT,reduceIte,Nat.reduceEqDiff,Nat.reduceAdd,Nat.reduceLeDiff,Nat.reduceMul,Nat.reduceBEq,aE,tD,lZ,←hi,reduceCtorEq]
   ·have hp':of k l[k]=0:=by simpa using hp
    rw [if_pos hp'] at hi
    (repeat (first|simp only [↓QA,QB,Nat.reduceLT,reduceIte,Nat.reduceEqDiff,Nat.reduceAdd,Nat.reduceLeDiff,Nat.reduceMul,Nat.reduceBEq,aE,hp,hw]|refine rd0 rfl ?_))
    refine ⟨k+1,⟨by omega,hi⟩,by omega,?_⟩
    try simp only [aD,QE,Nat.reduceLT,reduceIte,Nat.reduceEqDiff,Nat.reduceAdd,Nat.reduceLeDiff,Nat.reduceMul,Nat.reduceBEq,aE,hw,hk0,hk2,Nat.le_refl,aW]
  ·have hlt:k=l.length:=by simp at hd;omega
   rw [iE hlt] at hi
   (repeat (first|simp only [↓QA,QB,Nat.reduceLT,reduceIte,Nat.reduceEqDiff,Nat.reduceAdd,Nat.reduceLeDiff,Nat.reduceMul,Nat.reduceBEq,aE]|refine rd0 rfl ?_))
   refine eH [] (by first|rfl|simp) ?_
   try simp only [QS,QC,Nat.reduceLT,reduceIte,Nat.reduceEqDiff,Nat.reduceAdd,Nat.reduceLeDiff,Nat.reduceMul,Nat.reduceBEq,aE,tD,lZ,←hi,reduceCtorEq]
theorem CK (σ:St) (f:AV) (l:List Seen) (of:Nat→Seen→Int) (hl:l.length<9223372036854775808) (hk:sI σ f)
  (h:∀ i (hi:i<l.length),iG T f [.int .i64 i,dB l[i]] (σ++[.cells (dB l[i]).cells]) (.int .i64 (of i l[i]))):iG T (.func 72 [] []) [.lit (l.map dB) false none,f] σ (tD (lZ of l)):=by
 refine dX (af:=a72) rfl (by simp [a72]) ?_
 have hk0:=hk.nil
 have hk2:∀ τ,bS (σ++τ) σ.length 20 f=some f:=hk
 (repeat (first|simp only [↓QA,QB,Nat.reduceLT,reduceIte,Nat.reduceEqDiff,Nat.reduceAdd,Nat.reduceLeDiff,Nat.reduceMul,Nat.reduceBEq,aE,a72]|refine rd0 rfl ?_))
 refine dJ (S:=Nat) 0 (fun k=>k≤l.length∧aU of (l.drop k) k=aU of l 0) (fun k=>l.length-k) (fun k=>[(1,f),(9,.lit (l.map dB) false none),(10,.int .i64 l.length),(11,.int .i64 k)]) (fun _=>σ) ⟨Nat.zero_le _,by simp⟩ rfl ?_ fun k hk1=>?_
 ·try simp only [aD,QE,Nat.reduceLT,reduceIte,Nat.reduceEqDiff,Nat.reduceAdd,Nat.reduceLeDiff,Nat.reduceMul,Nat.reduceBEq,aE]
  try simp
 ·obtain ⟨hkl,hi⟩:=hk1
  (repeat (first|simp only [↓QA,QB,Nat.reduceLT,reduceIte,Nat.reduceEqDiff,Nat.reduceAdd,Nat.reduceLeDiff,Nat.reduceMul,Nat.reduceBEq,aE,WA]|refine rd0 rfl ?_))
  refine aI (fun hd=>?_) fun hd=>?_
  ·have hlt:k<l.length:=by simpa using hd
   have hs:=h k hlt
   rw [gQ hlt] at hi
   have hw:=cM hlt hl
   try simp only [↓QA,QB,Nat.reduceLT,reduceIte,Nat.reduceEqDiff,Nat.reduceAdd,Nat.reduceLeDiff,Nat.reduceMul,Nat.reduceBEq,aE,hlt] at hs
   (repeat (first|simp only [↓QA,QB,Nat.reduceLT,reduceIte,Nat.reduceEqDiff,Nat.reduceAdd,Nat.reduceLeDiff,Nat.reduceMul,Nat.reduceBEq,aE,hlt]|refine rd0 rfl ?_))
   refine bM hs ?_
   (repeat (first|simp only [↓QA,QB,Nat.reduceLT,reduceIte,Nat.reduceEqDiff,Nat.reduceAdd,Nat.reduceLeDiff,Nat.reduceMul,Nat.reduceBEq,aE]|refine rd0 rfl ?_))
   cases hp:(of k l[k]==0)
   ·have hp':of k l[k]≠0:=by simpa using hp
    rw [if_neg hp'] at hi
    (repeat (first|simp only [↓QA,QB,Nat.reduceLT,reduceIte,Nat.reduceEqDiff,Nat.reduceAdd,Nat.reduceLeDiff,Nat.reduceMul,Nat.reduceBEq,aE,hp]|refine rd0 rfl ?_))
    refine eH _ rfl ?_
    try simp only [QS,QC,Nat.reduceLT,reduceIte,Nat.reduceEqDiff,Nat.reduceAdd,Nat.reduceLeDiff,Nat.reduceMul,Nat.reduceBEq,aE,tD,lZ,←hi,reduceCtorEq]
   ·have hp':of k l[k]=0:=by simpa using hp
    rw [if_pos hp'] at hi
    (repeat (first|simp only [↓QA,QB,Nat.reduceLT,reduceIte,Nat.reduceEqDiff,Nat.reduceAdd,Nat.reduceLeDiff,Nat.reduceMul,Nat.reduceBEq,aE,hp,hw]|refine rd0 rfl ?_))
    refine ⟨k+1,⟨by omega,hi⟩,by omega,?_⟩
    try simp only [aD,QE,Nat.reduceLT,reduceIte,Nat.reduceEqDiff,Nat.reduceAdd,Nat.reduceLeDiff,Nat.reduceMul,Nat.reduceBEq,aE,hw,hk0,hk2,Nat.le_refl,aV]
  ·have hlt:k=l.length:=by simp at hd;omega
   rw [iE hlt] at hi
   (repeat (first|simp only [↓QA,QB,Nat.reduceLT,reduceIte,Nat.reduceEqDiff,Nat.reduceAdd,Nat.reduceLeDiff,Nat.reduceMul,Nat.reduceBEq,aE]|refine rd0 rfl ?_))
   refine eH [] (by first|rfl|simp) ?_
   try simp only [QS,QC,Nat.reduceLT,reduceIte,Nat.reduceEqDiff,Nat.reduceAdd,Nat.reduceLeDiff,Nat.reduceMul,Nat.reduceBEq,aE,tD,lZ,←hi,reduceCtorEq]
theorem F2 (s:Span):(mS s 1 20=7)↔(!inR s.lo 1 20||!inR s.hi 1 20)=true:=by
 unfold mS
 split
 ·rename_i h;simp [h]
 ·rename_i h
  constructor
  ·intro q;split at q<;>omega
  ·intro q;exact absurd q h
theorem RJ (v:Net) (W:Int) (hW:∀ s:Int,inR s 0 W=kK v s) (i:Int) (r:Rail) (b:ABlk) (τ:St):iG T (.func 65 [] [.ptr 1 0]) [.int .i64 i,cV r] (b::.cells [.int .i64 W]::τ) (.int .i64 (bY v r)):=by
 refine dX (af:=a65) rfl (by simp [a65]) ?_
 (repeat (first|simp only [↓QA,QB,Nat.reduceLT,reduceIte,Nat.reduceEqDiff,Nat.reduceAdd,Nat.reduceLeDiff,Nat.reduceMul,Nat.reduceBEq,aE,a65]|refine rd0 rfl ?_))
 ((first|refine d5 (bE 0 W [r.a,r.b] (by simp)) (by simp [clr,clrs,ints]) (by simp [okV,okVs]) ?_|refine eP (bE 0 W [r.a,r.b] (by simp)) (by simp [clr,clrs,ints]) (by simp [okV,okVs]) ?_);(repeat (first|simp only [↓QA,QB,Nat.reduceLT,reduceIte,Nat.reduceEqDiff,Nat.reduceAdd,Nat.reduceLeDiff,Nat.reduceMul,Nat.reduceBEq,aE,JS]|refine rd0 rfl ?_)))
 rw [hW,hW]
 cases h1:(!kK v r.a||!kK v r.b)
 ·have h1':¬(kK v r.a=false∨kK v r.b=false):=by
   rintro (h|h)<;>rw [h] at h1<;>simp at h1
  (repeat (first|simp only [↓QA,QB,Nat.reduceLT,reduceIte,Nat.reduceEqDiff,Nat.reduceAdd,Nat.reduceLeDiff,Nat.reduceMul,Nat.reduceBEq,aE]|refine rd0 rfl ?_))
  cases h2:(r.a==r.b)
  ·have h2':r.a≠r.b:=by simpa using h2
   (repeat (first|simp only [↓QA,QB,Nat.reduceLT,reduceIte,Nat.reduceEqDiff,Nat.reduceAdd,Nat.reduceLeDiff,Nat.reduceMul,Nat.reduceBEq,aE,h2]|refine rd0 rfl ?_))
   ((first|refine d5 (bE 1 20 [r.mins.lo,r.mins.hi] (by simp)) (by simp [clr,clrs,ints]) (by simp [okV,okVs]) ?_|refine eP (bE 1 20 [r.mins.lo,r.mins.hi] (by simp)) (by simp [clr,clrs,ints]) (by simp [okV,okVs]) ?_);(repeat (first|simp only [↓QA,QB,Nat.reduceLT,reduceIte,Nat.reduceEqDiff,Nat.reduceAdd,Nat.reduceLeDiff,Nat.reduceMul,Nat.reduceBEq,aE,JS]|refine rd0 rfl ?_)))
   cases h3:(!inR r.mins.lo 1 20||!inR r.mins.hi 1 20)
   ·have h3':mS r.mins 1 20≠7:=fun q=>by rw [F2,h3] at q;cases q
    (repeat (first|simp only [↓QA,QB,Nat.reduceLT,reduceIte,Nat.reduceEqDiff,Nat.reduceAdd,Nat.reduceLeDiff,Nat.reduceMul,Nat.reduceBEq,aE]|refine rd0 rfl ?_))
    ((first|refine d5 (bE 0 2 [r.shut] (by simp)) (by simp [clr,clrs,ints]) (by simp [okV,okVs]) ?_|refine eP (bE 0 2 [r.shut] (by simp)) (by simp [clr,clrs,ints]) (by simp [okV,okVs]) ?_);(repeat (first|simp only [↓QA,QB,Nat.reduceLT,reduceIte,Nat.reduceEqDiff,Nat.reduceAdd,Nat.reduceLeDiff,Nat.reduceMul,Nat.reduceBEq,aE,iQ]|refine rd0 rfl ?_)))
    cases h4:inR r.shut 0 2
    ·(repeat (first|simp only [↓QA,QB,Nat.reduceLT,reduceIte,Nat.reduceEqDiff,Nat.reduceAdd,Nat.reduceLeDiff,Nat.reduceMul,Nat.reduceBEq,aE]|refine rd0 rfl ?_))
     refine eH _ rfl ?_
     have:bY v r=7:=by rw [bY,if_neg h1',if_neg h2',if_pos (.inr h4)]
     rw [this]
     try simp only [QS,QC,Nat.reduceLT,reduceIte,Nat.reduceEqDiff,Nat.reduceAdd,Nat.reduceLeDiff,Nat.reduceMul,Nat.reduceBEq,aE]
    ·have hlo:inR r.mins.lo 1 20=true:=by
      cases q:inR r.mins.lo 1 20
      ·rw [q] at h3;simp at h3
      ·rfl
     have hhi:inR r.mins.hi 1 20=true:=by
      cases q:inR r.mins.hi 1 20
      ·rw [q] at h3;simp at h3
      ·rfl
     rw [cX] at hlo hhi
     have hw:IntKind.i64.wrap (r.mins.hi-r.mins.lo)=r.mins.hi-r.mins.lo:=dZ ⟨by omega,by omega⟩
     have hen:mS r.mins 1 20=if r.mins.hi<r.mins.lo then 2 else 0:=by rw [mS,h3];rfl
     simp only [Bool.not_true,o0]
     (repeat (first|simp only [↓QA,QB,Nat.reduceLT,reduceIte,Nat.reduceEqDiff,Nat.reduceAdd,Nat.reduceLeDiff,Nat.reduceMul,Nat.reduceBEq,aE,hw]|refine rd0 rfl ?_))
     ((first|refine d5 (bE 0 1 [r.mins.hi-r.mins.lo] (by simp)) (by simp [clr,clrs,ints]) (by simp [okV,okVs]) ?_|refine eP (bE 0 1 [r.mins.hi-r.mins.lo] (by simp)) (by simp [clr,clrs,ints]) (by simp [okV,okVs]) ?_);(repeat (first|simp only [↓QA,QB,Nat.reduceLT,reduceIte,Nat.reduceEqDiff,Nat.reduceAdd,Nat.reduceLeDiff,Nat.reduceMul,Nat.reduceBEq,aE,iQ]|refine rd0 rfl ?_)))
     cases h5:inR (r.mins.hi-r.mins.lo) 0 1
     ·have h5':¬(0≤r.mins.hi-r.mins.lo∧r.mins.hi-r.mins.lo≤1):=fun q=>by rw [←cX,h5] at q;cases q
      (repeat (first|simp only [↓QA,QB,Nat.reduceLT,reduceIte,Nat.reduceEqDiff,Nat.reduceAdd,Nat.reduceLeDiff,Nat.reduceMul,Nat.reduceBEq,aE]|refine rd0 rfl ?_))
      refine eH _ rfl ?_
      have:bY v r=2:=by
       rw [bY,if_neg h1',if_neg h2',if_neg (by rw [not_or];exact ⟨h3',by rw [h4];simp⟩),hen]
       split
       ·rw [if_pos (.inl (by omega))]
       ·rw [if_pos (.inr (by omega))]
      rw [this]
      try simp only [QS,QC,Nat.reduceLT,reduceIte,Nat.reduceEqDiff,Nat.reduceAdd,Nat.reduceLeDiff,Nat.reduceMul,Nat.reduceBEq,aE]
     ·rw [cX] at h5
      (repeat (first|simp only [↓QA,QB,Nat.reduceLT,reduceIte,Nat.reduceEqDiff,Nat.reduceAdd,Nat.reduceLeDiff,Nat.reduceMul,Nat.reduceBEq,aE]|refine rd0 rfl ?_))
      refine eH _ rfl ?_
      have:bY v r=0:=by
       rw [bY,if_neg h1',if_neg h2',if_neg (by rw [not_or];exact ⟨h3',by rw [h4];simp⟩),hen,if_neg (by omega)]
       try rfl
      rw [this]
      try simp only [QS,QC,Nat.reduceLT,reduceIte,Nat.reduceEqDiff,Nat.reduceAdd,Nat.reduceLeDiff,Nat.reduceMul,Nat.reduceBEq,aE]
   ·have h3':mS r.mins 1 20=7:=F2 _ |>.2 h3
    (repeat (first|simp only [↓QA,QB,Nat.reduceLT,reduceIte,Nat.reduceEqDiff,Nat.reduceAdd,Nat.reduceLeDiff,Nat.reduceMul,Nat.reduceBEq,aE]|refine rd0 rfl ?_))
    refine eH _ rfl ?_
    have:bY v r=7:=by rw [bY,if_neg h1',if_neg h2',if_pos (.inl h3')]
    rw [this]
    try simp only [QS,QC,Nat.reduceLT,reduceIte,Nat.reduceEqDiff,Nat.reduceAdd,Nat.reduceLeDiff,Nat.reduceMul,Nat.reduceBEq,aE]
  ·have h2':r.a=r.b:=by simpa using h2
   (repeat (first|simp only [↓QA,QB,Nat.reduceLT,reduceIte,Nat.reduceEqDiff,Nat.reduceAdd,Nat.reduceLeDiff,Nat.reduceMul,Nat.reduceBEq,aE,h2]|refine rd0 rfl ?_))
   refine eH _ rfl ?_
   have:bY v r=2:=by rw [bY,if_neg h1',if_pos h2']
   rw [this]
   try simp only [QS,QC,Nat.reduceLT,reduceIte,Nat.reduceEqDiff,Nat.reduceAdd,Nat.reduceLeDiff,Nat.reduceMul,Nat.reduceBEq,aE]
 ·have h1':kK v r.a=false∨kK v r.b=false:=by
   cases a:kK v r.a
   ·exact .inl rfl
   ·cases b:kK v r.b
    ·exact .inr rfl
    ·rw [a,b] at h1;simp at h1
  (repeat (first|simp only [↓QA,QB,Nat.reduceLT,reduceIte,Nat.reduceEqDiff,Nat.reduceAdd,Nat.reduceLeDiff,Nat.reduceMul,Nat.reduceBEq,aE]|refine rd0 rfl ?_))
  refine eH _ rfl ?_
  have:bY v r=4:=by rw [bY,if_pos h1']
  rw [this]
  try simp only [QS,QC,Nat.reduceLT,reduceIte,Nat.reduceEqDiff,Nat.reduceAdd,Nat.reduceLeDiff,Nat.reduceMul,Nat.reduceBEq,aE]
theorem PJ (s x:Tram) (b0 b1:ABlk) (τ:St):iG T (.func 70 [] [.ptr (τ.length+2) 0]) [bX x] (b0::b1::(τ++[.cells (bX s).cells])) (.bool (decide (x.name=s.name))):=by
 refine dX (af:=a70) rfl (by simp [a70]) ?_
 (repeat (first|simp only [↓QA,QB,Nat.reduceLT,reduceIte,Nat.reduceEqDiff,Nat.reduceAdd,Nat.reduceLeDiff,Nat.reduceMul,Nat.reduceBEq,aE,a70,DA,List.length_append]|refine rd0 rfl ?_))
 refine eH [.cells [.str x.name,.int .i64 x.frm,.int .i64 x.leaves,.int .i64 x.due,.lit (x.path.map (.int .i64)) false none]] (by first|rfl|simp) ?_
 try simp only [QS,QC,Nat.reduceLT,reduceIte,Nat.reduceEqDiff,Nat.reduceAdd,Nat.reduceLeDiff,Nat.reduceMul,Nat.reduceBEq,aE]
theorem IF (lo hi:Int) (l:List Int):nK lo hi l = !l.all (fun r=>inR r lo hi):=by
 rw [nK]
 induction l with
 |nil=>rfl
 |cons x l ih =>
  rw [List.any_cons,List.all_cons,ih,Bool.not_and]
  congr 1
  rw [Bool.eq_iff_iff]
  simp [kE,inR]
  try omega
theorem US (v:Net) (h:Fits v) (hst:2≤v.stations∧v.stations≤5) (hra:∀ r∈v.rails,RailOk v r) (i:Nat) (hi:i<v.trams.length) (τ:St):iG T (.func 67 [] [.ptr 0 0,.ptr 1 0]) [.int .i64 i,bX v.trams[i]] (.cells (aB v)::.cells [.int .i64 (v.stations-1)]::τ) (.int .i64 (fP v i v.trams[i])):=by
 refine dX (af:=a67) rfl (by simp [a67]) ?_
 have hfr:=h.rails
 have hsz:=h.names _ (List.getElem_mem hi)
 have hpz:=h.paths _ (List.getElem_mem hi)
 have hts:(v.trams.take i).length<9223372036854775808:=by have:=h.trams;simp;omega
 obtain ⟨s,hs⟩:∃ s,v.trams[i]=s:=⟨_,rfl⟩
 have hk:fP v i s=if fresh s.name ((v.trams.take i).map Tram.name)=0 then eX v s else fresh s.name ((v.trams.take i).map Tram.name):=rfl
 rw [hs] at hsz hpz ⊢
 obtain ⟨E,hE⟩:∃ E,fP v i s=E:=⟨_,rfl⟩
 rw [hE] at hk ⊢
 have hwr:IntKind.i64.wrap ((v.rails.length:Int)-1)=(v.rails.length:Int)-1:=dZ ⟨by omega,by omega⟩
 have fin:∀ (n:Int) (b:List AV),n=E→zJ (some (.int .i64 n)) (.cells (aB v)::.cells [.int .i64 (v.stations-1)]::τ) (.cells (aB v)::.cells [.int .i64 (v.stations-1)]::(τ++[.cells b])) (.int .i64 E):=fun n b hv=>by
  refine eH [.cells b] (by first|rfl|simp) ?_
  rw [hv]
  try simp only [QS,QC,Nat.reduceLT,reduceIte,Nat.reduceEqDiff,Nat.reduceAdd,Nat.reduceLeDiff,Nat.reduceMul,Nat.reduceBEq,aE]
 simp only [aK] at fin
 (repeat (first|simp only [↓QA,QB,Nat.reduceLT,reduceIte,Nat.reduceEqDiff,Nat.reduceAdd,Nat.reduceLeDiff,Nat.reduceMul,Nat.reduceBEq,aE,a67]|refine rd0 rfl ?_))
 ((first|refine aF (v3 s.name hsz) rfl dd ?_|refine aH (v3 s.name hsz) rfl dd ?_);(repeat (first|simp only [↓QA,QB,Nat.reduceLT,reduceIte,Nat.reduceEqDiff,Nat.reduceAdd,Nat.reduceLeDiff,Nat.reduceMul,Nat.reduceBEq,aE]|refine rd0 rfl ?_)))
 cases h1:nJ s.name
 ·(repeat (first|simp only [↓QA,QB,Nat.reduceLT,reduceIte,Nat.reduceEqDiff,Nat.reduceAdd,Nat.reduceLeDiff,Nat.reduceMul,Nat.reduceBEq,aE]|refine rd0 rfl ?_))
  exact fin _ _ (by rw [hk];simp [fresh,h1])
 ·have hc:=E8 (.cells (aB v)::.cells [.int .i64 (v.stations-1)]::(τ++[.cells (bX s).cells])) (.func 70 [] [.ptr (τ.length+2) 0]) (v.trams.take i) (fun x=>decide (x.name=s.name)) hts (fun υ=>by try simp only [QS,QC,Nat.reduceLT,reduceIte,Nat.reduceEqDiff,Nat.reduceAdd,Nat.reduceLeDiff,Nat.reduceMul,Nat.reduceBEq,aE,List.length_append];simp) fun x _=>PJ s x _ _ τ
  try simp only [↓QA,QB,Nat.reduceLT,reduceIte,Nat.reduceEqDiff,Nat.reduceAdd,Nat.reduceLeDiff,Nat.reduceMul,Nat.reduceBEq,aE] at hc
  (repeat (first|simp only [↓QA,QB,Nat.reduceLT,reduceIte,Nat.reduceEqDiff,Nat.reduceAdd,Nat.reduceLeDiff,Nat.reduceMul,Nat.reduceBEq,aE,ZK (enc:=bX) (l:=v.trams) (Nat.le_of_lt hi)]|refine rd0 rfl ?_))
  refine bM hc ?_
  rw [yE]
  cases h2:decide (iW s.name ((v.trams.take i).map Tram.name)≠((v.trams.take i).map Tram.name).length)
  ·have h2':iW s.name ((v.trams.take i).map Tram.name)=((v.trams.take i).map Tram.name).length:=by simpa using h2
   have hf:fresh s.name ((v.trams.take i).map Tram.name)=0:=by simp only [fresh,h1,h2'];simp
   rw [hf] at hk
   simp only [if_true] at hk
   (repeat (first|simp only [↓QA,QB,Nat.reduceLT,reduceIte,Nat.reduceEqDiff,Nat.reduceAdd,Nat.reduceLeDiff,Nat.reduceMul,Nat.reduceBEq,aE]|refine rd0 rfl ?_))
   ((first|refine d5 (bE 0 (v.stations-1) [s.frm] (by simp)) (by simp [clr,clrs,ints]) (by simp [okV,okVs]) ?_|refine eP (bE 0 (v.stations-1) [s.frm] (by simp)) (by simp [clr,clrs,ints]) (by simp [okV,okVs]) ?_);(repeat (first|simp only [↓QA,QB,Nat.reduceLT,reduceIte,Nat.reduceEqDiff,Nat.reduceAdd,Nat.reduceLeDiff,Nat.reduceMul,Nat.reduceBEq,aE,iQ]|refine rd0 rfl ?_)))
   have hsi:inR s.frm 0 (v.stations-1)=kK v s.frm:=rfl
   rw [hsi]
   cases h3:kK v s.frm
   ·(repeat (first|simp only [↓QA,QB,Nat.reduceLT,reduceIte,Nat.reduceEqDiff,Nat.reduceAdd,Nat.reduceLeDiff,Nat.reduceMul,Nat.reduceBEq,aE]|refine rd0 rfl ?_))
    exact fin _ _ (by rw [hk,eX,if_pos h3])
   ·rw [eX,if_neg (by rw [h3];simp)] at hk
    (repeat (first|simp only [↓QA,QB,Nat.reduceLT,reduceIte,Nat.reduceEqDiff,Nat.reduceAdd,Nat.reduceLeDiff,Nat.reduceMul,Nat.reduceBEq,aE]|refine rd0 rfl ?_))
    ((first|refine d5 (bE 0 60 [s.leaves] (by simp)) (by simp [clr,clrs,ints]) (by simp [okV,okVs]) ?_|refine eP (bE 0 60 [s.leaves] (by simp)) (by simp [clr,clrs,ints]) (by simp [okV,okVs]) ?_);(repeat (first|simp only [↓QA,QB,Nat.reduceLT,reduceIte,Nat.reduceEqDiff,Nat.reduceAdd,Nat.reduceLeDiff,Nat.reduceMul,Nat.reduceBEq,aE,iQ]|refine rd0 rfl ?_)))
    cases h4:inR s.leaves 0 60
    ·(repeat (first|simp only [↓QA,QB,Nat.reduceLT,reduceIte,Nat.reduceEqDiff,Nat.reduceAdd,Nat.reduceLeDiff,Nat.reduceMul,Nat.reduceBEq,aE]|refine rd0 rfl ?_))
     exact fin _ _ (by rw [hk,if_pos (.inl h4)])
    ·(repeat (first|simp only [↓QA,QB,Nat.reduceLT,reduceIte,Nat.reduceEqDiff,Nat.reduceAdd,Nat.reduceLeDiff,Nat.reduceMul,Nat.reduceBEq,aE]|refine rd0 rfl ?_))
     ((first|refine d5 (bE 0 400 [s.due] (by simp)) (by simp [clr,clrs,ints]) (by simp [okV,okVs]) ?_|refine eP (bE 0 400 [s.due] (by simp)) (by simp [clr,clrs,ints]) (by simp [okV,okVs]) ?_);(repeat (first|simp only [↓QA,QB,Nat.reduceLT,reduceIte,Nat.reduceEqDiff,Nat.reduceAdd,Nat.reduceLeDiff,Nat.reduceMul,Nat.reduceBEq,aE,iQ]|refine rd0 rfl ?_)))
     cases h5:inR s.due 0 400
     ·(repeat (first|simp only [↓QA,QB,Nat.reduceLT,reduceIte,Nat.reduceEqDiff,Nat.reduceAdd,Nat.reduceLeDiff,Nat.reduceMul,Nat.reduceBEq,aE]|refine rd0 rfl ?_))
      exact fin _ _ (by rw [hk,if_pos (.inr h5)])
     ·rw [if_neg (by rw [h4,h5];simp)] at hk
      (repeat (first|simp only [↓QA,QB,Nat.reduceLT,reduceIte,Nat.reduceEqDiff,Nat.reduceAdd,Nat.reduceLeDiff,Nat.reduceMul,Nat.reduceBEq,aE]|refine rd0 rfl ?_))
      ((first|refine d5 (bE 1 4 [(s.path.length:Int)] (by simp)) (by simp [clr,clrs,ints]) (by simp [okV,okVs]) ?_|refine eP (bE 1 4 [(s.path.length:Int)] (by simp)) (by simp [clr,clrs,ints]) (by simp [okV,okVs]) ?_);(repeat (first|simp only [↓QA,QB,Nat.reduceLT,reduceIte,Nat.reduceEqDiff,Nat.reduceAdd,Nat.reduceLeDiff,Nat.reduceMul,Nat.reduceBEq,aE,iQ]|refine rd0 rfl ?_)))
      cases h6:inR s.path.length 1 4
      ·(repeat (first|simp only [↓QA,QB,Nat.reduceLT,reduceIte,Nat.reduceEqDiff,Nat.reduceAdd,Nat.reduceLeDiff,Nat.reduceMul,Nat.reduceBEq,aE]|refine rd0 rfl ?_))
       exact fin _ _ (by rw [hk,if_pos h6])
      ·rw [if_neg (by rw [h6];simp)] at hk
       (repeat (first|simp only [↓QA,QB,Nat.reduceLT,reduceIte,Nat.reduceEqDiff,Nat.reduceAdd,Nat.reduceLeDiff,Nat.reduceMul,Nat.reduceBEq,aE,hwr]|refine rd0 rfl ?_))
       ((first|refine aF (bE 0 ((v.rails.length:Int)-1) s.path hpz) rfl dd ?_|refine aH (bE 0 ((v.rails.length:Int)-1) s.path hpz) rfl dd ?_);(repeat (first|simp only [↓QA,QB,Nat.reduceLT,reduceIte,Nat.reduceEqDiff,Nat.reduceAdd,Nat.reduceLeDiff,Nat.reduceMul,Nat.reduceBEq,aE,IF]|refine rd0 rfl ?_)))
       cases h7:s.path.all (fun r=>inR r 0 ((v.rails.length:Int)-1))
       ·rw [if_pos h7] at hk
        (repeat (first|simp only [↓QA,QB,Nat.reduceLT,reduceIte,Nat.reduceEqDiff,Nat.reduceAdd,Nat.reduceLeDiff,Nat.reduceMul,Nat.reduceBEq,aE]|refine rd0 rfl ?_))
        exact fin _ _ hk.symm
       ·rw [if_neg (by rw [h7];simp)] at hk
        rw [jM] at h3
        obtain ⟨S,hS⟩:∃ S:Nat,s.frm=(S:Int):=⟨s.frm.toNat,by omega⟩
        rw [cX] at h6
        have hld:=B3 v hst hra S (by omega) s.path (fun r hr=>by
         have:=cX.1 (List.all_eq_true.1 h7 r hr)
         omega) hpz
        have hlw:fH v s.frm s.path=gS v S s.path:=by rw [hS];exact wA (by omega)
        rw [hlw] at hk
        obtain ⟨B,hB⟩:∃ B,gS v S s.path=B:=⟨_,rfl⟩
        rw [hB] at hk hld
        (repeat (first|simp only [↓QA,QB,Nat.reduceLT,reduceIte,Nat.reduceEqDiff,Nat.reduceAdd,Nat.reduceLeDiff,Nat.reduceMul,Nat.reduceBEq,aE,hS]|refine rd0 rfl ?_))
        ((first|refine aF (hld) rfl dd ?_|refine aH (hld) rfl dd ?_);(repeat (first|simp only [↓QA,QB,Nat.reduceLT,reduceIte,Nat.reduceEqDiff,Nat.reduceAdd,Nat.reduceLeDiff,Nat.reduceMul,Nat.reduceBEq,aE,hS]|refine rd0 rfl ?_)))
        cases B
        ·(repeat (first|simp only [↓QA,QB,Nat.reduceLT,reduceIte,Nat.reduceEqDiff,Nat.reduceAdd,Nat.reduceLeDiff,Nat.reduceMul,Nat.reduceBEq,aE]|refine rd0 rfl ?_))
         exact fin _ _ (by rw [hk];rfl)
        ·(repeat (first|simp only [↓QA,QB,Nat.reduceLT,reduceIte,Nat.reduceEqDiff,Nat.reduceAdd,Nat.reduceLeDiff,Nat.reduceMul,Nat.reduceBEq,aE]|refine rd0 rfl ?_))
         exact fin _ _ (by rw [hk];rfl)
  ·have h2':iW s.name ((v.trams.take i).map Tram.name)≠((v.trams.take i).map Tram.name).length:=by simpa using h2
   have hf:fresh s.name ((v.trams.take i).map Tram.name)=5:=by simp only [fresh,h1,h2',if_false];simp
   rw [hf] at hk
   (repeat (first|simp only [↓QA,QB,Nat.reduceLT,reduceIte,Nat.reduceEqDiff,Nat.reduceAdd,Nat.reduceLeDiff,Nat.reduceMul,Nat.reduceBEq,aE]|refine rd0 rfl ?_))
   exact fin _ _ (by rw [hk];simp)
theorem RV (v:Net) (h:Fits v) (i:Nat) (x:Seen) (b:ABlk):iG T (.func 73 [] [.ptr 0 0]) [.int .i64 i,dB x] [.cells (aB v),b,.cells (dB x).cells] (.int .i64 (gV v i x)):=by
 refine dX (af:=a73) rfl (by simp [a73]) ?_
 have hfp:=h.trams
 have hw:IntKind.i64.wrap ((v.trams.length:Int)-1)=(v.trams.length:Int)-1:=dZ ⟨by omega,by omega⟩
 (repeat (first|simp only [↓QA,QB,Nat.reduceLT,reduceIte,Nat.reduceEqDiff,Nat.reduceAdd,Nat.reduceLeDiff,Nat.reduceMul,Nat.reduceBEq,aE,a73,hw]|refine rd0 rfl ?_))
 ((first|refine d5 (bE 0 ((v.trams.length:Int)-1) [x.tram] (by simp)) (by simp [clr,clrs,ints]) (by simp [okV,okVs]) ?_|refine eP (bE 0 ((v.trams.length:Int)-1) [x.tram] (by simp)) (by simp [clr,clrs,ints]) (by simp [okV,okVs]) ?_);(repeat (first|simp only [↓QA,QB,Nat.reduceLT,reduceIte,Nat.reduceEqDiff,Nat.reduceAdd,Nat.reduceLeDiff,Nat.reduceMul,Nat.reduceBEq,aE,iQ]|refine rd0 rfl ?_)))
 cases h1:inR x.tram 0 ((v.trams.length:Int)-1)
 ·(repeat (first|simp only [↓QA,QB,Nat.reduceLT,reduceIte,Nat.reduceEqDiff,Nat.reduceAdd,Nat.reduceLeDiff,Nat.reduceMul,Nat.reduceBEq,aE]|refine rd0 rfl ?_))
  refine eH _ rfl ?_
  try simp only [QS,QC,Nat.reduceLT,reduceIte,Nat.reduceEqDiff,Nat.reduceAdd,Nat.reduceLeDiff,Nat.reduceMul,Nat.reduceBEq,aE,gV,h1]
 ·(repeat (first|simp only [↓QA,QB,Nat.reduceLT,reduceIte,Nat.reduceEqDiff,Nat.reduceAdd,Nat.reduceLeDiff,Nat.reduceMul,Nat.reduceBEq,aE]|refine rd0 rfl ?_))
  ((first|refine d5 (bE (-1) 400 [x.minute] (by simp)) (by simp [clr,clrs,ints]) (by simp [okV,okVs]) ?_|refine eP (bE (-1) 400 [x.minute] (by simp)) (by simp [clr,clrs,ints]) (by simp [okV,okVs]) ?_);(repeat (first|simp only [↓QA,QB,Nat.reduceLT,reduceIte,Nat.reduceEqDiff,Nat.reduceAdd,Nat.reduceLeDiff,Nat.reduceMul,Nat.reduceBEq,aE,iQ]|refine rd0 rfl ?_)))
  cases h2:inR x.minute (-1) 400
  all_goals
   (repeat (first|simp only [↓QA,QB,Nat.reduceLT,reduceIte,Nat.reduceEqDiff,Nat.reduceAdd,Nat.reduceLeDiff,Nat.reduceMul,Nat.reduceBEq,aE]|refine rd0 rfl ?_))
   refine eH _ rfl ?_
   try simp only [QS,QC,Nat.reduceLT,reduceIte,Nat.reduceEqDiff,Nat.reduceAdd,Nat.reduceLeDiff,Nat.reduceMul,Nat.reduceBEq,aE,gV,h1,h2,Bool.true_eq_false]
end Go.Am.Room
set_option maxRecDepth 4000
namespace Go.Am.Room
def d8:=And.intro @aZ (And.intro @aK (And.intro @aR (And.intro @aT (And.intro @aS (And.intro @aQ (And.intro @aY (And.intro @aW (And.intro @aV (And.intro @dL (And.intro @dR (@Nat.not_lt_zero)))))))))))
theorem kN (v:Net) (h:Fits v):eC T 17 [dH v] (nQ (cF v)):=by
 refine bA (af:=a17) rfl (by simp [a17]) dd ?_
 obtain ⟨W,hW⟩:∃ W,IntKind.i64.wrap (v.stations-1)=W:=⟨_,rfl⟩
 (repeat (first|simp only [↓QA,QB,Nat.reduceLT,reduceIte,Nat.reduceEqDiff,Nat.reduceAdd,Nat.reduceLeDiff,Nat.reduceMul,Nat.reduceBEq,d8,a17,hW]|refine rd0 rfl ?_))
 ((first|refine d5 (bE 2 5 [v.stations] (by simp)) (by simp [clr,clrs,ints]) (by simp [okV,okVs]) ?_|refine eP (bE 2 5 [v.stations] (by simp)) (by simp [clr,clrs,ints]) (by simp [okV,okVs]) ?_);(repeat (first|simp only [↓QA,QB,Nat.reduceLT,reduceIte,Nat.reduceEqDiff,Nat.reduceAdd,Nat.reduceLeDiff,Nat.reduceMul,Nat.reduceBEq,d8,iQ]|refine rd0 rfl ?_)))
 cases h1:inR v.stations 2 5
 ·(repeat (first|simp only [↓QA,QB,Nat.reduceLT,reduceIte,Nat.reduceEqDiff,Nat.reduceAdd,Nat.reduceLeDiff,Nat.reduceMul,Nat.reduceBEq,d8]|refine rd0 rfl ?_))
  simp [cF,h1,nQ]
 ·have hc:cF v=kW v:=by simp only [cF,h1,Bool.true_eq_false,if_false]
  rw [hc]
  have hst:=cX.1 h1
  have hWe:W=v.stations-1:=by rw [←hW];exact dZ ⟨by omega,by omega⟩
  subst hWe
  have hWs:∀ s:Int,inR s 0 (v.stations-1)=kK v s:=fun s=>rfl
  (repeat (first|simp only [↓QA,QB,Nat.reduceLT,reduceIte,Nat.reduceEqDiff,Nat.reduceAdd,Nat.reduceLeDiff,Nat.reduceMul,Nat.reduceBEq,d8]|refine rd0 rfl ?_))
  cases h2:decide ((5:Int)<(v.rails.length:Int))
  case' true =>
   have h2':5<v.rails.length:=by first|(have:=of_decide_eq_false h2;omega)|(have:=of_decide_eq_true h2;omega)
   (repeat (first|simp only [↓QA,QB,Nat.reduceLT,reduceIte,Nat.reduceEqDiff,Nat.reduceAdd,Nat.reduceLeDiff,Nat.reduceMul,Nat.reduceBEq,d8,h2]|refine rd0 rfl ?_))
   simp [kW,h2',nQ]
  have h2':¬5<v.rails.length:=by first|(have:=of_decide_eq_false h2;omega)|(have:=of_decide_eq_true h2;omega)
  have hc:kW v=match aU (fun _ r=>bY v r) v.rails 0 with|some (i,e)=>(2,(i:Int),e)|none=>k6 v:=by simp only [kW,h2',if_false];try rfl
  rw [hc]
  have hf:=C4 [.cells (aB v),.cells [.int .i64 (v.stations-1)]] (.func 65 [] [.ptr 1 0]) v.rails (fun _ r=>bY v r) h.rails (fun τ=>by try simp only [QS,QC,Nat.reduceLT,reduceIte,Nat.reduceEqDiff,Nat.reduceAdd,Nat.reduceLeDiff,Nat.reduceMul,Nat.reduceBEq,d8]) fun i hi=>RJ v _ hWs i _ _ _
  try simp only [↓QA,QB,Nat.reduceLT,reduceIte,Nat.reduceEqDiff,Nat.reduceAdd,Nat.reduceLeDiff,Nat.reduceMul,Nat.reduceBEq,d8] at hf
  (repeat (first|simp only [↓QA,QB,Nat.reduceLT,reduceIte,Nat.reduceEqDiff,Nat.reduceAdd,Nat.reduceLeDiff,Nat.reduceMul,Nat.reduceBEq,d8,h2]|refine rd0 rfl ?_))
  refine bM hf ?_
  cases hb:aU (fun _ r=>bY v r) v.rails 0 with
  |some p =>
   obtain ⟨i,e⟩:=p
   have he:=g8 hb
   have hg:(e==0)=false:=by simpa using he
   (repeat (first|simp only [↓QA,QB,Nat.reduceLT,reduceIte,Nat.reduceEqDiff,Nat.reduceAdd,Nat.reduceLeDiff,Nat.reduceMul,Nat.reduceBEq,d8,lZ,hb,tD,hg,nQ]|refine rd0 rfl ?_))
  |none =>
   have hra:∀ r∈v.rails,RailOk v r:=fun x hx=>by
    obtain ⟨k,hk,rfl⟩:=List.getElem_of_mem hx
    exact vV.1 (jZ hb k hk)
   (repeat (first|simp only [↓QA,QB,Nat.reduceLT,reduceIte,Nat.reduceEqDiff,Nat.reduceAdd,Nat.reduceLeDiff,Nat.reduceMul,Nat.reduceBEq,d8,lZ,hb,tD]|refine rd0 rfl ?_))
   cases h6:decide ((3:Int)<(v.trams.length:Int))
   case' true =>
    have h6':3<v.trams.length:=by first|(have:=of_decide_eq_false h6;omega)|(have:=of_decide_eq_true h6;omega)
    (repeat (first|simp only [↓QA,QB,Nat.reduceLT,reduceIte,Nat.reduceEqDiff,Nat.reduceAdd,Nat.reduceLeDiff,Nat.reduceMul,Nat.reduceBEq,d8,h6]|refine rd0 rfl ?_))
    simp [k6,h6',nQ]
   have h6':¬3<v.trams.length:=by first|(have:=of_decide_eq_false h6;omega)|(have:=of_decide_eq_true h6;omega)
   have hc:k6 v=match aU (fP v) v.trams 0 with|some (i,e)=>(3,(i:Int),e)|none=>kU v:=by simp only [k6,h6',if_false];try rfl
   rw [hc]
   have hf:=DI [.cells (aB v),.cells [.int .i64 (v.stations-1)]] (.func 67 [] [.ptr 0 0,.ptr 1 0]) v.trams (fP v) h.trams (fun τ=>by try simp only [QS,QC,Nat.reduceLT,reduceIte,Nat.reduceEqDiff,Nat.reduceAdd,Nat.reduceLeDiff,Nat.reduceMul,Nat.reduceBEq,d8]) fun i hi=>US v h hst hra i hi _
   try simp only [↓QA,QB,Nat.reduceLT,reduceIte,Nat.reduceEqDiff,Nat.reduceAdd,Nat.reduceLeDiff,Nat.reduceMul,Nat.reduceBEq,d8] at hf
   (repeat (first|simp only [↓QA,QB,Nat.reduceLT,reduceIte,Nat.reduceEqDiff,Nat.reduceAdd,Nat.reduceLeDiff,Nat.reduceMul,Nat.reduceBEq,d8,h6]|refine rd0 rfl ?_))
   refine bM hf ?_
   cases hb:aU (fP v) v.trams 0 with
   |some p =>
    obtain ⟨i,e⟩:=p
    have he:=g8 hb
    have hg:(e==0)=false:=by simpa using he
    (repeat (first|simp only [↓QA,QB,Nat.reduceLT,reduceIte,Nat.reduceEqDiff,Nat.reduceAdd,Nat.reduceLeDiff,Nat.reduceMul,Nat.reduceBEq,d8,lZ,hb,tD,hg,nQ]|refine rd0 rfl ?_))
   |none =>
    (repeat (first|simp only [↓QA,QB,Nat.reduceLT,reduceIte,Nat.reduceEqDiff,Nat.reduceAdd,Nat.reduceLeDiff,Nat.reduceMul,Nat.reduceBEq,d8,lZ,hb,tD]|refine rd0 rfl ?_))
    cases h7:decide ((3:Int)<(v.seen.length:Int))
    case' true =>
     have h7':3<v.seen.length:=by first|(have:=of_decide_eq_false h7;omega)|(have:=of_decide_eq_true h7;omega)
     (repeat (first|simp only [↓QA,QB,Nat.reduceLT,reduceIte,Nat.reduceEqDiff,Nat.reduceAdd,Nat.reduceLeDiff,Nat.reduceMul,Nat.reduceBEq,d8,h7]|refine rd0 rfl ?_))
     simp [kU,h7',nQ]
    have h7':¬3<v.seen.length:=by first|(have:=of_decide_eq_false h7;omega)|(have:=of_decide_eq_true h7;omega)
    have hc:kU v=match aU (gV v) v.seen 0 with|some (i,e)=>(4,(i:Int),e)|none=>(0,0,0):=by simp only [kU,h7',if_false];try rfl
    rw [hc]
    have hf:=CK [.cells (aB v),.cells [.int .i64 (v.stations-1)]] (.func 73 [] [.ptr 0 0]) v.seen (gV v) h.seen (fun τ=>by try simp only [QS,QC,Nat.reduceLT,reduceIte,Nat.reduceEqDiff,Nat.reduceAdd,Nat.reduceLeDiff,Nat.reduceMul,Nat.reduceBEq,d8]) fun i hi=>RV v h i _ _
    try simp only [↓QA,QB,Nat.reduceLT,reduceIte,Nat.reduceEqDiff,Nat.reduceAdd,Nat.reduceLeDiff,Nat.reduceMul,Nat.reduceBEq,d8] at hf
    (repeat (first|simp only [↓QA,QB,Nat.reduceLT,reduceIte,Nat.reduceEqDiff,Nat.reduceAdd,Nat.reduceLeDiff,Nat.reduceMul,Nat.reduceBEq,d8,h7]|refine rd0 rfl ?_))
    refine bM hf ?_
    cases hb:aU (gV v) v.seen 0 with
    |some p =>
     obtain ⟨i,e⟩:=p
     have he:=g8 hb
     have hg:(e==0)=false:=by simpa using he
     (repeat (first|simp only [↓QA,QB,Nat.reduceLT,reduceIte,Nat.reduceEqDiff,Nat.reduceAdd,Nat.reduceLeDiff,Nat.reduceMul,Nat.reduceBEq,d8,lZ,hb,tD,hg,nQ]|refine rd0 rfl ?_))
    |none =>
     (repeat (first|simp only [↓QA,QB,Nat.reduceLT,reduceIte,Nat.reduceEqDiff,Nat.reduceAdd,Nat.reduceLeDiff,Nat.reduceMul,Nat.reduceBEq,d8,lZ,hb,tD,nQ]|refine rd0 rfl ?_))
end Go.Am.Room
set_option maxRecDepth 4000
namespace Go.Am.Room
def bP:=And.intro @aZ (And.intro @aK (And.intro @aR (And.intro @aT (And.intro @aS (And.intro @aQ (And.intro @aY (And.intro @aW (And.intro @aV (And.intro @dL (And.intro @dR (And.intro @Nat.not_lt_zero (And.intro @List.length_append.{0} (And.intro @List.length_replicate.{0} (And.intro @Nat.zero_add (And.intro @Nat.mul_one (@Int.toNat_natCast))))))))))))))))
theorem A7:∀ l:List Int,qN 1 l.length (l.map (AV.int .i64))=l.map (.int .i64)
 |[]=>rfl
 |x::l=>by simp [qN,A7 l,AV.cell]
theorem GT {σ:St} {m id n:Nat} {l:List Int} (hm:¬id<m) (hn:n=l.length) (hl:aG σ id=some (l.map (.int .i64))):bS σ m 20 (.ref id 0 n 1)=some (.lit (l.map (.int .i64)) false none):=by
 subst hn
 have hv:jH σ (.ref id 0 l.length 1)=some (l.map (.int .i64)):=by simp [jH,hl,A7]
 rw [IY,if_neg hm,hv]
 simp [uI,oY]
theorem PR {σ:St} {id:Nat} {l:List Int} (h:aG σ id=some (List.replicate (l.length+1) (.int .i64 0))):qV 1 σ (.ref id 0 (l.length+1) 1) (.lit (l.map (.int .i64)) false none)=some (.int .i64 l.length,σ.set id (.cells (l.map (.int .i64)++[.int .i64 0]))):=by
 have h1:=uI l
 have h2:(l.map (AV.int .i64)).take (l.length+1)=l.map (.int .i64):=List.take_of_length_le (by simp)
 have h3:Nat.min l.length (l.length+1)=l.length:=Nat.min_eq_left (by omega)
 have h4:(List.replicate (l.length+1) (AV.int .i64 0)).drop l.length=[.int .i64 0]:=by rw [List.drop_replicate];simp [List.replicate]
 simp [qV,jH,wL,h1,h,fN,h2,GW,h3,h4]
theorem SN (l:List Int) (r:Int):(l.map (AV.int .i64)++[AV.int .i64 0]).take l.length++[AV.int .i64 r]++(l.map (AV.int .i64)++[AV.int .i64 0]).drop (l.length+1)=(l++[r]).map (.int .i64):=by
 simp [List.take_append_of_le_length]
def okR (v:Net) (b:Int) (l:List Int) (r:Int):Bool:=tR v b r&&!(l.length==4)
def gF (v:Net) (b:Int) (l:List Int) (k:Int):List (List Int):=((aO k ((v.rails.length:Int)-k).toNat).filter (okR v b l)).map fun r=>l++[r]
def gW (v:Net) (b:Int) (l:List Int):List (List Int):=gF v b l 0
theorem TR {v:Net} {k:Nat} (h:k<v.rails.length) (b:Int) (l:List Int):gF v b l k=(if okR v b l (k:Int)=true then [l++[(k:Int)]] else [])++gF v b l ((k+1:Nat):Int):=by
 have:=oO (a:=(k:Int)) (below:=v.rails.length) (by omega)
 rw [gF,this,List.filter_cons,show (k:Int)+1=((k+1:Nat):Int) by omega]
 split<;>rfl
theorem ZE (v:Net) (b:Int) (l:List Int):gF v b l (v.rails.length:Int)=[]:=by rw [gF,lL (by omega)];rfl
theorem EH {v:Net} {b:Int} {l:List Int} (h:l.length≠4):gW v b l=F9 v b l:=by
 have e:∀ r,okR v b l r=tR v b r:=fun r=>by simp [okR,h]
 simp only [gW,gF,F9,Int.sub_zero,Int.toNat_natCast]
 congr 1
 exact List.filter_congr fun r _=>e r
theorem JL {v:Net} {b:Int} {l:List Int} (h:l.length=4):gW v b l=[]:=by
 have e:∀ r,okR v b l r=false:=fun r=>by simp [okR,h]
 simp only [gW,gF,List.map_eq_nil_iff,List.filter_eq_nil_iff]
 intro r _
 rw [e];simp
def mP (v:Net) (s b:Int) (k:Nat):List (List Int):=if k≤4 then sE v s b k else []
def aP (v:Net) (s b:Int) (k:Nat):List (List Int):=CD v s b (min k 4)
theorem pR {v:Net} {s b:Int} (hs:s≠0) {k:Nat}:∀ l∈sE v s b k,l.length=k∧∀ r∈l,0≤r∧r<v.rails.length:=fun l hl=>by
 rw [uC hs] at hl
 have:=(List.mem_filter.1 hl).1
 exact ⟨vX _ _ _ _ this,y1 _ _ _ _ this⟩
theorem KN {v:Net} {s b:Int} (hs:s≠0) (h5:v.rails.length≤5) (k:Nat):(sE v s b k).length≤5^k:=by
 rw [uC hs]
 exact Nat.le_trans (List.length_filter_le _ _) (lQ v _ h5 k)
theorem P5 {v:Net} {s b:Int} (hs:s≠0) (h5:v.rails.length≤5) {k:Nat} (hk:k≤4):(CD v s b k).length≤1000:=by
 rw [CG hs k hk]
 exact G8 h5 _ _ hk
theorem aC9 {v:Net} {s b:Int} (hs:s≠0) {k:Nat}:∀ l∈mP v s b k,l.length=k∧l.length≤4∧∀ r∈l,0≤r∧r<v.rails.length:=fun l hl=>by
 unfold mP at hl
 split at hl
 ·have:=pR hs l hl
  exact ⟨this.1,by omega,this.2⟩
 ·cases hl
theorem yM {α β:Type} {f:α→List β}:∀ {l:List α},(∀ x∈l,f x=[])→l.flatMap f=[]
 |[],_=>rfl
 |x::l,h=>by rw [List.flatMap_cons,h x (by simp),yM fun y hy=>h y (by simp [hy])];rfl
theorem JD {v:Net} {s b:Int} (hs:s≠0) (k:Nat):(mP v s b k).flatMap (fun l=>(gW v b l).filter (d4 v s))=mP v s b (k+1):=by
 unfold mP
 by_cases h:k≤4
 ·rw [if_pos h]
  by_cases h4:k=4
  ·rw [if_neg (by omega)]
   refine yM fun l hl=>?_
   rw [JL (by rw [(pR hs l hl).1,h4])];rfl
  ·rw [if_pos (by omega),sE]
   refine g9 fun l hl=>?_
   rw [EH (by rw [(pR hs l hl).1];exact h4)]
 ·rw [if_neg h,if_neg (by omega)];rfl
theorem JH {v:Net} {s b:Int} (hs:s≠0) (k:Nat):aP v s b k++(mP v s b k).flatMap (fun l=>(gW v b l).filter (gS v s))=aP v s b (k+1):=by
 unfold mP aP
 by_cases h:k≤4
 ·rw [if_pos h]
  by_cases h4:k=4
  ·subst h4
   rw [yM fun l hl=>by rw [JL (pR hs l hl).1];rfl]
   simp
  ·rw [show min k 4=k by omega,show min (k+1) 4=k+1 by omega,CD]
   congr 1
   refine g9 fun l hl=>?_
   rw [EH (by rw [(pR hs l hl).1];exact h4)]
 ·rw [if_neg h,show min k 4=4 by omega,show min (k+1) 4=4 by omega]
  simp
theorem FK {v:Net} {s b:Int} (hs:s≠0) {k:Nat} (h:mP v s b k=[]):∀ j,mP v s b (k+j)=[]∧aP v s b (k+j)=aP v s b k
 |0=>⟨h,rfl⟩
 |j+1=>by
  obtain ⟨h1,h2⟩:=FK hs h j
  have m:=JD (v:=v) (s:=s) (b:=b) hs (k+j)
  have a:=JH (v:=v) (s:=s) (b:=b) hs (k+j)
  rw [h1] at m a
  simp only [List.flatMap_nil,List.append_nil] at m a
  rw [show k+(j+1)=k+j+1 by omega]
  exact ⟨m.symm,by rw [←a,h2]⟩
theorem Y3 {v:Net} {s b:Int} (hs:s≠0) {k:Nat} (h:mP v s b k=[]):aP v s b k=bW v s (nU b):=by
 rw [←aDJ v hs]
 by_cases hk:k≤4
 ·have:=(FK hs h (4-k)).2
  rw [show k+(4-k)=4 by omega] at this
  rw [←this];rfl
 ·rw [aP,show min k 4=4 by omega]
theorem LT {v:Net} {s:Int} {p:List Int} (h:gS v s p=true):d4 v s p=false:=by
 unfold gS at h
 unfold d4
 split at h
 ·rename_i o ho
  simp only [Bool.and_eq_true] at h
  simp [ho,h.1]
 ·cases h
theorem yJ (v:Net) (hv:Vd v) (s:Nat) (hs5:s<5) (b:Int):eC T 77 [dH v,.int .i64 s,.int .i64 b] (dD (bW v s (nU b))):=by
 refine bA (af:=a77) rfl (by simp [a77]) dd ?_
 have hnr:=hv.nra
 (repeat (first|simp only [↓QA,QB,Nat.reduceLT,reduceIte,Nat.reduceEqDiff,Nat.reduceAdd,Nat.reduceLeDiff,Nat.reduceMul,Nat.reduceBEq,bP,a77]|refine rd0 rfl ?_))
 cases h0:((s:Int)==0)
 case' true =>
  have h0':(s:Int)=0:=by simpa using h0
  have hz:=LP v (nU b)
  rw [←h0'] at hz
  rw [hz]
  (repeat (first|simp only [↓QA,QB,Nat.reduceLT,reduceIte,Nat.reduceEqDiff,Nat.reduceAdd,Nat.reduceLeDiff,Nat.reduceMul,Nat.reduceBEq,bP,h0,bF,List.map_nil]|refine rd0 rfl ?_))
  try try simp only [QS,QC,Nat.reduceLT,reduceIte,Nat.reduceEqDiff,Nat.reduceAdd,Nat.reduceLeDiff,Nat.reduceMul,Nat.reduceBEq,bP]
 have hs:(s:Int)≠0:=by simpa using h0
 obtain ⟨Z,hZ⟩:∃ Z,bW v s (nU b)=Z:=⟨_,rfl⟩
 have hall:=fun k=>Y3 (v:=v) (s:=s) (b:=b) hs (k:=k)
 simp only [hZ] at hall
 rw [hZ]
 (repeat (first|simp only [↓QA,QB,Nat.reduceLT,reduceIte,Nat.reduceEqDiff,Nat.reduceAdd,Nat.reduceLeDiff,Nat.reduceMul,Nat.reduceBEq,bP,h0]|refine rd0 rfl ?_))
 refine sO 6 1 [] rfl ?_
 refine dJ (S:=Nat×Bool) (0,false) (fun a=>a.1≤5) (fun a=>5-a.1)
  (fun a=>[(1,.int .i64 s),(2,.int .i64 b),(3,.ptr 0 0),(6,.lit ((aP v s b a.1).map ints) false (some 1)),(7,dD (mP v s b a.1))])
  (fun a=>[.cells (aB v),.tok 1 (aP v s b a.1).length a.2]) (Nat.zero_le _) (by simp [aB,ints,aP,CD]) ?_ fun a hk=>?_
 ·try simp only [aD,QE,Nat.reduceLT,reduceIte,Nat.reduceEqDiff,Nat.reduceAdd,Nat.reduceLeDiff,Nat.reduceMul,Nat.reduceBEq,bP]
  simp [dD,ints,mP,sE,aP,CD,clr,clrs]
 ·obtain ⟨k,ex⟩:=a
  simp only at hk
  have hin:=aC9 (v:=v) (s:=s) (b:=b) hs (k:=k)
  have hmn:=JD (v:=v) (s:=s) (b:=b) hs k
  have han:=JH (v:=v) (s:=s) (b:=b) hs k
  have hac:∀ j,(aP v s b j).length≤1000:=fun j=>P5 hs (by omega) (by omega)
  have hmc:∀ j,(mP v s b j).length≤625:=fun j=>by
   unfold mP
   split
   ·exact Nat.le_trans (KN hs (by omega) j) (Nat.le_trans (Nat.pow_le_pow_right (by omega) (by omega):5^j≤5^4) (by decide))
   ·simp
  have c1:=hac k
  have c2:=hac (k+1)
  have c3:=hmc k
  have c4:=hmc (k+1)
  have hfin:=hall k
  have hm5:k=5→mP v s b k=[]:=fun q=>by rw [q];rfl
  obtain ⟨W,hW⟩:∃ W,mP v s b k=W:=⟨_,rfl⟩
  obtain ⟨X,hX⟩:∃ X,mP v s b (k+1)=X:=⟨_,rfl⟩
  obtain ⟨O,hO⟩:∃ O,aP v s b k=O:=⟨_,rfl⟩
  obtain ⟨Y,hY⟩:∃ Y,aP v s b (k+1)=Y:=⟨_,rfl⟩
  rw [hO] at c1 han hfin
  rw [hY] at c2 han
  rw [hX] at c4 hmn
  rw [hW] at c3 hmn han hfin hm5
  simp only [hW] at hin
  rw [hW,hO]
  (repeat (first|simp only [↓QA,QB,Nat.reduceLT,reduceIte,Nat.reduceEqDiff,Nat.reduceAdd,Nat.reduceLeDiff,Nat.reduceMul,Nat.reduceBEq,bP,VI,dD]|refine rd0 rfl ?_))
  cases hne:decide ((0:Int)<(W.length:Int))
  ·have hw0:W=[]:=by
    have:¬(0:Int)<(W.length:Int):=by simpa using hne
    exact List.length_eq_zero_iff.1 (by omega)
   rw [hfin hw0]
   (repeat (first|simp only [↓QA,QB,Nat.reduceLT,reduceIte,Nat.reduceEqDiff,Nat.reduceAdd,Nat.reduceLeDiff,Nat.reduceMul,Nat.reduceBEq,bP]|refine rd0 rfl ?_))
   try try simp only [QS,QC,Nat.reduceLT,reduceIte,Nat.reduceEqDiff,Nat.reduceAdd,Nat.reduceLeDiff,Nat.reduceMul,Nat.reduceBEq,bP]
  ·have hw0:W≠[]:=by
    have:(0:Int)<(W.length:Int):=by simpa using hne
    rintro rfl
    simp at this
   have hk4:k<5:=by
    by_cases q:k=5
    ·exact absurd (hm5 q) hw0
    ·omega
   (repeat (first|simp only [↓QA,QB,Nat.reduceLT,reduceIte,Nat.reduceEqDiff,Nat.reduceAdd,Nat.reduceLeDiff,Nat.reduceMul,Nat.reduceBEq,bP]|refine rd0 rfl ?_))
   refine sO 8 1 [] rfl ?_
   (repeat (first|simp only [↓QA,QB,Nat.reduceLT,reduceIte,Nat.reduceEqDiff,Nat.reduceAdd,Nat.reduceLeDiff,Nat.reduceMul,Nat.reduceBEq,bP]|refine rd0 rfl ?_))
   refine dJ (S:=Nat×List (List Int)×List (List Int)×Bool×Bool) (0,O,[],ex,false) (fun a=>a.1≤W.length∧a.2.2.1++(W.drop a.1).flatMap (fun l=>(gW v b l).filter (d4 v s))=X∧a.2.1++(W.drop a.1).flatMap (fun l=>(gW v b l).filter (gS v s))=Y) (fun a=>W.length-a.1)
    (fun a=>[(1,.int .i64 s),(2,.int .i64 b),(3,.ptr 0 0),(6,.lit (a.2.1.map ints) false (some 1)),(8,.lit (a.2.2.1.map ints) false (some 2)),(22,dD W),(23,.int .i64 W.length),(24,.int .i64 a.1)])
    (fun a=>[.cells (aB v),.tok 1 a.2.1.length a.2.2.2.1,.tok 1 a.2.2.1.length a.2.2.2.2]) ⟨Nat.zero_le _,by simpa using hmn,by simpa using han⟩ (by simp [aB,ints]) ?_ fun a ha=>?_
   ·try simp only [aD,QE,Nat.reduceLT,reduceIte,Nat.reduceEqDiff,Nat.reduceAdd,Nat.reduceLeDiff,Nat.reduceMul,Nat.reduceBEq,bP,dD,ints]
    try simp
   ·obtain ⟨i,O,A,ex,ex2⟩:=a
    obtain ⟨hi,hA,hB⟩:=ha
    simp only at hi hA hB
    (repeat (first|simp only [↓QA,QB,Nat.reduceLT,reduceIte,Nat.reduceEqDiff,Nat.reduceAdd,Nat.reduceLeDiff,Nat.reduceMul,Nat.reduceBEq,bP,VD,dD]|refine rd0 rfl ?_))
    refine aI (fun h2=>?_) fun h2=>?_
    ·have hi1:i<W.length:=by simpa using h2
     have hwi:=cM hi1 (by omega)
     obtain ⟨l,hl⟩:∃ l,W[i]=l:=⟨_,rfl⟩
     obtain ⟨_,hl4,hlr⟩:=hin _ (List.getElem_mem hi1)
     rw [hl] at hl4 hlr
     rw [List.drop_eq_getElem_cons hi1,hl,List.flatMap_cons] at hA hB
     obtain ⟨F,hF⟩:∃ F,(W.drop (i+1)).flatMap (fun l=>(gW v b l).filter (d4 v s))=F:=⟨_,rfl⟩
     obtain ⟨G,hG⟩:∃ G,(W.drop (i+1)).flatMap (fun l=>(gW v b l).filter (gS v s))=G:=⟨_,rfl⟩
     rw [hF,gW] at hA
     rw [hG,gW] at hB
     have hwl:=cM (show l.length<5 by omega) (by omega)
     have hmk:oF 8 (.int .i64 ((l.length+1:Nat):Int)) (.int .i64 ((l.length+1:Nat):Int))=some (l.length+1):=by simp [oF,room];omega
     (repeat (first|simp only [↓QA,QB,Nat.reduceLT,reduceIte,Nat.reduceEqDiff,Nat.reduceAdd,Nat.reduceLeDiff,Nat.reduceMul,Nat.reduceBEq,bP,hi1,hl,dD]|refine rd0 rfl ?_))
     refine dJ (S:=Nat×List (List Int)×List (List Int)×Bool×Bool) (0,O,A,ex,ex2) (fun a=>a.1≤v.rails.length∧a.2.2.1++((gF v b l a.1).filter (d4 v s)++F)=X∧a.2.1++((gF v b l a.1).filter (gS v s)++G)=Y) (fun a=>v.rails.length-a.1)
      (fun a=>[(1,.int .i64 s),(2,.int .i64 b),(3,.ptr 0 0),(6,.lit (a.2.1.map ints) false (some 1)),(8,.lit (a.2.2.1.map ints) false (some 2)),(10,ints l),(22,dD W),(23,.int .i64 W.length),(24,.int .i64 i),(29,.lit (v.rails.map cV) false none),(30,.int .i64 v.rails.length),(31,.int .i64 a.1)])
      (fun a=>[.cells (aB v),.tok 1 a.2.1.length a.2.2.2.1,.tok 1 a.2.2.1.length a.2.2.2.2]) ⟨Nat.zero_le _,hA,hB⟩ (by simp [aB]) ?_ fun a ha=>?_
     ·try simp only [aD,QE,Nat.reduceLT,reduceIte,Nat.reduceEqDiff,Nat.reduceAdd,Nat.reduceLeDiff,Nat.reduceMul,Nat.reduceBEq,bP,dD,ints]
      try simp
     ·obtain ⟨r,O,A,ex,ex2⟩:=a
      obtain ⟨hr,hA,hB⟩:=ha
      simp only at hr hA hB
      (repeat (first|simp only [↓QA,QB,Nat.reduceLT,reduceIte,Nat.reduceEqDiff,Nat.reduceAdd,Nat.reduceLeDiff,Nat.reduceMul,Nat.reduceBEq,bP,WE,dD]|refine rd0 rfl ?_))
      refine aI (fun h3=>?_) fun h3=>?_
      ·have hr1:r<v.rails.length:=by simpa using h3
       have hwr:=cM hr1 (by omega)
       rw [TR hr1] at hA hB
       have hok:okR v b l (r:Int)=(!((r:Int)==b)&&!(v.rails[r].shut==1)&&!((l.length:Int)==4)):=by
        rw [okR,tR,wY hr1]
        have e1:(v.rails[r].shut==1)=decide (v.rails[r].shut=1):=by rw [Bool.eq_iff_iff];simp
        have e2:((l.length:Int)==4)=(l.length==4):=by rw [Bool.eq_iff_iff];simp;omega
        rw [e1,e2]
       obtain ⟨z,hz⟩:∃ z,v.rails[r]=z:=⟨_,rfl⟩
       rw [hz] at hok
       obtain ⟨E,hE⟩:∃ E,gF v b l ((r+1:Nat):Int)=E:=⟨_,rfl⟩
       rw [hE] at hA hB
       have no:okR v b l (r:Int)=false→A++(E.filter (d4 v s)++F)=X∧O++(E.filter (gS v s)++G)=Y:=fun q=>by
        rw [q] at hA hB
        exact ⟨by simpa using hA,by simpa using hB⟩
       (repeat (first|simp only [↓QA,QB,Nat.reduceLT,reduceIte,Nat.reduceEqDiff,Nat.reduceAdd,Nat.reduceLeDiff,Nat.reduceMul,Nat.reduceBEq,bP,hr1,hz]|refine rd0 rfl ?_))
       cases q0:((r:Int)==b)
       ·cases q1:(z.shut==1)
        ·cases q2:((l.length:Int)==4)
         ·rw [q0,q1,q2] at hok
          rw [hok] at hA hB
          simp only [Bool.not_false,Bool.and_self,if_true,List.singleton_append,List.cons_append,List.filter_cons] at hA hB
          have hal:A.length≤625:=by
           have:=congrArg List.length hA
           simp only [List.length_append] at this
           omega
          have hol:O.length≤1000:=by
           have:=congrArg List.length hB
           simp only [List.length_append] at this
           omega
          have hbw:=LT (v:=v) (s:=s) (p:=l++[(r:Int)])
          have hld:=B3 v hv.st hv.ra s hs5 (l++[(r:Int)]) (fun x hx=>by
           rcases List.mem_append.1 hx with hx|hx
           ·exact hlr x hx
           ·simp only [List.mem_singleton] at hx;subst hx;omega) (by simp;omega)
          have hcp:=fun (b0 b1 b2 b3:ABlk)=>PR (σ:=[b0,b1,b2,b3,.cells (List.replicate (l.length+1) (.int .i64 0))]) (id:=4) (l:=l) rfl
          have hos:=SN l r
          have hsr:=fun (b0 b1 b2 b3:ABlk) (m:Nat) (hm:m≤4)=>GT (σ:=[b0,b1,b2,b3,.cells ((l++[(r:Int)]).map (.int .i64))]) (m:=m) (id:=4) (n:=l.length+1) (l:=l++[(r:Int)]) (by omega) (by simp) rfl
          have i4:(0:Int)≤(l.length:Int)∧(l.length:Int)<((l.length+1:Nat):Int)∧1=1:=⟨by omega,by omega,rfl⟩
          obtain ⟨WB,hWB⟩:∃ WB,gS v s (l++[(r:Int)])=WB:=⟨_,rfl⟩
          obtain ⟨BB,hBB⟩:∃ BB,d4 v s (l++[(r:Int)])=BB:=⟨_,rfl⟩
          rw [hWB,hBB] at hld
          rw [hWB] at hB hbw
          rw [hBB] at hA hbw
          have a2:=fun (b0 b1:ABlk) (τ:St)=>u7 (σ:=b0::b1::.tok 1 A.length ex2::τ) (t:=2) (ex:=ex2) (sz:=1) (b:=24) (xs:=A.map ints) (ys:=[.ref 4 0 (l.length+1) 1]) (f:=true) (tk:=none) ⟨nG A,by simp [aM,AV.cells,AV.cell],by simp [room];omega,by simp [room];omega⟩ (by simp) A.length (by simp) rfl
          have a3:=fun (b0:ABlk) (τ:St)=>u7 (σ:=b0::.tok 1 O.length ex::τ) (t:=1) (ex:=ex) (sz:=1) (b:=24) (xs:=O.map ints) (ys:=[.ref 4 0 (l.length+1) 1]) (f:=true) (tk:=none) ⟨nG O,by simp [aM,AV.cells,AV.cell],by simp [room];omega,by simp [room];omega⟩ (by simp) O.length (by simp) rfl
          have hml:(l++[(r:Int)]).map (AV.int .i64)=l.map (.int .i64)++[.int .i64 r]:=by simp
          (repeat (first|simp only [↓QA,QB,Nat.reduceLT,reduceIte,Nat.reduceEqDiff,Nat.reduceAdd,Nat.reduceLeDiff,Nat.reduceMul,Nat.reduceBEq,bP,q0,q1,q2,hwl,hmk,HJ,hcp,i4,hos]|refine rd0 rfl ?_))
          refine xF hld (by try simp only [QS,QC,Nat.reduceLT,reduceIte,Nat.reduceEqDiff,Nat.reduceAdd,Nat.reduceLeDiff,Nat.reduceMul,Nat.reduceBEq,bP,hsr]) (by simp [Scal,Scals]) ?_
          (repeat (first|simp only [↓QA,QB,Nat.reduceLT,reduceIte,Nat.reduceEqDiff,Nat.reduceAdd,Nat.reduceLeDiff,Nat.reduceMul,Nat.reduceBEq,bP]|refine rd0 rfl ?_))
          cases WB
          ·cases BB
           ·(repeat (first|simp only [↓QA,QB,Nat.reduceLT,reduceIte,Nat.reduceEqDiff,Nat.reduceAdd,Nat.reduceLeDiff,Nat.reduceMul,Nat.reduceBEq,bP,hwr]|refine rd0 rfl ?_))
            refine ⟨(r+1,O,A,ex,ex2),⟨by simp only;omega,by rw [hE];simpa using hA,by rw [hE];simpa using hB⟩,by simp only;omega,?_⟩
            try simp only [aD,QE,Nat.reduceLT,reduceIte,Nat.reduceEqDiff,Nat.reduceAdd,Nat.reduceLeDiff,Nat.reduceMul,Nat.reduceBEq,bP,hwr,dD,ints]
            try simp [aN]
           ·(repeat (first|simp only [↓QA,QB,Nat.reduceLT,reduceIte,Nat.reduceEqDiff,Nat.reduceAdd,Nat.reduceLeDiff,Nat.reduceMul,Nat.reduceBEq,bP,hwr,a2]|refine rd0 rfl ?_))
            refine ⟨(r+1,O,A++[l++[(r:Int)]],ex,true),⟨by simp only;omega,by rw [hE,←hA];simp,by rw [hE];simpa using hB⟩,by simp only;omega,?_⟩
            have hs1:=GT (σ:=[.cells (aB v),.tok 1 O.length ex,.tok 1 (A.length+1) true,.cells (cV z).cells,.cells ((l++[(r:Int)]).map (.int .i64))]) (m:=3) (id:=4) (n:=l.length+1) (l:=l++[(r:Int)]) (by omega) (by simp) rfl
            rw [hml] at hs1
            try simp only [↓QA,QB,Nat.reduceLT,reduceIte,Nat.reduceEqDiff,Nat.reduceAdd,Nat.reduceLeDiff,Nat.reduceMul,Nat.reduceBEq,bP] at hs1
            try simp only [aD,QE,Nat.reduceLT,reduceIte,Nat.reduceEqDiff,Nat.reduceAdd,Nat.reduceLeDiff,Nat.reduceMul,Nat.reduceBEq,bP,hwr,dD,ints,hs1,List.map_append,List.map_cons,List.map_nil]
            try simp [aN]
          ·have:=hbw rfl
           subst this
           (repeat (first|simp only [↓QA,QB,Nat.reduceLT,reduceIte,Nat.reduceEqDiff,Nat.reduceAdd,Nat.reduceLeDiff,Nat.reduceMul,Nat.reduceBEq,bP,hwr,a3]|refine rd0 rfl ?_))
           refine ⟨(r+1,O++[l++[(r:Int)]],A,true,ex2),⟨by simp only;omega,by rw [hE];simpa using hA,by rw [hE,←hB];simp⟩,by simp only;omega,?_⟩
           have hs1:=GT (σ:=[.cells (aB v),.tok 1 (O.length+1) true,.tok 1 A.length ex2,.cells (cV z).cells,.cells ((l++[(r:Int)]).map (.int .i64))]) (m:=3) (id:=4) (n:=l.length+1) (l:=l++[(r:Int)]) (by omega) (by simp) rfl
           rw [hml] at hs1
           try simp only [↓QA,QB,Nat.reduceLT,reduceIte,Nat.reduceEqDiff,Nat.reduceAdd,Nat.reduceLeDiff,Nat.reduceMul,Nat.reduceBEq,bP] at hs1
           try simp only [aD,QE,Nat.reduceLT,reduceIte,Nat.reduceEqDiff,Nat.reduceAdd,Nat.reduceLeDiff,Nat.reduceMul,Nat.reduceBEq,bP,hwr,dD,ints,hs1,List.map_append,List.map_cons,List.map_nil]
           try simp [aN]
         ·have nn:=no (by rw [hok,q2];simp)
          (repeat (first|simp only [↓QA,QB,Nat.reduceLT,reduceIte,Nat.reduceEqDiff,Nat.reduceAdd,Nat.reduceLeDiff,Nat.reduceMul,Nat.reduceBEq,bP,q0,q1,q2,hwr]|refine rd0 rfl ?_))
          refine ⟨(r+1,O,A,ex,ex2),⟨by simp only;omega,by rw [hE];exact nn.1,by rw [hE];exact nn.2⟩,by simp only;omega,?_⟩
          try simp only [aD,QE,Nat.reduceLT,reduceIte,Nat.reduceEqDiff,Nat.reduceAdd,Nat.reduceLeDiff,Nat.reduceMul,Nat.reduceBEq,bP,hwr,dD,ints]
          try simp [aN]
        ·have nn:=no (by rw [hok,q1];simp)
         (repeat (first|simp only [↓QA,QB,Nat.reduceLT,reduceIte,Nat.reduceEqDiff,Nat.reduceAdd,Nat.reduceLeDiff,Nat.reduceMul,Nat.reduceBEq,bP,q0,q1,hwr]|refine rd0 rfl ?_))
         refine ⟨(r+1,O,A,ex,ex2),⟨by simp only;omega,by rw [hE];exact nn.1,by rw [hE];exact nn.2⟩,by simp only;omega,?_⟩
         try simp only [aD,QE,Nat.reduceLT,reduceIte,Nat.reduceEqDiff,Nat.reduceAdd,Nat.reduceLeDiff,Nat.reduceMul,Nat.reduceBEq,bP,hwr,dD,ints]
         try simp [aN]
       ·have nn:=no (by rw [hok,q0];simp)
        (repeat (first|simp only [↓QA,QB,Nat.reduceLT,reduceIte,Nat.reduceEqDiff,Nat.reduceAdd,Nat.reduceLeDiff,Nat.reduceMul,Nat.reduceBEq,bP,q0,hwr]|refine rd0 rfl ?_))
        refine ⟨(r+1,O,A,ex,ex2),⟨by simp only;omega,by rw [hE];exact nn.1,by rw [hE];exact nn.2⟩,by simp only;omega,?_⟩
        try simp only [aD,QE,Nat.reduceLT,reduceIte,Nat.reduceEqDiff,Nat.reduceAdd,Nat.reduceLeDiff,Nat.reduceMul,Nat.reduceBEq,bP,hwr,dD,ints]
        try simp [aN]
      ·have hr1:r=v.rails.length:=by simp at h3;omega
       rw [hr1,ZE] at hA hB
       simp only [List.nil_append,List.filter_nil] at hA hB
       (repeat (first|simp only [↓QA,QB,Nat.reduceLT,reduceIte,Nat.reduceEqDiff,Nat.reduceAdd,Nat.reduceLeDiff,Nat.reduceMul,Nat.reduceBEq,bP,hwi]|refine rd0 rfl ?_))
       refine ⟨(i+1,O,A,ex,ex2),⟨by simp only;omega,by rw [hF];exact hA,by rw [hG];exact hB⟩,by simp only;omega,?_⟩
       try simp only [aD,QE,Nat.reduceLT,reduceIte,Nat.reduceEqDiff,Nat.reduceAdd,Nat.reduceLeDiff,Nat.reduceMul,Nat.reduceBEq,bP,hwi,dD,ints]
       try simp [aN]
    ·have hi1:i=W.length:=by simp at h2;omega
     rw [hi1,List.drop_length] at hA hB
     simp only [List.flatMap_nil,List.append_nil] at hA hB
     subst hA hB
     (repeat (first|simp only [↓QA,QB,Nat.reduceLT,reduceIte,Nat.reduceEqDiff,Nat.reduceAdd,Nat.reduceLeDiff,Nat.reduceMul,Nat.reduceBEq,bP]|refine rd0 rfl ?_))
     refine ⟨(k+1,ex),by simp only;omega,by simp only;omega,?_⟩
     try simp only [aD,QE,Nat.reduceLT,reduceIte,Nat.reduceEqDiff,Nat.reduceAdd,Nat.reduceLeDiff,Nat.reduceMul,Nat.reduceBEq,bP,hX,hY,dD,ints]
     try simp [aN]
end Go.Am.Room
set_option maxRecDepth 4000
namespace Go.Am.Room
def cL:=And.intro @aZ (And.intro @aK (And.intro @aR (And.intro @aT (And.intro @aS (And.intro @aQ (And.intro @aY (And.intro @aW (And.intro @aV (And.intro @dL (And.intro @dR (And.intro @Nat.not_lt_zero (And.intro @List.length_append.{0} (And.intro @Nat.zero_add (And.intro @Nat.mul_one (And.intro @Int.toNat_natCast (And.intro @dO (And.intro @eR (And.intro @eQ (And.intro @jY (@eN))))))))))))))))))))
def jU (x:Stay):AV:=.agg [.int .i64 x.rail,.int .i64 x.frm,.int .i64 x.til]
theorem bL (x:Stay):jU x = .agg [.int .i64 x.rail,.int .i64 x.frm,.int .i64 x.til]:=by simp only [jU]
theorem C3 (x:Stay):kQ (jU x):=jW (bI (c9 _ _) (bI (c9 _ _) (bI (c9 _ _) fE)))
instance (x:Stay):Dat (jU x):=⟨C3 x⟩
instance (l:List Stay):Dats (l.map jU):=⟨dE C3 l⟩
theorem cH (σ:St) (m d:Nat) (l:List Stay):cN σ m d (l.map jU)=some (l.map jU):=m4 (dE C3 l) σ m d
theorem FU (l:List Stay):aM 3 (l.map jU)=true:=vN 3 jU l fun x=>by simp [cC,jU,AV.cells,AV.cell]
def db (v:Net) (b m:Nat):List AV:=aB v++[.int .i64 b,.map m]
theorem gB (v:Net) (b m:Nat):(db v b m)[0]? = some (.int .i64 v.stations):=by simp [db,aB]
theorem gE (v:Net) (b m:Nat):(db v b m)[1]? = some (.lit (v.rails.map cV) false none):=by simp [db,aB]
theorem gC (v:Net) (b m:Nat):(db v b m)[2]? = some (.lit (v.trams.map bX) false none):=by simp [db,aB]
theorem gG (v:Net) (b m:Nat):(db v b m)[3]? = some (.lit (v.seen.map dB) false none):=by simp [db,aB]
theorem gH (v:Net) (b m:Nat):(db v b m)[4]? = some (.int .i64 b):=by simp [db,aB]
theorem gD (v:Net) (b m:Nat):(db v b m)[5]? = some (.map m):=by simp [db,aB]
theorem NX (ss:List Stay) (rail ready m B:Int) (hl:ss.length<9223372036854775808) (hB:∀ x∈ss,x.til≤B) (h0:0≤ready) (hr:ready≤B) (hB2:B≤1000) (hm:0≤m∧m≤20) :
  eC T 120 [.lit (ss.map jU) false none,.agg [.int .i64 rail,.int .i64 ready,.int .i64 (ready+m)]] (.int .i64 (j8 ss rail ready m)):=by
 refine bA (af:=a120) rfl (by simp [a120]) dd ?_
 have hfi:=B4 (rail:=rail) (m:=m) hB (show B≤ready+1000 by omega)
 obtain ⟨Z,hZ⟩:∃ Z,j8 ss rail ready m=Z:=⟨_,rfl⟩
 rw [hZ] at hfi ⊢
 (repeat (first|simp only [↓QA,QB,Nat.reduceLT,reduceIte,Nat.reduceEqDiff,Nat.reduceAdd,Nat.reduceLeDiff,Nat.reduceMul,Nat.reduceBEq,cL,bL,cH,gB,gE,gC,gG,gH,gD,a120]|refine rd0 rfl ?_))
 refine dJ (S:=Int) ready (fun r=>rF ss rail m ready r) (fun r=>(B-r).toNat)
  (fun r=>[(0,.lit (ss.map jU) false none),(3,.ptr 0 0)]) (fun r=>[.cells [.int .i64 rail,.int .i64 r,.int .i64 (r+m)]]) (L6 _ _ _ _) rfl ?_ fun r hb=>?_
 ·try simp only [aD,QE,Nat.reduceLT,reduceIte,Nat.reduceEqDiff,Nat.reduceAdd,Nat.reduceLeDiff,Nat.reduceMul,Nat.reduceBEq,cL,bL,cH,gB,gE,gC,gG,gH,gD]
  try simp
 ·have hrB:=JP hB hb hr
  have hr0:=hb.1
  (repeat (first|simp only [↓QA,QB,Nat.reduceLT,reduceIte,Nat.reduceEqDiff,Nat.reduceAdd,Nat.reduceLeDiff,Nat.reduceMul,Nat.reduceBEq,cL,bL,cH,gB,gE,gC,gG,gH,gD,QJ]|refine rd0 rfl ?_))
  refine dJ (S:=Nat×Int) (0,r) (fun a=>a.1≤ss.length∧W8 ss rail m ready r a.1 a.2) (fun a=>ss.length-a.1)
   (fun a=>[(0,.lit (ss.map jU) false none),(3,.ptr 0 0),(5,.ptr 1 0),(10,.lit (ss.map jU) false none),(11,.int .i64 ss.length),(12,.int .i64 a.1)]) (fun a=>[.cells [.int .i64 rail,.int .i64 a.2,.int .i64 (a.2+m)],.cells [.int .i64 rail,.int .i64 r,.int .i64 (r+m)]]) ⟨by simp,.inl ⟨rfl,by simp⟩⟩ rfl ?_ fun a ha=>?_
  ·try simp only [aD,QE,Nat.reduceLT,reduceIte,Nat.reduceEqDiff,Nat.reduceAdd,Nat.reduceLeDiff,Nat.reduceMul,Nat.reduceBEq,cL,bL,cH,gB,gE,gC,gG,gH,gD]
   try simp
  ·obtain ⟨k,n⟩:=a
   obtain ⟨hk,hlk⟩:=ha
   simp only at hk hlk
   have hbn:rF ss rail m ready n:=by
    rcases hlk with ⟨e,_⟩|⟨_,e⟩
    ·rw [e];exact hb
    ·exact e
   have hnB:=JP hB hbn hr
   have hn0:=hbn.1
   (repeat (first|simp only [↓QA,QB,Nat.reduceLT,reduceIte,Nat.reduceEqDiff,Nat.reduceAdd,Nat.reduceLeDiff,Nat.reduceMul,Nat.reduceBEq,cL,bL,cH,gB,gE,gC,gG,gH,gD,NR]|refine rd0 rfl ?_))
   refine aI (fun h=>?_) fun h=>?_
   ·have hk1:k<ss.length:=by simpa using h
    have hw:=cM hk1 hl
    obtain ⟨x,hx⟩:∃ x,ss[k]=x:=⟨_,rfl⟩
    have hxm:x∈ss:=by rw [←hx];exact List.getElem_mem hk1
    have hat:=NS (p:=iL rail r m) hk1
    rw [hx] at hat
    have no:iL rail n m x=false→W8 ss rail m ready r (k+1) n:=fun q=>by
     rcases hlk with ⟨e,a⟩|e
     ·subst e
      exact .inl ⟨rfl,by rw [hat,a,q];rfl⟩
     ·exact .inr e
    have yes:iL rail n m x=true→W8 ss rail m ready r (k+1) x.til:=fun q=>by
     have q1:=yY q
     have hrn:r≤n:=by rcases hlk with ⟨e,_⟩|⟨e,_⟩<;>omega
     exact .inr ⟨by omega,KI hbn hxm (Int.le_refl n) q (fun y h1 h2=>by omega)⟩
    have hcl:iL rail n m x=((x.rail==rail)&&decide (x.frm<n+m)&&decide (n<x.til)):=by
     have:decide (x.rail=rail)=(x.rail==rail):=by rw [Bool.eq_iff_iff];simp
     rw [iL,this]
    have hxB:=hB x hxm
    (repeat (first|simp only [↓QA,QB,Nat.reduceLT,reduceIte,Nat.reduceEqDiff,Nat.reduceAdd,Nat.reduceLeDiff,Nat.reduceMul,Nat.reduceBEq,cL,bL,cH,gB,gE,gC,gG,gH,gD,hk1,hx]|refine rd0 rfl ?_))
    cases q1:(x.rail==rail)
    ·have nn:=no (by rw [hcl,q1];simp)
     (repeat (first|simp only [↓QA,QB,Nat.reduceLT,reduceIte,Nat.reduceEqDiff,Nat.reduceAdd,Nat.reduceLeDiff,Nat.reduceMul,Nat.reduceBEq,cL,bL,cH,gB,gE,gC,gG,gH,gD,q1,hw]|refine rd0 rfl ?_))
     refine ⟨(k+1,n),⟨by simp only;omega,nn⟩,by simp only;omega,?_⟩
     try simp only [aD,QE,Nat.reduceLT,reduceIte,Nat.reduceEqDiff,Nat.reduceAdd,Nat.reduceLeDiff,Nat.reduceMul,Nat.reduceBEq,cL,bL,cH,gB,gE,gC,gG,gH,gD,hw]
     try simp [aN]
    ·cases q2:decide (x.frm<n+m)
     ·have nn:=no (by rw [hcl,q1,q2];simp)
      (repeat (first|simp only [↓QA,QB,Nat.reduceLT,reduceIte,Nat.reduceEqDiff,Nat.reduceAdd,Nat.reduceLeDiff,Nat.reduceMul,Nat.reduceBEq,cL,bL,cH,gB,gE,gC,gG,gH,gD,q1,hw,q2]|refine rd0 rfl ?_))
      refine ⟨(k+1,n),⟨by simp only;omega,nn⟩,by simp only;omega,?_⟩
      try simp only [aD,QE,Nat.reduceLT,reduceIte,Nat.reduceEqDiff,Nat.reduceAdd,Nat.reduceLeDiff,Nat.reduceMul,Nat.reduceBEq,cL,bL,cH,gB,gE,gC,gG,gH,gD,hw]
      try simp [aN]
     ·cases q3:decide (n<x.til)
      ·have nn:=no (by rw [hcl,q1,q2,q3];simp)
       (repeat (first|simp only [↓QA,QB,Nat.reduceLT,reduceIte,Nat.reduceEqDiff,Nat.reduceAdd,Nat.reduceLeDiff,Nat.reduceMul,Nat.reduceBEq,cL,bL,cH,gB,gE,gC,gG,gH,gD,q1,hw,q2,q3]|refine rd0 rfl ?_))
       refine ⟨(k+1,n),⟨by simp only;omega,nn⟩,by simp only;omega,?_⟩
       try simp only [aD,QE,Nat.reduceLT,reduceIte,Nat.reduceEqDiff,Nat.reduceAdd,Nat.reduceLeDiff,Nat.reduceMul,Nat.reduceBEq,cL,bL,cH,gB,gE,gC,gG,gH,gD,hw]
       try simp [aN]
      ·have hc:iL rail n m x=true:=by rw [hcl,q1,q2,q3];rfl
       have nn:=yes hc
       have hlt:=yY hc
       have w1:IntKind.i64.wrap (n+m-n)=m:=by rw [show n+m-n=m by omega];exact dZ ⟨by omega,by omega⟩
       have w2:IntKind.i64.wrap (x.til+m)=x.til+m:=dZ ⟨by omega,by omega⟩
       (repeat (first|simp only [↓QA,QB,Nat.reduceLT,reduceIte,Nat.reduceEqDiff,Nat.reduceAdd,Nat.reduceLeDiff,Nat.reduceMul,Nat.reduceBEq,cL,bL,cH,gB,gE,gC,gG,gH,gD,q1,hw,q2,q3,w1,w2]|refine rd0 rfl ?_))
       refine ⟨(k+1,x.til),⟨by simp only;omega,nn⟩,by simp only;omega,?_⟩
       try simp only [aD,QE,Nat.reduceLT,reduceIte,Nat.reduceEqDiff,Nat.reduceAdd,Nat.reduceLeDiff,Nat.reduceMul,Nat.reduceBEq,cL,bL,cH,gB,gE,gC,gG,gH,gD,hw]
       try simp [aN,okVs,okV]
   ·have hk1:k=ss.length:=by simp at h;omega
    rw [hk1] at hlk
    have hrr:(rail==rail)=true:=by simp
    rcases hlk with ⟨e,a⟩|⟨e1,e2⟩
    ·rw [List.take_length] at a
     have hz:=LQ hfi (KU hb a)
     subst e
     have g:(n==n)=true:=by simp
     have g2:(n+m==n+m)=true:=by simp
     (repeat (first|simp only [↓QA,QB,Nat.reduceLT,reduceIte,Nat.reduceEqDiff,Nat.reduceAdd,Nat.reduceLeDiff,Nat.reduceMul,Nat.reduceBEq,cL,bL,cH,gB,gE,gC,gG,gH,gD,g,g2,hrr,hz]|refine rd0 rfl ?_))
    ·have g:(n==r)=false:=by simp;omega
     (repeat (first|simp only [↓QA,QB,Nat.reduceLT,reduceIte,Nat.reduceEqDiff,Nat.reduceAdd,Nat.reduceLeDiff,Nat.reduceMul,Nat.reduceBEq,cL,bL,cH,gB,gE,gC,gG,gH,gD,g,hrr,Bool.false_and]|refine rd0 rfl ?_))
     refine ⟨n,e2,by omega,?_⟩
     try simp only [aD,QE,Nat.reduceLT,reduceIte,Nat.reduceEqDiff,Nat.reduceAdd,Nat.reduceLeDiff,Nat.reduceMul,Nat.reduceBEq,cL,bL,cH,gB,gE,gC,gG,gH,gD]
     try simp [aN,okVs,okV]
theorem M5 (v:Net) (b m p:Nat) (σ:St) (hσ:aG σ p=some (db v b m)) (i:Nat) (hi:i<v.trams.length):iG T (.func 110 [.ptr p 0] []) [.int .i64 i] σ (ints (eE (lY v) i)):=by
 refine dX (af:=a110) rfl (by simp [a110]) ?_
 rw [GF hi]
 obtain ⟨z,hz⟩:∃ z,v.trams[i]=z:=⟨_,rfl⟩
 rw [hz]
 (repeat (first|simp only [↓QA,QB,Nat.reduceLT,reduceIte,Nat.reduceEqDiff,Nat.reduceAdd,Nat.reduceLeDiff,Nat.reduceMul,Nat.reduceBEq,cL,bL,cH,gB,gE,gC,gG,gH,gD,a110,hσ,hi,hz]|refine rd0 rfl ?_))
 refine eH [] (by first|rfl|simp) ?_
 try simp only [QS,QC,Nat.reduceLT,reduceIte,Nat.reduceEqDiff,Nat.reduceAdd,Nat.reduceLeDiff,Nat.reduceMul,Nat.reduceBEq,cL,bL,cH,gB,gE,gC,gG,gH,gD]
def bR (cs:List Int) (j:Nat):Int:=fL cs (j:Int)
theorem HG (cs:List Int) (x:Int) {k:Nat} (hk:cs.length=k):bR (cs++[x])=k7 (bR cs) k x:=by
 funext j
 simp only [bR,fL,Int.toNat_natCast,k7]
 by_cases e:j=k
 ·subst e;simp [←hk]
 ·rw [if_neg e]
  by_cases h:j<cs.length
  ·rw [List.getElem?_append_left h]
  ·rw [List.getElem?_eq_none (by simp;omega),List.getElem?_eq_none (by omega)]
theorem uR (f:Nat→Int) (i:Nat) (a b:Int):k7 (k7 f i a) i b=k7 f i b:=by
 funext j;simp only [k7];split<;>rfl
theorem MY (f:Nat→Int) (i:Nat) (a:Int):k7 f i a i=a:=by simp [k7]
theorem W0 (v:Net) (m:Int→Int) (ps:List (List Int)):bC 3 (bR (fJ v m ps 0).2)=[.int .i64 0,.int .i64 0,.int .i64 0]:=by
 simp [bC,bR,fL,fJ,List.range_succ]
theorem LA (M:Nat→Int) (k:Nat) (σ:St) (hσ:aG σ k=some (bC 5 M)) (r:Nat) (hr:r<5):iG T (.func 119 [] [.ptr k 0]) [.int .i64 r] σ (.bool (M r==0)):=by
 refine dX (af:=a119) rfl (by simp [a119]) ?_
 have i5:(0:Int)≤(r:Int)∧(r:Int)<((5:Nat):Int):=⟨by omega,by omega⟩
 have hg:=iO 5 M hr
 (repeat (first|simp only [↓QA,QB,Nat.reduceLT,reduceIte,Nat.reduceEqDiff,Nat.reduceAdd,Nat.reduceLeDiff,Nat.reduceMul,Nat.reduceBEq,cL,bL,cH,gB,gE,gC,gG,gH,gD,a119,i5,hσ,hg]|refine rd0 rfl ?_))
 refine eH [] (by first|rfl|simp) ?_
 try simp only [QS,QC,Nat.reduceLT,reduceIte,Nat.reduceEqDiff,Nat.reduceAdd,Nat.reduceLeDiff,Nat.reduceMul,Nat.reduceBEq,cL,bL,cH,gB,gE,gC,gG,gH,gD]
theorem jF (v:Net) (h:Fits v) (s:Int):eC T 19 [dH v,.int .i64 s] (qJ (iJ v s)):=by
 refine bA (af:=a19) rfl (by simp [a19]) dd ?_
 obtain ⟨W,hW⟩:∃ W,IntKind.i64.wrap (v.stations-1)=W:=⟨_,rfl⟩
 (repeat (first|simp only [↓QA,QB,Nat.reduceLT,reduceIte,Nat.reduceEqDiff,Nat.reduceAdd,Nat.reduceLeDiff,Nat.reduceMul,Nat.reduceBEq,cL,bL,cH,gB,gE,gC,gG,gH,gD,a19]|refine rd0 rfl ?_))
 ((first|refine aF (kN v h) rfl dd ?_|refine aH (kN v h) rfl dd ?_);(repeat (first|simp only [↓QA,QB,Nat.reduceLT,reduceIte,Nat.reduceEqDiff,Nat.reduceAdd,Nat.reduceLeDiff,Nat.reduceMul,Nat.reduceBEq,cL,bL,cH,gB,gE,gC,gG,gH,gD,nQ]|refine rd0 rfl ?_)))
 cases h0:((cF v).2.2==0)
 ·have h0':(cF v).2.2≠0:=by simpa using h0
  have hp:iJ v s=([],(cF v).2.2):=by simp [iJ,h0']
  rw [hp]
  (repeat (first|simp only [↓QA,QB,Nat.reduceLT,reduceIte,Nat.reduceEqDiff,Nat.reduceAdd,Nat.reduceLeDiff,Nat.reduceMul,Nat.reduceBEq,cL,bL,cH,gB,gE,gC,gG,gH,gD,h0,qJ,bF,List.map_nil]|refine rd0 rfl ?_))
  try rfl
 ·have h0':(cF v).2.2=0:=by simpa using h0
  have hv:=g7 h0'
  have hst:=hv.st
  have hWe:IntKind.i64.wrap (v.stations-1)=v.stations-1:=dZ ⟨by omega,by omega⟩
  (repeat (first|simp only [↓QA,QB,Nat.reduceLT,reduceIte,Nat.reduceEqDiff,Nat.reduceAdd,Nat.reduceLeDiff,Nat.reduceMul,Nat.reduceBEq,cL,bL,cH,gB,gE,gC,gG,gH,gD,h0,hWe]|refine rd0 rfl ?_))
  ((first|refine d5 (bE 0 (v.stations-1) [s] (by simp)) (by simp [clr,clrs,ints]) (by simp [okV,okVs]) ?_|refine eP (bE 0 (v.stations-1) [s] (by simp)) (by simp [clr,clrs,ints]) (by simp [okV,okVs]) ?_);(repeat (first|simp only [↓QA,QB,Nat.reduceLT,reduceIte,Nat.reduceEqDiff,Nat.reduceAdd,Nat.reduceLeDiff,Nat.reduceMul,Nat.reduceBEq,cL,bL,cH,gB,gE,gC,gG,gH,gD,iQ]|refine rd0 rfl ?_)))
  rw [show inR s 0 (v.stations-1)=kK v s from rfl]
  cases h1:kK v s
  ·have hp:iJ v s=([],4):=by simp [iJ,h0',h1]
   rw [hp]
   (repeat (first|simp only [↓QA,QB,Nat.reduceLT,reduceIte,Nat.reduceEqDiff,Nat.reduceAdd,Nat.reduceLeDiff,Nat.reduceMul,Nat.reduceBEq,cL,bL,cH,gB,gE,gC,gG,gH,gD,h0,qJ,bF,List.map_nil]|refine rd0 rfl ?_))
   try rfl
  ·have hp:iJ v s=(bW v s [],0):=by simp [iJ,h0',h1]
   rw [hp]
   rw [jM] at h1
   obtain ⟨S,rfl⟩:∃ S:Nat,s=(S:Int):=⟨s.toNat,by omega⟩
   have hw:=yJ v hv S (by omega) (-1)
   have hb:nU (-1)=[]:=rfl
   rw [hb] at hw
   (repeat (first|simp only [↓QA,QB,Nat.reduceLT,reduceIte,Nat.reduceEqDiff,Nat.reduceAdd,Nat.reduceLeDiff,Nat.reduceMul,Nat.reduceBEq,cL,bL,cH,gB,gE,gC,gG,gH,gD,h0]|refine rd0 rfl ?_))
   ((first|refine aF (hw) rfl dd ?_|refine aH (hw) rfl dd ?_);(repeat (first|simp only [↓QA,QB,Nat.reduceLT,reduceIte,Nat.reduceEqDiff,Nat.reduceAdd,Nat.reduceLeDiff,Nat.reduceMul,Nat.reduceBEq,cL,bL,cH,gB,gE,gC,gG,gH,gD,qJ,bF]|refine rd0 rfl ?_)))
   try try simp only [QS,QC,Nat.reduceLT,reduceIte,Nat.reduceEqDiff,Nat.reduceAdd,Nat.reduceLeDiff,Nat.reduceMul,Nat.reduceBEq,cL,bL,cH,gB,gE,gC,gG,gH,gD]
end Go.Am.Room
set_option maxRecDepth 8000
namespace Go.Am.Room
def dU:=And.intro @aZ (And.intro @aK (And.intro @aR (And.intro @aT (And.intro @aS (And.intro @aQ (And.intro @aY (And.intro @aW (And.intro @aV (And.intro @dL (And.intro @dR (And.intro @Nat.not_lt_zero (And.intro @List.length_append.{0} (And.intro @Nat.zero_add (And.intro @Nat.mul_one (And.intro @Int.toNat_natCast (And.intro @bL (And.intro @cH (And.intro @dO (And.intro @eR (And.intro @eQ (And.intro @jY (And.intro @eN (And.intro @gB (And.intro @gE (And.intro @gC (And.intro @gG (And.intro @gH (And.intro @gD (And.intro @Nat.add_lt_add_iff_left (@Nat.lt_add_right_iff_pos))))))))))))))))))))))))))))))
theorem D4 (v:Net) (hv:Vd v) (b m0 p:Nat) (σ:St) (hσ:aG σ p=some (db v b m0)) (hp:p<σ.length) (f:AV) (hk3:∀ τ n,σ.length≤n→bS (σ++τ) n 20 f=some f) (ps:List (List Int)) (hps:RunOk v ps) (hf:∀ i,i<v.trams.length→∀ τ,iG T f [.int .i64 i] (σ++τ) (ints (eE ps i))) (M:Nat→Int) (m:Int→Int) (hM:∀ i:Nat,m (i:Int)=M i) (hm:DG v m) :
  iG T (.func 109 [] []) [.ptr p 0,.agg (bC 5 M),f] σ (.agg (bC 3 (bR (iR v ps m)))):=by
 refine dX (af:=a109) rfl (by simp [a109]) ?_
 have hnt:=hv.ntr
 have hnr:=hv.nra
 have hk:sI σ f:=fun τ=>hk3 τ _ (Nat.le_refl _)
 have hk0:=hk.nil
 have hk2:∀ τ n,bS (σ++τ) (σ.length+n) 20 f=some f:=fun τ n=>hk3 τ _ (by omega)
 have hk4:∀ τ,bS (σ++τ) σ.length 20 f=some f:=hk
 have hσ2:=fun τ=>iY hσ τ
 have hbd:=OA hv hm hps
 have hz:=W0 v m ps
 (repeat (first|simp only [↓QA,QB,Nat.reduceLT,reduceIte,Nat.reduceEqDiff,Nat.reduceAdd,Nat.reduceLeDiff,Nat.reduceMul,Nat.reduceBEq,dU,a109,hσ2,←hz]|refine rd0 rfl ?_))
 refine sO 7 3 [] rfl ?_
 refine dJ (S:=Nat×Bool) (0,false) (fun a=>a.1≤v.trams.length) (fun a=>v.trams.length-a.1)
  (fun a=>[(2,f),(4,.ptr σ.length 0),(6,.ptr (σ.length+1) 0),(7,.lit ((fJ v m ps a.1).1.map jU) false (some (σ.length+2))),(18,.lit (v.trams.map bX) false none),(19,.int .i64 v.trams.length),(20,.int .i64 a.1)])
  (fun a=>σ++[.cells (bC 5 M),.cells (bC 3 (bR (fJ v m ps a.1).2)),.tok 3 (fJ v m ps a.1).1.length a.2]) (Nat.zero_le _) (by simp [fJ]) ?_ fun a ha=>?_
 ·try simp only [aD,QE,Nat.reduceLT,reduceIte,Nat.reduceEqDiff,Nat.reduceAdd,Nat.reduceLeDiff,Nat.reduceMul,Nat.reduceBEq,dU,hk2,hk4]
  try simp [fJ]
 ·obtain ⟨i,ex⟩:=a
  simp only at ha
  (repeat (first|simp only [↓QA,QB,Nat.reduceLT,reduceIte,Nat.reduceEqDiff,Nat.reduceAdd,Nat.reduceLeDiff,Nat.reduceMul,Nat.reduceBEq,dU,NO]|refine rd0 rfl ?_))
  refine aI (fun h=>?_) fun h=>?_
  ·have hi1:i<v.trams.length:=by simpa using h
   have hwi:=cM hi1 (by omega)
   obtain ⟨b1,b2⟩:=hbd i (by omega)
   have hlc:=xB v m ps i
   have hsu:=NK v m ps i
   have hto:=wC hv hi1
   have hpm:=EO hps hi1
   have hp4:=hps.few _ hpm
   have hpr:=hps.rails _ hpm
   have hfp:=fun τ=>hf i hi1 τ
   rw [B7 hi1] at hsu
   obtain ⟨t,ht⟩:∃ t,v.trams[i]=t:=⟨_,rfl⟩
   obtain ⟨p,hpp⟩:∃ p,eE ps i=p:=⟨_,rfl⟩
   rw [ht] at hto hsu
   rw [hpp] at hp4 hpr hsu
   simp only [hpp] at hfp
   have hlv:=hto.leaves
   obtain ⟨L,hL⟩:∃ L,t.leaves=L:=⟨_,rfl⟩
   rw [hL] at hlv hsu
   obtain ⟨SS,hSS⟩:∃ SS,(fJ v m ps i).1=SS:=⟨_,rfl⟩
   obtain ⟨OO,hOO⟩:∃ OO,(fJ v m ps i).2=OO:=⟨_,rfl⟩
   rw [hSS] at b1 hsu
   rw [hOO] at b2 hlc hsu
   have hgo:nO m i L p SS=if p.any (fun r=>m r==0)=true then (SS,-1) else pB m i p L SS:=rfl
   rw [hSS,hOO]
   obtain ⟨R,hR⟩:∃ R,nO m i L p SS=R:=⟨_,rfl⟩
   rw [hR] at hsu hgo
   have hsu1:(fJ v m ps (i+1)).1=R.1:=by rw [hsu]
   have hsu2:bR (fJ v m ps (i+1)).2=k7 (bR OO) i R.2:=by rw [hsu];exact HG OO R.2 hlc
   have i3:(0:Int)≤(i:Int)∧(i:Int)<((3:Nat):Int):=⟨by omega,by omega⟩
   have c3:i+1≤3:=by omega
   have hset:=fun (g:Nat→Int) x=>pN 3 g x (i:=i) (by omega)
   have hget:=fun (g:Nat→Int)=>iO 3 g (i:=i) (by omega)
   have hct:=fun (C:ABlk) (τ:St)=>o6 (σ++(.cells (bC 5 M)::C::τ)) (.func 119 [] [.ptr σ.length 0]) p (fun r=>m r==0) (by omega) (fun υ=>by try simp only [QS,QC,Nat.reduceLT,reduceIte,Nat.reduceEqDiff,Nat.reduceAdd,Nat.reduceLeDiff,Nat.reduceMul,Nat.reduceBEq,dU,List.length_append];simp) (fun x hx=>by
    have hxr:=hpr x hx
    obtain ⟨r,rfl⟩:∃ r:Nat,x=(r:Int):=⟨x.toNat,by omega⟩
    rw [hM]
    exact LA M σ.length _ (by rw [iH];rfl) r (by omega))
   (repeat (first|simp only [↓QA,QB,Nat.reduceLT,reduceIte,Nat.reduceEqDiff,Nat.reduceAdd,Nat.reduceLeDiff,Nat.reduceMul,Nat.reduceBEq,dU,hi1,ht,hL,i3,c3,hset]|refine rd0 rfl ?_))
   refine bM (hfp _) ?_
   (repeat (first|simp only [↓QA,QB,Nat.reduceLT,reduceIte,Nat.reduceEqDiff,Nat.reduceAdd,Nat.reduceLeDiff,Nat.reduceMul,Nat.reduceBEq,dU]|refine rd0 rfl ?_))
   refine bM (hct _ _) ?_
   have hwt:∀ (TB:ABlk) (K:KJ) (e:Env),Env.get e 2=f→Env.get e 4 = .ptr σ.length 0→Env.get e 6 = .ptr (σ.length+1) 0→Env.get e 7 = .lit (SS.map jU) false (some (σ.length+2))→Env.get e 8 = .int .i64 i→Env.get e 18 = .lit (v.trams.map bX) false none→Env.get e 19 = .int .i64 v.trams.length→Env.get e 20 = .int .i64 i→Env.get e 37=ints p→Env.get e 38 = .int .i64 p.length→Env.get e 39 = .int .i64 0 →
     p.any (fun r=>m r==0)=false→pB m i p L SS=R →
     (∀ e' ex',Env.get e' 2=f→Env.get e' 4 = .ptr σ.length 0→Env.get e' 6 = .ptr (σ.length+1) 0→Env.get e' 7 = .lit (R.1.map jU) false (some (σ.length+2))→Env.get e' 18 = .lit (v.trams.map bX) false none→Env.get e' 19 = .int .i64 v.trams.length→Env.get e' 20 = .int .i64 i →
      K (some (.exit 2)) e' (σ++[.cells (bC 5 M),.cells (bC 3 (k7 (bR OO) i R.2)),.tok 3 R.1.length ex',TB])) →
     rK (K:=⟨K⟩) T (.loop H9) e (σ++[.cells (bC 5 M),.cells (bC 3 (k7 (bR OO) i L)),.tok 3 SS.length ex,TB]):=by
    intro TB K e q2 q4 q6 q7 q8 q18 q19 q20 q37 q38 q39 hc hgo hK
    refine dJ (S:=Nat×Int×List Stay×Bool) (0,L,SS,ex) (fun a=>a.1≤p.length∧0≤a.2.1∧a.2.1≤60+20*(4*i+a.1:Nat)∧StaysOk a.2.2.1 (4*i+a.1)∧pB m i (p.drop a.1) a.2.1 a.2.2.1=R) (fun a=>p.length-a.1)
     (fun a=>[(2,f),(4,.ptr σ.length 0),(6,.ptr (σ.length+1) 0),(7,.lit (a.2.2.1.map jU) false (some (σ.length+2))),(8,.int .i64 i),(18,.lit (v.trams.map bX) false none),(19,.int .i64 v.trams.length),(20,.int .i64 i),(37,ints p),(38,.int .i64 p.length),(39,.int .i64 a.1)])
     (fun a=>σ++[.cells (bC 5 M),.cells (bC 3 (k7 (bR OO) i a.2.1)),.tok 3 a.2.2.1.length a.2.2.2,TB]) ⟨by simp,by simp only;omega,by simp only;omega,b1,hgo⟩ rfl ?_ fun a ha=>?_
    ·try simp only [aD,QE,Nat.reduceLT,reduceIte,Nat.reduceEqDiff,Nat.reduceAdd,Nat.reduceLeDiff,Nat.reduceMul,Nat.reduceBEq,dU,ints,hk2,hk4,q2,q4,q6,q7,q8,q18,q19,q20,q37,q38,q39]
     try simp [aN]
    ·obtain ⟨j,at_,SS,ex⟩:=a
     obtain ⟨hj,ha0,ha1,hso,hgo⟩:=ha
     simp only at hj ha0 ha1 hso hgo
     (repeat (first|simp only [↓QA,QB,Nat.reduceLT,reduceIte,Nat.reduceEqDiff,Nat.reduceAdd,Nat.reduceLeDiff,Nat.reduceMul,Nat.reduceBEq,dU,H9]|refine rd0 rfl ?_))
     refine aI (fun h2=>?_) fun h2=>?_
     ·have hj1:j<p.length:=by simpa using h2
      have hwj:=cM hj1 (by omega)
      have hpk:=hpr _ (List.getElem_mem hj1)
      rw [List.drop_eq_getElem_cons hj1] at hgo
      obtain ⟨r,hr⟩:∃ r:Nat,p[j]=(r:Int):=⟨p[j].toNat,by omega⟩
      rw [hr] at hpk hgo
      have hmr:=hm r hpk.1 hpk.2
      have hMr:=hM r
      obtain ⟨Q,hQ⟩:∃ Q,M r=Q:=⟨_,rfl⟩
      rw [hQ] at hMr
      rw [hMr] at hmr
      simp only [pB,hMr] at hgo
      obtain ⟨f1,f2,f3⟩:=JV (rail:=(r:Int)) (m:=Q) hso (by omega) ha0 ha1
      have hsl:=hso.len
      have hfr:=NX SS r at_ Q (60+20*((4*i+j:Nat):Int)) (by omega) hso.til ha0 ha1 (by omega) (by omega)
      obtain ⟨F,hF⟩:∃ F,j8 SS r at_ Q=F:=⟨_,rfl⟩
      rw [hF] at hgo f2 f3 hfr
      have hwF:IntKind.i64.wrap (F+Q)=F+Q:=dZ ⟨by omega,by omega⟩
      have hwA:IntKind.i64.wrap (at_+Q)=at_+Q:=dZ ⟨by omega,by omega⟩
      have i5:(0:Int)≤(r:Int)∧(r:Int)<((5:Nat):Int):=⟨by omega,by omega⟩
      have hg5:=iO 5 M (show r<5 by omega)
      rw [hQ] at hg5
      have a7:=fun (b0 b1:ABlk) (τ:St)=>u7 (σ:=σ++(b0::b1::.tok 3 SS.length ex::τ)) (t:=σ.length+2) (ex:=ex) (sz:=3) (b:=24) (xs:=SS.map jU) (ys:=[.agg [.int .i64 r,.int .i64 F,.int .i64 (F+Q)]]) (f:=true) (tk:=none) ⟨FU SS,by simp [aM,cC,AV.cells,AV.cell],by simp [room];omega,by simp [room];omega⟩ (by simp) SS.length (by simp) (by rw [qG];rfl)
      (repeat (first|simp only [↓QA,QB,Nat.reduceLT,reduceIte,Nat.reduceEqDiff,Nat.reduceAdd,Nat.reduceLeDiff,Nat.reduceMul,Nat.reduceBEq,dU,hj1,hr,i3,i5,hget,hg5,MY,hwA]|refine rd0 rfl ?_))
      ((first|refine xF (hfr) (by try simp only [QS,QC,Nat.reduceLT,reduceIte,Nat.reduceEqDiff,Nat.reduceAdd,Nat.reduceLeDiff,Nat.reduceMul,Nat.reduceBEq,dU]) trivial ?_|refine CE (hfr) (by try simp only [QS,QC,Nat.reduceLT,reduceIte,Nat.reduceEqDiff,Nat.reduceAdd,Nat.reduceLeDiff,Nat.reduceMul,Nat.reduceBEq,dU]) trivial ?_);(repeat (first|simp only [↓QA,QB,Nat.reduceLT,reduceIte,Nat.reduceEqDiff,Nat.reduceAdd,Nat.reduceLeDiff,Nat.reduceMul,Nat.reduceBEq,dU,hj1,hr,i3,i5,c3,hget,hg5,MY,hwA,hwF,hset,uR,a7]|refine rd0 rfl ?_)))
      refine ⟨(j+1,F+Q,SS++[⟨i,r,F,F+Q⟩],true),⟨by simp only;omega,by simp only;omega,by simp only;omega,?_,hgo⟩,by simp only;omega,?_⟩
      ·refine ⟨by simp;omega,fun x hx=>?_,fun x hx=>?_⟩
       ·rcases List.mem_append.1 hx with hx|hx
        ·have:=hso.til x hx;simp only;omega
        ·simp only [List.mem_singleton] at hx;subst hx;simp only;omega
       ·rcases List.mem_append.1 hx with hx|hx
        ·exact hso.frm x hx
        ·simp only [List.mem_singleton] at hx;subst hx;simp only;omega
      ·try simp only [aD,QE,Nat.reduceLT,reduceIte,Nat.reduceEqDiff,Nat.reduceAdd,Nat.reduceLeDiff,Nat.reduceMul,Nat.reduceBEq,dU,hwj,ints,hk2,hk4,List.map_append,List.map_cons,List.map_nil]
       try simp [aN,okVs,okV,CM]
     ·have hj1:j=p.length:=by
       have:¬j<p.length:=by simpa using h2
       omega
      rw [List.drop_eq_nil_of_le (by omega),pB] at hgo
      subst hgo
      (repeat (first|simp only [↓QA,QB,Nat.reduceLT,reduceIte,Nat.reduceEqDiff,Nat.reduceAdd,Nat.reduceLeDiff,Nat.reduceMul,Nat.reduceBEq,dU]|refine rd0 rfl ?_))
      refine hK _ ex ?_ ?_ ?_ ?_ ?_ ?_ ?_
      all_goals try simp only [aD,QE,Nat.reduceLT,reduceIte,Nat.reduceEqDiff,Nat.reduceAdd,Nat.reduceLeDiff,Nat.reduceMul,Nat.reduceBEq,dU]
   cases hc:p.any (fun r=>m r==0)
   ·rw [hc] at hgo
    simp only [Bool.false_eq_true,if_false] at hgo
    (repeat (first|simp only [↓QA,QB,Nat.reduceLT,reduceIte,Nat.reduceEqDiff,Nat.reduceAdd,Nat.reduceLeDiff,Nat.reduceMul,Nat.reduceBEq,dU]|refine rd0 rfl ?_))
    refine hwt _ _ _ ?_ ?_ ?_ ?_ ?_ ?_ ?_ ?_ ?_ ?_ ?_ hc hgo.symm ?_
    all_goals try try simp only [aD,QE,Nat.reduceLT,reduceIte,Nat.reduceEqDiff,Nat.reduceAdd,Nat.reduceLeDiff,Nat.reduceMul,Nat.reduceBEq,dU,ints]
    intro e' ex' q2 q4 q6 q7 q18 q19 q20
    (repeat (first|simp only [↓QA,QB,Nat.reduceLT,reduceIte,Nat.reduceEqDiff,Nat.reduceAdd,Nat.reduceLeDiff,Nat.reduceMul,Nat.reduceBEq,dU,q2,q4,q6,q7,q18,q19,q20,hwi]|refine rd0 rfl ?_))
    refine ⟨(i+1,ex'),by simp only;omega,by simp only;omega,?_⟩
    try simp only [aD,QE,Nat.reduceLT,reduceIte,Nat.reduceEqDiff,Nat.reduceAdd,Nat.reduceLeDiff,Nat.reduceMul,Nat.reduceBEq,dU,q2,q4,q6,q7,q18,q19,q20,hwi,hsu1,hsu2,hk2,hk4]
    try simp [aN,okVs,okV,CM]
   ·rw [hc] at hgo
    simp only [if_true] at hgo
    subst hgo
    (repeat (first|simp only [↓QA,QB,Nat.reduceLT,reduceIte,Nat.reduceEqDiff,Nat.reduceAdd,Nat.reduceLeDiff,Nat.reduceMul,Nat.reduceBEq,dU,hset,i3,c3,uR,hwi]|refine rd0 rfl ?_))
    refine ⟨(i+1,ex),by simp only;omega,by simp only;omega,?_⟩
    try simp only [aD,QE,Nat.reduceLT,reduceIte,Nat.reduceEqDiff,Nat.reduceAdd,Nat.reduceLeDiff,Nat.reduceMul,Nat.reduceBEq,dU,hwi,hsu1,hsu2,hk2,hk4]
    try simp [aN,okVs,okV,CM]
  ·have hi1:i=v.trams.length:=by
    have:¬i<v.trams.length:=by simpa using h
    omega
   rw [hi1]
   (repeat (first|simp only [↓QA,QB,Nat.reduceLT,reduceIte,Nat.reduceEqDiff,Nat.reduceAdd,Nat.reduceLeDiff,Nat.reduceMul,Nat.reduceBEq,dU]|refine rd0 rfl ?_))
   refine eH [.cells (bC 5 M),.cells (bC 3 (bR (fJ v m ps v.trams.length).2)),.tok 3 (fJ v m ps v.trams.length).1.length ex] (by first|rfl|simp) ?_
   try simp only [QS,QC,Nat.reduceLT,reduceIte,Nat.reduceEqDiff,Nat.reduceAdd,Nat.reduceLeDiff,Nat.reduceMul,Nat.reduceBEq,dU,iR]
end Go.Am.Room
set_option maxRecDepth 8000
namespace Go.Am.Room
def gM:=And.intro @aZ (And.intro @aK (And.intro @aR (And.intro @aT (And.intro @aS (And.intro @aQ (And.intro @aY (And.intro @aW (And.intro @aV (And.intro @dL (And.intro @dR (And.intro @Nat.not_lt_zero (And.intro @List.length_append.{0} (And.intro @Nat.zero_add (And.intro @Nat.mul_one (And.intro @Int.toNat_natCast (And.intro @dO (And.intro @eR (And.intro @eQ (And.intro @jY (And.intro @eN (And.intro @gB (And.intro @gE (And.intro @gC (And.intro @gG (And.intro @gH (And.intro @gD (And.intro @Nat.add_lt_add_iff_left (@Nat.lt_add_right_iff_pos))))))))))))))))))))))))))))
def rl (l:List Int) (i:Nat):Int:=(l[i]?).getD 0
theorem VA {l:List Int} {k:Nat} (h:k<l.length):rl l k=l[k]:=by simp [rl,h]
theorem QY (c:List Int) (i:Nat):rlI c (i:Int)=rl c i:=by simp [rlI,rl]
theorem OC {a b:List Int} (h1:a.length=b.length) (h2:a.length≤5):((List.range 5).all fun i=>rl a i==rl b i)=decide (a=b):=by
 rw [Bool.eq_iff_iff,List.all_eq_true,decide_eq_true_eq]
 constructor
 ·intro h
  refine List.ext_getElem h1 fun i hi1 hi2=>?_
  have:=h i (by simp;omega)
  rw [beq_iff_eq,VA (by omega),VA (by omega)] at this
  exact this
 ·rintro rfl i _
  simp
abbrev K5:={ c:List Int // c.length=5 }
def pad (c:List Int):K5:=⟨(List.range 5).map (rl c),by simp⟩
theorem M3 (c:List Int) {i:Nat} (h:i<5):rl (pad c).1 i=rl c i:=by simp [pad,rl,h]
theorem RO (c:List Int):bC 5 (rl (pad c).1)=bC 5 (rl c):=GS fun i hi=>M3 c hi
theorem LG (v:Net) {c:List Int} (h:c.length≤5):cQ v (pad c).1=cQ v c:=by
 have:rlI (pad c).1=rlI c:=by
  funext r
  simp only [rlI]
  by_cases hr:r.toNat<5
  ·exact M3 c hr
  ·rw [List.getElem?_eq_none (by rw [(pad c).2];omega),List.getElem?_eq_none (by omega)]
 rw [cQ,cQ,this]
def T9 (w:K5):AV:=.agg (bC 5 (rl w.1))
theorem UI (w:K5):T9 w = .agg (bC 5 (rl w.1)):=by simp only [T9]
def ST (v:Net) (w:K5):AV:=.agg (bC 3 (bR (cQ v w.1)))
theorem Q1 (v:Net) (w:K5):ST v w = .agg (bC 3 (bR (cQ v w.1))):=by simp only [ST]
theorem zG (v:Net):KeyIs (.agg [.i,.i,.i,.i,.i]) T9 (ST v) where
 eq:=fun w x=>by
  have:=JR 5 (rl w.1) (rl x.1)
  rw [OC (by rw [w.2,x.2]) (by rw [w.2];exact Nat.le_refl _)] at this
  have e:decide (w.1=x.1)=decide (w=x):=by rw [decide_eq_decide];exact Subtype.ext_iff.symm
  rw [e] at this
  exact this
 dk:=fun w=>jW (lV _ _)
 dv:=fun w=>jW (lV _ _)
abbrev tEs (v:Net):List K5→List (AV×AV):=pA T9 (ST v)
def RH (k:Nat):AV:=if k=0 then .func 116 [] [] else if k=1 then .func 117 [] [] else .func 118 [] []
def kO:List AV:=[.func 116 [] [],.func 117 [] [],.func 118 [] []]
theorem qD:kO=[.func 116 [] [],.func 117 [] [],.func 118 [] []]:=by simp only [kO]
theorem QK {k:Nat} (h:k<3):kO[k]? = some (RH k):=by
 have:k=0∨k=1∨k=2:=by omega
 rcases this with rfl|rfl|rfl<;>rfl
theorem BD (k:Nat) (hk:k<3) (c:Bool) (σ:St):iG T (RH k) [.bool c] σ (.bool (C8 (k:Int) c)):=by
 have:k=0∨k=1∨k=2:=by omega
 rcases this with rfl|rfl|rfl
 ·refine dX (af:=a116) rfl (by simp [a116]) ?_
  (repeat (first|simp only [↓QA,QB,Nat.reduceLT,reduceIte,Nat.reduceEqDiff,Nat.reduceAdd,Nat.reduceLeDiff,Nat.reduceMul,Nat.reduceBEq,gM,a116]|refine rd0 rfl ?_))
  refine eH [] (by first|rfl|simp) ?_
  cases c<;>(rw [CJ];rfl)
 ·refine dX (af:=a117) rfl (by simp [a117]) ?_
  (repeat (first|simp only [↓QA,QB,Nat.reduceLT,reduceIte,Nat.reduceEqDiff,Nat.reduceAdd,Nat.reduceLeDiff,Nat.reduceMul,Nat.reduceBEq,gM,a117]|refine rd0 rfl ?_))
  refine eH [] (by first|rfl|simp) ?_
  cases c<;>(rw [CJ];rfl)
 ·refine dX (af:=a118) rfl (by simp [a118]) ?_
  (repeat (first|simp only [↓QA,QB,Nat.reduceLT,reduceIte,Nat.reduceEqDiff,Nat.reduceAdd,Nat.reduceLeDiff,Nat.reduceMul,Nat.reduceBEq,gM,a118]|refine rd0 rfl ?_))
  refine eH [] (by first|rfl|simp) ?_
  cases c<;>(rw [CJ];rfl)
theorem II (σ:St):iG T (.func 107 [] []) [] σ (.agg kO):=by
 refine dX (af:=a107) rfl (by simp [a107]) ?_
 have j0:(0:Int)≤0∧(0:Int)<((3:Nat):Int):=by decide
 have j1:(0:Int)≤1∧(1:Int)<((3:Nat):Int):=by decide
 have j2:(0:Int)≤2∧(2:Int)<((3:Nat):Int):=by decide
 have t0:Int.toNat 0=0:=rfl
 have t1:Int.toNat 1=1:=rfl
 have t2:Int.toNat 2=2:=rfl
 (repeat (first|simp only [↓QA,QB,Nat.reduceLT,reduceIte,Nat.reduceEqDiff,Nat.reduceAdd,Nat.reduceLeDiff,Nat.reduceMul,Nat.reduceBEq,gM,a107,j0,j1,j2,t0,t1,t2]|refine rd0 rfl ?_))
 refine eH [.cells kO] (by first|rfl|simp [kO]) ?_
 try simp only [QS,QC,Nat.reduceLT,reduceIte,Nat.reduceEqDiff,Nat.reduceAdd,Nat.reduceLeDiff,Nat.reduceMul,Nat.reduceBEq,gM,qD,DE]
theorem UB (v:Net) (hv:Vd v) (b m p q tt s2 s5:Nat) (bl CS:List Int) (hb:ButIs b bl) (hcl:CS.length=v.trams.length) (σ:St) (hq:aG σ q=some [.ptr p 0]) (hp:aG σ p=some (db v b m)) (ht:aG σ tt=some (bC 3 (bR CS))) (hs2:s2<σ.length) (hs5:s5<σ.length) (e:Env) (K:KJ)
  (e1:Env.get e 1 = .ptr q 0) (e2:Env.get e 2 = .ptr s2 0) (e5:Env.get e 5 = .ptr s5 0) (e10:Env.get e 10 = .ptr tt 0) (e58:Env.get e 58 = .lit (v.seen.map dB) false none) (e59:Env.get e 59 = .int .i64 v.seen.length) (e60:Env.get e 60 = .int .i64 0)
  (hKt:lW v bl CS=true→∀ e',Env.get e' 2 = .ptr s2 0→Env.get e' 5 = .ptr s5 0→Env.get e' 10 = .ptr tt 0→K (some (.exit 0)) e' σ)
  (hKf:lW v bl CS=false→∀ e' τ',Env.get e' 9 = .bool true→K (some .ret) e' (σ++τ')) :
  rK (K:=⟨K⟩) T (.loop CO) e σ:=by
 have hse:=hv.nse
 have hnt:=hv.ntr
 have hql:=nY hq
 have htl:=nY ht
 have hq2:=fun τ=>iY hq τ
 have hp2:=fun τ=>iY hp τ
 have ht2:=fun τ=>iY ht τ
 refine dJ (S:=Nat) 0 (fun k=>k≤v.seen.length∧qC v bl CS k=true) (fun k=>v.seen.length-k)
  (fun k=>[(1,.ptr q 0),(2,.ptr s2 0),(5,.ptr s5 0),(10,.ptr tt 0),(58,.lit (v.seen.map dB) false none),(59,.int .i64 v.seen.length),(60,.int .i64 k)])
  (fun k=>σ) ⟨Nat.zero_le _,rfl⟩ rfl ?_ fun k hk=>?_
 ·try simp only [aD,QE,Nat.reduceLT,reduceIte,Nat.reduceEqDiff,Nat.reduceAdd,Nat.reduceLeDiff,Nat.reduceMul,Nat.reduceBEq,gM,e1,e2,e5,e10,e58,e59,e60]
  try simp [hs2,hs5,hql,htl]
 ·obtain ⟨hk,hok⟩:=hk
  (repeat (first|simp only [↓QA,QB,Nat.reduceLT,reduceIte,Nat.reduceEqDiff,Nat.reduceAdd,Nat.reduceLeDiff,Nat.reduceMul,Nat.reduceBEq,gM,CO]|refine rd0 rfl ?_))
  refine aI (fun hd=>?_) fun hd=>?_
  ·have hk1:k<v.seen.length:=by simpa using hd
   have hw:=cM hk1 (by omega)
   have hsu:=EL hk1 bl CS
   have hsx:=hv.se _ (List.getElem_mem hk1)
   obtain ⟨x,hx⟩:∃ x,v.seen[k]=x:=⟨_,rfl⟩
   rw [hx] at hsu hsx
   rw [hok,Bool.true_and] at hsu
   obtain ⟨t,hte⟩:∃ t:Nat,x.tram=t:=⟨x.tram.toNat,by omega⟩
   rw [hte] at hsu hsx
   have hdiv:b/2^k<9223372036854775808:=Nat.lt_of_le_of_lt (Nat.div_le_self _ _) hb.lt
   have hbit:=hb.bit k (by omega)
   have vs:=O7 b k (by omega)
   have va:=H7 (b/2^k) hdiv
   have i3:(0:Int)≤(t:Int)∧(t:Int)<((3:Nat):Int):=⟨by omega,by omega⟩
   have hg:=iO 3 (bR CS) (i:=t) (by omega)
   have hcf:bR CS t=fL CS (t:Int):=rfl
   rw [hcf] at hg
   obtain ⟨C,hC⟩:∃ C,fL CS (t:Int)=C:=⟨_,rfl⟩
   rw [hC] at hsu hg
   have go:qC v bl CS (k+1)=true→(k+1≤v.seen.length∧qC v bl CS (k+1)=true):=fun q=>⟨by omega,q⟩
   have snp:∀ τ n,n<σ.length→bS (σ++τ) σ.length 20 (.ptr n 0)=some (.ptr n 0):=fun τ n hn=>by rw [VB,if_pos hn]
   cases h2:bl.contains (k:Int)
   ·rw [h2] at hbit hsu
    rw [Bool.false_or] at hsu
    cases h3:(C==x.minute)
    ·rw [h3] at hsu
     have hqf:lW v bl CS=false:=by
      rw [←zH]
      simp only [qC,List.all_eq_false,List.mem_range] at hsu ⊢
      obtain ⟨a,ha,h1⟩:=hsu
      exact ⟨a,by omega,h1⟩
     (repeat (first|simp only [↓QA,QB,Nat.reduceLT,reduceIte,Nat.reduceEqDiff,Nat.reduceAdd,Nat.reduceLeDiff,Nat.reduceMul,Nat.reduceBEq,gM,hk1,hx,hte,hq2,hp2,ht2,vs,va,hbit,i3,hg,h3]|refine rd0 rfl ?_))
     exact hKf hqf _ _ (by try simp only [aD,QE,Nat.reduceLT,reduceIte,Nat.reduceEqDiff,Nat.reduceAdd,Nat.reduceLeDiff,Nat.reduceMul,Nat.reduceBEq,gM])
    ·rw [h3] at hsu
     (repeat (first|simp only [↓QA,QB,Nat.reduceLT,reduceIte,Nat.reduceEqDiff,Nat.reduceAdd,Nat.reduceLeDiff,Nat.reduceMul,Nat.reduceBEq,gM,hk1,hx,hte,hq2,hp2,ht2,vs,va,hbit,i3,hg,h3]|refine rd0 rfl ?_))
     refine ⟨k+1,go hsu,by omega,?_⟩
     try simp only [aD,QE,Nat.reduceLT,reduceIte,Nat.reduceEqDiff,Nat.reduceAdd,Nat.reduceLeDiff,Nat.reduceMul,Nat.reduceBEq,gM,hw,snp _ _ hql,snp _ _ hs2,snp _ _ hs5,snp _ _ htl]
     try simp [aN,hs2,hs5,hql,htl]
   ·rw [h2] at hbit hsu
    rw [Bool.true_or] at hsu
    (repeat (first|simp only [↓QA,QB,Nat.reduceLT,reduceIte,Nat.reduceEqDiff,Nat.reduceAdd,Nat.reduceLeDiff,Nat.reduceMul,Nat.reduceBEq,gM,hk1,hx,hte,hq2,hp2,ht2,vs,va,hbit]|refine rd0 rfl ?_))
    refine ⟨k+1,go hsu,by omega,?_⟩
    try simp only [aD,QE,Nat.reduceLT,reduceIte,Nat.reduceEqDiff,Nat.reduceAdd,Nat.reduceLeDiff,Nat.reduceMul,Nat.reduceBEq,gM,hw,snp _ _ hql,snp _ _ hs2,snp _ _ hs5,snp _ _ htl]
    try simp [aN,hs2,hs5,hql,htl]
  ·have hk1:k=v.seen.length:=by
    have:¬k<v.seen.length:=by simpa using hd
    omega
   rw [hk1,zH] at hok
   (repeat (first|simp only [↓QA,QB,Nat.reduceLT,reduceIte,Nat.reduceEqDiff,Nat.reduceAdd,Nat.reduceLeDiff,Nat.reduceMul,Nat.reduceBEq,gM]|refine rd0 rfl ?_))
   refine hKt hok _ ?_ ?_ ?_
   all_goals try simp only [aD,QE,Nat.reduceLT,reduceIte,Nat.reduceEqDiff,Nat.reduceAdd,Nat.reduceLeDiff,Nat.reduceMul,Nat.reduceBEq,gM]
end Go.Am.Room
set_option maxRecDepth 8000
namespace Go.Am.Room
def cT:=And.intro @aZ (And.intro @aK (And.intro @aR (And.intro @aT (And.intro @aS (And.intro @aQ (And.intro @aY (And.intro @aW (And.intro @aV (And.intro @dL (And.intro @dR (And.intro @Nat.not_lt_zero (And.intro @List.length_append.{0} (And.intro @Nat.zero_add (And.intro @Nat.mul_one (And.intro @Int.toNat_natCast (And.intro @dO (And.intro @eR (And.intro @eQ (And.intro @jY (And.intro @eN (And.intro @gB (And.intro @gE (And.intro @gC (And.intro @gG (And.intro @gH (And.intro @gD (And.intro @Nat.add_lt_add_iff_left (And.intro @Nat.lt_add_right_iff_pos (And.intro @nC (@m8))))))))))))))))))))))))))))))
def iN {A X:Type} [DecidableEq A] (f:A→X→X×Bool) (a:A) (s:Option A×X):(Option A×X)×Bool:=if s.1=some a then (s,true) else ((some a,(f a s.2).1),(f a s.2).2)
theorem zN {A X:Type} [DecidableEq A] (f:A→X→X×Bool):∀ (l:List A) (o:Option A) (x:X),l.Pairwise (·≠·)→(∀ a∈l,o≠some a)→(bJ (iN f) l (o,x)).1.2=(bJ f l x).1∧(bJ (iN f) l (o,x)).2=(bJ f l x).2
 |[],o,x,_,_=>⟨rfl,rfl⟩
 |a::l,o,x,h,ho=>by
  have h0:=ho a (by simp)
  obtain ⟨h1,h2⟩:=List.pairwise_cons.1 h
  have ih:=zN f l (some a) (f a x).1 h2 fun b hb e=>h1 b hb (by simpa using e)
  simp only [bJ,iN,h0,if_false]
  split
  ·exact ih
  ·exact ⟨rfl,rfl⟩
theorem uS {A X:Type} [DecidableEq A] (f:A→X→X×Bool):∀ (az:List A) (o:Option A) (x:X) (u:A),(bJ (iN f) az (o,x)).1.1=some u→o=some u∨u∈az
 |[],o,x,u,h=>.inl h
 |a::az,o,x,u,h=>by
  simp only [bJ,iN] at h
  by_cases ho:o=some a
  ·simp only [ho,if_true] at h
   rcases uS f az (some a) x u h with h|h
   ·exact .inl (ho.trans h)
   ·exact .inr (by simp [h])
  ·simp only [ho,if_false] at h
   split at h
   ·rcases uS f az (some a) _ u h with h|h
    ·simp at h;exact .inr (by simp [h])
    ·exact .inr (by simp [h])
   ·simp at h;exact .inr (by simp [h])
theorem CL (l:List Int) (n:Int):rl (l++[n])=k7 (rl l) l.length n:=by
 funext i
 simp only [rl,k7]
 by_cases h:i=l.length
 ·subst h;simp
 ·rw [if_neg h]
  by_cases h2:i<l.length
  ·rw [List.getElem?_append_left h2]
  ·rw [List.getElem?_eq_none (by simp;omega),List.getElem?_eq_none (by omega)]
theorem uG (l:List Int):k7 (rl l) l.length 0=rl l:=by
 funext i
 simp only [k7]
 split
 ·rename_i h;subst h;simp [rl]
 ·rfl
def kR {X:Type} (v:Net) (bl:List Int) (f:List Int→X→X×Bool) (c:List Int) (y:X×List K5):(X×List K5)×Bool :=
 if o9 v bl c=true then (((f c y.1).1,mH y.2 (pad c)),(f c y.1).2) else ((y.1,mH y.2 (pad c)),true)
structure LeafOk (v:Net) (c:List Int):Prop where
 len:c.length=v.rails.length
 mins:DG v (rlI c)
def nX (v:Net) (c:List Int) (_:Bool) (_:Option Nat):List AV:=[.agg (bC 5 (rl c)),.agg (bC 3 (bR (cQ v c)))]
def DH {X:Type} (Zp ZDp:X×List K5→St) (id:Nat) (v:Net) (P:List Int→Prop) (f:List Int→X→X×Bool):Prop :=
 ∀ t,P t→∀ (y:X×List K5) τ,Run T (.callv (.yield id) [.agg (bC 5 (rl t)),.agg (bC 3 (bR (cQ v t)))] (Zp y++τ)) fun o=>o.v = .bool (f t y.1).2∧∃ τ',o.σ=Fam.out Zp ZDp (((f t y.1).1,y.2),(f t y.1).2)++(τ++τ')
def BE (q N:Nat):AV:=.func 108 [] [.ptr q 0,.ptr (N+1) 0,.ptr (N+2) 0,.ptr (N+3) 0,.ptr N 0,.ptr (N+4) 0,.ptr (N+5) 0]
theorem yL (q N:Nat):BE q N = .func 108 [] [.ptr q 0,.ptr (N+1) 0,.ptr (N+2) 0,.ptr (N+3) 0,.ptr N 0,.ptr (N+4) 0,.ptr (N+5) 0]:=by simp only [BE]
def iM (id q N:Nat) (o:Option (List Int)) (A:Nat→Int):St:=[.cells [.yield id],.cells (bC 5 A),.cells (bC 5 (rl (o.getD []))),.cells [.bool o.isNone],.cells kO,.cells [BE q N]]
theorem dF (id q N:Nat) (o:Option (List Int)) (A:Nat→Int) (τ:St):iM id q N o A++τ = .cells [.yield id]::.cells (bC 5 A)::.cells (bC 5 (rl (o.getD [])))::.cells [.bool o.isNone]::.cells kO::.cells [BE q N]::τ:=by simp [iM]
def AN {X:Type} (Zp ZDp:X×List K5→St) (id q N:Nat) (l:List Int) (τ:St) (r:(Option (List Int)×(X×List K5))×Bool) (o:Out):Prop :=
 o.v = .bool r.2∧∃ A τ',o.σ=Fam.out Zp ZDp (r.1.2,r.2)++(iM id q N r.1.1 A++(τ++τ'))∧(r.2=true→A=rl l)
theorem PE {X:Type} {Zp ZDp:X×List K5→St} {v:Net} {b p m q N:Nat} {bl:List Int} (hR:Fam Zp ZDp (db v b m) p q N) (hS:∀ x,MemAt (fun A=>Zp (x,A)) (db v b m) (tEs v) p m N) (hv:Vd v) (hb:ButIs b bl) {id:Nat} {P:List Int→Prop} {f:List Int→X→X×Bool} (hy:DH Zp ZDp id v P f)
  (c:List Int) (hc:LeafOk v c) (hP:o9 v bl c=true→P c) (o:Option (List Int)) (ho:∀ u,o=some u→u.length=v.rails.length) (y:X×List K5) (τ:St) :
  Run T (.callv (BE q N) [.int .i64 c.length] (Zp y++(iM id q N o (rl c)++τ))) (AN Zp ZDp id q N c τ (iN (kR v bl f) c (o,y))):=by
 have hnr:=hv.nra
 have hcl:=hc.len
 simp only [yL]
 refine .callf (.call (af:=a108) rfl (by simp [a108]) (gK (K:=fun j e σ'=>(j=none∨j=some .ret)∧AN Zp ZDp id q N c τ (iN (kR v bl f) c (o,y)) ⟨none,[],σ',Env.get e 9⟩) ?_ fun o ho=>ho) fun w hw=>⟨hw.1,_,rfl,.inl hw.2⟩)
 have hE:((c.length:Int)==(v.rails.length:Int))=true:=by rw [hcl];simp
 have heq:a9 [.i,.i,.i,.i,.i] (bC 5 (rl c)) (bC 5 (rl (o.getD [])))=some ((List.range 5).all fun i=>rl c i==rl (o.getD []) i):=JR 5 (rl c) (rl (o.getD []))
 obtain ⟨B,hB⟩:∃ B,((List.range 5).all fun i=>rl c i==rl (o.getD []) i)=B:=⟨_,rfl⟩
 rw [hB] at heq
 by_cases hu:o=some c
 ·subst hu
  have hBt:B=true:=by rw [←hB];simp
  subst hBt
  have hon:iN (kR v bl f) c (some c,y)=((some c,y),true):=by simp [iN]
  rw [hon,dF]
  simp only [Option.getD_some] at heq
  (repeat (first|simp only [↓QA,QB,Nat.reduceLT,reduceIte,Nat.reduceEqDiff,Nat.reduceAdd,Nat.reduceLeDiff,Nat.reduceMul,Nat.reduceBEq,cT,hR.len,hR.base,hR.base0,hR.bset,hR.bset0,hR.at1,hR.atq1,a108,hE,heq,Option.isNone_some,Option.getD_some]|refine rd0 rfl ?_))
  exact ⟨rfl,rl c,[],by simp [iM,Fam.out],fun _=>rfl⟩
 ·have hon:iN (kR v bl f) c (o,y)=((some c,(kR v bl f c y).1),(kR v bl f c y).2):=by simp [iN,hu]
  have hgo:(B&&!o.isNone)=false:=by
   cases o with
   |none=>simp
   |some u =>
    have hul:=ho u rfl
    have:B=decide (c=u):=by rw [←hB];exact OC (a:=c) (b:=u) (by omega) (by omega)
    rw [this]
    simp only [Option.isNone_some,Bool.not_false,Bool.and_true,decide_eq_false_iff_not]
    rintro rfl
    exact hu rfl
  rw [hon]
  obtain ⟨x,A⟩:=y
  obtain ⟨A',hA'⟩:∃ A',mH A (pad c)=A':=⟨_,rfl⟩
  have hper:kR v bl f c (x,A)=if o9 v bl c=true then (((f c x).1,A'),(f c x).2) else ((x,A'),true):=by rw [kR,hA']
  have hl1:=fun τ=>SQ (zG v) (hS x) A τ (pad c)
  have hput:=fun τ (hw:pad c∉A)=>XQ (zG v) (hS x) A τ (pad c) hw
  simp only [UI,Q1,RO,LG v (show c.length≤5 by omega)] at hl1 hput
  have hcal:=hy c
  have hfit:o9 v bl c=lW v bl (cQ v c):=rfl
  have hcc:(cQ v c).length=v.trams.length:=xB _ _ _ _
  obtain ⟨CS,hCS⟩:∃ CS,cQ v c=CS:=⟨_,rfl⟩
  have hrun:∀ (σ:St) (hσ:aG σ p=some (db v b m)),iG T (.func 109 [] []) [.ptr p 0,.agg (bC 5 (rl c)),.func 110 [.ptr p 0] []] σ (.agg (bC 3 (bR CS))):=fun σ hσ=>by
   have hpl:=nY hσ
   rw [←hCS]
   exact D4 v hv b m p σ hσ hpl _ (fun τ n hn=>by
    try simp only [QS,QC,Nat.reduceLT,reduceIte,Nat.reduceEqDiff,Nat.reduceAdd,Nat.reduceLeDiff,Nat.reduceMul,Nat.reduceBEq,cT,hR.len,hR.base,hR.base0,hR.bset,hR.bset0,hR.at1,hR.atq1,DE]
    simp [show p<n by omega]) (lY v) (YH hv) (fun i hi τ=>M5 v b m p _ (iY hσ τ) i hi) (rl c) (rlI c) (QY c) hc.mins
  rw [hCS] at hl1 hput hfit hcc hcal
  have hpN:=hR.pl
  have hqN:=hR.ql
  have hP':=hP
  rw [hfit] at hP' hper
  rw [dF]
  -- behind the look into the map: the things that were seen
  have tail:∀ (e:Env) (K:KJ),Env.get e 1 = .ptr q 0→Env.get e 2 = .ptr (N+1) 0→Env.get e 5 = .ptr N 0→Env.get e 10 = .ptr (N+(τ.length+1+1+1+1+1+1)) 0→Env.get e 58 = .lit (v.seen.map dB) false none→Env.get e 59 = .int .i64 v.seen.length→Env.get e 60 = .int .i64 0 →
    (lW v bl CS=true→∀ e',Env.get e' 2 = .ptr (N+1) 0→Env.get e' 5 = .ptr N 0→Env.get e' 10 = .ptr (N+(τ.length+1+1+1+1+1+1)) 0→K (some (.exit 0)) e' (Zp (x,A')++(iM id q N (some c) (rl c)++(τ++[.cells (bC 3 (bR CS))])))) →
    (lW v bl CS=false→∀ e' τ',Env.get e' 9 = .bool true→K (some .ret) e' ((Zp (x,A')++(iM id q N (some c) (rl c)++(τ++[.cells (bC 3 (bR CS))])))++τ')) →
    rK (K:=⟨K⟩) T (.loop CO) e (Zp (x,A')++(iM id q N (some c) (rl c)++(τ++[.cells (bC 3 (bR CS))]))):=by
   intro e K e1 e2 e5 e10 e58 e59 e60 hKt hKf
   refine UB v hv b m p q (N+(τ.length+1+1+1+1+1+1)) (N+1) N bl CS hb hcc _ (hR.atq1 _ _) (hR.at1 _ _) ?_ ?_ ?_ e K e1 e2 e5 e10 e58 e59 e60 hKt hKf
   ·rw [dF,hR.base]
    simp only [pG]
    have:=iH τ [.cells (bC 3 (bR CS))]
    rw [this];rfl
   ·simp [hR.len,iM]
   ·simp [hR.len,iM]
  have hta:∀ (y:X×List K5) (b0 b1 b2 b3 b4 b5:ABlk),aG (Zp y++(b0::b1::b2::b3::b4::b5::(τ++[.cells (bC 3 (bR CS))]))) (N+(τ.length+1+1+1+1+1+1))=some (bC 3 (bR CS)):=fun y b0 b1 b2 b3 b4 b5=>by
   rw [hR.base]
   simp only [pG]
   rw [iH];rfl
  have htz:∀ (y:X×List K5) (b0 b1 b2 b3 b4 b5:ABlk) (cs:List AV),aG (Zp y++(b0::b1::b2::b3::b4::b5::(τ++[.cells cs]))) (N+(τ.length+1+1+1+1+1+1))=some cs:=fun y b0 b1 b2 b3 b4 b5 cs=>by
   rw [hR.base]
   simp only [pG]
   rw [iH];rfl
  have hts:∀ (y:X×List K5) (b0 b1 b2 b3 b4 b5:ABlk) (cs:List AV) (B:ABlk),(Zp y++(b0::b1::b2::b3::b4::b5::(τ++[.cells cs]))).set (N+(τ.length+1+1+1+1+1+1)) B=Zp y++(b0::b1::b2::b3::b4::b5::(τ++[B])):=fun y b0 b1 b2 b3 b4 b5 cs B=>by
   rw [hR.bset]
   simp only [List.set_cons_succ]
   rw [IL];rfl
  have hlen:∀ (y:X×List K5),(Zp y).length=N:=hR.len
  by_cases hw:pad c∈A
  ·have hA2:A'=A:=by rw [←hA',mH,if_pos hw]
   subst hA2
   simp only [hw,if_true] at hl1
   cases B
   ·(repeat (first|simp only [↓QA,QB,Nat.reduceLT,reduceIte,Nat.reduceEqDiff,Nat.reduceAdd,Nat.reduceLeDiff,Nat.reduceMul,Nat.reduceBEq,cT,hR.len,hR.base,hR.base0,hR.bset,hR.bset0,hR.at1,hR.atq1,a108,hE,heq]|refine rd0 rfl ?_))
    refine rE [.cells [.int .i64 0,.int .i64 0,.int .i64 0]] rfl ?_
    (repeat (first|simp only [↓QA,QB,Nat.reduceLT,reduceIte,Nat.reduceEqDiff,Nat.reduceAdd,Nat.reduceLeDiff,Nat.reduceMul,Nat.reduceBEq,cT,hR.len,hR.base,hR.base0,hR.bset,hR.bset0,hR.at1,hR.atq1,hl1,xE,xH,hlen,htz,hts]|refine rd0 rfl ?_))
    refine tail _ _ ?_ ?_ ?_ ?_ ?_ ?_ ?_ ?_ ?_
    all_goals try try simp only [aD,QE,Nat.reduceLT,reduceIte,Nat.reduceEqDiff,Nat.reduceAdd,Nat.reduceLeDiff,Nat.reduceMul,Nat.reduceBEq,cT,hR.len,hR.base,hR.base0,hR.bset,hR.bset0,hR.at1,hR.atq1]
    ·intro hs e' q2 q5 q10
     have hc2:=fun A=>hcal (hP' hs) (x,A)
     rw [hs,if_pos rfl] at hper
     rw [hper,dF]
     (repeat (first|simp only [↓QA,QB,Nat.reduceLT,reduceIte,Nat.reduceEqDiff,Nat.reduceAdd,Nat.reduceLeDiff,Nat.reduceMul,Nat.reduceBEq,cT,hR.len,hR.base,hR.base0,hR.bset,hR.bset0,hR.at1,hR.atq1,q2,q5,q10,hta]|refine rd0 rfl ?_))
     refine .mono (hc2 _ _) fun w hw=>?_
     obtain ⟨hw1,τ',hw2⟩:=hw
     rw [hw1,hw2]
     (repeat (first|simp only [↓QA,QB,Nat.reduceLT,reduceIte,Nat.reduceEqDiff,Nat.reduceAdd,Nat.reduceLeDiff,Nat.reduceMul,Nat.reduceBEq,cT,hR.len,hR.base,hR.base0,hR.bset,hR.bset0,hR.at1,hR.atq1,q2,q5,q10]|refine rd0 rfl ?_))
     exact ⟨rfl,rl c,[.cells (bC 3 (bR CS))]++τ',by simp [iM],fun _=>rfl⟩
    ·intro hs e' τ' q9
     rw [hs] at hper
     simp only [Bool.false_eq_true,if_false] at hper
     rw [hper]
     (repeat (first|simp only [↓QA,QB,Nat.reduceLT,reduceIte,Nat.reduceEqDiff,Nat.reduceAdd,Nat.reduceLeDiff,Nat.reduceMul,Nat.reduceBEq,cT,hR.len,hR.base,hR.base0,hR.bset,hR.bset0,hR.at1,hR.atq1,q9]|refine rd0 rfl ?_))
     exact ⟨rfl,rl c,[.cells (bC 3 (bR CS))]++τ',by simp [Fam.out],fun _=>rfl⟩
   ·rw [Bool.true_and] at hgo
    have hgo':o.isNone=true:=by simpa using hgo
    (repeat (first|simp only [↓QA,QB,Nat.reduceLT,reduceIte,Nat.reduceEqDiff,Nat.reduceAdd,Nat.reduceLeDiff,Nat.reduceMul,Nat.reduceBEq,cT,hR.len,hR.base,hR.base0,hR.bset,hR.bset0,hR.at1,hR.atq1,a108,hE,heq,hgo']|refine rd0 rfl ?_))
    refine rE [.cells [.int .i64 0,.int .i64 0,.int .i64 0]] rfl ?_
    (repeat (first|simp only [↓QA,QB,Nat.reduceLT,reduceIte,Nat.reduceEqDiff,Nat.reduceAdd,Nat.reduceLeDiff,Nat.reduceMul,Nat.reduceBEq,cT,hR.len,hR.base,hR.base0,hR.bset,hR.bset0,hR.at1,hR.atq1,hl1,xE,xH,hlen,htz,hts]|refine rd0 rfl ?_))
    refine tail _ _ ?_ ?_ ?_ ?_ ?_ ?_ ?_ ?_ ?_
    all_goals try try simp only [aD,QE,Nat.reduceLT,reduceIte,Nat.reduceEqDiff,Nat.reduceAdd,Nat.reduceLeDiff,Nat.reduceMul,Nat.reduceBEq,cT,hR.len,hR.base,hR.base0,hR.bset,hR.bset0,hR.at1,hR.atq1]
    ·intro hs e' q2 q5 q10
     have hc2:=fun A=>hcal (hP' hs) (x,A)
     rw [hs,if_pos rfl] at hper
     rw [hper,dF]
     (repeat (first|simp only [↓QA,QB,Nat.reduceLT,reduceIte,Nat.reduceEqDiff,Nat.reduceAdd,Nat.reduceLeDiff,Nat.reduceMul,Nat.reduceBEq,cT,hR.len,hR.base,hR.base0,hR.bset,hR.bset0,hR.at1,hR.atq1,q2,q5,q10,hta]|refine rd0 rfl ?_))
     refine .mono (hc2 _ _) fun w hw=>?_
     obtain ⟨hw1,τ',hw2⟩:=hw
     rw [hw1,hw2]
     (repeat (first|simp only [↓QA,QB,Nat.reduceLT,reduceIte,Nat.reduceEqDiff,Nat.reduceAdd,Nat.reduceLeDiff,Nat.reduceMul,Nat.reduceBEq,cT,hR.len,hR.base,hR.base0,hR.bset,hR.bset0,hR.at1,hR.atq1,q2,q5,q10]|refine rd0 rfl ?_))
     exact ⟨rfl,rl c,[.cells (bC 3 (bR CS))]++τ',by simp [iM],fun _=>rfl⟩
    ·intro hs e' τ' q9
     rw [hs] at hper
     simp only [Bool.false_eq_true,if_false] at hper
     rw [hper]
     (repeat (first|simp only [↓QA,QB,Nat.reduceLT,reduceIte,Nat.reduceEqDiff,Nat.reduceAdd,Nat.reduceLeDiff,Nat.reduceMul,Nat.reduceBEq,cT,hR.len,hR.base,hR.base0,hR.bset,hR.bset0,hR.at1,hR.atq1,q9]|refine rd0 rfl ?_))
     exact ⟨rfl,rl c,[.cells (bC 3 (bR CS))]++τ',by simp [Fam.out],fun _=>rfl⟩
  ·have hA2:A'=A++[pad c]:=by rw [←hA',mH,if_neg hw]
   subst hA2
   simp only [hw,if_false] at hl1
   have hput:=fun τ=>hput τ hw
   cases B
   ·(repeat (first|simp only [↓QA,QB,Nat.reduceLT,reduceIte,Nat.reduceEqDiff,Nat.reduceAdd,Nat.reduceLeDiff,Nat.reduceMul,Nat.reduceBEq,cT,hR.len,hR.base,hR.base0,hR.bset,hR.bset0,hR.at1,hR.atq1,a108,hE,heq]|refine rd0 rfl ?_))
    refine rE [.cells [.int .i64 0,.int .i64 0,.int .i64 0]] rfl ?_
    (repeat (first|simp only [↓QA,QB,Nat.reduceLT,reduceIte,Nat.reduceEqDiff,Nat.reduceAdd,Nat.reduceLeDiff,Nat.reduceMul,Nat.reduceBEq,cT,hR.len,hR.base,hR.base0,hR.bset,hR.bset0,hR.at1,hR.atq1,hl1,xE,xH,hlen,htz,hts]|refine rd0 rfl ?_))
    refine bM (hrun _ (hR.at1 _ _)) ?_
    (repeat (first|simp only [↓QA,QB,Nat.reduceLT,reduceIte,Nat.reduceEqDiff,Nat.reduceAdd,Nat.reduceLeDiff,Nat.reduceMul,Nat.reduceBEq,cT,hR.len,hR.base,hR.base0,hR.bset,hR.bset0,hR.at1,hR.atq1,hlen,htz,hts,hput]|refine rd0 rfl ?_))
    refine tail _ _ ?_ ?_ ?_ ?_ ?_ ?_ ?_ ?_ ?_
    all_goals try try simp only [aD,QE,Nat.reduceLT,reduceIte,Nat.reduceEqDiff,Nat.reduceAdd,Nat.reduceLeDiff,Nat.reduceMul,Nat.reduceBEq,cT,hR.len,hR.base,hR.base0,hR.bset,hR.bset0,hR.at1,hR.atq1]
    ·intro hs e' q2 q5 q10
     have hc2:=fun A=>hcal (hP' hs) (x,A)
     rw [hs,if_pos rfl] at hper
     rw [hper,dF]
     (repeat (first|simp only [↓QA,QB,Nat.reduceLT,reduceIte,Nat.reduceEqDiff,Nat.reduceAdd,Nat.reduceLeDiff,Nat.reduceMul,Nat.reduceBEq,cT,hR.len,hR.base,hR.base0,hR.bset,hR.bset0,hR.at1,hR.atq1,q2,q5,q10,hta]|refine rd0 rfl ?_))
     refine .mono (hc2 _ _) fun w hw=>?_
     obtain ⟨hw1,τ',hw2⟩:=hw
     rw [hw1,hw2]
     (repeat (first|simp only [↓QA,QB,Nat.reduceLT,reduceIte,Nat.reduceEqDiff,Nat.reduceAdd,Nat.reduceLeDiff,Nat.reduceMul,Nat.reduceBEq,cT,hR.len,hR.base,hR.base0,hR.bset,hR.bset0,hR.at1,hR.atq1,q2,q5,q10]|refine rd0 rfl ?_))
     exact ⟨rfl,rl c,[.cells (bC 3 (bR CS))]++τ',by simp [iM],fun _=>rfl⟩
    ·intro hs e' τ' q9
     rw [hs] at hper
     simp only [Bool.false_eq_true,if_false] at hper
     rw [hper]
     (repeat (first|simp only [↓QA,QB,Nat.reduceLT,reduceIte,Nat.reduceEqDiff,Nat.reduceAdd,Nat.reduceLeDiff,Nat.reduceMul,Nat.reduceBEq,cT,hR.len,hR.base,hR.base0,hR.bset,hR.bset0,hR.at1,hR.atq1,q9]|refine rd0 rfl ?_))
     exact ⟨rfl,rl c,[.cells (bC 3 (bR CS))]++τ',by simp [Fam.out],fun _=>rfl⟩
   ·rw [Bool.true_and] at hgo
    have hgo':o.isNone=true:=by simpa using hgo
    (repeat (first|simp only [↓QA,QB,Nat.reduceLT,reduceIte,Nat.reduceEqDiff,Nat.reduceAdd,Nat.reduceLeDiff,Nat.reduceMul,Nat.reduceBEq,cT,hR.len,hR.base,hR.base0,hR.bset,hR.bset0,hR.at1,hR.atq1,a108,hE,heq,hgo']|refine rd0 rfl ?_))
    refine rE [.cells [.int .i64 0,.int .i64 0,.int .i64 0]] rfl ?_
    (repeat (first|simp only [↓QA,QB,Nat.reduceLT,reduceIte,Nat.reduceEqDiff,Nat.reduceAdd,Nat.reduceLeDiff,Nat.reduceMul,Nat.reduceBEq,cT,hR.len,hR.base,hR.base0,hR.bset,hR.bset0,hR.at1,hR.atq1,hl1,xE,xH,hlen,htz,hts]|refine rd0 rfl ?_))
    refine bM (hrun _ (hR.at1 _ _)) ?_
    (repeat (first|simp only [↓QA,QB,Nat.reduceLT,reduceIte,Nat.reduceEqDiff,Nat.reduceAdd,Nat.reduceLeDiff,Nat.reduceMul,Nat.reduceBEq,cT,hR.len,hR.base,hR.base0,hR.bset,hR.bset0,hR.at1,hR.atq1,hlen,htz,hts,hput]|refine rd0 rfl ?_))
    refine tail _ _ ?_ ?_ ?_ ?_ ?_ ?_ ?_ ?_ ?_
    all_goals try try simp only [aD,QE,Nat.reduceLT,reduceIte,Nat.reduceEqDiff,Nat.reduceAdd,Nat.reduceLeDiff,Nat.reduceMul,Nat.reduceBEq,cT,hR.len,hR.base,hR.base0,hR.bset,hR.bset0,hR.at1,hR.atq1]
    ·intro hs e' q2 q5 q10
     have hc2:=fun A=>hcal (hP' hs) (x,A)
     rw [hs,if_pos rfl] at hper
     rw [hper,dF]
     (repeat (first|simp only [↓QA,QB,Nat.reduceLT,reduceIte,Nat.reduceEqDiff,Nat.reduceAdd,Nat.reduceLeDiff,Nat.reduceMul,Nat.reduceBEq,cT,hR.len,hR.base,hR.base0,hR.bset,hR.bset0,hR.at1,hR.atq1,q2,q5,q10,hta]|refine rd0 rfl ?_))
     refine .mono (hc2 _ _) fun w hw=>?_
     obtain ⟨hw1,τ',hw2⟩:=hw
     rw [hw1,hw2]
     (repeat (first|simp only [↓QA,QB,Nat.reduceLT,reduceIte,Nat.reduceEqDiff,Nat.reduceAdd,Nat.reduceLeDiff,Nat.reduceMul,Nat.reduceBEq,cT,hR.len,hR.base,hR.base0,hR.bset,hR.bset0,hR.at1,hR.atq1,q2,q5,q10]|refine rd0 rfl ?_))
     exact ⟨rfl,rl c,[.cells (bC 3 (bR CS))]++τ',by simp [iM],fun _=>rfl⟩
    ·intro hs e' τ' q9
     rw [hs] at hper
     simp only [Bool.false_eq_true,if_false] at hper
     rw [hper]
     (repeat (first|simp only [↓QA,QB,Nat.reduceLT,reduceIte,Nat.reduceEqDiff,Nat.reduceAdd,Nat.reduceLeDiff,Nat.reduceMul,Nat.reduceBEq,cT,hR.len,hR.base,hR.base0,hR.bset,hR.bset0,hR.at1,hR.atq1,q9]|refine rd0 rfl ?_))
     exact ⟨rfl,rl c,[.cells (bC 3 (bR CS))]++τ',by simp [Fam.out],fun _=>rfl⟩
end Go.Am.Room
set_option maxRecDepth 8000
namespace Go.Am.Room
def cJ:=And.intro @aZ (And.intro @aK (And.intro @aR (And.intro @aT (And.intro @aS (And.intro @aQ (And.intro @aY (And.intro @aW (And.intro @aV (And.intro @dL (And.intro @dR (And.intro @Nat.not_lt_zero (And.intro @List.length_append.{0} (And.intro @Nat.zero_add (And.intro @Nat.mul_one (And.intro @Int.toNat_natCast (And.intro @dO (And.intro @eR (And.intro @eQ (And.intro @jY (And.intro @eN (And.intro @gB (And.intro @gE (And.intro @gC (And.intro @gG (And.intro @gH (And.intro @gD (And.intro @Nat.add_lt_add_iff_left (And.intro @Nat.lt_add_right_iff_pos (And.intro @nC (And.intro @m8 (And.intro @xT (@zE))))))))))))))))))))))))))))))))
theorem TI (k:Nat):RH k = .func (if k=0 then 116 else if k=1 then 117 else 118) [] []:=by
 unfold RH;split
 ·rfl
 ·split<;>rfl
def pE (v:Net) (r:Rail) (rs:List Rail) (l:List Int) (n:Int):List (List Int):=(if r.shut=1 then [] else aO n (r.mins.hi+1-n).toNat).flatMap fun n=>eY rs (l++[n])
def fY (r:Rail):List AV:=[.int .i64 r.a,.int .i64 r.b,.int .i64 r.mins.lo,.int .i64 r.mins.hi,.int .i64 r.shut]
theorem cP (r:Rail):fY r=[.int .i64 r.a,.int .i64 r.b,.int .i64 r.mins.lo,.int .i64 r.mins.hi,.int .i64 r.shut]:=by simp only [fY]
def aCK {X:Type} (Zp ZDp:X×List K5→St) (F:List Int→X×List K5→(X×List K5)×Bool) (v:Net) (q id N:Nat) (l:List Int) (r:Rail) (rs:List Rail) (τ:St) (R:(Option (List Int)×(X×List K5))×Bool) (k:Nat) (e:Env) (σ:St):Prop :=
 Env.get e 0 = .int .i64 l.length∧Env.get e 2 = .ptr (N+1) 0∧Env.get e 6 = .ptr (N+4) 0∧Env.get e 7 = .ptr (N+5) 0∧Env.get e 14 = .ptr (N+(τ.length+1+1+1+1+1+1)) 0∧∃ n o y c τ2,Env.get e 15 = .int .i64 n∧r.mins.lo≤n∧n≤r.mins.hi+1∧k=(r.mins.hi+1-n).toNat∧(∀ u,o=some u→u.length=v.rails.length) ∧
   σ=Zp y++(iM id q N o (k7 (rl l) l.length c)++(τ++(.cells (fY r)::τ2)))∧bJ (iN F) (pE v r rs l n) (o,y)=R
theorem F4 {X:Type} {Zp ZDp:X×List K5→St} {v:Net} {b p m q N:Nat} {bl:List Int} (hR:Fam Zp ZDp (db v b m) p q N) (hS:∀ x,MemAt (fun A=>Zp (x,A)) (db v b m) (tEs v) p m N) (hv:Vd v) (hb:ButIs b bl) {id:Nat} {P:List Int→Prop} {f:List Int→X→X×Bool} (hy:DH Zp ZDp id v P f) (hP:∀ c,LeafOk v c→o9 v bl c=true→P c) :
  ∀ (rs:List Rail) (l:List Int) (o:Option (List Int)) (y:X×List K5) (τ:St),rs=v.rails.drop l.length→l.length≤v.rails.length→(∀ i,i<l.length→0≤rl l i∧rl l i≤20)→(∀ u,o=some u→u.length=v.rails.length) →
   Run T (.callv (BE q N) [.int .i64 l.length] (Zp y++(iM id q N o (rl l)++τ))) (AN Zp ZDp id q N l τ (bJ (iN (kR v bl f)) (eY rs l) (o,y)))
 |[],l,o,y,τ,hrs,hl,hbd,ho=>by
  have hl2:l.length=v.rails.length:=by
   have:=congrArg List.length hrs
   simp at this
   omega
  simp only [eY,MF]
  refine PE hR hS hv hb hy l ⟨hl2,fun r h0 h1=>?_⟩ (hP l ⟨hl2,fun r h0 h1=>?_⟩) o ho y τ
  all_goals
   have:=hbd r.toNat (by omega)
   simpa [rlI,rl] using this
 |r::rs,l,o,y,τ,hrs,hl,hbd,ho=>by
  have hlt:l.length<v.rails.length:=by
   have:=congrArg List.length hrs
   simp at this
   omega
  have hnr:=hv.nra
  have hdr:=List.drop_eq_getElem_cons hlt
  rw [←hrs] at hdr
  have hs:v.rails[l.length]=r:=by have:=(List.cons.inj hdr).1;exact this.symm
  have hrs2:rs=v.rails.drop (l.length+1):=(List.cons.inj hdr).2
  have hra:=hv.ra _ (List.getElem_mem hlt)
  rw [hs] at hra
  have hmi:=hra.mins
  have hsh:=hra.shut
  obtain ⟨S,hS2⟩:∃ S:Nat,r.shut=(S:Int):=⟨r.shut.toNat,by omega⟩
  have hS3:S<3:=by omega
  have hE:((l.length:Int)==(v.rails.length:Int))=false:=by simp;omega
  have i5:(0:Int)≤(l.length:Int)∧(l.length:Int)<((5:Nat):Int):=⟨by omega,by omega⟩
  have c5:l.length+1≤5:=by omega
  have iS:(0:Int)≤(S:Int)∧(S:Int)<((3:Nat):Int):=⟨by omega,by omega⟩
  have hcg:=QK hS3
  have hct:=fun σ=>BD S hS3 true σ
  have hcf:=fun σ=>BD S hS3 false σ
  have hc1:C8 (S:Int) true = !decide (S=0):=by
   have:((S:Int)=0)=(S=0):=by rw [eq_iff_iff];omega
   simp [C8]
  have hc2:C8 (S:Int) false = !decide (S=1):=by
   have:((S:Int)=1)=(S=1):=by rw [eq_iff_iff];omega
   simp [C8];omega
  rw [hc1] at hct
  rw [hc2] at hcf
  have hcE:=TI S
  obtain ⟨CF,hCF⟩:∃ CF,(if S=0 then 116 else if S=1 then 117 else 118)=CF:=⟨_,rfl⟩
  rw [hCF] at hcE
  rw [hcE] at hcg
  simp only [hcE] at hct hcf
  have hwd:IntKind.i64.wrap ((l.length:Int)+1)=((l.length+1:Nat):Int):=cM hlt (by omega)
  have ih:=fun (n:Int) (hn:0≤n∧n≤20) (o:Option (List Int)) (y:X×List K5) (τ:St) (ho:∀ u,o=some u→u.length=v.rails.length)=>F4 hR hS hv hb hy hP rs (l++[n]) o y τ (by rw [hrs2];simp) (by simp;omega) (fun i hi=>by
   rw [CL]
   simp only [k7]
   by_cases e:i=l.length
   ·subst e
    rw [if_pos rfl]
    exact hn
   ·rw [if_neg e]
    exact hbd i (by simp at hi;omega)) ho
  obtain ⟨F,hF⟩:∃ F,kR v bl f=F:=⟨_,rfl⟩
  rw [hF] at ih ⊢
  obtain ⟨R,hRR⟩:∃ R,bJ (iN F) (eY (r::rs) l) (o,y)=R:=⟨_,rfl⟩
  rw [hRR]
  have hsplit:eY (r::rs) l=(if S=0 then [] else eY rs (l++[0]))++pE v r rs l r.mins.lo:=by
   have e0:(r.shut=0)=(S=0):=by rw [eq_iff_iff];omega
   simp only [eY,chP,List.flatMap_append,pE,yG,e0]
   congr 1
   split<;>simp
  rw [hsplit,vR] at hRR
  have hht:∀ (y:X×List K5) (b0 b1 b2 b3 b4 b5:ABlk) (cs:List AV) (τ2:St),aG (Zp y++(b0::b1::b2::b3::b4::b5::(τ++(.cells cs::τ2)))) (N+(τ.length+1+1+1+1+1+1))=some cs:=fun y b0 b1 b2 b3 b4 b5 cs τ2=>by
   rw [hR.base]
   simp only [pG]
   rw [iH];rfl
  have hlen:∀ (y:X×List K5),(Zp y).length=N:=hR.len
  simp only [yL]
  refine .callf (.call (af:=a108) rfl (by simp [a108]) (gK (K:=fun j e σ'=>(j=none∨j=some .ret)∧AN Zp ZDp id q N l τ R ⟨none,[],σ',Env.get e 9⟩) ?_ fun o ho=>ho) fun w hw=>⟨hw.1,_,rfl,.inl hw.2⟩)
  have hst0:=pN 5 (rl l) 0 (show l.length<5 by omega)
  rw [uG] at hst0
  rw [dF]
  -- the loop over minutes
  have loop:∀ (e:Env) (K:KJ) (y:X×List K5) (o:Option (List Int)) (τ2:St),(∀ u,o=some u→u.length=v.rails.length)→Env.get e 0 = .int .i64 l.length→Env.get e 2 = .ptr (N+1) 0→Env.get e 6 = .ptr (N+4) 0→Env.get e 7 = .ptr (N+5) 0→Env.get e 14 = .ptr (N+(τ.length+1+1+1+1+1+1)) 0→Env.get e 15 = .int .i64 r.mins.lo→bJ (iN F) (pE v r rs l r.mins.lo) (o,y)=R →
    (∀ e' y' o' τ2 c,Env.get e' 0 = .int .i64 l.length→Env.get e' 2 = .ptr (N+1) 0→R=((o',y'),true)→K (some (.exit 2)) e' (Zp y'++(iM id q N o' (k7 (rl l) l.length c)++(τ++(.cells (fY r)::τ2))))) →
    (∀ e' A τ2,Env.get e' 9 = .bool false→R.2=false→K (some .ret) e' (Fam.out Zp ZDp (R.1.2,R.2)++(iM id q N R.1.1 A++(τ++(.cells (fY r)::τ2))))) →
    rK (K:=⟨K⟩) T (.loop yS) e (Zp y++(iM id q N o (rl l)++(τ++(.cells (fY r)::τ2)))):=by
   intro e K y o τ2 ho e0 e2 e6 e7 e14 e15 hq hKx hKf
   refine aAQ (aCK Zp ZDp F v q id N l r rs τ R) ?_ (r.mins.hi+1-r.mins.lo).toNat _ _ ?_
   ·rintro k e σ ⟨e0,e2,e6,e7,e14,n,o,y,c,τ2,e15,hn0,hn1,hk,ho,rfl,hq⟩
    subst hk
    have hst:=pN 5 (k7 (rl l) l.length c) n (show l.length<5 by omega)
    rw [uR,←CL l n] at hst
    rw [dF]
    cases hle:decide (n≤r.mins.hi)
    ·have hn2:¬n≤r.mins.hi:=by simpa using hle
     have hrn:pE v r rs l n=[]:=by
      rw [pE,NM hn2];simp
     rw [hrn] at hq
     simp only [bJ] at hq
     (repeat (first|simp only [↓QA,QB,Nat.reduceLT,reduceIte,Nat.reduceEqDiff,Nat.reduceAdd,Nat.reduceLeDiff,Nat.reduceMul,Nat.reduceBEq,cJ,hR.len,hR.base,hR.base0,hR.bset,hR.bset0,hR.at1,hR.atq1,yS,e0,e2,e6,e7,e14,e15,hht,cP,hle]|refine rd0 rfl ?_))
     have:=fun e'=>hKx e' y o τ2 c
     simp only [dF,cP] at this
     refine this _ ?_ ?_ hq.symm
     all_goals try simp only [aD,QE,Nat.reduceLT,reduceIte,Nat.reduceEqDiff,Nat.reduceAdd,Nat.reduceLeDiff,Nat.reduceMul,Nat.reduceBEq,cJ,hR.len,hR.base,hR.base0,hR.bset,hR.bset0,hR.at1,hR.atq1,e0,e2]
    ·have hn2:n≤r.mins.hi:=by simpa using hle
     by_cases hS1:S=1
     ·have hrn:pE v r rs l n=[]:=by
       rw [pE,if_pos (by omega)];simp
      rw [hrn] at hq
      simp only [bJ] at hq
      have hd1:(!decide (S=1))=false:=by simp [hS1]
      rw [hd1] at hcf
      (repeat (first|simp only [↓QA,QB,Nat.reduceLT,reduceIte,Nat.reduceEqDiff,Nat.reduceAdd,Nat.reduceLeDiff,Nat.reduceMul,Nat.reduceBEq,cJ,hR.len,hR.base,hR.base0,hR.bset,hR.bset0,hR.at1,hR.atq1,yS,e0,e2,e6,e7,e14,e15,hht,cP,hle,hS2,iS,hcg,Nat.add_zero]|refine rd0 rfl ?_))
      refine bM (hcf _) ?_
      (repeat (first|simp only [↓QA,QB,Nat.reduceLT,reduceIte,Nat.reduceEqDiff,Nat.reduceAdd,Nat.reduceLeDiff,Nat.reduceMul,Nat.reduceBEq,cJ,hR.len,hR.base,hR.base0,hR.bset,hR.bset0,hR.at1,hR.atq1,e0,e2,e6,e7,e14,e15]|refine rd0 rfl ?_))
      have:=fun e'=>hKx e' y o τ2 c
      simp only [dF,cP,hS2] at this
      refine this _ ?_ ?_ hq.symm
      all_goals try simp only [aD,QE,Nat.reduceLT,reduceIte,Nat.reduceEqDiff,Nat.reduceAdd,Nat.reduceLeDiff,Nat.reduceMul,Nat.reduceBEq,cJ,hR.len,hR.base,hR.base0,hR.bset,hR.bset0,hR.at1,hR.atq1,e0,e2]
     ·have hd1:(!decide (S=1))=true:=by simp [hS1]
      rw [hd1] at hcf
      have hrn:pE v r rs l n=eY rs (l++[n])++pE v r rs l (n+1):=by
       rw [pE,pE,if_neg (by omega),if_neg (by omega),K9 hn2,List.flatMap_cons]
      rw [hrn,vR] at hq
      have hwn:IntKind.i64.wrap (n+1)=n+1:=dZ ⟨by omega,by omega⟩
      have hc:=ih n ⟨by omega,by omega⟩ o y (τ++(.cells (fY r)::τ2)) ho
      simp only [dF,cP,hS2,List.length_append,List.length_cons,List.length_nil,Nat.zero_add] at hc
      obtain ⟨r1,hr1⟩:∃ r1,bJ (iN F) (eY rs (l++[n])) (o,y)=r1:=⟨_,rfl⟩
      rw [hr1] at hq hc
      (repeat (first|simp only [↓QA,QB,Nat.reduceLT,reduceIte,Nat.reduceEqDiff,Nat.reduceAdd,Nat.reduceLeDiff,Nat.reduceMul,Nat.reduceBEq,cJ,hR.len,hR.base,hR.base0,hR.bset,hR.bset0,hR.at1,hR.atq1,yS,e0,e2,e6,e7,e14,e15,hht,cP,hle,hS2,iS,hcg,Nat.add_zero]|refine rd0 rfl ?_))
      refine bM (hcf _) ?_
      (repeat (first|simp only [↓QA,QB,Nat.reduceLT,reduceIte,Nat.reduceEqDiff,Nat.reduceAdd,Nat.reduceLeDiff,Nat.reduceMul,Nat.reduceBEq,cJ,hR.len,hR.base,hR.base0,hR.bset,hR.bset0,hR.at1,hR.atq1,e0,e2,e6,e7,e14,e15,i5,c5,hst,hwd]|refine rd0 rfl ?_))
      refine .mono hc fun w hw=>?_
      obtain ⟨hw1,A,τ',hw2,hw3⟩:=hw
      rw [hw1,hw2]
      cases hr2:r1.2
      ·rw [hr2] at hq
       simp only [Bool.false_eq_true,if_false] at hq
       (repeat (first|simp only [↓QA,QB,Nat.reduceLT,reduceIte,Nat.reduceEqDiff,Nat.reduceAdd,Nat.reduceLeDiff,Nat.reduceMul,Nat.reduceBEq,cJ,hR.len,hR.base,hR.base0,hR.bset,hR.bset0,hR.at1,hR.atq1,e0,e2,e6,e7,e14,e15]|refine rd0 rfl ?_))
       subst hq
       have hKf':=fun e'=>hKf e' A (τ2++τ')
       simp only [cP,hS2] at hKf'
       first|exact hKf' _ (by try simp only [aD,QE,Nat.reduceLT,reduceIte,Nat.reduceEqDiff,Nat.reduceAdd,Nat.reduceLeDiff,Nat.reduceMul,Nat.reduceBEq,cJ,hR.len,hR.base,hR.base0,hR.bset,hR.bset0,hR.at1,hR.atq1]) trivial|exact hKf' _ (by try simp only [aD,QE,Nat.reduceLT,reduceIte,Nat.reduceEqDiff,Nat.reduceAdd,Nat.reduceLeDiff,Nat.reduceMul,Nat.reduceBEq,cJ,hR.len,hR.base,hR.base0,hR.bset,hR.bset0,hR.at1,hR.atq1]) rfl|exact hKf' _ (by try simp only [aD,QE,Nat.reduceLT,reduceIte,Nat.reduceEqDiff,Nat.reduceAdd,Nat.reduceLeDiff,Nat.reduceMul,Nat.reduceBEq,cJ,hR.len,hR.base,hR.base0,hR.bset,hR.bset0,hR.at1,hR.atq1])
      ·rw [hr2] at hq
       simp only [if_true] at hq
       have hA:=hw3 hr2
       rw [hA]
       simp only [Fam.out,if_true]
       rw [dF]
       (repeat (first|simp only [↓QA,QB,Nat.reduceLT,reduceIte,Nat.reduceEqDiff,Nat.reduceAdd,Nat.reduceLeDiff,Nat.reduceMul,Nat.reduceBEq,cJ,hR.len,hR.base,hR.base0,hR.bset,hR.bset0,hR.at1,hR.atq1,e0,e2,e6,e7,e14,e15,hwn]|refine rd0 rfl ?_))
       refine ⟨(r.mins.hi+1-(n+1)).toNat,by omega,?_,?_,?_,?_,?_,n+1,r1.1.1,r1.1.2,n,τ2++τ',?_,by omega,by omega,rfl,fun u hu=>?_,?_,hq⟩
       ·try simp only [aD,QE,Nat.reduceLT,reduceIte,Nat.reduceEqDiff,Nat.reduceAdd,Nat.reduceLeDiff,Nat.reduceMul,Nat.reduceBEq,cJ,hR.len,hR.base,hR.base0,hR.bset,hR.bset0,hR.at1,hR.atq1,e0]
       ·try simp only [aD,QE,Nat.reduceLT,reduceIte,Nat.reduceEqDiff,Nat.reduceAdd,Nat.reduceLeDiff,Nat.reduceMul,Nat.reduceBEq,cJ,hR.len,hR.base,hR.base0,hR.bset,hR.bset0,hR.at1,hR.atq1,e2]
       ·try simp only [aD,QE,Nat.reduceLT,reduceIte,Nat.reduceEqDiff,Nat.reduceAdd,Nat.reduceLeDiff,Nat.reduceMul,Nat.reduceBEq,cJ,hR.len,hR.base,hR.base0,hR.bset,hR.bset0,hR.at1,hR.atq1,e6]
       ·try simp only [aD,QE,Nat.reduceLT,reduceIte,Nat.reduceEqDiff,Nat.reduceAdd,Nat.reduceLeDiff,Nat.reduceMul,Nat.reduceBEq,cJ,hR.len,hR.base,hR.base0,hR.bset,hR.bset0,hR.at1,hR.atq1,e7]
       ·try simp only [aD,QE,Nat.reduceLT,reduceIte,Nat.reduceEqDiff,Nat.reduceAdd,Nat.reduceLeDiff,Nat.reduceMul,Nat.reduceBEq,cJ,hR.len,hR.base,hR.base0,hR.bset,hR.bset0,hR.at1,hR.atq1,e14]
       ·try simp only [aD,QE,Nat.reduceLT,reduceIte,Nat.reduceEqDiff,Nat.reduceAdd,Nat.reduceLeDiff,Nat.reduceMul,Nat.reduceBEq,cJ,hR.len,hR.base,hR.base0,hR.bset,hR.bset0,hR.at1,hR.atq1]
       ·rw [←hr1] at hu
        rcases uS F _ o y u hu with h|h
        ·exact ho u h
        ·have:=AI h
         have hlr:l.length+1+rs.length=v.rails.length:=by rw [hrs2];simp;omega
         simp at this
         omega
       ·rw [dF,CL,cP,hS2]
        try simp
   ·refine ⟨e0,e2,e6,e7,e14,r.mins.lo,o,y,0,τ2,e15,Int.le_refl _,by omega,rfl,ho,?_,hq⟩
    rw [uG]
  have fin:∀ (y:X×List K5) (o:Option (List Int)) (τ2:St),R=((o,y),true)→AN Zp ZDp id q N l τ R ⟨none,[],Zp y++(iM id q N o (rl l)++(τ++(.cells (fY r)::τ2))),.bool true⟩:=fun y o τ2 hq=>by
   rw [hq]
   exact ⟨rfl,rl l,.cells (fY r)::τ2,by simp [Fam.out],fun _=>rfl⟩
  by_cases hS0:S=0
  ·have hd0:(!decide (S=0))=false:=by simp [hS0]
   rw [hd0] at hct
   rw [if_pos hS0] at hRR
   simp only [bJ,if_true] at hRR
   (repeat (first|simp only [↓QA,QB,Nat.reduceLT,reduceIte,Nat.reduceEqDiff,Nat.reduceAdd,Nat.reduceLeDiff,Nat.reduceMul,Nat.reduceBEq,cJ,hR.len,hR.base,hR.base0,hR.bset,hR.bset0,hR.at1,hR.atq1,a108,hE,hlt,hs,hlen,hS2,hht,iS,hcg,Nat.add_zero]|refine rd0 rfl ?_))
   refine bM (hct _) ?_
   (repeat (first|simp only [↓QA,QB,Nat.reduceLT,reduceIte,Nat.reduceEqDiff,Nat.reduceAdd,Nat.reduceLeDiff,Nat.reduceMul,Nat.reduceBEq,cJ,hR.len,hR.base,hR.base0,hR.bset,hR.bset0,hR.at1,hR.atq1,hht]|refine rd0 rfl ?_))
   have lp:=fun e K=>loop e K y o [] ho
   simp only [dF,cP,hS2] at lp
   refine lp _ _ ?_ ?_ ?_ ?_ ?_ ?_ hRR ?_ ?_
   all_goals try try simp only [aD,QE,Nat.reduceLT,reduceIte,Nat.reduceEqDiff,Nat.reduceAdd,Nat.reduceLeDiff,Nat.reduceMul,Nat.reduceBEq,cJ,hR.len,hR.base,hR.base0,hR.bset,hR.bset0,hR.at1,hR.atq1]
   ·intro e' y' o' τ2 c q0 q2 hq
    have hst0:=pN 5 (k7 (rl l) l.length c) 0 (show l.length<5 by omega)
    rw [uR,uG] at hst0
    have fn:=fin y' o' τ2 hq
    simp only [dF,cP,hS2] at fn
    (repeat (first|simp only [↓QA,QB,Nat.reduceLT,reduceIte,Nat.reduceEqDiff,Nat.reduceAdd,Nat.reduceLeDiff,Nat.reduceMul,Nat.reduceBEq,cJ,hR.len,hR.base,hR.base0,hR.bset,hR.bset0,hR.at1,hR.atq1,q0,q2,i5,c5,hst0]|refine rd0 rfl ?_))
    exact fn
   ·intro e' A τ2 q9 hq
    (repeat (first|simp only [↓QA,QB,Nat.reduceLT,reduceIte,Nat.reduceEqDiff,Nat.reduceAdd,Nat.reduceLeDiff,Nat.reduceMul,Nat.reduceBEq,cJ,hR.len,hR.base,hR.base0,hR.bset,hR.bset0,hR.at1,hR.atq1,q9]|refine rd0 rfl ?_))
    exact ⟨by rw [hq],A,_,rfl,fun h=>by rw [hq] at h;cases h⟩
  ·have hd0:(!decide (S=0))=true:=by simp [hS0]
   rw [hd0] at hct
   rw [if_neg hS0] at hRR
   have hc:=ih 0 ⟨by omega,by omega⟩ o y (τ++[.cells (fY r)]) ho
   have hr0:rl (l++[0])=rl l:=by rw [CL,uG]
   rw [hr0] at hc
   simp only [dF,cP,hS2,List.length_append,List.length_cons,List.length_nil,Nat.zero_add] at hc
   obtain ⟨r1,hr1⟩:∃ r1,bJ (iN F) (eY rs (l++[0])) (o,y)=r1:=⟨_,rfl⟩
   rw [hr1] at hRR hc
   (repeat (first|simp only [↓QA,QB,Nat.reduceLT,reduceIte,Nat.reduceEqDiff,Nat.reduceAdd,Nat.reduceLeDiff,Nat.reduceMul,Nat.reduceBEq,cJ,hR.len,hR.base,hR.base0,hR.bset,hR.bset0,hR.at1,hR.atq1,a108,hE,hlt,hs,hlen,hS2,hht,iS,hcg,Nat.add_zero]|refine rd0 rfl ?_))
   refine bM (hct _) ?_
   (repeat (first|simp only [↓QA,QB,Nat.reduceLT,reduceIte,Nat.reduceEqDiff,Nat.reduceAdd,Nat.reduceLeDiff,Nat.reduceMul,Nat.reduceBEq,cJ,hR.len,hR.base,hR.base0,hR.bset,hR.bset0,hR.at1,hR.atq1,hht,i5,c5,hst0,hwd]|refine rd0 rfl ?_))
   refine .mono hc fun w hw=>?_
   obtain ⟨hw1,A,τ',hw2,hw3⟩:=hw
   rw [hw1,hw2]
   cases hr2:r1.2
   ·rw [hr2] at hRR
    simp only [Bool.false_eq_true,if_false] at hRR
    (repeat (first|simp only [↓QA,QB,Nat.reduceLT,reduceIte,Nat.reduceEqDiff,Nat.reduceAdd,Nat.reduceLeDiff,Nat.reduceMul,Nat.reduceBEq,cJ,hR.len,hR.base,hR.base0,hR.bset,hR.bset0,hR.at1,hR.atq1]|refine rd0 rfl ?_))
    rw [←hRR]
    exact ⟨rfl,A,.cells (fY r)::τ',by simp [cP,hS2],fun h=>by cases h⟩
   ·rw [hr2] at hRR
    simp only [if_true] at hRR
    have hA:=hw3 hr2
    rw [hr0] at hA
    rw [hA]
    simp only [Fam.out,if_true]
    have ho1:∀ u,r1.1.1=some u→u.length=v.rails.length:=fun u hu=>by
     rw [←hr1] at hu
     rcases uS F _ o y u hu with h|h
     ·exact ho u h
     ·have:=AI h
      have hlr:l.length+1+rs.length=v.rails.length:=by rw [hrs2];simp;omega
      simp at this
      omega
    rw [dF]
    (repeat (first|simp only [↓QA,QB,Nat.reduceLT,reduceIte,Nat.reduceEqDiff,Nat.reduceAdd,Nat.reduceLeDiff,Nat.reduceMul,Nat.reduceBEq,cJ,hR.len,hR.base,hR.base0,hR.bset,hR.bset0,hR.at1,hR.atq1,hht]|refine rd0 rfl ?_))
    have lp:=fun e K=>loop e K r1.1.2 r1.1.1 τ' ho1
    simp only [dF,cP,hS2] at lp
    refine lp _ _ ?_ ?_ ?_ ?_ ?_ ?_ hRR ?_ ?_
    all_goals try try simp only [aD,QE,Nat.reduceLT,reduceIte,Nat.reduceEqDiff,Nat.reduceAdd,Nat.reduceLeDiff,Nat.reduceMul,Nat.reduceBEq,cJ,hR.len,hR.base,hR.base0,hR.bset,hR.bset0,hR.at1,hR.atq1]
    ·intro e' y' o' τ2 c q0 q2 hq
     have hst0:=pN 5 (k7 (rl l) l.length c) 0 (show l.length<5 by omega)
     rw [uR,uG] at hst0
     have fn:=fin y' o' τ2 hq
     simp only [dF,cP,hS2] at fn
     (repeat (first|simp only [↓QA,QB,Nat.reduceLT,reduceIte,Nat.reduceEqDiff,Nat.reduceAdd,Nat.reduceLeDiff,Nat.reduceMul,Nat.reduceBEq,cJ,hR.len,hR.base,hR.base0,hR.bset,hR.bset0,hR.at1,hR.atq1,q0,q2,i5,c5,hst0]|refine rd0 rfl ?_))
     exact fn
    ·intro e' A τ2 q9 hq
     (repeat (first|simp only [↓QA,QB,Nat.reduceLT,reduceIte,Nat.reduceEqDiff,Nat.reduceAdd,Nat.reduceLeDiff,Nat.reduceMul,Nat.reduceBEq,cJ,hR.len,hR.base,hR.base0,hR.bset,hR.bset0,hR.at1,hR.atq1,q9]|refine rd0 rfl ?_))
     exact ⟨by rw [hq],A,_,rfl,fun h=>by rw [hq] at h;cases h⟩
end Go.Am.Room
set_option maxRecDepth 8000
namespace Go.Am.Room
def jL:=And.intro @aZ (And.intro @aK (And.intro @aR (And.intro @aT (And.intro @aS (And.intro @aQ (And.intro @aY (And.intro @aW (And.intro @aV (And.intro @dL (And.intro @dR (And.intro @Nat.not_lt_zero (And.intro @List.length_append.{0} (And.intro @Nat.zero_add (And.intro @Nat.mul_one (And.intro @Int.toNat_natCast (And.intro @dO (And.intro @eR (And.intro @eQ (And.intro @jY (And.intro @eN (And.intro @gB (And.intro @gE (And.intro @gC (And.intro @gG (And.intro @gH (And.intro @gD (And.intro @Nat.add_lt_add_iff_left (And.intro @Nat.lt_add_right_iff_pos (And.intro @nC (@m8))))))))))))))))))))))))))))))
def eO {X:Type} (v:Net) (bl:List Int) (f:List Int→X→X×Bool) (x:X) (A:List K5):(X×List K5)×Bool:=bJ (kR v bl f) (eY v.rails []) (x,A)
theorem KC {X:Type} {Zp ZDp:X×List K5→St} {v:Net} {b p m q N:Nat} {bl:List Int} (hR:Fam Zp ZDp (db v b m) p q N) (hS:∀ x,MemAt (fun A=>Zp (x,A)) (db v b m) (tEs v) p m N) (hv:Vd v) (hb:ButIs b bl) {id:Nat} {P:List Int→Prop} {f:List Int→X→X×Bool} (hy:DH Zp ZDp id v P f) (hP:∀ c,LeafOk v c→o9 v bl c=true→P c) (y:X×List K5) :
  Run T (.call 106 [.yield id,.ptr q 0] (Zp y)) fun o=>∃ τ',o.σ=Fam.out Zp ZDp (bJ (kR v bl f) (eY v.rails []) y)++τ':=by
 have hn:=F4 hR hS hv hb hy hP v.rails [] none y [] (by simp) (by simp) (fun i hi=>by simp at hi) (fun u hu=>by cases hu)
 have hl:=hR.len y
 have hz:[AV.int .i64 0,.int .i64 0,.int .i64 0,.int .i64 0,.int .i64 0]=bC 5 (rl []):=by simp [bC,rl,List.range_succ]
 obtain ⟨ho1,ho2⟩:=zN (kR v bl f) (eY v.rails []) none y (D0 _ _ (fun r hr=>(hv.ra r hr).mins.1)) (fun a _ h=>by cases h)
 have hend:∀ w,AN Zp ZDp id q N [] [] (bJ (iN (kR v bl f)) (eY v.rails []) (none,y)) w→∃ τ',w.σ=Fam.out Zp ZDp (bJ (kR v bl f) (eY v.rails []) y)++τ':=by
  rintro w ⟨_,A,τ',h2,_⟩
  refine ⟨iM id q N (bJ (iN (kR v bl f)) (eY v.rails []) (none,y)).1.1 A++([]++τ'),?_⟩
  rw [h2,show ((bJ (iN (kR v bl f)) (eY v.rails []) (none,y)).1.2,(bJ (iN (kR v bl f)) (eY v.rails []) (none,y)).2)=bJ (kR v bl f) (eY v.rails []) y from Prod.ext ho1 ho2]
 rw [dF,yL] at hn
 simp only [List.length_nil,Option.getD_none,Option.isNone_none] at hn
 refine .call (af:=a106) rfl (by simp [a106]) (gK (K:=fun j e σ'=>(j=none∨j=some .ret)∧∃ τ',σ'=Fam.out Zp ZDp (bJ (kR v bl f) (eY v.rails []) y)++τ') ?_ fun o ho=>ho) fun o ho=>⟨ho.1,_,rfl,.inl ho.2⟩
 (repeat (first|simp only [↓QA,QB,Nat.reduceLT,reduceIte,Nat.reduceEqDiff,Nat.reduceAdd,Nat.reduceLeDiff,Nat.reduceMul,Nat.reduceBEq,jL,hR.len,hR.base,hR.base0,hR.bset,hR.bset0,hR.at1,hR.at0,a106,hl,hz]|refine rd0 rfl ?_))
 refine bM (II _) ?_
 (repeat (first|simp only [↓QA,QB,Nat.reduceLT,reduceIte,Nat.reduceEqDiff,Nat.reduceAdd,Nat.reduceLeDiff,Nat.reduceMul,Nat.reduceBEq,jL,hR.len,hR.base,hR.base0,hR.bset,hR.bset0,hR.at1,hR.at0,hl,hz,qD]|refine rd0 rfl ?_))
 simp only [qD] at hn
 refine .mono hn fun w hw=>?_
 have:=hend w hw
 (repeat (first|simp only [↓QA,QB,Nat.reduceLT,reduceIte,Nat.reduceEqDiff,Nat.reduceAdd,Nat.reduceLeDiff,Nat.reduceMul,Nat.reduceBEq,jL,hR.len,hR.base,hR.base0,hR.bset,hR.bset0,hR.at1,hR.at0]|refine rd0 rfl ?_))
 exact this
theorem YX {X M:Type} {Z ZD:X→M→St} {obj:List AV} {es:M→List (AV×AV)} {p m q N:Nat} (h:Fam1 Z ZD obj es p m q N):Fam (fun y:X×M=>Z y.1 y.2) (fun y=>ZD y.1 y.2) obj p q N :=
 ⟨fun y=>(h.ship y.1).len y.2,fun y=>h.lenD y.1 y.2,fun y=>(h.ship y.1).at0 y.2,fun y=>h.atq0 y.1 y.2,fun x y k i hk hi=>h.keep _ _ _ _ k i hk hi,fun x y k i hk hi=>h.keepD _ _ _ _ k i hk hi,h.pl,h.ql⟩
theorem v8 {X:Type} {Z ZD:X→List K5→St} {v:Net} {b p m q N:Nat} {bl:List Int} (hF:Fam1 Z ZD (db v b m) (tEs v) p m q N) (hv:Vd v) (hb:ButIs b bl) {id:Nat} {P:List Int→Prop} {f:List Int→X→X×Bool} (hy:uU Z ZD id (nX v) P f) (hP:∀ c,LeafOk v c→o9 v bl c=true→P c) (x:X) (A:List K5) :
  Run T (.call 106 [.yield id,.ptr q 0] (Z x A)) fun o=>∃ τ',o.σ=Fam1.out Z ZD ((eO v bl f x A).1.1,(eO v bl f x A).2) (eO v bl f x A).1.2++τ' :=
 KC (YX hF) (fun x=>hF.ship x) hv hb (f:=f) (fun t ht x τ=>hy t ht false none x.1 x.2 τ) hP (x,A)
theorem sB {X:Type} (v:Net) (bl:List Int) (f:List Int→X→X×Bool) (x:X) (A:List K5):((eO v bl f x A).1.1,(eO v bl f x A).2)=bJ f (TL v bl) x:=by
 have key:∀ (l:List (List Int)) (x:X) (A:List K5),((bJ (kR v bl f) l (x,A)).1.1,(bJ (kR v bl f) l (x,A)).2)=bJ f (l.filter (o9 v bl)) x:=by
  intro l
  induction l with
  |nil=>intro x A;rfl
  |cons c l ih =>
   intro x A
   simp only [bJ,List.filter_cons]
   cases h:o9 v bl c
   ·have hp:kR v bl f c (x,A)=((x,mH A (pad c)),true):=by simp only [kR,h,Bool.false_eq_true,if_false]
    rw [hp]
    simp only [if_true,Bool.false_eq_true,if_false]
    exact ih x _
   ·have hp:kR v bl f c (x,A)=(((f c x).1,mH A (pad c)),(f c x).2):=by simp only [kR,h,if_true]
    rw [hp]
    simp only [if_true,bJ]
    split
    ·exact ih _ _
    ·rfl
 exact key _ x A
def TOk (v:Net) (bl c:List Int):Prop:=LeafOk v c∧o9 v bl c=true
theorem lH {X:Type} {S:List K5→St} {v:Net} {b p m N:Nat} {bl:List Int} (hS:MemAt S (db v b m) (tEs v) p m N) (hv:Vd v) (hb:ButIs b bl) (U UD:X→St) (n:Nat) (hU:∀ x,(U x).length=n) (hUD:∀ x,(UD x).length=n) (ok:∀ x y,y∈U x→∀ k,N≤k→aN k y) (okD:∀ x y,y∈UD x→∀ k,N≤k→aN k y)
  (J:AJump) {f:List Int→X→X×Bool} (e:Env) (k:Nat) (ps:List Nat) (a bb:ACode) (ek:Env.get e k = .func 106 [] [.ptr (N+n) 0])
  (hy:uU (fun x B=>S B++(U x++[.cells [.ptr p 0],.loop .ready none e ps a bb])) (fun x B=>S B++(UD x++[.cells [.ptr p 0],.loop .done (some J) e ps a bb])) (N+n+1) (nX v) (TOk v bl) f)
  (x:X) (A:List K5) (K:KJ)
  (hT:∀ τ,(bJ f (TL v bl) x).2=true→K none e (S (eO v bl f x A).1.2++(U (bJ f (TL v bl) x).1++(.cells [.ptr p 0]::.dead::τ))))
  (hD:∀ τ,(bJ f (TL v bl) x).2=false→K (some J) e (S (eO v bl f x A).1.2++(UD (bJ f (TL v bl) x).1++(.cells [.ptr p 0]::.dead::τ)))) :
  rK (K:=⟨K⟩) T (.rangeFunc (.t k) ps a bb) e (S A++(U x++[.cells [.ptr p 0]])):=by
 have hrun:=v8 (UK hS U UD n hU hUD ok okD e ps a bb .ready .done none (some J)) hv hb hy (fun c h1 h2=>⟨h1,h2⟩) x A
 rw [sB] at hrun
 exact OT (A:=List Int) hS U UD n hU hUD J e k ps a bb 106 ek (bJ f (TL v bl) x) (eO v bl f x A).1.2 x A hrun K hT hD
def DU (_:List Int) (x:Unit):Unit×Bool:=(x,false)
theorem LC (l:List (List Int)):(bJ DU l ()).2=l.isEmpty:=by
 cases l<;>simp [bJ,DU]
def FO (v:Net) (bl:List Int) (A:List K5):List K5:=(eO v bl DU () A).1.2
theorem A6 {S:List K5→St} {v:Net} {b p m N:Nat} {bl:List Int} (hR:MemAt S (db v b m) (tEs v) p m N) (hv:Vd v) (hb:ButIs b bl) (A:List K5) :
  xP T (.func 93 [] []) [.ptr p 0] (S A) (.bool !(bZ v bl).isEmpty) (S (FO v bl A)):=by
 have hit:=LC (TL v bl)
 rw [JQ hv] at hit
 refine vM hR (af:=a93) rfl (by simp [a93]) ?_
 (repeat (first|simp only [↓QA,QB,Nat.reduceLT,reduceIte,Nat.reduceEqDiff,Nat.reduceAdd,Nat.reduceLeDiff,Nat.reduceMul,Nat.reduceBEq,jL,hR.len,hR.base,hR.base0,hR.bset,hR.bset0,hR.at1,hR.at0,a93]|refine rd0 rfl ?_))
 refine qK rfl (by simp [a80]) ?_
 (repeat (first|simp only [↓QA,QB,Nat.reduceLT,reduceIte,Nat.reduceEqDiff,Nat.reduceAdd,Nat.reduceLeDiff,Nat.reduceMul,Nat.reduceBEq,jL,hR.len,hR.base,hR.base0,hR.bset,hR.bset0,hR.at1,hR.at0,a80]|refine rd0 rfl ?_))
 refine lH hR hv hb (fun _:Unit=>[.cells [.bool false]]) (fun _=>[.cells [.bool true]]) 1 (fun _=>rfl) (fun _=>rfl) (fun _ y hy k _=>by simp at hy;subst hy;simp [aN,okVs,okV]) (fun _ y hy k _=>by simp at hy;subst hy;simp [aN,okVs,okV]) .ret (f:=DU) _ 4 [5,6] _ _ ?_ ?_ () A _ ?_ ?_
 ·try simp only [aD,QE,Nat.reduceLT,reduceIte,Nat.reduceEqDiff,Nat.reduceAdd,Nat.reduceLeDiff,Nat.reduceMul,Nat.reduceBEq,jL,hR.len,hR.base,hR.base0,hR.bset,hR.bset0,hR.at1,hR.at0]
 ·refine LN hR _ _ 1 (fun _=>rfl) (fun _=>rfl) .ret _ _ (nX v) (fun _ _ _=>rfl) _ _ ?_
  intro t _ fl tk x A' τ
  simp only [jV,nX]
  (repeat (first|simp only [↓QA,QB,Nat.reduceLT,reduceIte,Nat.reduceEqDiff,Nat.reduceAdd,Nat.reduceLeDiff,Nat.reduceMul,Nat.reduceBEq,jL,hR.len,hR.base,hR.base0,hR.bset,hR.bset0,hR.at1,hR.at0,WN,DU]|refine rd0 rfl ?_))
  exact .inr ⟨[],by simp⟩
 ·intro τ h2
  rw [hit] at h2
  (repeat (first|simp only [↓QA,QB,Nat.reduceLT,reduceIte,Nat.reduceEqDiff,Nat.reduceAdd,Nat.reduceLeDiff,Nat.reduceMul,Nat.reduceBEq,jL,hR.len,hR.base,hR.base0,hR.bset,hR.bset0,hR.at1,hR.at0,h2]|refine rd0 rfl ?_))
  refine ⟨_,_,rfl,rfl,?_⟩
  try simp only [QS,QC,Nat.reduceLT,reduceIte,Nat.reduceEqDiff,Nat.reduceAdd,Nat.reduceLeDiff,Nat.reduceMul,Nat.reduceBEq,jL,hR.len,hR.base,hR.base0,hR.bset,hR.bset0,hR.at1,hR.at0]
 ·intro τ h2
  rw [hit] at h2
  (repeat (first|simp only [↓QA,QB,Nat.reduceLT,reduceIte,Nat.reduceEqDiff,Nat.reduceAdd,Nat.reduceLeDiff,Nat.reduceMul,Nat.reduceBEq,jL,hR.len,hR.base,hR.base0,hR.bset,hR.bset0,hR.at1,hR.at0,h2]|refine rd0 rfl ?_))
  refine ⟨_,_,rfl,rfl,?_⟩
  try simp only [QS,QC,Nat.reduceLT,reduceIte,Nat.reduceEqDiff,Nat.reduceAdd,Nat.reduceLeDiff,Nat.reduceMul,Nat.reduceBEq,jL,hR.len,hR.base,hR.base0,hR.bset,hR.bset0,hR.at1,hR.at0]
end Go.Am.Room
set_option maxRecDepth 4000
namespace Go.Am.Room
def d6:=And.intro @aZ (And.intro @aK (And.intro @aR (And.intro @aT (And.intro @aS (And.intro @aQ (And.intro @aY (And.intro @aW (And.intro @aV (And.intro @dL (And.intro @dR (And.intro @Nat.not_lt_zero (And.intro @List.length_append.{0} (And.intro @Nat.add_lt_add_iff_left (And.intro @Nat.lt_add_right_iff_pos (And.intro @Nat.mul_one (@Int.toNat_natCast))))))))))))))))
def yD (σ:St) (v:Net) (b:Nat):St:=σ++[.cells (aB v),.map [],.cells (db v b (σ.length+1))]
theorem DK (σ:St) (v:Net) (b:Nat):xP T (.func 92 [] []) [dH v,.int .i64 b] σ (.ptr (σ.length+2) 0) (yD σ v b):=by
 refine .callf (.call (af:=a92) rfl (by simp [a92]) (gK (K:=fun j e σ1=>(j=none∨j=some .ret)∧Env.get e 4 = .ptr (σ.length+2) 0∧σ1=yD σ v b) ?_ fun o ho=>ho) fun o ho=>?_)
 ·(repeat (first|simp only [↓QA,QB,Nat.reduceLT,reduceIte,Nat.reduceEqDiff,Nat.reduceAdd,Nat.reduceLeDiff,Nat.reduceMul,Nat.reduceBEq,d6,a92,List.length_append,yD,db]|refine rd0 rfl ?_))
  try simp [db,aB,ints]
 ·exact ⟨ho.1,_,rfl,.inl ⟨ho.2.1,ho.2.2⟩⟩
theorem pS (v:Net) (A:List K5) (k:Nat):aN k (.map (tEs v A)):=WY (zG v) A k
def j3 (σ:St) (v:Net) (A:List K5):St:=σ++[.cells (aB v),.cells (aB v),.map (tEs v A),.cells (db v 0 (σ.length+2))]
theorem yI (σ:St) (v:Net):MemAt (j3 σ v) (db v 0 (σ.length+2)) (tEs v) (σ.length+3) (σ.length+2) (σ.length+4) :=
 ⟨fun M=>by simp [j3],fun M=>by simp [j3,qQ,pG,MR],fun M=>by rw [j3,qG];rfl,fun M M'=>by rw [j3,j3,nL];rfl,fun A k=>pS v A k,by omega,by omega⟩
def BJ:List Int→Bool
 |[t,n]=>inR t 0 (n-1)
 |_=>true
def uB (v:Net) (ns:List Int):Int:=gZ v (if (cF v).2.2=0 then (if BJ ns=true then 0 else 4) else (cF v).2.2)
theorem kP (v:Net):uB v []=fG v:=by
 have:(if (cF v).2.2=0 then (if BJ []=true then 0 else 4) else (cF v).2.2:Int)=(cF v).2.2:=by
  split
  ·rename_i h;simp [BJ,h]
  ·rfl
 rw [uB,this];rfl
theorem OL (v:Net) (t:Int):uB v [t,v.trams.length]=lJ v t:=rfl
def k8 (v:Net) (ns:List Int) (k:Nat):AV:=if uB v ns=0 then .tuple [.ptr (k+3) 0,.int .i64 0] else .tuple [.nilPtr,.int .i64 (uB v ns)]
def nS (v:Net):List K5:=FO v [] []
def oJ (σ:St) (v:Net) (ns:List Int):St:=if uB v ns=0 then j3 σ v (nS v) else σ
theorem rR (σ:St) (v:Net) (ns:List Int) (hns:ns=[]∨∃ t,ns=[t,(v.trams.length:Int)]) (hf:Fits v):xP T (.func 79 [] []) [dH v,.lit (ns.map (.int .i64)) true none] σ (k8 v ns σ.length) (oJ σ v ns):=by
 refine .callf (.call (af:=a79) rfl (by simp [a79]) (gK (K:=fun j e σ1=>(j=none∨j=some .ret)∧(if uB v ns=0 then Env.get e 4 = .ptr (σ.length+3) 0∧Env.get e 5 = .int .i64 0∧σ1=j3 σ v (nS v) else Env.get e 4 = .nilPtr∧Env.get e 5 = .int .i64 (uB v ns)∧∃ τ,σ1=σ++τ)) ?_ fun o ho=>ho) fun o ho=>?_)
 ·obtain ⟨E,hE⟩:∃ E,uB v ns=E:=⟨_,rfl⟩
  rw [hE]
  rw [uB] at hE
  (repeat (first|simp only [↓QA,QB,Nat.reduceLT,reduceIte,Nat.reduceEqDiff,Nat.reduceAdd,Nat.reduceLeDiff,Nat.reduceMul,Nat.reduceBEq,d6,a79]|refine rd0 rfl ?_))
  ((first|refine aF (kN v hf) rfl dd ?_|refine aH (kN v hf) rfl dd ?_);(repeat (first|simp only [↓QA,QB,Nat.reduceLT,reduceIte,Nat.reduceEqDiff,Nat.reduceAdd,Nat.reduceLeDiff,Nat.reduceMul,Nat.reduceBEq,d6,nQ]|refine rd0 rfl ?_)))
  cases h0:((cF v).2.2==0)
  ·have h0':(cF v).2.2≠0:=by simpa using h0
   have he:E=(cF v).2.2:=by rw [←hE];simp [h0',gZ]
   (repeat (first|simp only [↓QA,QB,Nat.reduceLT,reduceIte,Nat.reduceEqDiff,Nat.reduceAdd,Nat.reduceLeDiff,Nat.reduceMul,Nat.reduceBEq,d6,h0]|refine rd0 rfl ?_))
   rw [he,if_neg h0']
   simp
  ·have h0':(cF v).2.2=0:=by simpa using h0
   have hv:=g7 h0'
   have hnt:=hv.ntr
   rw [if_pos h0'] at hE
   have hlk:=DK (σ++[.cells (aB v)]) v 0
   have hso:=A6 (yI σ v) hv KQ []
   have e0:tEs v []=[]:=rfl
   simp only [j3,yD,e0] at hso hlk
   try simp only [↓QA,QB,Nat.reduceLT,reduceIte,Nat.reduceEqDiff,Nat.reduceAdd,Nat.reduceLeDiff,Nat.reduceMul,Nat.reduceBEq,d6,List.append_assoc] at hso hlk
   have tail:BJ ns=true→(if (bZ v []).isEmpty then 8 else 0)=E:=fun q=>by
    rw [q] at hE;simpa [gZ] using hE
   have hk0:σ.length<σ.length+1:=by omega
   rcases hns with rfl|⟨t,rfl⟩
   ·have tl:=tail rfl
    have w01:IntKind.i64.wrap ((0:Int)+1)=1:=rfl
    have d01:decide ((1:Int)<((0:Nat):Int))=false:=rfl
    (repeat (first|simp only [↓QA,QB,Nat.reduceLT,reduceIte,Nat.reduceEqDiff,Nat.reduceAdd,Nat.reduceLeDiff,Nat.reduceMul,Nat.reduceBEq,d6,h0]|refine rd0 rfl ?_))
    refine dJ (S:=Unit) () (fun _=>True) (fun _=>0) (fun _=>[(1,.lit [] false none),(2,.ptr σ.length 0),(9,.int .i64 0)]) (fun _=>σ++[.cells (aB v)]) trivial (by simp [aB,ints]) ?_ fun _ _=>?_
    ·try simp only [aD,QE,Nat.reduceLT,reduceIte,Nat.reduceEqDiff,Nat.reduceAdd,Nat.reduceLeDiff,Nat.reduceMul,Nat.reduceBEq,d6,List.map_nil]
     try simp [clr,clrs]
    ·(repeat (first|simp only [↓QA,QB,Nat.reduceLT,reduceIte,Nat.reduceEqDiff,Nat.reduceAdd,Nat.reduceLeDiff,Nat.reduceMul,Nat.reduceBEq,d6,JF,w01,d01]|refine rd0 rfl ?_))
     refine cO hlk ?_
     (repeat (first|simp only [↓QA,QB,Nat.reduceLT,reduceIte,Nat.reduceEqDiff,Nat.reduceAdd,Nat.reduceLeDiff,Nat.reduceMul,Nat.reduceBEq,d6]|refine rd0 rfl ?_))
     refine cO hso ?_
     cases hs:(bZ v []).isEmpty
     ·have he:E=0:=by rw [←tl];simp [hs]
      subst he
      (repeat (first|simp only [↓QA,QB,Nat.reduceLT,reduceIte,Nat.reduceEqDiff,Nat.reduceAdd,Nat.reduceLeDiff,Nat.reduceMul,Nat.reduceBEq,d6]|refine rd0 rfl ?_))
      simp [j3,nS,aB,ints]
     ·have he:E=8:=by rw [←tl];simp [hs]
      subst he
      (repeat (first|simp only [↓QA,QB,Nat.reduceLT,reduceIte,Nat.reduceEqDiff,Nat.reduceAdd,Nat.reduceLeDiff,Nat.reduceMul,Nat.reduceBEq,d6]|refine rd0 rfl ?_))
      simp
   ·have w01:IntKind.i64.wrap ((0:Int)+1)=1:=rfl
    have w21:IntKind.i64.wrap ((2:Int)+1)=3:=rfl
    have w02:IntKind.i64.wrap ((0:Int)+2)=2:=rfl
    have d12:decide ((1:Int)<((2:Nat):Int))=true:=rfl
    have d32:decide ((3:Int)<((2:Nat):Int))=false:=rfl
    have j0:(0:Int)≤0:=by decide
    have j1:(0:Int)≤1:=by decide
    have t0:Int.toNat 0=0:=rfl
    have t1:Int.toNat 1=1:=rfl
    have hwl:IntKind.i64.wrap ((v.trams.length:Int)-1)=(v.trams.length:Int)-1:=dZ ⟨by omega,by omega⟩
    have hix0:∀ l:List AV,DW 1 (.int .i64 t::l) 0 none=some (.lptr (.int .i64 t::l) 0 0 none):=fun l=>by simp [DW,AV.cells]
    have hix1:∀ l:List AV,DW 1 (.int .i64 t::.int .i64 (v.trams.length:Int)::l) 1 none=some (.lptr (.int .i64 t::.int .i64 (v.trams.length:Int)::l) 1 0 none):=fun l=>by simp [DW,AV.cells]
    have hpb:BJ [t,(v.trams.length:Int)]=inR t 0 ((v.trams.length:Int)-1):=rfl
    (repeat (first|simp only [↓QA,QB,Nat.reduceLT,reduceIte,Nat.reduceEqDiff,Nat.reduceAdd,Nat.reduceLeDiff,Nat.reduceMul,Nat.reduceBEq,d6,h0]|refine rd0 rfl ?_))
    refine dJ (S:=Bool) false (fun b=>b=true→BJ [t,(v.trams.length:Int)]=true) (fun b=>if b then 0 else 1) (fun b=>[(1,.lit [.int .i64 t,.int .i64 v.trams.length] false none),(2,.ptr σ.length 0),(9,.int .i64 (if b then 2 else 0))]) (fun _=>σ++[.cells (aB v)]) (fun h=>by cases h) (by simp [aB,ints]) ?_ fun b hb=>?_
    ·try simp only [aD,QE,Nat.reduceLT,reduceIte,Nat.reduceEqDiff,Nat.reduceAdd,Nat.reduceLeDiff,Nat.reduceMul,Nat.reduceBEq,d6,List.map_nil,List.map_cons]
     try simp [clr,clrs]
    ·cases b
     ·simp only [Bool.false_eq_true,if_false]
      (repeat (first|simp only [↓QA,QB,Nat.reduceLT,reduceIte,Nat.reduceEqDiff,Nat.reduceAdd,Nat.reduceLeDiff,Nat.reduceMul,Nat.reduceBEq,d6,JF,w01,d12,hix0,hix1,hwl]|refine rd0 rfl ?_))
      ((first|refine d5 (bE 0 ((v.trams.length:Int)-1) [t] (by simp)) (by simp [clr,clrs,ints]) (by simp [okV,okVs]) ?_|refine eP (bE 0 ((v.trams.length:Int)-1) [t] (by simp)) (by simp [clr,clrs,ints]) (by simp [okV,okVs]) ?_);(repeat (first|simp only [↓QA,QB,Nat.reduceLT,reduceIte,Nat.reduceEqDiff,Nat.reduceAdd,Nat.reduceLeDiff,Nat.reduceMul,Nat.reduceBEq,d6,iQ,w01,d12,hix0,hix1,hwl]|refine rd0 rfl ?_)))
      cases h1:inR t 0 ((v.trams.length:Int)-1)
      ·rw [hpb,h1] at hE
       have he:E=4:=by rw [←hE];simp [gZ]
       subst he
       (repeat (first|simp only [↓QA,QB,Nat.reduceLT,reduceIte,Nat.reduceEqDiff,Nat.reduceAdd,Nat.reduceLeDiff,Nat.reduceMul,Nat.reduceBEq,d6,hix0,hix1]|refine rd0 rfl ?_))
       simp
      ·(repeat (first|simp only [↓QA,QB,Nat.reduceLT,reduceIte,Nat.reduceEqDiff,Nat.reduceAdd,Nat.reduceLeDiff,Nat.reduceMul,Nat.reduceBEq,d6,hix0,hix1,w02]|refine rd0 rfl ?_))
       refine ⟨true,fun _=>by rw [hpb,h1],by simp,?_⟩
       try simp only [aD,QE,Nat.reduceLT,reduceIte,Nat.reduceEqDiff,Nat.reduceAdd,Nat.reduceLeDiff,Nat.reduceMul,Nat.reduceBEq,d6,w02]
       try simp [aN]
     ·have tl:=tail (hb rfl)
      simp only [if_true]
      (repeat (first|simp only [↓QA,QB,Nat.reduceLT,reduceIte,Nat.reduceEqDiff,Nat.reduceAdd,Nat.reduceLeDiff,Nat.reduceMul,Nat.reduceBEq,d6,JF,w21,d32]|refine rd0 rfl ?_))
      refine cO hlk ?_
      (repeat (first|simp only [↓QA,QB,Nat.reduceLT,reduceIte,Nat.reduceEqDiff,Nat.reduceAdd,Nat.reduceLeDiff,Nat.reduceMul,Nat.reduceBEq,d6]|refine rd0 rfl ?_))
      refine cO hso ?_
      cases hs:(bZ v []).isEmpty
      ·have he:E=0:=by rw [←tl];simp [hs]
       subst he
       (repeat (first|simp only [↓QA,QB,Nat.reduceLT,reduceIte,Nat.reduceEqDiff,Nat.reduceAdd,Nat.reduceLeDiff,Nat.reduceMul,Nat.reduceBEq,d6]|refine rd0 rfl ?_))
       simp [j3,nS,aB,ints]
      ·have he:E=8:=by rw [←tl];simp [hs]
       subst he
       (repeat (first|simp only [↓QA,QB,Nat.reduceLT,reduceIte,Nat.reduceEqDiff,Nat.reduceAdd,Nat.reduceLeDiff,Nat.reduceMul,Nat.reduceBEq,d6]|refine rd0 rfl ?_))
       simp
 ·obtain ⟨hj,ho⟩:=ho
  by_cases he:uB v ns=0
  ·rw [if_pos he] at ho
   refine ⟨hj,k8 v ns σ.length,?_,.inl ⟨rfl,?_⟩⟩
   ·simp [f9,mJ,a79,ho.1,ho.2.1,k8,he]
   ·rw [ho.2.2,oJ,if_pos he]
  ·rw [if_neg he] at ho
   obtain ⟨h4,h5,τ,hσ⟩:=ho
   refine ⟨hj,k8 v ns σ.length,?_,.inr ⟨20,k8 v ns σ.length,k8 v ns σ.length,?_,.inl rfl,fun i hi=>.inl (by rw [hσ];exact List.getElem?_append_left hi),by rw [hσ];simp,rfl,by rw [hσ];simp [oJ,he]⟩⟩
   ·simp [f9,mJ,a79,h4,h5,k8,he]
   ·simp [k8,he,snap,snaps]
theorem MG {X:Type} {M:Type} {S:X→M→St} {obj:List AV} {es:M→List (AV×AV)} {p m N:Nat} (hS:∀ x,MemAt (S x) obj es p m N) (hK:∀ x A y B k i,N≤k→i<N→d7 (S x A) (S y B) k i) (hpl:p<N) (U UD:X→St) (n:Nat) (hU:∀ x,(U x).length=n) (hUD:∀ x,(UD x).length=n) (ok:∀ x y,y∈U x→∀ k,N≤k→aN k y) (okD:∀ x y,y∈UD x→∀ k,N≤k→aN k y)
  (env:Env) (ps:List Nat) (a bb:ACode) (st st':LS) (pe pe':Option AJump) :
  Fam1 (fun x A=>S x A++(U x++[.cells [.ptr p 0],.loop st pe env ps a bb])) (fun x A=>S x A++(UD x++[.cells [.ptr p 0],.loop st' pe' env ps a bb])) obj es p m (N+n) (N+n+2):=by
 have low:∀ (x:X) (A:M) (y:X) (B:M) (C D:St) (k i:Nat),N≤k→i<N→d7 (S x A++C) (S y B++D) k i:=by
  intro x A y B C D k i hk hi
  have e1:(S x A++C)[i]? = (S x A)[i]?:=List.getElem?_append_left (by rw [(hS x).len];exact hi)
  have e2:(S y B++D)[i]? = (S y B)[i]?:=List.getElem?_append_left (by rw [(hS y).len];exact hi)
  have:=hK x A y B k i hk hi
  simp only [d7,e1,e2] at this ⊢
  exact this
 have high:∀ (P Q:St) (C D:St) (l1 l2:ABlk) (k i:Nat),P.length=N→Q.length=N→C.length=n→D.length=n→(∀ y∈D,aN k y)→N≤i→i<N+n+2→(l1=l2∨∃ st pe st' pe' env ps a b,l1 = .loop st pe env ps a b∧l2 = .loop st' pe' env ps a b) →
   d7 (P++(C++[.cells [.ptr p 0],l1])) (Q++(D++[.cells [.ptr p 0],l2])) k i:=by
  intro P Q C D l1 l2 k i hP hQ hA hB hk h1 h2 hl
  have e1:(P++(C++[.cells [.ptr p 0],l1]))[i]? = (C++[.cells [.ptr p 0],l1])[i-N]?:=by rw [List.getElem?_append_right (by rw [hP];exact h1),hP]
  have e2:(Q++(D++[.cells [.ptr p 0],l2]))[i]? = (D++[.cells [.ptr p 0],l2])[i-N]?:=by rw [List.getElem?_append_right (by rw [hQ];exact h1),hQ]
  simp only [d7,e1,e2]
  obtain ⟨j,hj⟩:∃ j,i-N=j:=⟨_,rfl⟩
  rw [hj]
  by_cases hjn:j<n
  ·right;left
   have hb:j<D.length:=by omega
   refine ⟨D[j],?_,hk _ (List.getElem_mem hb)⟩
   rw [List.getElem?_append_left hb,List.getElem?_eq_getElem hb]
  ·have:j=n∨j=n+1:=by omega
   rcases this with rfl|rfl
   ·left
    rw [List.getElem?_append_right (by omega),List.getElem?_append_right (by omega),hA,hB]
    simp
   ·rw [List.getElem?_append_right (by omega),List.getElem?_append_right (by omega),hA,hB]
    simp only [Nat.add_sub_cancel_left,List.getElem?_cons_succ,List.getElem?_cons_zero]
    rcases hl with rfl|⟨_,_,_,_,_,_,_,_,rfl,rfl⟩
    ·exact .inl rfl
    ·exact .inr (.inr ⟨_,_,_,_,_,_,_,_,rfl,rfl⟩)
 refine ⟨fun x=>?_,fun x A=>?_,fun x A=>?_,fun x A y B k i hk hi=>?_,fun x A y B k i hk hi=>?_,by omega,by omega⟩
 ·have:=(hS x).app (U x++[.cells [.ptr p 0],.loop st pe env ps a bb])
  rw [List.length_append,hU] at this
  exact this
 ·simp [(hS x).len,hUD];omega
 ·have e:N+n=(S x A).length+n:=by rw [(hS x).len]
  rw [e,qQ]
  have:n=(U x).length:=by rw [hU]
  rw [this]
  exact iH _ _
 ·by_cases h:i<N
  ·exact low _ _ _ _ _ _ _ _ (by omega) h
  ·exact high _ _ _ _ _ _ _ _ ((hS x).len A) ((hS y).len B) (hU x) (hU y) (fun z hz=>ok y z hz k (by omega)) (by omega) hi (.inl rfl)
 ·by_cases h:i<N
  ·exact low _ _ _ _ _ _ _ _ (by omega) h
  ·exact high _ _ _ _ _ _ _ _ ((hS x).len A) ((hS y).len B) (hU x) (hUD y) (fun z hz=>okD y z hz k (by omega)) (by omega) hi (.inr ⟨_,_,_,_,_,_,_,_,rfl,rfl⟩)
theorem KM {X M:Type} {S:X→M→St} {obj:List AV} {es:M→List (AV×AV)} {p m N:Nat} (hS:∀ x,MemAt (S x) obj es p m N) (U UD:X→St) (n:Nat) (hU:∀ x,(U x).length=n) (hUD:∀ x,(UD x).length=n)
  (J:AJump) (e:Env) (k:Nat) (ps:List Nat) (a bb:ACode) (g:FuncId) (ek:Env.get e k = .func g [] [.ptr (N+n) 0]) (r:X×Bool) (B':M) (x:X) (B:M)
  (hrun:Run T (.call g [.yield (N+n+1),.ptr (N+n) 0] (S x B++(U x++[.cells [.ptr p 0],.loop .ready none e ps a bb]))) fun o=>∃ τ',o.σ=Fam1.out (fun x A=>S x A++(U x++[.cells [.ptr p 0],.loop .ready none e ps a bb])) (fun x A=>S x A++(UD x++[.cells [.ptr p 0],.loop .done (some J) e ps a bb])) r B'++τ') (K:KJ)
  (hT:∀ τ,r.2=true→K none e (S r.1 B'++(U r.1++(.cells [.ptr p 0]::.dead::τ))))
  (hD:∀ τ,r.2=false→K (some J) e (S r.1 B'++(UD r.1++(.cells [.ptr p 0]::.dead::τ)))) :
  rK (K:=⟨K⟩) T (.rangeFunc (.t k) ps a bb) e (S x B++(U x++[.cells [.ptr p 0]])):=by
 have hlen:(S x B++(U x++[ABlk.cells [.ptr p 0]])).length=N+n+1:=by simp [(hS x).len,hU];omega
 have hout:∀ (A W:St) (lp:ABlk) (τ':St),A.length=N→W.length=n→(A++(W++[ABlk.cells [.ptr p 0],lp])++τ')[N+n+1]? = some lp∧(A++(W++[ABlk.cells [.ptr p 0],lp])++τ').set (N+n+1) .dead=A++(W++(.cells [.ptr p 0]::.dead::τ')):=by
  intro A W lp τ' hA hW
  have h1:N+n+1=(A++W).length+1:=by simp [hA,hW]
  have h2:A++(W++[ABlk.cells [.ptr p 0],lp])++τ'=(A++W)++(.cells [.ptr p 0]::lp::τ'):=by simp
  rw [h1,h2]
  constructor
  ·rw [qG];rfl
  ·rw [nL];simp
 refine EK (by rw [QL,ek]) (by
  rw [hlen,List.append_assoc (S x B),List.append_assoc (U x)]
  exact hrun) fun o ho=>?_
 obtain ⟨τ',hσ⟩:=ho
 rw [hlen,hσ]
 cases hr2:r.2
 ·have hD':=hD τ' hr2
  obtain ⟨g1,g2⟩:=hout (S r.1 B') (UD r.1) (.loop .done (some J) e ps a bb) τ' ((hS _).len _) (hUD _)
  simp only [Fam1.out,hr2,Bool.false_eq_true,if_false]
  rw [g1,g2]
  exact ⟨_,_,_,_,_,_,rfl,by simp,hD'⟩
 ·have hT':=hT τ' hr2
  obtain ⟨g1,g2⟩:=hout (S r.1 B') (U r.1) (.loop .ready none e ps a bb) τ' ((hS _).len _) (hU _)
  simp only [Fam1.out,hr2,if_true]
  rw [g1,g2]
  exact ⟨_,_,_,_,_,_,rfl,by simp,hT'⟩
theorem m9 {X A M:Type} {S:X→M→St} {obj:List AV} {es:M→List (AV×AV)} {p m N:Nat} (hS:∀ x,MemAt (S x) obj es p m N) (U UD:X→St) (n:Nat) (hU:∀ x,(U x).length=n) (hUD:∀ x,(UD x).length=n) (J:AJump) (e:Env) (ps:List Nat) (args:A→Bool→Option Nat→List AV) (hps:∀ t fl tk,ps.length=(args t fl tk).length) (a bb:ACode) {P:A→Prop} {f:A→X→X×Bool}
  (h:∀ t,P t→∀ (fl:Bool) (tk:Option Nat) x B τ,wp T a (jV e ps (args t fl tk)) (S x B++(U x++(.cells [.ptr p 0]::.loop .ready none e ps a bb::τ))) (fun j e' σ'=>j=none∧∃ τ1,σ'=S x B++(U x++(.cells [.ptr p 0]::.loop .ready none e ps a bb::(τ++τ1))) ∧
   wp T bb e' (S x B++(U x++(.cells [.ptr p 0]::.loop .busy none e ps a bb::(τ++τ1)))) (fun j e'' σ''=>((f t x).2=true∧j=none∧∃ τ',σ''=S (f t x).1 B++(U (f t x).1++(.cells [.ptr p 0]::.loop .busy none e ps a bb::(τ++τ')))) ∨
    ((f t x).2=false∧j=some J∧∃ τ',σ''=S (f t x).1 B++(UD (f t x).1++(.cells [.ptr p 0]::.loop .busy none e ps a bb::(τ++τ'))))))) :
  uU (fun x B=>S x B++(U x++[.cells [.ptr p 0],.loop .ready none e ps a bb])) (fun x B=>S x B++(UD x++[.cells [.ptr p 0],.loop .done (some J) e ps a bb])) (N+n+1) args P f:=by
 intro t ht fl tk x B τ
 have hget:∀ (A W:St) (lp:ABlk) (υ:St),A.length=N→W.length=n→(A++(W++(ABlk.cells [.ptr p 0]::lp::υ)))[N+n+1]? = some lp:=by
  intro A W lp υ hA hW
  have h1:N+n+1=(A++W).length+1:=by simp [hA,hW]
  rw [h1,←List.append_assoc,qG];rfl
 have hset:∀ (A W:St) (lp l2:ABlk) (υ:St),A.length=N→W.length=n→(A++(W++(ABlk.cells [.ptr p 0]::lp::υ))).set (N+n+1) l2=A++(W++(ABlk.cells [.ptr p 0]::l2::υ)):=by
  intro A W lp l2 υ hA hW
  have h1:N+n+1=(A++W).length+1:=by simp [hA,hW]
  rw [h1,←List.append_assoc,nL]
  simp
 obtain ⟨r,hr⟩:∃ r,f t x=r:=⟨_,rfl⟩
 have h:=h t ht fl tk x B τ
 rw [hr] at h ⊢
 have hst:(fun x B=>S x B++(U x++[ABlk.cells [.ptr p 0],.loop .ready none e ps a bb])) x B++τ=S x B++(U x++(.cells [.ptr p 0]::.loop .ready none e ps a bb::τ)):=by simp
 rw [hst]
 refine .round (env:=e) (ps:=ps) (a:=a) (b:=bb)
  (R:=fun o=>o.j=none∧∃ τ1,o.σ=S x B++(U x++(.cells [.ptr p 0]::.loop .ready none e ps a bb::(τ++τ1)))∧wp T bb o.env (S x B++(U x++(.cells [.ptr p 0]::.loop .busy none e ps a bb::(τ++τ1)))) (fun j e'' σ''=>(r.2=true∧j=none∧∃ τ',σ''=S r.1 B++(U r.1++(.cells [.ptr p 0]::.loop .busy none e ps a bb::(τ++τ')))) ∨
    (r.2=false∧j=some J∧∃ τ',σ''=S r.1 B++(UD r.1++(.cells [.ptr p 0]::.loop .busy none e ps a bb::(τ++τ'))))))
  (S:=fun o=>(r.2=true∧o.j=none∧∃ τ',o.σ=S r.1 B++(U r.1++(.cells [.ptr p 0]::.loop .busy none e ps a bb::(τ++τ'))))∨(r.2=false∧o.j=some J∧∃ τ',o.σ=S r.1 B++(UD r.1++(.cells [.ptr p 0]::.loop .busy none e ps a bb::(τ++τ'))))) (hget _ _ _ _ ((hS _).len _) (hU _)) (by rw [hps t fl tk]) (gK h fun o ho=>ho) ?_ ?_ ?_
 ·rintro o ⟨hj,τ1,hσ,_⟩
  exact ⟨hj,by rw [hσ];exact hget _ _ _ _ ((hS _).len _) (hU _)⟩
 ·rintro o ⟨_,τ1,hσ,hw⟩
  rw [hσ,hset _ _ _ _ _ ((hS _).len _) (hU _)]
  exact gK hw fun o ho=>ho
 ·rintro o (⟨hr2,hj,τ',hσ⟩|⟨hr2,hj,τ',hσ⟩)
  ·rw [hσ,hj,hget _ _ _ _ ((hS _).len _) (hU _),hset _ _ _ _ _ ((hS _).len _) (hU _)]
   refine ⟨rfl,by rw [hr2];rfl,τ',?_⟩
   simp [Fam1.out,hr2]
  ·rw [hσ,hj,hget _ _ _ _ ((hS _).len _) (hUD _),hset _ _ _ _ _ ((hS _).len _) (hUD _)]
   refine ⟨rfl,by rw [hr2];rfl,τ',?_⟩
   simp [Fam1.out,hr2]
end Go.Am.Room
set_option maxRecDepth 8000
namespace Go.Am.Room
def xA:=And.intro @aZ (And.intro @aK (And.intro @aR (And.intro @aT (And.intro @aS (And.intro @aQ (And.intro @aY (And.intro @aW (And.intro @aV (And.intro @dL (And.intro @dR (And.intro @Nat.not_lt_zero (And.intro @List.length_append.{0} (And.intro @Nat.zero_add (And.intro @Nat.mul_one (And.intro @Int.toNat_natCast (And.intro @dO (And.intro @eR (And.intro @eQ (And.intro @jY (And.intro @eN (And.intro @gB (And.intro @gE (And.intro @gC (And.intro @gG (And.intro @gH (And.intro @gD (And.intro @Nat.add_lt_add_iff_left (@Nat.lt_add_right_iff_pos))))))))))))))))))))))))))))
theorem E5 (v:Net) (b m p:Nat) (σ:St) (hσ:aG σ p=some (db v b m)) (t:Nat) (ht:t<v.trams.length) (c:Int):iG T (.func 111 [.ptr p 0] []) [.int .i64 t,.int .i64 c] σ (.bool (jT v t c)):=by
 refine dX (af:=a111) rfl (by simp [a111]) ?_
 have hit:=A4 (v:=v) (t:=t) (z:=v.trams[t]) (by simp [ht]) c
 obtain ⟨z,hz⟩:∃ z,v.trams[t]=z:=⟨_,rfl⟩
 rw [hz] at hit
 have e:decide (c = -1)=(c==-1):=by rw [Bool.eq_iff_iff];simp
 rw [e] at hit
 rw [hit]
 cases h:(c==-1)
 ·(repeat (first|simp only [↓QA,QB,Nat.reduceLT,reduceIte,Nat.reduceEqDiff,Nat.reduceAdd,Nat.reduceLeDiff,Nat.reduceMul,Nat.reduceBEq,xA,a111,h,hσ,ht,hz]|refine rd0 rfl ?_))
  refine eH [] (by first|rfl|simp) ?_
  try simp only [QS,QC,Nat.reduceLT,reduceIte,Nat.reduceEqDiff,Nat.reduceAdd,Nat.reduceLeDiff,Nat.reduceMul,Nat.reduceBEq,xA]
 ·(repeat (first|simp only [↓QA,QB,Nat.reduceLT,reduceIte,Nat.reduceEqDiff,Nat.reduceAdd,Nat.reduceLeDiff,Nat.reduceMul,Nat.reduceBEq,xA,a111,h]|refine rd0 rfl ?_))
  refine eH [] (by first|rfl|simp) ?_
  try simp only [QS,QC,Nat.reduceLT,reduceIte,Nat.reduceEqDiff,Nat.reduceAdd,Nat.reduceLeDiff,Nat.reduceMul,Nat.reduceBEq,xA,Bool.false_and]
def Q6 (p:Nat):AV:=.func 111 [.ptr p 0] []
theorem CV (p:Nat):Q6 p = .func 111 [.ptr p 0] []:=by simp only [Q6]
end Go.Am.Room
set_option maxRecDepth 8000
namespace Go.Am.Room
def lC:=And.intro @aZ (And.intro @aK (And.intro @aR (And.intro @aT (And.intro @aS (And.intro @aQ (And.intro @aY (And.intro @aW (And.intro @aV (And.intro @dL (And.intro @dR (And.intro @Nat.not_lt_zero (And.intro @List.length_append.{0} (And.intro @Nat.zero_add (And.intro @Nat.mul_one (And.intro @Int.toNat_natCast (And.intro @dO (And.intro @eR (And.intro @eQ (And.intro @jY (And.intro @eN (And.intro @gB (And.intro @gE (And.intro @gC (And.intro @gG (And.intro @gH (And.intro @gD (And.intro @Nat.add_lt_add_iff_left (And.intro @Nat.lt_add_right_iff_pos (And.intro @nC (@m8))))))))))))))))))))))))))))))
theorem zZ {X:Type} {S:X→List K5→St} {v:Net} {b p m N:Nat} {bl:List Int} (hS:∀ x,MemAt (S x) (db v b m) (tEs v) p m N) (hK:∀ x A y B k i,N≤k→i<N→d7 (S x A) (S y B) k i) (hpl:p<N) (hv:Vd v) (hb:ButIs b bl) (U UD:X→St) (n:Nat) (hU:∀ x,(U x).length=n) (hUD:∀ x,(UD x).length=n) (ok:∀ x y,y∈U x→∀ k,N≤k→aN k y) (okD:∀ x y,y∈UD x→∀ k,N≤k→aN k y)
  (J:AJump) {f:List Int→X→X×Bool} (e:Env) (k:Nat) (ps:List Nat) (a bb:ACode) (ek:Env.get e k = .func 106 [] [.ptr (N+n) 0])
  (hy:uU (fun x B=>S x B++(U x++[.cells [.ptr p 0],.loop .ready none e ps a bb])) (fun x B=>S x B++(UD x++[.cells [.ptr p 0],.loop .done (some J) e ps a bb])) (N+n+1) (nX v) (TOk v bl) f)
  (x:X) (A:List K5) (K:KJ)
  (hT:∀ τ,(bJ f (TL v bl) x).2=true→K none e (S (bJ f (TL v bl) x).1 (eO v bl f x A).1.2++(U (bJ f (TL v bl) x).1++(.cells [.ptr p 0]::.dead::τ))))
  (hD:∀ τ,(bJ f (TL v bl) x).2=false→K (some J) e (S (bJ f (TL v bl) x).1 (eO v bl f x A).1.2++(UD (bJ f (TL v bl) x).1++(.cells [.ptr p 0]::.dead::τ)))) :
  rK (K:=⟨K⟩) T (.rangeFunc (.t k) ps a bb) e (S x A++(U x++[.cells [.ptr p 0]])):=by
 have hrun:=v8 (MG hS hK hpl U UD n hU hUD ok okD e ps a bb .ready .done none (some J)) hv hb hy (fun c h1 h2=>⟨h1,h2⟩) x A
 rw [sB] at hrun
 exact KM hS U UD n hU hUD J e k ps a bb 106 ek (bJ f (TL v bl) x) (eO v bl f x A).1.2 x A hrun K hT hD
def pQ (p:Nat) (x:B64):St:=[.cells [.ptr p 0],.cells [.int .i64 (x.1.1:Nat)],.cells [.int .i64 (x.1.2:Nat)],.cells [Q6 p]]
theorem CB {S:List K5→St} {v:Net} {b p m N:Nat} (hR:MemAt S (db v b m) (tEs v) p m N) (hv:Vd v) (c:List Int) (x:B64) (B:List K5) (lp:ABlk) (τ:St) (e:Env) (G:Option AJump→St→Prop)
  (e1:Env.get e 1 = .ptr N 0) (e2:Env.get e 2 = .ptr (N+1) 0) (e3:Env.get e 3 = .ptr (N+2) 0) (e4:Env.get e 4 = .ptr (N+3) 0) (e6:Env.get e 6 = .ptr (N+(τ.length+1+1+1+1+1+1)) 0) (R:B64×Bool) (hRr:nA (fW v) v.trams.length c x=R) :
  wp T N4 e (S B++(pQ p x++(.cells [.ptr p 0]::lp::(τ++[.cells (bC 3 (bR (cQ v c)))])))) (fun j e'' σ''=>(R.2=true∧j=none∧∃ τ',σ''=S B++(pQ p R.1++(.cells [.ptr p 0]::lp::(τ++τ'))))∨G j σ''):=by
 have hnt:=hv.ntr
 have hR1:R.1.1=dG (fW v c) v.trams.length x.1:=by rw [←hRr,u0 (fW v) (by omega)]
 have hR2:R.2=true:=by rw [←hRr];exact zT _ _ _ _
 have hpl:=hR.pl
 have hta:∀ (b0 b1 b2 b3 b4 b5:ABlk),aG (S B++(b0::b1::b2::b3::b4::b5::(τ++[.cells (bC 3 (bR (cQ v c)))]))) (N+(τ.length+1+1+1+1+1+1))=some (bC 3 (bR (cQ v c))):=fun b0 b1 b2 b3 b4 b5=>by
  rw [hR.base]
  simp only [pG]
  rw [iH];rfl
 have hlt:=fun k hk=>oA (fW v c) (n:=6) x.2 k hk
 simp only [pQ,hR1,CV]
 (repeat (first|simp only [↓QA,QB,Nat.reduceLT,reduceIte,Nat.reduceEqDiff,Nat.reduceAdd,Nat.reduceLeDiff,Nat.reduceMul,Nat.reduceBEq,lC,hR.len,hR.base,hR.base0,hR.bset,hR.bset0,hR.at1,hR.at0,N4,e1]|refine rd0 rfl ?_))
 refine dJ (S:=Nat) 0 (fun k=>k≤v.trams.length) (fun k=>v.trams.length-k)
  (fun k=>[(2,.ptr (N+1) 0),(3,.ptr (N+2) 0),(4,.ptr (N+3) 0),(6,.ptr (N+(τ.length+1+1+1+1+1+1)) 0),(27,.int .i64 v.trams.length),(28,.int .i64 k)])
  (fun k=>S B++(.cells [.ptr p 0]::.cells [.int .i64 ((dG (fW v c) k x.1).1:Nat)]::.cells [.int .i64 ((dG (fW v c) k x.1).2:Nat)]::.cells [.func 111 [.ptr p 0] []]::.cells [.ptr p 0]::lp::(τ++[.cells (bC 3 (bR (cQ v c)))]))) (Nat.zero_le _) rfl ?_ fun k hk=>?_
 ·try simp only [aD,QE,Nat.reduceLT,reduceIte,Nat.reduceEqDiff,Nat.reduceAdd,Nat.reduceLeDiff,Nat.reduceMul,Nat.reduceBEq,lC,hR.len,hR.base,hR.base0,hR.bset,hR.bset0,hR.at1,hR.at0,e2,e3,e4,e6]
  try simp
 ·(repeat (first|simp only [↓QA,QB,Nat.reduceLT,reduceIte,Nat.reduceEqDiff,Nat.reduceAdd,Nat.reduceLeDiff,Nat.reduceMul,Nat.reduceBEq,lC,hR.len,hR.base,hR.base0,hR.bset,hR.bset0,hR.at1,hR.at0,U5]|refine rd0 rfl ?_))
  refine aI (fun hd=>?_) fun hd=>?_
  ·have hk1:k<v.trams.length:=by simpa using hd
   have hw:=cM hk1 (by omega)
   have hst:dG (fW v c) (k+1) x.1=if fW v c k=true then (AD (dG (fW v c) k x.1).1 (2^k),(dG (fW v c) k x.1).2) else ((dG (fW v c) k x.1).1,(dG (fW v c) k x.1).2|||2^k):=rfl
   obtain ⟨l1,l2⟩:=hlt k (by omega)
   obtain ⟨⟨Y1,Y2⟩,hY⟩:∃ Y,dG (fW v c) k x.1=Y:=⟨_,rfl⟩
   rw [hY] at hst l1 l2
   simp only at hst l1 l2
   have hp2:=i9 (show k≤60 by omega)
   have hsh:=sQ k (by omega)
   have hor:=YJ Y2 (2^k) (by omega) (by omega)
   have han:=EQ Y1 (2^k) (by omega) (by omega)
   have i3:(0:Int)≤(k:Int)∧(k:Int)<((3:Nat):Int):=⟨by omega,by omega⟩
   have hg:=iO 3 (bR (cQ v c)) (i:=k) (by omega)
   have hin:=fun σ (hσ:aG σ p=some (db v b m))=>E5 v b m p σ hσ k hk1 (bR (cQ v c) k)
   have hfe:jT v k (bR (cQ v c) k)=fW v c k:=rfl
   rw [hY]
   (repeat (first|simp only [↓QA,QB,Nat.reduceLT,reduceIte,Nat.reduceEqDiff,Nat.reduceAdd,Nat.reduceLeDiff,Nat.reduceMul,Nat.reduceBEq,lC,hR.len,hR.base,hR.base0,hR.bset,hR.bset0,hR.at1,hR.at0,hta,i3,hg]|refine rd0 rfl ?_))
   refine y2 (hin _ (hR.at1 _ _)) ?_
   rw [hfe]
   cases hf:fW v c k
   ·rw [hf] at hst
    simp only [Bool.false_eq_true,if_false] at hst
    (repeat (first|simp only [↓QA,QB,Nat.reduceLT,reduceIte,Nat.reduceEqDiff,Nat.reduceAdd,Nat.reduceLeDiff,Nat.reduceMul,Nat.reduceBEq,lC,hR.len,hR.base,hR.base0,hR.bset,hR.bset0,hR.at1,hR.at0,hta,i3,hg,hsh,hor]|refine rd0 rfl ?_))
    refine ⟨k+1,by omega,by omega,?_⟩
    rw [hst]
    try simp only [aD,QE,Nat.reduceLT,reduceIte,Nat.reduceEqDiff,Nat.reduceAdd,Nat.reduceLeDiff,Nat.reduceMul,Nat.reduceBEq,lC,hR.len,hR.base,hR.base0,hR.bset,hR.bset0,hR.at1,hR.at0,hw,hR.eqS]
    try simp [aN,okVs,okV]
    try omega
   ·rw [hf] at hst
    simp only [if_true] at hst
    (repeat (first|simp only [↓QA,QB,Nat.reduceLT,reduceIte,Nat.reduceEqDiff,Nat.reduceAdd,Nat.reduceLeDiff,Nat.reduceMul,Nat.reduceBEq,lC,hR.len,hR.base,hR.base0,hR.bset,hR.bset0,hR.at1,hR.at0,hta,i3,hg,hsh,han]|refine rd0 rfl ?_))
    refine ⟨k+1,by omega,by omega,?_⟩
    rw [hst]
    try simp only [aD,QE,Nat.reduceLT,reduceIte,Nat.reduceEqDiff,Nat.reduceAdd,Nat.reduceLeDiff,Nat.reduceMul,Nat.reduceBEq,lC,hR.len,hR.base,hR.base0,hR.bset,hR.bset0,hR.at1,hR.at0,hw,hR.eqS]
    try simp [aN,okVs,okV]
    try omega
  ·have hk1:k=v.trams.length:=by
    have:¬k<v.trams.length:=by simpa using hd
    omega
   rw [hk1]
   (repeat (first|simp only [↓QA,QB,Nat.reduceLT,reduceIte,Nat.reduceEqDiff,Nat.reduceAdd,Nat.reduceLeDiff,Nat.reduceMul,Nat.reduceBEq,lC,hR.len,hR.base,hR.base0,hR.bset,hR.bset0,hR.at1,hR.at0]|refine rd0 rfl ?_))
   exact .inl ⟨hR2,[.cells (bC 3 (bR (cQ v c)))],rfl⟩
end Go.Am.Room
set_option maxRecDepth 8000
namespace Go.Am.Room
def oN:=And.intro @aZ (And.intro @aK (And.intro @aR (And.intro @aT (And.intro @aS (And.intro @aQ (And.intro @aY (And.intro @aW (And.intro @aV (And.intro @dL (And.intro @dR (And.intro @Nat.not_lt_zero (And.intro @List.length_append.{0} (And.intro @Nat.zero_add (And.intro @Nat.mul_one (And.intro @Int.toNat_natCast (And.intro @dO (And.intro @eR (And.intro @eQ (And.intro @jY (And.intro @eN (And.intro @gB (And.intro @gE (And.intro @gC (And.intro @gG (And.intro @gH (And.intro @gD (And.intro @Nat.add_lt_add_iff_left (And.intro @Nat.lt_add_right_iff_pos (And.intro @nC (@m8))))))))))))))))))))))))))))))
def BO (v:Net) (h:v.trams.length≤6):B64:=lB (fW v) v.trams.length (TL v []) (j4 _ h)
def D6 (v:Net) (h:v.trams.length≤6) (A:List K5):List K5:=(eO v [] (nA (fW v) v.trams.length) (j4 _ h) A).1.2
theorem BC {A:Type} (fine:A→Nat→Bool) (n:Nat) (l:List A) (x:B64):bJ (nA fine n) l x=(lB fine n l x,true):=zO (zT fine n) l x
theorem BN {S:List K5→St} {v:Net} {b p m N:Nat} (hR:MemAt S (db v b m) (tEs v) p m N) (hv:Vd v) (hb:ButIs b []) (h6:v.trams.length≤6) (A:List K5) :
  xP T (.func 84 [] []) [.ptr p 0] (S A) (.tuple [.int .i64 ((BO v h6).1.1:Nat),.int .i64 ((BO v h6).1.2:Nat)]) (S (D6 v h6 A)):=by
 have hit:=BC (fW v) v.trams.length (TL v []) (j4 _ h6)
 obtain ⟨Y,hY⟩:∃ Y,lB (fW v) v.trams.length (TL v []) (j4 _ h6)=Y:=⟨_,rfl⟩
 have hl:BO v h6=Y:=hY
 rw [hY] at hit
 rw [hl]
 have hsh:=sQ v.trams.length (by omega)
 have hp2:=i9 (show v.trams.length≤60 by omega)
 have hw:IntKind.i64.wrap (((2^v.trams.length:Nat):Int)-1)=((2^v.trams.length-1:Nat):Int):=by
  have:=Nat.two_pow_pos v.trams.length
  rw [dZ ⟨by omega,by omega⟩];omega
 have hok:∀ (x:B64) (y:ABlk),y∈pQ p x→∀ k,N≤k→aN k y:=by
  intro x y hy k hk
  have hpl:=hR.pl
  simp only [pQ,List.mem_cons,List.not_mem_nil,or_false] at hy
  rcases hy with rfl|rfl|rfl|rfl<;>simp [aN,okVs,okV,Q6]<;>omega
 refine vM hR (af:=a84) rfl (by simp [a84]) ?_
 have hrg:=lH hR hv hb (pQ p) (pQ p) 4 (fun _=>rfl) (fun _=>rfl) hok hok .ret (f:=nA (fW v) v.trams.length)
 (repeat (first|simp only [↓QA,QB,Nat.reduceLT,reduceIte,Nat.reduceEqDiff,Nat.reduceAdd,Nat.reduceLeDiff,Nat.reduceMul,Nat.reduceBEq,oN,hR.len,hR.base,hR.base0,hR.bset,hR.bset0,hR.at1,hR.at0,a84,hsh,hw]|refine rd0 rfl ?_))
 refine qK rfl (by simp [a80]) ?_
 (repeat (first|simp only [↓QA,QB,Nat.reduceLT,reduceIte,Nat.reduceEqDiff,Nat.reduceAdd,Nat.reduceLeDiff,Nat.reduceMul,Nat.reduceBEq,oN,hR.len,hR.base,hR.base0,hR.bset,hR.bset0,hR.at1,hR.at0,a80]|refine rd0 rfl ?_))
 refine hrg _ 19 [20,21] _ _ ?_ ?_ (j4 _ h6) A _ ?_ ?_
 ·try simp only [aD,QE,Nat.reduceLT,reduceIte,Nat.reduceEqDiff,Nat.reduceAdd,Nat.reduceLeDiff,Nat.reduceMul,Nat.reduceBEq,oN,hR.len,hR.base,hR.base0,hR.bset,hR.bset0,hR.at1,hR.at0]
 ·refine m9 (S:=fun _=>S) (fun _=>hR) (pQ p) (pQ p) 4 (fun _=>rfl) (fun _=>rfl) .ret _ _ (nX v) (fun _ _ _=>rfl) _ _ ?_
  intro c _ fl tk x B τ
  simp only [jV,nX]
  obtain ⟨R,hRr⟩:∃ R,nA (fW v) v.trams.length c x=R:=⟨_,rfl⟩
  rw [hRr]
  have lb:=fun lp e G=>CB hR hv c x B lp τ e G
  simp only [pQ,CV] at lb ⊢
  (repeat (first|simp only [↓QA,QB,Nat.reduceLT,reduceIte,Nat.reduceEqDiff,Nat.reduceAdd,Nat.reduceLeDiff,Nat.reduceMul,Nat.reduceBEq,oN,hR.len,hR.base,hR.base0,hR.bset,hR.bset0,hR.at1,hR.at0]|refine rd0 rfl ?_))
  refine ⟨[.cells (bC 3 (bR (cQ v c)))],by simp,?_⟩
  simp only [←CV]
  refine CB hR hv c x B _ τ _ _ ?_ ?_ ?_ ?_ ?_ R hRr
  all_goals try simp only [aD,QE,Nat.reduceLT,reduceIte,Nat.reduceEqDiff,Nat.reduceAdd,Nat.reduceLeDiff,Nat.reduceMul,Nat.reduceBEq,oN,hR.len,hR.base,hR.base0,hR.bset,hR.bset0,hR.at1,hR.at0]
 ·intro τ h2
  rw [hit]
  simp only [pQ]
  (repeat (first|simp only [↓QA,QB,Nat.reduceLT,reduceIte,Nat.reduceEqDiff,Nat.reduceAdd,Nat.reduceLeDiff,Nat.reduceMul,Nat.reduceBEq,oN,hR.len,hR.base,hR.base0,hR.bset,hR.bset0,hR.at1,hR.at0]|refine rd0 rfl ?_))
  refine ⟨_,_,rfl,rfl,?_⟩
  try simp only [QS,QC,Nat.reduceLT,reduceIte,Nat.reduceEqDiff,Nat.reduceAdd,Nat.reduceLeDiff,Nat.reduceMul,Nat.reduceBEq,oN,hR.len,hR.base,hR.base0,hR.bset,hR.bset0,hR.at1,hR.at0]
 ·intro τ h2
  rw [hit] at h2
  cases h2
end Go.Am.Room
set_option maxRecDepth 8000
namespace Go.Am.Room
def dC:=And.intro @aZ (And.intro @aK (And.intro @aR (And.intro @aT (And.intro @aS (And.intro @aQ (And.intro @aY (And.intro @aW (And.intro @aV (And.intro @dL (And.intro @dR (And.intro @Nat.not_lt_zero (And.intro @List.length_append.{0} (And.intro @Nat.zero_add (And.intro @Nat.mul_one (And.intro @Int.toNat_natCast (And.intro @Nat.add_lt_add_iff_left (@Nat.lt_add_right_iff_pos)))))))))))))))))
theorem FT (v:Net) (hf:Fits v):eC T 25 [dH v] (qU (u3 v)):=by
 refine bA (af:=a25) rfl (by simp [a25]) dd ?_
 have her:=fun σ=>rR σ v [] (.inl rfl) hf
 simp only [List.map_nil,k8,oJ,kP] at her
 (repeat (first|simp only [↓QA,QB,Nat.reduceLT,reduceIte,Nat.reduceEqDiff,Nat.reduceAdd,Nat.reduceLeDiff,Nat.reduceMul,Nat.reduceBEq,dC,a25]|refine rd0 rfl ?_))
 refine cO (her _) ?_
 by_cases h0:fG v=0
 ·obtain ⟨hv,hne⟩:=rN h0
  have hnt:=hv.ntr
  have h6:v.trams.length≤6:=by omega
  obtain ⟨hl1,hl2⟩:=D5 hv h6
  have hld:=BN (yI [.cells (aB v)] v) hv KQ h6 (nS v)
  have hlt:=(BO v h6).2
  obtain ⟨⟨⟨P,Q⟩,hPQ⟩,hY⟩:∃ Y,BO v h6=Y:=⟨_,rfl⟩
  have hYl:lB (fW v) v.trams.length (TL v []) (j4 _ h6)=⟨(P,Q),hPQ⟩:=hY
  rw [hYl] at hl1 hl2
  rw [hY] at hld
  simp only at hl1 hl2 hld hPQ
  have hm:u3 v=(lst v.trams.length P,lst v.trams.length Q,0):=by rw [u3,if_pos h0,hl1,hl2]
  have hlo1:=rM P v.trams.length (by omega) (by omega)
  have hlo2:=rM Q v.trams.length (by omega) (by omega)
  rw [if_pos h0,if_pos h0,hm]
  simp only [j3] at hld ⊢
  try simp only [↓QA,QB,Nat.reduceLT,reduceIte,Nat.reduceEqDiff,Nat.reduceAdd,Nat.reduceLeDiff,Nat.reduceMul,Nat.reduceBEq,dC] at hld
  (repeat (first|simp only [↓QA,QB,Nat.reduceLT,reduceIte,Nat.reduceEqDiff,Nat.reduceAdd,Nat.reduceLeDiff,Nat.reduceMul,Nat.reduceBEq,dC,show ((0:Int)==0)=true from rfl]|refine rd0 rfl ?_))
  refine cO hld ?_
  (repeat (first|simp only [↓QA,QB,Nat.reduceLT,reduceIte,Nat.reduceEqDiff,Nat.reduceAdd,Nat.reduceLeDiff,Nat.reduceMul,Nat.reduceBEq,dC]|refine rd0 rfl ?_))
  ((first|refine aF (hlo1) rfl dd ?_|refine aH (hlo1) rfl dd ?_);(repeat (first|simp only [↓QA,QB,Nat.reduceLT,reduceIte,Nat.reduceEqDiff,Nat.reduceAdd,Nat.reduceLeDiff,Nat.reduceMul,Nat.reduceBEq,dC]|refine rd0 rfl ?_)))
  ((first|refine aF (hlo2) rfl dd ?_|refine aH (hlo2) rfl dd ?_);(repeat (first|simp only [↓QA,QB,Nat.reduceLT,reduceIte,Nat.reduceEqDiff,Nat.reduceAdd,Nat.reduceLeDiff,Nat.reduceMul,Nat.reduceBEq,dC,qU]|refine rd0 rfl ?_)))
 ·have h0':(fG v==0)=false:=by simpa using h0
  have hm:u3 v=([],[],fG v):=by rw [u3,if_neg h0]
  rw [if_neg h0,if_neg h0,hm]
  (repeat (first|simp only [↓QA,QB,Nat.reduceLT,reduceIte,Nat.reduceEqDiff,Nat.reduceAdd,Nat.reduceLeDiff,Nat.reduceMul,Nat.reduceBEq,dC,h0',qU]|refine rd0 rfl ?_))
  try rfl
theorem lP (v:Net) (hf:Fits v):eC T 28 [dH v] (zM (lK v)):=by
 refine bA (af:=a28) rfl (by simp [a28]) dd ?_
 have her:=fun σ=>rR σ v [] (.inl rfl) hf
 simp only [List.map_nil,k8,oJ,kP] at her
 (repeat (first|simp only [↓QA,QB,Nat.reduceLT,reduceIte,Nat.reduceEqDiff,Nat.reduceAdd,Nat.reduceLeDiff,Nat.reduceMul,Nat.reduceBEq,dC,a28]|refine rd0 rfl ?_))
 refine cO (her _) ?_
 by_cases h0:fG v=0
 ·obtain ⟨hv,hne⟩:=rN h0
  have hnt:=hv.ntr
  have h6:v.trams.length≤6:=by omega
  obtain ⟨hl1,hl2⟩:=D5 hv h6
  have hld:=BN (yI [.cells (aB v)] v) hv KQ h6 (nS v)
  obtain ⟨⟨⟨P,Q⟩,hPQ⟩,hY⟩:∃ Y,BO v h6=Y:=⟨_,rfl⟩
  have hYl:lB (fW v) v.trams.length (TL v []) (j4 _ h6)=⟨(P,Q),hPQ⟩:=hY
  rw [hYl] at hl1 hl2
  rw [hY] at hld
  simp only at hl1 hl2 hld hPQ
  have hin:=SU (v:=v) (l:=bZ v [])
  have hml:=N2 v (bZ v [])
  have hlo2:=rM Q v.trams.length (by omega) (by omega)
  rw [hl2] at hlo2
  obtain ⟨M,hM⟩:∃ M,EG v (bZ v [])=M:=⟨_,rfl⟩
  have hfo:lK v=if M=[] then (0,9) else (iT v M (-1),0):=by rw [lK,if_pos h0,hM]
  rw [hM] at hlo2 hml
  simp only [hM] at hin
  obtain ⟨Z,hZ⟩:∃ Z,iT v M (-1)=Z:=⟨_,rfl⟩
  have hZM:(Z<0↔M=[]):=by
   have key:∀ (l:List Int) (b:Int),(∀ t∈l,0≤t)→(iT v l b<0↔b<0∧l=[]):=by
    intro l
    induction l with
    |nil=>intro b _;simp [iT]
    |cons t l ih =>
     intro b h
     have ht:=h t (by simp)
     rw [iT,ih _ fun x hx=>h x (by simp [hx])]
     split<;>simp_all<;>omega
   rw [←hZ,key M (-1) fun t ht=>(hin t ht).1]
   simp
  have hfo2:lK v=if Z<0 then (0,9) else (Z,0):=by
   rw [hfo,hZ]
   by_cases h:M=[]
   ·rw [if_pos h,if_pos (hZM.2 h)]
   ·rw [if_neg h,if_neg fun q=>h (hZM.1 q)]
  rw [if_pos h0,if_pos h0,hfo2]
  simp only [j3] at hld ⊢
  try simp only [↓QA,QB,Nat.reduceLT,reduceIte,Nat.reduceEqDiff,Nat.reduceAdd,Nat.reduceLeDiff,Nat.reduceMul,Nat.reduceBEq,dC] at hld
  (repeat (first|simp only [↓QA,QB,Nat.reduceLT,reduceIte,Nat.reduceEqDiff,Nat.reduceAdd,Nat.reduceLeDiff,Nat.reduceMul,Nat.reduceBEq,dC,show ((0:Int)==0)=true from rfl]|refine rd0 rfl ?_))
  refine cO hld ?_
  (repeat (first|simp only [↓QA,QB,Nat.reduceLT,reduceIte,Nat.reduceEqDiff,Nat.reduceAdd,Nat.reduceLeDiff,Nat.reduceMul,Nat.reduceBEq,dC]|refine rd0 rfl ?_))
  ((first|refine aF (hlo2) rfl dd ?_|refine aH (hlo2) rfl dd ?_);(repeat (first|simp only [↓QA,QB,Nat.reduceLT,reduceIte,Nat.reduceEqDiff,Nat.reduceAdd,Nat.reduceLeDiff,Nat.reduceMul,Nat.reduceBEq,dC]|refine rd0 rfl ?_)))
  refine dJ (S:=Nat×Int) (0,-1) (fun a=>a.1≤M.length∧a.2<v.trams.length∧iT v (M.drop a.1) a.2=Z) (fun a=>M.length-a.1)
   (fun a=>[(1,.ptr 0 0),(8,.int .i64 a.2),(28,ints M),(29,.int .i64 M.length),(30,.int .i64 a.1)]) (fun a=>[.cells (aB v),.cells (aB v),.cells (aB v),.map (tEs v (D6 v h6 (nS v))),.cells (db v 0 3)]) ⟨Nat.zero_le _,by simp only;omega,hZ⟩ (by simp [aB,ints]) ?_ fun a ha=>?_
  ·try simp only [aD,QE,Nat.reduceLT,reduceIte,Nat.reduceEqDiff,Nat.reduceAdd,Nat.reduceLeDiff,Nat.reduceMul,Nat.reduceBEq,dC,ints]
   try simp
  ·obtain ⟨k,b⟩:=a
   obtain ⟨hk,hb,hgo⟩:=ha
   simp only at hk hb hgo
   (repeat (first|simp only [↓QA,QB,Nat.reduceLT,reduceIte,Nat.reduceEqDiff,Nat.reduceAdd,Nat.reduceLeDiff,Nat.reduceMul,Nat.reduceBEq,dC,VW]|refine rd0 rfl ?_))
   refine aI (fun h2=>?_) fun h2=>?_
   ·have hk1:k<M.length:=by simpa using h2
    have hw:=cM hk1 (by omega)
    have hx:=hin _ (List.getElem_mem hk1)
    rw [C7 hk1] at hgo
    obtain ⟨x,hxe⟩:∃ x:Nat,M[k]=(x:Int):=⟨M[k].toNat,by omega⟩
    rw [hxe] at hx hgo
    have hx1:x<v.trams.length:=by omega
    (repeat (first|simp only [↓QA,QB,Nat.reduceLT,reduceIte,Nat.reduceEqDiff,Nat.reduceAdd,Nat.reduceLeDiff,Nat.reduceMul,Nat.reduceBEq,dC,hk1,hxe]|refine rd0 rfl ?_))
    cases hbn:decide (b<0)
    ·have hbn':¬b<0:=by simpa using hbn
     obtain ⟨B,rfl⟩:∃ B:Nat,b=(B:Int):=⟨b.toNat,by omega⟩
     have hB1:B<v.trams.length:=by omega
     rw [Int.toNat_natCast,Int.toNat_natCast,OJ hx1,OJ hB1] at hgo
     obtain ⟨zx,hzx⟩:∃ z,v.trams[x]=z:=⟨_,rfl⟩
     obtain ⟨zb,hzb⟩:∃ z,v.trams[B]=z:=⟨_,rfl⟩
     rw [hzx,hzb] at hgo
     cases q:decide (zx.due<zb.due)
     ·have q':¬zx.due<zb.due:=by simpa using q
      rw [if_neg (by omega)] at hgo
      (repeat (first|simp only [↓QA,QB,Nat.reduceLT,reduceIte,Nat.reduceEqDiff,Nat.reduceAdd,Nat.reduceLeDiff,Nat.reduceMul,Nat.reduceBEq,dC,hbn,hx1,hB1,hzx,hzb,q,hw]|refine rd0 rfl ?_))
      refine ⟨(k+1,(B:Int)),⟨by simp only;omega,by simp only;omega,hgo⟩,by simp only;omega,?_⟩
      try simp only [aD,QE,Nat.reduceLT,reduceIte,Nat.reduceEqDiff,Nat.reduceAdd,Nat.reduceLeDiff,Nat.reduceMul,Nat.reduceBEq,dC,hw,ints]
      try simp [aN]
     ·have q':zx.due<zb.due:=by simpa using q
      rw [if_pos (.inr q')] at hgo
      (repeat (first|simp only [↓QA,QB,Nat.reduceLT,reduceIte,Nat.reduceEqDiff,Nat.reduceAdd,Nat.reduceLeDiff,Nat.reduceMul,Nat.reduceBEq,dC,hbn,hx1,hB1,hzx,hzb,q,hw]|refine rd0 rfl ?_))
      refine ⟨(k+1,(x:Int)),⟨by simp only;omega,by simp only;omega,hgo⟩,by simp only;omega,?_⟩
      try simp only [aD,QE,Nat.reduceLT,reduceIte,Nat.reduceEqDiff,Nat.reduceAdd,Nat.reduceLeDiff,Nat.reduceMul,Nat.reduceBEq,dC,hw,ints]
      try simp [aN]
    ·have hbn':b<0:=by simpa using hbn
     rw [if_pos (.inl hbn')] at hgo
     (repeat (first|simp only [↓QA,QB,Nat.reduceLT,reduceIte,Nat.reduceEqDiff,Nat.reduceAdd,Nat.reduceLeDiff,Nat.reduceMul,Nat.reduceBEq,dC,hbn,hw]|refine rd0 rfl ?_))
     refine ⟨(k+1,(x:Int)),⟨by simp only;omega,by simp only;omega,hgo⟩,by simp only;omega,?_⟩
     try simp only [aD,QE,Nat.reduceLT,reduceIte,Nat.reduceEqDiff,Nat.reduceAdd,Nat.reduceLeDiff,Nat.reduceMul,Nat.reduceBEq,dC,hw,ints]
     try simp [aN]
   ·have hk1:k=M.length:=by simp at h2;omega
    rw [hk1,List.drop_length,iT] at hgo
    subst hgo
    cases q:decide (b<0)
    ·have q':¬b<0:=by simpa using q
     rw [if_neg q']
     (repeat (first|simp only [↓QA,QB,Nat.reduceLT,reduceIte,Nat.reduceEqDiff,Nat.reduceAdd,Nat.reduceLeDiff,Nat.reduceMul,Nat.reduceBEq,dC,q,zM]|refine rd0 rfl ?_))
     try try simp only [QS,QC,Nat.reduceLT,reduceIte,Nat.reduceEqDiff,Nat.reduceAdd,Nat.reduceLeDiff,Nat.reduceMul,Nat.reduceBEq,dC]
    ·have q':b<0:=by simpa using q
     rw [if_pos q']
     (repeat (first|simp only [↓QA,QB,Nat.reduceLT,reduceIte,Nat.reduceEqDiff,Nat.reduceAdd,Nat.reduceLeDiff,Nat.reduceMul,Nat.reduceBEq,dC,q,zM]|refine rd0 rfl ?_))
     try try simp only [QS,QC,Nat.reduceLT,reduceIte,Nat.reduceEqDiff,Nat.reduceAdd,Nat.reduceLeDiff,Nat.reduceMul,Nat.reduceBEq,dC]
 ·have h0':(fG v==0)=false:=by simpa using h0
  have hm:lK v=(0,fG v):=by rw [lK,if_neg h0]
  rw [if_neg h0,if_neg h0,hm]
  (repeat (first|simp only [↓QA,QB,Nat.reduceLT,reduceIte,Nat.reduceEqDiff,Nat.reduceAdd,Nat.reduceLeDiff,Nat.reduceMul,Nat.reduceBEq,dC,h0',zM]|refine rd0 rfl ?_))
  try rfl
end Go.Am.Room
set_option maxRecDepth 8000
namespace Go.Am.Room
def gI:=And.intro @aZ (And.intro @aK (And.intro @aR (And.intro @aT (And.intro @aS (And.intro @aQ (And.intro @aY (And.intro @aW (And.intro @aV (And.intro @dL (And.intro @dR (And.intro @Nat.not_lt_zero (And.intro @List.length_append.{0} (And.intro @Nat.zero_add (And.intro @Nat.mul_one (And.intro @Int.toNat_natCast (And.intro @Nat.add_lt_add_iff_left (And.intro @Nat.lt_add_right_iff_pos (And.intro @dO (And.intro @eR (And.intro @eQ (And.intro @jY (@eN))))))))))))))))))))))
theorem vC (σ:St) (v:Net) (ns:List Int) (hns:ns=[]∨∃ t,ns=[t,(v.trams.length:Int)]) (hf:Fits v) (h:uB v ns=0):xP T (.func 79 [] []) [dH v,.lit (ns.map (.int .i64)) true none] σ (.tuple [.ptr (σ.length+3) 0,.int .i64 0]) (j3 σ v (nS v)):=by
 have:=rR σ v ns hns hf
 rwa [k8,if_pos h,oJ,if_pos h] at this
theorem y9 (σ:St) (v:Net) (ns:List Int) (hns:ns=[]∨∃ t,ns=[t,(v.trams.length:Int)]) (hf:Fits v) (h:uB v ns≠0):xP T (.func 79 [] []) [dH v,.lit (ns.map (.int .i64)) true none] σ (.tuple [.nilPtr,.int .i64 (uB v ns)]) σ:=by
 have:=rR σ v ns hns hf
 rwa [k8,if_neg h,oJ,if_neg h] at this
abbrev Com:=Span×Bool×Bool
def cU (x:Com):St:=[.cells [.bool x.2.1],.cells [.bool x.2.2]]
theorem WM (N:Nat) (x:Com) (y:ABlk) (hy:y∈cU x) (k:Nat) (hk:N≤k):aN k y:=by
 simp only [cU,List.mem_cons,List.not_mem_nil,or_false] at hy
 rcases hy with rfl|rfl<;>simp [aN,okVs,okV]
def cS (v:Net) (t:Nat) (x:Com) (A:List K5):St:=j3 [.cells (aB v),.cells [.int .i64 t],.cells [.int .i64 x.1.lo,.int .i64 x.1.hi]] v A
theorem U4 (v:Net) (t:Nat) (x:Com):MemAt (cS v t x) (db v 0 5) (tEs v) 6 5 7:=yI [.cells (aB v),.cells [.int .i64 t],.cells [.int .i64 x.1.lo,.int .i64 x.1.hi]] v
theorem RU (v:Net) (t:Nat) (x:Com) (A:List K5) (y:Com) (B:List K5) (k i:Nat) (hk:7≤k) (hi:i<7):d7 (cS v t x A) (cS v t y B) k i:=by
 match i,hi with
 |0,_=>exact .inl rfl
 |1,_=>exact .inl rfl
 |2,_=>exact .inr (.inl ⟨_,rfl,by simp [aN,okVs,okV]⟩)
 |3,_=>exact .inl rfl
 |4,_=>exact .inl rfl
 |5,_=>exact .inr (.inl ⟨_,rfl,pS v B k⟩)
 |6,_=>exact .inl rfl
def Q0 (v:Net) (t:Nat) (c:List Int) (x:Com):Com×Bool:=(QU (fL (cQ v c) (t:Int)) x,true)
theorem lS (v:Net) (hf:Fits v) (n:Int):eC T 23 [dH v,.int .i64 n] (qW (pW v n)):=by
 refine bA (af:=a23) rfl (by simp [a23]) dd ?_
 (repeat (first|simp only [↓QA,QB,Nat.reduceLT,reduceIte,Nat.reduceEqDiff,Nat.reduceAdd,Nat.reduceLeDiff,Nat.reduceMul,Nat.reduceBEq,gI,a23]|refine rd0 rfl ?_))
 by_cases h0:lJ v n=0
 ·have hck:(cF v).2.2=0∧inR n 0 ((v.trams.length:Int)-1)=true∧bZ v []≠[]:=by
   have h1:=h0
   by_cases q:(cF v).2.2=0
   ·cases q2:inR n 0 ((v.trams.length:Int)-1)
    ·simp [lJ,gZ,q,q2] at h1
    ·refine ⟨q,rfl,fun e=>?_⟩
     simp [lJ,gZ,q,q2,e] at h1
   ·simp [lJ,gZ,q] at h1
  obtain ⟨hc0,hin,hne⟩:=hck
  have hv:=g7 hc0
  have hnt:=hv.ntr
  rw [cX] at hin
  obtain ⟨t,rfl⟩:∃ t:Nat,n=t:=⟨n.toNat,by omega⟩
  have htl:t<v.trams.length:=by omega
  have hmem:=HL (RN hv [] t)
  have hTne:AB v (TL v []) t≠[]:=by
   intro e
   have:TL v []=[]:=by simpa [AB] using e
   have h2:=JQ hv []
   rw [this] at h2
   simp at h2
   exact hne h2
  have hst:=EX hTne
  have hca:=R6 (AB v (TL v []) t)
  have hgo:=zO (f:=Q0 v t) (fun _ _=>rfl) (TL v []) (⟨0,0⟩,false,false)
  have hfd:(TL v []).foldl (fun x c=>(Q0 v t c x).1) (⟨0,0⟩,false,false)=(AB v (TL v []) t).foldl (fun x a=>QU a x) (⟨0,0⟩,false,false):=by
   rw [AB,List.foldl_map];rfl
  rw [hfd,hca] at hgo
  have hm:pW v t=((oZ (AB v (TL v []) t)).1,(oZ (AB v (TL v []) t)).2,0):=by rw [pW,if_pos h0,Int.toNat_natCast,hmem]
  obtain ⟨AT,hAT⟩:∃ AT,AB v (TL v []) t=AT:=⟨_,rfl⟩
  rw [hAT] at hm hgo hst
  have hcs:oZ AT=(fM (eG AT),d9 (eG AT).length AT.length):=rfl
  rw [hcs,hst] at hm
  obtain ⟨SP,hSP⟩:∃ SP,fM (eG AT)=SP:=⟨_,rfl⟩
  obtain ⟨EM,hEM⟩:∃ EM,(eG AT).isEmpty=EM:=⟨_,rfl⟩
  obtain ⟨SY,hSY⟩:∃ SY,AT.contains (-1)=SY:=⟨_,rfl⟩
  rw [hSP,hEM,hSY] at hgo
  rw [hSP,hEM,hSY] at hm
  rw [hm]
  have her:=fun σ=>vC σ v [(t:Int),(v.trams.length:Int)] (.inr ⟨_,rfl⟩) hf h0
  simp only [List.map_nil,List.map_cons] at her
  have hrng:=zZ (S:=cS v t) (U4 v t) (RU v t) (by decide) hv KQ cU cU 2 (fun _=>rfl) (fun _=>rfl) (WM _) (WM _) .ret (f:=Q0 v t)
  simp only [cS,j3] at hrng her
  simp only [aK] at hrng her
  refine cO (her _) ?_
  (repeat (first|simp only [↓QA,QB,Nat.reduceLT,reduceIte,Nat.reduceEqDiff,Nat.reduceAdd,Nat.reduceLeDiff,Nat.reduceMul,Nat.reduceBEq,gI,show ((0:Int)==0)=true from rfl]|refine rd0 rfl ?_))
  refine qK rfl (by simp [a80]) ?_
  (repeat (first|simp only [↓QA,QB,Nat.reduceLT,reduceIte,Nat.reduceEqDiff,Nat.reduceAdd,Nat.reduceLeDiff,Nat.reduceMul,Nat.reduceBEq,gI,a80]|refine rd0 rfl ?_))
  refine hrng _ 28 [29,30] _ _ ?_ ?_ (⟨0,0⟩,false,false) (nS v) _ ?_ ?_
  ·try simp only [aD,QE,Nat.reduceLT,reduceIte,Nat.reduceEqDiff,Nat.reduceAdd,Nat.reduceLeDiff,Nat.reduceMul,Nat.reduceBEq,gI]
  ·refine m9 (U4 v t) cU cU 2 (fun _=>rfl) (fun _=>rfl) .ret _ _ (nX v) (fun _ _ _=>rfl) _ _ ?_
   intro c _ fl tk x B τ
   have i3:(0:Int)≤(t:Int)∧(t:Int)<((3:Nat):Int):=⟨by omega,by omega⟩
   have hg:=iO 3 (bR (cQ v c)) (i:=t) (by omega)
   have hcf:bR (cQ v c) t=fL (cQ v c) (t:Int):=rfl
   rw [hcf] at hg
   have hta:∀ (b0 b1 b2 b3 b4 b5 b6 b7 b8 b9 b10:ABlk),aG (b0::b1::b2::b3::b4::b5::b6::b7::b8::b9::b10::(τ++[.cells (bC 3 (bR (cQ v c)))])) (τ.length+1+1+1+1+1+1+1+1+1+1+1)=some (bC 3 (bR (cQ v c))):=fun b0 b1 b2 b3 b4 b5 b6 b7 b8 b9 b10=>by
    simp only [pG]
    rw [iH];rfl
   obtain ⟨C,hC⟩:∃ C,fL (cQ v c) (t:Int)=C:=⟨_,rfl⟩
   have hcy:Q0 v t c x=(if C = -1 then (x.1,x.2.1,true) else if x.2.1=false then (⟨C,C⟩,true,x.2.2) else (kA x.1 C,true,x.2.2),true):=by rw [Q0,hC];rfl
   rw [hC] at hg
   rw [hcy]
   obtain ⟨⟨lo,hi⟩,ru,sy⟩:=x
   simp only [jV,nX,cS,j3,cU,aK]
   (repeat (first|simp only [↓QA,QB,Nat.reduceLT,reduceIte,Nat.reduceEqDiff,Nat.reduceAdd,Nat.reduceLeDiff,Nat.reduceMul,Nat.reduceBEq,gI]|refine rd0 rfl ?_))
   refine ⟨[.cells (bC 3 (bR (cQ v c)))],by simp,?_⟩
   cases q1:(C==-1)
   ·have q1':C≠-1:=by simpa using q1
    rw [if_neg q1']
    cases ru
    ·(repeat (first|simp only [↓QA,QB,Nat.reduceLT,reduceIte,Nat.reduceEqDiff,Nat.reduceAdd,Nat.reduceLeDiff,Nat.reduceMul,Nat.reduceBEq,gI,JU,hta,i3,hg,q1]|refine rd0 rfl ?_))
     exact .inl ⟨[.cells (bC 3 (bR (cQ v c)))],by simp⟩
    ·(repeat (first|simp only [↓QA,QB,Nat.reduceLT,reduceIte,Nat.reduceEqDiff,Nat.reduceAdd,Nat.reduceLeDiff,Nat.reduceMul,Nat.reduceBEq,gI,JU,hta,i3,hg,q1]|refine rd0 rfl ?_))
     exact .inl ⟨[.cells (bC 3 (bR (cQ v c)))],by simp [kA]⟩
   ·have q1':C = -1:=by simpa using q1
    rw [if_pos q1']
    (repeat (first|simp only [↓QA,QB,Nat.reduceLT,reduceIte,Nat.reduceEqDiff,Nat.reduceAdd,Nat.reduceLeDiff,Nat.reduceMul,Nat.reduceBEq,gI,JU,hta,i3,hg,q1]|refine rd0 rfl ?_))
    exact .inl ⟨[.cells (bC 3 (bR (cQ v c)))],by simp⟩
  ·intro τ h2
   rw [hgo]
   simp only [cU,cS,j3,aK]
   cases SY
   ·(repeat (first|simp only [↓QA,QB,Nat.reduceLT,reduceIte,Nat.reduceEqDiff,Nat.reduceAdd,Nat.reduceLeDiff,Nat.reduceMul,Nat.reduceBEq,gI,qW]|refine rd0 rfl ?_))
    try try simp only [QS,QC,Nat.reduceLT,reduceIte,Nat.reduceEqDiff,Nat.reduceAdd,Nat.reduceLeDiff,Nat.reduceMul,Nat.reduceBEq,gI]
   ·cases EM
    ·(repeat (first|simp only [↓QA,QB,Nat.reduceLT,reduceIte,Nat.reduceEqDiff,Nat.reduceAdd,Nat.reduceLeDiff,Nat.reduceMul,Nat.reduceBEq,gI,qW,Bool.true_eq_false,Bool.false_eq_true]|refine rd0 rfl ?_))
     try try simp only [QS,QC,Nat.reduceLT,reduceIte,Nat.reduceEqDiff,Nat.reduceAdd,Nat.reduceLeDiff,Nat.reduceMul,Nat.reduceBEq,gI]
    ·(repeat (first|simp only [↓QA,QB,Nat.reduceLT,reduceIte,Nat.reduceEqDiff,Nat.reduceAdd,Nat.reduceLeDiff,Nat.reduceMul,Nat.reduceBEq,gI,qW,Bool.true_eq_false,Bool.false_eq_true]|refine rd0 rfl ?_))
     try try simp only [QS,QC,Nat.reduceLT,reduceIte,Nat.reduceEqDiff,Nat.reduceAdd,Nat.reduceLeDiff,Nat.reduceMul,Nat.reduceBEq,gI]
  ·intro τ h2
   rw [hgo] at h2
   cases h2
 ·have h0':(lJ v n==0)=false:=by simpa using h0
  have hm:pW v n=(⟨0,0⟩,0,lJ v n):=by rw [pW,if_neg h0]
  have her:=fun σ=>y9 σ v [n,(v.trams.length:Int)] (.inr ⟨n,rfl⟩) hf h0
  simp only [List.map_nil,List.map_cons,OL] at her
  rw [hm]
  refine cO (her _) ?_
  (repeat (first|simp only [↓QA,QB,Nat.reduceLT,reduceIte,Nat.reduceEqDiff,Nat.reduceAdd,Nat.reduceLeDiff,Nat.reduceMul,Nat.reduceBEq,gI,h0',qW]|refine rd0 rfl ?_))
  try rfl
end Go.Am.Room
