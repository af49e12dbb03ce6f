/- A part of the proof of TramLast: an abstract machine, or what functions come to on it. -/
import Derived.Test.YtnjlkiflililkaaOutQ6
set_option linter.unusedVariables false
set_option linter.unusedSimpArgs false
set_option linter.defProp false
namespace Go.Am
variable {T:FuncId→Option AFunc}
theorem A1 {f:FuncId} {args:List AV} {v:AV} {af:AFunc} (hf:T f=some af) (hn:args.length≤af.ntmps) (hk:n8 args) (h:Run T (.code af.body (gP 0 args) []) fun o=>PZ af.results v o.j o.env o.σ):dR T f args v:=by
 intro σ
 refine .frame hk.1 (.inl rfl) (R:=fun o=>o.v=v∧o.σ=[]) (.call hf hn h fun o ho=>?_) fun o ho=>⟨ho.2,ho.1,rfl⟩
 obtain ⟨h1,v0,h2,h3⟩:=ho
 refine ⟨h1,v0,h2,?_⟩
 unfold cQ at h3
 cases hs:snap o.σ 0 20 v0 with
 |none=>rw [hs] at h3;cases h3
 |some v1 =>
  rw [hs] at h3
  simp at h3
  exact .inr ⟨20,v1,v,hs,.inr h3.symm,fun i hi=>absurd hi (by simp),by simp,rfl,by simp⟩
theorem NP {a b:ACode} {e:Env} {σ:St} {Q:Out→Prop} (R:Env→St→Prop) (h:wp T a e σ fun j e' σ'=>j=none∧R e' σ') (h2:∀ e' σ',R e' σ'→Run T (.code b e' σ') Q):Run T (.code (.seq a b) e σ) Q :=
 .seq (iL h fun o ho=>ho) (fun o ho _=>h2 _ _ ho.2) fun o ho hj=>absurd ho.1 hj
theorem B5 {a:ACode} {e:Env} {σ:St} {K:KJ} (h:wp T a e σ K):Run T (.code a e σ) fun o=>K o.j o.env o.σ:=iL h fun o ho=>ho
theorem MT {a b c:ACode} {e:Env} {σ:St} {Q:Out→Prop} (R S:Env→St→Prop) (h:wp T (.seq a b) e σ fun j e' σ'=>j=none∧R e' σ')
  (h2:∀ e' σ',R e' σ'→∃ env1 σ1 env2 σ2,xW σ e' σ' env1 σ1∧((env2=env1∧σ2=σ1)∨OL σ.length env1 σ1 env2 σ2)∧S env2 σ2)
  (h3:∀ e σ,S e σ→Run T (.code c e σ) Q):Run T (.code (.seq a (.seq b c)) e σ) Q:=by
 refine Run.chain (a0:=a) (az:=[b]) (c:=c) (R:=fun o=>o.j=none∧R o.env o.σ) (S:=S) ?_ (fun o ho hj=>absurd ho.1 hj) (fun o ho _=>h2 _ _ ho.2) h3
 refine .chainCons (iL (show wp T a e σ _ from by simpa only [wp] using h) fun o ho=>ho) (fun o ho hj=>?_) fun o ho hj=>?_
 ·rw [hj] at ho
  simp only [pS] at ho
  exact .chainCons (iL ho fun o ho=>ho) (fun o ho _=>.chainNil ⟨rfl,ho.2⟩) fun o ho hj=>absurd ho.1 hj
 ·cases hq:o.j with
  |none=>exact absurd hq hj
  |some q=>rw [hq] at ho;simp only [pS] at ho;exact absurd ho.1 (by simp)
end Go.Am
namespace Go.Am.Room
theorem s8 {α:Type} {f:Nat→α→Int}:∀ {l:List α} {i:Nat},(∀ x∈l,∀ k,f k x=0)→bK f l i=none
 |[],_,_=>rfl
 |x::xs,i,h=>by
  simp only [bK]
  rw [if_pos (h x (by simp) i)]
  exact s8 fun y hy=>h y (by simp [hy])
theorem wZ {α:Type} {f:Nat→α→Int}:∀ {l:List α} {i:Nat},(∀ k (h:k<l.length),f (i+k) l[k]=0)→bK f l i=none
 |[],_,_=>rfl
 |x::xs,i,h=>by
  simp only [bK]
  rw [if_pos (show f i x=0 from h 0 (by simp))]
  exact wZ fun k hk=>by have:=h (k+1) (by simpa using hk);simpa [Nat.add_assoc,Nat.add_comm 1 k] using this
theorem tU {v:Net} (h:Vd v):cA v=(0,0,0):=by
 have h1:=h.st
 have h2:=h.nra
 have h3:=h.ntr
 have h4:=h.nse
 have g2:bK (fun _ r=>dA v r) v.rails 0=none:=s8 fun r hr k=>yS.2 (h.ra r hr)
 have g3:bK (iF v) v.trams 0=none:=wZ fun k hk=>by simpa using h.tr k hk
 have g4:bK (jX v) v.seen 0=none:=s8 fun x hx k=>by
  have:=h.se x hx
  have a:inR x.tram 0 ((v.trams.length:Int)-1)=true:=d5.2 (by omega)
  have b:inR x.minute (-1) 400=true:=d5.2 (by omega)
  simp [jX,a,b]
 have e4:nP v=(0,0,0):=by rw [nP,if_neg (by omega),g4]
 have e3:nY v=(0,0,0):=by rw [nY,if_neg (by omega),g3];exact e4
 have e2:nU v=(0,0,0):=by rw [nU,if_neg (by omega),g2];exact e3
 rw [cA,if_neg (by rw [Bool.not_eq_false];exact d5.2 h1)]
 exact e2
end Go.Am.Room
set_option maxRecDepth 8000
namespace Go.Am.Room
theorem g9 (a b:List Int) (ha:a.length<9223372036854775808) (hb:b.length<9223372036854775808):dR T 59 [ints a,ints b] (.bool (a.all b.contains)):=by
 refine bE (af:=a59) rfl (by simp [a59]) dd ?_
 (repeat (first|simp only [↓QA,QB,Nat.reduceLT,reduceIte,Nat.reduceEqDiff,Nat.reduceAdd,Nat.reduceLeDiff,Nat.reduceMul,Nat.reduceBEq,m6,a59]|refine rd0 rfl ?_))
 refine bY (S:=Nat) 0 (fun k=>k≤a.length∧(a.drop k).all b.contains=a.all b.contains) (fun k=>a.length-k) (fun k=>[(0,ints a),(1,ints b),(5,.int .i64 k)]) (fun _=>[]) ⟨by simp,by simp⟩ rfl ?_ fun k hk=>?_
 ·try simp only [aE,QE,Nat.reduceLT,reduceIte,Nat.reduceEqDiff,Nat.reduceAdd,Nat.reduceLeDiff,Nat.reduceMul,Nat.reduceBEq,m6]
  try simp
 ·obtain ⟨hk,hq⟩:=hk
  (repeat (first|simp only [↓QA,QB,Nat.reduceLT,reduceIte,Nat.reduceEqDiff,Nat.reduceAdd,Nat.reduceLeDiff,Nat.reduceMul,Nat.reduceBEq,m6,aBZ]|refine rd0 rfl ?_))
  refine aG (fun h=>?_) fun h=>?_
  ·have hk1:k<a.length:=by simpa using h
   have hw:=bX hk1 ha
   rw [List.drop_eq_getElem_cons hk1,List.all_cons] at hq
   (repeat (first|simp only [↓QA,QB,Nat.reduceLT,reduceIte,Nat.reduceEqDiff,Nat.reduceAdd,Nat.reduceLeDiff,Nat.reduceMul,Nat.reduceBEq,m6,hk1]|refine rd0 rfl ?_))
   ((first|refine aC (iT b a[k] hb) rfl dd ?_|refine aD (iT b a[k] hb) rfl dd ?_);(repeat (first|simp only [↓QA,QB,Nat.reduceLT,reduceIte,Nat.reduceEqDiff,Nat.reduceAdd,Nat.reduceLeDiff,Nat.reduceMul,Nat.reduceBEq,m6,hk1]|refine rd0 rfl ?_)))
   cases h2:b.contains a[k]
   ·rw [h2,Bool.false_and] at hq
    (repeat (first|simp only [↓QA,QB,Nat.reduceLT,reduceIte,Nat.reduceEqDiff,Nat.reduceAdd,Nat.reduceLeDiff,Nat.reduceMul,Nat.reduceBEq,m6,←hq]|refine rd0 rfl ?_))
   ·rw [h2,Bool.true_and] at hq
    (repeat (first|simp only [↓QA,QB,Nat.reduceLT,reduceIte,Nat.reduceEqDiff,Nat.reduceAdd,Nat.reduceLeDiff,Nat.reduceMul,Nat.reduceBEq,m6,hk1]|refine rd0 rfl ?_))
    refine ⟨k+1,⟨by omega,hq⟩,by omega,?_⟩
    try simp only [aE,QE,Nat.reduceLT,reduceIte,Nat.reduceEqDiff,Nat.reduceAdd,Nat.reduceLeDiff,Nat.reduceMul,Nat.reduceBEq,m6,hw]
  ·have hk1:k=a.length:=by simp at h;omega
   rw [hk1,List.drop_length,List.all_nil] at hq
   (repeat (first|simp only [↓QA,QB,Nat.reduceLT,reduceIte,Nat.reduceEqDiff,Nat.reduceAdd,Nat.reduceLeDiff,Nat.reduceMul,Nat.reduceBEq,m6,←hq]|refine rd0 rfl ?_))
end Go.Am.Room
set_option maxRecDepth 8000
namespace Go.Am.Room
def jH (v:Net):Bool:=decide ((cA v).2.2=0)&&kT v []
end Go.Am.Room
set_option maxRecDepth 8000
namespace Go.Am.Room
theorem ZL {n m:Nat} (h:m≤n) (p:Int→Bool):((aU 0 m).filter p).length≤n:=by
 have:=List.length_filter_le p (aU 0 m)
 rw [lB] at this
 omega
theorem uH (v:Net):(oW v).1.length≤3∧(oW v).2.1.length≤3:=by
 unfold oW
 split
 ·rename_i h0
  have:=(mV h0).1.ntr
  exact ⟨ZL (by omega) _,ZL (by omega) _⟩
 ·simp
theorem E7 {v:Net} {but:List Int}:kT v but=true↔aJ v but≠[]:=by
 rw [kT]
 cases aJ v but<;>simp
theorem kS {v:Net}:jH v=true↔(cA v).2.2=0∧aJ v []≠[]:=by
 rw [jH,Bool.and_eq_true,decide_eq_true_eq,E7]
theorem XX {v:Net} (hs:jH v=true):eS v=0:=by
 obtain ⟨hc,hne⟩:=kS.1 hs
 rw [eS,hc]
 simp [fZ,hne]
theorem aKH {v:Net} (hs:jH v=true) {t:Nat} (ht:t<v.trams.length):hJ v (t:Int)=0:=by
 obtain ⟨hc,hne⟩:=kS.1 hs
 have hin:inR (t:Int) 0 ((v.trams.length:Int)-1)=true:=d5.2 (by omega)
 simp [hJ,fZ,hc,hne,hin]
theorem nD {v:Net} (hs:jH v=true) {t:Nat} (ht:t<v.trams.length):kP v (t:Int)=((bR (dY v (aJ v []) t)).1,(bR (dY v (aJ v []) t)).2,0):=by
 rw [kP,if_pos (aKH hs ht),Int.toNat_natCast]
theorem uL {v:Net} (hs:jH v=true):oW v=(j8 v (aJ v []),kQ v (aJ v []),0):=if_pos (XX hs)
variable {α:Type}
structure Cells (enc:α→AV) (c:α→List AV) (sz:Nat):Prop where
 agg:∀ x,enc x = .agg (c x)
 len:∀ x,(c x).length=sz
 one:sz≠1∧sz≠0
 cell:∀ x,(c x).all (·.cell)=true
 data:∀ x,mD (enc x)
variable {enc:α→AV} {c:α→List AV} {sz:Nat}
theorem oN (h:Cells enc c sz) (l:List α):aM sz (l.map enc)=true:=rR sz enc l fun y=>by
 rw [h.agg]
 simp only [cO,AV.cells,h.len,beq_self_eq_true,Bool.true_and]
 exact h.cell y
end Go.Am.Room
namespace Go.Am.Room
def dS (v:Net) (l:List Seen):Net:={ v with seen:=l }
def more (v:Net) (x:Seen):Net:=dS v (v.seen++[x])
def lW (C:List Int) (y:Seen):Seen:=⟨y.tram,cT C y.tram⟩
def told (v:Net) (C:List Int):Net:=dS v (v.seen.map (lW C))
def gK (v:Net) (x:Tram):Net:={ v with trams:=v.trams++[x] }
theorem WY (v:Net) (x:Tram):fY (gK v x)=fY v++[x.path]:=by simp [fY,gK]
theorem VW (v:Net) (x:Tram) {k:Nat} (h:k<v.trams.length):eI (fY (gK v x)) k=eI (fY v) k:=by
 rw [WY,A7 (by simpa [fY] using h)]
theorem MV (v:Net) (x:Tram) {k:Nat} (h:k<v.trams.length):jI (gK v x) k=jI v k:=by
 simp only [jI,gK,List.getElem?_append_left h]
theorem W4 (v:Net) (x:Tram) {k:Nat} (h:k<v.trams.length):qT (gK v x) k=qT v k:=by
 simp only [qT,gK,List.getElem?_append_left h]
theorem N2 (v:Net) (x:Tram) (m:Int→Int):∀ k,k≤v.trams.length→dB (gK v x) m (fY (gK v x)) k=dB v m (fY v) k
 |0,_=>rfl
 |k+1,h=>by simp only [dB,N2 v x m k (by omega),VW v x (show k<v.trams.length by omega),MV v x (show k<v.trams.length by omega)]
theorem EF (v:Net) (x:Tram) (s:State) {t:Nat} (h:t<v.trams.length):cT (aX (gK v x) s) t=cT (aX v s) t:=by
 have e:aX (gK v x) s=(dB v (eff s) (fY v) v.trams.length).2++[(j3 (eff s) v.trams.length (jI (gK v x) v.trams.length) (eI (fY (gK v x)) v.trams.length) (dB v (eff s) (fY v) v.trams.length).1).2]:=by
  have hl:(gK v x).trams.length=v.trams.length+1:=by simp [gK]
  rw [aX,iO,hl]
  simp only [dB,N2 v x (eff s) _ (Nat.le_refl _)]
 have hl:=mA v (eff s) (fY v) v.trams.length
 rw [e,aX,iO,cT,cT,Int.toNat_natCast,List.getElem?_append_left (by omega)]
theorem uT {v:Net} (h:v.seen=[]):aJ v []=bD v:=by
 rw [aJ,List.filter_eq_self]
 intro s _
 simp [jZ,h]
theorem yN {v:Net} (hv:Vd v) (h:v.seen=[]):jH v=true:=by
 refine kS.2 ⟨by rw [tU hv],?_⟩
 rw [uT h]
 obtain ⟨c,hc⟩:=List.exists_mem_of_ne_nil _ (GU hv)
 obtain ⟨s,hs,_⟩:=rP hv hc
 exact List.ne_nil_of_mem hs
theorem XF (v:Net) (x:Tram) (l:List State) {t:Nat} (h:t<v.trams.length):dY (gK v x) l t=dY v l t:=by
 simp only [dY,EF v x _ h]
theorem JA (v:Net) (x:Tram) (s:State) {t:Nat} (h:t<v.trams.length):mF (gK v x) t s=mF v t s:=by
 simp only [mF,jE,Int.toNat_natCast,EF v x s h,W4 v x h]
theorem I1 {p q:Int→Bool} {n:Nat} (h:∀ t:Nat,t<n→p t=true→q t=true):((aU 0 n).filter p).all ((aU 0 (n+1)).filter q).contains=true:=by
 rw [List.all_eq_true]
 intro t ht
 obtain ⟨h1,h2⟩:=List.mem_filter.1 ht
 rw [cC] at h1
 obtain ⟨k,rfl⟩:∃ k:Nat,t=k:=⟨t.toNat,by omega⟩
 exact List.contains_iff_mem.2 (List.mem_filter.2 ⟨(cC _ _ _).2 (by omega),h k (by omega) h2⟩)
theorem SZ (v:Net) (x:Tram) (l:List State):(j8 v l).all (j8 (gK v x) l).contains=true:=by
 have hl:(gK v x).trams.length=v.trams.length+1:=by simp [gK]
 simp only [j8,hl]
 refine I1 fun t ht hp=>?_
 rw [wX,List.all_eq_true] at hp ⊢
 exact fun s hs=>by rw [JA v x s ht];exact hp s hs
theorem aAA (v:Net) (x:Tram) (l:List State):(kQ v l).all (kQ (gK v x) l).contains=true:=by
 have hl:(gK v x).trams.length=v.trams.length+1:=by simp [gK]
 simp only [kQ,hl]
 refine I1 fun t ht hp=>?_
 rw [wT,List.any_eq_true] at hp ⊢
 obtain ⟨s,hs,q⟩:=hp
 exact ⟨s,hs,by rw [JA v x s ht];exact q⟩
end Go.Am.Room
namespace Go.Am
variable {T:FuncId→Option AFunc}
theorem IU {a x y:ACode} {e:Env} {σ:St} {Q:Out→Prop} {K:KJ} (h:wp T (.seq a x) e σ K) (hK:∀ j e' σ',K j e' σ'→j=none) (h2:∀ e' σ',wp T x e' σ' K→Run T (.code y e' σ') Q):Run T (.code (.seq a y) e σ) Q:=by
 refine .seq (iL (show wp T a e σ _ from by simpa only [wp] using h) fun o ho=>ho) (fun o ho hj=>?_) fun o ho hj=>?_
 ·rw [hj] at ho
  simp only [pS] at ho
  exact h2 _ _ ho
 ·cases hq:o.j with
  |none=>exact absurd hq hj
  |some q=>rw [hq] at ho;simp only [pS] at ho;exact absurd (hK _ _ _ ho) (by simp)
theorem KC {R:Env→St→Prop}:∀ j e' σ',(fun j e' σ'=>j=none∧R e' σ':KJ) j e' σ'→j=none:=fun _ _ _ h=>h.1
theorem IL {a b d:ACode} {e:Env} {σ:St} {Q:Out→Prop} (R:Env→St→Prop) (h:wp T (.seq a b) e σ fun j e' σ'=>j=none∧R e' σ') (h2:∀ e' σ',R e' σ'→Run T (.code d e' σ') Q):Run T (.code (.seq a (.seq b d)) e σ) Q :=
 IU h KC fun _ _ k=>NP R k h2
end Go.Am
namespace Go.Am
variable {T:FuncId→Option AFunc}
end Go.Am
set_option maxRecDepth 8000
namespace Go.Am.Room
def eA:=And.intro @bH (And.intro @aI (And.intro @aW (And.intro @aT (And.intro @aS (And.intro @aR (And.intro @bF (And.intro @bC (And.intro @bA (And.intro @dH (And.intro @List.length_append.{0} (@Int.toNat_natCast)))))))))))
def sS (x:Tram):List AV:=[.str x.name,.int .i64 x.frm,.int .i64 x.leaves,.int .i64 x.due,ints x.path]
theorem IA:Cells aZ sS 5:=⟨fun x=>by simp only [aZ,sS],fun x=>rfl,by decide,fun x=>rfl,iX⟩
def KK (v:Net):List AV:=[.int .i64 v.stations,.lit (v.rails.map cF) false none,.lit (v.trams.map aZ) false none,.lit [] true none]
def ND (v:Net) (y:Tram) (tk:Option Nat):List AV:=[.int .i64 v.stations,.lit (v.rails.map cF) false none,.lit ((v.trams++[y]).map aZ) false tk,.lit [] true none]
theorem UF (v:Net) (σ:St):E4 σ 3 (KK v) (aB (dS v [])):=by
 have h1:okV 3 (.lit (v.rails.map cF) false none):=okV_up _ (fJ jM v.rails).1
 have h2:okV 3 (.lit (v.trams.map aZ) false none):=okV_up _ (fJ iX v.trams).1
 exact ⟨.inl ⟨rfl,trivial⟩,.inl ⟨rfl,h1⟩,.inl ⟨rfl,h2⟩,.inr ⟨20,.lit [] true none,by simp [snap,snaps],.inr rfl⟩,trivial⟩
theorem P7 (v:Net) (y:Tram) (σ:St):E4 σ 3 (ND v y (some 3)) (aB (gK (dS v []) y)):=by
 have h1:okV 3 (.lit (v.rails.map cF) false none):=okV_up _ (fJ jM v.rails).1
 refine ⟨.inl ⟨rfl,trivial⟩,.inl ⟨rfl,h1⟩,.inr ⟨20,.lit ((v.trams++[y]).map aZ) false none,?_,.inl rfl⟩,.inr ⟨20,.lit [] true none,by simp [snap,snaps],.inr rfl⟩,trivial⟩
 simp only [snap,snaps_ok0 σ 3 20 _ (bL iX (v.trams++[y])).1]
 simp [Option.filter]
set_option maxHeartbeats 2000000 in
theorem IV (v:Net) (y:Tram) (hf:Fits v) (hy:y.name.size<9223372036854775808∧y.path.length<9223372036854775808) (hbig:v.trams.length*64≤140737488351232):dR T 16 [bI v,aZ y] (.bool true):=by
 refine A1 (af:=a16) rfl (by simp [a16]) dd ?_
 have hfn:Fits (dS v []):=⟨hf.rails,hf.trams,by simp [dS],hf.names,hf.paths⟩
 have hfm:Fits (gK (dS v []) y):=⟨hf.rails,by simp [gK,dS];omega,by simp [gK,dS],fun t ht=>by
  simp only [gK,dS,List.mem_append,List.mem_singleton] at ht
  rcases ht with ht|rfl
  ·exact hf.names t ht
  ·exact hy.1,fun t ht=>by
  simp only [gK,dS,List.mem_append,List.mem_singleton] at ht
  rcases ht with ht|rfl
  ·exact hf.paths t ht
  ·exact hy.2⟩
 simp only [a16]
 refine IL (fun ev σ=>Env.get ev 2 = .ptr 0 0∧Env.get ev 3 = .ptr 1 0∧σ=[.cells (KK v),.cells (sS y)]) ?_ fun ev σ ⟨e3,e4,hσ⟩=>?_
 ·(repeat (first|simp only [↓QA,QB,Nat.reduceLT,reduceIte,Nat.reduceEqDiff,Nat.reduceAdd,Nat.reduceLeDiff,Nat.reduceMul,Nat.reduceBEq,eA,sS,KK]|refine rd0 rfl ?_))
 subst hσ
 refine MT (fun ev σ=>∃ ex,Env.get ev 2 = .ptr 0 0∧Env.get ev 5 = .ptr 2 0∧σ=[.cells (KK v),.cells (sS y),.cells (ND v y (some 3)),.tok 5 (v.trams.length+1) ex])
  (fun ev σ=>Env.get ev 2 = .ptr 0 0∧Env.get ev 5 = .ptr 2 0∧σ=[.cells (aB (dS v [])),.cells (sS y),.cells (aB (gK (dS v []) y))]) ?_ ?_ ?_
 ·have hy1:aM 5 [aZ y]=true:=oN IA [y]
  have hal:=oN IA v.trams
  by_cases hlk:v.trams=[]
  ·have hnil:List.map aZ v.trams=[]:=by rw [hlk];rfl
   have hm:List.map aZ (v.trams++[y])=[aZ y]:=by rw [hlk];rfl
   have hl0:v.trams.length=0:=by rw [hlk];rfl
   have q2:∀ σ:St,dD 5 64 σ (.lit [] true none) (.lit [aZ y] true none)=some (.lit [aZ y] false (some σ.length),σ++[.tok 5 1 true]):=fun σ=>rD (xs:=[]) ⟨rfl,hy1,by simp [room],by simp [room]⟩ (by simp)
   simp only [aT,nI] at q2
   (repeat (first|simp only [↓QA,QB,Nat.reduceLT,reduceIte,Nat.reduceEqDiff,Nat.reduceAdd,Nat.reduceLeDiff,Nat.reduceMul,Nat.reduceBEq,eA,e3,e4,hnil,HE,q2,sS,KK]|refine rd0 rfl ?_))
   refine ⟨true,?_⟩
   try simp only [aE,QE,Nat.reduceLT,reduceIte,Nat.reduceEqDiff,Nat.reduceAdd,Nat.reduceLeDiff,Nat.reduceMul,Nat.reduceBEq,eA,e3,ND,KK,hnil,hm,hl0,sS]
  ·have hl1:(v.trams.map aZ).length≠0:=by simpa using hlk
   have q1:∀ σ:St,dD 5 64 σ (.lit [] true none) (.lit (v.trams.map aZ) false none)=some (.lit (v.trams.map aZ) false (some σ.length),σ++[.tok 5 v.trams.length true]):=fun σ=>by
    rw [rD (xs:=[]) ⟨rfl,hal,by simp [room];omega,by simp [room];omega⟩ hl1];simp
   have q2:∀ (b0 b1 b2:ABlk),dD 5 64 [b0,b1,b2,.tok 5 v.trams.length true] (.lit (v.trams.map aZ) false (some 3)) (.lit [aZ y] true none)=some (.lit ((v.trams++[y]).map aZ) false (some 3),[b0,b1,b2,.tok 5 (v.trams.length+1) true]):=fun b0 b1 b2=>by
    rw [uG (ex:=true) ⟨hal,hy1,by simp [room];omega,by simp [room];omega⟩ (by simp) (by simp)];simp
   simp only [aT,nI] at q2
   (repeat (first|simp only [↓QA,QB,Nat.reduceLT,reduceIte,Nat.reduceEqDiff,Nat.reduceAdd,Nat.reduceLeDiff,Nat.reduceMul,Nat.reduceBEq,eA,e3,e4,q1,q2,sS,KK]|refine rd0 rfl ?_))
   refine ⟨true,?_⟩
   try simp only [aE,QE,Nat.reduceLT,reduceIte,Nat.reduceEqDiff,Nat.reduceAdd,Nat.reduceLeDiff,Nat.reduceMul,Nat.reduceBEq,eA,e3,ND,KK,sS]
 ·rintro ev σ ⟨ex,q3,q5,rfl⟩
  refine ⟨[(2,.ptr 0 0),(5,.ptr 2 0)],[.cells (aB (dS v [])),.cells (sS y),.cells (aB (gK (dS v []) y))],_,_,⟨by simp,by simp,⟨.inl ⟨q3.symm,by simp [okV,q3]⟩,.inl ⟨q5.symm,by simp [okV,q5]⟩,trivial⟩,fun i hi=>?_⟩,.inl ⟨rfl,rfl⟩,rfl,rfl,rfl⟩
  match i,hi with
  |0,_=>exact ⟨_,rfl,.inr (.inr ⟨_,_,rfl,rfl,UF v _,.inr ⟨2,0,q3⟩⟩)⟩
  |1,_=>exact ⟨_,rfl,.inl ⟨by simp,.inl rfl,rfl⟩⟩
  |2,_=>exact ⟨_,rfl,.inr (.inr ⟨_,_,rfl,rfl,P7 v y _,.inl (by simp)⟩)⟩
  |i+3,h=>simp at h;omega
 ·rintro ev σ ⟨e3,e5,rfl⟩
  refine B5 ?_
  have hsee:(dS v []).seen=[]:=rfl
  have htr:(dS v []).trams=v.trams:=rfl
  obtain ⟨w,hw0⟩:∃ w,dS v []=w:=⟨_,rfl⟩
  rw [hw0] at hfn hfm hsee htr
  rw [hw0]
  cases hs:decide ((cA w).2.2=0)
  ·(repeat (first|simp only [↓QA,QB,Nat.reduceLT,reduceIte,Nat.reduceEqDiff,Nat.reduceAdd,Nat.reduceLeDiff,Nat.reduceMul,Nat.reduceBEq,eA,e3,e5]|refine rd0 rfl ?_))
   ((first|refine aC (eW w hfn) rfl dd ?_|refine aD (eW w hfn) rfl dd ?_);(repeat (first|simp only [↓QA,QB,Nat.reduceLT,reduceIte,Nat.reduceEqDiff,Nat.reduceAdd,Nat.reduceLeDiff,Nat.reduceMul,Nat.reduceBEq,eA,hs,e3,e5]|refine rd0 rfl ?_)))
   refine aC fH rfl bP ?_
   (repeat (first|simp only [↓QA,QB,Nat.reduceLT,reduceIte,Nat.reduceEqDiff,Nat.reduceAdd,Nat.reduceLeDiff,Nat.reduceMul,Nat.reduceBEq,eA]|refine rd0 rfl ?_))
  ·cases hm:decide ((cA (gK w y)).2.2=0)
   ·(repeat (first|simp only [↓QA,QB,Nat.reduceLT,reduceIte,Nat.reduceEqDiff,Nat.reduceAdd,Nat.reduceLeDiff,Nat.reduceMul,Nat.reduceBEq,eA,e3,e5]|refine rd0 rfl ?_))
    ((first|refine aC (eW w hfn) rfl dd ?_|refine aD (eW w hfn) rfl dd ?_);(repeat (first|simp only [↓QA,QB,Nat.reduceLT,reduceIte,Nat.reduceEqDiff,Nat.reduceAdd,Nat.reduceLeDiff,Nat.reduceMul,Nat.reduceBEq,eA,hs,e3,e5]|refine rd0 rfl ?_)))
    ((first|refine aC (eW (gK w y) hfm) rfl dd ?_|refine aD (eW (gK w y) hfm) rfl dd ?_);(repeat (first|simp only [↓QA,QB,Nat.reduceLT,reduceIte,Nat.reduceEqDiff,Nat.reduceAdd,Nat.reduceLeDiff,Nat.reduceMul,Nat.reduceBEq,eA,hm,e3,e5]|refine rd0 rfl ?_)))
    refine aC fH rfl bP ?_
    (repeat (first|simp only [↓QA,QB,Nat.reduceLT,reduceIte,Nat.reduceEqDiff,Nat.reduceAdd,Nat.reduceLeDiff,Nat.reduceMul,Nat.reduceBEq,eA]|refine rd0 rfl ?_))
   ·have hv:=eB (by simpa using hs)
    have hvm:Vd (gK w y):=eB (by simpa using hm)
    have hnt:=hv.ntr
    have s1:=yN hv hsee
    have s2:jH (gK w y)=true:=yN hvm hsee
    have t1:=uT hsee
    have t2:aJ (gK w y) []=bD w:=uT (v:=gK w y) hsee
    have e4:=uL s1
    have e6:=uL s2
    have b3:=uH w
    have b4:=uH (gK w y)
    rw [t1] at e4
    rw [t2] at e6
    rw [e4] at b3
    rw [e6] at b4
    have g3:=SZ w y (bD w)
    have g4:=aAA w y (bD w)
    have hct:∀ t,t<w.trams.length→kP w (t:Int)=((bR (dY w (bD w) t)).1,(bR (dY w (bD w) t)).2,0):=fun t ht=>by rw [nD s1 ht,t1]
    have hcu:∀ t,t<w.trams.length→kP (gK w y) (t:Int)=((bR (dY w (bD w) t)).1,(bR (dY w (bD w) t)).2,0):=fun t ht=>by
     rw [nD (v:=gK w y) s2 (t:=t) (by simp only [gK,List.length_append];omega),t2,XF w y _ ht]
    simp only at b3 b4
    obtain ⟨A2,hA2⟩:∃ l,j8 w (bD w)=l:=⟨_,rfl⟩
    obtain ⟨B2,hB2⟩:∃ l,kQ w (bD w)=l:=⟨_,rfl⟩
    obtain ⟨C2,hC2⟩:∃ l,j8 (gK w y) (bD w)=l:=⟨_,rfl⟩
    obtain ⟨D2,hD2⟩:∃ l,kQ (gK w y) (bD w)=l:=⟨_,rfl⟩
    rw [hA2,hB2] at e4 b3
    rw [hC2,hD2] at e6 b4
    rw [hA2,hC2] at g3
    rw [hB2,hD2] at g4
    have okz:((0:Int)==0)=true:=rfl
    (repeat (first|simp only [↓QA,QB,Nat.reduceLT,reduceIte,Nat.reduceEqDiff,Nat.reduceAdd,Nat.reduceLeDiff,Nat.reduceMul,Nat.reduceBEq,eA,e3,e5]|refine rd0 rfl ?_))
    ((first|refine aC (eW w hfn) rfl dd ?_|refine aD (eW w hfn) rfl dd ?_);(repeat (first|simp only [↓QA,QB,Nat.reduceLT,reduceIte,Nat.reduceEqDiff,Nat.reduceAdd,Nat.reduceLeDiff,Nat.reduceMul,Nat.reduceBEq,eA,hs,e3,e5]|refine rd0 rfl ?_)))
    ((first|refine aC (eW (gK w y) hfm) rfl dd ?_|refine aD (eW (gK w y) hfm) rfl dd ?_);(repeat (first|simp only [↓QA,QB,Nat.reduceLT,reduceIte,Nat.reduceEqDiff,Nat.reduceAdd,Nat.reduceLeDiff,Nat.reduceMul,Nat.reduceBEq,eA,hm,e3,e5]|refine rd0 rfl ?_)))
    refine bY (S:=Nat) 0 (fun p=>p≤w.trams.length) (fun p=>w.trams.length-p)
     (fun p=>[(2,.ptr 0 0),(5,.ptr 2 0),(6,.int .i64 p)]) (fun _=>[.cells (aB w),.cells (sS y),.cells (aB (gK w y))]) (by simp) (by simp [aB,ints]) ?_ fun p hp=>?_
    ·try simp only [aE,QE,Nat.reduceLT,reduceIte,Nat.reduceEqDiff,Nat.reduceAdd,Nat.reduceLeDiff,Nat.reduceMul,Nat.reduceBEq,eA,e3,e5]
     try simp
    ·(repeat (first|simp only [↓QA,QB,Nat.reduceLT,reduceIte,Nat.reduceEqDiff,Nat.reduceAdd,Nat.reduceLeDiff,Nat.reduceMul,Nat.reduceBEq,eA,aBK]|refine rd0 rfl ?_))
     refine aG (fun h=>?_) fun h=>?_
     ·have hp1:p<w.trams.length:=by simpa using h
      have hw:=bX hp1 (by omega)
      have h1:=hct p hp1
      have h2:=hcu p hp1
      obtain ⟨⟨SP,k1⟩,hq1⟩:∃ q,bR (dY w (bD w) p)=q:=⟨_,rfl⟩
      rw [hq1] at h1 h2
      simp only at h1 h2
      (repeat (first|simp only [↓QA,QB,Nat.reduceLT,reduceIte,Nat.reduceEqDiff,Nat.reduceAdd,Nat.reduceLeDiff,Nat.reduceMul,Nat.reduceBEq,eA]|refine rd0 rfl ?_))
      ((first|refine aC (dJ w hfn p) rfl dd ?_|refine aD (dJ w hfn p) rfl dd ?_);(repeat (first|simp only [↓QA,QB,Nat.reduceLT,reduceIte,Nat.reduceEqDiff,Nat.reduceAdd,Nat.reduceLeDiff,Nat.reduceMul,Nat.reduceBEq,eA,h1,kA]|refine rd0 rfl ?_)))
      ((first|refine aC (dJ (gK w y) hfm p) rfl dd ?_|refine aD (dJ (gK w y) hfm p) rfl dd ?_);(repeat (first|simp only [↓QA,QB,Nat.reduceLT,reduceIte,Nat.reduceEqDiff,Nat.reduceAdd,Nat.reduceLeDiff,Nat.reduceMul,Nat.reduceBEq,eA,h2,kA,okz]|refine rd0 rfl ?_)))
      (repeat (first|simp only [↓QA,QB,Nat.reduceLT,reduceIte,Nat.reduceEqDiff,Nat.reduceAdd,Nat.reduceLeDiff,Nat.reduceMul,Nat.reduceBEq,eA,hw]|refine rd0 rfl ?_))
      refine ⟨p+1,by omega,by omega,?_⟩
      try simp only [aE,QE,Nat.reduceLT,reduceIte,Nat.reduceEqDiff,Nat.reduceAdd,Nat.reduceLeDiff,Nat.reduceMul,Nat.reduceBEq,eA,hw]
      try simp [aL]
     ·(repeat (first|simp only [↓QA,QB,Nat.reduceLT,reduceIte,Nat.reduceEqDiff,Nat.reduceAdd,Nat.reduceLeDiff,Nat.reduceMul,Nat.reduceBEq,eA]|refine rd0 rfl ?_))
      ((first|refine aC (gN w hfn) rfl dd ?_|refine aD (gN w hfn) rfl dd ?_);(repeat (first|simp only [↓QA,QB,Nat.reduceLT,reduceIte,Nat.reduceEqDiff,Nat.reduceAdd,Nat.reduceLeDiff,Nat.reduceMul,Nat.reduceBEq,eA,e4,jT]|refine rd0 rfl ?_)))
      ((first|refine aC (gN (gK w y) hfm) rfl dd ?_|refine aD (gN (gK w y) hfm) rfl dd ?_);(repeat (first|simp only [↓QA,QB,Nat.reduceLT,reduceIte,Nat.reduceEqDiff,Nat.reduceAdd,Nat.reduceLeDiff,Nat.reduceMul,Nat.reduceBEq,eA,e6,jT,okz]|refine rd0 rfl ?_)))
      ((first|refine aC (g9 A2 C2 (by omega) (by omega)) rfl dd ?_|refine aD (g9 A2 C2 (by omega) (by omega)) rfl dd ?_);(repeat (first|simp only [↓QA,QB,Nat.reduceLT,reduceIte,Nat.reduceEqDiff,Nat.reduceAdd,Nat.reduceLeDiff,Nat.reduceMul,Nat.reduceBEq,eA,g3]|refine rd0 rfl ?_)))
      ((first|refine aC (g9 B2 D2 (by omega) (by omega)) rfl dd ?_|refine aD (g9 B2 D2 (by omega) (by omega)) rfl dd ?_);(repeat (first|simp only [↓QA,QB,Nat.reduceLT,reduceIte,Nat.reduceEqDiff,Nat.reduceAdd,Nat.reduceLeDiff,Nat.reduceMul,Nat.reduceBEq,eA,g4]|refine rd0 rfl ?_)))
      refine aC fH rfl bP ?_
      (repeat (first|simp only [↓QA,QB,Nat.reduceLT,reduceIte,Nat.reduceEqDiff,Nat.reduceAdd,Nat.reduceLeDiff,Nat.reduceMul,Nat.reduceBEq,eA]|refine rd0 rfl ?_))
end Go.Am.Room
