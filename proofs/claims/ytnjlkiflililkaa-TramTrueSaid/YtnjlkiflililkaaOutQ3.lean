/- A part of the proofs: an abstract machine, or what functions come to on it. -/
import Derived.Test.YtnjlkiflililkaaOutQ2
import Derived.RangeFuncRecord
import Derived.RangeFuncLeaves
import Derived.WalkKit
import Derived.ChangeArms
import Derived.SizedLaws
import Derived.ChangeBears
import Derived.ChangeShapes
import Derived.WideShapes
import Derived.ProofKit
import Derived.OpenShut
import Derived.Lib.Strings
import Derived.Laws.RangeAny
set_option linter.unusedVariables false
set_option linter.unusedSimpArgs false
set_option linter.defProp false
namespace Go.Am
variable {P:Program} {hh:String→Bool} {G G0 G1 G':Gh} {w w0 w1 w':World} {σ σ' σ1:St} {env env':Env} {n m m':Nat} {v:AV} {a:Act}
section
variable {cd:Code}
theorem PI (h:comp P hh n cd=some .skip):cd = .skip∨∃ l,cd = .label l:=by
 cases cd<;>simp only [comp] at h<;>(repeat' split at h)<;>first|(cases h;done)|exact .inl rfl|exact .inr ⟨_,rfl⟩
theorem PJ {j:AJump} (h:comp P hh n cd=some (.jump j)):cd=KV j:=by
 cases cd<;>simp only [comp] at h<;>(repeat' split at h)<;>first|(cases h;done)|(cases h;rfl)
theorem A6 {x y:ACode} (h:comp P hh n cd=some (.seq x y)):∃ c d,cd = .seq c d∧comp P hh n c=some x∧comp P hh n d=some y:=by
 cases cd<;>simp only [comp] at h<;>(repeat' split at h)<;>first|(cases h;done)|(cases h;exact ⟨_,_,rfl,by assumption,by assumption⟩)
theorem QL {c:AOpd} {x y:ACode} (h:comp P hh n cd=some (.cond c x y)):∃ o p q,cd = .cond o p q∧opd o=some c∧comp P hh n p=some x∧comp P hh n q=some y:=by
 cases cd<;>simp only [comp] at h<;>(repeat' split at h)<;>first|(cases h;done)|(cases h;exact ⟨_,_,_,rfl,by assumption,by assumption,by assumption⟩)
theorem LU {id:Nat} {x:ACode} (h:comp P hh n cd=some (.block id x)):∃ c,cd = .block id c∧comp P hh n c=some x:=by
 cases cd<;>simp only [comp] at h<;>(repeat' split at h)<;>first|(cases h;done)|(cases h;exact ⟨_,rfl,by assumption⟩)
theorem OU {x:ACode} (h:comp P hh n cd=some (.loop x)):∃ c,cd = .loop c∧comp P hh n c=some x:=by
 cases cd<;>simp only [comp] at h<;>(repeat' split at h)<;>first|(cases h;done)|(cases h;exact ⟨_,rfl,by assumption⟩)
theorem MM {x:ACode} (h:comp P hh n cd=some (.scope x)):∃ c,cd = .scope c∧comp P hh n c=some x:=by
 cases cd<;>simp only [comp] at h<;>(repeat' split at h)<;>first|(cases h;done)|(cases h;exact ⟨_,rfl,by assumption⟩)
theorem VY {os:List AOper} (h:comp P hh n cd=some (.reg os)):∃ id ops,cd = .region id ops false∧gV P hh n ops ops.toList=some os:=by
 cases cd<;>simp only [comp] at h<;>(repeat' split at h)<;>first|(cases h;done)|skip
 rename_i id ops dr _ os' h1 h2
 cases h
 have:dr=false:=by simpa using h2
 subst this
 exact ⟨id,ops,rfl,h1⟩
theorem PP {ds:List ADOper} (h:comp P hh n cd=some (.dreg ds)) :
  ∃ id ops os,cd = .region id ops true∧gV P hh n ops ops.toList=some os∧AB ops=true∧CI (Region.before ops) os=true∧ds=jF (Region.before ops) os:=by
 cases cd<;>simp only [comp] at h<;>(repeat' split at h)<;>first|(cases h;done)|skip
 rename_i id ops dr _ os' h1 h2 h3
 cases h
 subst h2
 simp only [Bool.and_eq_true] at h3
 exact ⟨id,ops,os',rfl,h1,h3.1,h3.2,rfl⟩
theorem KX {f:AOpd} {ps:List Nat} {x y:ACode} (h:comp P hh n cd=some (.rangeFunc f ps x y)) :
  ∃ o pa c d,cd = .rangeFunc o pa c d∧opd o=some f∧comp P hh n c=some x∧comp P hh n d=some y∧pa.toList=ps∧(∀ p∈ps,p<n)∧pJ c=true∧pJ d=true:=by
 cases cd<;>simp only [comp] at h<;>(repeat' split at h)<;>first|(cases h;done)|skip
 rename_i o pa c d _ _ _ f' x' y' h1 h2 h3 h4
 cases h
 simp only [Bool.and_eq_true,List.all_eq_true,decide_eq_true_eq] at h4
 exact ⟨o,pa,c,d,rfl,h1,h2,h3,rfl,h4.1.1,h4.1.2,h4.2⟩
end
theorem kJ {b:Frame} {a:Act} {k:List Item} {cs:List Frame} {w:World} {c:Code}:step P (lone (b.atR a (.code (.scope c)::k)) cs w) = .next (lone (b.atR a (.code c::.inScope c::k)) cs w) :=
 step_lone_go (by simp [stepG,stepG.exec,Frame.atR])
theorem BX {b:Frame} {a:Act} {k:List Item} {cs:List Frame} {w:World} {c:Code}:step P (lone (b.atR a (.inScope c::k)) cs w) = .next (lone (b.atR a k) cs w) :=
 step_lone_go (by simp [stepG,stepG.exec,Frame.atR])
theorem JY {F:Fence} {c:Code} {Q:Exit→Act→World→Prop} (hg:∀ l a w,¬Q (.goto l) a w) (h:c.wpIn F n P Q a w):(Code.scope c).wpIn F n P Q a w:=by
 intro b k cs hro hb hr
 have h0:(lone (b.atR a (.code (.scope c)::k)) cs w).fenced P F:=fenced_calm hb hr rfl
 obtain ⟨e,a₁,w₁,hq,harr⟩:=h b (.inScope c::k) cs hro hb hr
 cases e with
 |normal=>exact ⟨.normal,a₁,w₁,hq,.head h0 kJ (StepsIn.trans harr (.one (fenced_calm hb hr rfl) BX))⟩
 |exit id' =>
  have hx:exitTo id' (.inScope c::k)=exitTo id' k:=by simp [exitTo]
  exact ⟨.exit id',a₁,w₁,hq,fun k' hk=>.head h0 kJ (harr.1 k' (by rw [hx];exact hk)),
   fun hr' hk=>let ⟨k₁,h1,h2⟩:=harr.2 hr' (by rw [hx];exact hk);⟨k₁,h1,.head h0 kJ h2⟩⟩
 |goto l=>exact absurd hq (hg _ _ _)
 |ret=>exact ⟨_,a₁,w₁,hq,.of_steps (.one h0 kJ) harr⟩
 |panic ch=>exact ⟨_,a₁,w₁,hq,.of_steps (.one h0 kJ) harr⟩
 |outgrown=>exact ⟨_,a₁,w₁,hq,.of_steps (.one h0 kJ) harr⟩
def mR (F:Fence) (n:Nat) (P:Program) (c:Code) (Q:Exit→Act→World→Prop) (a:Act) (w:World):Prop :=
 ∀ (b:Frame) (k:List Item) (cs:List Frame),b.roundOf=F.round→F.fn b.fn→F.room (cs.length+1+n) →
  ∃ e a' w',Q e a' w'∧ArrivesIn (Machine.fenced P F) P (lone (b.atR a (.code c::.inLoop c::k)) cs w) b k cs e a' w'
theorem mR.round {F:Fence} {c:Code} {Q:Exit→Act→World→Prop} (h:c.wpIn F n P (Exit.then (mR F n P c Q) Q) a w):mR F n P c Q a w:=by
 intro b k cs hro hb hr
 obtain ⟨e,a₁,w₁,hq,harr⟩:=h b (.inLoop c::k) cs hro hb hr
 cases e with
 |normal =>
  obtain ⟨e₂,a₂,w₂,hq₂,harr₂⟩:=hq b k cs hro hb hr
  exact ⟨e₂,a₂,w₂,hq₂,.of_steps (StepsIn.trans harr (.one (fenced_calm hb hr rfl) stepR_inLoop)) harr₂⟩
 |exit id=>exact ⟨_,a₁,w₁,hq,.pass (x:=.inLoop c) rfl (fun _ _=>.inl (by simp)) harr⟩
 |goto l=>exact ⟨_,a₁,w₁,hq,.pass (x:=.inLoop c) rfl (fun _ _=>.inl (by simp)) harr⟩
 |ret=>exact ⟨_,a₁,w₁,hq,.pass (x:=.inLoop c) rfl (fun _ _=>.inl (by simp)) harr⟩
 |panic ch=>exact ⟨_,a₁,w₁,hq,.pass (x:=.inLoop c) rfl (fun _ _=>.inl (by simp)) harr⟩
 |outgrown=>exact ⟨_,a₁,w₁,hq,.pass (x:=.inLoop c) rfl (fun _ _=>.inl (by simp)) harr⟩
theorem mR.mono {F:Fence} {c:Code} {Q Q':Exit→Act→World→Prop} (h:mR F n P c Q a w) (hq:∀ e a w,Q e a w→Q' e a w):mR F n P c Q' a w :=
 fun b k cs hro hb hr=>let ⟨e,a',w',q,r⟩:=h b k cs hro hb hr;⟨e,a',w',hq _ _ _ q,r⟩
theorem mR.wpIn {F:Fence} {c:Code} {Q:Exit→Act→World→Prop} (h:mR F n P c Q a w):(Code.loop c).wpIn F n P Q a w :=
 fun b k cs hro hb hr=>let ⟨e,a',w',q,r⟩:=h b k cs hro hb hr;⟨e,a',w',q,.of_steps (.one (fenced_calm hb hr rfl) stepR_loop) r⟩
def wpL (F:Fence) (P:Program) (cd:Code) (Q:Exit→Act→World→Prop) (a:Act) (w:World):Prop :=
 match cd with
 |.loop c=>mR F 0 P c Q a w
 |cd=>cd.wpIn F 0 P Q a w
theorem wpL.wpIn {F:Fence} {cd:Code} {Q:Exit→Act→World→Prop} (h:wpL F P cd Q a w):cd.wpIn F 0 P Q a w:=by
 cases cd<;>first|exact h|exact mR.wpIn h
theorem wpL.mono {F:Fence} {cd:Code} {Q Q':Exit→Act→World→Prop} (h:wpL F P cd Q a w) (hq:∀ e a w,Q e a w→Q' e a w):wpL F P cd Q' a w:=by
 cases cd<;>first|exact wpIn_mono h hq|exact mR.mono h hq
theorem FD (k:Nat) (hk:0<k) (w:World):∃ j w',j<k∧(w'=w∨w'=w.drew)∧(choose (.mapNext k)).run P w = .ok j w':=by
 rw [run_choose_drew]
 by_cases h:(Question.mapNext k).forced=true
 ·rw [if_pos h];exact ⟨0,w,hk,.inl rfl,rfl⟩
 ·rw [if_neg h];exact ⟨_,_,Nat.mod_lt _ hk,.inr rfl,rfl⟩
theorem II {ty:TypeId} {id k:Nat} {left:List Nat} {last:Option Nat} {es:List (AV×AV)} {u:Value} (hS:RelS P hh G w σ) (hx:RelV G w (.ptr id 0) u) (hσ:σ[id]? = some (.miter m k left last))
  (he:σ[m]? = some (.map es)) (hk:es.length=k) :
  (left=[]∧∃ w',(Instr.next u false ty).run P w = .ok (.tuple #[.bool false]) w'∧RelS P hh G w' σ∧Evo G w G w') ∨
  ∃ i x y w' q,i∈left∧es[i]? = some (x,y)∧(Instr.next u false ty).run P w = .ok q w'∧RelV G w' (.tuple [.bool true,x,y]) q∧RelS P hh G w' (σ.set id (.miter m k (left.filter (·≠i)) (some i)))∧Evo G w G w':=by
 cases hx with
 |ptr hl =>
  rename_i b
  obtain ⟨bm,seen,stepped,h1,h2,h3,h4,h5⟩:=hS.blk _ _ _ hl hσ
  obtain ⟨ents,hb,hlen,hborn,hrel⟩:=hS.blk _ _ _ h1 he
  have hbl:∀ e∈ents,e.born<k:=fun e hm=>by
   obtain ⟨i,hi⟩:=Array.getElem?_of_mem hm
   have:=(Array.getElem?_eq_some_iff.1 hi).1
   rw [hborn i e hi]
   omega
  obtain ⟨L,hL⟩:∃ L,L=ents.filter fun e=>!seen.contains e.born:=⟨_,rfl⟩
  have hLm:∀ e∈L,e∈ents∧seen.contains e.born=false:=fun e hm=>by
   rw [hL,Array.mem_filter] at hm
   exact ⟨hm.1,by simpa using hm.2⟩
  have hold:L.filter (·.born<k)=L:=by
   rw [Array.filter_eq_self]
   intro e hm
   simpa using hbl e (hLm e hm).1
  have hnew:L.filter (·.born≥k) = #[]:=by
   rw [Array.filter_eq_empty_iff]
   intro e hm
   have:=hbl e (hLm e hm).1
   simp
   omega
  have hchk:(!seen.isEmpty&&!ents.isEmpty&&ents.all (·.born≥stepped))=false:=by
   cases hs:seen.isEmpty with
   |true=>simp
   |false =>
    rw [h5 hs]
    cases hn:ents.isEmpty with
    |true=>simp
    |false =>
     simp only [Bool.not_false,Bool.true_and]
     rw [Bool.eq_false_iff]
     intro hall
     have h0:0<ents.size:=by
      rcases Nat.eq_zero_or_pos ents.size with h|h
      ·simp [Array.isEmpty,h] at hn
      ·exact h
     have:=Array.all_eq_true.1 hall 0 h0
     have h':=hbl ents[0] (Array.getElem_mem h0)
     simp at this
     omega
  have hpre:∀ (j:Nat) (w1:World) (c:Array (Option MapEntry)) (x:Option MapEntry),c=(if L.isEmpty then #[none] else #[])++L.map some→c[j]? = some x→(choose (.mapNext c.size)).run P w = .ok j w1 →
    (Instr.next (.pointer (some ⟨b,0,none⟩)) false ty).run P w=(match x with
     |some e=>(do setObj b (.mapIter (some bm) k (seen.push e.born) es.length);pure (.tuple #[.bool true,e.key,e.val]):Sem Value)
     |none=>(pure (.tuple #[.bool false]):Sem Value)).run P w1:=by
   intro j w1 c x hc hx hch
   unfold Instr.next
   simp only [Sem.run_bind,qR h2 (fun _ _ _ e=>by cases e),Result.andThen_ok,j6 hb,hchk,Bool.false_eq_true,if_false,←hL,hold,hnew,Array.append_empty,Sem.run_pure]
   rw [←hc,hch]
   simp only [Result.andThen_ok,hx]
   cases x<;>rfl
  have hleft:∀ i,i∈left↔i<k∧seen.contains i=false:=fun i=>by rw [h3];simp [List.mem_filter]
  have hdrew:∀ w1,(w1=w∨w1=w.drew)→RelS P hh G w1 σ∧Evo G w G w1∧w1.heap=w.heap:=fun w1 h=>by
   rcases h with rfl|rfl
   ·exact ⟨hS,.refl _ _,rfl⟩
   ·exact ⟨hS.drew,o0,rfl⟩
  by_cases hemp:L.isEmpty=true
  ·left
   obtain ⟨j,w1,hj,hw1,hch⟩:=FD (P:=P) 1 (by omega) w
   have hL0:L = #[]:=by simpa using hemp
   have hcs:((if L.isEmpty then #[none] else #[])++L.map some:Array (Option MapEntry)) = #[none]:=by rw [hL0];simp
   have hj0:j=0:=by omega
   subst hj0
   have hrun:=hpre 0 w1 #[none] none hcs.symm rfl hch
   refine ⟨?_,w1,by rw [hrun];rfl,(hdrew w1 hw1).1,(hdrew w1 hw1).2.1⟩
   rw [List.eq_nil_iff_forall_not_mem]
   intro i hi
   obtain ⟨q1,q2⟩:=(hleft i).1 hi
   have hie:i<ents.size:=by omega
   have:ents[i]∈L:=by
    rw [hL,Array.mem_filter]
    refine ⟨Array.getElem_mem hie,?_⟩
    rw [hborn i _ (Array.getElem?_eq_getElem hie),q2]
    rfl
   rw [hL0] at this
   simp at this
  ·right
   have hpos:0<L.size:=by
    rcases Nat.eq_zero_or_pos L.size with h|h
    ·simp [Array.isEmpty,h] at hemp
    ·exact h
   have hcs:((if L.isEmpty then #[none] else #[])++L.map some:Array (Option MapEntry))=L.map some:=by simp [hemp]
   obtain ⟨j,w1,hj,hw1,hch⟩:=FD (P:=P) L.size hpos w
   have hje:(L.map some)[j]? = some (some L[j]):=by simp [hj]
   have hrun:=hpre j w1 (L.map some) (some L[j]) hcs.symm hje (by simpa using hch)
   obtain ⟨hm,hns⟩:=hLm L[j] (Array.getElem_mem hj)
   obtain ⟨i,hi⟩:=Array.getElem?_of_mem hm
   have hbi:=hborn i _ hi
   have hik:i<es.length:=by have:=(Array.getElem?_eq_some_iff.1 hi).1;omega
   have hei:es[i]? = some es[i]:=List.getElem?_eq_getElem hik
   obtain ⟨hS1,he1,hh1⟩:=hdrew w1 hw1
   have hb1:w1.heap[b]? = some (.mapIter (some bm) k seen stepped):=by rw [hh1];exact h2
   have hw:=hS1.write (y:=.miter m k (left.filter (·≠i)) (some i)) hl (k8 w1 b (.mapIter (some bm) k (seen.push L[j].born) es.length)) hσ (fun _ _ _ e=>by cases e)
    ⟨bm,seen.push L[j].born,es.length,h1,uD hb1,by
     rw [h3,List.filter_filter]
     refine List.filter_congr fun x _=>?_
     rw [hbi]
     simp only [Array.contains_push]
     by_cases hxi:x=i<;>simp [hxi,Bool.and_comm],by simp [hbi],fun _=>hk⟩
   refine ⟨i,es[i].1,es[i].2,_,_,(hleft i).2 ⟨by omega,by rw [←hbi];exact hns⟩,hei,hrun.trans (by simp only [Sem.run_bind,yM _ hb1 (fun _ _ _ e=>by cases e),Result.andThen_ok,Sem.run_pure];rfl),.tuple rfl fun q x y g1 g2=>?_,hw.1,he1.trans hw.2⟩
   have hr:=hrel i _ _ hei hi
   have he2:Evo G w G _:=he1.trans hw.2
   match q with
   |0=>simp at g1 g2;subst g1;subst g2;exact .bool _
   |1=>simp at g1 g2;subst g1;subst g2;exact hr.1.mono he2
   |2=>simp at g1 g2;subst g1;subst g2;exact hr.2.mono he2
   |_+3=>simp at g1
end Go.Am
namespace Go.Am
variable {P:Program} {hh:String→Bool} {G G0 G1 G':Gh} {w w0 w1 w':World} {σ σ' σ1:St} {env env':Env} {n m m':Nat} {v:AV}
theorem RelV.thin (hS:RelS P hh G w σ) (hL:Last σ G m G') {a a':AV} {u:Value} (h:RelV G w a u) (ht:UG σ m a a'):RelV G' w a' u:=by
 rcases ht with ⟨rfl,ho⟩|⟨d,v1,hs,rfl|rfl⟩
 ·exact h.less hL.toLess ho
 ·exact sA hS hL d hs h
 ·exact (sA hS hL d hs h).clr
theorem CB:∀ {cs cs':List AV},E4 σ m cs cs'→cs'.length=cs.length∧∀ (i:Nat) (y:AV),cs'[i]? = some y→∃ x,cs[i]? = some x∧UG σ m x y
 |[],[],_=>⟨rfl,fun i y e=>by simp at e⟩
 |[],_::_,h=>h.elim
 |_::_,[],h=>h.elim
 |a::az,b::bs,h=>by
  obtain ⟨h1,h2⟩:=h
  obtain ⟨l,r⟩:=CB h2
  refine ⟨by simp [l],fun i y e=>?_⟩
  cases i with
  |zero=>simp at e;subst e;exact ⟨a,rfl,h1⟩
  |succ i=>simp at e;simpa using r i y e
theorem yT:∀ {e'':Env},NR σ m env e''→∀ t,Env.get e'' t = .undef∨UG σ m (Env.get env t) (Env.get e'' t)
 |[],_,t=>.inl rfl
 |(k,v)::e,h,t=>by
  obtain ⟨h1,h2⟩:=h
  by_cases hk:k=t
  ·subst hk;right;simpa [Env.get] using h1
  ·simpa [Env.get,hk] using yT h2 t
theorem H6 {σ2:St} {envL:Env} {tmps:Array Value} (hS:RelS P hh G w σ) (he:Evo (G.shut σ) w G1 w1) (h1:RelS P hh G1 w1 σ1) (hE:fO G1 w1 n envL tmps) (hm1:σ.length≤σ2.length) (hm2:σ2.length≤σ1.length)
  (hk:∀ i,i<σ2.length→∃ b,σ2[i]? = some b∧aA5 σ envL σ1 σ2.length i b):RelS P hh (G1.cut w1 σ1 σ2.length G.res) w1 σ2:=by
 -- the same without the thin ones
 have hL:=oY (m:=σ2.length) h1 G.res
 have loc':∀ id b,(G1.cut w1 σ1 σ2.length G.res).loc id=some b→id<σ2.length∧G1.loc id=some b:=by
  intro id b e
  simp only [Gh.cut] at e
  split at e
  ·exact ⟨‹_›,e⟩
  ·cases e
 have notlim:∀ b,G1.lim b=none→(∀ id,σ2.length≤id→G1.loc id≠some b)→(G1.cut w1 σ1 σ2.length G.res).lim b=none:=by
  intro b q1 q2
  cases e:(G1.cut w1 σ1 σ2.length G.res).lim b with
  |none=>rfl
  |some L =>
   obtain ⟨_,id,cs,p1,p2,_⟩:=wP e q1
   exact absurd p2 (q2 id p1)
 have located:∀ {id b y},id<σ.length→G1.loc id=some b→σ[id]? = some y→∃ b0,G.loc id=some b0∧iJ P hh G w y b0:=by
  intro id b y hlt hl hy
  cases e:G.loc id with
  |none =>
   obtain ⟨r,hr⟩:=IM e hlt
   have:=(h1.res _ _ (he.res _ _ hr)).1
   rw [hl] at this
   cases this
  |some b0=>exact ⟨b0,rfl,hS.blk _ _ _ e hy⟩
 refine ⟨fun id b e=>(loc' _ _ e).1,fun id b x e1 e2=>?_,fun i j b e1 e2=>h1.inj i j b (loc' _ _ e1).2 (loc' _ _ e2).2,fun id b e=>?_,fun b L e=>?_,fun t b n c e=>?_,fun b t e=>?_,fun r e=>?_,h1.base,h1.size,fun id r e=>?_⟩
 ·obtain ⟨q1,q2⟩:=loc' _ _ e1
  obtain ⟨y,hy,hb⟩:=hk id q1
  rw [e2] at hy
  cases hy
  rcases hb with ⟨hlt,hkp,hx⟩|⟨hx,ho⟩|⟨cs,cs',hx,rfl,ht,_⟩
  ·refine (h1.blk _ _ _ q2 hx).less hL.toLess ?_
   rcases hkp with hkp|⟨y,hy,ho⟩|⟨st,pe,st',pe',env,ps,a,c,p1,p2⟩
   ·obtain ⟨b0,_,hb0⟩:=located hlt q2 (by rw [←hkp];exact hx)
    exact pV hm1 (hb0.ok hS)
   ·rw [hx] at hy
    cases hy
    exact uK ho
   ·obtain ⟨b0,_,hb0⟩:=located hlt q2 p1
    rw [hx] at p2
    cases p2
    exact pV hm1 (x:=.loop st pe env ps a c) (hb0.ok hS)
  ·exact (h1.blk _ _ _ q2 hx).less hL.toLess (uK ho)
  ·obtain ⟨vs,T,p1,p2,p3⟩:=h1.blk _ _ _ q2 hx
   obtain ⟨l,r⟩:=CB ht
   refine ⟨vs,T,p1,by omega,fun i a v r1 r2=>?_⟩
   obtain ⟨x,r3,r4⟩:=r i a r1
   exact (p3 i x v r3 r2).thin h1 hL r4
 ·obtain ⟨q1,q2⟩:=loc' _ _ e
  obtain ⟨f1,f2,f3,f4⟩:=h1.fresh _ _ q2
  refine ⟨f1,f2,notlim b f3 fun i hi e'=>?_,f4⟩
  have:=h1.inj _ _ _ q2 e'
  omega
 ·cases hn:G1.lim b with
  |some L' =>
   have:(G1.cut w1 σ1 σ2.length G.res).lim b=some L':=by simp [Gh.cut,hn]
   rw [this] at e
   cases e
   exact h1.lim _ _ hn
  |none =>
   obtain ⟨rfl,id,cs,p1,p2,p3⟩:=wP e hn
   obtain ⟨vs,T,q,l,_⟩:=h1.blk _ _ _ p2 p3
   exact ⟨vs,T,(0,0),q,by simp [rT,q],fun hlt=>absurd hlt (Nat.not_lt.2 (h1.fresh _ _ p2).1)⟩
 ·have ht:t<σ2.length∧G1.tok t=some (b,n,c):=by
   simp only [Gh.cut] at e
   split at e
   ·exact ⟨‹_›,e⟩
   ·cases e
  obtain ⟨sz,ex,q1,q2,q3,q4⟩:=h1.tok _ _ _ _ ht.2
  have hb:σ2[t]? = some (.tok sz n ex):=by
   obtain ⟨y,hy,hb⟩:=hk t ht.1
   rcases hb with ⟨_,_,hx⟩|⟨hx,_⟩|⟨cs,cs',hx,_⟩
   ·rw [hy,←q1,hx]
   ·rw [hy,←q1,hx]
   ·rw [hx] at q1;cases q1
  refine ⟨sz,ex,hb,q2,q3,fun hx=>?_⟩
  obtain ⟨bb,vs,T,r1,r2,r3,r4,r5,r6⟩:=q4 hx
  exact ⟨bb,vs,T,r1,by simp [Gh.cut,r2,r3,ht.1],by simp [Gh.cut,r3],r4,r5,r6⟩
 ·obtain ⟨q1,q2,_⟩:=u0 e
  obtain ⟨p1,p,p2⟩:=h1.own _ _ q1
  exact ⟨p1,p,hL.tok _ _ q2 p2⟩
 ·obtain ⟨q1,q2,q3⟩:=h1.defs r e
  refine ⟨q1,q2,notlim r q3 fun i hi e'=>?_⟩
  exact (h1.fresh _ _ e').2.2.2 e
 ·obtain ⟨q1,q2,q3⟩:=hS.res id r e
  obtain ⟨p1,p2,p3⟩:=h1.res id r (he.res _ _ ((mB hS).res _ _ e))
  have hlt:id<σ2.length:=by omega
  refine ⟨by simp [Gh.cut,p1],hlt,fun cs hc=>?_⟩
  obtain ⟨y,hy,hb⟩:=hk id hlt
  have h3:=p3 cs hc
  rcases hb with ⟨_,_,hx⟩|⟨hx,_⟩|⟨ds,ds',hx,rfl,ht,hp⟩
  ·rw [hy,←h3,hx]
  ·rw [hy,←h3,hx]
  ·rcases hp with hp|⟨t,off,hp⟩
   ·omega
   ·have:=hE.2 t
    rw [hp] at this
    generalize tmps.getD t undef=u at this
    cases this with
    |ptr hl=>rw [p1] at hl;cases hl
end Go.Am
namespace Go.Am
variable {P:Program} {hh:String→Bool} {G G0 G1 G2 G':Gh} {w w0 w1 w2 w':World} {σ σ' σ1 σ2:St} {env env':Env} {n m m':Nat} {v:AV}
theorem vY {t:Nat}:∀ {xs:List AV},noToks t xs↔∀ x∈xs,noTok t x
 |[]=>by simp [noToks]
 |x::xs=>by simp [noToks,vY (xs:=xs)]
theorem j9 {t:Nat} {xs:List AV} (h:noToks t xs) {i:Nat} {x:AV} (hx:xs[i]? = some x):noTok t x:=vY.1 h x (List.mem_of_getElem? hx)
theorem HF {t:Nat} {x:AV}:noTok t x↔∀ c∈x.cells,noTok t c:=by
 cases x<;>simp [AV.cells,noTok,vY]
theorem vZ {t:Nat} {x c:AV} {j:Nat} (h:noTok t x) (hc:x.cells[j]? = some c):noTok t c:=HF.1 h c (List.mem_of_getElem? hc)
theorem E1 {sz:Nat}:∀ {xs:List AV},(∀ (i:Nat) (x:AV),xs[i]? = some x→x.cells.length=sz)→∀ {k:Nat} {c:AV},(xs.flatMap AV.cells)[k]? = some c→∃ i j x,xs[i]? = some x∧x.cells[j]? = some c∧k=i*sz+j
 |[],_,k,c,h=>by simp at h
 |x::xs,hs,k,c,h=>by
  simp only [List.flatMap_cons] at h
  have hx:=hs 0 x rfl
  by_cases hk:k<x.cells.length
  ·rw [List.getElem?_append_left hk] at h
   exact ⟨0,k,x,rfl,h,by omega⟩
  ·rw [List.getElem?_append_right (by omega)] at h
   obtain ⟨i,j,y,h1,h2,h3⟩:=E1 (fun i y e=>hs (i+1) y (by simpa using e)) h
   exact ⟨i+1,j,y,by simpa using h1,h2,by rw [Nat.add_mul];omega⟩
theorem HT {sz:Nat}:∀ {xs:List AV},(∀ (i:Nat) (x:AV),xs[i]? = some x→x.cells.length=sz)→(xs.flatMap AV.cells).length=xs.length*sz
 |[],_=>by simp
 |x::xs,hs=>by
  have hx:=hs 0 x rfl
  have:=HT (xs:=xs) (fun i y e=>hs (i+1) y (by simpa using e))
  simp only [List.flatMap_cons,List.length_append,List.length_cons,this,hx,Nat.add_mul]
  omega
def Gh.thaw (G:Gh) (t bb:Nat):Gh :=
  { G with
    loc:=fun id=>if id=t then some bb else G.loc id
    lim:=fun b=>if b=bb then none else G.lim b
    own:=fun b=>if G.own b=some t then none else G.own b
    tok:=fun u=>if u=t then none else G.tok u }
theorem RelV.thaw {t bb:Nat} (hl:G.loc t=none) (ho:G.own bb=some t) {a:AV} {u:Value} (h:RelV G w a u) (hn:noTok t a):RelV (G.thaw t bb) w a u:=by
 have hloc:∀ {id b},G.loc id=some b→(G.thaw t bb).loc id=some b:=fun {id b} e=>by
  have:id≠t:=fun e'=>by rw [e',hl] at e;cases e
  simp [Gh.thaw,this,e]
 have hlit:∀ {xs tk b o sz},tk≠some t→LitAt G w xs tk b o sz→LitAt (G.thaw t bb) w xs tk b o sz:=by
  intro xs tk b o sz hne ⟨⟨L,q1,q2⟩,q3,q4,q5⟩
  have hb:b≠bb:=fun e=>hne (q3 t (by rw [e];exact ho))
  refine ⟨⟨L,by simp [Gh.thaw,hb,q1],q2⟩,fun u e=>?_,q4,q5⟩
  simp only [Gh.thaw] at e
  split at e
  ·cases e
  ·exact q3 u e
 have htk:∀ {full tk n base cap},tk≠some t→nZ G full tk n base cap→nZ (G.thaw t bb) full tk n base cap:=by
  intro full tk n base cap hne ⟨q1,q2,q3⟩
  refine ⟨q1,q2,fun u e=>?_⟩
  obtain ⟨b,m,c,r1,r2⟩:=q3 u e
  have:u≠t:=fun e'=>hne (by rw [e,e'])
  exact ⟨b,m,c,by simp [Gh.thaw,this,r1],r2⟩
 induction h with
 |undef v=>exact .undef v
 |int k n=>exact .int k n
 |bool b=>exact .bool b
 |str s=>exact .str s
 |func e1 e2 _ _ e3 e4=>exact .func e1 e2 (fun i x u q1 q2=>e3 i x u q1 q2 (j9 hn.1 q1)) (fun i x u q1 q2=>e4 i x u q1 q2 (j9 hn.2 q1))
 |nilFunc=>exact .nilFunc
 |yield h=>exact .yield (hloc h)
 |ptr h=>exact .ptr (hloc h)
 |nilPtr=>exact .nilPtr
 |lptr ht hi hl _ ih =>
  refine .lptr (fun u e=>?_) hi (hlit hn.1 hl) fun i x j c u q1 q2 q3=>ih i x j c u q1 q2 q3 (vZ (j9 hn.2 q1) q2)
  obtain ⟨p,q⟩:=ht u e
  have:u≠t:=fun e'=>hn.1 (by rw [e,e'])
  exact ⟨p,by simp [Gh.thaw,this,q]⟩
 |nil ht hb=>exact .nil (htk hn.1 ht) hb
 |lit ht hl _ ih=>exact .lit (htk hn.1 ht) (hlit hn.1 hl) fun i x j c u q1 q2 q3=>ih i x j c u q1 q2 q3 (vZ (j9 hn.2 q1) q2)
 |ref h hb hc hn'=>exact .ref (hloc h) hb hc hn'
 |map h=>exact .map (hloc h)
 |nilMap=>exact .nilMap
 |agg h _ ih=>exact .agg h fun i x u q1 q2=>ih i x u q1 q2 (j9 hn q1)
 |tuple h _ ih=>exact .tuple h fun i x u q1 q2=>ih i x u q1 q2 (j9 hn q1)
theorem M8 {tmps:Array Value} (hS:RelS P hh G w σ) (he:Evo G w G2 w2) (h2:RelS P hh G2 w2 σ1) (hE:fO G2 w2 n env tmps) (hres:∀ id r,G2.res id=some r→G.res id=some r) (ht:OL σ.length env σ1 env' σ2) :
  ∃ G3,RelS P hh G3 w2 σ2∧fO G3 w2 n env' tmps∧Evo G w G3 w2∧G3.defs=G2.defs:=by
 obtain ⟨t,p,xs,sz,t0,tc,t1,t2,tx,t3,t4,t5,t6⟩:=ht
 have hlt:t<σ1.length:=(List.getElem?_eq_some_iff.1 t1).1
 have hp:=hE.2 p
 rw [t2] at hp
 simp only [Env.get,if_true] at hp
 generalize hu:tmps.getD p undef=u at hp
 have hnl:G2.loc t=none:=by
  cases e:G2.loc t with
  |none=>rfl
  |some b=>exact (h2.blk _ _ _ e t1).elim
 obtain ⟨base,cap,rfl,htk,hbn⟩:=k7 hp
 obtain ⟨b0,m0,c0,g1,g2,g3⟩:=htk.2.2 t rfl
 obtain ⟨sz1,ex1,g4,g5,_,g6⟩:=h2.tok _ _ _ _ g1
 rw [t1] at g4
 cases g4
 obtain ⟨rfl,rfl⟩:=g3 rfl rfl
 obtain ⟨bb,vs,T,rfl,r2,r3,r4,r5,r6⟩:=g6 rfl
 have hsize:∀ (i:Nat) (x:AV),xs[i]? = some x→x.cells.length=sz:=fun i x e=>(lY tc e).1
 have hcells:∀ (i:Nat) (x:AV) (j:Nat) (c:AV) (q:Value),xs[i]? = some x→x.cells[j]? = some c→w2.cell? ⟨bb,i*sz+j,none⟩=some q→RelV G2 w2 c q:=by
  intro i x j c q e1 e2 e3
  cases hp with
  |nil=>simp at e1
  |@lit _ _ _ b' o' sz' _ _ hl hc =>
   have:sz'=sz:=by rw [←hl.size i x e1,hsize i x e1]
   subst this
   exact hc i x j c q e1 e2 (by simpa using e3)
 have hbb:bb<w2.heap.size:=(Array.getElem?_eq_some_iff.1 r5).1
 have hrel:∀ {a:AV} {u:Value},RelV G2 w2 a u→noTok t a→RelV (G2.thaw t bb) w2 a u:=fun h hn=>h.thaw hnl r2 hn
 have hown:∀ {b u},(G2.thaw t bb).own b=some u→G2.own b=some u∧u≠t:=by
  intro b u e
  simp only [Gh.thaw] at e
  split at e
  ·cases e
  ·rename_i hne;exact ⟨e,fun e'=>hne (by rw [e,e'])⟩
 refine ⟨G2.thaw t bb,⟨fun id b e=>?_,fun id b x e1 e2=>?_,fun i j b e1 e2=>?_,fun id b e=>?_,fun b L e=>?_,fun u b k c e=>?_,fun b u e=>?_,fun r e=>?_,h2.base,h2.size,fun id r e=>?_⟩,⟨hE.1,fun q=>?_⟩,⟨fun id b e=>?_,fun b L e=>?_,fun u b k c e=>?_,fun b L u e1 e2=>?_,he.defs,he.B0,he.h0,he.os,he.tape,he.output,he.size,fun id r e=>he.res id r e⟩,rfl⟩
 ·rw [t6,List.length_set]
  simp only [Gh.thaw] at e
  split at e
  ·omega
  ·exact h2.lt _ _ e
 ·simp only [Gh.thaw] at e1
  split at e1
  ·rename_i hid
   subst hid
   cases e1
   rw [t6,List.getElem?_set_self hlt] at e2
   cases e2
   refine ⟨vs,T,r5,?_,fun i a v q1 q2=>?_⟩
   ·rw [HT hsize]
    exact Nat.le_trans (Nat.mul_le_mul_right _ g5) r6
   ·obtain ⟨i',j,x,p1,p2,rfl⟩:=E1 hsize q1
    refine hrel (hcells i' x j a v p1 p2 ?_) (vZ (j9 tx p1) p2)
    rw [cell_of_row w2 bb _ vs T (0,0) r5]
    exact q2
  ·rename_i hid
   rw [t6,List.getElem?_set_ne (fun e=>hid e.symm)] at e2
   have hb:=h2.blk _ _ _ e1 e2
   have hn:=t4 id x hid e2
   cases x with
   |cells cs =>
    obtain ⟨vs',T',q1,q2,q3⟩:=hb
    exact ⟨vs',T',q1,q2,fun i a v p1 p2=>hrel (q3 i a v p1 p2) (j9 hn p1)⟩
   |map es =>
    obtain ⟨ents,q1,q2,q3,q4⟩:=hb
    exact ⟨ents,q1,q2,q3,fun i p e p1 p2=>⟨hrel (q4 i p e p1 p2).1 (hn p (List.mem_of_getElem? p1)).1,hrel (q4 i p e p1 p2).2 (hn p (List.mem_of_getElem? p1)).2⟩⟩
   |tok _ _ _=>exact hb
   |siter s pos=>exact hb
   |miter m n left last =>
    obtain ⟨bm,seen,stepped,q1,q2⟩:=hb
    refine ⟨bm,seen,stepped,?_,q2⟩
    have:m≠t:=fun e=>by rw [e,hnl] at q1;cases q1
    simp [Gh.thaw,this,q1]
   |loop st pend env ps a c=>exact hn.elim
   |dead=>trivial
 ·have aux:∀ {i},G2.loc i=some bb→False:=fun {i} e=>by have:=(h2.fresh _ _ e).2.2.1;rw [r3] at this;cases this
  simp only [Gh.thaw] at e1 e2
  split at e1<;>split at e2
  ·omega
  ·cases e1;exact (aux e2).elim
  ·cases e2;exact (aux e1).elim
  ·exact h2.inj _ _ _ e1 e2
 ·simp only [Gh.thaw] at e
  split at e
  ·cases e
   refine ⟨r4,hbb,by simp [Gh.thaw],fun hd=>?_⟩
   have:=(h2.defs _ hd).2.2
   rw [r3] at this
   cases this
  ·obtain ⟨q1,q2,q3,q4⟩:=h2.fresh _ _ e
   exact ⟨q1,q2,by simp [Gh.thaw,q3],q4⟩
 ·simp only [Gh.thaw] at e
  split at e
  ·cases e
  ·exact h2.lim _ _ e
 ·simp only [Gh.thaw] at e
  split at e
  ·cases e
  ·rename_i hut
   obtain ⟨sz',ex',q1,q2,q3,q4⟩:=h2.tok _ _ _ _ e
   refine ⟨sz',ex',by rw [t6,List.getElem?_set_ne (fun e=>hut e.symm)];exact q1,q2,q3,fun hx=>?_⟩
   obtain ⟨b',vs',T',s1,s2,s3,s4,s5,s6⟩:=q4 hx
   have hb':b'≠bb:=fun e'=>by rw [e',r2] at s2;cases s2;exact hut rfl
   exact ⟨b',vs',T',s1,by simp [Gh.thaw,s2,hut],by simp [Gh.thaw,hb',s3],s4,s5,s6⟩
 ·obtain ⟨q1,q2⟩:=hown e
  obtain ⟨p1,p,p2⟩:=h2.own _ _ q1
  exact ⟨p1,p,by simp [Gh.thaw,q2,p2]⟩
 ·obtain ⟨q1,q2,q3⟩:=h2.defs r e
  exact ⟨q1,q2,by simp [Gh.thaw,q3]⟩
 ·obtain ⟨q1,q2,q3⟩:=h2.res id r e
  have hid:id≠t:=by have:=(hS.res _ _ (hres _ _ e)).2.1;omega
  refine ⟨by simp [Gh.thaw,hid,q1],by rw [t6,List.length_set];exact q2,fun cs hc=>?_⟩
  rw [t6,List.getElem?_set_ne (fun e=>hid e.symm)]
  exact q3 cs hc
 ·rw [t5]
  by_cases hq:p=q
  ·subst hq
   rw [hu]
   simp only [Env.get,if_true]
   exact .ref (by simp [Gh.thaw]) (fun _=>rfl) g5 (fun e=>by cases e)
  ·simp only [Env.get,hq,if_false]
   have h:=hE.2 q
   rw [t2] at h
   simp only [Env.get,hq,if_false] at h
   refine hrel h ?_
   generalize env.tail=e at t3
   induction e with
   |nil=>trivial
   |cons a e ih =>
    obtain ⟨k,v⟩:=a
    by_cases hk:k=q
    ·simp only [Env.get,hk,if_true];exact t3 (k,v) (by simp)
    ·simp only [Env.get,hk,if_false];exact ih fun q hq=>t3 q (List.mem_cons_of_mem _ hq)
 ·have:=hS.lt _ _ e
  have h:=he.loc _ _ e
  simp [Gh.thaw,show id≠t by omega,h]
 ·obtain ⟨L',q1,q2⟩:=he.lim b L e
  have hb:b≠bb:=by
   intro e'
   subst e'
   obtain ⟨_,p,hp'⟩:=hS.own _ _ (he.own _ _ _ e r2)
   obtain ⟨pb,pn,pc⟩:=p
   obtain ⟨_,_,q,_⟩:=hS.tok _ _ _ _ hp'
   have:=(List.getElem?_eq_some_iff.1 q).1
   omega
  exact ⟨L',by simp [Gh.thaw,hb,q1],q2⟩
 ·obtain ⟨_,_,q,_⟩:=hS.tok _ _ _ _ e
  have:=(List.getElem?_eq_some_iff.1 q).1
  obtain ⟨b',n',c',r1,r2⟩:=he.tok _ _ _ _ e
  exact ⟨b',n',c',by simp [Gh.thaw,show u≠t by omega,r1],r2⟩
 ·exact he.own b L u e1 (hown e2).1
end Go.Am
namespace Go.Am
variable {P:Program} {hh:String→Bool} {G G0 G1 G':Gh} {w w0 w1 w':World} {σ σ' σ1:St} {env env':Env} {n m m':Nat} {v:AV} {a:Act} {Q R S:Out→Prop}
theorem qV.lift {B:Nat} {e:Exit} (he:Evo G w G1 w1) (h:qV P hh G1 w1 n B Q e a w'):qV P hh G w n B Q e a w':=by
 obtain ⟨o,G',q1,q2,q3,q4,q5,q6⟩:=h
 exact ⟨o,G',q1,q2,q3,q4,he.trans q5,q6⟩
theorem qV.mono {B:Nat} {e:Exit} (hq:∀ o,Q o→R o) (h:qV P hh G w n B Q e a w'):qV P hh G w n B R e a w':=by
 obtain ⟨o,G',q1,q2⟩:=h
 exact ⟨o,G',hq _ q1,q2⟩
def G4 (P:Program) (hh:String→Bool) (n:Nat) (ops:Array Oper):List Nat→List AOper→Prop
 |[],[]=>True
 |i::l,d::os=>(∃ o,ops[i]? = some o∧nF P hh n ops o=some d)∧G4 P hh n ops l os
 |_,_=>False
def dO (P:Program) (hh:String→Bool):Task→(Out→Prop)→Prop
 |.code c env σ,Q=>∀ {F:Fence} {n:Nat} {cd:Code} {G:Gh} {w:World} {a:Act} {B:Nat},(F=Fence.wide∨∃ l,F=Fence.wide.inRound l∧pJ cd=true)→comp P hh n cd=some c→fO G w n env a.tmps→RelS P hh G w σ →
   rF G B a.defers→B≤w.heap.size→wpL F P cd (qV P hh G w n B Q) a w
 |.ops os env σ,Q=>∀ {F:Fence} {n:Nat} {ops:Array Oper} {l:List Nat} {G:Gh} {w:World} {a:Act} {B:Nat} {R:Exit→Act→World→Prop},FW F→G4 P hh n ops l os→fO G w n env a.tmps→RelS P hh G w σ→rF G B a.defers →
   (∀ o G' a' w',Q o→o.j=none→fO G' w' n o.env a'.tmps→RelS P hh G' w' o.σ→Evo G w G' w'→rF G' B a'.defers→R .normal a' w')→wpOpsIn F 0 P ops R l a w
 |.dops ds env σ next hist reads,Q=>∀ k,hist.length=k+1→hist[k]? = some σ→∃ vs t σf,qX P hh (hist++t) ds env k next vs∧(hist++t)[k+ds.countP (·.o.op.acts)]? = some σf ∧
   Q ⟨none,eH ds env vs,σf,.undef⟩∧∀ r∈reads,ARead.ok r (hist++t)
 |.call f args σ,Q=>D8 P hh f args σ Q
 |.callv f args σ,Q=>mK P hh f args σ Q
 |.chain az env σ,Q=>∀ {F:Fence} {n:Nat} {c0:ACode} {cd:Code} {G:Gh} {w:World} {a:Act} {B:Nat} {K:Exit→Act→World→Prop},(F=Fence.wide∨∃ l,F=Fence.wide.inRound l∧pJ cd=true)→comp P hh n cd=some (Q9 az c0) →
   fO G w n env a.tmps→RelS P hh G w σ→rF G B a.defers→B≤w.heap.size →
   (∀ d o G' a' w',comp P hh n d=some c0→(F=Fence.wide∨∃ l,F=Fence.wide.inRound l∧pJ d=true)→Q o→o.j=none→fO G' w' n o.env a'.tmps→RelS P hh G' w' o.σ→Evo G w G' w'→rF G' B a'.defers→d.wpIn F 0 P K a' w') →
   (∀ o G' a' w',Q o→o.j≠none→fO G' w' n o.env a'.tmps→RelS P hh G' w' o.σ→Evo G w G' w'→rF G' B a'.defers→K (P1 o.j) a' w')→cd.wpIn F 0 P K a w
theorem aCF {F:Fence} {p:Prop} (h:F=Fence.wide∨∃ l,F=Fence.wide.inRound l∧p):FW F:=by
 rcases h with rfl|⟨l,rfl,_⟩
 ·exact .inl rfl
 ·exact .inr ⟨l,rfl⟩
theorem rZ {F:Fence} {p q:Prop} (h:F=Fence.wide∨∃ l,F=Fence.wide.inRound l∧p) (hpq:p→q):F=Fence.wide∨∃ l,F=Fence.wide.inRound l∧q:=by
 rcases h with rfl|⟨l,rfl,h⟩
 ·exact .inl rfl
 ·exact .inr ⟨l,rfl,hpq h⟩
theorem PG {t:Task} (h:dO P hh t R) (hq:∀ o,R o→Q o):dO P hh t Q:=by
 cases t with
 |code c env σ=>intro F n cd G w a B h1 h2 h3 h4 h5 h6;exact (h h1 h2 h3 h4 h5 h6).mono fun e a w=>qV.mono hq
 |ops os env σ=>intro F n ops l G w a B R' h1 h2 h3 h4 h5 h6;exact h h1 h2 h3 h4 h5 fun o G' a' w' q=>h6 o G' a' w' (hq o q)
 |dops ds env σ next hist reads =>
  intro k h1 h2
  obtain ⟨vs,t,σf,q1,q2,q3,q4⟩:=h k h1 h2
  exact ⟨vs,t,σf,q1,q2,hq _ q3,q4⟩
 |call f args σ =>
  refine ⟨h.1,fun ha hS=>(h.2 ha hS).mono fun e w' hr=>?_⟩
  obtain ⟨r,G',u,q1,q2,q3⟩:=hr
  exact ⟨r,G',u,q1,hq _ q2,q3⟩
 |callv f args σ=>exact M5 h hq
 |chain az env σ =>
  intro F n c0 cd G w a B K h1 h2 h3 h4 h5 h6 h7 h8
  exact h h1 h2 h3 h4 h5 h6 (fun d o G' a' w' p1 p2 p3=>h7 d o G' a' w' p1 p2 (hq _ p3)) fun o G' a' w' p=>h8 o G' a' w' (hq _ p)
theorem PH (h:Q ⟨none,env,σ,.undef⟩):dO P hh (.code .skip env σ) Q:=by
 intro F n cd G w a B h1 h2 h3 h4 h5 h6
 have hp:qV P hh G w n B Q .normal a w:=⟨_,G,h,rfl,h3,h4,.refl _ _,h5⟩
 rcases PI h2 with rfl|⟨l,rfl⟩
 ·exact wpIn_skip hp
 ·exact wpIn_label hp
theorem PU {j:AJump} (h:Q ⟨some j,env,σ,.undef⟩):dO P hh (.code (.jump j) env σ) Q:=by
 intro F n cd G w a B h1 h2 h3 h4 h5 h6
 have hp:qV P hh G w n B Q (P1 (some j)) a w:=⟨_,G,h,rfl,h3,h4,.refl _ _,h5⟩
 have:=PJ h2
 subst this
 cases j with
 |ret=>exact wpIn_ret hp
 |exit id=>exact wpIn_exit hp
theorem T4 {x y:ACode} (h:dO P hh (.code x env σ) R) (h1:∀ o,R o→o.j=none→dO P hh (.code y o.env o.σ) Q) (h2:∀ o,R o→o.j≠none→Q o):dO P hh (.code (.seq x y) env σ) Q:=by
 intro F n cd G w a B f1 f2 f3 f4 f5 f6
 obtain ⟨c,d,rfl,c1,c2⟩:=A6 f2
 refine wpIn_seq (wpIn_mono (h (rZ f1 fun e=>by simp [pJ] at e;exact e.1) c1 f3 f4 f5 f6).wpIn fun e a' w' hp=>?_)
 obtain ⟨o,G',q1,rfl,q3,q4,q5,q6⟩:=hp
 cases hj:o.j with
 |none=>exact ((h1 o q1 hj) (rZ f1 fun e=>by simp [pJ] at e;exact e.2) c2 q3 q4 q6 (Nat.le_trans f6 q5.size)).mono (fun e a w=>qV.lift q5) |>.wpIn
 |some j =>
  have:=h2 o q1 (by rw [hj];simp)
  have hp:qV P hh G w n B Q (P1 (some j)) a' w':=⟨o,G',this,by rw [hj],q3,q4,q5,q6⟩
  cases j<;>exact hp
theorem O9 {c:AOpd} {x y:ACode} (b:Bool) (hc:c.ev env = .bool b) (h:dO P hh (.code (if b then x else y) env σ) Q):dO P hh (.code (.cond c x y) env σ) Q:=by
 intro F n cd G w a B f1 f2 f3 f4 f5 f6
 obtain ⟨o,p,q,rfl,c1,c2,c3⟩:=QL f2
 have hr:=cY (a:=a) c1 f3
 rw [hc] at hr
 have hv:a.eval o = .bool b:=by generalize a.eval o=u at hr;cases hr;rfl
 refine wpIn_cond hv ?_
 cases b
 ·exact (h (rZ f1 fun e=>by simp [pJ] at e;exact e.2) c3 f3 f4 f5 f6).wpIn
 ·exact (h (rZ f1 fun e=>by simp [pJ] at e;exact e.1) c2 f3 f4 f5 f6).wpIn
theorem MX {id:Nat} {b:ACode} (h:dO P hh (.code b env σ) R) (h1:∀ o,R o→Q (if o.j=some (.exit id) then { o with j:=none } else o)):dO P hh (.code (.block id b) env σ) Q:=by
 intro F n cd G w a B f1 f2 f3 f4 f5 f6
 obtain ⟨c,rfl,c1⟩:=LU f2
 refine wpIn_block (wpIn_mono (h (rZ (q:=pJ c=true) f1 fun e=>e) c1 f3 f4 f5 f6).wpIn fun e a' w' hp=>?_)
 obtain ⟨o,G',q1,rfl,q3,q4,q5,q6⟩:=hp
 have hq:=h1 o q1
 cases hj:o.j with
 |none =>
  rw [hj,if_neg (by simp)] at hq
  exact ⟨o,G',hq,by rw [hj],q3,q4,q5,q6⟩
 |some j =>
  cases j with
  |ret =>
   rw [hj,if_neg (by simp)] at hq
   exact ⟨o,G',hq,by rw [hj],q3,q4,q5,q6⟩
  |exit id' =>
   by_cases hid:id'=id
   ·subst hid
    rw [hj,if_pos rfl] at hq
    show Exit.inBlock id' _ (.exit id') a' w'
    simp only [Exit.inBlock,if_true]
    exact ⟨_,G',hq,rfl,q3,q4,q5,q6⟩
   ·rw [hj,if_neg (by simpa using hid)] at hq
    show Exit.inBlock id _ (.exit id') a' w'
    simp only [Exit.inBlock,hid,if_false]
    exact ⟨o,G',hq,by rw [hj];rfl,q3,q4,q5,q6⟩
theorem QO {b:ACode} (h:dO P hh (.code b env σ) R) (h1:∀ o,R o→o.j=none→dO P hh (.code (.loop b) o.env o.σ) Q) (h2:∀ o,R o→o.j≠none→Q o):dO P hh (.code (.loop b) env σ) Q:=by
 intro F n cd G w a B f1 f2 f3 f4 f5 f6
 obtain ⟨c,rfl,c1⟩:=OU f2
 refine mR.round (wpIn_mono (h (rZ (q:=pJ c=true) f1 fun e=>e) c1 f3 f4 f5 f6).wpIn fun e a' w' hp=>?_)
 obtain ⟨o,G',q1,rfl,q3,q4,q5,q6⟩:=hp
 cases hj:o.j with
 |none=>exact mR.mono ((h1 o q1 hj) f1 f2 q3 q4 q6 (Nat.le_trans f6 q5.size)) (fun e a w=>qV.lift q5)
 |some j =>
  have:=h2 o q1 (by rw [hj];simp)
  have hp:qV P hh G w n B Q (P1 (some j)) a' w':=⟨o,G',this,by rw [hj],q3,q4,q5,q6⟩
  cases j<;>exact hp
theorem LC {b:ACode} (h:dO P hh (.code b env σ) Q):dO P hh (.code (.scope b) env σ) Q:=by
 intro F n cd G w a B f1 f2 f3 f4 f5 f6
 obtain ⟨c,rfl,c1⟩:=MM f2
 refine JY (fun l a w hp=>?_) (h (rZ (q:=pJ c=true) f1 fun e=>e) c1 f3 f4 f5 f6).wpIn
 obtain ⟨o,G',_,q2,_⟩:=hp
 cases hj:o.j with
 |none=>rw [hj] at q2;cases q2
 |some j=>rw [hj] at q2;cases j<;>cases q2
theorem GJ {ops:Array Oper} {os:List AOper} (h:gV P hh n ops ops.toList=some os):G4 P hh n ops (List.range ops.size) os:=by
 have key:∀ (l:List Oper) (os:List AOper) (k:Nat),gV P hh n ops l=some os→(∀ (i:Nat) (o:Oper),l[i]? = some o→ops[k+i]? = some o)→G4 P hh n ops (List.range' k l.length) os:=by
  intro l
  induction l with
  |nil=>intro os k h _;simp [gV] at h;subst h;trivial
  |cons o l ih =>
   intro os k h hk
   simp only [gV] at h
   split at h
   ·rename_i d ds h1 h2
    cases h
    refine ⟨⟨o,by simpa using hk 0 o rfl,h1⟩,ih ds (k+1) h2 fun i o' e=>?_⟩
    have:=hk (i+1) o' (by simpa using e)
    rw [show k+1+i=k+(i+1) by omega]
    exact this
   ·cases h
 have:=key ops.toList os 0 h fun i o e=>by rw [Nat.zero_add];simpa using e
 rw [List.range_eq_range']
 simpa using this
theorem RM {os:List AOper} (h:dO P hh (.ops os env σ) Q) (hj:∀ o,Q o→True):dO P hh (.code (.reg os) env σ) Q:=by
 intro F n cd G w a B f1 f2 f3 f4 f5 f6
 obtain ⟨id,ops,rfl,c1⟩:=VY f2
 exact wpIn_region (h (aCF f1) (GJ c1) f3 f4 f5 fun o G' a' w' q1 q2 q3 q4 q5 q6=>⟨o,G',q1,by rw [q2];rfl,q3,q4,q5,q6⟩)
theorem Q0 {ds:List ADOper} (h:dO P hh (.dops ds env (σ++eN ds) σ.length [σ++eN ds] []) Q):dO P hh (.code (.dreg ds) env σ) Q:=by
 intro F n cd G w a B f1 f2 f3 f4 f5 f6
 obtain ⟨id,ops,os,rfl,c1,c2,c3,rfl⟩:=PP f2
 obtain ⟨vs,t,σf,q1,q2,q3,_⟩:=h 0 rfl rfl
 refine KT (aCF f1) c1 c2 c3 f3 f4 f5 q1 rfl ?_ q3
 rw [←q2,Nat.zero_add,xT]
 congr 1
 conv=>lhs;rw [←tX (Region.before ops) os]
 rw [List.countP_map]
 rfl
theorem R9 (h:Q ⟨none,env,σ,.undef⟩):dO P hh (.ops [] env σ) Q:=by
 intro F n ops l G w a B R f1 f2 f3 f4 f5 f6
 cases l with
 |nil=>exact f6 _ G a w h rfl f3 f4 (.refl _ _) f5
 |cons i l=>exact f2.elim
theorem uP (hE:fO G w n env a.tmps) {d:AOper}:∀ t want,d.guard=some (t,want)→RelV G w (Env.get env t) (a.tmps.getD t undef):=fun t _ _=>hE.2 t
theorem nO (dst:Option Nat) (u:Value):(a.put dst u).defers=a.defers:=by cases dst<;>rfl
theorem RQ {o:AOper} {os:List AOper} (hw:o.wanted env=some false) (h:dO P hh (.ops os (Env.put env o.dst (.tuple [])) σ) Q):dO P hh (.ops (o::os) env σ) Q:=by
 intro F n ops l G w a B R f1 f2 f3 f4 f5 f6
 cases l with
 |nil=>exact f2.elim
 |cons i l =>
  obtain ⟨⟨od,ho,hcomp⟩,hrest⟩:=f2
  obtain ⟨c1,c2,c3,c4⟩:=iK hcomp
  simp only [wpOpsIn,ho,oM hcomp (uP f3) hw,Bool.false_eq_true,if_false]
  refine ⟨fun f _=>f1.fn f,h f1 hrest ?_ f4 (by rw [nO];exact f5) f6⟩
  rw [c2]
  exact f3.put c3 D3
theorem QI {o:AOper} {os:List AOper} (hw:o.wanted env=some true) (ha:aop o.op env σ=some (v,σ')) (h:dO P hh (.ops os (Env.put env o.dst v) σ') Q):dO P hh (.ops (o::os) env σ) Q:=by
 intro F n ops l G w a B R f1 f2 f3 f4 f5 f6
 cases l with
 |nil=>exact f2.elim
 |cons i l =>
  obtain ⟨⟨od,ho,hcomp⟩,hrest⟩:=f2
  obtain ⟨c1,c2,c3,c4⟩:=iK hcomp
  simp only [wpOpsIn,ho,oM hcomp (uP f3) hw,if_true,Oper.wpIn]
  refine ⟨fun f _=>f1.fn f,?_⟩
  rw [GZ c1]
  refine JK (uZ c1 f3 f4 ha) fun u G' w' hu hS' he=>?_
  refine h f1 hrest ?_ hS' (by rw [nO];exact f5.mono he.defs) fun o' G2 a' w2 g1 g2 g3 g4 g5 g6=>f6 o' G2 a' w2 g1 g2 g3 g4 (he.trans g5) g6
  rw [c2]
  exact (f3.mono he).put c3 hu
theorem K8 {o:AOper} {os:List AOper} {f:AOpd} {args:List AOpd} (hw:o.wanted env=some true) (hop:o.op = .call f args) (hc:dO P hh (.callv (f.ev env) (args.map (·.ev env)) σ) R)
  (h:∀ r,R r→dO P hh (.ops os (Env.put env o.dst r.v) r.σ) Q):dO P hh (.ops (o::os) env σ) Q:=by
 intro F n ops l G w a B R f1 f2 f3 f4 f5 f6
 cases l with
 |nil=>exact f2.elim
 |cons i l =>
  obtain ⟨⟨od,ho,hcomp⟩,hrest⟩:=f2
  obtain ⟨c1,c2,c3,c4⟩:=iK hcomp
  simp only [wpOpsIn,ho,oM hcomp (uP f3) hw,if_true,Oper.wpIn]
  refine ⟨fun f _=>f1.fn f,?_⟩
  rw [GZ c1]
  rw [hop] at c1
  refine FQ f1 c1 f3 f4 hc fun r G' w' u hr hu hS' he=>?_
  refine h r hr f1 hrest ?_ hS' (by rw [nO];exact f5.mono he.defs) fun o' G2 a' w2 g1 g2 g3 g4 g5 g6=>f6 o' G2 a' w2 g1 g2 g3 g4 (he.trans g5) g6
  rw [c2]
  exact (f3.mono he).put c3 hu
theorem KW {pos:String} {op:Op} {x:AOpd} (h:cB P hh pos op=some (.mnext x)):∃ o,op = .next o false∧opd o=some x:=by
 cases op with
 |next o s =>
  simp only [cB] at h
  split at h
  ·rename_i y hy
   split at h
   ·cases h
   ·rename_i hs;cases h;exact ⟨o,by simp at hs;rw [hs],hy⟩
  ·cases h
 |call c =>
  exfalso
  simp only [cB,qP] at h
  repeat' split at h
  all_goals first|(cases h;done)|(simp_all;done)
 |_ =>
  exfalso
  simp only [cB] at h
  repeat' split at h
  all_goals first|(cases h;done)|(simp_all;done)
theorem M2 {o:AOper} {os:List AOper} {x:AOpd} {id k:Nat} {es:List (AV×AV)} {left:List Nat} {last:Option Nat} (hw:o.wanted env=some true) (hop:o.op = .mnext x) (hx:x.ev env = .ptr id 0)
  (hl:σ[id]? = some (.miter m k left last)) (he:σ[m]? = some (.map es)) (hk:es.length=k)
  (h0:left=[]→dO P hh (.ops os (Env.put env o.dst (.tuple [.bool false])) σ) Q)
  (h1:∀ i x y,i∈left→es[i]? = some (x,y)→dO P hh (.ops os (Env.put env o.dst (.tuple [.bool true,x,y])) (σ.set id (.miter m k (left.filter (·≠i)) (some i)))) Q) :
  dO P hh (.ops (o::os) env σ) Q:=by
 intro F n ops l G w a B R f1 f2 f3 f4 f5 f6
 cases l with
 |nil=>exact f2.elim
 |cons i l =>
  obtain ⟨⟨od,ho,hcomp⟩,hrest⟩:=f2
  obtain ⟨c1,c2,c3,c4⟩:=iK hcomp
  simp only [wpOpsIn,ho,oM hcomp (uP f3) hw,if_true,Oper.wpIn]
  refine ⟨fun f _=>f1.fn f,?_⟩
  rw [GZ c1]
  rw [hop] at c1
  obtain ⟨xo,hxo,hxp⟩:=KW c1
  have hr:=cY (a:=a) hxp f3
  rw [hx] at hr
  rcases II (ty:=od.type) f4 hr hl he hk with ⟨hnil,w1,hrun,hS1,he1⟩|⟨j,y,z,w1,q,hj,hjes,hrun,hq,hS1,he1⟩
  ·rw [show (execOp a.eval od).run P w = .ok (.value (.tuple #[.bool false])) w1 from by simp [execOp,hxo,hrun],Oper.uponIn_value]
   refine h0 hnil f1 hrest ?_ hS1 (by rw [nO];exact f5.mono he1.defs) fun o' G2 a' w2 g1 g2 g3 g4 g5 g6=>f6 o' G2 a' w2 g1 g2 g3 g4 (he1.trans g5) g6
   rw [c2]
   refine (f3.mono he1).put c3 (.tuple rfl fun i a u e1 e2=>?_)
   match i with
   |0=>simp at e1 e2;subst e1;subst e2;exact .bool _
   |_+1=>simp at e1
  ·rw [show (execOp a.eval od).run P w = .ok (.value q) w1 from by simp [execOp,hxo,hrun],Oper.uponIn_value]
   refine h1 j y z hj hjes f1 hrest ?_ hS1 (by rw [nO];exact f5.mono he1.defs) fun o' G2 a' w2 g1 g2 g3 g4 g5 g6=>f6 o' G2 a' w2 g1 g2 g3 g4 (he1.trans g5) g6
   rw [c2]
   exact (f3.mono he1).put c3 hq
section
variable {ds:List ADOper} {d:ADOper} {next:Nat} {hist:List St} {reads:List ARead}
theorem QK (hr:∀ r∈reads,ARead.ok r hist) (h:Q ⟨none,env,σ,.undef⟩):dO P hh (.dops [] env σ next hist reads) Q:=by
 intro k h1 h2
 exact ⟨[],[],σ,rfl,by simpa using h2,h,by simpa using hr⟩
theorem WF {s:St} {k:Nat} {t:List St} (h1:hist.length=k+1) (h2:hist[k]? = some s):(hist++t)[k]? = some s:=by
 rw [List.getElem?_append_left (by omega)];exact h2
theorem vM (hna:d.o.op.acts=false) (hf:∀ k t,hist.length=k+1→hist[k]? = some σ→(∀ r∈reads,ARead.ok r (hist++t))→tN P hh (hist++t) d env k next v) {reads':List ARead}
  (hsub:∀ r∈reads,r∈reads') (hf':∀ k t,hist.length=k+1→hist[k]? = some σ→(∀ r∈reads',ARead.ok r (hist++t))→tN P hh (hist++t) d env k next v)
  (h:dO P hh (.dops ds (Env.put env d.o.dst v) σ (if d.o.op.allocs then next+1 else next) hist reads') Q):dO P hh (.dops (d::ds) env σ next hist reads) Q:=by
 intro k h1 h2
 obtain ⟨vs,t,σf,q1,q2,q3,q4⟩:=h k h1 h2
 refine ⟨v::vs,t,σf,⟨hf' k t h1 h2 q4,?_⟩,?_,q3,fun r hr=>q4 r (hsub r hr)⟩
 ·rw [hna]
  exact q1
 ·rw [List.countP_cons,hna]
  exact q2
theorem vS {s':St} (hact:d.o.op.acts=true) (hf:∀ k t,(hist++[s']++t)[k]? = some σ→(hist++[s']++t)[k+1]? = some s'→tN P hh (hist++[s']++t) d env k next v)
  (h:dO P hh (.dops ds (Env.put env d.o.dst v) s' (if d.o.op.allocs then next+1 else next) (hist++[s']) reads) Q):dO P hh (.dops (d::ds) env σ next hist reads) Q:=by
 intro k h1 h2
 obtain ⟨vs,t,σf,q1,q2,q3,q4⟩:=h (k+1) (by simp [h1]) (by rw [List.getElem?_append_right (by omega)];simp [h1])
 have e:hist++([s']++t)=hist++[s']++t:=by simp
 refine ⟨v::vs,[s']++t,σf,?_,?_,q3,by rw [e];exact q4⟩
 ·rw [e]
  refine ⟨hf k t ?_ ?_,?_⟩
  ·rw [List.append_assoc];exact WF h1 h2
  ·rw [List.append_assoc,List.getElem?_append_right (by omega)];simp [h1]
  ·rw [hact]
   exact q1
 ·rw [e,List.countP_cons,hact,if_pos rfl,←Nat.add_assoc,Nat.add_right_comm]
  exact q2
theorem s9 {op:AOp} (h:op.acts=true):op.allocs=false:=by cases op<;>simp [AOp.acts,AOp.allocs] at h ⊢
theorem QJ (hw:d.o.wanted env=some false) (h:dO P hh (.dops ds (Env.put env d.o.dst (.tuple [])) σ (if d.o.op.allocs then next+1 else next) (if d.o.op.acts then hist++[σ] else hist) reads) Q) :
  dO P hh (.dops (d::ds) env σ next hist reads) Q:=by
 cases ha:d.o.op.acts with
 |true =>
  rw [ha] at h
  exact vS ha (fun k t e1 e2=>.inl ⟨hw,rfl,fun _=>⟨σ,e1,e2⟩⟩) h
 |false =>
  rw [ha] at h
  have hf:∀ (k:Nat) (t:List St),tN P hh (hist++t) d env k next (.tuple []):=fun k t=>.inl ⟨hw,rfl,fun e=>by rw [ha] at e;cases e⟩
  exact vM ha (fun k t _ _ _=>hf k t) (fun r hr=>hr) (fun k t _ _ _=>hf k t) h
theorem JF {z:List AV} (hw:d.o.wanted env=some true) (ho:d.o.op = .alloc z) (h:dO P hh (.dops ds (Env.put env d.o.dst (.ptr next 0)) σ (next+1) hist reads) Q):dO P hh (.dops (d::ds) env σ next hist reads) Q:=by
 have hf:∀ (k:Nat) (t:List St),tN P hh (hist++t) d env k next (.ptr next 0):=fun k t=>.inr ⟨hw,.inl ⟨z,ho,rfl⟩⟩
 refine vM (by rw [ho];rfl) (fun k t _ _ _=>hf k t) (fun r hr=>hr) (fun k t _ _ _=>hf k t) ?_
 rw [ho]
 exact h
theorem MA (hw:d.o.wanted env=some true) (hk:(d.o.op.acts||d.o.op.allocs||d.o.op.reads)=false) (ha:aop d.o.op env σ=some (v,σ)) (h:dO P hh (.dops ds (Env.put env d.o.dst v) σ next hist reads) Q) :
  dO P hh (.dops (d::ds) env σ next hist reads) Q:=by
 simp only [Bool.or_eq_false_iff] at hk
 have hf:∀ (k:Nat) (t:List St),tN P hh (hist++t) d env k next v:=fun k t=>.inr ⟨hw,.inr (.inl ⟨hk.1.1,hk.1.2,hk.2,σ,σ,ha⟩)⟩
 refine vM hk.1.1 (fun k t _ _ _=>hf k t) (fun r hr=>hr) (fun k t _ _ _=>hf k t) ?_
 rw [hk.1.2]
 exact h
theorem KL (hw:d.o.wanted env=some true) (hk:d.o.op.reads=true) (h:dO P hh (.dops ds (Env.put env d.o.dst v) σ next hist (⟨d.lo,d.hi,d.o.op,env,v⟩::reads)) Q):dO P hh (.dops (d::ds) env σ next hist reads) Q:=by
 have hna:d.o.op.acts=false:=by revert hk;cases d.o.op<;>simp [AOp.reads,AOp.acts]
 have hal:d.o.op.allocs=false:=by revert hk;cases d.o.op<;>simp [AOp.reads,AOp.allocs]
 intro k h1 h2
 obtain ⟨vs,t,σf,q1,q2,q3,q4⟩:=h k h1 h2
 refine ⟨v::vs,t,σf,⟨.inr ⟨hw,.inr (.inr (.inl ⟨hk,q4 _ (List.mem_cons_self ..)⟩))⟩,?_⟩,?_,q3,fun r hr=>q4 r (List.mem_cons_of_mem _ hr)⟩
 ·rw [hna,hal]
  exact q1
 ·rw [List.countP_cons,hna]
  exact q2
theorem O6 (hw:d.o.wanted env=some true) (hk:d.o.op.acts=true) (ha:aop d.o.op env σ=some (v,σ')) (h:dO P hh (.dops ds (Env.put env d.o.dst v) σ' next (hist++[σ']) reads) Q) :
  dO P hh (.dops (d::ds) env σ next hist reads) Q:=by
 refine vS hk (fun k t e1 e2=>.inr ⟨hw,.inr (.inr (.inr (.inl ⟨hk,σ,σ',e1,e2,ha⟩)))⟩) ?_
 rw [s9 hk]
 exact h
theorem LF {f:AOpd} {args:List AOpd} (hw:d.o.wanted env=some true) (ho:d.o.op = .call f args) (hc:dO P hh (.callv (f.ev env) (args.map (·.ev env)) σ) fun r=>r.v=v∧r.σ=σ')
  (h:dO P hh (.dops ds (Env.put env d.o.dst v) σ' next (hist++[σ']) reads) Q):dO P hh (.dops (d::ds) env σ next hist reads) Q:=by
 have hk:d.o.op.acts=true:=by rw [ho];rfl
 refine vS hk (fun k t e1 e2=>.inr ⟨hw,.inr (.inr (.inr (.inr ⟨f,args,σ,σ',ho,e1,e2,hc⟩)))⟩) ?_
 rw [s9 hk]
 exact h
end
end Go.Am
namespace Go.Am
variable {P:Program} {hh:String→Bool} {G G0 G1 G2 G':Gh} {w w0 w1 w2 w':World} {σ σ' σ1 σ2:St} {env env':Env} {n m m':Nat} {v:AV} {a:Act} {Q R:Out→Prop}
theorem L6 {c:ACode} (h:dO P hh (.code c env σ) R) (h1:∀ o,R o→Q o∨∃ env'' σ'',xW σ o.env o.σ env'' σ''∧Q ⟨o.j,env'',σ'',o.v⟩):dO P hh (.code c env σ) Q:=by
 intro F n cd G w a B f1 f2 f3 f4 f5 f6
 refine (h f1 f2 (f3.ghost (G':=G.shut σ) rfl rfl rfl rfl) f4.shut (f5.mono fun r e=>e) f6).mono fun e a' w' hp=>?_
 obtain ⟨o,G1,q1,q2,q3,q4,q5,q6⟩:=hp
 rcases h1 o q1 with hq|⟨env'',σ'',⟨t1,t2,t3,t4⟩,hq⟩
 ·refine ⟨o,{ G1 with res:=G.res },hq,q2,q3.ghost rfl rfl rfl rfl,q4.reserve _ fun id x e=>?_,?_,q6.mono fun r e=>e⟩
  ·exact q4.res id x (q5.res _ _ ((mB f4).res _ _ e))
  ·have h2:=(mB f4).trans q5
   exact ⟨h2.loc,h2.lim,h2.tok,h2.own,h2.defs,h2.B0,h2.h0,h2.os,h2.tape,h2.output,h2.size,fun _ _ e=>e⟩
 have hL:=oY (m:=σ''.length) q4 G.res
 refine ⟨_,G1.cut w' o.σ σ''.length G.res,hq,q2,⟨q3.1,fun t=>?_⟩,H6 f4 q5 q4 q3 t1 t2 t4,wG f4 q5 q4 t1,q6.mono fun r e=>e⟩
 show RelV _ _ (Env.get env'' t) _
 rcases yT t3 t with hu|hu
 ·rw [hu];exact .undef _
 ·exact (q3.2 t).thin q4 hL hu
theorem LN {a0:ACode} {az:List ACode} {c:ACode} {S:Env→St→Prop} (h:dO P hh (.chain (a0::az) env σ) R) (h1:∀ o,R o→o.j≠none→Q o)
  (h2:∀ o,R o→o.j=none→∃ env1 σ1 env2 σ2,xW σ o.env o.σ env1 σ1∧((env2=env1∧σ2=σ1)∨OL σ.length env1 σ1 env2 σ2)∧S env2 σ2)
  (h3:∀ env2 σ2,S env2 σ2→dO P hh (.code c env2 σ2) Q):dO P hh (.code (Q9 (a0::az) c) env σ) Q:=by
 intro F n cd G w a B f1 f2 f3 f4 f5 f6
 have hwp:∀ K,cd.wpIn F 0 P K a w→wpL F P cd K a w:=by
  intro K hk
  simp only [Q9] at f2
  obtain ⟨x,y,rfl,_⟩:=A6 f2
  exact hk
 refine hwp _ (h f1 f2 (f3.ghost (G':=G.shut σ) rfl rfl rfl rfl) f4.shut (f5.mono fun r e=>e) f6 (fun d o G1 a' w' p1 p2 p3 p4 p5 p6 p7 p8=>?_) fun o G1 a' w' p1 p2 p3 p4 p5 p6=>?_)
 ·obtain ⟨env1,σ1,env2,σ2,⟨t1,t2,t3,t4⟩,ht,hs⟩:=h2 o p3 p4
  have hL:=oY (m:=σ1.length) p6 G.res
  have hE1:fO (G1.cut w' o.σ σ1.length G.res) w' n env1 a'.tmps:=by
   refine ⟨p5.1,fun t=>?_⟩
   rcases yT t3 t with hu|hu
   ·rw [hu];exact .undef _
   ·exact (p5.2 t).thin p6 hL hu
  have hS1:=H6 f4 p7 p6 p5 t1 t2 t4
  have hV1:=wG f4 p7 p6 t1
  have hM1:rF (G1.cut w' o.σ σ1.length G.res) B a'.defers:=p8.mono fun r e=>e
  rcases ht with ⟨rfl,rfl⟩|ht
  ·exact ((h3 _ _ hs p2 p1 hE1 hS1 hM1 (Nat.le_trans f6 p7.size)).mono fun e a w=>qV.lift hV1).wpIn
  ·obtain ⟨G3,s1,s2,s3,s4⟩:=M8 f4 hV1 hS1 hE1 (fun id r e=>e) ht
   exact ((h3 _ _ hs p2 p1 s2 s1 (hM1.mono fun r e=>by rw [s4];exact e) (Nat.le_trans f6 p7.size)).mono fun e a w=>qV.lift s3).wpIn
 ·refine ⟨o,{ G1 with res:=G.res },h1 o p1 p2,rfl,p3.ghost rfl rfl rfl rfl,p4.reserve _ fun id x e=>?_,?_,p6.mono fun r e=>e⟩
  ·exact p4.res id x (p5.res _ _ ((mB f4).res _ _ e))
  ·have h2:=(mB f4).trans p5
   exact ⟨h2.loc,h2.lim,h2.tok,h2.own,h2.defs,h2.B0,h2.h0,h2.os,h2.tape,h2.output,h2.size,fun _ _ e=>e⟩
theorem DA (h:Q ⟨none,env,σ,.undef⟩):dO P hh (.chain [] env σ) Q:=by
 intro F n c0 cd G w a B K f1 f2 f3 f4 f5 f6 f7 f8
 exact f7 cd _ G a w f2 f1 h rfl f3 f4 (.refl _ _) f5
theorem CK {x:ACode} {az:List ACode} (h:dO P hh (.code x env σ) R) (h1:∀ o,R o→o.j=none→dO P hh (.chain az o.env o.σ) Q) (h2:∀ o,R o→o.j≠none→Q o):dO P hh (.chain (x::az) env σ) Q:=by
 intro F n c0 cd G w a B K f1 f2 f3 f4 f5 f6 f7 f8
 simp only [Q9] at f2
 obtain ⟨c,d,rfl,c1,c2⟩:=A6 f2
 refine wpIn_seq (wpIn_mono (h (rZ f1 fun e=>by simp [pJ] at e;exact e.1) c1 f3 f4 f5 f6).wpIn fun e a' w' hp=>?_)
 obtain ⟨o,G',q1,rfl,q3,q4,q5,q6⟩:=hp
 cases hj:o.j with
 |none =>
  refine (h1 o q1 hj) (rZ f1 fun e=>by simp [pJ] at e;exact e.2) c2 q3 q4 q6 (Nat.le_trans f6 q5.size) (fun d o2 G2 a2 w2 p1 p2 p3 p4 p5 p6 p7 p8=>f7 d o2 G2 a2 w2 p1 p2 p3 p4 p5 p6 (q5.trans p7) p8)
   fun o2 G2 a2 w2 p1 p2 p3 p4 p5 p6=>f8 o2 G2 a2 w2 p1 p2 p3 p4 (q5.trans p5) p6
 |some j =>
  have:=f8 o G' a' w' (h2 o q1 (by rw [hj];simp)) (by rw [hj];simp) q3 q4 q5 q6
  rw [hj] at this
  cases j<;>exact this
theorem RelV.free (hl:∀ b L,G.lim b=some L→(∀ t,G.own b≠some t)→∃ L',G'.lim b=some L'∧L≤L') (ho:∀ b L,G.lim b=some L→(∀ t,G.own b≠some t)→∀ t,G'.own b≠some t) {a:AV} {u:Value} (h:RelV G w a u) (hk:okV 0 a):RelV G' w a u:=by
 have htk:∀ {full tk n base cap},(∀ t,tk=some t→t<0)→nZ G full tk n base cap→nZ G' full tk n base cap:=fun q h=>⟨h.1,h.2.1,fun t e=>absurd (q t e) (by omega)⟩
 have hlit:∀ {xs tk b o sz},(∀ t,tk=some t→t<0)→LitAt G w xs tk b o sz→LitAt G' w xs tk b o sz:=by
  intro xs tk b o sz q ⟨⟨L,q1,q2⟩,q3,q4,q5⟩
  have hn:∀ t,G.own b≠some t:=fun t e=>absurd (q t (q3 t e)) (by omega)
  obtain ⟨L',r1,r2⟩:=hl b L q1 hn
  exact ⟨⟨L',r1,by omega⟩,fun t e=>absurd e (ho b L q1 hn t),q4,q5⟩
 induction h with
 |undef v=>exact .undef v
 |int k n=>exact .int k n
 |bool b=>exact .bool b
 |str s=>exact .str s
 |func e1 e2 _ _ e3 e4=>exact .func e1 e2 (fun i x u q1 q2=>e3 i x u q1 q2 (iD hk.1 q1)) (fun i x u q1 q2=>e4 i x u q1 q2 (iD hk.2 q1))
 |nilFunc=>exact .nilFunc
 |yield h=>exact absurd hk (by simp [okV])
 |ptr h=>exact absurd hk (by simp [okV])
 |nilPtr=>exact .nilPtr
 |lptr ht hi hl _ ih =>
  exact .lptr (fun t e=>absurd (hk.1 t e) (by omega)) hi (hlit hk.1 hl) fun i x j c u q1 q2 q3=>ih i x j c u q1 q2 q3 (wW (iD hk.2 q1) q2)
 |nil ht hb=>exact .nil (htk hk.1 ht) hb
 |lit ht hl _ ih=>exact .lit (htk hk.1 ht) (hlit hk.1 hl) fun i x j c u q1 q2 q3=>ih i x j c u q1 q2 q3 (wW (iD hk.2 q1) q2)
 |ref h hb hc hn=>exact absurd hk (by simp [okV])
 |map h=>exact absurd hk (by simp [okV])
 |nilMap=>exact .nilMap
 |agg h _ ih=>exact .agg h fun i x u q1 q2=>ih i x u q1 q2 (iD hk q1)
 |tuple h _ ih=>exact .tuple h fun i x u q1 q2=>ih i x u q1 q2 (iD hk q1)
theorem RelV.scal {a:AV} {u:Value} (h:RelV G w a u) (hk:Scal a):RelV G' w' a u:=by
 have hs:∀ {xs:List AV},Scals xs→∀ {i:Nat} {x:AV},xs[i]? = some x→Scal x:=by
  intro xs
  induction xs with
  |nil=>intro _ i x e;simp at e
  |cons y ys ih =>
   intro h (i:Nat) (x:AV) e
   cases i with
   |zero=>simp at e;subst e;exact h.1
   |succ i=>exact ih h.2 (by simpa using e)
 induction h with
 |undef v=>exact hk.elim
 |int k n=>exact .int k n
 |bool b=>exact .bool b
 |str s=>exact .str s
 |func e1 e2 _ _ e3 e4=>exact hk.elim
 |nilFunc=>exact hk.elim
 |yield h=>exact hk.elim
 |ptr h=>exact hk.elim
 |nilPtr=>exact hk.elim
 |lptr ht hi hl _ ih=>exact hk.elim
 |@nil full tk base cap ht hb =>
  cases tk with
  |none=>exact .nil ⟨ht.1,ht.2.1,fun t e=>by cases e⟩ hb
  |some t=>exact hk.elim
 |@lit xs full tk b o sz cap ht hl _ ih =>
  cases xs with
  |nil =>
   cases tk with
   |none=>exact .nil ⟨ht.1,ht.2.1,fun t e=>by cases e⟩ (fun e=>by cases e)
   |some t=>exact hk.elim
  |cons x xs=>cases tk<;>exact hk.elim
 |ref h hb hc hn=>exact hk.elim
 |map h=>exact hk.elim
 |nilMap=>exact hk.elim
 |agg h _ ih=>exact .agg h fun i x u q1 q2=>ih i x u q1 q2 (hs hk q1)
 |tuple h _ ih=>exact .tuple h fun i x u q1 q2=>ih i x u q1 q2 (hs hk q1)
open Classical in
noncomputable def Gh.fresh0 (G:Gh) (w:World) (lim:Nat→Option Nat) (old:Nat→Prop):Gh :=
  { loc:=fun _=>none,lim:=lim,tok:=fun _=>none,own:=fun _=>none,defs:=fun _=>False,B0:=w.heap.size
    h0:=w.heap++Array.ofFn (n:=w.heap.size) (fun i=>if old i then GQ else .deferred (some [])),res:=fun _=>none }
theorem CR {lim:Nat→Option Nat} {old:Nat→Prop} {b:Nat} (hb:b<w.heap.size):(G.fresh0 w lim old).h0[w.heap.size+b]? = some GQ↔old b:=by
 simp only [Gh.fresh0]
 rw [Array.getElem?_append_right (by omega)]
 simp only [Nat.add_sub_cancel_left,Array.getElem?_ofFn,hb,dite_true,Option.some.injEq]
 split
 ·rename_i h;simp [h]
 ·rename_i h;simp [h,GQ]
theorem vV {lim:Nat→Option Nat} {old:Nat→Prop} (hl:∀ b L,lim b=some L→old b∧∃ vs T fr,w.heap[b]? = some (.cells vs T fr)∧L≤vs.size):RelS P hh (G.fresh0 w lim old) w [] :=
 ⟨fun _ _ e=>(by cases e),fun _ _ _ e=>(by cases e),fun _ _ _ e=>(by cases e),fun _ _ e=>(by cases e),fun b L e=>by
  obtain ⟨h1,vs,T,fr,h2,h3⟩:=hl b L e
  exact ⟨vs,T,fr,h2,h3,fun hb=>(CR hb).2 h1⟩,fun _ _ _ _ e=>(by cases e),fun _ _ e=>(by cases e),fun _ e=>e.elim,
  fun b hb=>by simp only [Gh.fresh0];rw [Array.getElem?_append_left hb],Nat.le_refl _,fun _ _ e=>(by cases e)⟩
theorem D7 {lim:Nat→Option Nat} {old:Nat→Prop} (hS:RelS P hh G w σ) (h1:RelS P hh G1 w' []) (he:Evo (G.fresh0 w lim old) w G1 w') (nl:Nat→Option Nat)
  (hn:∀ b,b<w.heap.size→(nl b=G.lim b)∨(∃ L L',G.lim b=some L∧(∀ t,G.own b≠some t)∧nl b=some L'∧L≤L'∧G1.lim b=some L')) (hn2:∀ b,w.heap.size≤b→nl b=G1.lim b) :
  RelS P hh { G with lim:=nl } w' σ∧Evo G w { G with lim:=nl } w':=by
 have hB:G1.B0=w.heap.size:=he.B0
 have hh0:G1.h0=_:=he.h0
 have heap:∀ b,b<w.heap.size→w'.heap[b]? = w.heap[b]?:=by
  intro b hb
  rw [h1.base b (by omega),hh0]
  simp only [Gh.fresh0]
  rw [Array.getElem?_append_left hb]
 have hsz:w.heap.size≤w'.heap.size:=he.size
 have lt:∀ {b L},G.lim b=some L→b<w.heap.size:=fun e=>by
  obtain ⟨vs,T,fr,q,_⟩:=hS.lim _ _ e
  exact (Array.getElem?_eq_some_iff.1 q).1
 have nlnone:∀ {b},b<w.heap.size→G.lim b=none→nl b=none:=by
  intro b hb e
  rcases hn b hb with h|⟨L,L',q,_⟩
  ·rw [h,e]
  ·rw [q] at e;cases e
 have hev:Evo G w { G with lim:=nl } w':=by
  refine ⟨fun _ _ h=>h,fun b L e=>?_,fun t b n c e=>⟨b,n,c,e,Nat.le_refl _,fun _=>⟨rfl,rfl⟩⟩,fun _ _ _ _ e=>e,fun _ e=>e,rfl,rfl,he.os,he.tape,he.output,hsz,fun _ _ e=>e⟩
  have hb:=lt e
  have hc:∀ k,k<L→w'.cell? ⟨b,k,none⟩=w.cell? ⟨b,k,none⟩:=by
   intro k _
   obtain ⟨vs,T,fr,q,_⟩:=hS.lim _ _ e
   rw [cell_of_row w b k vs T fr q,cell_of_row w' b k vs T fr (by rw [heap b hb];exact q)]
  rcases hn b hb with h|⟨L1,L',q,_,q2,q3,_⟩
  ·exact ⟨L,by show nl b=some L;rw [h,e],Nat.le_refl _,hc⟩
  ·rw [e] at q;cases q;exact ⟨L',q2,q3,hc⟩
 refine ⟨⟨hS.lt,fun id b x e1 e2=>(hS.blk id b x e1 e2).mono hev (heap b (hS.fresh _ _ e1).2.1),hS.inj,fun id b e=>?_,fun b L e=>?_,fun t b n c e=>?_,fun b t e=>?_,fun r e=>?_,fun b hb=>?_,Nat.le_trans hS.size hsz,hS.res⟩,hev⟩
 ·obtain ⟨q1,q2,q3,q4⟩:=hS.fresh id b e
  exact ⟨q1,by omega,nlnone q2 q3,q4⟩
 ·have e:nl b=some L:=e
  by_cases hb:b<w.heap.size
  ·rcases hn b hb with h|⟨L1,L',q,_,q2,q3,q4⟩
   ·rw [h] at e
    obtain ⟨vs,T,fr,p1,p2,p3⟩:=hS.lim b L e
    exact ⟨vs,T,fr,by rw [heap b hb];exact p1,p2,p3⟩
   ·rw [q2] at e
    cases e
    obtain ⟨vs,T,fr,p1,p2,p3⟩:=h1.lim b _ q4
    obtain ⟨_,_,_,_,_,p6⟩:=hS.lim b _ q
    exact ⟨vs,T,fr,p1,p2,p6⟩
  ·rw [hn2 b (by omega)] at e
   obtain ⟨vs,T,fr,p1,p2,p3⟩:=h1.lim b L e
   exact ⟨vs,T,fr,p1,p2,fun hlt=>absurd (Nat.lt_of_lt_of_le hlt hS.size) hb⟩
 ·obtain ⟨sz,ex,q1,q2,q3,q4⟩:=hS.tok t b n c e
  refine ⟨sz,ex,q1,q2,q3,fun hx=>?_⟩
  obtain ⟨bb,vs,T,r1,r2,r3,r4,r5,r6⟩:=q4 hx
  have hb:=lt r3
  refine ⟨bb,vs,T,r1,r2,?_,r4,by rw [heap bb hb];exact r5,r6⟩
  rcases hn bb hb with h|⟨_,_,_,q,_⟩
  ·show nl bb=_;rw [h,r3]
  ·exact absurd r2 (q t)
 ·obtain ⟨q1,q2⟩:=hS.own b t e
  exact ⟨by omega,q2⟩
 ·obtain ⟨q1,q2,q3⟩:=hS.defs r e
  have hr:=(Array.getElem?_eq_some_iff.1 q1).1
  exact ⟨by rw [heap r hr];exact q1,q2,nlnone hr q3⟩
 ·rw [heap b (Nat.lt_of_lt_of_le hb hS.size)]
  exact hS.base b hb
theorem zN {args:List AV} {vs:Array Value} (f:AV→AV) (hf:∀ (i:Nat) (x:AV) (u:Value),args[i]? = some x→vs[i]? = some u→RelV G' w (f x) u) (h:vs.size=args.length):gG G' w (args.map f) vs:=by
 refine ⟨by simp [h],fun i x u e1 e2=>?_⟩
 rw [List.getElem?_map] at e1
 cases e:args[i]? with
 |none=>rw [e] at e1;cases e1
 |some y=>rw [e] at e1;cases e1;exact hf i y u e e2
theorem LJ {f:FuncId} {args args0:List AV} (hf:okVs 0 args) (h0:args0=args∨args0=clrs args) (h:dO P hh (.call f args0 []) R) (h1:∀ o,R o→o.σ=[]∧Q ⟨none,[],σ,o.v⟩):dO P hh (.call f args σ) Q:=by
 refine ⟨h.1,fun {G w vs} ha hS=>?_⟩
 let old:Nat→Prop:=fun b=>(∃ L,G.lim b=some L)∧∀ t,G.own b≠some t
 let lim:Nat→Option Nat:=fun b=>match G.own b with|none=>G.lim b|some _=>none
 have hlim:∀ {b L},lim b=some L→G.lim b=some L∧∀ t,G.own b≠some t:=by
  intro b L e
  simp only [lim] at e
  split at e
  ·rename_i hn;exact ⟨e,fun t e'=>by rw [hn] at e';cases e'⟩
  ·cases e
 have hrel0:RelS P hh (G.fresh0 w lim old) w []:=vV fun b L e=>by
  obtain ⟨q1,q2⟩:=hlim e
  obtain ⟨vs,T,fr,p1,p2,_⟩:=hS.lim b L q1
  exact ⟨⟨⟨L,q1⟩,q2⟩,vs,T,fr,p1,p2⟩
 have hv:∀ (i:Nat) (x:AV) (u:Value),args[i]? = some x→vs[i]? = some u→RelV (G.fresh0 w lim old) w x u:=fun i x u e1 e2 =>
  (ha.2 i x u e1 e2).free (fun b L q1 q2=>⟨L,by
   show lim b=_
   simp only [lim]
   cases e:G.own b with
   |none=>exact q1
   |some t=>exact absurd e (q2 t),Nat.le_refl _⟩) (fun _ _ _ _ t e=>by cases e) (iD hf e1)
 have ha0:gG (G.fresh0 w lim old) w args0 vs:=by
  rcases h0 with rfl|rfl
  ·exact ⟨ha.1,hv⟩
  ·rw [iQ]
   exact zN clr (fun i x u e1 e2=>(hv i x u e1 e2).clr) ha.1
 refine (h.2 ha0 hrel0).mono fun e w' hr=>?_
 obtain ⟨r,G1,u,rfl,q1,q2,q3,q4⟩:=hr
 obtain ⟨hσ,hq⟩:=h1 r q1
 rw [hσ] at q3
 have hB:G1.B0=w.heap.size:=q4.B0
 have hold:∀ {b L},b<w.heap.size→G1.lim b=some L→old b:=by
  intro b L hb e
  obtain ⟨_,_,_,_,_,p⟩:=q3.lim b L e
  have:=p (by omega)
  rw [hB,show G1.h0=_ from q4.h0] at this
  exact (CR hb).1 this
 let nl:Nat→Option Nat:=fun b=>if b<w.heap.size then (match G.own b,G.lim b with|none,some _=>G1.lim b|_,l=>l) else G1.lim b
 have hg:=D7 hS q3 q4 nl (fun b hb=>by
  simp only [nl,hb,if_true]
  cases e1:G.own b with
  |some t=>left;rfl
  |none =>
   cases e2:G.lim b with
   |none=>left;rfl
   |some L =>
    right
    obtain ⟨L',p1,p2,_⟩:=q4.lim b L (by show lim b=_;simp only [lim,e1,e2])
    exact ⟨L,L',rfl,(fun t e=>by cases e),p1,p2,p1⟩) (fun b hb=>by simp only [nl];rw [if_neg (by omega)])
 refine ⟨_,{ G with lim:=nl },u,rfl,hq,?_,hg.1,hg.2⟩
 refine q2.free (fun b L p1 p2=>⟨L,?_,Nat.le_refl _⟩) (fun b L p1 p2 t e=>?_) (q2.ok q3)
 ·show nl b=_
  simp only [nl]
  split
  ·rename_i hb
   obtain ⟨⟨L0,s1⟩,s2⟩:=hold hb p1
   cases e:G.own b with
   |some t=>exact absurd e (s2 t)
   |none=>rw [s1];exact p1
  ·exact p1
 ·have e:G.own b=some t:=e
  have hb:=(hS.own b t e).1
  exact (hold hb p1).2 t e
theorem IG {f:FuncId} {args args0 as1:List AV} {d:Nat} (hf:snaps σ 0 d args=some as1) (h0:args0=as1∨args0=clrs as1) (h:dO P hh (.call f args0 []) R) (h1:∀ o,R o→o.σ=[]∧Scal o.v∧Q ⟨none,[],σ,o.v⟩) :
    dO P hh (.call f args σ) Q:=by
  refine ⟨h.1,fun {G w vs} ha hS=>?_⟩
  have hL:=oY (m:=0) hS G.res
  obtain ⟨lim,hlimeq⟩:∃ lim,lim=(G.cut w σ 0 G.res).lim:=⟨_,rfl⟩
  have hrel0:RelS P hh (G.fresh0 w lim fun _=>True) w []:=vV fun b L e=>by
    rw [hlimeq] at e
    refine ⟨trivial,?_⟩
    cases hn:G.lim b with
    |some L' =>
      have:(G.cut w σ 0 G.res).lim b=some L':=by simp [Gh.cut,hn]
      rw [this] at e
      cases e
      obtain ⟨vs,T,fr,p1,p2,_⟩:=hS.lim b _ hn
      exact ⟨vs,T,fr,p1,p2⟩
    |none =>
      obtain ⟨rfl,id,cs,p1,p2,p3⟩:=wP e hn
      obtain ⟨vs,T,q,l,_⟩:=hS.blk _ _ _ p2 p3
      exact ⟨vs,T,(0,0),q,by simp [rT,q]⟩
  have hL':Last σ G 0 (G.fresh0 w lim fun _=>True) :=
    { loc:=fun id b h _=>absurd h (by omega),lim:=fun b L e=>by obtain ⟨L',q⟩:=hL.lim b L e;exact ⟨L',by rw [hlimeq.symm] at q;exact q⟩,tok:=fun t p h _=>absurd h (by omega),own:=fun b t e=>(by cases e),
      frz:=fun id b cs h1 h2 h3=>by
        obtain ⟨⟨L,q1,q2⟩,_⟩:=hL.frz id b cs h1 h2 h3
        exact ⟨⟨L,by rw [hlimeq.symm] at q1;exact q1,q2⟩,fun t e=>by cases e⟩ }
  obtain ⟨hlen,hsp⟩:=eR hf
  have hv:∀ (i:Nat) (y:AV) (u:Value),as1[i]? = some y→vs[i]? = some u→RelV (G.fresh0 w lim fun _=>True) w y u:=fun i y u e1 e2=>by
    obtain ⟨x,p1,p2⟩:=rA hf e1
    exact sA hS hL' d p2 (ha.2 i x u p1 e2)
  have ha0:gG (G.fresh0 w lim fun _=>True) w args0 vs:=by
    rcases h0 with rfl|rfl
    · exact ⟨by rw [hlen];exact ha.1,hv⟩
    · rw [iQ]
      exact zN clr (fun i x u e1 e2=>(hv i x u e1 e2).clr) (by rw [hlen];exact ha.1)
  refine (h.2 ha0 hrel0).mono fun e w' hr=>?_
  obtain ⟨r,G1,u,rfl,q1,q2,q3,q4⟩:=hr
  obtain ⟨hσ,hs,hq⟩:=h1 r q1
  rw [hσ] at q3
  have hg:=D7 hS q3 q4 (fun b=>if b<w.heap.size then G.lim b else G1.lim b) (fun b hb=>by left;simp [hb]) (fun b hb=>by simp;omega)
  exact ⟨_,_,u,rfl,hq,q2.scal hs,hg.1,hg.2⟩
end Go.Am
namespace Go.Am
variable {P:Program} {hh:String→Bool} {G G0 G1 G':Gh} {w w0 w1 w':World} {σ σ' σ1:St} {env env':Env} {n m m':Nat} {v:AV} {a:Act} {Q R S:Out→Prop}
theorem XR (env:Env) (t:Nat):Env.get env t = .undef∨∃ p∈env,p.1=t∧Env.get env t=p.2:=by
 induction env with
 |nil=>exact .inl rfl
 |cons p env ih =>
  obtain ⟨k,v⟩:=p
  by_cases hk:k=t
  ·exact .inr ⟨(k,v),by simp,hk,by simp [Env.get,hk]⟩
  ·rcases ih with h|⟨p,q1,q2,q3⟩
   ·exact .inl (by simp [Env.get,hk,h])
   ·exact .inr ⟨p,by simp [q1],q2,by simp [Env.get,hk,q3]⟩
theorem P9 {c:ACode} (h:dO P hh (.code c env σ) R) (h1:∀ o,R o→∃ env' m,aAN σ o.env o.σ env' m∧Q ⟨o.j,env',o.σ.take m,o.v⟩):dO P hh (.code c env σ) Q:=by
 intro F n cd G w a B f1 f2 f3 f4 f5 f6
 have he0:=mB f4
 refine (h f1 f2 (f3.ghost (G':=G.shut σ) rfl rfl rfl rfl) f4.shut (f5.mono fun r e=>e) f6).mono fun e a' w' hp=>?_
 obtain ⟨o,G1,q1,q2,q3,q4,q5,q6⟩:=hp
 obtain ⟨env',m,⟨t1,t2,t3,t4⟩,hq⟩:=h1 o q1
 have hkept:YT σ o.σ m:=⟨t1,t2,t4⟩
 have hless:=(oY (m:=m) q4 G.res).toLess
 refine ⟨_,G1.cut w' o.σ m G.res,hq,q2,⟨q3.1,fun t=>?_⟩,JI f4 q5 q4 hkept,wG f4 q5 q4 t1,q6.mono fun r e=>e⟩
 rcases XR env' t with hu|⟨p,p1,p2,p3⟩
 ·show RelV _ _ (Env.get env' t) _
  rw [hu]
  exact .undef _
 ·show RelV _ _ (Env.get env' t) _
  obtain ⟨g1,g2⟩:=t3 p p1
  rw [p3]
  have:=q3.2 t
  rw [←p2,←g1] at this
  rw [←p2]
  exact this.less hless g2
theorem K1 {c:ACode} (t sz:Nat) (xs:List AV) (ht:Env.get env t = .lit xs true none) (h:dO P hh (.code c ((t,.lit xs false (some σ.length))::env) (σ++[.tok sz xs.length false])) Q):dO P hh (.code c env σ) Q:=by
 intro F n cd G w a B f1 f2 f3 f4 f5 f6
 have hr:=f3.2 t
 rw [ht] at hr
 generalize hu:a.tmps.getD t undef=u at hr
 obtain ⟨base,cap,rfl,htk,hbn⟩:=k7 hr
 have hcap:=htk.2.1 rfl
 obtain ⟨G1,hG1⟩:∃ G1:Gh,G1={ G with tok:=fun i=>if i=σ.length then some (base,xs.length,xs.length) else G.tok i }:=⟨_,rfl⟩
 have hlt:∀ {t b n c},G.tok t=some (b,n,c)→t<σ.length:=fun e=>by
  obtain ⟨_,_,q,_⟩:=f4.tok _ _ _ _ e
  exact (List.getElem?_eq_some_iff.1 q).1
 have he:Evo G w G1 w:=by
  rw [hG1]
  refine ⟨fun _ _ h=>h,fun b L h=>⟨L,h,Nat.le_refl _,fun _ _=>rfl⟩,fun t b n c e=>⟨b,n,c,?_,Nat.le_refl _,fun _=>⟨rfl,rfl⟩⟩,fun _ _ _ _ h=>h,fun _ h=>h,rfl,rfl,rfl,rfl,rfl,Nat.le_refl _,fun _ _ h=>h⟩
  have:=hlt e
  simp only [show t≠σ.length by omega,if_false]
  exact e
 have hS1:RelS P hh G1 w (σ++[.tok sz xs.length false]):=by
  have hm:=f4.more [.tok sz xs.length false]
  rw [hG1] at he ⊢
  refine ⟨hm.lt,fun id b x e1 e2=>(hm.blk id b x e1 e2).mono he rfl,hm.inj,hm.fresh,hm.lim,fun t' b k c e=>?_,fun b t' e=>?_,hm.defs,hm.base,hm.size,hm.res⟩
  ·by_cases ht':t'=σ.length
   ·subst ht'
    simp only [if_true,Option.some.injEq,Prod.mk.injEq] at e
    obtain ⟨rfl,rfl,rfl⟩:=e
    exact ⟨sz,false,by simp,Nat.le_refl _,fun _=>rfl,fun h=>by cases h⟩
   ·simp only [ht',if_false] at e
    exact hm.tok _ _ _ _ e
  ·obtain ⟨q1,p,q2⟩:=hm.own b t' e
   refine ⟨q1,p,?_⟩
   obtain ⟨b',n',c'⟩:=p
   have:=hlt q2
   simp only [show t'≠σ.length by omega,if_false]
   exact q2
 have hv:RelV G1 w (.lit xs false (some σ.length)) (.slice base xs.length cap):=by
  have htk':nZ G1 false (some σ.length) xs.length base cap:=by
   refine ⟨htk.1,by simp,fun t' e=>?_⟩
   cases e
   exact ⟨base,xs.length,xs.length,by rw [hG1];simp,Nat.le_refl _,fun _ _=>⟨rfl,hcap.symm⟩⟩
  have hr1:=hr.mono he
  cases hr1 with
  |nil _ hb=>exact .nil htk' hb
  |lit _ hl hc =>
   refine .lit htk' ⟨hl.lim,fun t' e=>?_,hl.size,hl.cells⟩ hc
   have:=hl.own t' e
   cases this
 have hE1:fO G1 w n ((t,.lit xs false (some σ.length))::env) a.tmps:=by
  refine ⟨f3.1,fun t'=>?_⟩
  by_cases htt:t=t'
  ·subst htt
   rw [hu]
   simpa [Env.get] using hv
  ·simpa [Env.get,htt] using (f3.2 t').mono he
 exact (h f1 f2 hE1 hS1 (f5.mono he.defs) f6).mono fun e a w=>qV.lift he
theorem zT:∀ (args:List AV) (k t:Nat),Env.get (gP k args) t=if k≤t then (args[t-k]?).getD .undef else .undef
 |[],k,t=>by simp [gP,Env.get]
 |v::vs,k,t=>by
  simp only [gP,Env.get]
  by_cases hk:k=t
  ·subst hk;simp
  ·rw [if_neg hk,zT vs (k+1) t]
   by_cases hlt:k≤t
   ·rw [if_pos hlt,if_pos (by omega),show t-k=(t-(k+1))+1 by omega]
    rfl
   ·rw [if_neg hlt,if_neg (by omega)]
theorem VZ {args:List AV} {vs:Array Value} (h:gG G w args vs) (hn:args.length≤n):fO G w n (gP 0 args) (vs++Array.replicate (n-vs.size) undef):=by
 refine ⟨by have:=h.1;simp;omega,fun t=>?_⟩
 rw [zT]
 simp only [Nat.zero_le,if_true,Nat.sub_zero]
 cases e:args[t]? with
 |none=>simpa using .undef _
 |some x =>
  have ht:t<vs.size:=by rw [h.1];exact (List.getElem?_eq_some_iff.1 e).1
  have:=h.2 t x vs[t] e (Array.getElem?_eq_getElem ht)
  simpa [Array.getD_eq_getD_getElem?,Array.getElem?_append_left ht,Array.getElem?_eq_getElem ht] using this
theorem DH {fn:Func} {af:AFunc} (h:aF P hh fn=some af) :
  ∃ c,fn.body=some c∧comp P hh fn.ntmps c=some af.body∧oF P fn.results.toList=some af.results∧(fn.name== "runtime.NumGoroutine")=false∧af.ntmps=fn.ntmps:=by
 unfold aF at h
 split at h
 ·cases h
 ·rename_i c hb
  split at h
  ·rename_i b rs h1 h2
   split at h
   ·cases h
   ·rename_i hname
    cases h
    exact ⟨c,hb,h1,h2,by simpa using hname,rfl⟩
  ·cases h
theorem PL {T:FuncId→Option AFunc} (hT:∀ f af,T f=some af→∃ fn,P.funcs[f]? = some fn∧aF P hh fn=some af) {f:FuncId} {args:List AV} {af:AFunc} (hf:T f=some af) (hn:args.length≤af.ntmps)
  (h:dO P hh (.code af.body (gP 0 args) σ) R) (h1:∀ o,R o→(o.j=none∨o.j=some .ret)∧∃ v,iU af.results o.env o.σ=some v∧TQ σ o.σ v Q):dO P hh (.call f args σ) Q:=by
 obtain ⟨fn,hfn,hcomp⟩:=hT f af hf
 obtain ⟨c,hb,hc,hres,hname,hnt⟩:=DH hcomp
 have hname':¬fn.name = "runtime.NumGoroutine":=by simpa using hname
 refine ⟨fun vs w=>by simp [callFunc,hfn,hname',hb],fun {G w vs} ha hS=>?_⟩
 refine callsIn_of_wp_marks hfn hb trivial (wpIn_mono (h (F:=Fence.wide) (cd:=c) (n:=fn.ntmps) (G:=G.shut σ) (w:=w) (a:={ tmps:=vs++Array.replicate (fn.ntmps-vs.size) undef,defers:=[] }) (B:=w.heap.size) (.inl rfl) hc ((VZ ha (by omega)).ghost rfl rfl rfl rfl) hS.shut
  ⟨[],rfl,List.nodup_nil,fun r hr=>by cases hr⟩ (Nat.le_refl _)).wpIn fun e a' w' hp=>?_)
 obtain ⟨o,G1,q1,rfl,q3,q4,q5,rs,m1,m2,m3⟩:=hp
 obtain ⟨hj,v,hv,hl⟩:=h1 o q1
 have hleave:LeavesInM Fence.wide 0 P fn a'.tmps (fun e w'=>∃ r G' u,e = .returned u∧Q r∧RelV G' w' r.v u∧RelS P hh G' w' r.σ∧Evo G w G' w') a'.defers .returning w':=by
  rw [m1]
  refine y8 rs m2 (fun r hr=>⟨(m3 r hr).1,fun e=>?_⟩) q4 q3 q5 fun G2 w2 s1 s2 s3=>?_
  ·have:=(Array.getElem?_eq_some_iff.1 (hS.defs r e).1).1
   have:=(m3 r hr).2
   omega
  ·obtain ⟨u,r1,r2⟩:=DL s2 s1 hres hv
   obtain ⟨o2,G3,t1,t2,t3,t4⟩:=IC hS s3 s1 r2 hl
   exact ⟨u,r1,o2,G3,u,rfl,t1,t2,t3,t4⟩
 rcases hj with hj|hj<;>rw [hj]<;>exact hleave
theorem RelS.newDef (h:RelS P hh G w σ):RelS P hh { G with defs:=fun x=>G.defs x∨x=w.heap.size } (w.alloc (.deferred (some []))) σ ∧
  Evo G w { G with defs:=fun x=>G.defs x∨x=w.heap.size } (w.alloc (.deferred (some []))):=by
 have h1:=h.alloc (.deferred (some []))
 have he:=lE h (.deferred (some []))
 refine ⟨⟨h1.lt,fun id b x e1 e2=>(h1.blk id b x e1 e2).ghost rfl rfl rfl rfl,h1.inj,fun id b e=>?_,h1.lim,h1.tok,h1.own,fun r e=>?_,h1.base,h1.size,h1.res⟩,
  ⟨he.loc,he.lim,he.tok,he.own,fun r e=>.inl e,he.B0,he.h0,he.os,he.tape,he.output,he.size,he.res⟩⟩
 ·obtain ⟨q1,q2,q3,q4⟩:=h1.fresh id b e
  refine ⟨q1,q2,q3,fun hd=>hd.elim q4 fun e'=>?_⟩
  have:=(h.fresh id b e).2.1
  omega
 ·rcases e with e|rfl
  ·exact h1.defs r e
  ·refine ⟨by rw [eQ,if_pos rfl],h.size,?_⟩
   cases e:G.lim w.heap.size with
   |none=>rfl
   |some L=>have:=rI h e;omega
theorem tY (w:World) (g:Nat) (o:Obj):Part g w (w.putObj g o):=k8 w g o
theorem A3 {f:AOpd} {g:FuncId} {first cap:List AV} {ps:List Nat} {x y:ACode} (hf:f.ev env = .func g first cap)
  (h:dO P hh (.call g (first++[.yield σ.length]++cap) (σ++[.loop .ready none env ps x y])) R)
  (h1:∀ o,R o→∃ st pend env' ps' a' b',o.σ[σ.length]? = some (.loop st pend env' ps' a' b')∧st≠.busy∧Q ⟨pend,env,o.σ.set σ.length .dead,.undef⟩):dO P hh (.code (.rangeFunc f ps x y) env σ) Q:=by
 intro F n cd G w a B f1 f2 f3 f4 f5 f6
 obtain ⟨fo,pa,c,d,rfl,c1,c2,c3,rfl,c5,c6,c7⟩:=KX f2
 have hF:F=Fence.wide:=by
  rcases f1 with h|⟨l,_,h⟩
  ·exact h
  ·simp [pJ] at h
 subst hF
 refine wpIn_rangeFunc fun fn _=>?_
 obtain ⟨hD,heD⟩:=f4.newDef
 obtain ⟨GD,hGD⟩:∃ GD:Gh,GD={ G with defs:=fun z=>G.defs z∨z=w.heap.size }:=⟨_,rfl⟩
 rw [←hGD] at hD heD
 obtain ⟨rec,hrec⟩:∃ rec:Loop,rec={ state:=.ready,pending:=none,fn,tmps:=a.tmps,params:=pa,assign:=c,body:=d,defers:=w.heap.size }:=⟨_,rfl⟩
 have hED:=f3.mono heD
 obtain ⟨hL,heL⟩:=uN (o:=.loop rec) hD (x:=.loop .ready none env pa.toList x y) fun G' he' =>
  ⟨rec,n,by rw [eQ,if_pos rfl],by rw [hrec];rfl,by rw [hrec];rfl,by rw [hrec],by rw [hrec];exact c2,by rw [hrec];exact c3,c5,by rw [show rec.tmps=a.tmps by rw [hrec]];exact hED.mono he',by rw [hrec];exact ⟨c6,c7⟩⟩
 rw [show (w.alloc (.deferred (some []))).heap.size=w.heap.size+1 from by simp] at hL heL
 have hr:=cY (a:=a) c1 f3
 rw [hf] at hr
 have heGL:=heD.trans heL
 have hr2:=hr.mono heGL
 generalize hfu:a.eval fo=fu at hr2
 cases hr2 with
 |@func _ _ _ first' cap' e1 e2 e3 e4 =>
  refine ⟨w.heap.size+1,[BA w.heap.size],(w.alloc (.deferred (some []))).alloc (.loop rec),{ target:=.fn (.func g) cap',args:=first'++#[.func (.yield (w.heap.size+1)) #[] #[]] },(w.alloc (.deferred (some []))).alloc (.loop rec),g,
   first'++#[.func (.yield (w.heap.size+1)) #[] #[]]++cap',(w.alloc (.deferred (some []))).alloc (.loop rec),?_,?_,fun _ _=>trivial,?_,(fun h0=>by cases h0),?_⟩
  ·rw [hrec];exact run_enterLoop_outer _ _ _ _ _
  ·simp only [resolve,rangeCall]
   rw [hfu]
   simp [Deferred.ofValue,Act.eval]
  ·simp [invoke,h.1]
  ·have hargs:gG (GD.withLoc σ.length (w.heap.size+1)) ((w.alloc (.deferred (some []))).alloc (.loop rec)) (first++[.yield σ.length]++cap) (first'++#[.func (.yield (w.heap.size+1)) #[] #[]]++cap'):=by
    refine gG.append (gG.append ⟨e1,e3⟩ ⟨rfl,fun i z u q1 q2=>?_⟩) ⟨e2,e4⟩
    match i with
    |0=>simp at q1 q2;subst q1;subst q2;exact .yield fD
    |_+1=>simp at q1
   refine (h.2 hargs hL).mono fun e w3 hr3=>?_
   obtain ⟨o,G3,u,rfl,q1,q2,q3,q4⟩:=hr3
   obtain ⟨st,pend,env',ps',a',b',s1,s2,s3⟩:=h1 o q1
   have hloc:G3.loc σ.length=some (w.heap.size+1):=q4.loc _ _ fD
   obtain ⟨l,k,l1,l2,l3,l4⟩:=q3.blk _ _ _ hloc s1
   have hst:l.state≠.busy:=by
    rw [l2]
    cases st<;>simp [aEZ] at s2 ⊢
   have hend:=run_endLoop (P:=P) l1 hst
   have hw:=q3.write (y:=.dead) hloc (tY w3 (w.heap.size+1) (.loop { l with state:=.exhausted })) s1 (fun _ _ _ e=>by cases e) trivial
   refine ⟨_,_,hend,?_⟩
   have hevo:=(heGL.trans q4).trans hw.2
   have hmarks:rF G3 B ({ a with defers:=[BA w.heap.size]++a.defers }:Act).defers:=by
    obtain ⟨rs,m1,m2,m3⟩:=f5
    refine ⟨w.heap.size::rs,by simp [m1],List.nodup_cons.2 ⟨fun hm=>?_,m2⟩,fun r hr=>?_⟩
    ·have:=(Array.getElem?_eq_some_iff.1 (f4.defs _ (m3 _ hm).1).1).1
     omega
    ·rcases List.mem_cons.1 hr with rfl|hr
     ·exact ⟨(heL.trans q4).defs _ (by rw [hGD];exact .inr rfl),f6⟩
     ·exact ⟨hevo.defs _ (m3 r hr).1,(m3 r hr).2⟩
   have hpost:qV P hh G w n B Q (P1 pend) { a with defers:=[BA w.heap.size]++a.defers } (w3.putObj (w.heap.size+1) (.loop { l with state:=.exhausted })) :=
    ⟨_,G3,s3,rfl,f3.mono hevo,hw.1,hevo,hmarks⟩
   rw [l3] at hpost ⊢
   cases pend with
   |none=>exact hpost
   |some j =>
    cases j with
    |ret=>exact wpIn_ret hpost
    |exit id=>exact wpIn_exit hpost
theorem B9:∀ {ps:List Nat} {args:List AV} {us:List Value} {env:Env} {tmps:Array Value},ps.length=args.length→us.length=args.length→(∀ p∈ps,p<n) →
  (∀ (i:Nat) (x:AV) (u:Value),args[i]? = some x→us[i]? = some u→RelV G w x u)→fO G w n env tmps →
  fO G w n (lZ env ps args) ((ps.zip us).foldl (fun tmps (t,a)=>tmps.setIfInBounds t a) tmps)
 |[],[],us,env,tmps,_,_,_,_,hE=>by simpa [lZ] using hE
 |[],_::_,us,env,tmps,h,_,_,_,_=>by simp at h
 |_::_,[],us,env,tmps,h,_,_,_,_=>by simp at h
 |p::ps,v::args,[],env,tmps,_,h,_,_,_=>by simp at h
 |p::ps,v::args,u::us,env,tmps,h1,h2,h3,h4,hE=>by
  simp only [lZ,List.zip_cons_cons,List.foldl_cons]
  refine B9 (by simpa using h1) (by simpa using h2) (fun q hq=>h3 q (List.mem_cons_of_mem _ hq)) (fun i x u e1 e2=>h4 (i+1) x u (by simpa using e1) (by simpa using e2)) ?_
  exact hE.put (a:={ tmps:=tmps,defers:=[] }) (dst:=some p) (fun d e=>by cases e;exact h3 p (by simp)) (h4 0 v u rfl rfl)
theorem J8 {r:Nat} {o o':Obj} (hb:w.heap[r]? = some o):(w.putObj r o').heap[r]? = some o':=uD hb
theorem LZ {id:Nat} {args:List AV} {ps:List Nat} {x y:ACode} (hl:σ[id]? = some (.loop .ready none env ps x y)) (hn:ps.length=args.length) (h:dO P hh (.code x (lZ env ps args) σ) R)
  (h0:∀ o,R o→o.j=none∧o.σ[id]? = some (.loop .ready none env ps x y)) (h1:∀ o,R o→dO P hh (.code y o.env (o.σ.set id (.loop .busy none env ps x y))) S)
  (h2:∀ o,S o→o.σ[id]? = some (.loop .busy none env ps x y)∧Q ⟨none,[],o.σ.set id (.loop (if o.j=none then .ready else .done) o.j env ps x y),.bool (decide (o.j=none))⟩) :
  dO P hh (.callv (.yield id) args σ) Q:=by
 intro G w fv vs hf ha hS
 cases hf with
 |@yield _ b hloc =>
  obtain ⟨l,n,l1,l2,l3,l4,l5,l6,l7,l8,l9,l10⟩:=hS.blk _ _ _ hloc hl
  have hy:=run_yield (P:=P) (args:=#[]++vs) l1 (by have:=ha.1;rw [←l4] at hn;simp at hn ⊢;omega)
  refine ⟨{ target:=.fn (.yield b) #[],args:=#[]++vs },_,w,by simp [Deferred.ofValue],by simp only [invoke];exact hy,fun {F} o a next Qx hF hnext=>?_⟩
  rw [Oper.uponIn_round]
  refine ⟨fun e=>absurd e hF.depth,hF.round ?_⟩
  have htm:((l.params.zip (#[]++vs)).foldl (fun tmps (t,a)=>tmps.setIfInBounds t a) l.tmps)=((ps.zip vs.toList).foldl (fun tmps (t,a)=>tmps.setIfInBounds t a) l.tmps):=by
   rw [←Array.foldl_toList,Array.toList_zip,←l4]
   simp
  rw [htm]
  have hE:=B9 (G:=G) (w:=w) (env:=env) (tmps:=l.tmps) hn (us:=vs.toList) (by simpa using ha.1) l7 (fun i z u e1 e2=>ha.2 i z u e1 (by simpa using e2)) l8
  refine roundIn_of_wpIn trivial (wpIn_mono (h (F:=Fence.wide.inRound b) (cd:=l.assign) (n:=n) (G:=G) (w:=w) (a:={ tmps:=(ps.zip vs.toList).foldl (fun tmps (t,a)=>tmps.setIfInBounds t a) l.tmps,defers:=[] }) (B:=w.heap.size)
   (.inr ⟨b,rfl,l9⟩) l5 hE hS ⟨[],rfl,List.nodup_nil,fun r hr=>by cases hr⟩ (Nat.le_refl _)).wpIn fun e a1 w1 hp=>?_)
  obtain ⟨o1,G1,q1,rfl,q3,q4,q5,q6⟩:=hp
  obtain ⟨j0,s0⟩:=h0 o1 q1
  rw [j0]
  have hloc1:=q5.loc _ _ hloc
  obtain ⟨r,n1,r1,r2,r3,r4,r5,r6,r7,r8,r9,r10⟩:=q4.blk _ _ _ hloc1 s0
  refine ⟨_,run_beginRound r1 r2,?_⟩
  have hp1:=tY w1 b (.loop { r with state:=.busy })
  have hev1:Evo G1 w1 G1 (w1.putObj b (.loop { r with state:=.busy })):=pI hp1 (q4.fresh _ _ hloc1).2.2.1
  have hw1:=q4.write (y:=.loop .busy none env ps x y) hloc1 hp1 s0 (fun _ _ _ e=>by cases e)
   ⟨{ r with state:=.busy },n1,J8 r1,rfl,r3,r4,r5,r6,r7,r8.mono hev1,r9,r10⟩
  -- the body is the record's,from the first look on
  have hbody:comp P hh n l.body=some y:=l6
  refine wpIn_mono (h1 o1 q1 (F:=Fence.wide.inRound b) (cd:=l.body) (n:=n) (G:=G1) (w:=w1.putObj b (.loop { r with state:=.busy })) (a:=a1) (B:=w.heap.size)
   (.inr ⟨b,rfl,l10⟩) hbody (q3.mono hev1) hw1.1 (q6.mono hev1.defs) (Nat.le_trans q5.size hev1.size)).wpIn fun e2 a2 w2 hp2=>?_
  obtain ⟨o2,G2,p1,rfl,p3,p4,p5,p6⟩:=hp2
  obtain ⟨t0,tq⟩:=h2 o2 p1
  have hev2:=(q5.trans hev1).trans p5
  have hloc2:=hev2.loc _ _ hloc
  obtain ⟨z,n2,z1,z2,z3,z4,z5,z6,z7,z8,z9,z10⟩:=p4.blk _ _ _ hloc2 t0
  have fin:∀ (jump:Option Code),jump=o2.j.map KV→∃ v w',(Instr.endRound b jump).run P w2 = .ok v w'∧∃ v',Ending.returned v = .returned v'∧next (a.put o.dst v') w':=by
   intro jump hj
   have hp2:=tY w2 b (.loop { z with state:=if jump.isNone then .ready else .done,pending:=jump })
   have hev3:Evo G2 w2 G2 (w2.putObj b (.loop { z with state:=if jump.isNone then .ready else .done,pending:=jump })):=pI hp2 (p4.fresh _ _ hloc2).2.2.1
   have hnone:jump.isNone=decide (o2.j=none):=by rw [hj];cases o2.j<;>rfl
   have hw2:=p4.write (y:=.loop (if o2.j=none then .ready else .done) o2.j env ps x y) hloc2 hp2 t0 (fun _ _ _ e=>by cases e)
    ⟨{ z with state:=if jump.isNone then .ready else .done,pending:=jump },n2,J8 z1,by
     simp only [hnone]
     by_cases hq:o2.j=none<;>simp [hq,aEZ],hj,z4,z5,z6,z7,z8.mono hev3,z9,z10⟩
   refine ⟨_,_,run_endRound jump z1,_,rfl,?_⟩
   refine hnext _ G2 _ (.bool jump.isNone) tq ?_ hw2.1 (hev2.trans hev3)
   rw [hnone]
   exact .bool _
  cases hj:o2.j with
  |none =>
   obtain ⟨v,w3,g1,v',g2,g3⟩:=fin none (by rw [hj];rfl)
   cases g2
   exact ⟨v,w3,g1,g3⟩
  |some j =>
   cases j with
   |ret =>
    obtain ⟨v,w3,g1,v',g2,g3⟩:=fin (some .ret) (by rw [hj];rfl)
    cases g2
    exact ⟨v,w3,g1,g3⟩
   |exit id' =>
    obtain ⟨v,w3,g1,v',g2,g3⟩:=fin (some (.exit id')) (by rw [hj];rfl)
    cases g2
    exact ⟨v,w3,g1,g3⟩
theorem fO.same {tmps:Array Value} (h:fO G w n env' tmps) (he:∀ t,Env.get env t=Env.get env' t):fO G w n env tmps:=⟨h.1,fun t=>by rw [he];exact h.2 t⟩
theorem ME {c:ACode} (he:∀ t,Env.get env t=Env.get env' t) (h:dO P hh (.code c env' σ) Q):dO P hh (.code c env σ) Q:=by
 intro F n cd G w a B f1 f2 f3 f4 f5 f6
 exact h f1 f2 (f3.same fun t=>(he t).symm) f4 f5 f6
theorem MG {os:List AOper} (he:∀ t,Env.get env t=Env.get env' t) (h:dO P hh (.ops os env' σ) Q):dO P hh (.ops os env σ) Q:=by
 intro F n ops l G w a B R f1 f2 f3 f4 f5 f6
 exact h f1 f2 (f3.same fun t=>(he t).symm) f4 f5 f6
theorem QH {c:ACode} (he:∀ t,Env.get env' t = .undef∨Env.get env' t=Env.get env t∨Env.get env' t=clr (Env.get env t)) (h:dO P hh (.code c env' σ) Q):dO P hh (.code c env σ) Q:=by
 intro F n cd G w a B f1 f2 f3 f4 f5 f6
 refine h f1 f2 ⟨f3.1,fun t=>?_⟩ f4 f5 f6
 rcases he t with e|e|e
 ·rw [e];exact .undef _
 ·rw [e];exact f3.2 t
 ·rw [e];exact (f3.2 t).clr
theorem aIM {T:FuncId→Option AFunc} (hT:∀ f af,T f=some af→∃ fn,P.funcs[f]? = some fn∧aF P hh fn=some af) {t:Task} (h:Run T t Q):dO P hh t Q:=by
 induction h with
 |mono _ hq ih=>exact PG ih hq
 |skip h=>exact PH h
 |jump h=>exact PU h
 |seq _ _ h2 ih ih1=>exact T4 ih ih1 h2
 |cond b hc _ ih=>exact O9 b hc ih
 |block _ h1 ih=>exact MX ih h1
 |loop _ _ h2 ih ih1=>exact QO ih ih1 h2
 |scope _ ih=>exact LC ih
 |reg _ ih=>exact RM ih fun _ _=>trivial
 |dreg _ ih=>exact Q0 ih
 |rangeFunc hf _ h1 ih=>exact A3 hf ih h1
 |trim _ h1 ih=>exact P9 ih h1
 |trim2 _ h1 ih=>exact L6 ih h1
 |frame hf h0 _ h1 ih=>exact LJ hf h0 ih h1
 |frameS hf h0 _ h1 ih=>exact IG hf h0 ih h1
 |chainNil h=>exact DA h
 |chainCons _ _ h2 ih ih1=>exact CK ih ih1 h2
 |chain _ h1 h2 _ ih ih1=>exact LN ih h1 h2 ih1
 |ghost t sz xs ht _ ih=>exact K1 t sz xs ht ih
 |reenv he _ ih=>exact ME he ih
 |weak he _ ih=>exact QH he ih
 |reops he _ ih=>exact MG he ih
 |nil h=>exact R9 h
 |off hw _ ih=>exact RQ hw ih
 |step hw ha _ ih=>exact QI hw ha ih
 |stepc hw ho _ _ ih ih1=>exact K8 hw ho ih ih1
 |stepm hw ho hx hl he hn _ _ ih0 ih1=>exact M2 hw ho hx hl he hn ih0 ih1
 |dnil hr h=>exact QK hr h
 |doff hw _ ih=>exact QJ hw ih
 |dalloc hw ho _ ih=>exact JF hw ho ih
 |dpure hw hk ha _ ih=>exact MA hw hk ha ih
 |dread hw hk ha _ ih=>exact KL hw hk ih
 |dact hw hk ha _ ih=>exact O6 hw hk ha ih
 |dcall hw ho _ _ ih ih1=>exact LF hw ho ih ih1
 |callf _ ih=>exact DB ih
 |round hl hn _ h0 _ h2 ih ih1=>exact LZ hl hn ih h0 ih1 h2
 |call hf hn _ h1 ih=>exact PL hT hf hn ih h1
end Go.Am
namespace Go.Am
variable {P:Program} {hh:String→Bool}
def Gh.start (w:World):Gh:=⟨fun _=>none,fun _=>none,fun _=>none,fun _=>none,fun _=>False,w.heap.size,w.heap,fun _=>none⟩
end Go.Am
namespace Go.Am
open Go.ChangeShapes Go.WideShapes Go.ChangeAt Go.RowKit
variable {P:Program} {hh:String→Bool} {H:Type} {enc:TypeId×Value→H} {w:World} {sp:Nat→Bool} {held:Bool}
def mkV (P:Program) (t:TypeId) (cs:List AV):AV:=match P.underlying t with
 |some (.struct _)=>.agg cs
 |some (.array _ _)=>.agg cs
 |_=>cs.headD .undef
def Typ (P:Program):Nat→TypeId→List AV→Prop
 |0,_,_=>False
 |n+1,t,cs =>
  match P.underlying t with
  |some .bool=>∃ b,cs=[.bool b]
  |some (.int k)=>∃ m,cs=[.int k m]∧(Lit.int k m).wf=true
  |some .string=>∃ s:ByteArray,cs=[.str s]∧s.size≤maxLen
  |some (.slice e)=>∃ ys:List (List AV),cs=[.lit (ys.map (mkV P e)) false none]∧(ys.length≤maxLen∧ys.length*P.bytesOf e≤reachBytes)∧∀ y∈ys,Typ P n e y
  |some (.struct fs)=>∃ parts:List (List AV),cs=parts.flatten∧parts.length=fs.toList.length∧∀ (i:Nat) f p,fs.toList[i]? = some f→parts[i]? = some p→Typ P n f.type p
  |some (.array k e)=>∃ parts:List (List AV),cs=parts.flatten∧parts.length=k∧∀ p∈parts,Typ P n e p
  |_=>False
def K4 (P:Program):Nat→TypeId→Bool
 |0,_=>false
 |n+1,t =>
  match P.underlying t with
  |some .bool|some (.int _)|some .string=>true
  |some (.slice e)=>decide (0<P.cellsOf e)&&K4 P n e
  |some (.struct fs)=>fs.toList.all fun f=>K4 P n f.type
  |some (.array _ e)=>K4 P n e
  |_=>false
def TG (w:World) (b:Nat):Option Nat:=match w.heap[b]? with
 |some (.cells vs _ _)=>some vs.size
 |_=>none
noncomputable def BY (w:World):Gh:=(Gh.start w).fresh0 w (TG w) fun b=>∃ L,TG w b=some L
theorem ST (w:World):RelS P hh (BY w) w []:=vV fun b L e=>by
 refine ⟨⟨L,e⟩,?_⟩
 unfold TG at e
 split at e
 ·rename_i vs T fr h
  simp only [Option.some.injEq] at e
  exact ⟨vs,T,fr,h,by omega⟩
 ·cases e
def xB (G:Gh) (w:World) (az:List AV) (cs:List Value):Prop:=az.length=cs.length∧∀ (i:Nat) a v,az[i]? = some a→cs[i]? = some v→RelV G w a v
theorem xB.nil {G:Gh}:xB G w [] []:=⟨rfl,by simp⟩
theorem xB.app {G:Gh} {az bs:List AV} {cs ds:List Value} (h:xB G w az cs) (k:xB G w bs ds):xB G w (az++bs) (cs++ds):=by
 refine ⟨by simp [h.1,k.1],fun i a v e1 e2=>?_⟩
 by_cases hi:i<az.length
 ·rw [List.getElem?_append_left hi] at e1
  rw [List.getElem?_append_left (by rw [←h.1];exact hi)] at e2
  exact h.2 i a v e1 e2
 ·rw [List.getElem?_append_right (by omega)] at e1
  rw [List.getElem?_append_right (by rw [←h.1];omega),←h.1] at e2
  exact k.2 _ a v e1 e2
theorem xB.one {G:Gh} {a:AV} {v:Value} (h:RelV G w a v):xB G w [a] [v]:=⟨rfl,fun i x u e1 e2=>by
 cases i with
 |zero=>simp at e1 e2;subst e1;subst e2;exact h
 |succ i=>simp at e1⟩
theorem RH {n:Nat} {t:TypeId} {cs:List AV} (h:Typ P n t cs):(mkV P t cs).cells=cs:=by
 cases n with
 |zero=>exact h.elim
 |succ n =>
  simp only [Typ] at h
  unfold mkV
  split at h
  ·rename_i hu;rw [hu];obtain ⟨b,rfl⟩:=h;rfl
  ·rename_i hu;rw [hu];obtain ⟨b,rfl,_⟩:=h;rfl
  ·rename_i hu;rw [hu];obtain ⟨b,rfl,_⟩:=h;rfl
  ·rename_i hu;rw [hu];obtain ⟨b,rfl,_⟩:=h;rfl
  ·rename_i hu;rw [hu];rfl
  ·rename_i hu;rw [hu];rfl
  ·exact h.elim
theorem SD {a:Addr} {v:Value} (h:w.cell? a=some v) (n:Nat):a.add n=⟨a.block,a.off+n,none⟩:=by
 have hs:a.spot=none:=by
  unfold World.cell? at h
  split at h
  ·split at h
   ·cases h
   ·rename_i hs;simpa using hs
  ·cases h
 obtain ⟨b,o,s⟩:=a
 simp only at hs
 subst hs
 unfold Addr.add
 split
 ·rename_i h0;simp [h0]
 ·rfl
theorem YG {b o:Nat} {v:Value} (h:w.cell? ⟨b,o,none⟩=some v):∃ L,TG w b=some L∧o<L:=by
 unfold World.cell? at h
 split at h
 ·rename_i c T fr hb
  refine ⟨c.size,by simp only at hb;simp [TG,hb],?_⟩
  simp at h
  exact (Array.getElem?_eq_some_iff.1 h).1
 ·cases h
theorem R6 {G:Gh} {n:Nat} {cs:List Value}:∀ (fl:List Field) (o:Nat),(∀ (j:Nat) f,fl[j]? = some f→f.offset=o+((fl.take j).map fun f=>P.cellsOf f.type).sum)→cs.length=o+(fl.map fun f=>P.cellsOf f.type).sum →
  (∀ f∈fl,∃ az,Typ P n f.type az∧xB G w az ((cs.drop f.offset).take (P.cellsOf f.type))) →
  ∃ parts:List (List AV),parts.length=fl.length∧(∀ (i:Nat) f p,fl[i]? = some f→parts[i]? = some p→Typ P n f.type p)∧xB G w parts.flatten (cs.drop o)
 |[],o,_,hl,_=>⟨[],rfl,by simp,by
   have:cs.drop o=[]:=List.drop_of_length_le (by simp at hl;omega)
   rw [this];exact .nil⟩
 |f::fl,o,ho,hl,ht=>by
  have h0:=ho 0 f rfl
  simp only [List.take_zero,List.map_nil,List.sum_nil,Nat.add_zero] at h0
  simp only [List.map_cons,List.sum_cons] at hl
  obtain ⟨az,h1,h2⟩:=ht f (by simp)
  obtain ⟨parts,q1,q2,q3⟩:=R6 fl (o+P.cellsOf f.type) (fun j g hj=>by
   have:=ho (j+1) g (by simpa using hj)
   simp only [List.take_succ_cons,List.map_cons,List.sum_cons] at this
   omega) (by omega) fun g hg=>ht g (List.mem_cons_of_mem _ hg)
  refine ⟨az::parts,by simp [q1],fun i g p e1 e2=>?_,?_⟩
  ·cases i with
   |zero=>simp at e1 e2;subst e1;subst e2;exact h1
   |succ i=>exact q2 i g p (by simpa using e1) (by simpa using e2)
  ·rw [List.flatten_cons]
   have e:cs.drop o=(cs.drop o).take (P.cellsOf f.type)++cs.drop (o+P.cellsOf f.type):=by
    rw [←List.drop_drop,List.take_append_drop]
   rw [e]
   rw [h0] at h2
   exact h2.app q3
theorem aBB {G:Gh} {m:Nat} {e:TypeId} {cs:List Value}:∀ (n o:Nat),cs.length=o+n*P.cellsOf e →
  (∀ i,i<n→∃ az,Typ P m e az∧xB G w az ((cs.drop (o+i*P.cellsOf e)).take (P.cellsOf e)))→∃ parts:List (List AV),parts.length=n∧(∀ p∈parts,Typ P m e p)∧xB G w parts.flatten (cs.drop o)
 |0,o,hl,_=>⟨[],rfl,by simp,by
   have:cs.drop o=[]:=List.drop_of_length_le (by simp at hl;omega)
   rw [this];exact .nil⟩
 |n+1,o,hl,ht=>by
  obtain ⟨az,h1,h2⟩:=ht 0 (by omega)
  rw [Nat.zero_mul,Nat.add_zero] at h2
  rw [Nat.add_mul,Nat.one_mul] at hl
  obtain ⟨parts,q1,q2,q3⟩:=aBB (e:=e) (cs:=cs) (m:=m) n (o+P.cellsOf e) (by omega) fun i hi=>by
   obtain ⟨az,k1,k2⟩:=ht (i+1) (by omega)
   rw [Nat.add_mul,Nat.one_mul,Nat.add_comm (i*_),←Nat.add_assoc] at k2
   exact ⟨az,k1,k2⟩
  refine ⟨az::parts,by simp [q1],fun p hp=>?_,?_⟩
  ·rcases List.mem_cons.1 hp with rfl|hp
   ·exact h1
   ·exact q2 p hp
  ·rw [List.flatten_cons]
   have e1:cs.drop o=(cs.drop o).take (P.cellsOf e)++cs.drop (o+P.cellsOf e):=by
    rw [←List.drop_drop,List.take_append_drop]
   rw [e1]
   exact h2.app q3
theorem y9 {α:Type} {Q:Nat→α→Prop}:∀ n,(∀ i,i<n→∃ x,Q i x)→∃ l:List α,l.length=n∧∀ (i:Nat) x,l[i]? = some x→Q i x
 |0,_=>⟨[],rfl,by simp⟩
 |n+1,h=>by
  obtain ⟨l,h1,h2⟩:=y9 n fun i hi=>h i (by omega)
  obtain ⟨x,hx⟩:=h n (by omega)
  refine ⟨l++[x],by simp [h1],fun i y e=>?_⟩
  by_cases hi:i<l.length
  ·rw [List.getElem?_append_left hi] at e;exact h2 i y e
  ·rw [List.getElem?_append_right (by omega)] at e
   have:i-l.length=0:=by
    by_cases h0:i-l.length=0
    ·exact h0
    ·rw [List.getElem?_eq_none (by simp;omega)] at e;cases e
   rw [this] at e
   simp at e
   subst e
   rw [show i=n by omega];exact hx
theorem pO (hl:laidOutB P=true):∀ (n m:Nat) (t:TypeId) (cs:List Value) (x:DataW H×List MemPlace),t<P.types.size→K4 P n t=true→DataW.trod enc P w 0 sp held m t cs=some x→(∀ k∈x.1.weights P t,k≤reachBytes) →
  ∃ az,Typ P n t az∧xB (BY w) w az cs
 |0,m,t,cs,x,_,ho,_,_=>by simp [K4] at ho
 |n+1,m,t,cs,x,ht,ho,h,hwt=>by
  simp only [K4] at ho
  split at ho
  ·rename_i hu
   obtain ⟨b,rfl,_⟩:=DataW.trod_bool hu h
   exact ⟨[.bool b],by simp only [Typ,hu];exact ⟨b,rfl⟩,.one (.bool b)⟩
  ·rename_i k hu
   obtain ⟨b,rfl,_,hw⟩:=DataW.trod_int hu h
   exact ⟨[.int k b],by simp only [Typ,hu];exact ⟨b,rfl,hw⟩,.one (.int k b)⟩
  ·rename_i hu
   obtain ⟨s,rfl,_,hs⟩:=DataW.trod_string hu h
   exact ⟨[.str s],by simp only [Typ,hu];exact ⟨s,rfl,hs⟩,.one (.str s)⟩
  ·rename_i e hu
   simp only [Bool.and_eq_true,decide_eq_true_eq] at ho
   rcases DataW.trod_slice hu h with ⟨rfl,_⟩|⟨a,len,cap,elems,rest,m',_,rfl,hxe,_,hlc,hcm,hel,hei,_,_⟩
   ·refine ⟨[.lit [] false none],by simp only [Typ,hu];exact ⟨[],rfl,⟨by simp,by simp⟩,by simp⟩,.one (.nil ⟨Nat.le_refl _,(fun e=>by cases e),(fun t e=>by cases e)⟩ fun _=>rfl)⟩
   ·
    have hws:∀ k∈x.1.weights P t,k≤reachBytes:=hwt
    rw [hxe] at hws
    simp only [DataW.weights,hu,List.mem_cons,List.mem_append,List.length_map] at hws
    have hwl:len*P.bytesOf e≤reachBytes:=by
     have h1:=hws _ (.inl rfl)
     rw [hel] at h1
     exact Nat.le_trans (Nat.mul_le_mul_right _ (Nat.le_add_right _ _)) h1
    have hwe:∀ (d:DataW H),d∈elems.map (·.1)→∀ k∈d.weights P e,k≤reachBytes:=by
     have key:∀ (l:List (DataW H)) (d:DataW H),d∈l→∀ k∈d.weights P e,k∈DataW.weightsAll P e l:=by
      intro l
      induction l with
      |nil=>intro d hd;cases hd
      |cons a l ih =>
       intro d hd k hk
       simp only [DataW.weightsAll,List.mem_append]
       rcases List.mem_cons.1 hd with rfl|hd
       ·exact .inl hk
       ·exact .inr (ih d hd k hk)
     exact fun d hd k hk=>hws k (.inr (.inl (key _ d hd k hk)))
    have hel2:∀ i,i<len→∃ y,Typ P n e y∧∃ vs,w.cells? 0 (a.add (i*P.cellsOf e)) (P.cellsOf e)=some vs∧xB (BY w) w y vs:=by
     intro i hi
     have h1:=hei i hi
     rw [List.getElem?_eq_getElem (by omega),Option.bind_eq_some_iff] at h1
     obtain ⟨vs,q1,q2⟩:=h1
     obtain ⟨y,q3,q4⟩:=pO hl n m' e vs _ (kid_slice hl ht hu) ho.2 q2 (hwe _ (List.mem_map.2 ⟨_,List.getElem_mem (by omega),rfl⟩))
     exact ⟨y,q3,vs,q1,q4⟩
    obtain ⟨ys,hyl,hys⟩:=y9 len hel2
    refine ⟨[.lit (ys.map (mkV P e)) false none],by
     simp only [Typ,hu]
     refine ⟨ys,rfl,⟨by omega,by rw [hyl];exact hwl⟩,fun y hy=>?_⟩
     obtain ⟨i,hi⟩:=List.getElem?_of_mem hy
     exact (hys i y hi).1,.one ?_⟩
    by_cases h0:len=0
    ·subst h0
     obtain rfl:ys=[]:=List.eq_nil_of_length_eq_zero hyl
     exact .nil ⟨Nat.zero_le _,(fun e=>by cases e),(fun t e=>by cases e)⟩ fun e=>by cases e
    ·
     have hcell:∀ i j,i<len→j<P.cellsOf e→∃ v,w.cell? ((a.add (i*P.cellsOf e)).add j)=some v:=by
      intro i j hi hj
      obtain ⟨y,_,vs,q1,_⟩:=hel2 i hi
      simp only [World.cells?,Nat.zero_le,if_true] at q1
      have hlen:=mapM_some_length q1
      have:=mapM_some_get q1 j j (by simp [hj])
      rw [List.length_range] at hlen
      rw [List.getElem?_eq_getElem (by omega)] at this
      exact ⟨_,this⟩
     obtain ⟨v0,hv0⟩:=hcell 0 0 (by omega) ho.1
     rw [Nat.zero_mul] at hv0
     have ha0:a.add 0=a:=by simp [Addr.add]
     rw [ha0,ha0] at hv0
     have hplain:∀ i,a.add i=⟨a.block,a.off+i,none⟩:=SD hv0
     have hae:a=⟨a.block,a.off,none⟩:=by have:=hplain 0;rw [ha0] at this;simpa using this
     have hplain2:∀ i j,(a.add i).add j=⟨a.block,a.off+(i+j),none⟩:=by
      intro i j
      rw [hplain]
      unfold Addr.add
      split
      ·rename_i h;simp [h]
      ·simp [Nat.add_assoc]
     have hcell2:∀ i j,i<len→j<P.cellsOf e→∃ v,w.cell? ⟨a.block,a.off+(i*P.cellsOf e+j),none⟩=some v:=by
      intro i j hi hj
      have:=hcell i j hi hj
      rw [hplain2] at this
      exact this
     rw [hae,show len=(ys.map (mkV P e)).length by simp [hyl]]
     have hsz:∀ (i:Nat) (x:AV),(ys.map (mkV P e))[i]? = some x→∃ y,ys[i]? = some y∧x=mkV P e y∧x.cells=y:=by
      intro i x hx
      rw [List.getElem?_map] at hx
      cases hy:ys[i]? with
      |none=>rw [hy] at hx;cases hx
      |some y =>
       rw [hy] at hx
       simp at hx
       exact ⟨y,rfl,hx.symm,by rw [←hx,RH (hys i y hy).1]⟩
     have hvl:∀ (i:Nat) y,ys[i]? = some y→y.length=P.cellsOf e:=by
      intro i y hy
      obtain ⟨_,vs,q1,q2⟩:=hys i y hy
      rw [q2.1]
      simp only [World.cells?,Nat.zero_le,if_true] at q1
      rw [mapM_some_length q1,List.length_range]
     refine .lit (sz:=P.cellsOf e) ⟨by simp;omega,(fun e=>by cases e),(fun t e=>by cases e)⟩ ⟨?_,(fun t e=>by cases e),fun i x hx=>?_,fun k hk=>?_⟩ fun i x j c u hx hc hu2=>?_
     ·obtain ⟨v,hv⟩:=hcell2 (len-1) (P.cellsOf e-1) (by omega) (by omega)
      obtain ⟨L,q1,q2⟩:=YG hv
      refine ⟨L,q1,?_⟩
      rw [List.length_map,hyl]
      have:(len-1)*P.cellsOf e+P.cellsOf e=len*P.cellsOf e:=by
       rw [←Nat.succ_mul];congr 1;omega
      omega
     ·obtain ⟨y,q1,q2,q3⟩:=hsz i x hx
      rw [q3];exact hvl i y q1
     ·rw [List.length_map,hyl] at hk
      have hd:k/P.cellsOf e<len:=Nat.div_lt_of_lt_mul (by rw [Nat.mul_comm];exact hk)
      have hm:k%P.cellsOf e<P.cellsOf e:=Nat.mod_lt _ ho.1
      obtain ⟨v,hv⟩:=hcell2 _ _ hd hm
      have:k/P.cellsOf e*P.cellsOf e+k%P.cellsOf e=k:=by rw [Nat.mul_comm];exact Nat.div_add_mod _ _
      rw [this] at hv
      rw [hv];rfl
     ·obtain ⟨y,q1,q2,q3⟩:=hsz i x hx
      rw [q3] at hc
      obtain ⟨_,vs,p1,p2⟩:=hys i y q1
      have hjl:j<P.cellsOf e:=by
       rw [←hvl i y q1]
       exact (List.getElem?_eq_some_iff.1 hc).1
      simp only [World.cells?,Nat.zero_le,if_true] at p1
      have hg:=mapM_some_get p1 j j (by simp [hjl])
      rw [hplain2] at hg
      rw [hu2] at hg
      exact p2.2 j c u hc hg.symm
  ·rename_i fs hu
   rw [List.all_eq_true] at ho
   obtain ⟨xs,m',_,hxe,hcl,hxl,hf⟩:=DataW.trod_struct hu h
   obtain ⟨k1,k2,k3⟩:=kid_struct hl ht hu
   obtain ⟨parts,q1,q2,q3⟩:=R6 (P:=P) (G:=BY w) (w:=w) (n:=n) (cs:=cs) fs.toList 0 (fun j f hj=>by rw [k3 j f hj];omega) (by rw [hcl,k2];omega) fun f hfm=>by
    obtain ⟨i,hi⟩:=List.getElem?_of_mem hfm
    have h1:=hf i f (by simpa using hi)
    have hil:i<xs.length:=by rw [hxl];have:=(List.getElem?_eq_some_iff.1 hi).1;simpa using this
    rw [List.getElem?_eq_getElem hil] at h1
    have hd:(xs.map (·.1))[i]? = some xs[i].1:=by rw [List.getElem?_map,List.getElem?_eq_getElem hil];rfl
    have hty:(fs.toList.map (·.type))[i]? = some f.type:=by rw [List.getElem?_map,hi];rfl
    refine pO hl n m' f.type _ _ (k1 f hfm) (ho f hfm) h1 fun k hk=>hwt k ?_
    rw [hxe]
    simp only [DataW.weights,hu]
    exact DataW.weights_mem_each hty hd k hk
   rw [List.drop_zero] at q3
   exact ⟨parts.flatten,by simp only [Typ,hu];exact ⟨parts,rfl,q1,q2⟩,q3⟩
  ·rename_i k e hu
   obtain ⟨xs,m',_,hxe,hcl,hxl,hf⟩:=DataW.trod_array hu h
   obtain ⟨k1,k2⟩:=kid_array hl ht hu
   have hwe:∀ (d:DataW H),d∈xs.map (·.1)→∀ q∈d.weights P e,q≤reachBytes:=by
    have key:∀ (l:List (DataW H)) (d:DataW H),d∈l→∀ q∈d.weights P e,q∈DataW.weightsAll P e l:=by
     intro l
     induction l with
     |nil=>intro d hd;cases hd
     |cons a l ih =>
      intro d hd q hq
      simp only [DataW.weightsAll,List.mem_append]
      rcases List.mem_cons.1 hd with rfl|hd
      ·exact .inl hq
      ·exact .inr (ih d hd q hq)
    intro d hd q hq
    refine hwt q ?_
    rw [hxe]
    simp only [DataW.weights,hu]
    exact key _ d hd q hq
   obtain ⟨parts,q1,q2,q3⟩:=aBB (P:=P) (G:=BY w) (w:=w) (m:=n) (e:=e) (cs:=cs) k 0 (by rw [hcl,k2];omega) fun i hi=>by
    have h1:=hf i hi
    have hil:i<xs.length:=by omega
    rw [List.getElem?_eq_getElem hil] at h1
    rw [Nat.zero_add]
    exact pO hl n m' e _ _ k1 ho h1 (hwe _ (List.mem_map.2 ⟨_,List.getElem_mem hil,rfl⟩))
   rw [List.drop_zero] at q3
   exact ⟨parts.flatten,by simp only [Typ,hu];exact ⟨parts,rfl,q1,q2⟩,q3⟩
  ·cases ho
theorem gB (hl:laidOutB P=true) (n:Nat) {t:TypeId} {v:Value} {d:DataW H} {ps:List MemPlace} (ht:t<P.types.size) (ho:K4 P n t=true) (hv:Value.okWide P w .any 0 t v) (h:DataW.Trod enc P w 0 sp held t v d ps) (hwt:∀ k∈d.weights P t,k≤reachBytes) :
  ∃ az,Typ P n t az∧RelV (BY w) w (mkV P t az) v:=by
 obtain ⟨m,hm⟩:=h
 obtain ⟨az,h1,h2⟩:=pO hl n m t _ _ ht ho hm hwt
 refine ⟨az,h1,?_⟩
 have hone:∀ {a:AV},az=[a]→(∀ cs,v≠.agg cs)→RelV (BY w) w a v:=by
  rintro a rfl hx
  have hc:v.cells.toList=[v]:=by cases v<;>first|rfl|exact absurd rfl (hx _)
  rw [hc] at h2
  exact h2.2 0 a v rfl rfl
 cases n with
 |zero=>exact h1.elim
 |succ n =>
  unfold mkV
  simp only [Typ] at h1
  split at h1<;>rename_i hu
  ·obtain ⟨b,rfl⟩:=h1
   rw [hu]
   obtain ⟨c,hc⟩:=okWide_bool hu hv
   exact hone rfl (by rw [hc];intro cs e;cases e)
  ·obtain ⟨b,rfl,_⟩:=h1
   rw [hu]
   obtain ⟨c,hc⟩:=okWide_int hu hv
   exact hone rfl (by rw [hc];intro cs e;cases e)
  ·obtain ⟨b,rfl,_⟩:=h1
   rw [hu]
   obtain ⟨c,hc⟩:=okWide_string hu hv
   exact hone rfl (by rw [hc];intro cs e;cases e)
  ·obtain ⟨b,rfl,_⟩:=h1
   rw [hu]
   obtain ⟨_,_,_,hc⟩:=okWide_slice hu hv
   exact hone rfl (by rw [hc];intro cs e;cases e)
  ·rw [hu]
   unfold Value.okWide at hv
   rw [hu] at hv
   obtain ⟨cs,rfl,_,_⟩:=hv
   refine .agg ?_ fun i a u e1 e2=>?_
   ·have:=h2.1;simpa [Value.cells] using this.symm
   ·exact h2.2 i a u e1 (by simpa [Value.cells] using e2)
  ·rw [hu]
   unfold Value.okWide at hv
   rw [hu] at hv
   obtain ⟨cs,rfl,_,_⟩:=hv
   refine .agg ?_ fun i a u e1 e2=>?_
   ·have:=h2.1;simpa [Value.cells] using this.symm
   ·exact h2.2 i a u e1 (by simpa [Value.cells] using e2)
  ·exact h1.elim
theorem jN {T:FuncId→Option AFunc} (hT:∀ f af,T f=some af→∃ fn,P.funcs[f]? = some fn∧aF P hh fn=some af) {f:FuncId} {az:List AV} {vs:Array Value} {w:World} (ha:gG (BY w) w az vs) (h:Run T (.call f az []) fun o=>o.v = .bool true) :
  Calls P f vs w fun e w'=>e = .returned (.bool true)∧RowKit.Below w.heap.size w w':=by
 have hs:=aIM hT h
 refine (callsIn_wide.1 (hs.2 (G:=BY w) (w:=w) (vs:=vs) ha (ST w))).mono fun e w' hr=>?_
 obtain ⟨r,G',u,rfl,q1,q2,q3,q4⟩:=hr
 rw [q1] at q2
 cases q2
 refine ⟨rfl,q4.os,q4.tape,q4.output,q4.size,fun k hk=>?_⟩
 have hB:G'.B0=w.heap.size:=q4.B0
 have hh0:G'.h0=(BY w).h0:=q4.h0
 rw [q3.base k (by rw [hB];exact hk),hh0]
 simp only [BY,Gh.fresh0]
 rw [Array.getElem?_append_left hk]
theorem lF {G:Gh}:gG G w [] #[]:=⟨rfl,by simp⟩
theorem fE {G:Gh} {a:AV} {v:Value} {az:List AV} {vs:List Value} (h:RelV G w a v) (hs:gG G w az vs.toArray):gG G w (a::az) (v::vs).toArray:=by
 refine ⟨by have:=hs.1;simp at this;simp [this],fun i x u e1 e2=>?_⟩
 cases i with
 |zero=>simp at e1 e2;subst e1;subst e2;exact h
 |succ i=>exact hs.2 i x u (by simpa using e1) (by simpa using e2)
def NQ (P:Program) (n:Nat):List TypeId→List AV→Prop
 |[],cs=>cs=[]
 |t::ts,cs=>∃ a b,cs=a++b∧Typ P n t a∧NQ P n ts b
theorem KF {n:Nat}:∀ (fl:List Field) (parts:List (List AV)),parts.length=fl.length→(∀ (i:Nat) f p,fl[i]? = some f→parts[i]? = some p→Typ P n f.type p)→NQ P n (fl.map Field.type) parts.flatten
 |[],parts,hl,_=>by rw [List.length_eq_zero_iff.1 hl];rfl
 |f::fl,[],hl,_=>by simp at hl
 |f::fl,p::parts,hl,h=>⟨p,parts.flatten,rfl,h 0 f p rfl rfl,KF fl parts (by simpa using hl) fun i g q e1 e2=>h (i+1) g q (by simpa using e1) (by simpa using e2)⟩
theorem MU {n:Nat} {t:TypeId} {fs:Array Field} {cs:List AV} (hu:P.underlying t=some (.struct fs)) (h:Typ P (n+1) t cs):NQ P n (fs.toList.map Field.type) cs:=by
 simp only [Typ,hu] at h
 obtain ⟨parts,rfl,h1,h2⟩:=h
 exact KF fs.toList parts h1 h2
theorem jV {n:Nat} {t:TypeId} {k:IntKind} {cs:List AV} (hu:P.underlying t=some (.int k)) (h:Typ P (n+1) t cs):∃ m,cs=[.int k m]∧(Lit.int k m).wf=true:=by
 simp only [Typ,hu] at h;exact h
theorem Z9 {n:Nat} {t:TypeId} {cs:List AV} (hu:P.underlying t=some .string) (h:Typ P (n+1) t cs):∃ s:ByteArray,cs=[.str s]∧s.size≤maxLen:=by
 simp only [Typ,hu] at h;exact h
theorem uF {n:Nat} {t e:TypeId} {cs:List AV} {α:Type} {f:α→AV} {Q:α→Prop} (hu:P.underlying t=some (.slice e)) (h:Typ P (n+1) t cs) (hq:∀ y,Typ P n e y→∃ x,mkV P e y=f x∧Q x):∃ l:List α,cs=[.lit (l.map f) false none]∧(l.length<9223372036854775808∧l.length*P.bytesOf e≤reachBytes)∧∀ x∈l,Q x:=by
 simp only [Typ,hu] at h
 obtain ⟨ys,rfl,⟨h1,h1b⟩,h2⟩:=h
 have key:∀ ys:List (List AV),(∀ y∈ys,Typ P n e y)→∃ l:List α,ys.map (mkV P e)=l.map f∧l.length=ys.length∧∀ x∈l,Q x:=by
  intro ys
  induction ys with
  |nil=>intro _;exact ⟨[],rfl,rfl,by simp⟩
  |cons y ys ih =>
   intro hy
   obtain ⟨x,q1,q2⟩:=hq y (hy y (by simp))
   obtain ⟨l,q3,q4,q5⟩:=ih fun z hz=>hy z (List.mem_cons_of_mem _ hz)
   exact ⟨x::l,by simp [q1,q3],by simp [q4],fun z hz=>by
    rcases List.mem_cons.1 hz with rfl|hz
    ·exact q2
    ·exact q5 z hz⟩
 obtain ⟨l,q1,q2,q3⟩:=key ys h2
 exact ⟨l,by rw [q1],⟨by simp only [maxLen] at h1;omega,by rw [q2];exact h1b⟩,q3⟩
theorem MN {t:TypeId} {fs:Array Field} {cs:List AV} (hu:P.underlying t=some (.struct fs)):mkV P t cs = .agg cs:=by simp [mkV,hu]
theorem ZI {t:TypeId} {a:AV} (hu:∀ fs,P.underlying t≠some (.struct fs)) (hu2:∀ k e,P.underlying t≠some (.array k e)):mkV P t [a]=a:=by
 unfold mkV
 split
 ·rename_i fs h;exact absurd h (hu fs)
 ·rename_i k e h;exact absurd h (hu2 k e)
 ·rfl
end Go.Am
namespace Go.Am
variable {T:FuncId→Option AFunc}
def n7 (r:Option (AV×St)) (K:AV→St→Prop):Prop :=
 match r with
 |some (v,σ)=>K v σ
 |none=>False
@[congr] theorem aAG {r r':Option (AV×St)} {K:AV→St→Prop} (h:r=r'):n7 r K=n7 r' K:=by rw [h]
@[simp] theorem aCU (v:AV) (σ:St) (K:AV→St→Prop):n7 (some (v,σ)) K=K v σ:=rfl
@[simp] theorem aEP (K:AV→St→Prop):n7 none K=False:=rfl
@[simp] theorem aFM (c:Prop) [Decidable c] (r q:Option (AV×St)) (K:AV→St→Prop):n7 (if c then r else q) K=if c then n7 r K else n7 q K:=by split<;>rfl
def C4 (v:AV) (A B:Unit→Prop):Prop :=
 match v with
 |.bool true=>A ()
 |.bool false=>B ()
 |_=>False
@[congr] theorem aBE {v v':AV} {A B:Unit→Prop} (h:v=v'):C4 v A B=C4 v' A B:=by rw [h]
@[simp] theorem aDL (b:Bool) (A B:Unit→Prop):C4 (.bool b) A B=if b=true then A () else B ():=by cases b<;>rfl
def pH (v:AV) (want:Bool) (A B:Unit→Prop):Prop :=
 match v with
 |.bool b=>if b=want then A () else B ()
 |.tuple []=>B ()
 |_=>False
@[congr] theorem aCC {v v':AV} {want:Bool} {A B:Unit→Prop} (h:v=v'):pH v want A B=pH v' want A B:=by rw [h]
@[simp] theorem aDJ (b want:Bool) (A B:Unit→Prop):pH (.bool b) want A B=if b=want then A () else B ():=rfl
@[simp] theorem aFN (want:Bool) (A B:Unit→Prop):pH (.tuple []) want A B=B ():=rfl
def NI (T:FuncId→Option AFunc) (f:AV) (args:List AV) (σ:St) (K:AV→St→Prop):Prop:=Run T (.callv f args σ) fun r=>K r.v r.σ
@[congr] theorem aAR {f f':AV} {args args':List AV} {σ σ':St} {K:AV→St→Prop} (h1:f=f') (h2:args=args') (h3:σ=σ'):NI T f args σ K=NI T f' args' σ' K:=by rw [h1,h2,h3]
def iG (T:FuncId→Option AFunc) (q:AOp) (e:Env) (σ:St) (K:AV→St→Prop):Prop :=
 match q with
 |.call f args=>NI T (f.ev e) (args.map (·.ev e)) σ K
 |q=>n7 (aop q e σ) K
@[congr] theorem aD2 {q:AOp} {e e':Env} {σ σ':St} {K:AV→St→Prop} (h2:e=e') (h3:σ=σ'):iG T q e σ K=iG T q e' σ' K:=by rw [h2,h3]
def aN (T:FuncId→Option AFunc):List AOper→Env→St→(Env→St→Prop)→Prop
 |[],e,σ,K=>K e σ
 |⟨dst,q,none⟩::os,e,σ,K=>iG T q e σ fun v σ'=>aN T os (Env.put e dst v) σ' K
 |⟨dst,q,some (t,want)⟩::os,e,σ,K =>
  pH (Env.get e t) want (fun _=>iG T q e σ fun v σ'=>aN T os (Env.put e dst v) σ' K) (fun _=>aN T os (Env.put e dst (.tuple [])) σ K)
@[congr] theorem aB2 {os:List AOper} {e e':Env} {σ σ':St} {K:Env→St→Prop} (h2:e=e') (h3:σ=σ'):aN T os e σ K=aN T os e' σ' K:=by rw [h2,h3]
theorem qS {Q:Out→Prop}:∀ {os:List AOper} {e:Env} {σ:St} {K:Env→St→Prop},aN T os e σ K→(∀ e σ,K e σ→Q ⟨none,e,σ,.undef⟩)→Run T (.ops os e σ) Q
 |[],e,σ,K,h,hq=>.nil (hq _ _ h)
 |o::os,e,σ,K,h,hq=>by
  have key:o.wanted e=some true→iG T o.op e σ (fun v σ'=>aN T os (Env.put e o.dst v) σ' K)→Run T (.ops (o::os) e σ) Q:=by
   intro hw h
   by_cases hc:∃ f args,o.op = .call f args
   ·obtain ⟨f,args,ho⟩:=hc
    rw [ho] at h
    exact .stepc hw ho h fun r hr=>qS hr hq
   ·have:∃ v σ',aop o.op e σ=some (v,σ')∧aN T os (Env.put e o.dst v) σ' K:=by
     unfold iG at h
     split at h
     ·rename_i f args ho;exact absurd ⟨f,args,ho⟩ hc
     ·unfold n7 at h
      split at h
      ·rename_i v σ' hv;exact ⟨v,σ',hv,h⟩
      ·exact h.elim
    obtain ⟨v,σ',h1,h2⟩:=this
    exact .step hw h1 (qS h2 hq)
  obtain ⟨dst,q,g⟩:=o
  cases g with
  |none=>exact key rfl h
  |some g =>
   obtain ⟨t,want⟩:=g
   simp only [aN,pH] at h
   split at h
   ·rename_i b h1
    split at h
    ·rename_i hb
     exact key (by simp [AOper.wanted,h1,hb]) h
    ·rename_i hb
     exact .off (by simp [AOper.wanted,h1];simpa using hb) (qS h hq)
   ·rename_i h1
    exact .off (by simp [AOper.wanted,h1]) (qS h hq)
   ·exact h.elim
abbrev KJ:=Option AJump→Env→St→Prop
def pS (A K:KJ):KJ:=fun j e σ=>match j with|none=>A none e σ|some j=>K (some j) e σ
@[simp] theorem aDD (A K:KJ) (e:Env) (σ:St):pS A K none e σ=A none e σ:=rfl
@[simp] theorem aDT (A K:KJ) (j:AJump) (e:Env) (σ:St):pS A K (some j) e σ=K (some j) e σ:=rfl
def lL (id:Nat) (K:KJ):KJ:=fun j e σ=>match j with|some (.exit i)=>if i=id then K none e σ else K (some (.exit i)) e σ|j=>K j e σ
@[simp] theorem aA3 (id:Nat) (K:KJ) (e:Env) (σ:St):lL id K none e σ=K none e σ:=rfl
@[simp] theorem aDR (id:Nat) (K:KJ) (e:Env) (σ:St):lL id K (some .ret) e σ=K (some .ret) e σ:=rfl
@[simp] theorem aBA (id i:Nat) (K:KJ) (e:Env) (σ:St):lL id K (some (.exit i)) e σ=if i=id then K none e σ else K (some (.exit i)) e σ:=rfl
def PK (T:FuncId→Option AFunc) (c:ACode) (e:Env) (σ:St) (K:KJ):Prop:=Run T (.code c e σ) fun o=>K o.j o.env o.σ
@[congr] theorem aE5 {c:ACode} {e e':Env} {σ σ':St} {K:KJ} (h2:e=e') (h3:σ=σ'):PK T c e σ K=PK T c e' σ' K:=by rw [h2,h3]
def wp (T:FuncId→Option AFunc):ACode→Env→St→KJ→Prop
 |.skip,e,σ,K=>K none e σ
 |.reg os,e,σ,K=>aN T os e σ fun e σ=>K none e σ
 |.seq a b,e,σ,K=>wp T a e σ (pS (fun _ e σ=>wp T b e σ K) K)
 |.cond c a b,e,σ,K=>C4 (c.ev e) (fun _=>wp T a e σ K) (fun _=>wp T b e σ K)
 |.block id b,e,σ,K=>wp T b e σ (lL id K)
 |.jump j,e,σ,K=>K (some j) e σ
 |.scope b,e,σ,K=>wp T b e σ K
 |c,e,σ,K=>PK T c e σ K
@[congr] theorem aIE {c:ACode} {e e':Env} {σ σ':St} {K:KJ} (h2:e=e') (h3:σ=σ'):wp T c e σ K=wp T c e' σ' K:=by rw [h2,h3]
theorem iL {Q:Out→Prop}:∀ {c:ACode} {e:Env} {σ:St} {K:KJ},wp T c e σ K→(∀ o,K o.j o.env o.σ→Q o)→Run T (.code c e σ) Q:=by
 intro c
 induction c generalizing Q with
 |skip=>intro e σ K h hq;exact .skip (hq ⟨none,e,σ,.undef⟩ h)
 |reg os=>intro e σ K h hq;exact .reg (qS h fun e σ hk=>hq ⟨none,e,σ,.undef⟩ hk)
 |dreg ds=>intro e σ K h hq;exact .mono h hq
 |seq a b iha ihb =>
  intro e σ K h hq
  refine .seq (iha h fun o ho=>ho) (fun o ho hj=>?_) fun o ho hj=>?_
  ·simp only [hj,pS] at ho
   exact ihb ho hq
  ·refine hq o ?_
   cases hj':o.j with
   |none=>exact absurd hj' hj
   |some j=>simp only [hj',pS] at ho;exact ho
 |cond c a b iha ihb =>
  intro e σ K h hq
  simp only [wp,C4] at h
  split at h
  ·rename_i h1;exact .cond true h1 (iha h hq)
  ·rename_i h1;exact .cond false h1 (ihb h hq)
  ·exact h.elim
 |block id b ih =>
  intro e σ K h hq
  refine .block (ih h fun o ho=>ho) fun o ho=>hq _ ?_
  unfold lL at ho
  split at ho
  ·rename_i i hj
   split at ho
   ·rename_i hi;subst hi;rw [if_pos hj];exact ho
   ·rename_i hi;rw [if_neg (by rw [hj];simpa using hi),hj];exact ho
  ·rename_i hj
   rw [if_neg (fun e=>hj _ e)]
   exact ho
 |loop b ih=>intro e σ K h hq;exact .mono h hq
 |rangeFunc f ps a b _ _=>intro e σ K h hq;exact .mono h hq
 |jump j=>intro e σ K h hq;exact .jump (hq ⟨some j,e,σ,.undef⟩ h)
 |scope b ih=>intro e σ K h hq;exact .scope (ih h hq)
def dR (T:FuncId→Option AFunc) (f:FuncId) (args:List AV) (v:AV):Prop:=∀ σ,Run T (.call f args σ) fun o=>o.v=v∧o.σ=σ
theorem sX (σ τ:St) (k:Nat):(σ++τ)[σ.length+k]? = τ[k]?:=by rw [List.getElem?_append_right (by omega)];congr 1;omega
theorem p9 (σ τ:St) (k:Nat) (x:ABlk):(σ++τ).set (σ.length+k) x=σ++τ.set k x:=by rw [List.set_append_right _ _ (by omega)];congr 2;omega
theorem N8 (σ τ:St) (x:ABlk):(σ++τ).set σ.length x=σ++τ.set 0 x:=p9 σ τ 0 x
end Go.Am
namespace Go.Am
variable {T:FuncId→Option AFunc}
theorem aHG (e:Env) (d:Nat) (v:AV):Env.put e (some d) v=(d,v)::e:=by simp only [Env.put]
theorem aEX (e:Env) (v:AV):Env.put e none v=e:=by simp only [Env.put]
theorem UL (k:Nat) (v:AV) (e:Env) (t:Nat):Env.get ((k,v)::e) t=if k=t then v else Env.get e t:=by simp only [Env.get]
theorem VK (e:Env) (t:Nat):AOpd.ev e (.t t)=Env.get e t:=by simp only [AOpd.ev]
theorem aGA (e:Env) (v:AV):AOpd.ev e (.c v)=v:=by simp only [AOpd.ev]
theorem aHU (os:List AOper) (e:Env) (σ:St) (K:KJ):wp T (.reg os) e σ K=aN T os e σ fun e σ=>K none e σ:=by simp only [wp]
theorem aHN (a b:ACode) (e:Env) (σ:St) (K:KJ):wp T (.seq a b) e σ K=wp T a e σ (pS (fun _ e σ=>wp T b e σ K) K):=by simp only [wp]
theorem aEI (j:AJump) (e:Env) (σ:St) (K:KJ):wp T (.jump j) e σ K=K (some j) e σ:=by simp only [wp]
theorem aEV (A K:KJ) (e:Env) (σ:St):pS A K none e σ=A none e σ:=by simp only [pS]
theorem aH1 (e:Env) (σ:St) (K:Env→St→Prop):aN T [] e σ K=K e σ:=by simp only [aN]
def aF9 (r:Option AV) (σ:St) (K:AV→St→Prop):Prop:=match r with|some v=>K v σ|none=>False
@[congr] theorem aDB {r r':Option AV} {σ σ':St} {K:AV→St→Prop} (h:r=r') (h2:σ=σ'):aF9 r σ K=aF9 r' σ' K:=by rw [h,h2]
def aIN (r:Option (List AV)) (σ:St) (K:AV→St→Prop):Prop:=match r with|some cs=>K (.agg cs) σ|none=>False
@[congr] theorem aCV {r r':Option (List AV)} {σ σ':St} {K:AV→St→Prop} (h:r=r') (h2:σ=σ'):aIN r σ K=aIN r' σ' K:=by rw [h,h2]
def aGQ (r:Option St) (K:AV→St→Prop):Prop:=match r with|some σ=>K (.tuple []) σ|none=>False
@[congr] theorem aCR {r r':Option St} {K:AV→St→Prop} (h:r=r'):aGQ r K=aGQ r' K:=by rw [h]
def rS (n:Nat) (v:AV):Option (List AV):=if (v.cells.length==n&&v.cells.all (·.cell))=true then some v.cells else none
def yC (off:Nat):AV→Option AV
 |.ptr id o=>some (.ptr id (o+off))
 |.lptr xs i o t=>some (.lptr xs i (o+off) t)
 |_=>none
theorem U9 (off id o:Nat):yC off (.ptr id o)=some (.ptr id (o+off)):=by simp [yC]
theorem TJ (off:Nat) (xs:List AV) (i o:Nat) (t:Option Nat):yC off (.lptr xs i o t)=some (.lptr xs i (o+off) t):=by simp [yC]
def aHM (r:Option (List AV)) (σ:St) (K:AV→St→Prop):Prop:=match r with|some cs=>K (.ptr σ.length 0) (σ++[.cells cs])|none=>False
@[congr] theorem aES {r r':Option (List AV)} {σ σ':St} {K:AV→St→Prop} (h:r=r') (h2:σ=σ'):aHM r σ K=aHM r' σ' K:=by rw [h,h2]
def W3 (i:Nat):AV→Option AV
 |.tuple vs=>vs[i]?
 |_=>none
theorem aEN (i:Nat) (vs:List AV):W3 i (.tuple vs)=vs[i]?:=by simp [W3]
def WK:AV→Option AV
 |.bool b=>some (.bool !b)
 |_=>none
theorem aD6 (b:Bool):WK (.bool b)=some (.bool !b):=by simp [WK]
def DO (sh:EqTy) (neg:Bool) (x y:AV):Option AV:=(k6 sh x y).map fun b=>.bool (if neg then !b else b)
theorem aC2 (e:Env) (σ:St) (K:KJ):wp T .skip e σ K=K none e σ:=by simp only [wp]
theorem YZ (id:Nat) (b:ACode) (e:Env) (σ:St) (K:KJ):wp T (.block id b) e σ K=wp T b e σ (lL id K):=by simp only [wp]
theorem XI (b:ACode) (e:Env) (σ:St) (K:KJ):wp T (.scope b) e σ K=wp T b e σ K:=by simp only [wp]
theorem XC (A K:KJ) (j:AJump) (e:Env) (σ:St):pS A K (some j) e σ=K (some j) e σ:=by simp only [pS]
theorem aCS (k:Nat):gP k []=[]:=by simp only [gP]
theorem aGN (k:Nat) (v:AV) (vs:List AV):gP k (v::vs)=(k,v)::gP (k+1) vs:=by simp only [gP]
theorem aII (e:Env) (cs:List AV) (off n:Nat) (x:AOpd) (rest:List (Nat×Nat×AOpd)) :
  cX e cs ((off,n,x)::rest)=((rS n (x.ev e)).bind fun us=>iB cs off us).bind fun cs=>cX e cs rest:=by
 simp only [cX,rS];split
 ·simp only [Option.bind_some];cases iB cs off (x.ev e).cells<;>simp
 ·simp
end Go.Am
namespace Go.Am
variable {T:FuncId→Option AFunc}
def HH (I:Nat→Env→St→Prop) (k:Nat) (K:KJ):KJ:=fun j e σ=>match j with|none=>∃ k',k'<k∧I k' e σ|some j=>K (some j) e σ
theorem B3 (I:Nat→Env→St→Prop) (k:Nat) (K:KJ) (e:Env) (σ:St):HH I k K none e σ = ∃ k',k'<k∧I k' e σ:=by simp only [HH]
theorem BU (I:Nat→Env→St→Prop) (k:Nat) (K:KJ) (j:AJump) (e:Env) (σ:St):HH I k K (some j) e σ=K (some j) e σ:=by simp only [HH]
theorem aG1 {b:ACode} {K:KJ} (I:Nat→Env→St→Prop) (step:∀ k e σ,I k e σ→wp T b e σ (HH I k K)):∀ n e σ,I n e σ→PK T (.loop b) e σ K:=by
 intro n
 induction n using Nat.strongRecOn with
 |_ n ih =>
  intro e σ h
  refine .loop (iL (step n e σ h) fun o ho=>ho) (fun o ho hj=>?_) fun o ho hj=>?_
  ·simp only [hj,B3] at ho
   obtain ⟨k',hk,hI⟩:=ho
   exact ih k' hk o.env o.σ hI
  ·cases hj':o.j with
   |none=>exact absurd hj' hj
   |some j=>simp only [hj',BU] at ho;exact ho
end Go.Am
namespace Go.Am
variable {T:FuncId→Option AFunc}
def EH (r:ARead):List St→Nat→Prop
 |[],_=>True
 |s::ss,j=>(if r.lo≤j∧j≤r.hi then aop r.op r.env s=some (r.v,s) else True)∧EH r ss (j+1)
theorem JB {r:ARead}:∀ {hist:List St} {k:Nat},EH r hist k→∀ j s,r.lo≤k+j→k+j≤r.hi→hist[j]? = some s→aop r.op r.env s=some (r.v,s)
 |[],k,_,j,s,_,_,h=>by simp at h
 |t::ss,k,h,j,s,h1,h2,h3=>by
  obtain ⟨q1,q2⟩:=h
  cases j with
  |zero=>simp at h3;subst h3;rw [if_pos ⟨by omega,by omega⟩] at q1;exact q1
  |succ j=>exact JB q2 j s (by omega) (by omega) (by simpa using h3)
def rQ:List ARead→List St→Prop
 |[],_=>True
 |r::rs,hist=>EH r hist 0∧rQ rs hist
theorem EP:∀ {rs:List ARead} {hist:List St},rQ rs hist→∀ r∈rs,ARead.ok r hist
 |[],_,_,r,h=>by cases h
 |r::rs,hist,h,q,hq=>by
  rcases List.mem_cons.1 hq with rfl|hq
  ·intro j s h1 h2 h3
   exact JB h.1 j s (by omega) (by omega) h3
  ·exact EP h.2 q hq
def DW (T:FuncId→Option AFunc) (f:AV) (args:List AV) (σ:St) (K:AV→St→Prop):Prop:=∃ v σ',Run T (.callv f args σ) (fun r=>r.v=v∧r.σ=σ')∧K v σ'
@[congr] theorem aB5 {f f':AV} {args args':List AV} {σ σ':St} {K:AV→St→Prop} (h1:f=f') (h2:args=args') (h3:σ=σ'):DW T f args σ K=DW T f' args' σ' K:=by rw [h1,h2,h3]
def wpD (T:FuncId→Option AFunc):List ADOper→Env→St→Nat→List St→List ARead→(Env→St→Prop)→Prop
 |[],e,σ,_,hist,reads,K=>rQ reads hist∧K e σ
 |⟨⟨dst,.call f args,none⟩,_,_⟩::ds,e,σ,next,hist,reads,K=>DW T (f.ev e) (args.map (·.ev e)) σ fun v σ'=>wpD T ds (Env.put e dst v) σ' next (hist++[σ']) reads K
 |⟨⟨dst,.alloc _,none⟩,_,_⟩::ds,e,σ,next,hist,reads,K=>wpD T ds (Env.put e dst (.ptr next 0)) σ (next+1) hist reads K
 |⟨⟨dst,q,none⟩,lo,hi⟩::ds,e,σ,next,hist,reads,K =>
  n7 (aop q e σ) fun v σ' =>
   if q.acts=true then wpD T ds (Env.put e dst v) σ' next (hist++[σ']) reads K
   else σ'=σ∧if q.reads=true then wpD T ds (Env.put e dst v) σ next hist (⟨lo,hi,q,e,v⟩::reads) K else wpD T ds (Env.put e dst v) σ next hist reads K
 |⟨⟨dst,.call f args,some (t,want)⟩,_,_⟩::ds,e,σ,next,hist,reads,K =>
  pH (Env.get e t) want (fun _=>DW T (f.ev e) (args.map (·.ev e)) σ fun v σ'=>wpD T ds (Env.put e dst v) σ' next (hist++[σ']) reads K)
   (fun _=>wpD T ds (Env.put e dst (.tuple [])) σ next (hist++[σ]) reads K)
 |⟨⟨dst,q,some (t,want)⟩,lo,hi⟩::ds,e,σ,next,hist,reads,K =>
  pH (Env.get e t) want
   (fun _=>q.allocs=false∧n7 (aop q e σ) fun v σ' =>
    if q.acts=true then wpD T ds (Env.put e dst v) σ' next (hist++[σ']) reads K
    else σ'=σ∧if q.reads=true then wpD T ds (Env.put e dst v) σ next hist (⟨lo,hi,q,e,v⟩::reads) K else wpD T ds (Env.put e dst v) σ next hist reads K)
   (fun _=>wpD T ds (Env.put e dst (.tuple [])) σ (if q.allocs then next+1 else next) (if q.acts then hist++[σ] else hist) reads K)
theorem mG {Q:Out→Prop}:∀ {ds:List ADOper} {e:Env} {σ:St} {next:Nat} {hist:List St} {reads:List ARead} {K:Env→St→Prop},wpD T ds e σ next hist reads K →
  (∀ e σ,K e σ→Q ⟨none,e,σ,.undef⟩)→Run T (.dops ds e σ next hist reads) Q
 |[],e,σ,next,hist,reads,K,h,hq=>.dnil (EP h.1) (hq _ _ h.2)
 |⟨⟨dst,q,g⟩,lo,hi⟩::ds,e,σ,next,hist,reads,K,h,hq=>by
  -- an operation that is neither a call nor a new variable
  have key:AOper.wanted ⟨dst,q,g⟩ e=some true→q.allocs=false→(n7 (aop q e σ) fun v σ' =>
    if q.acts=true then wpD T ds (Env.put e dst v) σ' next (hist++[σ']) reads K
    else σ'=σ∧if q.reads=true then wpD T ds (Env.put e dst v) σ next hist (⟨lo,hi,q,e,v⟩::reads) K else wpD T ds (Env.put e dst v) σ next hist reads K) →
    Run T (.dops (⟨⟨dst,q,g⟩,lo,hi⟩::ds) e σ next hist reads) Q:=by
   intro hw hal h
   unfold n7 at h
   split at h
   ·rename_i v σ' hv
    split at h
    ·rename_i ha;exact .dact hw ha hv (mG h hq)
    ·rename_i ha
     obtain ⟨rfl,h⟩:=h
     split at h
     ·rename_i hr;exact .dread hw hr hv (mG h hq)
     ·rename_i hr;exact .dpure hw (by simp [hal];exact ⟨by simpa using ha,by simpa using hr⟩) hv (mG h hq)
   ·exact h.elim
  by_cases hc:∃ f args,q = .call f args
  ·obtain ⟨f,args,rfl⟩:=hc
   cases g with
   |none =>
    simp only [wpD,DW] at h
    obtain ⟨v,σ',h1,h2⟩:=h
    exact .dcall rfl rfl h1 (mG h2 hq)
   |some g =>
    obtain ⟨t,want⟩:=g
    simp only [wpD,pH] at h
    split at h
    ·rename_i b h1
     split at h
     ·rename_i hb
      obtain ⟨v,σ',h3,h4⟩:=h
      exact .dcall (by simp [AOper.wanted,h1,hb]) rfl h3 (mG h4 hq)
     ·rename_i hb
      exact .doff (by simp [AOper.wanted,h1];simpa using hb) (by simpa [AOp.allocs,AOp.acts] using mG h hq)
    ·rename_i h1
     exact .doff (by simp [AOper.wanted,h1]) (by simpa [AOp.allocs,AOp.acts] using mG h hq)
    ·exact h.elim
  ·cases g with
   |none =>
    by_cases hal:∃ z,q = .alloc z
    ·obtain ⟨z,rfl⟩:=hal
     simp only [wpD] at h
     exact .dalloc rfl rfl (mG h hq)
    ·refine key rfl ?_ ?_
     ·cases q<;>first|rfl|exact absurd ⟨_,rfl⟩ hal
     ·cases q<;>first|exact h|exact absurd ⟨_,_,rfl⟩ hc|exact absurd ⟨_,rfl⟩ hal
   |some g =>
    obtain ⟨t,want⟩:=g
    have h:pH (Env.get e t) want (fun _=>q.allocs=false∧n7 (aop q e σ) fun v σ' =>
      if q.acts=true then wpD T ds (Env.put e dst v) σ' next (hist++[σ']) reads K
      else σ'=σ∧if q.reads=true then wpD T ds (Env.put e dst v) σ next hist (⟨lo,hi,q,e,v⟩::reads) K else wpD T ds (Env.put e dst v) σ next hist reads K)
      (fun _=>wpD T ds (Env.put e dst (.tuple [])) σ (if q.allocs then next+1 else next) (if q.acts then hist++[σ] else hist) reads K):=by
     cases q<;>first|exact h|exact absurd ⟨_,_,rfl⟩ hc
    simp only [pH] at h
    split at h
    ·rename_i b h1
     split at h
     ·rename_i hb
      exact key (by simp [AOper.wanted,h1,hb]) h.1 h.2
     ·rename_i hb
      exact .doff (by simp [AOper.wanted,h1];simpa using hb) (mG h hq)
    ·rename_i h1
     exact .doff (by simp [AOper.wanted,h1]) (mG h hq)
    ·exact h.elim
end Go.Am
namespace Go.Am
variable {T:FuncId→Option AFunc}
class HP (α:Type) where
 out:α
def bO (r:Option (AV×St)) [K:HP (AV→St→Prop)]:Prop:=n7 r K.out
theorem aCN (v:AV) (σ:St) (K:AV→St→Prop):bO (K:=⟨K⟩) (some (v,σ))=K v σ:=by simp only [bO,n7]
def cK (T:FuncId→Option AFunc) (f:AV) (args:List AV) (σ:St) [K:HP (AV→St→Prop)]:Prop:=NI T f args σ K.out
def cD (T:FuncId→Option AFunc) (f:AV) (args:List AV) (σ:St) [K:HP (AV→St→Prop)]:Prop:=DW T f args σ K.out
def rK (T:FuncId→Option AFunc) (c:ACode) (e:Env) (σ:St) [K:HP KJ]:Prop:=PK T c e σ K.out
def zW (b:Bool) [A:HP Prop] [B:HP Prop]:Prop:=if b=true then A.out else B.out
theorem uW (A:Prop) (B:HP Prop):zW (A:=⟨A⟩) true=A:=by simp [zW]
theorem rO (A:HP Prop) (B:Prop):zW (B:=⟨B⟩) false=B:=by simp [zW]
theorem aG {b:Bool} {A B:Prop} (h1:b=true→A) (h2:b=false→B):zW (A:=⟨A⟩) (B:=⟨B⟩) b:=by cases b<;>simp [zW]<;>first|exact h1 rfl|exact h2 rfl
def bB (v:AV) [A:HP Prop] [B:HP Prop]:Prop:=C4 v (fun _=>A.out) (fun _=>B.out)
def bG (v:AV) (want:Bool) [A:HP Prop] [B:HP Prop]:Prop:=pH v want (fun _=>A.out) (fun _=>B.out)
theorem aFE (b:ACode) (e:Env) (σ:St) (K:KJ):wp T (.loop b) e σ K=rK (K:=⟨K⟩) T (.loop b) e σ:=by simp only [wp,rK]
theorem W6 (f:AOpd) (ps:List Nat) (a b:ACode) (e:Env) (σ:St) (K:KJ):wp T (.rangeFunc f ps a b) e σ K=rK (K:=⟨K⟩) T (.rangeFunc f ps a b) e σ:=by simp only [wp,rK]
theorem aDO (c:AOpd) (a b:ACode) (e:Env) (σ:St) (K:KJ):wp T (.cond c a b) e σ K=bB (A:=⟨wp T a e σ K⟩) (B:=⟨wp T b e σ K⟩) (c.ev e):=by simp only [wp,bB]
def evs (e:Env):List AOpd→List AV
 |[]=>[]
 |x::xs=>x.ev e::evs e xs
theorem oB (e:Env):∀ xs:List AOpd,xs.map (·.ev e)=evs e xs
 |[]=>rfl
 |x::xs=>by simp [evs,oB e xs]
def ovs (e:Env):Option AOpd→Option AV
 |none=>none
 |some x=>some (x.ev e)
def DX:AV→AV→AV→Option AV
 |.bool true,x,_=>some x
 |.bool false,_,y=>some y
 |_,_,_=>none
def O2 (n:Nat) (xs:List AV):Option AV:=if aM n xs=true then some (.lit xs true none) else none
def J0:AV→Option AV
 |.ptr i o=>some (.ptr i o)
 |.lptr xs i o t=>some (.lptr xs i o t)
 |.func f a b=>some (.func f a b)
 |.yield i=>some (.yield i)
 |_=>none
def ZP:AV→Option AV
 |.int k n=>some (.int k (k.wrap (0-n)))
 |_=>none
def NN (k:IntKind):AV→Option AV
 |.int _ n=>some (.int k (k.wrap n))
 |_=>none
def XA:AV→Option ByteArray
 |.str s=>some s
 |_=>none
def yK (σ:St):AV→Option (AV×St)
 |.ptr id 0 =>
  match σ[id]? with
  |some (.siter s pos) =>
   if pos<s.size then some (.tuple [.bool true,.int .i64 pos,.int .i32 (Utf8.decode s pos).1],σ.set id (.siter s (pos+(Utf8.decode s pos).2)))
   else some (.tuple [.bool false],σ)
  |_=>none
 |_=>none
def qO (bytes:Nat) (l c:AV):Option Nat :=
 match l,c with
 |.int _ n,.int _ m=>if 0≤n∧n=m∧n*bytes≤room∧n≤room then some n.toNat else none
 |_,_=>none
def qC (d:Nat):Option AV→Option Int
 |none=>some d
 |some x=>gT x
def AE (sz:Nat) (σ:St) (x:AV) (lo hi mx:Option AV):Option AV :=
 match kL 1 σ x with
 |none=>none
 |some n =>
  match qC 0 lo,qC n hi,mx.map gT with
  |some l,some h,none=>oC sz x l h false
  |some l,some h,some (some m)=>if m=h∧hi.isSome=true then oC sz x l h true else none
  |_,_,_=>none
def NJ (n sz:Nat) (x:AV) (lo hi:Option AV):Option AV :=
 match x,qC 0 lo,qC n hi with
 |.ptr id off,some l,some h=>if 0≤l∧l≤h∧h≤n then some (.ref id (off+l.toNat*sz) (h.toNat-l.toNat) sz) else none
 |_,_,_=>none
def GG (off:Nat) (sh:Option Nat):AV→Option AV
 |.agg cs=>gS sh cs off
 |_=>none
def qF (arr:Option Nat) (sz:Nat) (x i:AV):Option AV :=
 match gT i,arr,x with
 |some j,some n,.ptr id off=>if 0≤j∧j<n then some (.ptr id (off+j.toNat*sz)) else none
 |some j,some n,.lptr xs q off t=>if 0≤j∧j<n then some (.lptr xs q (off+j.toNat*sz) t) else none
 |some j,none,.lit xs _ t =>
  match xs[j.toNat]? with
  |some y=>if 0≤j∧y.cells.length=sz then some (.lptr xs j.toNat 0 t) else none
  |none=>none
 |some j,none,.ref id off len sz'=>if 0≤j∧j<len∧sz'=sz then some (.ptr id (off+j.toNat*sz)) else none
 |_,_,_=>none
def WC (n sz:Nat) (sh:Option Nat) (x i:AV):Option AV :=
 match gT i,x with
 |some j,.agg cs=>if 0≤j∧j<n then gS sh cs (j.toNat*sz) else none
 |_,_=>none
def AM (x i:AV):Option AV :=
 match gT i,x with
 |some j,.str s=>if 0≤j then (s[j.toNat]?).map fun b=>.int .u8 b.toNat else none
 |_,_=>none
def OK (ok:Bool) (zero:AV):Option (Option AV)→Option AV
 |some (some v)=>some (if ok then .tuple [v,.bool true] else v)
 |some none=>some (if ok then .tuple [zero,.bool false] else zero)
 |none=>none
def z0 (sh:EqTy) (σ:St) (m k v:AV):Option St :=
 match m with
 |.map id =>
  if (k6 sh k k).isSome=false then none else
  match σ[id]? with
  |some (.map es)=>(o6 sh k v es).map fun es'=>σ.set id (.map es')
  |_=>none
 |_=>none
theorem aHV (x:AOpd) (e:Env) (σ:St):aop (.mov x) e σ=some (x.ev e,σ):=by
 simp only [aop]
theorem W7 (z:List AV) (e:Env) (σ:St):aop (.alloc z) e σ=some (.ptr σ.length 0,σ++[.cells z]):=by
 simp only [aop]
theorem aEO (c x y:AOpd) (e:Env) (σ:St):aop (.pick c x y) e σ=(DX (c.ev e) (x.ev e) (y.ev e)).map (·,σ):=by
 simp only [aop,DX];repeat' split
 all_goals simp_all
theorem aIV (n:Nat) (x:AOpd) (e:Env) (σ:St):aop (.box n x) e σ=(rS n (x.ev e)).map fun cs=>(.ptr σ.length 0,σ++[.cells cs]):=by
 simp only [aop,rS];split<;>simp_all
theorem W9 (z:List AV) (ps:List (Nat×Nat×AOpd)) (e:Env) (σ:St):aop (.build z ps) e σ=(cX e z ps).map fun cs=>(.agg cs,σ):=by
 simp only [aop];cases cX e z ps<;>simp
theorem Y8 (n:Nat) (xs:List AOpd) (e:Env) (σ:St):aop (.mklit n xs) e σ=(O2 n (evs e xs)).map (·,σ):=by
 simp only [aop,O2,oB];split<;>simp_all
theorem Z6 (n:Nat) (xs:List AOpd) (e:Env) (σ:St):aop (.mkref n xs) e σ=(O2 n (evs e xs)).map fun _=>(.ref σ.length 0 (evs e xs).length n,σ++[.cells ((evs e xs).flatMap AV.cells)]):=by
 simp only [aop,O2,oB];have:=congrArg List.length (oB e xs);split<;>simp_all
theorem aC3 (sh:Option Nat) (x:AOpd) (e:Env) (σ:St):aop (.load sh x) e σ=(lU sh σ (x.ev e)).map (·,σ):=by
 simp only [aop];cases lU sh σ (x.ev e)<;>simp
theorem Y5 (n:Nat) (x y:AOpd) (e:Env) (σ:St):aop (.store n x y) e σ=(pY n σ (x.ev e) (y.ev e)).map (.tuple [],·):=by
 simp only [aop];cases pY n σ (x.ev e) (y.ev e)<;>simp
theorem MF (x:AOpd) (e:Env) (σ:St):aop (.nilCheck x) e σ=(J0 (x.ev e)).map (·,σ):=by
 simp only [aop,J0];cases x.ev e<;>simp
theorem aIX (op:BinOp) (x y:AOpd) (e:Env) (σ:St):aop (.bin op x y) e σ=(gE op (x.ev e) (y.ev e)).map (·,σ):=by
 simp only [aop];cases gE op (x.ev e) (y.ev e)<;>simp
theorem aGT (sh:EqTy) (n:Bool) (x y:AOpd) (e:Env) (σ:St):aop (.eql sh n x y) e σ=(DO sh n (x.ev e) (y.ev e)).map (·,σ):=by
 simp only [aop,DO];cases k6 sh (x.ev e) (y.ev e)<;>simp
theorem aIG (x:AOpd) (e:Env) (σ:St):aop (.not x) e σ=(WK (x.ev e)).map (·,σ):=by
 simp only [aop,WK];cases x.ev e<;>simp
theorem aH9 (x:AOpd) (e:Env) (σ:St):aop (.neg x) e σ=(ZP (x.ev e)).map (·,σ):=by
 simp only [aop,ZP];cases x.ev e<;>simp
theorem aD0 (k:IntKind) (x:AOpd) (e:Env) (σ:St):aop (.conv k x) e σ=(NN k (x.ev e)).map (·,σ):=by
 simp only [aop,NN];cases x.ev e<;>simp
theorem W2 (f:FuncId) (xs ys:List AOpd) (e:Env) (σ:St):aop (.mkfun f xs ys) e σ=some (.func f (evs e xs) (evs e ys),σ):=by
 simp only [aop,oB]
theorem XZ  (e:Env) (σ:St):aop (.mkmap) e σ=some (.map σ.length,σ++[.map []]):=by
 simp only [aop]
theorem PX (z:List AV) (b:Nat) (x y:AOpd) (e:Env) (σ:St):aop (.mkslice z b x y) e σ=(qO b (x.ev e) (y.ev e)).map fun n=>(.ref σ.length 0 n z.length,σ++[.cells (List.replicate n z).flatten]):=by
 simp only [aop,qO];generalize x.ev e=u;generalize y.ev e=v;cases u<;>cases v<;>first|rfl|(dsimp only;split<;>first|rfl|simp_all|(split<;>simp_all))
theorem SO (n:Nat) (x:AOpd) (lo hi mx:Option AOpd) (e:Env) (σ:St):aop (.slicev n x lo hi mx) e σ=(AE n σ (x.ev e) (ovs e lo) (ovs e hi) (ovs e mx)).map (·,σ):=by
 simp only [aop,AE];cases kL 1 σ (x.ev e)<;>cases lo<;>cases hi<;>cases mx<;>simp only [cP,qC,ovs,Option.map_none,Option.map_some]<;>repeat' split
 all_goals simp_all
theorem UU (n s:Nat) (x:AOpd) (lo hi:Option AOpd) (e:Env) (σ:St):aop (.slicea n s x lo hi) e σ=(NJ n s (x.ev e) (ovs e lo) (ovs e hi)).map (·,σ):=by
 simp only [aop,NJ];generalize x.ev e=u;cases lo with
 |none=>cases hi with
  |none=>simp only [cP,qC,ovs];cases u<;>first|rfl|(dsimp only;split<;>first|rfl|simp_all|(split<;>simp_all))
  |some h=>simp only [cP,qC,ovs];generalize gT (h.ev e)=p;cases u<;>cases p<;>first|rfl|(dsimp only;split<;>first|rfl|simp_all|(split<;>simp_all))
 |some l=>cases hi with
  |none=>simp only [cP,qC,ovs];generalize gT (l.ev e)=p;cases u<;>cases p<;>first|rfl|(dsimp only;split<;>first|rfl|simp_all|(split<;>simp_all))
  |some h=>simp only [cP,qC,ovs];generalize gT (l.ev e)=p;generalize gT (h.ev e)=q;cases u<;>cases p<;>cases q<;>first|rfl|(dsimp only;split<;>first|rfl|simp_all|(split<;>simp_all))
theorem YX (x:AOpd) (o:Nat) (e:Env) (σ:St):aop (.faddr x o) e σ=(yC o (x.ev e)).map (·,σ):=by
 simp only [aop,yC];cases x.ev e<;>simp
theorem YH (x:AOpd) (o:Nat) (sh:Option Nat) (e:Env) (σ:St):aop (.field x o sh) e σ=(GG o sh (x.ev e)).map (·,σ):=by
 simp only [aop,GG];cases x.ev e<;>simp<;>(rename_i cs;cases gS sh cs o<;>simp)
theorem Z5 (a:Option Nat) (s:Nat) (x i:AOpd) (e:Env) (σ:St):aop (.iaddr a s x i) e σ=(qF a s (x.ev e) (i.ev e)).map (·,σ):=by
 simp only [aop,qF];generalize gT (i.ev e)=q;generalize x.ev e=u;cases q<;>cases a<;>cases u<;>first|rfl|(dsimp only;split<;>first|rfl|simp_all|(split<;>simp_all))
theorem YC (n s:Nat) (sh:Option Nat) (x i:AOpd) (e:Env) (σ:St):aop (.index n s sh x i) e σ=(WC n s sh (x.ev e) (i.ev e)).map (·,σ):=by
 simp only [aop,WC];generalize gT (i.ev e)=q;generalize x.ev e=u;cases q<;>cases u<;>first|rfl|(dsimp only;split<;>first|rfl|simp_all|(split<;>simp_all))
theorem U4 (x i:AOpd) (e:Env) (σ:St):aop (.sindex x i) e σ=(AM (x.ev e) (i.ev e)).map (·,σ):=by
 simp only [aop,AM];generalize gT (i.ev e)=q;generalize x.ev e=u;cases q<;>cases u<;>first|rfl|(dsimp only;split<;>first|rfl|(rename_i k b h;cases b[k.toNat]?<;>rfl))
theorem SU (sh:EqTy) (ok:Bool) (z:AV) (m k:AOpd) (e:Env) (σ:St):aop (.lookup sh ok z m k) e σ=(OK ok z (vW sh σ (m.ev e) (k.ev e))).map (·,σ):=by
 simp only [aop,OK];cases vW sh σ (m.ev e) (k.ev e) with
 |none=>rfl
 |some o=>cases o<;>rfl
theorem TO (sh:EqTy) (m k v:AOpd) (e:Env) (σ:St):aop (.mapset sh m k v) e σ=(z0 sh σ (m.ev e) (k.ev e) (v.ev e)).map (.tuple [],·):=by
 simp only [aop,z0];repeat' split
 all_goals simp_all
theorem aHX (x:AOpd) (i:Nat) (e:Env) (σ:St):aop (.ext x i) e σ=(W3 i (x.ev e)).map (·,σ):=by
 simp only [aop,W3];cases x.ev e<;>simp<;>(rename_i vs;cases vs[i]?<;>simp)
theorem aG6 (k:Nat) (x:AOpd) (e:Env) (σ:St):aop (.len k x) e σ=(kL k σ (x.ev e)).map fun n=>(.int .i64 n,σ):=by
 simp only [aop];cases kL k σ (x.ev e)<;>simp
theorem TF (n b:Nat) (x y:AOpd) (e:Env) (σ:St):aop (.append n b x y) e σ=dD n b σ (x.ev e) (y.ev e):=by
 simp only [aop]
theorem Z3 (n b:Nat) (x y:AOpd) (e:Env) (σ:St):aop (.apref n b x y) e σ=m9 n b σ (x.ev e) (y.ev e):=by
 simp only [aop]
theorem aE6 (n:Nat) (x y:AOpd) (e:Env) (σ:St):aop (.copy n x y) e σ=tS n σ (x.ev e) (y.ev e):=by
 simp only [aop]
theorem aIK (xs:List AOpd) (e:Env) (σ:St):aop (.min xs) e σ=(y5 (evs e xs)).map (·,σ):=by
 simp only [aop,oB];cases y5 (evs e xs)<;>simp
theorem aGJ (xs:List AOpd) (e:Env) (σ:St):aop (.max xs) e σ=(zP (evs e xs)).map (·,σ):=by
 simp only [aop,oB];cases zP (evs e xs)<;>simp
theorem US (x:AOpd) (e:Env) (σ:St):aop (.srange x) e σ=(XA (x.ev e)).map fun s=>(.ptr σ.length 0,σ++[.siter s 0]):=by
 simp only [aop,XA];cases x.ev e<;>simp
theorem ZY (x:AOpd) (e:Env) (σ:St):aop (.snext x) e σ=yK σ (x.ev e):=by
 simp only [aop,yK];cases x.ev e<;>rfl
theorem aGE (x:AOpd) (d:Option Nat) (os:List AOper) (e:Env) (σ:St) (K:Env→St→Prop):aN T (⟨d,.mov x,none⟩::os) e σ K=bO (K:=⟨fun v σ'=>aN T os (Env.put e d v) σ' K⟩) (aop (.mov x) e σ):=by simp only [aN,iG,bO]
theorem X3 (z:List AV) (d:Option Nat) (os:List AOper) (e:Env) (σ:St) (K:Env→St→Prop):aN T (⟨d,.alloc z,none⟩::os) e σ K=bO (K:=⟨fun v σ'=>aN T os (Env.put e d v) σ' K⟩) (aop (.alloc z) e σ):=by simp only [aN,iG,bO]
theorem aC5 (c x y:AOpd) (d:Option Nat) (os:List AOper) (e:Env) (σ:St) (K:Env→St→Prop):aN T (⟨d,.pick c x y,none⟩::os) e σ K=bO (K:=⟨fun v σ'=>aN T os (Env.put e d v) σ' K⟩) (aop (.pick c x y) e σ):=by simp only [aN,iG,bO]
theorem aHB (n:Nat) (x:AOpd) (d:Option Nat) (os:List AOper) (e:Env) (σ:St) (K:Env→St→Prop):aN T (⟨d,.box n x,none⟩::os) e σ K=bO (K:=⟨fun v σ'=>aN T os (Env.put e d v) σ' K⟩) (aop (.box n x) e σ):=by simp only [aN,iG,bO]
theorem YI (z:List AV) (ps:List (Nat×Nat×AOpd)) (d:Option Nat) (os:List AOper) (e:Env) (σ:St) (K:Env→St→Prop):aN T (⟨d,.build z ps,none⟩::os) e σ K=bO (K:=⟨fun v σ'=>aN T os (Env.put e d v) σ' K⟩) (aop (.build z ps) e σ):=by simp only [aN,iG,bO]
theorem XP (n:Nat) (xs:List AOpd) (d:Option Nat) (os:List AOper) (e:Env) (σ:St) (K:Env→St→Prop):aN T (⟨d,.mklit n xs,none⟩::os) e σ K=bO (K:=⟨fun v σ'=>aN T os (Env.put e d v) σ' K⟩) (aop (.mklit n xs) e σ):=by simp only [aN,iG,bO]
theorem ZG (n:Nat) (xs:List AOpd) (d:Option Nat) (os:List AOper) (e:Env) (σ:St) (K:Env→St→Prop):aN T (⟨d,.mkref n xs,none⟩::os) e σ K=bO (K:=⟨fun v σ'=>aN T os (Env.put e d v) σ' K⟩) (aop (.mkref n xs) e σ):=by simp only [aN,iG,bO]
theorem aDM (sh:Option Nat) (x:AOpd) (d:Option Nat) (os:List AOper) (e:Env) (σ:St) (K:Env→St→Prop):aN T (⟨d,.load sh x,none⟩::os) e σ K=bO (K:=⟨fun v σ'=>aN T os (Env.put e d v) σ' K⟩) (aop (.load sh x) e σ):=by simp only [aN,iG,bO]
theorem YN (n:Nat) (x y:AOpd) (d:Option Nat) (os:List AOper) (e:Env) (σ:St) (K:Env→St→Prop):aN T (⟨d,.store n x y,none⟩::os) e σ K=bO (K:=⟨fun v σ'=>aN T os (Env.put e d v) σ' K⟩) (aop (.store n x y) e σ):=by simp only [aN,iG,bO]
theorem LI (x:AOpd) (d:Option Nat) (os:List AOper) (e:Env) (σ:St) (K:Env→St→Prop):aN T (⟨d,.nilCheck x,none⟩::os) e σ K=bO (K:=⟨fun v σ'=>aN T os (Env.put e d v) σ' K⟩) (aop (.nilCheck x) e σ):=by simp only [aN,iG,bO]
theorem aIW (op:BinOp) (x y:AOpd) (d:Option Nat) (os:List AOper) (e:Env) (σ:St) (K:Env→St→Prop):aN T (⟨d,.bin op x y,none⟩::os) e σ K=bO (K:=⟨fun v σ'=>aN T os (Env.put e d v) σ' K⟩) (aop (.bin op x y) e σ):=by simp only [aN,iG,bO]
theorem aF1 (sh:EqTy) (n:Bool) (x y:AOpd) (d:Option Nat) (os:List AOper) (e:Env) (σ:St) (K:Env→St→Prop):aN T (⟨d,.eql sh n x y,none⟩::os) e σ K=bO (K:=⟨fun v σ'=>aN T os (Env.put e d v) σ' K⟩) (aop (.eql sh n x y) e σ):=by simp only [aN,iG,bO]
theorem aGI (x:AOpd) (d:Option Nat) (os:List AOper) (e:Env) (σ:St) (K:Env→St→Prop):aN T (⟨d,.not x,none⟩::os) e σ K=bO (K:=⟨fun v σ'=>aN T os (Env.put e d v) σ' K⟩) (aop (.not x) e σ):=by simp only [aN,iG,bO]
theorem aH3 (x:AOpd) (d:Option Nat) (os:List AOper) (e:Env) (σ:St) (K:Env→St→Prop):aN T (⟨d,.neg x,none⟩::os) e σ K=bO (K:=⟨fun v σ'=>aN T os (Env.put e d v) σ' K⟩) (aop (.neg x) e σ):=by simp only [aN,iG,bO]
theorem aDN (k:IntKind) (x:AOpd) (d:Option Nat) (os:List AOper) (e:Env) (σ:St) (K:Env→St→Prop):aN T (⟨d,.conv k x,none⟩::os) e σ K=bO (K:=⟨fun v σ'=>aN T os (Env.put e d v) σ' K⟩) (aop (.conv k x) e σ):=by simp only [aN,iG,bO]
theorem WS (f:FuncId) (xs ys:List AOpd) (d:Option Nat) (os:List AOper) (e:Env) (σ:St) (K:Env→St→Prop):aN T (⟨d,.mkfun f xs ys,none⟩::os) e σ K=bO (K:=⟨fun v σ'=>aN T os (Env.put e d v) σ' K⟩) (aop (.mkfun f xs ys) e σ):=by simp only [aN,iG,bO]
theorem Y7  (d:Option Nat) (os:List AOper) (e:Env) (σ:St) (K:Env→St→Prop):aN T (⟨d,.mkmap,none⟩::os) e σ K=bO (K:=⟨fun v σ'=>aN T os (Env.put e d v) σ' K⟩) (aop (.mkmap) e σ):=by simp only [aN,iG,bO]
theorem PQ (z:List AV) (b:Nat) (x y:AOpd) (d:Option Nat) (os:List AOper) (e:Env) (σ:St) (K:Env→St→Prop):aN T (⟨d,.mkslice z b x y,none⟩::os) e σ K=bO (K:=⟨fun v σ'=>aN T os (Env.put e d v) σ' K⟩) (aop (.mkslice z b x y) e σ):=by simp only [aN,iG,bO]
theorem TU (n:Nat) (x:AOpd) (lo hi mx:Option AOpd) (d:Option Nat) (os:List AOper) (e:Env) (σ:St) (K:Env→St→Prop):aN T (⟨d,.slicev n x lo hi mx,none⟩::os) e σ K=bO (K:=⟨fun v σ'=>aN T os (Env.put e d v) σ' K⟩) (aop (.slicev n x lo hi mx) e σ):=by simp only [aN,iG,bO]
theorem UH (n s:Nat) (x:AOpd) (lo hi:Option AOpd) (d:Option Nat) (os:List AOper) (e:Env) (σ:St) (K:Env→St→Prop):aN T (⟨d,.slicea n s x lo hi,none⟩::os) e σ K=bO (K:=⟨fun v σ'=>aN T os (Env.put e d v) σ' K⟩) (aop (.slicea n s x lo hi) e σ):=by simp only [aN,iG,bO]
theorem XV (x:AOpd) (o:Nat) (d:Option Nat) (os:List AOper) (e:Env) (σ:St) (K:Env→St→Prop):aN T (⟨d,.faddr x o,none⟩::os) e σ K=bO (K:=⟨fun v σ'=>aN T os (Env.put e d v) σ' K⟩) (aop (.faddr x o) e σ):=by simp only [aN,iG,bO]
theorem X6 (x:AOpd) (o:Nat) (sh:Option Nat) (d:Option Nat) (os:List AOper) (e:Env) (σ:St) (K:Env→St→Prop):aN T (⟨d,.field x o sh,none⟩::os) e σ K=bO (K:=⟨fun v σ'=>aN T os (Env.put e d v) σ' K⟩) (aop (.field x o sh) e σ):=by simp only [aN,iG,bO]
theorem YY (a:Option Nat) (s:Nat) (x i:AOpd) (d:Option Nat) (os:List AOper) (e:Env) (σ:St) (K:Env→St→Prop):aN T (⟨d,.iaddr a s x i,none⟩::os) e σ K=bO (K:=⟨fun v σ'=>aN T os (Env.put e d v) σ' K⟩) (aop (.iaddr a s x i) e σ):=by simp only [aN,iG,bO]
theorem XH (n s:Nat) (sh:Option Nat) (x i:AOpd) (d:Option Nat) (os:List AOper) (e:Env) (σ:St) (K:Env→St→Prop):aN T (⟨d,.index n s sh x i,none⟩::os) e σ K=bO (K:=⟨fun v σ'=>aN T os (Env.put e d v) σ' K⟩) (aop (.index n s sh x i) e σ):=by simp only [aN,iG,bO]
theorem WD (x i:AOpd) (d:Option Nat) (os:List AOper) (e:Env) (σ:St) (K:Env→St→Prop):aN T (⟨d,.sindex x i,none⟩::os) e σ K=bO (K:=⟨fun v σ'=>aN T os (Env.put e d v) σ' K⟩) (aop (.sindex x i) e σ):=by simp only [aN,iG,bO]
theorem UP (sh:EqTy) (ok:Bool) (z:AV) (m k:AOpd) (d:Option Nat) (os:List AOper) (e:Env) (σ:St) (K:Env→St→Prop):aN T (⟨d,.lookup sh ok z m k,none⟩::os) e σ K=bO (K:=⟨fun v σ'=>aN T os (Env.put e d v) σ' K⟩) (aop (.lookup sh ok z m k) e σ):=by simp only [aN,iG,bO]
theorem V7 (sh:EqTy) (m k v:AOpd) (d:Option Nat) (os:List AOper) (e:Env) (σ:St) (K:Env→St→Prop):aN T (⟨d,.mapset sh m k v,none⟩::os) e σ K=bO (K:=⟨fun v σ'=>aN T os (Env.put e d v) σ' K⟩) (aop (.mapset sh m k v) e σ):=by simp only [aN,iG,bO]
theorem aFX (x:AOpd) (i:Nat) (d:Option Nat) (os:List AOper) (e:Env) (σ:St) (K:Env→St→Prop):aN T (⟨d,.ext x i,none⟩::os) e σ K=bO (K:=⟨fun v σ'=>aN T os (Env.put e d v) σ' K⟩) (aop (.ext x i) e σ):=by simp only [aN,iG,bO]
theorem aGV (k:Nat) (x:AOpd) (d:Option Nat) (os:List AOper) (e:Env) (σ:St) (K:Env→St→Prop):aN T (⟨d,.len k x,none⟩::os) e σ K=bO (K:=⟨fun v σ'=>aN T os (Env.put e d v) σ' K⟩) (aop (.len k x) e σ):=by simp only [aN,iG,bO]
theorem VH (n b:Nat) (x y:AOpd) (d:Option Nat) (os:List AOper) (e:Env) (σ:St) (K:Env→St→Prop):aN T (⟨d,.append n b x y,none⟩::os) e σ K=bO (K:=⟨fun v σ'=>aN T os (Env.put e d v) σ' K⟩) (aop (.append n b x y) e σ):=by simp only [aN,iG,bO]
theorem Y9 (n b:Nat) (x y:AOpd) (d:Option Nat) (os:List AOper) (e:Env) (σ:St) (K:Env→St→Prop):aN T (⟨d,.apref n b x y,none⟩::os) e σ K=bO (K:=⟨fun v σ'=>aN T os (Env.put e d v) σ' K⟩) (aop (.apref n b x y) e σ):=by simp only [aN,iG,bO]
theorem aDK (n:Nat) (x y:AOpd) (d:Option Nat) (os:List AOper) (e:Env) (σ:St) (K:Env→St→Prop):aN T (⟨d,.copy n x y,none⟩::os) e σ K=bO (K:=⟨fun v σ'=>aN T os (Env.put e d v) σ' K⟩) (aop (.copy n x y) e σ):=by simp only [aN,iG,bO]
theorem aGG (xs:List AOpd) (d:Option Nat) (os:List AOper) (e:Env) (σ:St) (K:Env→St→Prop):aN T (⟨d,.min xs,none⟩::os) e σ K=bO (K:=⟨fun v σ'=>aN T os (Env.put e d v) σ' K⟩) (aop (.min xs) e σ):=by simp only [aN,iG,bO]
theorem aFV (xs:List AOpd) (d:Option Nat) (os:List AOper) (e:Env) (σ:St) (K:Env→St→Prop):aN T (⟨d,.max xs,none⟩::os) e σ K=bO (K:=⟨fun v σ'=>aN T os (Env.put e d v) σ' K⟩) (aop (.max xs) e σ):=by simp only [aN,iG,bO]
theorem R1 (x:AOpd) (d:Option Nat) (os:List AOper) (e:Env) (σ:St) (K:Env→St→Prop):aN T (⟨d,.srange x,none⟩::os) e σ K=bO (K:=⟨fun v σ'=>aN T os (Env.put e d v) σ' K⟩) (aop (.srange x) e σ):=by simp only [aN,iG,bO]
theorem X5 (x:AOpd) (d:Option Nat) (os:List AOper) (e:Env) (σ:St) (K:Env→St→Prop):aN T (⟨d,.snext x,none⟩::os) e σ K=bO (K:=⟨fun v σ'=>aN T os (Env.put e d v) σ' K⟩) (aop (.snext x) e σ):=by simp only [aN,iG,bO]
theorem aE9 (f:AOpd) (xs:List AOpd) (d:Option Nat) (os:List AOper) (e:Env) (σ:St) (K:Env→St→Prop):aN T (⟨d,.call f xs,none⟩::os) e σ K=cK (K:=⟨fun v σ'=>aN T os (Env.put e d v) σ' K⟩) T (f.ev e) (evs e xs) σ:=by simp only [aN,iG,oB,cK]
theorem YP (b:Bool) (A B:HP Prop):bB (.bool b) (A:=A) (B:=B)=zW (A:=A) (B:=B) b:=by cases b<;>simp [bB,C4,zW]
theorem R4 (b:Bool) (A B:HP Prop):bG (.bool b) true (A:=A) (B:=B)=zW (A:=A) (B:=B) b:=by cases b<;>simp [bG,pH,zW]
theorem SQ (b:Bool) (A B:HP Prop):bG (.bool b) false (A:=A) (B:=B)=zW (A:=B) (B:=A) b:=by cases b<;>simp [bG,pH,zW]
theorem S0 (w:Bool) (A:HP Prop) (B:Prop):bG (.tuple []) w (A:=A) (B:=⟨B⟩)=B:=by simp [bG,pH]
theorem X2 (d:Option Nat) (q:AOp) (t:Nat) (want:Bool) (os:List AOper) (e:Env) (σ:St) (K:Env→St→Prop):aN T (⟨d,q,some (t,want)⟩::os) e σ K =
  bG (A:=⟨aN T (⟨d,q,none⟩::os) e σ K⟩) (B:=⟨aN T os (Env.put e d (.tuple [])) σ K⟩) (Env.get e t) want:=by simp only [aN,bG]
theorem aHT (ds:List ADOper) (e:Env) (σ:St) (K:KJ):wp T (.dreg ds) e σ K=rK (K:=⟨K⟩) T (.dreg ds) e σ:=by simp only [wp,rK]
theorem NE {ds:List ADOper} {e:Env} {σ:St} {K:KJ} (h:wpD T ds e (σ++eN ds) σ.length [σ++eN ds] [] fun e σ=>K none e σ):rK (K:=⟨K⟩) T (.dreg ds) e σ:=.dreg (mG h fun e σ hk=>hk)
theorem aGY (e:Env) (σ:St) (next:Nat) (hist:List St) (reads:List ARead) (K:Env→St→Prop):wpD T [] e σ next hist reads K=(rQ reads hist∧K e σ):=by simp only [wpD]
theorem aFC (f:AOpd) (xs:List AOpd) (d:Option Nat) (lo hi:Nat) (ds:List ADOper) (e:Env) (σ:St) (next:Nat) (hist:List St) (reads:List ARead) (K:Env→St→Prop) :
  wpD T (⟨⟨d,.call f xs,none⟩,lo,hi⟩::ds) e σ next hist reads K=cD (K:=⟨fun v σ'=>wpD T ds (Env.put e d v) σ' next (hist++[σ']) reads K⟩) T (f.ev e) (evs e xs) σ:=by simp only [wpD,oB,cD]
theorem Y3 (z:List AV) (d:Option Nat) (lo hi:Nat) (ds:List ADOper) (e:Env) (σ:St) (next:Nat) (hist:List St) (reads:List ARead) (K:Env→St→Prop) :
  wpD T (⟨⟨d,.alloc z,none⟩,lo,hi⟩::ds) e σ next hist reads K=wpD T ds (Env.put e d (.ptr next 0)) σ (next+1) hist reads K:=by simp only [wpD]
def vC (lo hi:Nat) (q:AOp) (e:Env) (v:AV):List St→Nat→Prop
 |[],_=>True
 |s::ss,j=>(if lo≤j∧j≤hi then aop q e s=some (v,s) else True)∧vC lo hi q e v ss (j+1)
theorem HX (r:ARead):∀ (ss:List St) (j:Nat),vC r.lo r.hi r.op r.env r.v ss j=EH r ss j
 |[],j=>by simp only [vC,EH]
 |s::ss,j=>by simp only [vC,EH,HX r ss (j+1)]
theorem TT (hist:List St):rQ [] hist=True:=by simp only [rQ]
theorem R0 (lo hi:Nat) (q:AOp) (e:Env) (v:AV) (rs:List ARead) (hist:List St):rQ (⟨lo,hi,q,e,v⟩::rs) hist=(vC lo hi q e v hist 0∧rQ rs hist):=by
 simp only [rQ];rw [←HX]
theorem W5 (lo hi:Nat) (q:AOp) (e:Env) (v:AV) (j:Nat):vC lo hi q e v [] j=True:=by simp only [vC]
theorem WU (lo hi:Nat) (q:AOp) (e:Env) (v:AV) (s:St) (ss:List St) (j:Nat):vC lo hi q e v (s::ss) j=((if lo≤j∧j≤hi then aop q e s=some (v,s) else True)∧vC lo hi q e v ss (j+1)):=by simp only [vC]
theorem aFO (x:AOpd) (d:Option Nat) (wl wh:Nat) (ds:List ADOper) (e:Env) (σ:St) (next:Nat) (hist:List St) (reads:List ARead) (K:Env→St→Prop):wpD T (⟨⟨d,.mov x,none⟩,wl,wh⟩::ds) e σ next hist reads K=bO (K:=⟨fun v σ'=>σ'=σ∧wpD T ds (Env.put e d v) σ next hist reads K⟩) (aop (.mov x) e σ):=by
 simp only [wpD,bO,AOp.acts,AOp.reads,if_true,Bool.false_eq_true,if_false]
theorem aDV (c x y:AOpd) (d:Option Nat) (wl wh:Nat) (ds:List ADOper) (e:Env) (σ:St) (next:Nat) (hist:List St) (reads:List ARead) (K:Env→St→Prop):wpD T (⟨⟨d,.pick c x y,none⟩,wl,wh⟩::ds) e σ next hist reads K=bO (K:=⟨fun v σ'=>σ'=σ∧wpD T ds (Env.put e d v) σ next hist reads K⟩) (aop (.pick c x y) e σ):=by
 simp only [wpD,bO,AOp.acts,AOp.reads,if_true,Bool.false_eq_true,if_false]
theorem aHI (n:Nat) (x:AOpd) (d:Option Nat) (wl wh:Nat) (ds:List ADOper) (e:Env) (σ:St) (next:Nat) (hist:List St) (reads:List ARead) (K:Env→St→Prop):wpD T (⟨⟨d,.box n x,none⟩,wl,wh⟩::ds) e σ next hist reads K=bO (K:=⟨fun v σ'=>wpD T ds (Env.put e d v) σ' next (hist++[σ']) reads K⟩) (aop (.box n x) e σ):=by
 simp only [wpD,bO,AOp.acts,AOp.reads,if_true,Bool.false_eq_true,if_false]
theorem XW (z:List AV) (ps:List (Nat×Nat×AOpd)) (d:Option Nat) (wl wh:Nat) (ds:List ADOper) (e:Env) (σ:St) (next:Nat) (hist:List St) (reads:List ARead) (K:Env→St→Prop):wpD T (⟨⟨d,.build z ps,none⟩,wl,wh⟩::ds) e σ next hist reads K=bO (K:=⟨fun v σ'=>σ'=σ∧wpD T ds (Env.put e d v) σ next hist reads K⟩) (aop (.build z ps) e σ):=by
 simp only [wpD,bO,AOp.acts,AOp.reads,if_true,Bool.false_eq_true,if_false]
theorem Y4 (n:Nat) (xs:List AOpd) (d:Option Nat) (wl wh:Nat) (ds:List ADOper) (e:Env) (σ:St) (next:Nat) (hist:List St) (reads:List ARead) (K:Env→St→Prop):wpD T (⟨⟨d,.mklit n xs,none⟩,wl,wh⟩::ds) e σ next hist reads K=bO (K:=⟨fun v σ'=>σ'=σ∧wpD T ds (Env.put e d v) σ next hist reads K⟩) (aop (.mklit n xs) e σ):=by
 simp only [wpD,bO,AOp.acts,AOp.reads,if_true,Bool.false_eq_true,if_false]
theorem WM (n:Nat) (xs:List AOpd) (d:Option Nat) (wl wh:Nat) (ds:List ADOper) (e:Env) (σ:St) (next:Nat) (hist:List St) (reads:List ARead) (K:Env→St→Prop):wpD T (⟨⟨d,.mkref n xs,none⟩,wl,wh⟩::ds) e σ next hist reads K=bO (K:=⟨fun v σ'=>wpD T ds (Env.put e d v) σ' next (hist++[σ']) reads K⟩) (aop (.mkref n xs) e σ):=by
 simp only [wpD,bO,AOp.acts,AOp.reads,if_true,Bool.false_eq_true,if_false]
theorem aDE (sh:Option Nat) (x:AOpd) (d:Option Nat) (wl wh:Nat) (ds:List ADOper) (e:Env) (σ:St) (next:Nat) (hist:List St) (reads:List ARead) (K:Env→St→Prop):wpD T (⟨⟨d,.load sh x,none⟩,wl,wh⟩::ds) e σ next hist reads K=bO (K:=⟨fun v σ'=>σ'=σ∧wpD T ds (Env.put e d v) σ next hist (⟨wl,wh,.load sh x,e,v⟩::reads) K⟩) (aop (.load sh x) e σ):=by
 simp only [wpD,bO,AOp.acts,AOp.reads,if_true,Bool.false_eq_true,if_false]
theorem X0 (n:Nat) (x y:AOpd) (d:Option Nat) (wl wh:Nat) (ds:List ADOper) (e:Env) (σ:St) (next:Nat) (hist:List St) (reads:List ARead) (K:Env→St→Prop):wpD T (⟨⟨d,.store n x y,none⟩,wl,wh⟩::ds) e σ next hist reads K=bO (K:=⟨fun v σ'=>wpD T ds (Env.put e d v) σ' next (hist++[σ']) reads K⟩) (aop (.store n x y) e σ):=by
 simp only [wpD,bO,AOp.acts,AOp.reads,if_true,Bool.false_eq_true,if_false]
theorem LH (x:AOpd) (d:Option Nat) (wl wh:Nat) (ds:List ADOper) (e:Env) (σ:St) (next:Nat) (hist:List St) (reads:List ARead) (K:Env→St→Prop):wpD T (⟨⟨d,.nilCheck x,none⟩,wl,wh⟩::ds) e σ next hist reads K=bO (K:=⟨fun v σ'=>σ'=σ∧wpD T ds (Env.put e d v) σ next hist reads K⟩) (aop (.nilCheck x) e σ):=by
 simp only [wpD,bO,AOp.acts,AOp.reads,if_true,Bool.false_eq_true,if_false]
theorem aFR (op:BinOp) (x y:AOpd) (d:Option Nat) (wl wh:Nat) (ds:List ADOper) (e:Env) (σ:St) (next:Nat) (hist:List St) (reads:List ARead) (K:Env→St→Prop):wpD T (⟨⟨d,.bin op x y,none⟩,wl,wh⟩::ds) e σ next hist reads K=bO (K:=⟨fun v σ'=>σ'=σ∧wpD T ds (Env.put e d v) σ next hist reads K⟩) (aop (.bin op x y) e σ):=by
 simp only [wpD,bO,AOp.acts,AOp.reads,if_true,Bool.false_eq_true,if_false]
theorem aHR (sh:EqTy) (n:Bool) (x y:AOpd) (d:Option Nat) (wl wh:Nat) (ds:List ADOper) (e:Env) (σ:St) (next:Nat) (hist:List St) (reads:List ARead) (K:Env→St→Prop):wpD T (⟨⟨d,.eql sh n x y,none⟩,wl,wh⟩::ds) e σ next hist reads K=bO (K:=⟨fun v σ'=>σ'=σ∧wpD T ds (Env.put e d v) σ next hist reads K⟩) (aop (.eql sh n x y) e σ):=by
 simp only [wpD,bO,AOp.acts,AOp.reads,if_true,Bool.false_eq_true,if_false]
theorem aG5 (x:AOpd) (d:Option Nat) (wl wh:Nat) (ds:List ADOper) (e:Env) (σ:St) (next:Nat) (hist:List St) (reads:List ARead) (K:Env→St→Prop):wpD T (⟨⟨d,.not x,none⟩,wl,wh⟩::ds) e σ next hist reads K=bO (K:=⟨fun v σ'=>σ'=σ∧wpD T ds (Env.put e d v) σ next hist reads K⟩) (aop (.not x) e σ):=by
 simp only [wpD,bO,AOp.acts,AOp.reads,if_true,Bool.false_eq_true,if_false]
theorem aG3 (x:AOpd) (d:Option Nat) (wl wh:Nat) (ds:List ADOper) (e:Env) (σ:St) (next:Nat) (hist:List St) (reads:List ARead) (K:Env→St→Prop):wpD T (⟨⟨d,.neg x,none⟩,wl,wh⟩::ds) e σ next hist reads K=bO (K:=⟨fun v σ'=>σ'=σ∧wpD T ds (Env.put e d v) σ next hist reads K⟩) (aop (.neg x) e σ):=by
 simp only [wpD,bO,AOp.acts,AOp.reads,if_true,Bool.false_eq_true,if_false]
theorem aEA (k:IntKind) (x:AOpd) (d:Option Nat) (wl wh:Nat) (ds:List ADOper) (e:Env) (σ:St) (next:Nat) (hist:List St) (reads:List ARead) (K:Env→St→Prop):wpD T (⟨⟨d,.conv k x,none⟩,wl,wh⟩::ds) e σ next hist reads K=bO (K:=⟨fun v σ'=>σ'=σ∧wpD T ds (Env.put e d v) σ next hist reads K⟩) (aop (.conv k x) e σ):=by
 simp only [wpD,bO,AOp.acts,AOp.reads,if_true,Bool.false_eq_true,if_false]
theorem ZN (f:FuncId) (xs ys:List AOpd) (d:Option Nat) (wl wh:Nat) (ds:List ADOper) (e:Env) (σ:St) (next:Nat) (hist:List St) (reads:List ARead) (K:Env→St→Prop):wpD T (⟨⟨d,.mkfun f xs ys,none⟩,wl,wh⟩::ds) e σ next hist reads K=bO (K:=⟨fun v σ'=>σ'=σ∧wpD T ds (Env.put e d v) σ next hist reads K⟩) (aop (.mkfun f xs ys) e σ):=by
 simp only [wpD,bO,AOp.acts,AOp.reads,if_true,Bool.false_eq_true,if_false]
theorem ZA  (d:Option Nat) (wl wh:Nat) (ds:List ADOper) (e:Env) (σ:St) (next:Nat) (hist:List St) (reads:List ARead) (K:Env→St→Prop):wpD T (⟨⟨d,.mkmap,none⟩,wl,wh⟩::ds) e σ next hist reads K=bO (K:=⟨fun v σ'=>wpD T ds (Env.put e d v) σ' next (hist++[σ']) reads K⟩) (aop (.mkmap) e σ):=by
 simp only [wpD,bO,AOp.acts,AOp.reads,if_true,Bool.false_eq_true,if_false]
theorem QN (z:List AV) (b:Nat) (x y:AOpd) (d:Option Nat) (wl wh:Nat) (ds:List ADOper) (e:Env) (σ:St) (next:Nat) (hist:List St) (reads:List ARead) (K:Env→St→Prop):wpD T (⟨⟨d,.mkslice z b x y,none⟩,wl,wh⟩::ds) e σ next hist reads K=bO (K:=⟨fun v σ'=>wpD T ds (Env.put e d v) σ' next (hist++[σ']) reads K⟩) (aop (.mkslice z b x y) e σ):=by
 simp only [wpD,bO,AOp.acts,AOp.reads,if_true,Bool.false_eq_true,if_false]
theorem R7 (n:Nat) (x:AOpd) (lo hi mx:Option AOpd) (d:Option Nat) (wl wh:Nat) (ds:List ADOper) (e:Env) (σ:St) (next:Nat) (hist:List St) (reads:List ARead) (K:Env→St→Prop):wpD T (⟨⟨d,.slicev n x lo hi mx,none⟩,wl,wh⟩::ds) e σ next hist reads K=bO (K:=⟨fun v σ'=>σ'=σ∧wpD T ds (Env.put e d v) σ next hist (⟨wl,wh,.slicev n x lo hi mx,e,v⟩::reads) K⟩) (aop (.slicev n x lo hi mx) e σ):=by
 simp only [wpD,bO,AOp.acts,AOp.reads,if_true,Bool.false_eq_true,if_false]
theorem T8 (n s:Nat) (x:AOpd) (lo hi:Option AOpd) (d:Option Nat) (wl wh:Nat) (ds:List ADOper) (e:Env) (σ:St) (next:Nat) (hist:List St) (reads:List ARead) (K:Env→St→Prop):wpD T (⟨⟨d,.slicea n s x lo hi,none⟩,wl,wh⟩::ds) e σ next hist reads K=bO (K:=⟨fun v σ'=>σ'=σ∧wpD T ds (Env.put e d v) σ next hist reads K⟩) (aop (.slicea n s x lo hi) e σ):=by
 simp only [wpD,bO,AOp.acts,AOp.reads,if_true,Bool.false_eq_true,if_false]
theorem WN (x:AOpd) (o:Nat) (d:Option Nat) (wl wh:Nat) (ds:List ADOper) (e:Env) (σ:St) (next:Nat) (hist:List St) (reads:List ARead) (K:Env→St→Prop):wpD T (⟨⟨d,.faddr x o,none⟩,wl,wh⟩::ds) e σ next hist reads K=bO (K:=⟨fun v σ'=>σ'=σ∧wpD T ds (Env.put e d v) σ next hist reads K⟩) (aop (.faddr x o) e σ):=by
 simp only [wpD,bO,AOp.acts,AOp.reads,if_true,Bool.false_eq_true,if_false]
theorem X1 (x:AOpd) (o:Nat) (sh:Option Nat) (d:Option Nat) (wl wh:Nat) (ds:List ADOper) (e:Env) (σ:St) (next:Nat) (hist:List St) (reads:List ARead) (K:Env→St→Prop):wpD T (⟨⟨d,.field x o sh,none⟩,wl,wh⟩::ds) e σ next hist reads K=bO (K:=⟨fun v σ'=>σ'=σ∧wpD T ds (Env.put e d v) σ next hist reads K⟩) (aop (.field x o sh) e σ):=by
 simp only [wpD,bO,AOp.acts,AOp.reads,if_true,Bool.false_eq_true,if_false]
theorem YL (a:Option Nat) (s:Nat) (x i:AOpd) (d:Option Nat) (wl wh:Nat) (ds:List ADOper) (e:Env) (σ:St) (next:Nat) (hist:List St) (reads:List ARead) (K:Env→St→Prop):wpD T (⟨⟨d,.iaddr a s x i,none⟩,wl,wh⟩::ds) e σ next hist reads K=bO (K:=⟨fun v σ'=>σ'=σ∧wpD T ds (Env.put e d v) σ next hist reads K⟩) (aop (.iaddr a s x i) e σ):=by
 simp only [wpD,bO,AOp.acts,AOp.reads,if_true,Bool.false_eq_true,if_false]
theorem YF (n s:Nat) (sh:Option Nat) (x i:AOpd) (d:Option Nat) (wl wh:Nat) (ds:List ADOper) (e:Env) (σ:St) (next:Nat) (hist:List St) (reads:List ARead) (K:Env→St→Prop):wpD T (⟨⟨d,.index n s sh x i,none⟩,wl,wh⟩::ds) e σ next hist reads K=bO (K:=⟨fun v σ'=>σ'=σ∧wpD T ds (Env.put e d v) σ next hist reads K⟩) (aop (.index n s sh x i) e σ):=by
 simp only [wpD,bO,AOp.acts,AOp.reads,if_true,Bool.false_eq_true,if_false]
theorem SB (x i:AOpd) (d:Option Nat) (wl wh:Nat) (ds:List ADOper) (e:Env) (σ:St) (next:Nat) (hist:List St) (reads:List ARead) (K:Env→St→Prop):wpD T (⟨⟨d,.sindex x i,none⟩,wl,wh⟩::ds) e σ next hist reads K=bO (K:=⟨fun v σ'=>σ'=σ∧wpD T ds (Env.put e d v) σ next hist reads K⟩) (aop (.sindex x i) e σ):=by
 simp only [wpD,bO,AOp.acts,AOp.reads,if_true,Bool.false_eq_true,if_false]
theorem RK (sh:EqTy) (ok:Bool) (z:AV) (m k:AOpd) (d:Option Nat) (wl wh:Nat) (ds:List ADOper) (e:Env) (σ:St) (next:Nat) (hist:List St) (reads:List ARead) (K:Env→St→Prop):wpD T (⟨⟨d,.lookup sh ok z m k,none⟩,wl,wh⟩::ds) e σ next hist reads K=bO (K:=⟨fun v σ'=>σ'=σ∧wpD T ds (Env.put e d v) σ next hist (⟨wl,wh,.lookup sh ok z m k,e,v⟩::reads) K⟩) (aop (.lookup sh ok z m k) e σ):=by
 simp only [wpD,bO,AOp.acts,AOp.reads,if_true,Bool.false_eq_true,if_false]
theorem S7 (sh:EqTy) (m k v:AOpd) (d:Option Nat) (wl wh:Nat) (ds:List ADOper) (e:Env) (σ:St) (next:Nat) (hist:List St) (reads:List ARead) (K:Env→St→Prop):wpD T (⟨⟨d,.mapset sh m k v,none⟩,wl,wh⟩::ds) e σ next hist reads K=bO (K:=⟨fun v σ'=>wpD T ds (Env.put e d v) σ' next (hist++[σ']) reads K⟩) (aop (.mapset sh m k v) e σ):=by
 simp only [wpD,bO,AOp.acts,AOp.reads,if_true,Bool.false_eq_true,if_false]
theorem aGX (x:AOpd) (i:Nat) (d:Option Nat) (wl wh:Nat) (ds:List ADOper) (e:Env) (σ:St) (next:Nat) (hist:List St) (reads:List ARead) (K:Env→St→Prop):wpD T (⟨⟨d,.ext x i,none⟩,wl,wh⟩::ds) e σ next hist reads K=bO (K:=⟨fun v σ'=>σ'=σ∧wpD T ds (Env.put e d v) σ next hist reads K⟩) (aop (.ext x i) e σ):=by
 simp only [wpD,bO,AOp.acts,AOp.reads,if_true,Bool.false_eq_true,if_false]
theorem aGR (k:Nat) (x:AOpd) (d:Option Nat) (wl wh:Nat) (ds:List ADOper) (e:Env) (σ:St) (next:Nat) (hist:List St) (reads:List ARead) (K:Env→St→Prop):wpD T (⟨⟨d,.len k x,none⟩,wl,wh⟩::ds) e σ next hist reads K=bO (K:=⟨fun v σ'=>σ'=σ∧wpD T ds (Env.put e d v) σ next hist (⟨wl,wh,.len k x,e,v⟩::reads) K⟩) (aop (.len k x) e σ):=by
 simp only [wpD,bO,AOp.acts,AOp.reads,if_true,Bool.false_eq_true,if_false]
theorem TA (n b:Nat) (x y:AOpd) (d:Option Nat) (wl wh:Nat) (ds:List ADOper) (e:Env) (σ:St) (next:Nat) (hist:List St) (reads:List ARead) (K:Env→St→Prop):wpD T (⟨⟨d,.append n b x y,none⟩,wl,wh⟩::ds) e σ next hist reads K=bO (K:=⟨fun v σ'=>wpD T ds (Env.put e d v) σ' next (hist++[σ']) reads K⟩) (aop (.append n b x y) e σ):=by
 simp only [wpD,bO,AOp.acts,AOp.reads,if_true,Bool.false_eq_true,if_false]
theorem XQ (n b:Nat) (x y:AOpd) (d:Option Nat) (wl wh:Nat) (ds:List ADOper) (e:Env) (σ:St) (next:Nat) (hist:List St) (reads:List ARead) (K:Env→St→Prop):wpD T (⟨⟨d,.apref n b x y,none⟩,wl,wh⟩::ds) e σ next hist reads K=bO (K:=⟨fun v σ'=>wpD T ds (Env.put e d v) σ' next (hist++[σ']) reads K⟩) (aop (.apref n b x y) e σ):=by
 simp only [wpD,bO,AOp.acts,AOp.reads,if_true,Bool.false_eq_true,if_false]
theorem aFK (n:Nat) (x y:AOpd) (d:Option Nat) (wl wh:Nat) (ds:List ADOper) (e:Env) (σ:St) (next:Nat) (hist:List St) (reads:List ARead) (K:Env→St→Prop):wpD T (⟨⟨d,.copy n x y,none⟩,wl,wh⟩::ds) e σ next hist reads K=bO (K:=⟨fun v σ'=>wpD T ds (Env.put e d v) σ' next (hist++[σ']) reads K⟩) (aop (.copy n x y) e σ):=by
 simp only [wpD,bO,AOp.acts,AOp.reads,if_true,Bool.false_eq_true,if_false]
theorem aGB (xs:List AOpd) (d:Option Nat) (wl wh:Nat) (ds:List ADOper) (e:Env) (σ:St) (next:Nat) (hist:List St) (reads:List ARead) (K:Env→St→Prop):wpD T (⟨⟨d,.min xs,none⟩,wl,wh⟩::ds) e σ next hist reads K=bO (K:=⟨fun v σ'=>σ'=σ∧wpD T ds (Env.put e d v) σ next hist reads K⟩) (aop (.min xs) e σ):=by
 simp only [wpD,bO,AOp.acts,AOp.reads,if_true,Bool.false_eq_true,if_false]
theorem aHJ (xs:List AOpd) (d:Option Nat) (wl wh:Nat) (ds:List ADOper) (e:Env) (σ:St) (next:Nat) (hist:List St) (reads:List ARead) (K:Env→St→Prop):wpD T (⟨⟨d,.max xs,none⟩,wl,wh⟩::ds) e σ next hist reads K=bO (K:=⟨fun v σ'=>σ'=σ∧wpD T ds (Env.put e d v) σ next hist reads K⟩) (aop (.max xs) e σ):=by
 simp only [wpD,bO,AOp.acts,AOp.reads,if_true,Bool.false_eq_true,if_false]
theorem V5 (x:AOpd) (d:Option Nat) (wl wh:Nat) (ds:List ADOper) (e:Env) (σ:St) (next:Nat) (hist:List St) (reads:List ARead) (K:Env→St→Prop):wpD T (⟨⟨d,.srange x,none⟩,wl,wh⟩::ds) e σ next hist reads K=bO (K:=⟨fun v σ'=>wpD T ds (Env.put e d v) σ' next (hist++[σ']) reads K⟩) (aop (.srange x) e σ):=by
 simp only [wpD,bO,AOp.acts,AOp.reads,if_true,Bool.false_eq_true,if_false]
theorem YQ (x:AOpd) (d:Option Nat) (wl wh:Nat) (ds:List ADOper) (e:Env) (σ:St) (next:Nat) (hist:List St) (reads:List ARead) (K:Env→St→Prop):wpD T (⟨⟨d,.snext x,none⟩,wl,wh⟩::ds) e σ next hist reads K=bO (K:=⟨fun v σ'=>wpD T ds (Env.put e d v) σ' next (hist++[σ']) reads K⟩) (aop (.snext x) e σ):=by
 simp only [wpD,bO,AOp.acts,AOp.reads,if_true,Bool.false_eq_true,if_false]
theorem UB (f:AOpd) (xs:List AOpd) (t:Nat) (want:Bool) (d:Option Nat) (wl wh:Nat) (ds:List ADOper) (e:Env) (σ:St) (next:Nat) (hist:List St) (reads:List ARead) (K:Env→St→Prop):wpD T (⟨⟨d,.call f xs,some (t,want)⟩,wl,wh⟩::ds) e σ next hist reads K =
  bG (A:=⟨wpD T (⟨⟨d,.call f xs,none⟩,wl,wh⟩::ds) e σ next hist reads K⟩) (B:=⟨wpD T ds (Env.put e d (.tuple [])) σ next (hist++[σ]) reads K⟩) (Env.get e t) want:=by simp only [wpD,bG]
theorem aHY (x:AOpd) (t:Nat) (want:Bool) (d:Option Nat) (wl wh:Nat) (ds:List ADOper) (e:Env) (σ:St) (next:Nat) (hist:List St) (reads:List ARead) (K:Env→St→Prop):wpD T (⟨⟨d,.mov x,some (t,want)⟩,wl,wh⟩::ds) e σ next hist reads K =
  bG (A:=⟨wpD T (⟨⟨d,.mov x,none⟩,wl,wh⟩::ds) e σ next hist reads K⟩) (B:=⟨wpD T ds (Env.put e d (.tuple [])) σ next hist reads K⟩) (Env.get e t) want:=by
 simp only [wpD,bG,AOp.allocs,AOp.acts,true_and,if_true,Bool.false_eq_true,if_false]
theorem aEH (c x y:AOpd) (t:Nat) (want:Bool) (d:Option Nat) (wl wh:Nat) (ds:List ADOper) (e:Env) (σ:St) (next:Nat) (hist:List St) (reads:List ARead) (K:Env→St→Prop):wpD T (⟨⟨d,.pick c x y,some (t,want)⟩,wl,wh⟩::ds) e σ next hist reads K =
  bG (A:=⟨wpD T (⟨⟨d,.pick c x y,none⟩,wl,wh⟩::ds) e σ next hist reads K⟩) (B:=⟨wpD T ds (Env.put e d (.tuple [])) σ next hist reads K⟩) (Env.get e t) want:=by
 simp only [wpD,bG,AOp.allocs,AOp.acts,true_and,if_true,Bool.false_eq_true,if_false]
theorem aGK (n:Nat) (x:AOpd) (t:Nat) (want:Bool) (d:Option Nat) (wl wh:Nat) (ds:List ADOper) (e:Env) (σ:St) (next:Nat) (hist:List St) (reads:List ARead) (K:Env→St→Prop):wpD T (⟨⟨d,.box n x,some (t,want)⟩,wl,wh⟩::ds) e σ next hist reads K =
  bG (A:=⟨wpD T (⟨⟨d,.box n x,none⟩,wl,wh⟩::ds) e σ next hist reads K⟩) (B:=⟨wpD T ds (Env.put e d (.tuple [])) σ next (hist++[σ]) reads K⟩) (Env.get e t) want:=by
 simp only [wpD,bG,AOp.allocs,AOp.acts,true_and,if_true,Bool.false_eq_true,if_false]
theorem ZE (z:List AV) (ps:List (Nat×Nat×AOpd)) (t:Nat) (want:Bool) (d:Option Nat) (wl wh:Nat) (ds:List ADOper) (e:Env) (σ:St) (next:Nat) (hist:List St) (reads:List ARead) (K:Env→St→Prop):wpD T (⟨⟨d,.build z ps,some (t,want)⟩,wl,wh⟩::ds) e σ next hist reads K =
  bG (A:=⟨wpD T (⟨⟨d,.build z ps,none⟩,wl,wh⟩::ds) e σ next hist reads K⟩) (B:=⟨wpD T ds (Env.put e d (.tuple [])) σ next hist reads K⟩) (Env.get e t) want:=by
 simp only [wpD,bG,AOp.allocs,AOp.acts,true_and,if_true,Bool.false_eq_true,if_false]
theorem Y6 (n:Nat) (xs:List AOpd) (t:Nat) (want:Bool) (d:Option Nat) (wl wh:Nat) (ds:List ADOper) (e:Env) (σ:St) (next:Nat) (hist:List St) (reads:List ARead) (K:Env→St→Prop):wpD T (⟨⟨d,.mklit n xs,some (t,want)⟩,wl,wh⟩::ds) e σ next hist reads K =
  bG (A:=⟨wpD T (⟨⟨d,.mklit n xs,none⟩,wl,wh⟩::ds) e σ next hist reads K⟩) (B:=⟨wpD T ds (Env.put e d (.tuple [])) σ next hist reads K⟩) (Env.get e t) want:=by
 simp only [wpD,bG,AOp.allocs,AOp.acts,true_and,if_true,Bool.false_eq_true,if_false]
theorem ZR (n:Nat) (xs:List AOpd) (t:Nat) (want:Bool) (d:Option Nat) (wl wh:Nat) (ds:List ADOper) (e:Env) (σ:St) (next:Nat) (hist:List St) (reads:List ARead) (K:Env→St→Prop):wpD T (⟨⟨d,.mkref n xs,some (t,want)⟩,wl,wh⟩::ds) e σ next hist reads K =
  bG (A:=⟨wpD T (⟨⟨d,.mkref n xs,none⟩,wl,wh⟩::ds) e σ next hist reads K⟩) (B:=⟨wpD T ds (Env.put e d (.tuple [])) σ next (hist++[σ]) reads K⟩) (Env.get e t) want:=by
 simp only [wpD,bG,AOp.allocs,AOp.acts,true_and,if_true,Bool.false_eq_true,if_false]
theorem aD1 (sh:Option Nat) (x:AOpd) (t:Nat) (want:Bool) (d:Option Nat) (wl wh:Nat) (ds:List ADOper) (e:Env) (σ:St) (next:Nat) (hist:List St) (reads:List ARead) (K:Env→St→Prop):wpD T (⟨⟨d,.load sh x,some (t,want)⟩,wl,wh⟩::ds) e σ next hist reads K =
  bG (A:=⟨wpD T (⟨⟨d,.load sh x,none⟩,wl,wh⟩::ds) e σ next hist reads K⟩) (B:=⟨wpD T ds (Env.put e d (.tuple [])) σ next hist reads K⟩) (Env.get e t) want:=by
 simp only [wpD,bG,AOp.allocs,AOp.acts,true_and,if_true,Bool.false_eq_true,if_false]
theorem ZF (n:Nat) (x y:AOpd) (t:Nat) (want:Bool) (d:Option Nat) (wl wh:Nat) (ds:List ADOper) (e:Env) (σ:St) (next:Nat) (hist:List St) (reads:List ARead) (K:Env→St→Prop):wpD T (⟨⟨d,.store n x y,some (t,want)⟩,wl,wh⟩::ds) e σ next hist reads K =
  bG (A:=⟨wpD T (⟨⟨d,.store n x y,none⟩,wl,wh⟩::ds) e σ next hist reads K⟩) (B:=⟨wpD T ds (Env.put e d (.tuple [])) σ next (hist++[σ]) reads K⟩) (Env.get e t) want:=by
 simp only [wpD,bG,AOp.allocs,AOp.acts,true_and,if_true,Bool.false_eq_true,if_false]
theorem MJ (x:AOpd) (t:Nat) (want:Bool) (d:Option Nat) (wl wh:Nat) (ds:List ADOper) (e:Env) (σ:St) (next:Nat) (hist:List St) (reads:List ARead) (K:Env→St→Prop):wpD T (⟨⟨d,.nilCheck x,some (t,want)⟩,wl,wh⟩::ds) e σ next hist reads K =
  bG (A:=⟨wpD T (⟨⟨d,.nilCheck x,none⟩,wl,wh⟩::ds) e σ next hist reads K⟩) (B:=⟨wpD T ds (Env.put e d (.tuple [])) σ next hist reads K⟩) (Env.get e t) want:=by
 simp only [wpD,bG,AOp.allocs,AOp.acts,true_and,if_true,Bool.false_eq_true,if_false]
theorem aG8 (op:BinOp) (x y:AOpd) (t:Nat) (want:Bool) (d:Option Nat) (wl wh:Nat) (ds:List ADOper) (e:Env) (σ:St) (next:Nat) (hist:List St) (reads:List ARead) (K:Env→St→Prop):wpD T (⟨⟨d,.bin op x y,some (t,want)⟩,wl,wh⟩::ds) e σ next hist reads K =
  bG (A:=⟨wpD T (⟨⟨d,.bin op x y,none⟩,wl,wh⟩::ds) e σ next hist reads K⟩) (B:=⟨wpD T ds (Env.put e d (.tuple [])) σ next hist reads K⟩) (Env.get e t) want:=by
 simp only [wpD,bG,AOp.allocs,AOp.acts,true_and,if_true,Bool.false_eq_true,if_false]
theorem aG2 (sh:EqTy) (n:Bool) (x y:AOpd) (t:Nat) (want:Bool) (d:Option Nat) (wl wh:Nat) (ds:List ADOper) (e:Env) (σ:St) (next:Nat) (hist:List St) (reads:List ARead) (K:Env→St→Prop):wpD T (⟨⟨d,.eql sh n x y,some (t,want)⟩,wl,wh⟩::ds) e σ next hist reads K =
  bG (A:=⟨wpD T (⟨⟨d,.eql sh n x y,none⟩,wl,wh⟩::ds) e σ next hist reads K⟩) (B:=⟨wpD T ds (Env.put e d (.tuple [])) σ next hist reads K⟩) (Env.get e t) want:=by
 simp only [wpD,bG,AOp.allocs,AOp.acts,true_and,if_true,Bool.false_eq_true,if_false]
theorem aF6 (x:AOpd) (t:Nat) (want:Bool) (d:Option Nat) (wl wh:Nat) (ds:List ADOper) (e:Env) (σ:St) (next:Nat) (hist:List St) (reads:List ARead) (K:Env→St→Prop):wpD T (⟨⟨d,.not x,some (t,want)⟩,wl,wh⟩::ds) e σ next hist reads K =
  bG (A:=⟨wpD T (⟨⟨d,.not x,none⟩,wl,wh⟩::ds) e σ next hist reads K⟩) (B:=⟨wpD T ds (Env.put e d (.tuple [])) σ next hist reads K⟩) (Env.get e t) want:=by
 simp only [wpD,bG,AOp.allocs,AOp.acts,true_and,if_true,Bool.false_eq_true,if_false]
theorem aI2 (x:AOpd) (t:Nat) (want:Bool) (d:Option Nat) (wl wh:Nat) (ds:List ADOper) (e:Env) (σ:St) (next:Nat) (hist:List St) (reads:List ARead) (K:Env→St→Prop):wpD T (⟨⟨d,.neg x,some (t,want)⟩,wl,wh⟩::ds) e σ next hist reads K =
  bG (A:=⟨wpD T (⟨⟨d,.neg x,none⟩,wl,wh⟩::ds) e σ next hist reads K⟩) (B:=⟨wpD T ds (Env.put e d (.tuple [])) σ next hist reads K⟩) (Env.get e t) want:=by
 simp only [wpD,bG,AOp.allocs,AOp.acts,true_and,if_true,Bool.false_eq_true,if_false]
theorem aEJ (k:IntKind) (x:AOpd) (t:Nat) (want:Bool) (d:Option Nat) (wl wh:Nat) (ds:List ADOper) (e:Env) (σ:St) (next:Nat) (hist:List St) (reads:List ARead) (K:Env→St→Prop):wpD T (⟨⟨d,.conv k x,some (t,want)⟩,wl,wh⟩::ds) e σ next hist reads K =
  bG (A:=⟨wpD T (⟨⟨d,.conv k x,none⟩,wl,wh⟩::ds) e σ next hist reads K⟩) (B:=⟨wpD T ds (Env.put e d (.tuple [])) σ next hist reads K⟩) (Env.get e t) want:=by
 simp only [wpD,bG,AOp.allocs,AOp.acts,true_and,if_true,Bool.false_eq_true,if_false]
theorem WW (f:FuncId) (xs ys:List AOpd) (t:Nat) (want:Bool) (d:Option Nat) (wl wh:Nat) (ds:List ADOper) (e:Env) (σ:St) (next:Nat) (hist:List St) (reads:List ARead) (K:Env→St→Prop):wpD T (⟨⟨d,.mkfun f xs ys,some (t,want)⟩,wl,wh⟩::ds) e σ next hist reads K =
  bG (A:=⟨wpD T (⟨⟨d,.mkfun f xs ys,none⟩,wl,wh⟩::ds) e σ next hist reads K⟩) (B:=⟨wpD T ds (Env.put e d (.tuple [])) σ next hist reads K⟩) (Env.get e t) want:=by
 simp only [wpD,bG,AOp.allocs,AOp.acts,true_and,if_true,Bool.false_eq_true,if_false]
theorem XB  (t:Nat) (want:Bool) (d:Option Nat) (wl wh:Nat) (ds:List ADOper) (e:Env) (σ:St) (next:Nat) (hist:List St) (reads:List ARead) (K:Env→St→Prop):wpD T (⟨⟨d,.mkmap,some (t,want)⟩,wl,wh⟩::ds) e σ next hist reads K =
  bG (A:=⟨wpD T (⟨⟨d,.mkmap,none⟩,wl,wh⟩::ds) e σ next hist reads K⟩) (B:=⟨wpD T ds (Env.put e d (.tuple [])) σ next (hist++[σ]) reads K⟩) (Env.get e t) want:=by
 simp only [wpD,bG,AOp.allocs,AOp.acts,true_and,if_true,Bool.false_eq_true,if_false]
theorem PB (z:List AV) (b:Nat) (x y:AOpd) (t:Nat) (want:Bool) (d:Option Nat) (wl wh:Nat) (ds:List ADOper) (e:Env) (σ:St) (next:Nat) (hist:List St) (reads:List ARead) (K:Env→St→Prop):wpD T (⟨⟨d,.mkslice z b x y,some (t,want)⟩,wl,wh⟩::ds) e σ next hist reads K =
  bG (A:=⟨wpD T (⟨⟨d,.mkslice z b x y,none⟩,wl,wh⟩::ds) e σ next hist reads K⟩) (B:=⟨wpD T ds (Env.put e d (.tuple [])) σ next (hist++[σ]) reads K⟩) (Env.get e t) want:=by
 simp only [wpD,bG,AOp.allocs,AOp.acts,true_and,if_true,Bool.false_eq_true,if_false]
theorem UZ (n:Nat) (x:AOpd) (lo hi mx:Option AOpd) (t:Nat) (want:Bool) (d:Option Nat) (wl wh:Nat) (ds:List ADOper) (e:Env) (σ:St) (next:Nat) (hist:List St) (reads:List ARead) (K:Env→St→Prop):wpD T (⟨⟨d,.slicev n x lo hi mx,some (t,want)⟩,wl,wh⟩::ds) e σ next hist reads K =
  bG (A:=⟨wpD T (⟨⟨d,.slicev n x lo hi mx,none⟩,wl,wh⟩::ds) e σ next hist reads K⟩) (B:=⟨wpD T ds (Env.put e d (.tuple [])) σ next hist reads K⟩) (Env.get e t) want:=by
 simp only [wpD,bG,AOp.allocs,AOp.acts,true_and,if_true,Bool.false_eq_true,if_false]
theorem V9 (n s:Nat) (x:AOpd) (lo hi:Option AOpd) (t:Nat) (want:Bool) (d:Option Nat) (wl wh:Nat) (ds:List ADOper) (e:Env) (σ:St) (next:Nat) (hist:List St) (reads:List ARead) (K:Env→St→Prop):wpD T (⟨⟨d,.slicea n s x lo hi,some (t,want)⟩,wl,wh⟩::ds) e σ next hist reads K =
  bG (A:=⟨wpD T (⟨⟨d,.slicea n s x lo hi,none⟩,wl,wh⟩::ds) e σ next hist reads K⟩) (B:=⟨wpD T ds (Env.put e d (.tuple [])) σ next hist reads K⟩) (Env.get e t) want:=by
 simp only [wpD,bG,AOp.allocs,AOp.acts,true_and,if_true,Bool.false_eq_true,if_false]
theorem ZM (x:AOpd) (o:Nat) (t:Nat) (want:Bool) (d:Option Nat) (wl wh:Nat) (ds:List ADOper) (e:Env) (σ:St) (next:Nat) (hist:List St) (reads:List ARead) (K:Env→St→Prop):wpD T (⟨⟨d,.faddr x o,some (t,want)⟩,wl,wh⟩::ds) e σ next hist reads K =
  bG (A:=⟨wpD T (⟨⟨d,.faddr x o,none⟩,wl,wh⟩::ds) e σ next hist reads K⟩) (B:=⟨wpD T ds (Env.put e d (.tuple [])) σ next hist reads K⟩) (Env.get e t) want:=by
 simp only [wpD,bG,AOp.allocs,AOp.acts,true_and,if_true,Bool.false_eq_true,if_false]
theorem ZU (x:AOpd) (o:Nat) (sh:Option Nat) (t:Nat) (want:Bool) (d:Option Nat) (wl wh:Nat) (ds:List ADOper) (e:Env) (σ:St) (next:Nat) (hist:List St) (reads:List ARead) (K:Env→St→Prop):wpD T (⟨⟨d,.field x o sh,some (t,want)⟩,wl,wh⟩::ds) e σ next hist reads K =
  bG (A:=⟨wpD T (⟨⟨d,.field x o sh,none⟩,wl,wh⟩::ds) e σ next hist reads K⟩) (B:=⟨wpD T ds (Env.put e d (.tuple [])) σ next hist reads K⟩) (Env.get e t) want:=by
 simp only [wpD,bG,AOp.allocs,AOp.acts,true_and,if_true,Bool.false_eq_true,if_false]
theorem WV (a:Option Nat) (s:Nat) (x i:AOpd) (t:Nat) (want:Bool) (d:Option Nat) (wl wh:Nat) (ds:List ADOper) (e:Env) (σ:St) (next:Nat) (hist:List St) (reads:List ARead) (K:Env→St→Prop):wpD T (⟨⟨d,.iaddr a s x i,some (t,want)⟩,wl,wh⟩::ds) e σ next hist reads K =
  bG (A:=⟨wpD T (⟨⟨d,.iaddr a s x i,none⟩,wl,wh⟩::ds) e σ next hist reads K⟩) (B:=⟨wpD T ds (Env.put e d (.tuple [])) σ next hist reads K⟩) (Env.get e t) want:=by
 simp only [wpD,bG,AOp.allocs,AOp.acts,true_and,if_true,Bool.false_eq_true,if_false]
theorem X9 (n s:Nat) (sh:Option Nat) (x i:AOpd) (t:Nat) (want:Bool) (d:Option Nat) (wl wh:Nat) (ds:List ADOper) (e:Env) (σ:St) (next:Nat) (hist:List St) (reads:List ARead) (K:Env→St→Prop):wpD T (⟨⟨d,.index n s sh x i,some (t,want)⟩,wl,wh⟩::ds) e σ next hist reads K =
  bG (A:=⟨wpD T (⟨⟨d,.index n s sh x i,none⟩,wl,wh⟩::ds) e σ next hist reads K⟩) (B:=⟨wpD T ds (Env.put e d (.tuple [])) σ next hist reads K⟩) (Env.get e t) want:=by
 simp only [wpD,bG,AOp.allocs,AOp.acts,true_and,if_true,Bool.false_eq_true,if_false]
theorem VS (x i:AOpd) (t:Nat) (want:Bool) (d:Option Nat) (wl wh:Nat) (ds:List ADOper) (e:Env) (σ:St) (next:Nat) (hist:List St) (reads:List ARead) (K:Env→St→Prop):wpD T (⟨⟨d,.sindex x i,some (t,want)⟩,wl,wh⟩::ds) e σ next hist reads K =
  bG (A:=⟨wpD T (⟨⟨d,.sindex x i,none⟩,wl,wh⟩::ds) e σ next hist reads K⟩) (B:=⟨wpD T ds (Env.put e d (.tuple [])) σ next hist reads K⟩) (Env.get e t) want:=by
 simp only [wpD,bG,AOp.allocs,AOp.acts,true_and,if_true,Bool.false_eq_true,if_false]
theorem V6 (sh:EqTy) (ok:Bool) (z:AV) (m k:AOpd) (t:Nat) (want:Bool) (d:Option Nat) (wl wh:Nat) (ds:List ADOper) (e:Env) (σ:St) (next:Nat) (hist:List St) (reads:List ARead) (K:Env→St→Prop):wpD T (⟨⟨d,.lookup sh ok z m k,some (t,want)⟩,wl,wh⟩::ds) e σ next hist reads K =
  bG (A:=⟨wpD T (⟨⟨d,.lookup sh ok z m k,none⟩,wl,wh⟩::ds) e σ next hist reads K⟩) (B:=⟨wpD T ds (Env.put e d (.tuple [])) σ next hist reads K⟩) (Env.get e t) want:=by
 simp only [wpD,bG,AOp.allocs,AOp.acts,true_and,if_true,Bool.false_eq_true,if_false]
theorem V0 (sh:EqTy) (m k v:AOpd) (t:Nat) (want:Bool) (d:Option Nat) (wl wh:Nat) (ds:List ADOper) (e:Env) (σ:St) (next:Nat) (hist:List St) (reads:List ARead) (K:Env→St→Prop):wpD T (⟨⟨d,.mapset sh m k v,some (t,want)⟩,wl,wh⟩::ds) e σ next hist reads K =
  bG (A:=⟨wpD T (⟨⟨d,.mapset sh m k v,none⟩,wl,wh⟩::ds) e σ next hist reads K⟩) (B:=⟨wpD T ds (Env.put e d (.tuple [])) σ next (hist++[σ]) reads K⟩) (Env.get e t) want:=by
 simp only [wpD,bG,AOp.allocs,AOp.acts,true_and,if_true,Bool.false_eq_true,if_false]
theorem aHO (x:AOpd) (i:Nat) (t:Nat) (want:Bool) (d:Option Nat) (wl wh:Nat) (ds:List ADOper) (e:Env) (σ:St) (next:Nat) (hist:List St) (reads:List ARead) (K:Env→St→Prop):wpD T (⟨⟨d,.ext x i,some (t,want)⟩,wl,wh⟩::ds) e σ next hist reads K =
  bG (A:=⟨wpD T (⟨⟨d,.ext x i,none⟩,wl,wh⟩::ds) e σ next hist reads K⟩) (B:=⟨wpD T ds (Env.put e d (.tuple [])) σ next hist reads K⟩) (Env.get e t) want:=by
 simp only [wpD,bG,AOp.allocs,AOp.acts,true_and,if_true,Bool.false_eq_true,if_false]
theorem aH4 (k:Nat) (x:AOpd) (t:Nat) (want:Bool) (d:Option Nat) (wl wh:Nat) (ds:List ADOper) (e:Env) (σ:St) (next:Nat) (hist:List St) (reads:List ARead) (K:Env→St→Prop):wpD T (⟨⟨d,.len k x,some (t,want)⟩,wl,wh⟩::ds) e σ next hist reads K =
  bG (A:=⟨wpD T (⟨⟨d,.len k x,none⟩,wl,wh⟩::ds) e σ next hist reads K⟩) (B:=⟨wpD T ds (Env.put e d (.tuple [])) σ next hist reads K⟩) (Env.get e t) want:=by
 simp only [wpD,bG,AOp.allocs,AOp.acts,true_and,if_true,Bool.false_eq_true,if_false]
theorem TY (n b:Nat) (x y:AOpd) (t:Nat) (want:Bool) (d:Option Nat) (wl wh:Nat) (ds:List ADOper) (e:Env) (σ:St) (next:Nat) (hist:List St) (reads:List ARead) (K:Env→St→Prop):wpD T (⟨⟨d,.append n b x y,some (t,want)⟩,wl,wh⟩::ds) e σ next hist reads K =
  bG (A:=⟨wpD T (⟨⟨d,.append n b x y,none⟩,wl,wh⟩::ds) e σ next hist reads K⟩) (B:=⟨wpD T ds (Env.put e d (.tuple [])) σ next (hist++[σ]) reads K⟩) (Env.get e t) want:=by
 simp only [wpD,bG,AOp.allocs,AOp.acts,true_and,if_true,Bool.false_eq_true,if_false]
theorem WJ (n b:Nat) (x y:AOpd) (t:Nat) (want:Bool) (d:Option Nat) (wl wh:Nat) (ds:List ADOper) (e:Env) (σ:St) (next:Nat) (hist:List St) (reads:List ARead) (K:Env→St→Prop):wpD T (⟨⟨d,.apref n b x y,some (t,want)⟩,wl,wh⟩::ds) e σ next hist reads K =
  bG (A:=⟨wpD T (⟨⟨d,.apref n b x y,none⟩,wl,wh⟩::ds) e σ next hist reads K⟩) (B:=⟨wpD T ds (Env.put e d (.tuple [])) σ next (hist++[σ]) reads K⟩) (Env.get e t) want:=by
 simp only [wpD,bG,AOp.allocs,AOp.acts,true_and,if_true,Bool.false_eq_true,if_false]
theorem aEC (n:Nat) (x y:AOpd) (t:Nat) (want:Bool) (d:Option Nat) (wl wh:Nat) (ds:List ADOper) (e:Env) (σ:St) (next:Nat) (hist:List St) (reads:List ARead) (K:Env→St→Prop):wpD T (⟨⟨d,.copy n x y,some (t,want)⟩,wl,wh⟩::ds) e σ next hist reads K =
  bG (A:=⟨wpD T (⟨⟨d,.copy n x y,none⟩,wl,wh⟩::ds) e σ next hist reads K⟩) (B:=⟨wpD T ds (Env.put e d (.tuple [])) σ next (hist++[σ]) reads K⟩) (Env.get e t) want:=by
 simp only [wpD,bG,AOp.allocs,AOp.acts,true_and,if_true,Bool.false_eq_true,if_false]
theorem aI1 (xs:List AOpd) (t:Nat) (want:Bool) (d:Option Nat) (wl wh:Nat) (ds:List ADOper) (e:Env) (σ:St) (next:Nat) (hist:List St) (reads:List ARead) (K:Env→St→Prop):wpD T (⟨⟨d,.min xs,some (t,want)⟩,wl,wh⟩::ds) e σ next hist reads K =
  bG (A:=⟨wpD T (⟨⟨d,.min xs,none⟩,wl,wh⟩::ds) e σ next hist reads K⟩) (B:=⟨wpD T ds (Env.put e d (.tuple [])) σ next hist reads K⟩) (Env.get e t) want:=by
 simp only [wpD,bG,AOp.allocs,AOp.acts,true_and,if_true,Bool.false_eq_true,if_false]
theorem aHP (xs:List AOpd) (t:Nat) (want:Bool) (d:Option Nat) (wl wh:Nat) (ds:List ADOper) (e:Env) (σ:St) (next:Nat) (hist:List St) (reads:List ARead) (K:Env→St→Prop):wpD T (⟨⟨d,.max xs,some (t,want)⟩,wl,wh⟩::ds) e σ next hist reads K =
  bG (A:=⟨wpD T (⟨⟨d,.max xs,none⟩,wl,wh⟩::ds) e σ next hist reads K⟩) (B:=⟨wpD T ds (Env.put e d (.tuple [])) σ next hist reads K⟩) (Env.get e t) want:=by
 simp only [wpD,bG,AOp.allocs,AOp.acts,true_and,if_true,Bool.false_eq_true,if_false]
theorem TW (x:AOpd) (t:Nat) (want:Bool) (d:Option Nat) (wl wh:Nat) (ds:List ADOper) (e:Env) (σ:St) (next:Nat) (hist:List St) (reads:List ARead) (K:Env→St→Prop):wpD T (⟨⟨d,.srange x,some (t,want)⟩,wl,wh⟩::ds) e σ next hist reads K =
  bG (A:=⟨wpD T (⟨⟨d,.srange x,none⟩,wl,wh⟩::ds) e σ next hist reads K⟩) (B:=⟨wpD T ds (Env.put e d (.tuple [])) σ next (hist++[σ]) reads K⟩) (Env.get e t) want:=by
 simp only [wpD,bG,AOp.allocs,AOp.acts,true_and,if_true,Bool.false_eq_true,if_false]
theorem ZO (x:AOpd) (t:Nat) (want:Bool) (d:Option Nat) (wl wh:Nat) (ds:List ADOper) (e:Env) (σ:St) (next:Nat) (hist:List St) (reads:List ARead) (K:Env→St→Prop):wpD T (⟨⟨d,.snext x,some (t,want)⟩,wl,wh⟩::ds) e σ next hist reads K =
  bG (A:=⟨wpD T (⟨⟨d,.snext x,none⟩,wl,wh⟩::ds) e σ next hist reads K⟩) (B:=⟨wpD T ds (Env.put e d (.tuple [])) σ next (hist++[σ]) reads K⟩) (Env.get e t) want:=by
 simp only [wpD,bG,AOp.allocs,AOp.acts,true_and,if_true,Bool.false_eq_true,if_false]
end Go.Am
namespace Go.Am
variable {T:FuncId→Option AFunc}
structure KeepS (σ σ':St) (lo:Nat):Prop where
 len:σ.length≤σ'.length
 low:∀ i,i<lo→i<σ.length→σ'[i]? = σ[i]?
 loops:∀ (i:Nat) (st:LS) (pe:Option AJump) (env:Env) (ps:List Nat) (a b:ACode),i<σ.length→σ'[i]? = some (.loop st pe env ps a b)→∃ st' pe',σ[i]? = some (.loop st' pe' env ps a b)
theorem KeepS.refl (σ:St) (lo:Nat):KeepS σ σ lo:=⟨Nat.le_refl _,fun _ _ _=>rfl,fun i st pe env ps a b _ h=>⟨st,pe,h⟩⟩
theorem KeepS.weak {σ σ':St} {lo l:Nat} (h:KeepS σ σ' lo) (hl:l≤lo):KeepS σ σ' l:=⟨h.len,fun i hi=>h.low i (by omega),h.loops⟩
theorem KeepS.trans {σ σ1 σ2:St} {l1 l2:Nat} (h:KeepS σ σ1 l1) (k:KeepS σ1 σ2 l2):KeepS σ σ2 (Nat.min l1 l2) where
 len:=Nat.le_trans h.len k.len
 low i hi hlt:=by
  have h1:i<l1:=Nat.lt_of_lt_of_le hi (Nat.min_le_left _ _)
  have h2:i<l2:=Nat.lt_of_lt_of_le hi (Nat.min_le_right _ _)
  rw [k.low i h2 (Nat.lt_of_lt_of_le hlt h.len),h.low i h1 hlt]
 loops i st pe env ps a b hlt e:=by
  obtain ⟨st1,pe1,e1⟩:=k.loops i st pe env ps a b (Nat.lt_of_lt_of_le hlt h.len) e
  exact h.loops i st1 pe1 env ps a b hlt e1
theorem KeepS.app (σ:St) (τ:St) (lo:Nat):KeepS σ (σ++τ) lo :=
 ⟨by simp,fun i _ hi=>List.getElem?_append_left hi,fun i st pe env ps a b hi e=>⟨st,pe,by rw [←List.getElem?_append_left (l₂:=τ) hi];exact e⟩⟩
theorem KeepS.set {σ:St} {i:Nat} {x:ABlk} (hx:∀ st pe env ps a b,x≠.loop st pe env ps a b):KeepS σ (σ.set i x) i where
 len:=by simp
 low j hj _:=List.getElem?_set_ne (by omega)
 loops j st pe env ps a b hj e:=by
  by_cases h:i=j
  ·subst h
   rw [List.getElem?_set_self hj] at e
   cases e
   exact absurd rfl (hx _ _ _ _ _ _)
  ·rw [List.getElem?_set_ne h] at e
   exact ⟨st,pe,e⟩
end Go.Am
namespace Go.Am
variable {T:FuncId→Option AFunc}
theorem KeepS.step {σ σ1 σ2:St} {l lo lo':Nat} (h:KeepS σ σ1 l) (k:lo'≤Nat.min lo l∧KeepS σ1 σ2 lo'):lo'≤lo∧KeepS σ σ2 lo':=by
 have h1:lo'≤l:=Nat.le_trans k.1 (Nat.min_le_right _ _)
 refine ⟨Nat.le_trans k.1 (Nat.min_le_left _ _),(h.trans k.2).weak ?_⟩
 exact Nat.le_min.2 ⟨h1,Nat.le_refl _⟩
end Go.Am
namespace Go.Am
variable {T:FuncId→Option AFunc}
theorem aFD (e:Env):evs e []=[]:=by simp only [evs]
theorem aDZ (e:Env) (x:AOpd) (xs:List AOpd):evs e (x::xs)=x.ev e::evs e xs:=by simp only [evs]
theorem aEE (e:Env):ovs e none=none:=by simp only [ovs]
theorem aFJ (e:Env) (x:AOpd):ovs e (some x)=some (x.ev e):=by simp only [ovs]
theorem aBW {α β:Type} (f:α→β) (a:α):Option.map f (some a)=some (f a):=by simp
theorem UN {α β:Type} (f:α→Option β) (a:α):(some a).bind f=f a:=by simp
theorem aDP (i o:Nat):J0 (.ptr i o)=some (.ptr i o):=by simp only [J0]
theorem aC7 (xs:List AV) (i o:Nat) (t:Option Nat):J0 (.lptr xs i o t)=some (.lptr xs i o t):=by simp only [J0]
theorem aCY (f:FuncId) (a b:List AV):J0 (.func f a b)=some (.func f a b):=by simp only [J0]
theorem XD (o:Nat) (sh:Option Nat) (cs:List AV):GG o sh (.agg cs)=gS sh cs o:=by simp only [GG]
theorem aC9 (k k':IntKind) (n:Int):NN k (.int k' n)=some (.int k (k.wrap n)):=by simp only [NN]
theorem aIZ (k:IntKind) (n:Int):ZP (.int k n)=some (.int k (k.wrap (0-n))):=by simp only [ZP]
theorem YE (x y:AV):DX (.bool true) x y=some x:=by simp only [DX]
theorem YM (x y:AV):DX (.bool false) x y=some y:=by simp only [DX]
theorem aHC (s:ByteArray):XA (.str s)=some s:=by simp only [XA]
theorem aAC (k:IntKind) (a b:Int):iH .i (.int k a) (.int k b)=some (a==b):=by simp [iH]
theorem aFW (a b:Bool):iH .b (.bool a) (.bool b)=some (a==b):=by simp [iH]
theorem aIS (a b:ByteArray):iH .s (.str a) (.str b)=some (a.toList==b.toList):=by simp [iH]
def Z1:Option Bool→Option Bool→Option Bool
 |some p,some q=>some (p&&q)
 |_,_=>none
theorem SI (p q:Bool):Z1 (some p) (some q)=some (p&&q):=by simp only [Z1]
theorem aED:bT [] [] []=some true:=by simp [bT]
theorem RX (k:SK) (ks:List SK) (a b:AV) (x y:List AV):bT (k::ks) (a::x) (b::y)=Z1 (iH k a b) (bT ks x y):=by
 simp only [bT,Z1];cases iH k a b<;>cases bT ks x y<;>rfl
theorem aGD (k:SK) (x y:AV):DO (.one k) false x y=(iH k x y).map .bool:=by
 simp only [DO,k6];cases iH k x y<;>simp
theorem aHK (k:SK) (x y:AV):DO (.one k) true x y=(iH k x y).map fun b=>.bool !b:=by
 simp only [DO,k6];cases iH k x y<;>simp
theorem aHL (ks:List SK) (x y:List AV):DO (.agg ks) false (.agg x) (.agg y)=(bT ks x y).map .bool:=by
 simp only [DO,k6];cases bT ks x y<;>simp
theorem aI4 (ks:List SK) (x y:List AV):DO (.agg ks) true (.agg x) (.agg y)=(bT ks x y).map fun b=>.bool !b:=by
 simp only [DO,k6];cases bT ks x y<;>simp
theorem aH0 (k:IntKind) (a b:Int):gE .add (.int k a) (.int k b)=some (.int k (k.wrap (a+b))):=by simp [gE,lT]
theorem aGP (k:IntKind) (a b:Int):gE .sub (.int k a) (.int k b)=some (.int k (k.wrap (a-b))):=by simp [gE,lT]
theorem aF3 (k:IntKind) (a b:Int):gE .mul (.int k a) (.int k b)=some (.int k (k.wrap (a*b))):=by simp [gE,lT]
theorem aGS (k:IntKind) (a b:Int):gE .lss (.int k a) (.int k b)=some (.bool (decide (a<b))):=by simp [gE,lT]
theorem aGZ (k:IntKind) (a b:Int):gE .leq (.int k a) (.int k b)=some (.bool (decide (a≤b))):=by simp [gE,lT]
theorem aGF (k:IntKind) (a b:Int):gE .gtr (.int k a) (.int k b)=some (.bool (decide (b<a))):=by simp [gE,lT]
theorem aIB (k:IntKind) (a b:Int):gE .geq (.int k a) (.int k b)=some (.bool (decide (b≤a))):=by simp [gE,lT]
theorem dU {x:Int} (h:-9223372036854775808≤x∧x≤9223372036854775807):IntKind.i64.wrap x=x:=by
 simp only [IntKind.wrap,IntKind.signed,IntKind.bits]
 first
  |(rw [Int.bmod_eq_of_le]<;>omega)
  |(simp;omega)
theorem aF2 (σ:St) (xs:List AV) (f:Bool) (t:Option Nat):kL 1 σ (.lit xs f t)=some xs.length:=by simp only [kL]
theorem aEY (σ:St) (s:ByteArray):kL 0 σ (.str s)=some s.size:=by simp only [kL]
theorem aE3 (σ:St) (id off len sz:Nat):kL 1 σ (.ref id off len sz)=some len:=by simp only [kL]
theorem aIR (sh:Option Nat) (σ:St) (id off:Nat):lU sh σ (.ptr id off)=(aK σ id).bind fun cs=>gS sh cs off:=by
 simp only [lU];cases aK σ id<;>simp
theorem aCX (sh:Option Nat) (σ:St) (xs:List AV) (i off:Nat) (t:Option Nat):lU sh σ (.lptr xs i off t)=(xs[i]?).bind fun x=>gS sh x.cells off:=by
 simp only [lU];cases xs[i]?<;>simp
theorem U8 (b:List AV) (τ:St):aK (.cells b::τ) 0=some b:=by simp [aK]
theorem sI (b:ABlk) (τ:St) (k:Nat):aK (b::τ) (k+1)=aK τ k:=by simp [aK]
theorem sW (σ τ:St) (k:Nat):aK (σ++τ) (σ.length+k)=aK τ k:=by simp only [aK,sX]
theorem kF (σ τ:St):aK (σ++τ) σ.length=aK τ 0:=sW σ τ 0
theorem aFU (cs:List AV) (off:Nat):gS none cs off=cs[off]?:=by simp [gS]
theorem aF7 (n:Nat) (cs:List AV) (off:Nat):gS (some n) cs off=if off+n≤cs.length then some (.agg ((cs.drop off).take n)) else none:=by simp [gS]
theorem YJ (n:Nat) (σ:St) (id off:Nat) (v:AV):pY n σ (.ptr id off) v=(rS n v).bind fun us=>(aK σ id).bind fun cs=>(iB cs off us).map fun cs'=>σ.set id (.cells cs'):=by
 simp only [pY,rS]
 split
 ·simp only [Option.bind_some]
  cases aK σ id with
  |none=>simp
  |some cs=>simp only [Option.bind_some];cases iB cs off v.cells<;>simp
 ·simp
theorem aG4 (cs us:List AV) (off:Nat):iB cs off us=if off+us.length≤cs.length then some (cs.take off++us++cs.drop (off+us.length)) else none:=by simp only [iB]
def cO (n:Nat) (v:AV):Bool:=v.cells.length==n&&v.cells.all (·.cell)
theorem XG (n:Nat) (v:AV):rS n v=if cO n v=true then some v.cells else none:=by unfold rS cO;rfl
theorem V8 (k:IntKind) (n:Int):cO 1 (.int k n)=true:=by simp [cO,AV.cells,AV.cell]
theorem SM (b:Bool):cO 1 (.bool b)=true:=by simp [cO,AV.cells,AV.cell]
theorem aBD (b:ByteArray):cO 1 (.str b)=true:=by simp [cO,AV.cells,AV.cell]
theorem aAW (xs:List AV) (f:Bool) (t:Option Nat):cO 1 (.lit xs f t)=true:=by simp [cO,AV.cells,AV.cell]
theorem aIC (a b c d:Nat):cO 1 (.ref a b c d)=true:=by simp [cO,AV.cells,AV.cell]
theorem aFP (a b:Nat):cO 1 (.ptr a b)=true:=by simp [cO,AV.cells,AV.cell]
theorem aER (f:FuncId) (a b:List AV):cO 1 (.func f a b)=true:=by simp [cO,AV.cells,AV.cell]
theorem aIJ (i:Nat):cO 1 (.map i)=true:=by simp [cO,AV.cells,AV.cell]
theorem UT:cO 1 .nilPtr=true:=by simp [cO,AV.cells,AV.cell]
theorem PV:cO 1 .nilFunc=true:=by simp [cO,AV.cells,AV.cell]
def cJ:List AV→Bool
 |[]=>true
 |v::vs=>v.cell&&cJ vs
theorem aH2 (n:Nat) (cs:List AV):cO n (.agg cs)=(cs.length==n&&cJ cs):=by
 simp only [cO,AV.cells]
 congr 1
 induction cs with
 |nil=>rfl
 |cons c cs ih=>simp only [List.all_cons,cJ,ih]
theorem C_0:cJ []=true:=by simp only [cJ]
theorem aET (k:IntKind) (n:Int) (cs:List AV):cJ (.int k n::cs)=cJ cs:=by simp [cJ,AV.cell]
theorem YV (b:Bool) (cs:List AV):cJ (.bool b::cs)=cJ cs:=by simp [cJ,AV.cell]
theorem aEW (b:ByteArray) (cs:List AV):cJ (.str b::cs)=cJ cs:=by simp [cJ,AV.cell]
theorem aE2 (xs:List AV) (f:Bool) (t:Option Nat) (cs:List AV):cJ (.lit xs f t::cs)=cJ cs:=by simp [cJ,AV.cell]
theorem aCT (a b c d:Nat) (cs:List AV):cJ (.ref a b c d::cs)=cJ cs:=by simp [cJ,AV.cell]
theorem aEK (a b:Nat) (cs:List AV):cJ (.ptr a b::cs)=cJ cs:=by simp [cJ,AV.cell]
theorem WO (f:FuncId) (a b:List AV) (cs:List AV):cJ (.func f a b::cs)=cJ cs:=by simp [cJ,AV.cell]
theorem aD9 (i:Nat) (cs:List AV):cJ (.map i::cs)=cJ cs:=by simp [cJ,AV.cell]
theorem QW  (cs:List AV):cJ (.nilPtr::cs)=cJ cs:=by simp [cJ,AV.cell]
theorem M1  (cs:List AV):cJ (.nilFunc::cs)=cJ cs:=by simp [cJ,AV.cell]
theorem aDU {α:Type} (enc:α→AV) (l:List α) (h:∀ x,(enc x).cell=true):cJ (l.map enc)=true:=by
 induction l with
 |nil=>rfl
 |cons x l ih=>simp [cJ,h,ih]
theorem aIH (k:IntKind) (n:Int):(AV.int k n).cells=[.int k n]:=by simp [AV.cells]
theorem aCW (b:Bool):(AV.bool b).cells=[.bool b]:=by simp [AV.cells]
theorem aFT (b:ByteArray):(AV.str b).cells=[.str b]:=by simp [AV.cells]
theorem aH6 (xs:List AV) (f:Bool) (t:Option Nat):(AV.lit xs f t).cells=[.lit xs f t]:=by simp [AV.cells]
theorem aID (a b c d:Nat):(AV.ref a b c d).cells=[.ref a b c d]:=by simp [AV.cells]
theorem aHD (a b:Nat):(AV.ptr a b).cells=[.ptr a b]:=by simp [AV.cells]
theorem aDC (f:FuncId) (a b:List AV):(AV.func f a b).cells=[.func f a b]:=by simp [AV.cells]
theorem aG7 (i:Nat):(AV.map i).cells=[.map i]:=by simp [AV.cells]
theorem aI0 (cs:List AV):(AV.agg cs).cells=cs:=by simp [AV.cells]
theorem TP:AV.nilPtr.cells=[.nilPtr]:=by simp [AV.cells]
theorem PA:AV.nilFunc.cells=[.nilFunc]:=by simp [AV.cells]
theorem aHA (e:Env) (cs:List AV):cX e cs []=some cs:=by simp only [cX]
theorem aF5 (e:Env) (cs:List AV) (off n:Nat) (x:AOpd) (rest:List (Nat×Nat×AOpd)) :
  cX e cs ((off,n,x)::rest)=((rS n (x.ev e)).bind fun us=>iB cs off us).bind fun cs=>cX e cs rest:=aII e cs off n x rest
theorem U6 (n:Nat):aM n []=true:=by simp [aM]
theorem SA (n:Nat) (x:AV) (xs:List AV):aM n (x::xs)=(cO n x&&aM n xs):=by simp [aM,cO]
theorem rR {α:Type} (n:Nat) (enc:α→AV) (l:List α) (h:∀ x,cO n (enc x)=true):aM n (l.map enc)=true:=by
 induction l with
 |nil=>exact U6 n
 |cons x l ih=>rw [List.map_cons,SA,h,ih];rfl
theorem aIQ (n:Nat) (xs:List AV):O2 n xs=if aM n xs=true then some (.lit xs true none) else none:=by simp only [O2]
def DE (sz:Nat) (xs:List AV) (j:Int) (t:Option Nat):Option AV:=(xs[j.toNat]?).bind fun y=>if 0≤j∧y.cells.length=sz then some (.lptr xs j.toNat 0 t) else none
theorem aGH (sz:Nat) (xs:List AV) (f:Bool) (t:Option Nat) (k:IntKind) (j:Int):qF none sz (.lit xs f t) (.int k j)=DE sz xs j t:=by
 simp only [qF,gT,DE];cases xs[j.toNat]?<;>simp
theorem aIU (n sz id off:Nat) (k:IntKind) (j:Int):qF (some n) sz (.ptr id off) (.int k j)=if 0≤j∧j<n then some (.ptr id (off+j.toNat*sz)) else none:=by simp only [qF,gT]
theorem aCQ (n sz q off:Nat) (xs:List AV) (t:Option Nat) (k:IntKind) (j:Int):qF (some n) sz (.lptr xs q off t) (.int k j)=if 0≤j∧j<n then some (.lptr xs q (off+j.toNat*sz) t) else none:=by simp only [qF,gT]
theorem aH5 (sz id off len sz':Nat) (k:IntKind) (j:Int):qF none sz (.ref id off len sz') (.int k j)=if 0≤j∧j<len∧sz'=sz then some (.ptr id (off+j.toNat*sz)) else none:=by simp only [qF,gT]
def I0q (sz b:Nat) (xs ys:List AV):Prop:=aM sz xs=true∧aM sz ys=true∧(xs.length+ys.length)*b≤room∧xs.length+ys.length≤room
theorem rD {sz b:Nat} {σ:St} {xs ys:List AV} {tk t:Option Nat} {f:Bool} (h:I0q sz b xs ys) (h0:ys.length≠0) :
  dD sz b σ (.lit xs true tk) (.lit ys f t)=some (.lit (xs++ys) false (some σ.length),σ++[.tok sz (xs.length+ys.length) true]):=by
 obtain ⟨h1,h2,h3,h4⟩:=h
 simp [dD,kO,wJ,h0,h1,h2,h3,h4]
theorem uG {sz b:Nat} {σ:St} {xs ys:List AV} {t:Nat} {tk:Option Nat} {f ex:Bool} (h:I0q sz b xs ys) (h0:ys.length≠0) (ht:σ[t]? = some (.tok sz xs.length ex)) :
  dD sz b σ (.lit xs false (some t)) (.lit ys f tk)=some (.lit (xs++ys) false (some t),σ.set t (.tok sz (xs.length+ys.length) true)):=by
 obtain ⟨h1,h2,h3,h4⟩:=h
 simp [dD,kO,wJ,h0,h1,h2,h3,h4,ht]
theorem HE {sz b:Nat} {σ:St} {xs:List AV} {tk t:Option Nat} {f f':Bool}:dD sz b σ (.lit xs f' tk) (.lit [] f t)=some (.lit xs f' tk,σ):=by
 simp [dD,kO]
def cQ (σ:St) (m d:Nat) (v:AV):Option AV:=(snap σ m d v).map clr
def dN (σ:St) (m d:Nat) (vs:List AV):Option (List AV):=(snaps σ m d vs).map clrs
theorem S3 (σ:St) (m d:Nat) (k:IntKind) (n:Int):cQ σ m d (.int k n)=some (.int k n):=by simp [cQ,snap,clr]
theorem GO (σ:St) (m d:Nat) (b:Bool):cQ σ m d (.bool b)=some (.bool b):=by simp [cQ,snap,clr]
theorem VT (σ:St) (m d:Nat) (b:ByteArray):cQ σ m d (.str b)=some (.str b):=by simp [cQ,snap,clr]
theorem RR (σ:St) (m d:Nat):cQ σ m d .nilPtr=some .nilPtr:=by simp [cQ,snap,clr]
theorem P2 (σ:St) (m d:Nat):cQ σ m d .nilFunc=some .nilFunc:=by simp [cQ,snap,clr]
theorem aAF (σ:St) (m d id off:Nat):cQ σ m d (.ptr id off)=if id<m then some (.ptr id off) else none:=by
 simp only [cQ,snap];split<;>simp [clr]
theorem aHS (σ:St) (m d id:Nat):cQ σ m d (.map id)=if id<m then some (.map id) else none:=by
 simp only [cQ,snap];split<;>simp [clr]
theorem NV (σ:St) (m d:Nat):dN σ m d []=some []:=by simp [dN,snaps,clrs]
theorem BT (σ:St) (m d:Nat) (v:AV) (vs:List AV):dN σ m d (v::vs)=(cQ σ m d v).bind fun a=>(dN σ m d vs).map (a::·):=by
 simp only [dN,cQ,snaps];cases snap σ m d v<;>cases snaps σ m d vs<;>simp [clrs]
theorem XM (σ:St) (m d:Nat) (vs:List AV):cQ σ m d (.tuple vs)=(dN σ m d vs).map .tuple:=by
 simp only [dN,cQ,snap];cases snaps σ m d vs<;>simp [clr]
theorem S6 (σ:St) (m d:Nat) (vs:List AV):cQ σ m d (.agg vs)=(dN σ m d vs).map .agg:=by
 simp only [dN,cQ,snap];cases snaps σ m d vs<;>simp [clr]
theorem LK (σ:St) (m d:Nat) (vs:List AV) (f:Bool):cQ σ m d (.lit vs f none)=(dN σ m d vs).map fun ys=>.lit ys false none:=by
 simp only [dN,cQ,snap];cases snaps σ m d vs<;>simp [clr]
theorem aCJ (σ:St) (m d t:Nat) (vs:List AV) (f:Bool):cQ σ m d (.lit vs f (some t))=(dN σ m d vs).map fun ys=>if t<m then .lit ys f (some t) else .lit ys false none:=by
 simp only [dN,cQ,snap];cases snaps σ m d vs<;>by_cases h:t<m<;>simp [clr,h,Option.filter]
theorem GS (σ:St) (m d:Nat) (f:FuncId) (a b:List AV):cQ σ m d (.func f a b)=(dN σ m d a).bind fun x=>(dN σ m d b).map fun y=>.func f x y:=by
 simp only [dN,cQ,snap];cases snaps σ m d a<;>cases snaps σ m d b<;>simp [clr]
theorem NA (σ:St) (m d id off len sz:Nat):cQ σ m (d+1) (.ref id off len sz) =
  if id<m then some (.ref id off len sz) else (kO σ (.ref id off len sz)).bind fun xs=>if (decide (0<sz)&&aM sz xs)=true then (dN σ m d xs).map fun ys=>.lit ys false none else none:=by
 simp only [cQ,snap]
 split
 ·simp [clr]
 ·cases kO σ (.ref id off len sz) with
  |none=>simp
  |some xs =>
   simp only [Option.bind_some]
   split
   ·simp only [dN];cases snaps σ m d xs<;>simp [clr]
   ·simp
def mD (v:AV):Prop:=okV 0 v∧clr v=v
def n8 (vs:List AV):Prop:=okVs 0 vs∧clrs vs=vs
mutual
theorem snap_ok0 (σ:St) (m d:Nat):∀ (v:AV),okV 0 v→snap σ m d v=some v
 |.func f first cap,h=>by simp only [okV] at h;simp only [snap,snaps_ok0 σ m d first h.1,snaps_ok0 σ m d cap h.2]
 |.yield _,h|.ptr _ _,h|.ref _ _ _ _,h|.map _,h=>by simp [okV] at h
 |.lptr xs i o tk,h=>by
  simp only [okV] at h
  cases tk with
  |none=>simp [snap,snaps_ok0 σ m d xs h.2]
  |some t=>exact absurd (h.1 t rfl) (by omega)
 |.lit xs f tk,h=>by
  simp only [okV] at h
  cases tk with
  |none=>simp [snap,snaps_ok0 σ m d xs h.2]
  |some t=>exact absurd (h.1 t rfl) (by omega)
 |.agg cs,h=>by simp only [okV] at h;simp [snap,snaps_ok0 σ m d cs h]
 |.tuple cs,h=>by simp only [okV] at h;simp [snap,snaps_ok0 σ m d cs h]
 |.undef,_|.int _ _,_|.bool _,_|.str _,_|.nilFunc,_|.nilPtr,_|.nilMap,_=>by simp [snap]
theorem snaps_ok0 (σ:St) (m d:Nat):∀ (vs:List AV),okVs 0 vs→snaps σ m d vs=some vs
 |[],_=>by simp [snaps]
 |v::vs,h=>by simp only [okVs] at h;simp [snaps,snap_ok0 σ m d v h.1,snaps_ok0 σ m d vs h.2]
end
theorem aDI {v:AV} (h:mD v) (σ:St) (m d:Nat):cQ σ m d v=some v:=by simp [cQ,snap_ok0 σ m d v h.1,h.2]
theorem mH {vs:List AV} (h:n8 vs) (σ:St) (m d:Nat):dN σ m d vs=some vs:=by simp [dN,snaps_ok0 σ m d vs h.1,h.2]
theorem dC (k:IntKind) (n:Int):mD (.int k n):=⟨trivial,rfl⟩
theorem uV (b:Bool):mD (.bool b):=⟨trivial,rfl⟩
theorem xG (b:ByteArray):mD (.str b):=⟨trivial,rfl⟩
theorem bP:n8 []:=⟨trivial,rfl⟩
theorem bJ {v:AV} {vs:List AV} (h:mD v) (hs:n8 vs):n8 (v::vs):=⟨⟨h.1,hs.1⟩,by simp [clrs,h.2,hs.2]⟩
theorem j5 {vs:List AV} (h:n8 vs):mD (.agg vs):=⟨h.1,by simp [clr,h.2]⟩
theorem M4 {vs:List AV} (h:n8 vs):mD (.tuple vs):=⟨h.1,by simp [clr,h.2]⟩
theorem I6 {vs:List AV} (h:n8 vs):mD (.lit vs false none):=⟨⟨(fun t e=>by cases e),h.1⟩,by simp [clr,h.2]⟩
theorem bL {α:Type} {enc:α→AV} (h:∀ x,mD (enc x)) (l:List α):n8 (l.map enc):=by
 induction l with
 |nil=>exact bP
 |cons x l ih=>exact bJ (h x) ih
theorem fJ {α:Type} {enc:α→AV} (h:∀ x,mD (enc x)) (l:List α):mD (.lit (l.map enc) false none):=I6 (bL h l)
def KQ (o:Option AV) (σ:St) (v:AV):Prop:=∃ v0,o=some v0∧cQ σ 0 20 v0=some v
@[congr] theorem aDX {o o':Option AV} {σ σ':St} {v:AV} (h:o=o') (h2:σ=σ'):KQ o σ v=KQ o' σ' v:=by rw [h,h2]
theorem aD8 (v0:AV) (σ:St) (v:AV):KQ (some v0) σ v=(cQ σ 0 20 v0=some v):=by simp [KQ]
def PZ (rs:List ARes) (v:AV):KJ:=fun j e σ=>(j=none∨j=some .ret)∧KQ (iU rs e σ) σ v
theorem aE4 (rs:List ARes) (v:AV) (e:Env) (σ:St):PZ rs v none e σ=KQ (iU rs e σ) σ v:=by simp [PZ]
theorem aGW (rs:List ARes) (v:AV) (e:Env) (σ:St):PZ rs v (some .ret) e σ=KQ (iU rs e σ) σ v:=by simp [PZ]
theorem bE {f:FuncId} {args:List AV} {v:AV} {af:AFunc} (hf:T f=some af) (hn:args.length≤af.ntmps) (hk:n8 args) (h:wp T af.body (gP 0 args) [] (PZ af.results v)):dR T f args v:=by
 intro σ
 refine .frame hk.1 (.inl rfl) (R:=fun o=>o.v=v∧o.σ=[]) (.call hf hn (iL h fun o ho=>ho) fun o ho=>?_) fun o ho=>⟨ho.2,ho.1,rfl⟩
 obtain ⟨h1,v0,h2,h3⟩:=ho
 refine ⟨h1,v0,h2,?_⟩
 unfold cQ at h3
 cases hs:snap o.σ 0 20 v0 with
 |none=>rw [hs] at h3;cases h3
 |some v1 =>
  rw [hs] at h3
  simp at h3
  exact .inr ⟨20,v1,v,hs,.inr h3.symm,fun i hi=>absurd hi (by simp),by simp,rfl,by simp⟩
theorem NF {f:FuncId} {args args0:List AV} {v:AV} (h:dR T f args0 v) (ha:clrs args=args0) (hk:okVs 0 args) (σ:St):Run T (.call f args σ) fun o=>o.v=v∧o.σ=σ :=
 .frame hk (.inr ha.symm) (h []) fun o ho=>⟨ho.2,ho.1,rfl⟩
theorem H2 {f:FuncId} {first cap args args0:List AV} {v:AV} {σ:St} {K:AV→St→Prop} (h:dR T f args0 v) (ha:clrs (first++args++cap)=args0) (hk:okVs 0 (first++args++cap)) (k:K v σ):cK (K:=⟨K⟩) T (.func f first cap) args σ :=
 .callf (.mono (NF h ha hk σ) fun o ho=>by rw [ho.1,ho.2];exact k)
theorem I7 {f:FuncId} {first cap args args0:List AV} {v:AV} {σ:St} {K:AV→St→Prop} (h:dR T f args0 v) (ha:clrs (first++args++cap)=args0) (hk:okVs 0 (first++args++cap)) (k:K v σ):cD (K:=⟨K⟩) T (.func f first cap) args σ :=
 ⟨v,σ,.callf (NF h ha hk σ),k⟩
theorem aC {f:FuncId} {args args0:List AV} {v:AV} {σ:St} {K:AV→St→Prop} (h:dR T f args0 v) (ha:args=args0) (hk:n8 args0) (k:K v σ):cK (K:=⟨K⟩) T (.func f [] []) args σ:=by
 subst ha;exact H2 h (by simpa using hk.2) (by simpa using hk.1) k
theorem aD {f:FuncId} {args args0:List AV} {v:AV} {σ:St} {K:AV→St→Prop} (h:dR T f args0 v) (ha:args=args0) (hk:n8 args0) (k:K v σ):cD (K:=⟨K⟩) T (.func f [] []) args σ:=by
 subst ha;exact I7 h (by simpa using hk.2) (by simpa using hk.1) k
theorem IB {f:FuncId} {args args0:List AV} {v:AV} {σ:St} (h:dR T f args0 v) (ha:dN σ 0 20 args=some args0) (hv:Scal v):Run T (.call f args σ) fun o=>o.v=v∧o.σ=σ:=by
 unfold dN at ha
 cases hs:snaps σ 0 20 args with
 |none=>rw [hs] at ha;cases ha
 |some as1 =>
  rw [hs] at ha
  simp at ha
  exact .frameS hs (.inr ha.symm) (h []) fun o ho=>⟨ho.2,by rw [ho.1];exact hv,ho.1,rfl⟩
theorem xD {f:FuncId} {first cap args args0:List AV} {v:AV} {σ:St} {K:AV→St→Prop} (h:dR T f args0 v) (ha:dN σ 0 20 (first++args++cap)=some args0) (hv:Scal v) (k:K v σ):cK (K:=⟨K⟩) T (.func f first cap) args σ :=
 .callf (.mono (IB h ha hv) fun o ho=>by rw [ho.1,ho.2];exact k)
theorem AF {f:FuncId} {first cap args args0:List AV} {v:AV} {σ:St} {K:AV→St→Prop} (h:dR T f args0 v) (ha:dN σ 0 20 (first++args++cap)=some args0) (hv:Scal v) (k:K v σ):cD (K:=⟨K⟩) T (.func f first cap) args σ :=
 ⟨v,σ,.callf (IB h ha hv),k⟩
def InK (rs:List ARes) (K:AV→St→Prop):KJ:=fun j e σ=>(j=none∨j=some .ret)∧∃ v,iU rs e σ=some v∧K v σ
def InR (o:Option AV) (σ:St) (K:AV→St→Prop):Prop:=∃ v,o=some v∧K v σ
@[congr] theorem aFL {o o':Option AV} {σ σ':St} {K:AV→St→Prop} (h:o=o') (h2:σ=σ'):InR o σ K=InR o' σ' K:=by rw [h,h2]
theorem aCK (v:AV) (σ:St) (K:AV→St→Prop):InR (some v) σ K=K v σ:=by simp [InR]
theorem aE7 (rs:List ARes) (K:AV→St→Prop) (e:Env) (σ:St):InK rs K none e σ=InR (iU rs e σ) σ K:=by simp [InK,InR]
theorem aIL (rs:List ARes) (K:AV→St→Prop) (e:Env) (σ:St):InK rs K (some .ret) e σ=InR (iU rs e σ) σ K:=by simp [InK,InR]
theorem tA {f:FuncId} {first cap args:List AV} {af:AFunc} {σ:St} {K:AV→St→Prop} (hf:T f=some af) (hn:(first++args++cap).length≤af.ntmps) (h:wp T af.body (gP 0 (first++args++cap)) σ (InK af.results K)) :
  cK (K:=⟨K⟩) T (.func f first cap) args σ :=
 .callf (.call hf hn (iL h fun o ho=>ho) fun o ho=>⟨ho.1,ho.2.choose,ho.2.choose_spec.1,.inl ho.2.choose_spec.2⟩)
def EqE (σ:St) (m:Nat) (e:Env):Env→Prop
 |[]=>True
 |(t,v)::e'=>cQ σ m 20 (Env.get e t)=some v∧EqE σ m e e'
theorem aJN (σ:St) (m:Nat) (e:Env):EqE σ m e []=True:=by simp only [EqE]
theorem aKA (σ:St) (m:Nat) (e:Env) (t:Nat) (v:AV) (e':Env):EqE σ m e ((t,v)::e')=(cQ σ m 20 (Env.get e t)=some v∧EqE σ m e e'):=by simp only [EqE]
theorem J5 {σ:St} {m:Nat} {e:Env}:∀ {e':Env},EqE σ m e e'→NR σ m e e'
 |[],_=>trivial
 |(t,v)::e',h=>by
  refine ⟨.inr ?_,J5 h.2⟩
  have h1:=h.1
  unfold cQ at h1
  cases hs:snap σ m 20 (Env.get e t) with
  |none=>rw [hs] at h1;cases h1
  |some v1=>rw [hs] at h1;simp at h1;exact ⟨20,v1,hs,.inr h1.symm⟩
def EqS (m:Nat):St→St→St→Prop
 |_,_,[]=>True
 |s::ss,b::bs,c::cs=>(c=b∧(b=s∨aL m b))∧EqS m ss bs cs
 |[],b::bs,c::cs=>(c=b∧aL m b)∧EqS m [] bs cs
 |_,[],_::_=>False
theorem aJP (m:Nat) (a b:St):EqS m a b []=True:=by cases a<;>cases b<;>simp only [EqS]
theorem aJ3 (m:Nat) (s b c:ABlk) (ss bs cs:St):EqS m (s::ss) (b::bs) (c::cs)=((c=b∧(b=s∨aL m b))∧EqS m ss bs cs):=by simp only [EqS]
theorem aI8 (m:Nat) (b c:ABlk) (bs cs:St):EqS m [] (b::bs) (c::cs)=((c=b∧aL m b)∧EqS m [] bs cs):=by simp only [EqS]
theorem CY {m:Nat}:∀ {σ σ' σ'':St},EqS m σ σ' σ''→∀ i c,σ''[i]? = some c→σ'[i]? = some c∧((i<σ.length∧σ'[i]? = σ[i]?)∨aL m c)
 |_,_,[],_,i,c,h=>by simp at h
 |s::ss,b::bs,x::cs,h,i,c,hc=>by
  obtain ⟨⟨h1,h2⟩,h3⟩:=h
  cases i with
  |zero =>
   simp at hc
   subst hc
   subst h1
   refine ⟨rfl,?_⟩
   rcases h2 with h2|h2
   ·left;simp [h2]
   ·right;exact h2
  |succ i =>
   obtain ⟨q1,q2⟩:=CY h3 i c (by simpa using hc)
   refine ⟨by simpa using q1,?_⟩
   rcases q2 with ⟨q2,q3⟩|q2
   ·left;exact ⟨by simp;omega,by simpa using q3⟩
   ·right;exact q2
 |[],b::bs,x::cs,h,i,c,hc=>by
  obtain ⟨⟨h1,h2⟩,h3⟩:=h
  cases i with
  |zero =>
   simp at hc
   subst hc
   subst h1
   exact ⟨rfl,.inr h2⟩
  |succ i =>
   obtain ⟨q1,q2⟩:=CY h3 i c (by simpa using hc)
   refine ⟨by simpa using q1,?_⟩
   rcases q2 with ⟨q2,q3⟩|q2
   ·simp at q2
   ·right;exact q2
def aE (σ:St) (e':Env) (σ':St) (e'':Env) (σ'':St):Prop:=σ.length≤σ''.length∧σ''.length≤σ'.length∧EqE σ' σ''.length e' e''∧EqS σ''.length σ σ' σ''
@[congr] theorem aB7 {σ σ1:St} {e' e1:Env} {σ' σ1':St} {e'':Env} {σ'':St} (h1:σ=σ1) (h2:e'=e1) (h3:σ'=σ1'):aE σ e' σ' e'' σ''=aE σ1 e1 σ1' e'' σ'':=by rw [h1,h2,h3]
theorem T0 {σ:St} {e':Env} {σ':St} {e'':Env} {σ'':St} (h:aE σ e' σ' e'' σ''):xW σ e' σ' e'' σ'':=by
 obtain ⟨h1,h2,h3,h4⟩:=h
 refine ⟨h1,h2,J5 h3,fun i hi=>?_⟩
 obtain ⟨c,hc⟩:∃ c,σ''[i]? = some c:=⟨_,List.getElem?_eq_getElem hi⟩
 obtain ⟨q1,q2⟩:=CY h4 i c hc
 refine ⟨c,hc,?_⟩
 rcases q2 with ⟨q2,q3⟩|q2
 ·left;exact ⟨q2,.inl q3,q1⟩
 ·right;left;exact ⟨q1,q2⟩
def EI {S:Type} (P:S→Prop) (μ:S→Nat) (IE:S→Env) (IS:S→St) (s:S) (K:KJ):KJ:=fun j e σ =>
 match j with
 |none=>∃ s',P s'∧μ s'<μ s∧aE (IS s) e σ (IE s') (IS s')
 |some j=>K (some j) e σ
theorem UX {S:Type} (P:S→Prop) (μ:S→Nat) (IE:S→Env) (IS:S→St) (s:S) (K:KJ) (e:Env) (σ:St):EI P μ IE IS s K none e σ = ∃ s',P s'∧μ s'<μ s∧aE (IS s) e σ (IE s') (IS s'):=by simp only [EI]
theorem aBN {S:Type} (P:S→Prop) (μ:S→Nat) (IE:S→Env) (IS:S→St) (s:S) (K:KJ) (j:AJump) (e:Env) (σ:St):EI P μ IE IS s K (some j) e σ=K (some j) e σ:=by simp only [EI]
def EqW (e:Env):Env→Prop
 |[]=>True
 |(t,v)::e'=>(Env.get e t=v∨clr (Env.get e t)=v)∧EqW e e'
theorem aJO (e:Env):EqW e []=True:=by simp only [EqW]
theorem aJT (e:Env) (t:Nat) (v:AV) (e':Env):EqW e ((t,v)::e')=((Env.get e t=v∨clr (Env.get e t)=v)∧EqW e e'):=by simp only [EqW]
theorem I8 {e:Env}:∀ {e':Env},EqW e e'→∀ t,Env.get e' t = .undef∨Env.get e' t=Env.get e t∨Env.get e' t=clr (Env.get e t)
 |[],_,t=>.inl rfl
 |(k,v)::e',h,t=>by
  by_cases hk:k=t
  ·subst hk
   right
   rcases h.1 with h|h
   ·left;simp [Env.get,h]
   ·right;simp [Env.get,h]
  ·simpa [Env.get,hk] using I8 h.2 t
theorem aG0 {S:Type} (P:S→Prop) (μ:S→Nat) (IE:S→Env) (IS:S→St) {b:ACode} {K:KJ} (step:∀ s,P s→wp T b (IE s) (IS s) (EI P μ IE IS s K)):∀ n s,μ s=n→P s→PK T (.loop b) (IE s) (IS s) K:=by
 intro n
 induction n using Nat.strongRecOn with
 |_ n ih =>
  intro s hs hp
  have h1:Run T (.code b (IE s) (IS s)) fun o=>(o.j=none∧∃ s',P s'∧μ s'<μ s∧o.env=IE s'∧o.σ=IS s')∨(o.j≠none∧K o.j o.env o.σ):=by
   refine .trim2 (iL (step s hp) fun o ho=>ho) fun o ho=>?_
   cases hj:o.j with
   |none =>
    rw [hj,UX] at ho
    obtain ⟨s',h1,h2,h3⟩:=ho
    exact .inr ⟨_,_,T0 h3,.inl ⟨rfl,s',h1,h2,rfl,rfl⟩⟩
   |some j =>
    rw [hj,aBN] at ho
    exact .inl (.inr ⟨by simp,ho⟩)
  refine .loop h1 (fun o ho hj=>?_) fun o ho hj=>?_
  ·rcases ho with ⟨_,s',q1,q2,q3,q4⟩|⟨q1,_⟩
   ·rw [q3,q4];exact ih _ (by omega) s' rfl q1
   ·exact absurd hj q1
  ·rcases ho with ⟨q,_⟩|⟨_,q⟩
   ·exact absurd q hj
   ·exact q
theorem bY {S:Type} (s0:S) (P:S→Prop) (μ:S→Nat) (IE:S→Env) (IS:S→St) {b:ACode} {e:Env} {σ:St} {K:KJ} (hP:P s0) (hσ:σ=IS s0) (hE:EqW e (IE s0))
  (step:∀ s,P s→wp T b (IE s) (IS s) (EI P μ IE IS s K)):rK (K:=⟨K⟩) T (.loop b) e σ:=by
 subst hσ
 exact .weak (I8 hE) (aG0 P μ IE IS step _ s0 rfl hP)
theorem mM {c:ACode} {e:Env} {σ:St} {K:KJ} (t sz:Nat) (xs:List AV) (ht:Env.get e t = .lit xs true none) (h:rK (K:=⟨K⟩) T c ((t,.lit xs false (some σ.length))::e) (σ++[.tok sz xs.length false])):rK (K:=⟨K⟩) T c e σ :=
 .ghost t sz xs ht h
end Go.Am
namespace Go.Am
variable {T:FuncId→Option AFunc}
def zV (e:Env) (σ:St):ARes→Option AV
 |.tmp t=>some (Env.get e t)
 |.cell t sh=>lU sh σ (Env.get e t)
def pW (e:Env) (σ:St):List ARes→Option (List AV)
 |[]=>some []
 |r::rs=>(zV e σ r).bind fun v=>(pW e σ rs).map (v::·)
theorem w6 (e:Env) (σ:St):∀ rs,o8 e σ rs=pW e σ rs
 |[]=>rfl
 |.tmp t::rs=>by simp [o8,pW,zV,w6 e σ rs]
 |.cell t sh::rs=>by
  simp only [o8,pW,zV,w6 e σ rs]
  cases lU sh σ (Env.get e t)<;>cases pW e σ rs<;>simp
theorem aEM (e:Env) (σ:St):iU [] e σ=some (.tuple []):=by simp [iU,o8]
theorem aEF (r:ARes) (e:Env) (σ:St):iU [r] e σ=zV e σ r:=by
 simp only [iU,w6,pW];cases zV e σ r<;>simp
theorem aDF (r s:ARes) (rs:List ARes) (e:Env) (σ:St):iU (r::s::rs) e σ=(pW e σ (r::s::rs)).map .tuple:=by
 simp only [iU,w6,pW];cases zV e σ r<;>cases zV e σ s<;>cases pW e σ rs<;>simp
theorem aGL (e:Env) (σ:St):pW e σ []=some []:=by simp only [pW]
theorem aFS (r:ARes) (rs:List ARes) (e:Env) (σ:St):pW e σ (r::rs)=(zV e σ r).bind fun v=>(pW e σ rs).map (v::·):=by simp only [pW]
theorem aKK (t:Nat) (e:Env) (σ:St):zV e σ (.tmp t)=some (Env.get e t):=by simp only [zV]
theorem aJB (t:Nat) (sh:Option Nat) (e:Env) (σ:St):zV e σ (.cell t sh)=lU sh σ (Env.get e t):=by simp only [zV]
theorem aJW (id:Nat) (K:KJ) (e:Env) (σ:St):lL id K none e σ=K none e σ:=by simp only [lL]
theorem aJA (id:Nat) (K:KJ) (e:Env) (σ:St):lL id K (some .ret) e σ=K (some .ret) e σ:=by simp only [lL]
theorem aGM (id:Nat) (K:KJ) (e:Env) (σ:St):lL id K (some (.exit id)) e σ=K none e σ:=by simp [lL]
theorem aGO (id i:Nat) (K:KJ) (e:Env) (σ:St) (h:i≠id):lL id K (some (.exit i)) e σ=K (some (.exit i)) e σ:=by simp [lL,h]
theorem aCZ {α:Type} {sz:Nat} {enc:α→AV} {l:List α} {k:Nat} {t:Option Nat} (h:k<l.length) (hs:∀ x,(enc x).cells.length=sz):DE sz (l.map enc) (k:Int) t=some (.lptr (l.map enc) k 0 t):=by
 simp [DE,List.getElem?_map,h,hs]
theorem aE1 {α:Type} {enc:α→AV} {l:List α} {k:Nat} (h:k<l.length):(l.map enc)[k]? = some (enc l[k]):=by simp [List.getElem?_map,h]
theorem rd0 {ds:List ADOper} {e:Env} {σ:St} {K:KJ} (hz:eN ds=[]) (h:wpD T ds e σ σ.length [σ] [] fun e σ=>K none e σ):rK (K:=⟨K⟩) T (.dreg ds) e σ:=by
 refine NE ?_
 rw [hz,List.append_nil]
 exact h
theorem nL {ds:List ADOper} {e:Env} {σ:St} {K:KJ} (zs:St) (hz:eN ds=zs) (h:wpD T ds e (σ++zs) σ.length [σ++zs] [] fun e σ=>K none e σ):rK (K:=⟨K⟩) T (.dreg ds) e σ:=by
 subst hz
 exact NE h
theorem bX {k n:Nat} (h:k<n) (hn:n<9223372036854775808):IntKind.i64.wrap ((k:Int)+1)=((k+1:Nat):Int):=by rw [dU ⟨by omega,by omega⟩];omega
def ints (l:List Int):AV:=.lit (l.map (.int .i64)) false none
theorem jP (l:List Int):mD (ints l):=fJ (dC .i64) l
theorem nR (σ:St) (m d:Nat) (k:IntKind) (l:List Int):dN σ m d (l.map (.int k))=some (l.map (.int k)):=mH (bL (dC k) l) σ m d
theorem aDG (σ:St) (m d:Nat) (l:List ByteArray):dN σ m d (l.map .str)=some (l.map .str):=mH (bL xG l) σ m d
theorem aB9 (σ:St) (m d:Nat):∀ xs ys:List AV,dN σ m d (xs++ys)=(dN σ m d xs).bind fun a=>(dN σ m d ys).map (a++·)
 |[],ys=>by rw [NV];simp
 |x::xs,ys=>by
  rw [List.cons_append,BT,BT,aB9 σ m d xs ys]
  cases cQ σ m d x<;>simp
  cases dN σ m d xs<;>simp
  cases dN σ m d ys<;>simp
def bU (l:List (List Int)):AV:=.lit (l.map ints) false none
theorem v3 (l:List (List Int)):mD (bU l):=fJ jP l
theorem aC0 (σ:St) (m d:Nat) (l:List Int):cQ σ m d (ints l)=some (ints l):=aDI (jP l) σ m d
theorem VD (σ:St) (m d:Nat) (l:List (List Int)):dN σ m d (l.map ints)=some (l.map ints):=mH (bL jP l) σ m d
theorem aDA (k:IntKind) (a b:Int):y5 [.int k a,.int k b]=some (.int k (min a b)):=by
 simp only [y5,uE,if_true,Option.some.injEq,AV.int.injEq,true_and];split<;>omega
theorem aD7 (k:IntKind) (a b:Int):zP [.int k a,.int k b]=some (.int k (max a b)):=by
 simp only [zP,uS,if_true,Option.some.injEq,AV.int.injEq,true_and];split<;>omega
def fI (s:ByteArray) (k:Nat):Int:=(((s[k]?).getD 0).toNat:Int)
theorem FJ (s:ByteArray) (k:Nat):0≤fI s k∧fI s k<256:=by
 have:=((s[k]?).getD 0).toNat_lt
 unfold fI
 omega
theorem aC6 {s:ByteArray} {k:Nat} (h:k<s.size):AM (.str s) (.int .i64 (k:Int))=some (.int .u8 (fI s k)):=by
 simp [AM,gT,fI,h]
structure Span where
 lo:Int
 hi:Int
 deriving DecidableEq
def n9 (s:Span):AV:=.agg [.int .i64 s.lo,.int .i64 s.hi]
theorem aR (s:Span):n9 s = .agg [.int .i64 s.lo,.int .i64 s.hi]:=by simp only [n9]
theorem PC (s:Span):mD (n9 s):=j5 (bJ (dC _ _) (bJ (dC _ _) bP))
def KO (l:List ByteArray):AV:=.lit (l.map .str) false none
theorem P3 (l:List ByteArray):mD (KO l):=fJ xG l
end Go.Am
namespace Go.Am
variable {T:FuncId→Option AFunc}
def kK (T:FuncId→Option AFunc) (f:AV) (args:List AV) (σ:St) (v:AV):Prop:=Run T (.callv f args σ) fun o=>o.v=v∧o.σ=σ
def BK (o:Option AV) (σ0 σ:St) (v:AV):Prop:=∃ v0 τ,o=some v0∧σ=σ0++τ∧cQ σ σ0.length 20 v0=some v
@[congr] theorem aCH {o o':Option AV} {σ0 σ σ':St} {v:AV} (h:o=o') (h2:σ=σ'):BK o σ0 σ v=BK o' σ0 σ' v:=by rw [h,h2]
def HU (rs:List ARes) (σ0:St) (v:AV):KJ:=fun j e σ=>(j=none∨j=some .ret)∧BK (iU rs e σ) σ0 σ v
theorem aCO (rs:List ARes) (σ0:St) (v:AV) (e:Env) (σ:St):HU rs σ0 v none e σ=BK (iU rs e σ) σ0 σ v:=by simp [HU]
theorem aHH (rs:List ARes) (σ0:St) (v:AV) (e:Env) (σ:St):HU rs σ0 v (some .ret) e σ=BK (iU rs e σ) σ0 σ v:=by simp [HU]
theorem fR {v0:AV} {σ0 σ:St} {v:AV} (τ:St) (h1:σ=σ0++τ) (h2:cQ σ σ0.length 20 v0=some v):BK (some v0) σ0 σ v:=⟨v0,τ,rfl,h1,h2⟩
theorem fC {f:FuncId} {first cap args:List AV} {σ:St} {af:AFunc} {v:AV} (hf:T f=some af) (hn:(first++args++cap).length≤af.ntmps) (h:wp T af.body (gP 0 (first++args++cap)) σ (HU af.results σ v)):kK T (.func f first cap) args σ v:=by
 refine .callf (.call hf hn (iL h fun o ho=>ho) fun o ho=>?_)
 obtain ⟨h1,v0,τ,h2,h3,h4⟩:=ho
 refine ⟨h1,v0,h2,?_⟩
 unfold cQ at h4
 cases hs:snap o.σ σ.length 20 v0 with
 |none=>rw [hs] at h4;cases h4
 |some v1 =>
  rw [hs] at h4
  simp at h4
  exact .inr ⟨20,v1,v,hs,.inr h4.symm,fun i hi=>.inl (by rw [h3];exact List.getElem?_append_left hi),by rw [h3];simp,rfl,by rw [h3];simp⟩
theorem cM {f:AV} {args:List AV} {v:AV} {σ:St} {K:AV→St→Prop} (h:kK T f args σ v) (k:K v σ):cK (K:=⟨K⟩) T f args σ:=.mono h fun o ho=>by rw [ho.1,ho.2];exact k
theorem BF {f:AV} {args:List AV} {v:AV} {σ:St} {K:AV→St→Prop} (h:kK T f args σ v) (k:K v σ):cD (K:=⟨K⟩) T f args σ:=⟨v,σ,h,k⟩
def u9 (σ:St) (v:AV):Prop:=∀ τ,cQ (σ++τ) σ.length 20 v=some v
theorem u9.nil {σ:St} {v:AV} (h:u9 σ v):cQ σ σ.length 20 v=some v:=by simpa using h []
theorem aFF (m:Nat):∀ (σ τ:St),EqS m σ (σ++τ) σ=True
 |[],τ=>by cases τ<;>simp [EqS]
 |b::σ,τ=>by simp [EqS,aFF m σ τ]
theorem aF8 (m:Nat) (σ:St):EqS m σ σ σ=True:=by simpa using aFF m σ []
theorem aEL (σ τ υ:St):σ++τ++υ=σ++(τ++υ):=List.append_assoc _ _ _
theorem SN {s:ByteArray} {k:Nat} (h:k<s.size):yK [.siter s k] (.ptr 0 0)=some (.tuple [.bool true,.int .i64 k,.int .i32 (Utf8.decode s k).1],[.siter s (k+(Utf8.decode s k).2)]):=by
 simp [yK,h]
theorem SJ {s:ByteArray} {k:Nat} (h:¬k<s.size):yK [.siter s k] (.ptr 0 0)=some (.tuple [.bool false],[.siter s k]):=by
 simp [yK,h]
theorem wD {s:ByteArray} {k:Nat} (h:k<s.size) (hb:fI s k<128):Utf8.decode s k=((fI s k).toNat,1):=by
 have e:fI s k=((s[k]'h).toNat:Int):=by simp [fI,h]
 rw [decode_ascii s k h (by omega),e]
 simp
theorem IX {s:ByteArray} {k:Nat} (h:k<s.size) (hb:128≤fI s k):128≤(Utf8.decode s k).1:=by
 have e:fI s k=((s[k]'h).toNat:Int):=by simp [fI,h]
 exact (decode_high s k h (by omega)).1
theorem aC8 {α:Type} {sz:Nat} {enc:α→AV} {l:List α} {i:Nat} {σ:St} {t:Option Nat} (hi:i≤l.length) (hs:∀ x,(enc x).cells.length=sz):AE sz σ (.lit (l.map enc) false t) none (some (.int .i64 (i:Int))) none=some (.lit ((l.take i).map enc) false t):=by
 have hc:AQ sz (l.map enc) 0 (i:Int)=true:=by
  unfold AQ
  by_cases h0:i=0
  ·subst h0;simp
  ·cases l with
   |nil=>simp at hi;omega
   |cons x l=>simp [hs]
 simp only [AE,kL,qC,Option.map_none,gT,oC]
 rw [if_pos ⟨by omega,by omega,by simp;omega,hc⟩]
 simp [List.map_take]
theorem eO {f:FuncId} {args args0:List AV} {v:AV} {σ:St} {K:AV→St→Prop} (h:dR T f args0 v) (ha:clrs args=args0) (hk:okVs 0 args) (k:K v σ):cK (K:=⟨K⟩) T (.func f [] []) args σ :=
 H2 h (by simpa using ha) (by simpa using hk) k
theorem fT {f:FuncId} {args args0:List AV} {v:AV} {σ:St} {K:AV→St→Prop} (h:dR T f args0 v) (ha:clrs args=args0) (hk:okVs 0 args) (k:K v σ):cD (K:=⟨K⟩) T (.func f [] []) args σ :=
 I7 h (by simpa using ha) (by simpa using hk) k
end Go.Am
namespace Go.Am
def QV:=And.intro @aHC (And.intro @p9 (And.intro @N8 (And.intro @aEL (And.intro @aC6 (And.intro @aDA (And.intro @aD7 (And.intro @aHG (And.intro @aEX (And.intro @UL (And.intro @VK (And.intro @aGA (And.intro @aGN (And.intro @aCS (And.intro @YP (And.intro @R4 (And.intro @SQ (And.intro @S0 (And.intro @uW (And.intro @rO (And.intro @aFD (And.intro @aDZ (And.intro @aEE (And.intro @aFJ (And.intro @aCN (And.intro @aBW (And.intro @UN (And.intro @aDP (And.intro @aC7 (And.intro @aCY (And.intro @XD (And.intro @aC9 (And.intro @aIZ (And.intro @YE (And.intro @YM (And.intro @aAC (And.intro @aFW (And.intro @aIS (And.intro @SI (And.intro @aED (And.intro @RX (And.intro @aGD (And.intro @aHK (And.intro @aHL (And.intro @aI4 (And.intro @aH0 (And.intro @aGP (And.intro @aF3 (And.intro @aGS (And.intro @aGZ (And.intro @aGF (And.intro @aIB (And.intro @aF2 (And.intro @aEY (And.intro @aE3 (And.intro @U9 (And.intro @TJ (And.intro @aEN (And.intro @aD6 (And.intro @aIR (And.intro @aCX (And.intro @U8 (And.intro @sI (And.intro @sW (And.intro @kF (And.intro @aFU (And.intro @aF7 (And.intro @YJ (And.intro @aG4 (And.intro @XG (And.intro @V8 (And.intro @SM (And.intro @aBD (And.intro @aAW (And.intro @aIC (And.intro @aFP (And.intro @aER (And.intro @aIJ (And.intro @UT (And.intro @PV (And.intro @aH2 (And.intro @C_0 (And.intro @aET (And.intro @YV (And.intro @aEW (And.intro @aE2 (And.intro @aCT (And.intro @aEK (And.intro @WO (And.intro @aD9 (And.intro @QW (And.intro @M1 (And.intro @aIH (And.intro @aCW (And.intro @aFT (And.intro @aH6 (And.intro @aID (And.intro @aHD (And.intro @aDC (And.intro @aG7 (And.intro @aI0 (And.intro @TP (And.intro @PA (And.intro @aHA (And.intro @aF5 (And.intro @U6 (And.intro @SA (And.intro @aIQ (And.intro @aGH (And.intro @aIU (And.intro @aCQ (And.intro @aH5 (And.intro @aEM (And.intro @aEF (And.intro @aDF (And.intro @aGL (And.intro @aFS (And.intro @aKK (And.intro @aJB (And.intro @aD8 (And.intro @aCK (And.intro @aHV (And.intro @aEO (And.intro @W7 (And.intro @aIV (And.intro @W9 (And.intro @Y8 (And.intro @Z6 (And.intro @aC3 (And.intro @Y5 (And.intro @MF (And.intro @aIX (And.intro @aGT (And.intro @aIG (And.intro @aH9 (And.intro @aD0 (And.intro @W2 (And.intro @XZ (And.intro @PX (And.intro @SO (And.intro @UU (And.intro @YX (And.intro @YH (And.intro @Z5 (And.intro @YC (And.intro @U4 (And.intro @SU (And.intro @TO (And.intro @aHX (And.intro @aG6 (And.intro @TF (And.intro @Z3 (And.intro @aE6 (And.intro @aIK (And.intro @aGJ (And.intro @US (@ZY))))))))))))))))))))))))))))))))))))))))))))))))))))))))))))))))))))))))))))))))))))))))))))))))))))))))))))))))))))))))))))))))))))))))))))))))))))))))))))
def QP:=And.intro @aCO (And.intro @aHH (And.intro @aHU (And.intro @aHN (And.intro @aEI (And.intro @aEV (And.intro @XC (And.intro @aC2 (And.intro @YZ (And.intro @XI (And.intro @aH1 (And.intro @aJW (And.intro @aJA (And.intro @aGM (And.intro @aGO (And.intro @aCZ (And.intro @aE1 (And.intro @aE9 (And.intro @X2 (And.intro @aDO (And.intro @aFE (And.intro @W6 (And.intro @aHT (And.intro @aE4 (And.intro @aGW (And.intro @aE7 (And.intro @aIL (And.intro @UX (And.intro @aBN (And.intro @aGE (And.intro @aC5 (And.intro @X3 (And.intro @aHB (And.intro @YI (And.intro @XP (And.intro @ZG (And.intro @aDM (And.intro @YN (And.intro @LI (And.intro @aIW (And.intro @aF1 (And.intro @aGI (And.intro @aH3 (And.intro @aDN (And.intro @WS (And.intro @Y7 (And.intro @PQ (And.intro @TU (And.intro @UH (And.intro @XV (And.intro @X6 (And.intro @YY (And.intro @XH (And.intro @WD (And.intro @UP (And.intro @V7 (And.intro @aFX (And.intro @aGV (And.intro @VH (And.intro @Y9 (And.intro @aDK (And.intro @aGG (And.intro @aFV (And.intro @R1 (@X5))))))))))))))))))))))))))))))))))))))))))))))))))))))))))))))))
def QD:=And.intro @aGY (And.intro @aFC (And.intro @Y3 (And.intro @UB (And.intro @aFO (And.intro @aDV (And.intro @aHI (And.intro @XW (And.intro @Y4 (And.intro @WM (And.intro @aDE (And.intro @X0 (And.intro @LH (And.intro @aFR (And.intro @aHR (And.intro @aG5 (And.intro @aG3 (And.intro @aEA (And.intro @ZN (And.intro @ZA (And.intro @QN (And.intro @R7 (And.intro @T8 (And.intro @WN (And.intro @X1 (And.intro @YL (And.intro @YF (And.intro @SB (And.intro @RK (And.intro @S7 (And.intro @aGX (And.intro @aGR (And.intro @TA (And.intro @XQ (And.intro @aFK (And.intro @aGB (And.intro @aHJ (And.intro @V5 (And.intro @YQ (And.intro @aHY (And.intro @aEH (And.intro @aGK (And.intro @ZE (And.intro @Y6 (And.intro @ZR (And.intro @aD1 (And.intro @ZF (And.intro @MJ (And.intro @aG8 (And.intro @aG2 (And.intro @aF6 (And.intro @aI2 (And.intro @aEJ (And.intro @WW (And.intro @XB (And.intro @PB (And.intro @UZ (And.intro @V9 (And.intro @ZM (And.intro @ZU (And.intro @WV (And.intro @X9 (And.intro @VS (And.intro @V6 (And.intro @V0 (And.intro @aHO (And.intro @aH4 (And.intro @TY (And.intro @WJ (And.intro @aEC (And.intro @aI1 (And.intro @aHP (And.intro @TW (@ZO)))))))))))))))))))))))))))))))))))))))))))))))))))))))))))))))))))))))))
def QS:=And.intro @VD (And.intro @aC0 (And.intro @aB9 (And.intro @nR (And.intro @aDG (And.intro @S3 (And.intro @GO (And.intro @VT (And.intro @RR (And.intro @P2 (And.intro @aAF (And.intro @aHS (And.intro @NV (And.intro @BT (And.intro @XM (And.intro @S6 (And.intro @LK (And.intro @aCJ (And.intro @GS (And.intro @aBW (@UN))))))))))))))))))))
def QR:=And.intro @TT (And.intro @R0 (And.intro @W5 (@WU)))
def QT:=And.intro @aFF (And.intro @aF8 (And.intro @aJN (And.intro @aKA (And.intro @aJP (And.intro @aJ3 (And.intro @aI8 (And.intro @aJO (And.intro @aJT (@UL)))))))))
variable {T:FuncId→Option AFunc}
mutual
theorem okV_up {m:Nat}:∀ v,okV 0 v→okV m v
 |.func _ first cap,h=>⟨okVs_up first h.1,okVs_up cap h.2⟩
 |.lptr xs _ _ tk,h=>⟨fun t e=>absurd (h.1 t e) (by omega),okVs_up xs h.2⟩
 |.lit xs _ tk,h=>⟨fun t e=>absurd (h.1 t e) (by omega),okVs_up xs h.2⟩
 |.agg cs,h=>okVs_up cs h
 |.tuple vs,h=>okVs_up vs h
 |.yield _,h|.ptr _ _,h|.ref _ _ _ _,h|.map _,h=>absurd h (by simp [okV])
 |.undef,_|.int _ _,_|.bool _,_|.str _,_|.nilFunc,_|.nilPtr,_|.nilMap,_=>trivial
theorem okVs_up {m:Nat}:∀ vs,okVs 0 vs→okVs m vs
 |[],_=>trivial
 |v::vs,h=>⟨okV_up v h.1,okVs_up vs h.2⟩
end
theorem KZ {σ:St} {m d id off len sz:Nat} (h:id<m):cQ σ m d (.ref id off len sz)=some (.ref id off len sz):=by
 cases d<;>simp [cQ,snap,h,clr]
end Go.Am
namespace Go.Am
theorem nI (l:List Int):ints l = .lit (l.map (.int .i64)) false none:=by simp only [ints]
theorem TC (l:List ByteArray):KO l = .lit (l.map .str) false none:=by simp only [KO]
def QC:=And.intro @and_self (And.intro @and_true (And.intro @true_and (And.intro @true_or (And.intro @or_true (And.intro @nI (And.intro @TC (And.intro @decide_true (And.intro @decide_false (And.intro @Nat.lt_irrefl (And.intro @Nat.le_refl (And.intro @List.length_cons.{0} (And.intro @List.length_nil.{0} (And.intro @List.cons_append.{0} (And.intro @List.nil_append.{0} (And.intro @List.append_nil.{0} (And.intro @List.getElem?_cons_zero.{0} (And.intro @List.getElem?_cons_succ.{0} (And.intro @List.take_zero.{0} (And.intro @List.drop_zero.{0} (And.intro @List.take_succ_cons.{0} (And.intro @List.drop_succ_cons.{0} (And.intro @List.take_nil.{0} (And.intro @List.drop_nil.{0} (And.intro @List.set_cons_zero.{0} (And.intro @List.set_cons_succ.{0} (And.intro @List.length_map.{0,0} (And.intro @Bool.and_true (And.intro @Bool.true_and (And.intro @Bool.and_self (And.intro @Bool.not_true (And.intro @Bool.not_false (And.intro @beq_self_eq_true.{0} (And.intro @Nat.zero_add (And.intro @implies_true.{0} (And.intro @implies_true.{1} (And.intro @forall_const.{0} (And.intro @forall_const.{1} (And.intro @ne_eq.{1} (And.intro @not_false_eq_true (@not_true_eq_false))))))))))))))))))))))))))))))))))))))))
def QA:=And.intro QP QD
def QB:=And.intro QR (And.intro QV (And.intro QS QC))
def QE:=And.intro QT (And.intro QS (And.intro @UL (And.intro @List.length_append.{0} (And.intro @Nat.le_add_right QC))))
class Dat (v:AV):Prop where
 h:mD v
class Dats (vs:List AV):Prop where
 h:n8 vs
theorem dd {vs:List AV} [k:Dats vs]:n8 vs:=k.h
instance:Dats []:=⟨bP⟩
instance {v:AV} {vs:List AV} [a:Dat v] [b:Dats vs]:Dats (v::vs):=⟨bJ a.h b.h⟩
instance (k:IntKind) (n:Int):Dat (.int k n):=⟨dC k n⟩
instance (b:Bool):Dat (.bool b):=⟨uV b⟩
instance (s:ByteArray):Dat (.str s):=⟨xG s⟩
instance (l:List Int):Dat (ints l):=⟨jP l⟩
instance (l:List (List Int)):Dat (bU l):=⟨v3 l⟩
instance (l:List ByteArray):Dat (KO l):=⟨P3 l⟩
instance (s:Span):Dat (n9 s):=⟨PC s⟩
instance {cs:List AV} [a:Dats cs]:Dat (.agg cs):=⟨j5 a.h⟩
instance {cs:List AV} [a:Dats cs]:Dat (.tuple cs):=⟨M4 a.h⟩
instance {cs:List AV} [a:Dats cs]:Dat (.lit cs false none):=⟨I6 a.h⟩
instance (k:IntKind) (l:List Int):Dats (l.map (.int k)):=⟨bL (dC k) l⟩
end Go.Am
namespace Go.Am.Room
def inR (n lo hi:Int):Bool:=decide (lo≤n)&&decide (n≤hi)
theorem gU (n lo hi:Int):dR T 62 [.int .i64 n,.int .i64 lo,.int .i64 hi] (.bool (inR n lo hi)):=by
 refine bE (af:=a62) rfl (by simp [a62]) dd ?_
 (repeat (first|simp only [↓QA,QB,Nat.reduceLT,reduceIte,Nat.reduceEqDiff,Nat.reduceAdd,Nat.reduceLeDiff,Nat.reduceMul,Nat.reduceBEq,a62]|refine rd0 rfl ?_))
 refine aG (fun h=>?_) fun h=>?_
 all_goals
  (repeat (first|simp only [↓QA,QB,Nat.reduceLT,reduceIte,Nat.reduceEqDiff,Nat.reduceAdd,Nat.reduceLeDiff,Nat.reduceMul,Nat.reduceBEq,h]|refine rd0 rfl ?_))
  simp [inR,h]
def pK (s:Span) (lo hi:Int):Int:=if !inR s.lo lo hi||!inR s.hi lo hi then 7 else if s.hi<s.lo then 2 else 0
theorem NW (s:Span) (lo hi:Int):dR T 103 [n9 s,.int .i64 lo,.int .i64 hi] (.int .i64 (pK s lo hi)):=by
 refine bE (af:=a103) rfl (by simp [a103]) dd ?_
 (repeat (first|simp only [↓QA,QB,Nat.reduceLT,reduceIte,Nat.reduceEqDiff,Nat.reduceAdd,Nat.reduceLeDiff,Nat.reduceMul,Nat.reduceBEq,a103,aR]|refine rd0 rfl ?_))
 refine aC (gU _ _ _) rfl dd ?_
 (repeat (first|simp only [↓QA,QB,Nat.reduceLT,reduceIte,Nat.reduceEqDiff,Nat.reduceAdd,Nat.reduceLeDiff,Nat.reduceMul,Nat.reduceBEq]|refine rd0 rfl ?_))
 cases h1:inR s.lo lo hi
 ·(repeat (first|simp only [↓QA,QB,Nat.reduceLT,reduceIte,Nat.reduceEqDiff,Nat.reduceAdd,Nat.reduceLeDiff,Nat.reduceMul,Nat.reduceBEq]|refine rd0 rfl ?_))
  simp [pK,h1]
 ·(repeat (first|simp only [↓QA,QB,Nat.reduceLT,reduceIte,Nat.reduceEqDiff,Nat.reduceAdd,Nat.reduceLeDiff,Nat.reduceMul,Nat.reduceBEq]|refine rd0 rfl ?_))
  refine aC (gU _ _ _) rfl dd ?_
  (repeat (first|simp only [↓QA,QB,Nat.reduceLT,reduceIte,Nat.reduceEqDiff,Nat.reduceAdd,Nat.reduceLeDiff,Nat.reduceMul,Nat.reduceBEq]|refine rd0 rfl ?_))
  cases h2:inR s.hi lo hi
  ·(repeat (first|simp only [↓QA,QB,Nat.reduceLT,reduceIte,Nat.reduceEqDiff,Nat.reduceAdd,Nat.reduceLeDiff,Nat.reduceMul,Nat.reduceBEq]|refine rd0 rfl ?_))
   simp [pK,h1,h2]
  ·(repeat (first|simp only [↓QA,QB,Nat.reduceLT,reduceIte,Nat.reduceEqDiff,Nat.reduceAdd,Nat.reduceLeDiff,Nat.reduceMul,Nat.reduceBEq]|refine rd0 rfl ?_))
   refine aG (fun h=>?_) fun h=>?_
   all_goals
    (repeat (first|simp only [↓QA,QB,Nat.reduceLT,reduceIte,Nat.reduceEqDiff,Nat.reduceAdd,Nat.reduceLeDiff,Nat.reduceMul,Nat.reduceBEq,h]|refine rd0 rfl ?_))
    simp [pK,h1,h2]
    simpa using h
def mN (s:Span) (n:Int):Span:=⟨min s.lo n,max s.hi n⟩
theorem iT (l:List Int) (n:Int) (hl:l.length<9223372036854775808):dR T 43 [ints l,.int .i64 n] (.bool (l.contains n)):=by
 refine bE (af:=a43) rfl (by simp [a43]) dd ?_
 (repeat (first|simp only [↓QA,QB,Nat.reduceLT,reduceIte,Nat.reduceEqDiff,Nat.reduceAdd,Nat.reduceLeDiff,Nat.reduceMul,Nat.reduceBEq,a43]|refine rd0 rfl ?_))
 refine bY (S:=Nat) 0 (·≤l.length) (fun k=>l.length-k) (fun k=>[(0,ints l),(1,.int .i64 n),(5,.bool ((l.take k).contains n)),(6,.int .i64 k)]) (fun _=>[]) (Nat.zero_le _) rfl ?_ fun k hk=>?_
 ·try simp only [aE,QE,Nat.reduceLT,reduceIte,Nat.reduceEqDiff,Nat.reduceAdd,Nat.reduceLeDiff,Nat.reduceMul,Nat.reduceBEq]
  try simp
 ·(repeat (first|simp only [↓QA,QB,Nat.reduceLT,reduceIte,Nat.reduceEqDiff,Nat.reduceAdd,Nat.reduceLeDiff,Nat.reduceMul,Nat.reduceBEq,aAE]|refine rd0 rfl ?_))
  refine aG (fun h=>?_) fun h=>?_
  ·have hk1:k<l.length:=by simpa using h
   (repeat (first|simp only [↓QA,QB,Nat.reduceLT,reduceIte,Nat.reduceEqDiff,Nat.reduceAdd,Nat.reduceLeDiff,Nat.reduceMul,Nat.reduceBEq]|refine rd0 rfl ?_))
   refine aG (fun h2=>?_) fun h2=>?_
   all_goals
    (repeat (first|simp only [↓QA,QB,Nat.reduceLT,reduceIte,Nat.reduceEqDiff,Nat.reduceAdd,Nat.reduceLeDiff,Nat.reduceMul,Nat.reduceBEq,h2,hk1]|refine rd0 rfl ?_))
    refine ⟨k+1,by omega,by omega,?_⟩
    try simp only [aE,QE,Nat.reduceLT,reduceIte,Nat.reduceEqDiff,Nat.reduceAdd,Nat.reduceLeDiff,Nat.reduceMul,Nat.reduceBEq,bX hk1 hl]
    simp only [List.take_succ_eq_append_getElem hk1,List.contains_append,h2]
    simp
    try (rw [Bool.eq_iff_iff];simp;exact eq_comm)
  ·have:k=l.length:=by simp at h;omega
   (repeat (first|simp only [↓QA,QB,Nat.reduceLT,reduceIte,Nat.reduceEqDiff,Nat.reduceAdd,Nat.reduceLeDiff,Nat.reduceMul,Nat.reduceBEq]|refine rd0 rfl ?_))
   simp [this]
def less:List Int→List Int→Bool
 |_,[]=>false
 |[],_::_=>true
 |a::az,b::bs=>if a=b then less az bs else decide (a<b)
theorem PD {a b:List Int} {k:Nat} (ha:k<a.length) (hb:k<b.length) (h:a[k]=b[k]):less (a.drop (k+1)) (b.drop (k+1))=less (a.drop k) (b.drop k):=by
 rw [List.drop_eq_getElem_cons ha,List.drop_eq_getElem_cons hb];simp [less,h]
theorem FZ (a b:List Int) (ha:a.length<9223372036854775808) (hb:b.length<9223372036854775808):dR T 56 [ints a,ints b] (.bool (less a b)):=by
 refine bE (af:=a56) rfl (by simp [a56]) dd ?_
 (repeat (first|simp only [↓QA,QB,Nat.reduceLT,reduceIte,Nat.reduceEqDiff,Nat.reduceAdd,Nat.reduceLeDiff,Nat.reduceMul,Nat.reduceBEq,a56]|refine rd0 rfl ?_))
 refine bY (S:=Nat) 0 (fun k=>k≤a.length∧k≤b.length∧less (a.drop k) (b.drop k)=less a b) (fun k=>a.length-k) (fun k=>[(0,ints a),(1,ints b),(5,.int .i64 k)]) (fun _=>[]) ⟨Nat.zero_le _,Nat.zero_le _,rfl⟩ rfl ?_ fun k hk=>?_
 ·try simp only [aE,QE,Nat.reduceLT,reduceIte,Nat.reduceEqDiff,Nat.reduceAdd,Nat.reduceLeDiff,Nat.reduceMul,Nat.reduceBEq]
  try simp
 ·obtain ⟨hka,hkb,hl⟩:=hk
  (repeat (first|simp only [↓QA,QB,Nat.reduceLT,reduceIte,Nat.reduceEqDiff,Nat.reduceAdd,Nat.reduceLeDiff,Nat.reduceMul,Nat.reduceBEq,aBJ]|refine rd0 rfl ?_))
  by_cases h1:k<a.length
  ·have g1:decide ((k:Int)<a.length)=true:=by simpa using h1
   by_cases h2:k<b.length
   ·have g2:decide ((k:Int)<b.length)=true:=by simpa using h2
    (repeat (first|simp only [↓QA,QB,Nat.reduceLT,reduceIte,Nat.reduceEqDiff,Nat.reduceAdd,Nat.reduceLeDiff,Nat.reduceMul,Nat.reduceBEq,g1,g2,h1,h2]|refine rd0 rfl ?_))
    refine aG (fun h3=>?_) fun h3=>?_
    ·have h3':a[k]=b[k]:=by simpa using h3
     (repeat (first|simp only [↓QA,QB,Nat.reduceLT,reduceIte,Nat.reduceEqDiff,Nat.reduceAdd,Nat.reduceLeDiff,Nat.reduceMul,Nat.reduceBEq,h3]|refine rd0 rfl ?_))
     refine ⟨k+1,⟨by omega,by omega,(PD h1 h2 h3').trans hl⟩,by omega,?_⟩
     try simp only [aE,QE,Nat.reduceLT,reduceIte,Nat.reduceEqDiff,Nat.reduceAdd,Nat.reduceLeDiff,Nat.reduceMul,Nat.reduceBEq,bX h1 ha]
    ·have h3':a[k]≠b[k]:=by simpa using h3
     have e1:((k:Int)==b.length)=false:=by simp;omega
     have e2:((k:Int)==a.length)=false:=by simp;omega
     (repeat (first|simp only [↓QA,QB,Nat.reduceLT,reduceIte,Nat.reduceEqDiff,Nat.reduceAdd,Nat.reduceLeDiff,Nat.reduceMul,Nat.reduceBEq,h3,e1,e2,h1,h2]|refine rd0 rfl ?_))
     rw [←hl,List.drop_eq_getElem_cons h1,List.drop_eq_getElem_cons h2]
     simp [less,h3']
   ·have hkb':k=b.length:=by omega
    have g2:decide ((k:Int)<b.length)=false:=by simp;omega
    have e1:((k:Int)==b.length)=true:=by simp;omega
    (repeat (first|simp only [↓QA,QB,Nat.reduceLT,reduceIte,Nat.reduceEqDiff,Nat.reduceAdd,Nat.reduceLeDiff,Nat.reduceMul,Nat.reduceBEq,g1,g2,e1]|refine rd0 rfl ?_))
    rw [←hl,hkb',List.drop_length]
    cases List.drop b.length a<;>simp [less]
  ·have g1:decide ((k:Int)<a.length)=false:=by simp;omega
   have e2:((k:Int)==a.length)=true:=by simp;omega
   have hka':k=a.length:=by omega
   (repeat (first|simp only [↓QA,QB,Nat.reduceLT,reduceIte,Nat.reduceEqDiff,Nat.reduceAdd,Nat.reduceLeDiff,Nat.reduceMul,Nat.reduceBEq,g1]|refine rd0 rfl ?_))
   refine aG (fun h3=>?_) fun h3=>?_
   ·have h3':k=b.length:=by simp at h3;omega
    (repeat (first|simp only [↓QA,QB,Nat.reduceLT,reduceIte,Nat.reduceEqDiff,Nat.reduceAdd,Nat.reduceLeDiff,Nat.reduceMul,Nat.reduceBEq]|refine rd0 rfl ?_))
    rw [←hl,h3',List.drop_length]
    cases List.drop b.length a<;>simp [less]
   ·have h3':k<b.length:=by simp at h3;omega
    (repeat (first|simp only [↓QA,QB,Nat.reduceLT,reduceIte,Nat.reduceEqDiff,Nat.reduceAdd,Nat.reduceLeDiff,Nat.reduceMul,Nat.reduceBEq,h3,e2]|refine rd0 rfl ?_))
    rw [←hl,hka',List.drop_length,List.drop_eq_getElem_cons (by omega)]
    simp [less]
theorem qY:∀ a,less a a=false
 |[]=>rfl
 |a::az=>by simp [less,qY az]
theorem BQ:∀ a b,less a b=false→less b a=false→a=b
 |[],[],_,_=>rfl
 |[],b::bs,h,_=>by simp [less] at h
 |a::az,[],_,h=>by simp [less] at h
 |a::az,b::bs,h1,h2=>by
  by_cases hab:a=b
  ·subst hab
   simp [less] at h1 h2
   rw [BQ az bs h1 h2]
  ·simp [less,hab,Ne.symm hab] at h1 h2
   omega
theorem OR (a b:Nat):((a:Int)==(b:Int))=decide (a=b):=by rw [Bool.eq_iff_iff];simp;omega
theorem oA (a b:List Int) (ha:a.length<9223372036854775808) (hb:b.length<9223372036854775808):dR T 27 [ints a,ints b] (.bool (decide (a=b))):=by
 refine bE (af:=a27) rfl (by simp [a27]) dd ?_
 (repeat (first|simp only [↓QA,QB,Nat.reduceLT,reduceIte,Nat.reduceEqDiff,Nat.reduceAdd,Nat.reduceLeDiff,Nat.reduceMul,Nat.reduceBEq,a27]|refine rd0 rfl ?_))
 refine aG (fun h=>?_) fun h=>?_
 ·(repeat (first|simp only [↓QA,QB,Nat.reduceLT,reduceIte,Nat.reduceEqDiff,Nat.reduceAdd,Nat.reduceLeDiff,Nat.reduceMul,Nat.reduceBEq,h]|refine rd0 rfl ?_))
  refine aC (FZ a b ha hb) rfl dd ?_
  (repeat (first|simp only [↓QA,QB,Nat.reduceLT,reduceIte,Nat.reduceEqDiff,Nat.reduceAdd,Nat.reduceLeDiff,Nat.reduceMul,Nat.reduceBEq,h]|refine rd0 rfl ?_))
  cases h1:less a b
  ·(repeat (first|simp only [↓QA,QB,Nat.reduceLT,reduceIte,Nat.reduceEqDiff,Nat.reduceAdd,Nat.reduceLeDiff,Nat.reduceMul,Nat.reduceBEq,h]|refine rd0 rfl ?_))
   refine aC (FZ b a hb ha) rfl dd ?_
   (repeat (first|simp only [↓QA,QB,Nat.reduceLT,reduceIte,Nat.reduceEqDiff,Nat.reduceAdd,Nat.reduceLeDiff,Nat.reduceMul,Nat.reduceBEq,h]|refine rd0 rfl ?_))
   cases h2:less b a
   ·rw [BQ a b h1 h2];simp
   ·have:a≠b:=by rintro rfl;rw [qY] at h2;cases h2
    simp [this]
  ·have:a≠b:=by rintro rfl;rw [qY] at h1;cases h1
   (repeat (first|simp only [↓QA,QB,Nat.reduceLT,reduceIte,Nat.reduceEqDiff,Nat.reduceAdd,Nat.reduceLeDiff,Nat.reduceMul,Nat.reduceBEq,h]|refine rd0 rfl ?_))
   simp [this]
 ·have:a≠b:=by rintro rfl;simp at h
  (repeat (first|simp only [↓QA,QB,Nat.reduceLT,reduceIte,Nat.reduceEqDiff,Nat.reduceAdd,Nat.reduceLeDiff,Nat.reduceMul,Nat.reduceBEq,h]|refine rd0 rfl ?_))
  simp [this]
def fW (a b:List Int):Bool:=if a.length=b.length then less a b else decide (a.length<b.length)
theorem G8 (a b:ByteArray):(a.toList==b.toList)=decide (a=b):=by
 rw [Bool.eq_iff_iff];simp
 constructor
 ·intro h;rw [Go.Lib.toList_data,Go.Lib.toList_data] at h;exact ByteArray.ext (Array.toList_inj.1 h)
 ·rintro rfl;rfl
def lD (s:ByteArray):List ByteArray→Nat
 |[]=>0
 |x::xs=>if x=s then 0 else lD s xs+1
def BD (s:ByteArray) (l:List ByteArray):Int:=if lD s l=l.length then -1 else lD s l
theorem L7 {s:ByteArray} {l:List ByteArray} {k:Nat} (h:k<l.length) (hx:l[k]≠s):k+lD s (l.drop k)=k+1+lD s (l.drop (k+1)):=by
 rw [List.drop_eq_getElem_cons h];simp [lD,hx];omega
theorem H0 (l:List ByteArray) (s:ByteArray) (hl:l.length<9223372036854775808):dR T 104 [KO l,.str s] (.int .i64 (BD s l)):=by
 refine bE (af:=a104) rfl (by simp [a104]) dd ?_
 (repeat (first|simp only [↓QA,QB,Nat.reduceLT,reduceIte,Nat.reduceEqDiff,Nat.reduceAdd,Nat.reduceLeDiff,Nat.reduceMul,Nat.reduceBEq,a104]|refine rd0 rfl ?_))
 refine bY (S:=Nat) 0 (fun k=>k≤l.length∧k+lD s (l.drop k)=lD s l) (fun k=>l.length-k) (fun k=>[(0,KO l),(1,.str s),(5,.int .i64 k)]) (fun _=>[]) ⟨Nat.zero_le _,by simp⟩ rfl ?_ fun k hk=>?_
 ·try simp only [aE,QE,Nat.reduceLT,reduceIte,Nat.reduceEqDiff,Nat.reduceAdd,Nat.reduceLeDiff,Nat.reduceMul,Nat.reduceBEq]
  try simp
 ·obtain ⟨hkl,ha⟩:=hk
  (repeat (first|simp only [↓QA,QB,Nat.reduceLT,reduceIte,Nat.reduceEqDiff,Nat.reduceAdd,Nat.reduceLeDiff,Nat.reduceMul,Nat.reduceBEq,WA,G8]|refine rd0 rfl ?_))
  refine aG (fun h=>?_) fun h=>?_
  ·have hk1:k<l.length:=by simpa using h
   have e2:((k:Int)==l.length)=false:=by simp;omega
   (repeat (first|simp only [↓QA,QB,Nat.reduceLT,reduceIte,Nat.reduceEqDiff,Nat.reduceAdd,Nat.reduceLeDiff,Nat.reduceMul,Nat.reduceBEq,h,hk1,G8]|refine rd0 rfl ?_))
   refine aG (fun h3=>?_) fun h3=>?_
   ·have h3':l[k]≠s:=by simpa using h3
    (repeat (first|simp only [↓QA,QB,Nat.reduceLT,reduceIte,Nat.reduceEqDiff,Nat.reduceAdd,Nat.reduceLeDiff,Nat.reduceMul,Nat.reduceBEq,h3]|refine rd0 rfl ?_))
    refine ⟨k+1,⟨by omega,by rw [←L7 hk1 h3'];exact ha⟩,by omega,?_⟩
    try simp only [aE,QE,Nat.reduceLT,reduceIte,Nat.reduceEqDiff,Nat.reduceAdd,Nat.reduceLeDiff,Nat.reduceMul,Nat.reduceBEq,bX hk1 hl]
   ·have h3':l[k]=s:=by simpa using h3
    have h4:lD s (l.drop k)=0:=by rw [List.drop_eq_getElem_cons hk1];simp [lD,h3']
    (repeat (first|simp only [↓QA,QB,Nat.reduceLT,reduceIte,Nat.reduceEqDiff,Nat.reduceAdd,Nat.reduceLeDiff,Nat.reduceMul,Nat.reduceBEq,h3,e2]|refine rd0 rfl ?_))
    simp only [BD]
    rw [if_neg (by omega)]
    simp;omega
  ·have hk1:k=l.length:=by simp at h;omega
   have e2:((k:Int)==l.length)=true:=by simp;omega
   have h4:lD s (l.drop k)=0:=by rw [hk1,List.drop_length];rfl
   (repeat (first|simp only [↓QA,QB,Nat.reduceLT,reduceIte,Nat.reduceEqDiff,Nat.reduceAdd,Nat.reduceLeDiff,Nat.reduceMul,Nat.reduceBEq,h,e2]|refine rd0 rfl ?_))
   simp only [BD]
   rw [if_pos (by omega)]
def CG (i:Nat) (b:Int):Bool:=inR b 97 122||(decide (0<i)&&(b==46||inR b 48 57))
def iW (s:ByteArray):Nat→Bool
 |0=>true
 |k+1=>iW s k&&CG k (fI s k)
def qB (s:ByteArray):Bool:=inR s.size 1 16&&iW s s.size
theorem AL (s:ByteArray) (hs:s.size<9223372036854775808):dR T 105 [.str s] (.bool (qB s)):=by
 refine bE (af:=a105) rfl (by simp [a105]) dd ?_
 (repeat (first|simp only [↓QA,QB,Nat.reduceLT,reduceIte,Nat.reduceEqDiff,Nat.reduceAdd,Nat.reduceLeDiff,Nat.reduceMul,Nat.reduceBEq,a105]|refine rd0 rfl ?_))
 ((first|refine aC (gU _ _ _) rfl dd ?_|refine aD (gU _ _ _) rfl dd ?_);(repeat (first|simp only [↓QA,QB,Nat.reduceLT,reduceIte,Nat.reduceEqDiff,Nat.reduceAdd,Nat.reduceLeDiff,Nat.reduceMul,Nat.reduceBEq]|refine rd0 rfl ?_)))
 refine bY (S:=Nat) 0 (fun k=>k≤s.size) (fun k=>s.size-k) (fun k=>[(0,.str s),(3,.bool (inR s.size 1 16&&iW s k)),(4,.int .i64 k)]) (fun _=>[]) (Nat.zero_le _) rfl ?_ fun k hk=>?_
 ·try simp only [aE,QE,Nat.reduceLT,reduceIte,Nat.reduceEqDiff,Nat.reduceAdd,Nat.reduceLeDiff,Nat.reduceMul,Nat.reduceBEq,iW]
  try simp
 ·(repeat (first|simp only [↓QA,QB,Nat.reduceLT,reduceIte,Nat.reduceEqDiff,Nat.reduceAdd,Nat.reduceLeDiff,Nat.reduceMul,Nat.reduceBEq,WI]|refine rd0 rfl ?_))
  refine aG (fun h=>?_) fun h=>?_
  ·have hk1:k<s.size:=by simpa using h
   have hb:=FJ s k
   have hw:IntKind.i64.wrap (fI s k)=fI s k:=dU ⟨by omega,by omega⟩
   have fin:∀ (later:Bool),later=(decide (0<k)&&(fI s k==46||inR (fI s k) 48 57))→(inR s.size 1 16&&iW s k&&(inR (fI s k) 97 122||later))=(inR s.size 1 16&&iW s (k+1)):=by
    rintro _ rfl
    simp only [iW,CG,Bool.and_assoc]
   have tail:∀ (later:Bool) (e:Env),later=(decide (0<k)&&(fI s k==46||inR (fI s k) 48 57))→True:=fun _ _ _=>trivial
   (repeat (first|simp only [↓QA,QB,Nat.reduceLT,reduceIte,Nat.reduceEqDiff,Nat.reduceAdd,Nat.reduceLeDiff,Nat.reduceMul,Nat.reduceBEq,hk1,hw]|refine rd0 rfl ?_))
   cases h0:decide ((0:Int)<k)
   ·have h0':decide (0<k)=false:=by simpa using h0
    (repeat (first|simp only [↓QA,QB,Nat.reduceLT,reduceIte,Nat.reduceEqDiff,Nat.reduceAdd,Nat.reduceLeDiff,Nat.reduceMul,Nat.reduceBEq,hk1,hw]|refine rd0 rfl ?_))
    cases hf:(inR s.size 1 16&&iW s k)
    ·(repeat (first|simp only [↓QA,QB,Nat.reduceLT,reduceIte,Nat.reduceEqDiff,Nat.reduceAdd,Nat.reduceLeDiff,Nat.reduceMul,Nat.reduceBEq,hk1,hw,hf]|refine rd0 rfl ?_))
     refine ⟨k+1,by omega,by omega,?_⟩
     try simp only [aE,QE,Nat.reduceLT,reduceIte,Nat.reduceEqDiff,Nat.reduceAdd,Nat.reduceLeDiff,Nat.reduceMul,Nat.reduceBEq,bX hk1 hs,←fin false (by simp [h0']),hf]
     try simp
    ·(repeat (first|simp only [↓QA,QB,Nat.reduceLT,reduceIte,Nat.reduceEqDiff,Nat.reduceAdd,Nat.reduceLeDiff,Nat.reduceMul,Nat.reduceBEq,hk1,hw,hf]|refine rd0 rfl ?_))
     ((first|refine aC (gU _ _ _) rfl dd ?_|refine aD (gU _ _ _) rfl dd ?_);(repeat (first|simp only [↓QA,QB,Nat.reduceLT,reduceIte,Nat.reduceEqDiff,Nat.reduceAdd,Nat.reduceLeDiff,Nat.reduceMul,Nat.reduceBEq]|refine rd0 rfl ?_)))
     cases h2:inR (fI s k) 97 122
     all_goals
      (repeat (first|simp only [↓QA,QB,Nat.reduceLT,reduceIte,Nat.reduceEqDiff,Nat.reduceAdd,Nat.reduceLeDiff,Nat.reduceMul,Nat.reduceBEq,hk1,hw,hf]|refine rd0 rfl ?_))
      refine ⟨k+1,by omega,by omega,?_⟩
      try simp only [aE,QE,Nat.reduceLT,reduceIte,Nat.reduceEqDiff,Nat.reduceAdd,Nat.reduceLeDiff,Nat.reduceMul,Nat.reduceBEq,bX hk1 hs,←fin false (by simp [h0']),hf,h2]
      try simp
   ·have h0':decide (0<k)=true:=by simpa using h0
    (repeat (first|simp only [↓QA,QB,Nat.reduceLT,reduceIte,Nat.reduceEqDiff,Nat.reduceAdd,Nat.reduceLeDiff,Nat.reduceMul,Nat.reduceBEq,hk1,hw]|refine rd0 rfl ?_))
    cases h1:(fI s k==46)
    ·(repeat (first|simp only [↓QA,QB,Nat.reduceLT,reduceIte,Nat.reduceEqDiff,Nat.reduceAdd,Nat.reduceLeDiff,Nat.reduceMul,Nat.reduceBEq,hk1,hw]|refine rd0 rfl ?_))
     ((first|refine aC (gU _ _ _) rfl dd ?_|refine aD (gU _ _ _) rfl dd ?_);(repeat (first|simp only [↓QA,QB,Nat.reduceLT,reduceIte,Nat.reduceEqDiff,Nat.reduceAdd,Nat.reduceLeDiff,Nat.reduceMul,Nat.reduceBEq]|refine rd0 rfl ?_)))
     cases hf:(inR s.size 1 16&&iW s k)
     ·(repeat (first|simp only [↓QA,QB,Nat.reduceLT,reduceIte,Nat.reduceEqDiff,Nat.reduceAdd,Nat.reduceLeDiff,Nat.reduceMul,Nat.reduceBEq,hk1,hw,hf]|refine rd0 rfl ?_))
      refine ⟨k+1,by omega,by omega,?_⟩
      try simp only [aE,QE,Nat.reduceLT,reduceIte,Nat.reduceEqDiff,Nat.reduceAdd,Nat.reduceLeDiff,Nat.reduceMul,Nat.reduceBEq,bX hk1 hs,←fin _ rfl,hf]
      try simp
     ·(repeat (first|simp only [↓QA,QB,Nat.reduceLT,reduceIte,Nat.reduceEqDiff,Nat.reduceAdd,Nat.reduceLeDiff,Nat.reduceMul,Nat.reduceBEq,hk1,hw,hf]|refine rd0 rfl ?_))
      ((first|refine aC (gU _ _ _) rfl dd ?_|refine aD (gU _ _ _) rfl dd ?_);(repeat (first|simp only [↓QA,QB,Nat.reduceLT,reduceIte,Nat.reduceEqDiff,Nat.reduceAdd,Nat.reduceLeDiff,Nat.reduceMul,Nat.reduceBEq]|refine rd0 rfl ?_)))
      cases h2:inR (fI s k) 97 122
      all_goals
       (repeat (first|simp only [↓QA,QB,Nat.reduceLT,reduceIte,Nat.reduceEqDiff,Nat.reduceAdd,Nat.reduceLeDiff,Nat.reduceMul,Nat.reduceBEq,hk1,hw,hf]|refine rd0 rfl ?_))
       refine ⟨k+1,by omega,by omega,?_⟩
       try simp only [aE,QE,Nat.reduceLT,reduceIte,Nat.reduceEqDiff,Nat.reduceAdd,Nat.reduceLeDiff,Nat.reduceMul,Nat.reduceBEq,bX hk1 hs,←fin _ rfl,hf,h2,h0',h1]
       try simp
    ·(repeat (first|simp only [↓QA,QB,Nat.reduceLT,reduceIte,Nat.reduceEqDiff,Nat.reduceAdd,Nat.reduceLeDiff,Nat.reduceMul,Nat.reduceBEq,hk1,hw]|refine rd0 rfl ?_))
     cases hf:(inR s.size 1 16&&iW s k)
     ·(repeat (first|simp only [↓QA,QB,Nat.reduceLT,reduceIte,Nat.reduceEqDiff,Nat.reduceAdd,Nat.reduceLeDiff,Nat.reduceMul,Nat.reduceBEq,hk1,hw,hf]|refine rd0 rfl ?_))
      refine ⟨k+1,by omega,by omega,?_⟩
      try simp only [aE,QE,Nat.reduceLT,reduceIte,Nat.reduceEqDiff,Nat.reduceAdd,Nat.reduceLeDiff,Nat.reduceMul,Nat.reduceBEq,bX hk1 hs,←fin _ rfl,hf]
      try simp
     ·(repeat (first|simp only [↓QA,QB,Nat.reduceLT,reduceIte,Nat.reduceEqDiff,Nat.reduceAdd,Nat.reduceLeDiff,Nat.reduceMul,Nat.reduceBEq,hk1,hw,hf]|refine rd0 rfl ?_))
      ((first|refine aC (gU _ _ _) rfl dd ?_|refine aD (gU _ _ _) rfl dd ?_);(repeat (first|simp only [↓QA,QB,Nat.reduceLT,reduceIte,Nat.reduceEqDiff,Nat.reduceAdd,Nat.reduceLeDiff,Nat.reduceMul,Nat.reduceBEq]|refine rd0 rfl ?_)))
      cases h2:inR (fI s k) 97 122
      all_goals
       (repeat (first|simp only [↓QA,QB,Nat.reduceLT,reduceIte,Nat.reduceEqDiff,Nat.reduceAdd,Nat.reduceLeDiff,Nat.reduceMul,Nat.reduceBEq,hk1,hw,hf]|refine rd0 rfl ?_))
       refine ⟨k+1,by omega,by omega,?_⟩
       try simp only [aE,QE,Nat.reduceLT,reduceIte,Nat.reduceEqDiff,Nat.reduceAdd,Nat.reduceLeDiff,Nat.reduceMul,Nat.reduceBEq,bX hk1 hs,←fin _ rfl,hf,h2,h0',h1]
       try simp
  ·have hk1:k=s.size:=by simp at h;omega
   (repeat (first|simp only [↓QA,QB,Nat.reduceLT,reduceIte,Nat.reduceEqDiff,Nat.reduceAdd,Nat.reduceLeDiff,Nat.reduceMul,Nat.reduceBEq]|refine rd0 rfl ?_))
   simp [qB,hk1]
def fresh (s:ByteArray) (before:List ByteArray):Int:=if qB s=false then 6 else if lD s before=before.length then 0 else 5
theorem RV (s:ByteArray) (l:List ByteArray) (hs:s.size<9223372036854775808) (hl:l.length<9223372036854775808):dR T 75 [.str s,KO l] (.int .i64 (fresh s l)):=by
 refine bE (af:=a75) rfl (by simp [a75]) dd ?_
 (repeat (first|simp only [↓QA,QB,Nat.reduceLT,reduceIte,Nat.reduceEqDiff,Nat.reduceAdd,Nat.reduceLeDiff,Nat.reduceMul,Nat.reduceBEq,a75]|refine rd0 rfl ?_))
 ((first|refine aC (H0 l s hl) rfl dd ?_|refine aD (H0 l s hl) rfl dd ?_);(repeat (first|simp only [↓QA,QB,Nat.reduceLT,reduceIte,Nat.reduceEqDiff,Nat.reduceAdd,Nat.reduceLeDiff,Nat.reduceMul,Nat.reduceBEq]|refine rd0 rfl ?_)))
 refine aG (fun h=>?_) fun h=>?_
 ·have hin:lD s l≠l.length:=by
   intro e
   simp [BD,e] at h
  (repeat (first|simp only [↓QA,QB,Nat.reduceLT,reduceIte,Nat.reduceEqDiff,Nat.reduceAdd,Nat.reduceLeDiff,Nat.reduceMul,Nat.reduceBEq]|refine rd0 rfl ?_))
  ((first|refine aC (AL s hs) rfl dd ?_|refine aD (AL s hs) rfl dd ?_);(repeat (first|simp only [↓QA,QB,Nat.reduceLT,reduceIte,Nat.reduceEqDiff,Nat.reduceAdd,Nat.reduceLeDiff,Nat.reduceMul,Nat.reduceBEq]|refine rd0 rfl ?_)))
  cases hn:qB s
  all_goals
   (repeat (first|simp only [↓QA,QB,Nat.reduceLT,reduceIte,Nat.reduceEqDiff,Nat.reduceAdd,Nat.reduceLeDiff,Nat.reduceMul,Nat.reduceBEq]|refine rd0 rfl ?_))
   simp [fresh,hn,hin]
 ·have hin:lD s l=l.length:=by
   simp only [BD] at h
   split at h
   ·assumption
   ·simp at h
  (repeat (first|simp only [↓QA,QB,Nat.reduceLT,reduceIte,Nat.reduceEqDiff,Nat.reduceAdd,Nat.reduceLeDiff,Nat.reduceMul,Nat.reduceBEq]|refine rd0 rfl ?_))
  ((first|refine aC (AL s hs) rfl dd ?_|refine aD (AL s hs) rfl dd ?_);(repeat (first|simp only [↓QA,QB,Nat.reduceLT,reduceIte,Nat.reduceEqDiff,Nat.reduceAdd,Nat.reduceLeDiff,Nat.reduceMul,Nat.reduceBEq]|refine rd0 rfl ?_)))
  cases hn:qB s
  all_goals
   (repeat (first|simp only [↓QA,QB,Nat.reduceLT,reduceIte,Nat.reduceEqDiff,Nat.reduceAdd,Nat.reduceLeDiff,Nat.reduceMul,Nat.reduceBEq]|refine rd0 rfl ?_))
   simp [fresh,hn,hin]
def aU (a:Int):Nat→List Int
 |0=>[]
 |n+1=>a::aU (a+1) n
theorem lB:∀ n a,(aU a n).length=n
 |0,_=>rfl
 |n+1,a=>by simp [aU,lB n]
theorem cC:∀ n a x,x∈aU a n↔a≤x∧x<a+n
 |0,a,x=>by simp [aU]
 |n+1,a,x=>by simp [aU,cC n];omega
def w8 (i:Nat) (c:List Int):Int:=if 0<i then (c[i-1]?).getD 0+1 else 0
def N5 (below i:Nat) (c:List Int):List (List Int):=(aU (w8 i c) ((below:Int)-w8 i c).toNat).map fun n=>c++[n]
def dM (below:Nat):Nat→List (List Int)
 |0=>[[]]
 |i+1=>(dM below i).flatMap (N5 below i)
theorem oG (below:Nat):∀ i c,c∈dM below i→c.length=i∧∀ x∈c,0≤x∧x<below
 |0,c,h=>by simp [dM] at h;subst h;simp
 |i+1,c,h=>by
  simp only [dM,List.mem_flatMap] at h
  obtain ⟨d,h1,h2⟩:=h
  obtain ⟨q1,q2⟩:=oG below i d h1
  simp only [N5,List.mem_map,cC] at h2
  obtain ⟨n,h3,rfl⟩:=h2
  refine ⟨by simp [q1],fun x hx=>?_⟩
  rcases List.mem_append.1 hx with hx|hx
  ·exact q2 x hx
  ·simp at hx
   subst hx
   have:0≤w8 i d:=by
    unfold w8
    split
    ·rename_i hi
     have hlt:i-1<d.length:=by omega
     have:=q2 d[i-1] (List.getElem_mem hlt)
     simp [hlt]
     omega
    ·omega
   omega
theorem AG {α β:Type} (f:α→List β) (b:Nat):∀ l:List α,(∀ x∈l,(f x).length≤b)→(l.flatMap f).length≤l.length*b
 |[],_=>by simp
 |x::l,h=>by
  have h1:=h x (by simp)
  have h2:=AG f b l fun y hy=>h y (List.mem_cons_of_mem _ hy)
  simp only [List.flatMap_cons,List.length_append,List.length_cons,Nat.add_mul]
  omega
theorem m7 (l:List (List Int)):aM 1 (l.map ints)=true:=rR 1 ints l fun x=>aAW _ _ _
theorem lP (l:List Int):aM 1 (l.map (.int .i64))=true:=rR 1 _ l fun x=>V8 _ _
theorem rN {a:Int} {below:Nat} (h:a<below):aU a ((below:Int)-a).toNat=a::aU (a+1) ((below:Int)-(a+1)).toNat:=by
 rw [show ((below:Int)-a).toNat=((below:Int)-(a+1)).toNat+1 by omega];rfl
theorem rM {a:Int} {below:Nat} (h:¬a<below):aU a ((below:Int)-a).toNat=[]:=by
 rw [show ((below:Int)-a).toNat=0 by omega];rfl
theorem vT:∀ {a b c:List Int},less a b=true→less b c=true→less a c=true
 |a,b,[],h1,h2=>by cases b<;>simp [less] at h2
 |a,[],c::cs,h1,h2=>by cases a<;>simp [less] at h1
 |[],b::bs,c::cs,h1,h2=>by simp [less]
 |a::az,b::bs,c::cs,h1,h2=>by
  simp only [less] at *
  by_cases hab:a=b
  ·subst hab
   by_cases hac:a=c
   ·subst hac
    simp only [if_true] at *
    exact vT h1 h2
   ·simp only [hac,if_false,if_true] at *
    exact h2
  ·by_cases hbc:b=c
   ·subst hbc
    simp only [hab,if_false,if_true,decide_eq_true_eq] at *
    exact h1
   ·simp only [hab,hbc,if_false,decide_eq_true_eq] at *
    rw [if_neg (by omega)]
    simp;omega
theorem xU (a:List Int):fW a a=false:=by simp [fW,qY]
theorem zJ {a b c:List Int} (h1:fW a b=true) (h2:fW b c=true):fW a c=true:=by
 simp only [fW] at *
 by_cases e1:a.length=b.length<;>by_cases e2:b.length=c.length
 ·simp only [e1,e2,if_true] at *;exact vT h1 h2
 ·simp only [e1,e2,if_true,if_false,decide_eq_true_eq] at *;exact h2
 ·rw [if_neg e1] at h1;rw [if_neg (by omega)];simp at h1 ⊢;omega
 ·simp only [e1,e2,if_false,decide_eq_true_eq] at *
  rw [if_neg (by omega)];simp;omega
theorem EG {a b:List Int} (h1:fW a b=false) (h2:fW b a=false):a=b:=by
 simp only [fW] at *
 by_cases e1:a.length=b.length
 ·simp only [e1,if_true] at *
  exact BQ a b h1 h2
 ·rw [if_neg e1] at h1;rw [if_neg (Ne.symm e1)] at h2
  simp at h1 h2;omega
theorem GH {a b c:List Int} (h1:fW b a=false) (h2:fW c b=false):fW c a=false:=by
 rw [Bool.eq_false_iff]
 intro h
 by_cases hab:fW a b=true
 ·rw [zJ h hab] at h2;cases h2
 ·have:=EG (by simpa using hab) h1
  subst this
  rw [h] at h2;cases h2
def lst (n s:Nat):List Int:=(aU 0 n).filter fun i=>decide (s/2^i.toNat%2=1)
theorem aCM:∀ n:Fin 7,∀ s:Fin 64,s.val<2^n.val→lst n s∈dM n (lst n s).length:=by decide +kernel
theorem SR:∀ n m:Fin 7,∀ c∈dM n m,∃ s:Fin 64,s.val<2^n.val∧lst n s=c:=by decide +kernel
theorem CZ:∀ n m:Fin 7,(dM n m).Pairwise fun a b=>less a b=true:=by decide +kernel
theorem KD:∀ n:Fin 7,(dM n n).length=1:=by decide +kernel
theorem G7 (n s:Nat):(lst n s).length≤n:=by
 have:=List.length_filter_le (fun i:Int=>decide (s/2^i.toNat%2=1)) (aU 0 n)
 rw [lB] at this
 exact this
def eV (f:List Int→Bool) (n:Nat):Nat→Nat→Option (List Int)
 |0,_=>none
 |k+1,m=>match (dM n m).find? f with
  |some l=>some l
  |none=>eV f n k (m+1)
theorem GX:∀ n:Fin 7,∀ c∈dM n n,∀ j:Fin 7,j.val<n.val→c.contains ((j.val:Nat):Int)=true:=by decide +kernel
def kE (f:List Int→Bool) (o:Option (List Int)) (l:List Int):Option (List Int):=match o with
 |none=>if f l=true then some l else none
 |some b=>if fW b l=true then some b else if f l=true then some l else some b
def oD (f:List Int→Bool) (n:Nat):Nat→Nat→Option (List Int)→Option (List Int)
 |0,_,o=>o
 |k+1,s,o=>oD f n k (s+1) (kE f o (lst n s))
theorem xP (f:List Int→Bool) (n:Nat):∀ k s o,(∀ w,o=some w→f w=true∧∃ t,t<s∧w=lst n t∧∀ t',t'<s→f (lst n t')=true→fW (lst n t') w=false)→(o=none→∀ t,t<s→f (lst n t)=false) →
  (∀ w,oD f n k s o=some w→f w=true∧∃ t,t<s+k∧w=lst n t∧∀ t',t'<s+k→f (lst n t')=true→fW (lst n t') w=false)∧(oD f n k s o=none→∀ t,t<s+k→f (lst n t)=false)
 |0,s,o,h1,h2=>⟨h1,h2⟩
 |k+1,s,o,h1,h2=>by
  have ih:=xP f n k (s+1) (kE f o (lst n s))
  rw [show s+1+k=s+(k+1) by omega] at ih
  simp only [oD]
  have last:∀ (w:List Int) t',t'<s+1→(∀ t'',t''<s→f (lst n t'')=true→fW (lst n t'') w=false)→(f (lst n s)=true→fW (lst n s) w=false)→f (lst n t')=true→fW (lst n t') w=false:=by
   intro w t' ht h3 h4 hs
   by_cases he:t'=s
   ·subst he;exact h4 hs
   ·exact h3 t' (by omega) hs
  refine ih (fun w hw=>?_) fun hn t ht=>?_
  ·cases o with
   |none =>
    simp only [kE] at hw
    split at hw
    ·rename_i hs
     simp only [Option.some.injEq] at hw
     subst hw
     refine ⟨hs,s,by omega,rfl,fun t' ht hst=>last _ t' ht (fun t'' h4 h5=>by rw [h2 rfl t'' h4] at h5;cases h5) (fun _=>xU _) hst⟩
    ·cases hw
   |some b =>
    obtain ⟨q1,t,q2,q3,q4⟩:=h1 b rfl
    simp only [kE] at hw
    split at hw
    ·rename_i hf
     simp only [Option.some.injEq] at hw
     subst hw
     refine ⟨q1,t,by omega,q3,fun t' ht hst=>last _ t' ht q4 (fun _=>?_) hst⟩
     rw [Bool.eq_false_iff]
     intro h5
     have:=zJ hf h5
     rw [xU] at this;cases this
    ·rename_i hf
     split at hw
     ·rename_i hs
      simp only [Option.some.injEq] at hw
      subst hw
      refine ⟨hs,s,by omega,rfl,fun t' ht hst=>last _ t' ht (fun t'' h4 h5=>?_) (fun _=>xU _) hst⟩
      exact GH (by simpa using hf) (q4 t'' h4 h5)
     ·rename_i hs
      simp only [Option.some.injEq] at hw
      subst hw
      exact ⟨q1,t,by omega,q3,fun t' ht hst=>last _ t' ht q4 (fun h5=>absurd h5 hs) hst⟩
  ·cases o with
   |none =>
    simp only [kE] at hn
    split at hn
    ·cases hn
    ·rename_i hs
     by_cases he:t=s
     ·subst he;simpa using hs
     ·exact h2 rfl t (by omega)
   |some b =>
    simp only [kE] at hn
    split at hn
    ·cases hn
    ·split at hn<;>cases hn
theorem o5:∀ {n i:Nat} {c:List Int},c∈dM n i→i≤n:=by
 intro n i
 cases i with
 |zero=>intros;omega
 |succ i =>
  intro c hc
  simp only [dM,List.mem_flatMap,N5,List.mem_map,cC] at hc
  obtain ⟨d,hd,x,hx,rfl⟩:=hc
  have key:∀ j (d:List Int),d∈dM n j→(j:Int)≤w8 j d:=by
   intro j
   induction j with
   |zero=>intro d _;simp [w8]
   |succ j ih =>
    intro d hd
    simp only [dM,List.mem_flatMap,N5,List.mem_map,cC] at hd
    obtain ⟨d',hd',y,hy,rfl⟩:=hd
    have h5:=ih d' hd'
    have h6:=(oG n j d' hd').1
    simp only [w8,Nat.succ_pos,if_true,Nat.add_sub_cancel]
    rw [List.getElem?_append_right (by omega),h6,Nat.sub_self]
    simp only [List.getElem?_cons_zero,Option.getD_some]
    omega
  have:=key i d hd
  omega
theorem o7 (f:List Int→Bool) (n:Nat) (hN:n≤6):∀ k m,(∀ m',m'<m→∀ c∈dM n m',f c=false) →
  (∀ l,eV f n k m=some l→l∈dM n l.length∧f l=true∧∀ m',∀ c∈dM n m',f c=true→fW c l=false)∧(eV f n k m=none→∀ m',m'<m+k→∀ c∈dM n m',f c=false)
 |0,m,hlow=>⟨fun l h=>by simp [eV] at h,fun _ m' h c hc=>hlow m' (by omega) c hc⟩
 |k+1,m,hlow=>by
  simp only [eV]
  cases hf:(dM n m).find? f with
  |none =>
   simp only
   have ih:=o7 f n hN k (m+1) fun m' hm' c hc=>by
    by_cases he:m'=m
    ·subst he
     rw [List.find?_eq_none] at hf
     simpa using hf c hc
    ·exact hlow m' (by omega) c hc
   exact ⟨ih.1,fun h m' hm'=>ih.2 h m' (by omega)⟩
  |some l =>
   simp only
   refine ⟨fun l' h=>?_,fun h=>by cases h⟩
   cases h
   have hmem:=List.mem_of_find?_eq_some hf
   have hs:=List.find?_some hf
   have hlen:=(oG _ _ _ hmem).1
   rw [hlen]
   refine ⟨hmem,hs,fun m' c hc hsc=>?_⟩
   have hcl:=(oG _ _ _ hc).1
   by_cases h1:m'<m
   ·rw [hlow m' h1 c hc] at hsc;cases hsc
   ·by_cases he:m'=m
    ·subst he
     rw [Bool.eq_false_iff]
     intro hlt
     simp only [fW,hcl,hlen,if_true] at hlt
     obtain ⟨pre,post,e1,e2⟩:=(List.find?_eq_some_iff_append.1 hf).2
     have hmn:=o5 hmem
     have hpw:=CZ ⟨n,by omega⟩ ⟨m',by omega⟩
     simp only at hpw
     rw [e1] at hc hpw
     rcases List.mem_append.1 hc with hc|hc
     ·have:=e2 c hc
      rw [hsc] at this;cases this
     ·rcases List.mem_cons.1 hc with rfl|hc
      ·rw [qY] at hlt;cases hlt
      ·have:=(List.pairwise_append.1 hpw).2.1
       have:=(List.pairwise_cons.1 this).1 c hc
       have h3:=vT hlt this
       rw [qY] at h3;cases h3
    ·simp only [fW];rw [if_neg (by omega)];simp;omega
theorem aCP (f:List Int→Bool) (n:Nat) (hN:n≤6):oD f n (2^n) 0 none=eV f n (n+1) 0:=by
 have hp:2^n≤2^6:=Nat.pow_le_pow_right (by omega) hN
 obtain ⟨w1,w2⟩:=o7 f n hN (n+1) 0 (fun m' h=>by omega)
 obtain ⟨s1,s2⟩:=xP f n (2^n) 0 none (fun w h=>by cases h) (fun _ t h=>by omega)
 rw [Nat.zero_add] at s1 s2
 cases hf:oD f n (2^n) 0 none with
 |none =>
  cases hg:eV f n (n+1) 0 with
  |none=>rfl
  |some l =>
   obtain ⟨a,b,c⟩:=w1 l hg
   have hle:=o5 a
   obtain ⟨t,ht,hlt⟩:=SR ⟨n,by omega⟩ ⟨l.length,by omega⟩ l a
   have:=s2 hf t.val ht
   rw [show lst n t.val=l from hlt,b] at this;cases this
 |some w =>
  obtain ⟨q1,t',q2,q3,q4⟩:=s1 w hf
  have hin:=aCM ⟨n,by omega⟩ ⟨t',by omega⟩ q2
  simp only at hin
  rw [←q3] at hin
  have hle:w.length≤n:=by rw [q3];exact G7 _ _
  cases hg:eV f n (n+1) 0 with
  |none =>
   have:=w2 hg w.length (by omega) w hin
   rw [q1] at this;cases this
  |some l =>
   obtain ⟨a,b,c⟩:=w1 l hg
   have hll:=o5 a
   obtain ⟨t,ht,hlt⟩:=SR ⟨n,by omega⟩ ⟨l.length,by omega⟩ l a
   have a1:=q4 t.val ht (by rw [show lst n t.val=l from hlt];exact b)
   rw [show lst n t.val=l from hlt] at a1
   have a2:=c w.length w hin q1
   rw [EG a1 a2]
open Go
variable {P:Program}
def oX (P:Program) (t:TypeId) (ts:List TypeId):Prop:=∃ fs,P.underlying t=some (.struct fs)∧fs.toList.map Field.type=ts
theorem C8 {n:Nat} {t:TypeId} {ts:List TypeId} {cs:List AV} (hu:oX P t ts) (h:Typ P (n+1) t cs):mkV P t cs = .agg cs∧NQ P n ts cs:=by
 obtain ⟨fs,h1,h2⟩:=hu
 have:=MU h1 h
 rw [h2] at this
 exact ⟨MN h1,this⟩
theorem FY {t:TypeId} {a:AV} {d:TypeDesc} (hu:P.underlying t=some d) (hd:∀ fs,d≠.struct fs:=by intro fs h;cases h) (hd2:∀ k e,d≠.array k e:=by intro k e h;cases h):mkV P t [a]=a:=ZI (by rw [hu];intro fs e;cases e;exact hd _ rfl) (by rw [hu];intro k e h;cases h;exact hd2 _ _ rfl)
theorem XE {n:Nat} {i t:TypeId} {cs:List AV} (hi:P.underlying i=some (.int .i64)) (hs:oX P t [i,i]) (h:Typ P (n+2) t cs):∃ s:Span,cs=[.int .i64 s.lo,.int .i64 s.hi]:=by
 obtain ⟨_,a,b,rfl,h1,c,d,rfl,h2,rfl⟩:=C8 hs h
 obtain ⟨x,rfl,_⟩:=jV hi h1
 obtain ⟨y,rfl,_⟩:=jV hi h2
 exact ⟨⟨x,y⟩,rfl⟩
theorem aC1 {n:Nat} {t:TypeId} {cs:List AV} (hi:P.underlying t=some (.int .i64)) (h:Typ P (n+1) t cs):∃ x:Int,mkV P t cs = .int .i64 x∧True:=by
 obtain ⟨x,rfl,_⟩:=jV hi h
 exact ⟨x,FY hi,trivial⟩
theorem YD {n:Nat} {t i:TypeId} {cs:List AV} (hi:P.underlying i=some (.int .i64)) (hs:P.underlying t=some (.slice i)) (h:Typ P (n+2) t cs):∃ l:List Int,mkV P t cs=Go.Am.ints l∧cs=[Go.Am.ints l]∧l.length<9223372036854775808:=by
 obtain ⟨l,rfl,⟨h1,_⟩,_⟩:=uF (f:=fun x:Int=>AV.int .i64 x) hs h fun y hy=>aC1 hi hy
 exact ⟨l,FY hs,rfl,h1⟩
end Go.Am.Room
namespace Go.Am.Room
def bK {α:Type} (f:Nat→α→Int):List α→Nat→Option (Nat×Int)
 |[],_=>none
 |x::xs,i=>if f i x=0 then bK f xs (i+1) else some (i,f i x)
theorem jL {α:Type} {f:Nat→α→Int} {l:List α} {k:Nat} (h:k<l.length):bK f (l.drop k) k=if f k l[k]=0 then bK f (l.drop (k+1)) (k+1) else some (k,f k l[k]):=by
 rw [List.drop_eq_getElem_cons h];rfl
theorem kG {α:Type} {f:Nat→α→Int} {l:List α} {k:Nat} (h:k=l.length):bK f (l.drop k) k=none:=by
 rw [h,List.drop_length];rfl
def iE:List Int→Span
 |[]=>⟨0,0⟩
 |x::xs=>xs.foldl mN ⟨x,x⟩
def eP (yes all:Nat):Int:=if yes=all then 1 else if yes=0 then 2 else 0
theorem d5 {n lo hi:Int}:inR n lo hi=true↔lo≤n∧n≤hi:=by simp [inR]
theorem DY {s:Span} {lo hi:Int} (h:pK s lo hi=0):lo≤s.lo∧s.lo≤s.hi∧s.hi≤hi:=by
 unfold pK at h
 split at h
 ·omega
 ·rename_i h1
  split at h
  ·omega
  ·simp [inR] at h1;omega
theorem ZQ {s:Span} {lo hi:Int} (h:lo≤s.lo∧s.lo≤s.hi∧s.hi≤hi):pK s lo hi=0:=by
 unfold pK
 rw [d5.2 ⟨h.1,by omega⟩,d5.2 ⟨by omega,h.2.2⟩]
 simp
 omega
theorem lN {α:Type} {f:Nat→α→Int}:∀ {l:List α} {i:Nat},bK f l i=none→∀ k (h:k<l.length),f (i+k) l[k]=0
 |[],_,_,k,h=>by simp at h
 |x::xs,i,h,k,hk=>by
  simp only [bK] at h
  split at h
  ·rename_i h0
   cases k with
   |zero=>exact h0
   |succ k =>
    have:=lN h k (by simpa using hk)
    simpa [Nat.add_assoc,Nat.add_comm 1 k] using this
  ·cases h
theorem j7 {α:Type} {f:Nat→α→Int}:∀ {l:List α} {i j:Nat} {e:Int},bK f l i=some (j,e)→e≠0
 |[],_,_,_,h=>by cases h
 |x::xs,i,j,e,h=>by
  simp only [bK] at h
  split at h
  ·exact j7 h
  ·rename_i hn
   simp at h
   rw [←h.2]
   exact hn
theorem wV:∀ (n:Nat) (a:Int),aU a (n+1)=aU a n++[a+n]
 |0,a=>by simp [aU]
 |n+1,a=>by
  rw [aU,wV n (a+1)]
  simp only [aU,List.cons_append]
  congr 3
  omega
structure Rail where
 a:Int
 b:Int
 mins:Span
 shut:Int
structure Tram where
 name:ByteArray
 frm:Int
 leaves:Int
 due:Int
 path:List Int
structure Seen where
 tram:Int
 minute:Int
structure Net where
 stations:Int
 rails:List Rail
 trams:List Tram
 seen:List Seen
def cF (r:Rail):AV:=.agg [.int .i64 r.a,.int .i64 r.b,.int .i64 r.mins.lo,.int .i64 r.mins.hi,.int .i64 r.shut]
theorem aW (r:Rail):cF r = .agg [.int .i64 r.a,.int .i64 r.b,.int .i64 r.mins.lo,.int .i64 r.mins.hi,.int .i64 r.shut]:=by simp only [cF]
theorem jM (r:Rail):mD (cF r):=j5 (bJ (dC _ _) (bJ (dC _ _) (bJ (dC _ _) (bJ (dC _ _) (bJ (dC _ _) bP)))))
instance (r:Rail):Dat (cF r):=⟨jM r⟩
instance (l:List Rail):Dats (l.map cF):=⟨bL jM l⟩
theorem bF (σ:St) (m d:Nat) (l:List Rail):dN σ m d (l.map cF)=some (l.map cF):=mH (bL jM l) σ m d
def aZ (t:Tram):AV:=.agg [.str t.name,.int .i64 t.frm,.int .i64 t.leaves,.int .i64 t.due,ints t.path]
theorem aT (t:Tram):aZ t = .agg [.str t.name,.int .i64 t.frm,.int .i64 t.leaves,.int .i64 t.due,ints t.path]:=by simp only [aZ]
theorem iX (t:Tram):mD (aZ t):=j5 (bJ (xG _) (bJ (dC _ _) (bJ (dC _ _) (bJ (dC _ _) (bJ (jP _) bP)))))
instance (t:Tram):Dat (aZ t):=⟨iX t⟩
instance (l:List Tram):Dats (l.map aZ):=⟨bL iX l⟩
theorem bC (σ:St) (m d:Nat) (l:List Tram):dN σ m d (l.map aZ)=some (l.map aZ):=mH (bL iX l) σ m d
def bN (x:Seen):AV:=.agg [.int .i64 x.tram,.int .i64 x.minute]
theorem aS (x:Seen):bN x = .agg [.int .i64 x.tram,.int .i64 x.minute]:=by simp only [bN]
theorem oQ (x:Seen):mD (bN x):=j5 (bJ (dC _ _) (bJ (dC _ _) bP))
instance (x:Seen):Dat (bN x):=⟨oQ x⟩
instance (l:List Seen):Dats (l.map bN):=⟨bL oQ l⟩
theorem bA (σ:St) (m d:Nat) (l:List Seen):dN σ m d (l.map bN)=some (l.map bN):=mH (bL oQ l) σ m d
def aB (v:Net):List AV:=[.int .i64 v.stations,.lit (v.rails.map cF) false none,.lit (v.trams.map aZ) false none,.lit (v.seen.map bN) false none]
theorem aI (v:Net):aB v=[.int .i64 v.stations,.lit (v.rails.map cF) false none,.lit (v.trams.map aZ) false none,.lit (v.seen.map bN) false none]:=by simp only [aB]
def bI (v:Net):AV:=.agg (aB v)
theorem bH (v:Net):bI v = .agg (aB v):=by simp only [bI]
theorem B1 (v:Net):mD (bI v):=j5 (bJ (dC _ _) (bJ (fJ jM _) (bJ (fJ iX _) (bJ (fJ oQ _) bP))))
instance (v:Net):Dat (bI v):=⟨B1 v⟩
structure Fits (v:Net):Prop where
 rails:v.rails.length<9223372036854775808
 trams:v.trams.length<9223372036854775808
 seen:v.seen.length<9223372036854775808
 names:∀ t∈v.trams,t.name.size<9223372036854775808
 paths:∀ t∈v.trams,t.path.length<9223372036854775808
def nT (v:Net) (s:Int):Bool:=inR s 0 (v.stations-1)
def dA (v:Net) (r:Rail):Int :=
 if nT v r.a=false∨nT v r.b=false then 4 else if r.a=r.b then 2
 else if pK r.mins 1 20=7∨inR r.shut 0 2=false then 7 else if pK r.mins 1 20≠0∨r.mins.lo+1<r.mins.hi then 2 else 0
def dI (r:Rail) (s:Int):Int:=if s=r.a then r.b else if s=r.b then r.a else -1
def bS (v:Net) (r:Int):Rail:=(v.rails[r.toNat]?).getD ⟨0,0,⟨0,0⟩,0⟩
def jC (v:Net):List Int→Int→List Int→Bool
 |[],s,_=>s==0
 |r::l,s,met =>
  if dI (bS v r) s<0∨met.contains (dI (bS v r) s)=true∨(dI (bS v r) s=0∧l≠[]) then false
  else jC v l (dI (bS v r) s) (met++[dI (bS v r) s])
def gY (v:Net) (s:Int) (path:List Int):Bool:=if inR path.length 1 4=false∨s=0 then false else jC v path s [s]
def gO (v:Net) (t:Tram):Int :=
 if nT v t.frm=false then 4 else if inR t.leaves 0 60=false∨inR t.due 0 400=false then 7
 else if inR t.path.length 1 4=false then 3 else if t.path.all (fun r=>inR r 0 ((v.rails.length:Int)-1))=false then 4
 else if gY v t.frm t.path=false then 2 else 0
def iF (v:Net) (i:Nat) (t:Tram):Int:=if fresh t.name ((v.trams.take i).map Tram.name)=0 then gO v t else fresh t.name ((v.trams.take i).map Tram.name)
def jX (v:Net) (_:Nat) (x:Seen):Int:=if inR x.tram 0 ((v.trams.length:Int)-1)=false then 4 else if inR x.minute (-1) 400=false then 7 else 0
def nP (v:Net):Int×Int×Int:=if 3<v.seen.length then (4,0,3) else match bK (jX v) v.seen 0 with|some (i,e)=>(4,i,e)|none=>(0,0,0)
def nY (v:Net):Int×Int×Int:=if 3<v.trams.length then (3,0,3) else match bK (iF v) v.trams 0 with|some (i,e)=>(3,i,e)|none=>nP v
def nU (v:Net):Int×Int×Int:=if 5<v.rails.length then (2,0,3) else match bK (fun _ r=>dA v r) v.rails 0 with|some (i,e)=>(2,i,e)|none=>nY v
def cA (v:Net):Int×Int×Int:=if inR v.stations 2 5=false then (1,0,7) else nU v
def MD (v:Net) (but l:List Int) (r:Int):Bool:=!decide ((bS v r).shut=1)&&!but.contains r&&!l.contains r
def BS (v:Net) (but l:List Int):List (List Int):=((aU 0 v.rails.length).filter (MD v but l)).map fun r=>l++[r]
def iC (v:Net) (but:List Int):Nat→List (List Int)
 |0=>[[]]
 |k+1=>(iC v but k).flatMap (BS v but)
def iI (v:Net) (s:Int) (but:List Int):Nat→List (List Int)
 |0=>[]
 |k+1=>iI v s but k++(iC v but (k+1)).filter (gY v s)
def eJ (v:Net) (s:Int) (but:List Int):List (List Int):=iI v s but 4
def pR (v:Net) (s:Int):List (List Int)×Int:=if (cA v).2.2=0 then (if nT v s=true then (eJ v s [],0) else ([],4)) else ([],(cA v).2.2)
structure State where
 closed:List Bool
 mins:List Int
def B8 (s:Span):List Int:=aU s.lo (s.hi+1-s.lo).toNat
def u4 (shut:Int) (c:Bool):Bool:=!(c&&decide (shut=0)||!c&&decide (shut=1))
def zX (r:Rail) (s:State):List State:=(B8 r.mins).flatMap fun m=>([false,true].filter (u4 r.shut)).map fun c=>⟨s.closed++[c],s.mins++[m]⟩
def oH (rs:List Rail):Nat→List State
 |0=>[⟨[],[]⟩]
 |k+1=>match rs[k]? with|some r=>(oH rs k).flatMap (zX r)|none=>oH rs k
def bD (v:Net):List State:=oH v.rails v.rails.length
def eff (s:State) (r:Int):Int:=if (s.closed[r.toNat]?).getD false=true then 0 else (s.mins[r.toNat]?).getD 0
structure Stay where
 tram:Int
 rail:Int
 frm:Int
 til:Int
def iN (rail ready m:Int) (x:Stay):Bool:=decide (x.rail=rail)&&decide (x.frm<ready+m)&&decide (ready<x.til)
def qI (ss:List Stay) (rail m:Int):Nat→Int→Int
 |0,s=>s
 |k+1,s=>if ss.any (iN rail s m)=true then qI ss rail m k (s+1) else s
def g7 (ss:List Stay) (rail ready m:Int):Int:=qI ss rail m 1000 ready
def kM (m:Int→Int) (i:Int):List Int→Int→List Stay→List Stay×Int
 |[],at_,ss=>(ss,at_)
 |r::l,at_,ss=>kM m i l (g7 ss r at_ (m r)+m r) (ss++[⟨i,r,g7 ss r at_ (m r),g7 ss r at_ (m r)+m r⟩])
def j3 (m:Int→Int) (i:Int) (leaves:Int) (path:List Int) (ss:List Stay):List Stay×Int :=
 if path.any (fun r=>m r==0)=true then (ss,-1) else kM m i path leaves ss
def jI (v:Net) (i:Nat):Int:=match v.trams[i]? with|some t=>t.leaves|none=>0
def eI (ps:List (List Int)) (i:Nat):List Int:=(ps[i]?).getD []
def dB (v:Net) (m:Int→Int) (ps:List (List Int)):Nat→List Stay×List Int
 |0=>([],[])
 |k+1=>((j3 m k (jI v k) (eI ps k) (dB v m ps k).1).1,(dB v m ps k).2++[(j3 m k (jI v k) (eI ps k) (dB v m ps k).1).2])
def iO (v:Net) (ps:List (List Int)) (m:Int→Int):List Int:=(dB v m ps v.trams.length).2
def fY (v:Net):List (List Int):=v.trams.map Tram.path
def aX (v:Net) (s:State):List Int:=iO v (fY v) (eff s)
def cT (cs:List Int) (t:Int):Int:=(cs[t.toNat]?).getD 0
def jZ (v:Net) (but cs:List Int):Bool:=(List.range v.seen.length).all fun k=>match v.seen[k]? with|some x=>but.contains (k:Int)||cT cs x.tram==x.minute|none=>true
def aJ (v:Net) (but:List Int):List State:=(bD v).filter fun s=>jZ v but (aX v s)
def kT (v:Net) (but:List Int):Bool:=!(aJ v but).isEmpty
def fZ (v:Net) (e:Int):Int:=if e=0 then (if (aJ v []).isEmpty then 8 else 0) else e
def eS (v:Net):Int:=fZ v (cA v).2.2
def hJ (v:Net) (t:Int):Int:=fZ v (if (cA v).2.2=0 then (if inR t 0 ((v.trams.length:Int)-1) then 0 else 4) else (cA v).2.2)
def dY (v:Net) (l:List State) (t:Nat):List Int:=l.map fun s=>cT (aX v s) t
def dF (ats:List Int):List Int:=ats.filter fun c=>!decide (c = -1)
def bR (ats:List Int):Span×Int:=(iE (dF ats),eP (dF ats).length ats.length)
def kP (v:Net) (t:Int):Span×Int×Int:=if hJ v t=0 then ((bR (dY v (aJ v []) t.toNat)).1,(bR (dY v (aJ v []) t.toNat)).2,0) else (⟨0,0⟩,0,hJ v t)
def qT (v:Net) (t:Nat):Int:=match v.trams[t]? with|some x=>x.due|none=>0
def jE (v:Net) (t:Nat) (c:Int):Bool:=!decide (c = -1)&&decide (c≤qT v t)
def mF (v:Net) (t:Int) (s:State):Bool:=!jE v t.toNat (cT (aX v s) t)
def wX (v:Net) (l:List State) (t:Int):Bool:=l.all (mF v t)
def wT (v:Net) (l:List State) (t:Int):Bool:=l.any (mF v t)
def j8 (v:Net) (l:List State):List Int:=(aU 0 v.trams.length).filter (wX v l)
def kQ (v:Net) (l:List State):List Int:=(aU 0 v.trams.length).filter (wT v l)
def oW (v:Net):List Int×List Int×Int:=if eS v=0 then (j8 v (aJ v []),kQ v (aJ v []),0) else ([],[],eS v)
def gR (v:Net):List Int→Int→Int
 |[],b=>b
 |t::l,b=>gR v l (if b<0∨qT v t.toNat<qT v b.toNat then t else b)
def kX (v:Net):Int×Int:=if eS v=0 then (if kQ v (aJ v [])=[] then (0,9) else (gR v (kQ v (aJ v [])) (-1),0)) else (0,eS v)
def RU (v:Net) (ps:List (List Int)) (s:State):Bool:=(List.range v.trams.length).all fun t=>jE v t (cT (iO v ps (eff s)) t)
def SG (v:Net) (l:List State) (ps:List (List Int)):Bool:=l.all (RU v ps)
def oK (v:Net) (ps:List (List Int)):List Int:=(aU 0 ps.length).filter fun t=>!decide (eI ps t.toNat=eI (fY v) t.toNat)
def g8 (v:Net) (t:Nat):Int:=match v.trams[t]? with|some x=>x.frm|none=>0
def oI (v:Net):Nat→List (List (List Int))
 |0=>[[]]
 |k+1=>(oI v k).flatMap fun p=>(eJ v (g8 v k) []).map fun w=>p++[w]
def wI (v:Net):List (List (List Int)):=oI v v.trams.length
def M3 (v:Net) (l:List State) (many:Nat) (p:List (List Int)):Bool:=(oK v p).length==many&&SG v l p
def xQ (v:Net) (l:List State):Nat→Nat→Option (List (List Int))
 |0,_=>none
 |k+1,m=>match (wI v).find? (M3 v l m) with|some p=>some p|none=>xQ v l k (m+1)
def s7 (v:Net) (l:List State):Option (List (List Int)):=xQ v l (v.trams.length+1) 0
def rX (v:Net):List (List Int)×List Int×Int:=if eS v=0 then (match s7 v (aJ v []) with|some p=>(p,oK v p,0)|none=>([],[],9)) else ([],[],eS v)
def mE (r:Int) (s:State):Bool:=(s.closed[r.toNat]?).getD false
def sQ (v:Net) (l:List State):List Int:=(aU 0 v.rails.length).filter fun r=>l.all (mE r)
def zU (v:Net) (l:List State):List Int:=(aU 0 v.rails.length).filter fun r=>l.any (mE r)
def qH (v:Net):List Int×List Int×Int:=if eS v=0 then (sQ v (aJ v []),zU v (aJ v []),0) else ([],[],eS v)
def B4 (v:Net) (r:Int):Int:=(((List.range v.trams.length).filter fun t=>(eJ v (g8 v t) [r]).isEmpty).length:Int)
def sY (v:Net):List Int→Int×Int→Int×Int
 |[],b=>b
 |r::l,b=>sY v l (if (bS v r).shut=1 then b else if b.1<0∨b.2<B4 v r then (r,B4 v r) else b)
def wR (v:Net):Int×Int:=sY v (aU 0 v.rails.length) (-1,0)
def uQ (v:Net):Int×Int×Int:=if (cA v).2.2=0 then (if (wR v).1<0 then (0,0,9) else ((wR v).1,(wR v).2,0)) else (0,0,(cA v).2.2)
def mU (v:Net):List Int:=(eV (kT v) v.seen.length v.seen.length 0).getD (((dM v.seen.length v.seen.length)[0]?).getD [])
def kY (v:Net):List Int×Int:=if (cA v).2.2=0 then (mU v,0) else ([],(cA v).2.2)
def UA:ByteArray:=⟨#[114,101,100]⟩
def L5:ByteArray:=⟨#[98,108,117,101]⟩
def exN (o:Bool) (l:List Seen):Net:=⟨4,[⟨1,0,⟨5,6⟩,if o then 2 else 0⟩,⟨2,1,⟨4,4⟩,0⟩,⟨2,0,⟨12,12⟩,if o then 0 else 2⟩,⟨3,2,⟨3,3⟩,0⟩],[⟨UA,2,0,12,[1,0]⟩,⟨L5,3,0,24,[3,1,0]⟩],l⟩
def exH:Net:=exN false []
def exK:Net:=exN true []
def exS:Net:=exN true [⟨0,-1⟩,⟨1,15⟩]
def exT:Net:=exN true [⟨0,-1⟩]
theorem x1:pR exH 3=([[3,2],[3,1,0]],0):=by decide +kernel
theorem x2:kP exH 1=(⟨14,16⟩,1,0):=by decide +kernel
theorem x3:(kP exK 1).2=(0,0):=by decide +kernel
theorem x4:(kP exT 0).2=(2,0):=by decide +kernel
theorem x5:oW exK=([],[0,1],0):=by decide +kernel
theorem x6:kX exK=(0,0):=by decide +kernel
theorem x7:kX exH=(0,9):=by decide +kernel
theorem x8:rX exK=([[2],[3,2]],[0,1],0):=by decide +kernel
theorem x9:qH exH=([],[2],0):=by decide +kernel
theorem x10:uQ exH=(3,1,0):=by decide +kernel
theorem x11:kY exS=([1],0):=by decide +kernel
theorem x12:kX exS=(0,8):=by decide +kernel
open Go
variable {P:Program}
structure Tys (P:Program):Prop where
 int:P.underlying 3=some (.int .i64)
 u8:P.underlying 5=some (.int .u8)
 str:P.underlying 9=some .string
 rails:P.underlying 22=some (.slice 87)
 trams:P.underlying 23=some (.slice 65)
 seens:P.underlying 24=some (.slice 53)
 net:oX P 26 [3,22,23,24]
 span:oX P 37 [3,3]
 ints:P.underlying 40=some (.slice 3)
 seen:oX P 53 [3,3]
 u16:P.underlying 56=some (.int .u16)
 tram:oX P 65 [9,3,3,3,40]
 u8s:P.underlying 74=some (.slice 5)
 rail:oX P 87 [3,3,37,3]
 a2:P.underlying 91=some (.array 2 5)
 seenB:P.bytesOf 53=16
 tramB:P.bytesOf 65=64
theorem ZW {n:Nat} {cs:List AV} (T:Tys P) (h:Typ P (n+3) 87 cs):∃ s:Rail,mkV P 87 cs=cF s∧True:=by
 obtain ⟨e,a1,b1,rfl,h1,a2,b2,rfl,h2,a3,b3,rfl,h3,a4,b4,rfl,h4,rfl⟩:=C8 T.rail h
 obtain ⟨x1,rfl,_⟩:=jV T.int h1
 obtain ⟨x2,rfl,_⟩:=jV T.int h2
 obtain ⟨x3,rfl⟩:=XE T.int T.span h3
 obtain ⟨x4,rfl,_⟩:=jV T.int h4
 exact ⟨⟨x1,x2,x3,x4⟩,e,trivial⟩
theorem NO {n:Nat} {cs:List AV} (T:Tys P) (h:Typ P (n+3) 65 cs):∃ s:Tram,mkV P 65 cs=aZ s∧(s.name.size<9223372036854775808∧s.path.length<9223372036854775808):=by
 obtain ⟨e,a1,b1,rfl,h1,a2,b2,rfl,h2,a3,b3,rfl,h3,a4,b4,rfl,h4,a5,b5,rfl,h5,rfl⟩:=C8 T.tram h
 obtain ⟨x1,rfl,hx⟩:=Z9 T.str h1
 obtain ⟨x2,rfl,_⟩:=jV T.int h2
 obtain ⟨x3,rfl,_⟩:=jV T.int h3
 obtain ⟨x4,rfl,_⟩:=jV T.int h4
 obtain ⟨x5,_,rfl,l5⟩:=YD T.int T.ints h5
 exact ⟨⟨x1,x2,x3,x4,x5⟩,e,by simp only [maxLen] at hx;simp only;omega,l5⟩
theorem NY {n:Nat} {cs:List AV} (T:Tys P) (h:Typ P (n+2) 53 cs):∃ s:Seen,mkV P 53 cs=bN s∧True:=by
 obtain ⟨e,a,b,rfl,h1,c,d,rfl,h2,rfl⟩:=C8 T.seen h
 obtain ⟨x,rfl,_⟩:=jV T.int h1
 obtain ⟨y,rfl,_⟩:=jV T.int h2
 exact ⟨⟨x,y⟩,e,trivial⟩
theorem F6 {n:Nat} {cs:List AV} (T:Tys P) (h:Typ P (n+5) 26 cs):∃ s:Net,mkV P 26 cs=bI s∧Fits s∧s.seen.length*16≤140737488351232∧s.trams.length*64≤140737488351232:=by
 obtain ⟨e,a1,b1,rfl,h1,a2,b2,rfl,h2,a3,b3,rfl,h3,a4,b4,rfl,h4,rfl⟩:=C8 T.net h
 obtain ⟨x1,rfl,_⟩:=jV T.int h1
 obtain ⟨x2,rfl,⟨l2,_⟩,_⟩:=uF T.rails h2 fun y hy=>ZW T hy
 obtain ⟨x3,rfl,⟨l3,b3⟩,q3⟩:=uF T.trams h3 fun y hy=>NO T hy
 obtain ⟨x4,rfl,⟨l4,b4⟩,_⟩:=uF T.seens h4 fun y hy=>NY T hy
 exact ⟨⟨x1,x2,x3,x4⟩,e,⟨l2,l3,l4,fun t ht=>(q3 t ht).1,fun t ht=>(q3 t ht).2⟩,by rw [T.seenB] at b4;simpa [reachBytes] using b4,by rw [T.tramB] at b3;simpa [reachBytes] using b3⟩
end Go.Am.Room
namespace Go.Am.Room
structure RailOk (v:Net) (r:Rail):Prop where
 a:0≤r.a∧r.a<v.stations
 b:0≤r.b∧r.b<v.stations
 ne:r.a≠r.b
 mins:1≤r.mins.lo∧r.mins.lo≤r.mins.hi∧r.mins.hi≤20∧r.mins.hi≤r.mins.lo+1
 shut:0≤r.shut∧r.shut≤2
structure Vd (v:Net):Prop where
 st:2≤v.stations∧v.stations≤5
 nra:v.rails.length≤5
 ra:∀ r∈v.rails,RailOk v r
 ntr:v.trams.length≤3
 tr:∀ i (h:i<v.trams.length),iF v i v.trams[i]=0
 nse:v.seen.length≤3
 se:∀ x∈v.seen,(0≤x.tram∧x.tram<v.trams.length)∧-1≤x.minute∧x.minute≤400
theorem oU {v:Net} {s:Int}:nT v s=true↔0≤s∧s<v.stations:=by
 rw [nT,d5];omega
theorem yS {v:Net} {r:Rail}:dA v r=0↔RailOk v r:=by
 constructor
 ·intro h
  unfold dA at h
  split at h
  ·omega
  rename_i h1
  split at h
  ·omega
  rename_i h2
  split at h
  ·omega
  rename_i h3
  split at h
  ·omega
  rename_i h4
  rw [not_or,Bool.not_eq_false,Bool.not_eq_false,oU,oU] at h1
  rw [not_or,Bool.not_eq_false,d5] at h3
  rw [not_or,Decidable.not_not] at h4
  have:=DY h4.1
  exact ⟨h1.1,h1.2,h2,by omega,h3.2⟩
 ·intro h
  have h1:=h.mins
  have e:=ZQ (show 1≤r.mins.lo∧r.mins.lo≤r.mins.hi∧r.mins.hi≤20 by omega)
  rw [dA,if_neg (by simp [oU.2 h.a,oU.2 h.b]),if_neg h.ne,if_neg (by simp [e,d5.2 h.shut]),if_neg (by simp [e];omega)]
theorem eB {v:Net} (h:(cA v).2.2=0):Vd v:=by
 unfold cA at h
 split at h
 ·simp at h
 rename_i c1
 unfold nU at h
 split at h
 ·simp at h
 rename_i c2
 split at h
 ·rename_i i e he;exact absurd h (j7 he)
 rename_i f2
 unfold nY at h
 split at h
 ·simp at h
 rename_i c3
 split at h
 ·rename_i i e he;exact absurd h (j7 he)
 rename_i f3
 unfold nP at h
 split at h
 ·simp at h
 rename_i c4
 split at h
 ·rename_i i e he;exact absurd h (j7 he)
 rename_i f4
 rw [Bool.not_eq_false,d5] at c1
 refine ⟨c1,by omega,?_,by omega,fun i hi=>by simpa using lN f3 i hi,by omega,?_⟩
 ·intro x hx
  obtain ⟨k,hk,rfl⟩:=List.getElem_of_mem hx
  exact yS.1 (lN f2 k hk)
 ·intro x hx
  obtain ⟨k,hk,rfl⟩:=List.getElem_of_mem hx
  have:=lN f4 k hk
  unfold jX at this
  split at this
  ·omega
  rename_i hi
  split at this
  ·omega
  rename_i hj
  rw [Bool.not_eq_false,d5] at hi hj
  omega
structure TramOk (v:Net) (t:Tram):Prop where
 frm:0≤t.frm∧t.frm<v.stations
 leaves:0≤t.leaves∧t.leaves≤60
 due:0≤t.due∧t.due≤400
 len:1≤t.path.length∧t.path.length≤4
 path:∀ r∈t.path,0≤r∧r<v.rails.length
 leads:gY v t.frm t.path=true
theorem U1 {v:Net} {t:Tram} (h:gO v t=0):TramOk v t:=by
 unfold gO at h
 split at h
 ·omega
 rename_i h1
 split at h
 ·omega
 rename_i h2
 split at h
 ·omega
 rename_i h3
 split at h
 ·omega
 rename_i h4
 split at h
 ·omega
 rename_i h5
 rw [Bool.not_eq_false] at h1 h3 h4 h5
 rw [not_or,Bool.not_eq_false,Bool.not_eq_false,d5,d5] at h2
 rw [oU] at h1
 rw [d5] at h3
 rw [List.all_eq_true] at h4
 exact ⟨h1,h2.1,h2.2,by omega,fun r hr=>by have:=d5.1 (h4 r hr);omega,h5⟩
theorem pU {v:Net} (h:Vd v) {i:Nat} (hi:i<v.trams.length):TramOk v v.trams[i]:=by
 have:=h.tr i hi
 unfold iF at this
 split at this
 ·exact U1 this
 ·rename_i h0;exact absurd this h0
theorem AP {v:Net} {r:Nat} (h:r<v.rails.length):bS v (r:Int)=v.rails[r]:=by simp [bS,h]
theorem lC {σ:St} {sz b:Nat} {xs ys:List AV} {ex f:Bool} {t:Nat} {tk:Option Nat} (h:I0q sz b xs ys) (h0:ys.length≠0) (n:Nat) (hn:n=xs.length) (ht:σ[t]? = some (.tok sz n ex)) :
  dD sz b σ (.lit xs false (some t)) (.lit ys f tk)=some (.lit (xs++ys) false (some t),σ.set t (.tok sz (n+ys.length) true)):=by
 subst hn
 exact uG h h0 ht
theorem dH (m:Nat):∀ (σ a b c:St),EqS m (σ++a) (σ++b) (σ++c)=EqS m a b c
 |[],a,b,c=>rfl
 |x::σ,a,b,c=>by simp only [List.cons_append,EqS,dH m σ a b c,true_or,true_and,and_self]
theorem aJG (a:Nat) (h:a<9223372036854775808):Go.Am.bits .and .i64 (a:Int) 1=((a%2:Nat):Int):=by
 have e1:(BitVec.ofInt 64 (a:Int) &&& BitVec.ofInt 64 1).toNat=a%2:=by
  rw [BitVec.toNat_and]
  have h1:(BitVec.ofInt 64 (a:Int)).toNat=a:=by
   rw [BitVec.toNat_ofInt]
   omega
  have h2:(BitVec.ofInt 64 1).toNat=1:=by decide
  rw [h1,h2,Nat.and_one_is_mod]
 show IntKind.i64.wrap (((BitVec.ofInt 64 (a:Int) &&& BitVec.ofInt 64 1).toNat:Nat):Int)=_
 rw [e1]
 exact dU ⟨by omega,by omega⟩
theorem LV (a:Nat) (h:a<9223372036854775808):gE .and (.int .i64 (a:Int)) (.int .i64 1)=some (.int .i64 ((a%2:Nat):Int)):=by
 simp [gE,lT,aJG a h]
theorem T6 (a i:Nat) (h:i≤60):gE .shr (.int .i64 (a:Int)) (.int .i64 (i:Int))=some (.int .i64 ((a/2^i:Nat):Int)):=by
 have hm:Nat.min i 64=i:=Nat.min_eq_left (by omega)
 have h0:¬(i:Int)<0:=by omega
 simp only [gE,h0,if_false,IntKind.bits,Int.toNat_natCast,hm,Option.some.injEq,AV.int.injEq,true_and]
 rw [Int.fdiv_eq_ediv_of_nonneg _ (Int.pow_nonneg (by omega))]
 norm_cast
theorem d6 (m:Nat) (σ b c:St):EqS m σ (σ++b) (σ++c)=EqS m [] b c:=by have:=dH m σ [] b c;rwa [List.append_nil] at this
def BZ (T:FuncId→Option AFunc) (f:AV) (args:List AV) (σ:St) (v:AV) (σ':St):Prop:=Run T (.callv f args σ) fun o=>o.v=v∧o.σ=σ'
theorem dZ {f:AV} {args:List AV} {v:AV} {σ σ':St} {K:AV→St→Prop} (h:BZ T f args σ v σ') (k:K v σ'):cK (K:=⟨K⟩) T f args σ:=.mono h fun o ho=>by rw [ho.1,ho.2];exact k
theorem MZ (n:Nat):(List.replicate n [AV.int .i64 0]).flatten=List.replicate n (.int .i64 0):=by
 induction n with
 |zero=>rfl
 |succ n ih=>simp [List.replicate_succ,ih]
theorem KR (l:List Int):(l.map (AV.int .i64)).flatMap AV.cells=l.map (.int .i64):=by
 induction l with
 |nil=>rfl
 |cons x l ih=>simp only [List.map_cons,List.flatMap_cons,ih,AV.cells];rfl
theorem AN (z v:AV):OK true z (some (some v))=some (.tuple [v,.bool true]):=rfl
theorem AJ (z:AV):OK true z (some none)=some (.tuple [z,.bool false]):=rfl
theorem NU (k:Nat) (x:ABlk) (hx:aL k x):∀ (A a b c:St) (i:Nat),EqS k (A++a) (A.set i x++b) (A.set i x++c)=EqS k a b c
 |[],a,b,c,i=>by simp
 |y::A,a,b,c,0=>by
  simp only [List.set_cons_zero,List.cons_append,EqS,dH,hx,or_true,true_and,and_self]
 |y::A,a,b,c,i+1=>by
  have:=NU k x hx A a b c i
  simp only [List.set_cons_succ,List.cons_append,EqS,this,true_or,true_and,and_self]
theorem pM (i:Nat):cO 1 (.yield i)=true:=by simp [cO,AV.cells,AV.cell]
theorem pL (i:Nat):(AV.yield i).cells=[.yield i]:=by simp [AV.cells]
theorem JS {f:AOpd} {g:FuncId} {first cap:List AV} {ps:List Nat} {a b:ACode} {e:Env} {σ:St} {K:KJ} {R:Out→Prop} (hf:f.ev e = .func g first cap)
  (h:Run T (.call g (first++[.yield σ.length]++cap) (σ++[.loop .ready none e ps a b])) R)
  (h1:∀ o,R o→∃ st pend env' ps' a' b',o.σ[σ.length]? = some (.loop st pend env' ps' a' b')∧st≠.busy∧K pend e (o.σ.set σ.length .dead)):rK (K:=⟨K⟩) T (.rangeFunc f ps a b) e σ:=.rangeFunc hf h h1
theorem pX {σ:St} {l:List Int} {a:Int} {ex:Bool} {t:Nat} (hn:l.length<100) (ht:σ[t]? = some (.tok 1 l.length ex)):dD 1 8 σ (.lit (l.map (.int .i64)) false (some t)) (.lit [.int .i64 a] true none)=some (.lit ((l++[a]).map (.int .i64)) false (some t),σ.set t (.tok 1 (l.length+1) true)):=by
 rw [uG (ex:=ex) ⟨rR 1 _ l (fun x=>V8 _ _),by simp [aM,AV.cells,AV.cell],by simp [room];omega,by simp [room];omega⟩ (by simp) (by simpa using ht)]
 simp
theorem IR {vs:List AV} (h:n8 vs) (m:Nat):okVs m vs:=okVs_up _ h.1
theorem AC {v:AV} (h:mD v) (m:Nat):okV m v:=(IR (bJ h bP) m).1
end Go.Am.Room
