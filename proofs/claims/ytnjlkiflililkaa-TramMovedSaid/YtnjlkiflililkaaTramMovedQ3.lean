/- A part of the proof of TramMoved: an abstract machine, or what functions come to on it. -/
import Derived.Test.YtnjlkiflililkaaTramMovedQ2
import Derived.RangeFuncLeaves
import Derived.WalkKit
import Derived.ChangeArms
import Derived.SizedLaws
import Derived.ChangeBears
import Derived.ChangeShapes
import Derived.WideShapes
import Derived.ProofKit
import Derived.OpenShut
import Derived.Lib.Strings
import Derived.Laws.RangeAny
set_option linter.unusedVariables false
set_option linter.unusedSimpArgs false
set_option linter.defProp false
namespace Go.Am
variable {P:Program} {hh:String→Bool} {G G0 G1 G2 G':Gh} {w w0 w1 w2 w':World} {σ σ' σ1 σ2:St} {env env':Env} {n m m':Nat} {v:AV}
theorem uH {t:Nat}:∀ {xs:List AV},noToks t xs↔∀ x∈xs,noTok t x
 |[]=>by simp [noToks]
 |x::xs=>by simp [noToks,uH (xs:=xs)]
theorem jA {t:Nat} {xs:List AV} (h:noToks t xs) {i:Nat} {x:AV} (hx:xs[i]? = some x):noTok t x:=uH.1 h x (List.mem_of_getElem? hx)
theorem FV {t:Nat} {x:AV}:noTok t x↔∀ c∈x.cells,noTok t c:=by
 cases x<;>simp [AV.cells,noTok,uH]
theorem u3 {t:Nat} {x c:AV} {j:Nat} (h:noTok t x) (hc:x.cells[j]? = some c):noTok t c:=FV.1 h c (List.mem_of_getElem? hc)
theorem DG {sz:Nat}:∀ {xs:List AV},(∀ (i:Nat) (x:AV),xs[i]? = some x→x.cells.length=sz)→∀ {k:Nat} {c:AV},(xs.flatMap AV.cells)[k]? = some c→∃ i j x,xs[i]? = some x∧x.cells[j]? = some c∧k=i*sz+j
 |[],_,k,c,h=>by simp at h
 |x::xs,hs,k,c,h=>by
  simp only [List.flatMap_cons] at h
  have hx:=hs 0 x rfl
  by_cases hk:k<x.cells.length
  ·rw [List.getElem?_append_left hk] at h
   exact ⟨0,k,x,rfl,h,by omega⟩
  ·rw [List.getElem?_append_right (by omega)] at h
   obtain ⟨i,j,y,h1,h2,h3⟩:=DG (fun i y e=>hs (i+1) y (by simpa using e)) h
   exact ⟨i+1,j,y,by simpa using h1,h2,by rw [Nat.add_mul];omega⟩
theorem G7 {sz:Nat}:∀ {xs:List AV},(∀ (i:Nat) (x:AV),xs[i]? = some x→x.cells.length=sz)→(xs.flatMap AV.cells).length=xs.length*sz
 |[],_=>by simp
 |x::xs,hs=>by
  have hx:=hs 0 x rfl
  have:=G7 (xs:=xs) (fun i y e=>hs (i+1) y (by simpa using e))
  simp only [List.flatMap_cons,List.length_append,List.length_cons,this,hx,Nat.add_mul]
  omega
def Gh.thaw (G:Gh) (t bb:Nat):Gh :=
  { G with
    loc:=fun id=>if id=t then some bb else G.loc id
    lim:=fun b=>if b=bb then none else G.lim b
    own:=fun b=>if G.own b=some t then none else G.own b
    tok:=fun u=>if u=t then none else G.tok u }
theorem RelV.thaw {t bb:Nat} (hl:G.loc t=none) (ho:G.own bb=some t) {a:AV} {u:Value} (h:RelV G w a u) (hn:noTok t a):RelV (G.thaw t bb) w a u:=by
 have hloc:∀ {id b},G.loc id=some b→(G.thaw t bb).loc id=some b:=fun {id b} e=>by
  have:id≠t:=fun e'=>by rw [e',hl] at e;cases e
  simp [Gh.thaw,this,e]
 have hlit:∀ {xs tk b o sz},tk≠some t→LitAt G w xs tk b o sz→LitAt (G.thaw t bb) w xs tk b o sz:=by
  intro xs tk b o sz hne ⟨⟨L,q1,q2⟩,q3,q4,q5⟩
  have hb:b≠bb:=fun e=>hne (q3 t (by rw [e];exact ho))
  refine ⟨⟨L,by simp [Gh.thaw,hb,q1],q2⟩,fun u e=>?_,q4,q5⟩
  simp only [Gh.thaw] at e
  split at e
  ·cases e
  ·exact q3 u e
 have htk:∀ {full tk n base cap},tk≠some t→mI G full tk n base cap→mI (G.thaw t bb) full tk n base cap:=by
  intro full tk n base cap hne ⟨q1,q2,q3⟩
  refine ⟨q1,q2,fun u e=>?_⟩
  obtain ⟨b,m,c,r1,r2⟩:=q3 u e
  have:u≠t:=fun e'=>hne (by rw [e,e'])
  exact ⟨b,m,c,by simp [Gh.thaw,this,r1],r2⟩
 induction h with
 |undef v=>exact .undef v
 |int k n=>exact .int k n
 |bool b=>exact .bool b
 |str s=>exact .str s
 |func e1 e2 _ _ e3 e4=>exact .func e1 e2 (fun i x u q1 q2=>e3 i x u q1 q2 (jA hn.1 q1)) (fun i x u q1 q2=>e4 i x u q1 q2 (jA hn.2 q1))
 |nilFunc=>exact .nilFunc
 |yield h=>exact .yield (hloc h)
 |ptr h=>exact .ptr (hloc h)
 |nilPtr=>exact .nilPtr
 |lptr ht hi hl _ ih =>
  refine .lptr (fun u e=>?_) hi (hlit hn.1 hl) fun i x j c u q1 q2 q3=>ih i x j c u q1 q2 q3 (u3 (jA hn.2 q1) q2)
  obtain ⟨p,q⟩:=ht u e
  have:u≠t:=fun e'=>hn.1 (by rw [e,e'])
  exact ⟨p,by simp [Gh.thaw,this,q]⟩
 |nil ht hb=>exact .nil (htk hn.1 ht) hb
 |lit ht hl _ ih=>exact .lit (htk hn.1 ht) (hlit hn.1 hl) fun i x j c u q1 q2 q3=>ih i x j c u q1 q2 q3 (u3 (jA hn.2 q1) q2)
 |ref h hb hc hn'=>exact .ref (hloc h) hb hc hn'
 |map h=>exact .map (hloc h)
 |nilMap=>exact .nilMap
 |agg h _ ih=>exact .agg h fun i x u q1 q2=>ih i x u q1 q2 (jA hn q1)
 |tuple h _ ih=>exact .tuple h fun i x u q1 q2=>ih i x u q1 q2 (jA hn q1)
theorem I0 {tmps:Array Value} (hS:RelS P hh G w σ) (he:Evo G w G2 w2) (h2:RelS P hh G2 w2 σ1) (hE:fE G2 w2 n env tmps) (hres:∀ id r,G2.res id=some r→G.res id=some r) (ht:PG σ.length env σ1 env' σ2) :
  ∃ G3,RelS P hh G3 w2 σ2∧fE G3 w2 n env' tmps∧Evo G w G3 w2∧G3.defs=G2.defs:=by
 obtain ⟨t,p,xs,sz,t0,tc,t1,t2,tx,t3,t4,t5,t6⟩:=ht
 have hlt:t<σ1.length:=(List.getElem?_eq_some_iff.1 t1).1
 have hp:=hE.2 p
 rw [t2] at hp
 simp only [Env.get,if_true] at hp
 generalize hu:tmps.getD p undef=u at hp
 have hnl:G2.loc t=none:=by
  cases e:G2.loc t with
  |none=>rfl
  |some b=>exact (h2.blk _ _ _ e t1).elim
 obtain ⟨base,cap,rfl,htk,hbn⟩:=j6 hp
 obtain ⟨b0,m0,c0,g1,g2,g3⟩:=htk.2.2 t rfl
 obtain ⟨sz1,ex1,g4,g5,_,g6⟩:=h2.tok _ _ _ _ g1
 rw [t1] at g4
 cases g4
 obtain ⟨rfl,rfl⟩:=g3 rfl rfl
 obtain ⟨bb,vs,T,rfl,r2,r3,r4,r5,r6⟩:=g6 rfl
 have hsize:∀ (i:Nat) (x:AV),xs[i]? = some x→x.cells.length=sz:=fun i x e=>(kZ tc e).1
 have hcells:∀ (i:Nat) (x:AV) (j:Nat) (c:AV) (q:Value),xs[i]? = some x→x.cells[j]? = some c→w2.cell? ⟨bb,i*sz+j,none⟩=some q→RelV G2 w2 c q:=by
  intro i x j c q e1 e2 e3
  cases hp with
  |nil=>simp at e1
  |@lit _ _ _ b' o' sz' _ _ hl hc =>
   have:sz'=sz:=by rw [←hl.size i x e1,hsize i x e1]
   subst this
   exact hc i x j c q e1 e2 (by simpa using e3)
 have hbb:bb<w2.heap.size:=(Array.getElem?_eq_some_iff.1 r5).1
 have hrel:∀ {a:AV} {u:Value},RelV G2 w2 a u→noTok t a→RelV (G2.thaw t bb) w2 a u:=fun h hn=>h.thaw hnl r2 hn
 have hown:∀ {b u},(G2.thaw t bb).own b=some u→G2.own b=some u∧u≠t:=by
  intro b u e
  simp only [Gh.thaw] at e
  split at e
  ·cases e
  ·rename_i hne;exact ⟨e,fun e'=>hne (by rw [e,e'])⟩
 refine ⟨G2.thaw t bb,⟨fun id b e=>?_,fun id b x e1 e2=>?_,fun i j b e1 e2=>?_,fun id b e=>?_,fun b L e=>?_,fun u b k c e=>?_,fun b u e=>?_,fun r e=>?_,h2.base,h2.size,fun id r e=>?_⟩,⟨hE.1,fun q=>?_⟩,⟨fun id b e=>?_,fun b L e=>?_,fun u b k c e=>?_,fun b L u e1 e2=>?_,he.defs,he.B0,he.h0,he.os,he.tape,he.output,he.size,fun id r e=>he.res id r e⟩,rfl⟩
 ·rw [t6,List.length_set]
  simp only [Gh.thaw] at e
  split at e
  ·omega
  ·exact h2.lt _ _ e
 ·simp only [Gh.thaw] at e1
  split at e1
  ·rename_i hid
   subst hid
   cases e1
   rw [t6,List.getElem?_set_self hlt] at e2
   cases e2
   refine ⟨vs,T,r5,?_,fun i a v q1 q2=>?_⟩
   ·rw [G7 hsize]
    exact Nat.le_trans (Nat.mul_le_mul_right _ g5) r6
   ·obtain ⟨i',j,x,p1,p2,rfl⟩:=DG hsize q1
    refine hrel (hcells i' x j a v p1 p2 ?_) (u3 (jA tx p1) p2)
    rw [cell_of_row w2 bb _ vs T (0,0) r5]
    exact q2
  ·rename_i hid
   rw [t6,List.getElem?_set_ne (fun e=>hid e.symm)] at e2
   have hb:=h2.blk _ _ _ e1 e2
   have hn:=t4 id x hid e2
   cases x with
   |cells cs =>
    obtain ⟨vs',T',q1,q2,q3⟩:=hb
    exact ⟨vs',T',q1,q2,fun i a v p1 p2=>hrel (q3 i a v p1 p2) (jA hn p1)⟩
   |map es =>
    obtain ⟨ents,q1,q2,q3,q4⟩:=hb
    exact ⟨ents,q1,q2,q3,fun i p e p1 p2=>⟨hrel (q4 i p e p1 p2).1 (hn p (List.mem_of_getElem? p1)).1,hrel (q4 i p e p1 p2).2 (hn p (List.mem_of_getElem? p1)).2⟩⟩
   |tok _ _ _=>exact hb
   |siter s pos=>exact hb
   |miter m n left last =>
    obtain ⟨bm,seen,stepped,q1,q2⟩:=hb
    refine ⟨bm,seen,stepped,?_,q2⟩
    have:m≠t:=fun e=>by rw [e,hnl] at q1;cases q1
    simp [Gh.thaw,this,q1]
   |loop st pend env ps a c=>exact hn.elim
   |dead=>trivial
 ·have aux:∀ {i},G2.loc i=some bb→False:=fun {i} e=>by have:=(h2.fresh _ _ e).2.2.1;rw [r3] at this;cases this
  simp only [Gh.thaw] at e1 e2
  split at e1<;>split at e2
  ·omega
  ·cases e1;exact (aux e2).elim
  ·cases e2;exact (aux e1).elim
  ·exact h2.inj _ _ _ e1 e2
 ·simp only [Gh.thaw] at e
  split at e
  ·cases e
   refine ⟨r4,hbb,by simp [Gh.thaw],fun hd=>?_⟩
   have:=(h2.defs _ hd).2.2
   rw [r3] at this
   cases this
  ·obtain ⟨q1,q2,q3,q4⟩:=h2.fresh _ _ e
   exact ⟨q1,q2,by simp [Gh.thaw,q3],q4⟩
 ·simp only [Gh.thaw] at e
  split at e
  ·cases e
  ·exact h2.lim _ _ e
 ·simp only [Gh.thaw] at e
  split at e
  ·cases e
  ·rename_i hut
   obtain ⟨sz',ex',q1,q2,q3,q4⟩:=h2.tok _ _ _ _ e
   refine ⟨sz',ex',by rw [t6,List.getElem?_set_ne (fun e=>hut e.symm)];exact q1,q2,q3,fun hx=>?_⟩
   obtain ⟨b',vs',T',s1,s2,s3,s4,s5,s6⟩:=q4 hx
   have hb':b'≠bb:=fun e'=>by rw [e',r2] at s2;cases s2;exact hut rfl
   exact ⟨b',vs',T',s1,by simp [Gh.thaw,s2,hut],by simp [Gh.thaw,hb',s3],s4,s5,s6⟩
 ·obtain ⟨q1,q2⟩:=hown e
  obtain ⟨p1,p,p2⟩:=h2.own _ _ q1
  exact ⟨p1,p,by simp [Gh.thaw,q2,p2]⟩
 ·obtain ⟨q1,q2,q3⟩:=h2.defs r e
  exact ⟨q1,q2,by simp [Gh.thaw,q3]⟩
 ·obtain ⟨q1,q2,q3⟩:=h2.res id r e
  have hid:id≠t:=by have:=(hS.res _ _ (hres _ _ e)).2.1;omega
  refine ⟨by simp [Gh.thaw,hid,q1],by rw [t6,List.length_set];exact q2,fun cs hc=>?_⟩
  rw [t6,List.getElem?_set_ne (fun e=>hid e.symm)]
  exact q3 cs hc
 ·rw [t5]
  by_cases hq:p=q
  ·subst hq
   rw [hu]
   simp only [Env.get,if_true]
   exact .ref (by simp [Gh.thaw]) (fun _=>rfl) g5 (fun e=>by cases e)
  ·simp only [Env.get,hq,if_false]
   have h:=hE.2 q
   rw [t2] at h
   simp only [Env.get,hq,if_false] at h
   refine hrel h ?_
   generalize env.tail=e at t3
   induction e with
   |nil=>trivial
   |cons a e ih =>
    obtain ⟨k,v⟩:=a
    by_cases hk:k=q
    ·simp only [Env.get,hk,if_true];exact t3 (k,v) (by simp)
    ·simp only [Env.get,hk,if_false];exact ih fun q hq=>t3 q (List.mem_cons_of_mem _ hq)
 ·have:=hS.lt _ _ e
  have h:=he.loc _ _ e
  simp [Gh.thaw,show id≠t by omega,h]
 ·obtain ⟨L',q1,q2⟩:=he.lim b L e
  have hb:b≠bb:=by
   intro e'
   subst e'
   obtain ⟨_,p,hp'⟩:=hS.own _ _ (he.own _ _ _ e r2)
   obtain ⟨pb,pn,pc⟩:=p
   obtain ⟨_,_,q,_⟩:=hS.tok _ _ _ _ hp'
   have:=(List.getElem?_eq_some_iff.1 q).1
   omega
  exact ⟨L',by simp [Gh.thaw,hb,q1],q2⟩
 ·obtain ⟨_,_,q,_⟩:=hS.tok _ _ _ _ e
  have:=(List.getElem?_eq_some_iff.1 q).1
  obtain ⟨b',n',c',r1,r2⟩:=he.tok _ _ _ _ e
  exact ⟨b',n',c',by simp [Gh.thaw,show u≠t by omega,r1],r2⟩
 ·exact he.own b L u e1 (hown e2).1
end Go.Am
namespace Go.Am
variable {P:Program} {hh:String→Bool} {G G0 G1 G':Gh} {w w0 w1 w':World} {σ σ' σ1:St} {env env':Env} {n m m':Nat} {v:AV} {a:Act} {Q R S:Out→Prop}
theorem o8.lift {B:Nat} {e:Exit} (he:Evo G w G1 w1) (h:o8 P hh G1 w1 n B Q e a w'):o8 P hh G w n B Q e a w':=by
 obtain ⟨o,G',q1,q2,q3,q4,q5,q6⟩:=h
 exact ⟨o,G',q1,q2,q3,q4,he.trans q5,q6⟩
theorem o8.mono {B:Nat} {e:Exit} (hq:∀ o,Q o→R o) (h:o8 P hh G w n B Q e a w'):o8 P hh G w n B R e a w':=by
 obtain ⟨o,G',q1,q2⟩:=h
 exact ⟨o,G',hq _ q1,q2⟩
def EI (P:Program) (hh:String→Bool) (n:Nat) (ops:Array Oper):List Nat→List AOper→Prop
 |[],[]=>True
 |i::l,d::os=>(∃ o,ops[i]? = some o∧lS P hh n ops o=some d)∧EI P hh n ops l os
 |_,_=>False
def dC (P:Program) (hh:String→Bool):Task→(Out→Prop)→Prop
 |.code c env σ,Q=>∀ {F:Fence} {n:Nat} {cd:Code} {G:Gh} {w:World} {a:Act} {B:Nat},(F=Fence.wide∨∃ l,F=Fence.wide.inRound l∧n7 cd=true)→comp P hh n cd=some c→fE G w n env a.tmps→RelS P hh G w σ →
   pM G B a.defers→B≤w.heap.size→wpL F P cd (o8 P hh G w n B Q) a w
 |.ops os env σ,Q=>∀ {F:Fence} {n:Nat} {ops:Array Oper} {l:List Nat} {G:Gh} {w:World} {a:Act} {B:Nat} {R:Exit→Act→World→Prop},FW F→EI P hh n ops l os→fE G w n env a.tmps→RelS P hh G w σ→pM G B a.defers →
   (∀ o G' a' w',Q o→o.j=none→fE G' w' n o.env a'.tmps→RelS P hh G' w' o.σ→Evo G w G' w'→pM G' B a'.defers→R .normal a' w')→wpOpsIn F 0 P ops R l a w
 |.dops ds env σ next hist reads,Q=>∀ k,hist.length=k+1→hist[k]? = some σ→∃ vs t σf,o5 P hh (hist++t) ds env k next vs∧(hist++t)[k+ds.countP (·.o.op.acts)]? = some σf ∧
   Q ⟨none,dZ ds env vs,σf,.undef⟩∧∀ r∈reads,ARead.ok r (hist++t)
 |.call f args σ,Q=>D8 P hh f args σ Q
 |.callv f args σ,Q=>lH P hh f args σ Q
 |.chain az env σ,Q=>∀ {F:Fence} {n:Nat} {c0:ACode} {cd:Code} {G:Gh} {w:World} {a:Act} {B:Nat} {K:Exit→Act→World→Prop},(F=Fence.wide∨∃ l,F=Fence.wide.inRound l∧n7 cd=true)→comp P hh n cd=some (NY az c0) →
   fE G w n env a.tmps→RelS P hh G w σ→pM G B a.defers→B≤w.heap.size →
   (∀ d o G' a' w',comp P hh n d=some c0→(F=Fence.wide∨∃ l,F=Fence.wide.inRound l∧n7 d=true)→Q o→o.j=none→fE G' w' n o.env a'.tmps→RelS P hh G' w' o.σ→Evo G w G' w'→pM G' B a'.defers→d.wpIn F 0 P K a' w') →
   (∀ o G' a' w',Q o→o.j≠none→fE G' w' n o.env a'.tmps→RelS P hh G' w' o.σ→Evo G w G' w'→pM G' B a'.defers→K (OD o.j) a' w')→cd.wpIn F 0 P K a w
theorem YX {F:Fence} {p:Prop} (h:F=Fence.wide∨∃ l,F=Fence.wide.inRound l∧p):FW F:=by
 rcases h with rfl|⟨l,rfl,_⟩
 ·exact .inl rfl
 ·exact .inr ⟨l,rfl⟩
theorem qD {F:Fence} {p q:Prop} (h:F=Fence.wide∨∃ l,F=Fence.wide.inRound l∧p) (hpq:p→q):F=Fence.wide∨∃ l,F=Fence.wide.inRound l∧q:=by
 rcases h with rfl|⟨l,rfl,h⟩
 ·exact .inl rfl
 ·exact .inr ⟨l,rfl,hpq h⟩
theorem OJ {t:Task} (h:dC P hh t R) (hq:∀ o,R o→Q o):dC P hh t Q:=by
 cases t with
 |code c env σ=>intro F n cd G w a B h1 h2 h3 h4 h5 h6;exact (h h1 h2 h3 h4 h5 h6).mono fun e a w=>o8.mono hq
 |ops os env σ=>intro F n ops l G w a B R' h1 h2 h3 h4 h5 h6;exact h h1 h2 h3 h4 h5 fun o G' a' w' q=>h6 o G' a' w' (hq o q)
 |dops ds env σ next hist reads =>
  intro k h1 h2
  obtain ⟨vs,t,σf,q1,q2,q3,q4⟩:=h k h1 h2
  exact ⟨vs,t,σf,q1,q2,hq _ q3,q4⟩
 |call f args σ =>
  refine ⟨h.1,fun ha hS=>(h.2 ha hS).mono fun e w' hr=>?_⟩
  obtain ⟨r,G',u,q1,q2,q3⟩:=hr
  exact ⟨r,G',u,q1,hq _ q2,q3⟩
 |callv f args σ=>exact KI h hq
 |chain az env σ =>
  intro F n c0 cd G w a B K h1 h2 h3 h4 h5 h6 h7 h8
  exact h h1 h2 h3 h4 h5 h6 (fun d o G' a' w' p1 p2 p3=>h7 d o G' a' w' p1 p2 (hq _ p3)) fun o G' a' w' p=>h8 o G' a' w' (hq _ p)
theorem NC (h:Q ⟨none,env,σ,.undef⟩):dC P hh (.code .skip env σ) Q:=by
 intro F n cd G w a B h1 h2 h3 h4 h5 h6
 have hp:o8 P hh G w n B Q .normal a w:=⟨_,G,h,rfl,h3,h4,.refl _ _,h5⟩
 rcases OL h2 with rfl|⟨l,rfl⟩
 ·exact wpIn_skip hp
 ·exact wpIn_label hp
theorem N7 {j:AJump} (h:Q ⟨some j,env,σ,.undef⟩):dC P hh (.code (.jump j) env σ) Q:=by
 intro F n cd G w a B h1 h2 h3 h4 h5 h6
 have hp:o8 P hh G w n B Q (OD (some j)) a w:=⟨_,G,h,rfl,h3,h4,.refl _ _,h5⟩
 have:=NP h2
 subst this
 cases j with
 |ret=>exact wpIn_ret hp
 |exit id=>exact wpIn_exit hp
theorem OU {x y:ACode} (h:dC P hh (.code x env σ) R) (h1:∀ o,R o→o.j=none→dC P hh (.code y o.env o.σ) Q) (h2:∀ o,R o→o.j≠none→Q o):dC P hh (.code (.seq x y) env σ) Q:=by
 intro F n cd G w a B f1 f2 f3 f4 f5 f6
 obtain ⟨c,d,rfl,c1,c2⟩:=AH f2
 refine wpIn_seq (wpIn_mono (h (qD f1 fun e=>by simp [n7] at e;exact e.1) c1 f3 f4 f5 f6).wpIn fun e a' w' hp=>?_)
 obtain ⟨o,G',q1,rfl,q3,q4,q5,q6⟩:=hp
 cases hj:o.j with
 |none=>exact ((h1 o q1 hj) (qD f1 fun e=>by simp [n7] at e;exact e.2) c2 q3 q4 q6 (Nat.le_trans f6 q5.size)).mono (fun e a w=>o8.lift q5) |>.wpIn
 |some j =>
  have:=h2 o q1 (by rw [hj];simp)
  have hp:o8 P hh G w n B Q (OD (some j)) a' w':=⟨o,G',this,by rw [hj],q3,q4,q5,q6⟩
  cases j<;>exact hp
theorem OK {c:AOpd} {x y:ACode} (b:Bool) (hc:c.ev env = .bool b) (h:dC P hh (.code (if b then x else y) env σ) Q):dC P hh (.code (.cond c x y) env σ) Q:=by
 intro F n cd G w a B f1 f2 f3 f4 f5 f6
 obtain ⟨o,p,q,rfl,c1,c2,c3⟩:=NF f2
 have hr:=cP (a:=a) c1 f3
 rw [hc] at hr
 have hv:a.eval o = .bool b:=by generalize a.eval o=u at hr;cases hr;rfl
 refine wpIn_cond hv ?_
 cases b
 ·exact (h (qD f1 fun e=>by simp [n7] at e;exact e.2) c3 f3 f4 f5 f6).wpIn
 ·exact (h (qD f1 fun e=>by simp [n7] at e;exact e.1) c2 f3 f4 f5 f6).wpIn
theorem JT {id:Nat} {b:ACode} (h:dC P hh (.code b env σ) R) (h1:∀ o,R o→Q (if o.j=some (.exit id) then { o with j:=none } else o)):dC P hh (.code (.block id b) env σ) Q:=by
 intro F n cd G w a B f1 f2 f3 f4 f5 f6
 obtain ⟨c,rfl,c1⟩:=IU f2
 refine wpIn_block (wpIn_mono (h (qD (q:=n7 c=true) f1 fun e=>e) c1 f3 f4 f5 f6).wpIn fun e a' w' hp=>?_)
 obtain ⟨o,G',q1,rfl,q3,q4,q5,q6⟩:=hp
 have hq:=h1 o q1
 cases hj:o.j with
 |none =>
  rw [hj,if_neg (by simp)] at hq
  exact ⟨o,G',hq,by rw [hj],q3,q4,q5,q6⟩
 |some j =>
  cases j with
  |ret =>
   rw [hj,if_neg (by simp)] at hq
   exact ⟨o,G',hq,by rw [hj],q3,q4,q5,q6⟩
  |exit id' =>
   by_cases hid:id'=id
   ·subst hid
    rw [hj,if_pos rfl] at hq
    show Exit.inBlock id' _ (.exit id') a' w'
    simp only [Exit.inBlock,if_true]
    exact ⟨_,G',hq,rfl,q3,q4,q5,q6⟩
   ·rw [hj,if_neg (by simpa using hid)] at hq
    show Exit.inBlock id _ (.exit id') a' w'
    simp only [Exit.inBlock,hid,if_false]
    exact ⟨o,G',hq,by rw [hj];rfl,q3,q4,q5,q6⟩
theorem OB {b:ACode} (h:dC P hh (.code b env σ) R) (h1:∀ o,R o→o.j=none→dC P hh (.code (.loop b) o.env o.σ) Q) (h2:∀ o,R o→o.j≠none→Q o):dC P hh (.code (.loop b) env σ) Q:=by
 intro F n cd G w a B f1 f2 f3 f4 f5 f6
 obtain ⟨c,rfl,c1⟩:=N1 f2
 refine lJ.round (wpIn_mono (h (qD (q:=n7 c=true) f1 fun e=>e) c1 f3 f4 f5 f6).wpIn fun e a' w' hp=>?_)
 obtain ⟨o,G',q1,rfl,q3,q4,q5,q6⟩:=hp
 cases hj:o.j with
 |none=>exact lJ.mono ((h1 o q1 hj) f1 f2 q3 q4 q6 (Nat.le_trans f6 q5.size)) (fun e a w=>o8.lift q5)
 |some j =>
  have:=h2 o q1 (by rw [hj];simp)
  have hp:o8 P hh G w n B Q (OD (some j)) a' w':=⟨o,G',this,by rw [hj],q3,q4,q5,q6⟩
  cases j<;>exact hp
theorem JG {b:ACode} (h:dC P hh (.code b env σ) Q):dC P hh (.code (.scope b) env σ) Q:=by
 intro F n cd G w a B f1 f2 f3 f4 f5 f6
 obtain ⟨c,rfl,c1⟩:=JA f2
 refine FT (fun l a w hp=>?_) (h (qD (q:=n7 c=true) f1 fun e=>e) c1 f3 f4 f5 f6).wpIn
 obtain ⟨o,G',_,q2,_⟩:=hp
 cases hj:o.j with
 |none=>rw [hj] at q2;cases q2
 |some j=>rw [hj] at q2;cases j<;>cases q2
theorem EO {ops:Array Oper} {os:List AOper} (h:fZ P hh n ops ops.toList=some os):EI P hh n ops (List.range ops.size) os:=by
 have key:∀ (l:List Oper) (os:List AOper) (k:Nat),fZ P hh n ops l=some os→(∀ (i:Nat) (o:Oper),l[i]? = some o→ops[k+i]? = some o)→EI P hh n ops (List.range' k l.length) os:=by
  intro l
  induction l with
  |nil=>intro os k h _;simp [fZ] at h;subst h;trivial
  |cons o l ih =>
   intro os k h hk
   simp only [fZ] at h
   split at h
   ·rename_i d ds h1 h2
    cases h
    refine ⟨⟨o,by simpa using hk 0 o rfl,h1⟩,ih ds (k+1) h2 fun i o' e=>?_⟩
    have:=hk (i+1) o' (by simpa using e)
    rw [show k+1+i=k+(i+1) by omega]
    exact this
   ·cases h
 have:=key ops.toList os 0 h fun i o e=>by rw [Nat.zero_add];simpa using e
 rw [List.range_eq_range']
 simpa using this
theorem SN {os:List AOper} (h:dC P hh (.ops os env σ) Q) (hj:∀ o,Q o→True):dC P hh (.code (.reg os) env σ) Q:=by
 intro F n cd G w a B f1 f2 f3 f4 f5 f6
 obtain ⟨id,ops,rfl,c1⟩:=RU f2
 exact wpIn_region (h (YX f1) (EO c1) f3 f4 f5 fun o G' a' w' q1 q2 q3 q4 q5 q6=>⟨o,G',q1,by rw [q2];rfl,q3,q4,q5,q6⟩)
theorem OA {ds:List ADOper} (h:dC P hh (.dops ds env (σ++d9 ds) σ.length [σ++d9 ds] []) Q):dC P hh (.code (.dreg ds) env σ) Q:=by
 intro F n cd G w a B f1 f2 f3 f4 f5 f6
 obtain ⟨id,ops,os,rfl,c1,c2,c3,rfl⟩:=MK f2
 obtain ⟨vs,t,σf,q1,q2,q3,_⟩:=h 0 rfl rfl
 refine J8 (YX f1) c1 c2 c3 f3 f4 f5 q1 rfl ?_ q3
 rw [←q2,Nat.zero_add,wZ]
 congr 1
 conv=>lhs;rw [←rG (Region.before ops) os]
 rw [List.countP_map]
 rfl
theorem OT (h:Q ⟨none,env,σ,.undef⟩):dC P hh (.ops [] env σ) Q:=by
 intro F n ops l G w a B R f1 f2 f3 f4 f5 f6
 cases l with
 |nil=>exact f6 _ G a w h rfl f3 f4 (.refl _ _) f5
 |cons i l=>exact f2.elim
theorem sZ (hE:fE G w n env a.tmps) {d:AOper}:∀ t want,d.guard=some (t,want)→RelV G w (Env.get env t) (a.tmps.getD t undef):=fun t _ _=>hE.2 t
theorem lY (dst:Option Nat) (u:Value):(a.put dst u).defers=a.defers:=by cases dst<;>rfl
theorem QM {o:AOper} {os:List AOper} (hw:o.wanted env=some false) (h:dC P hh (.ops os (Env.put env o.dst (.tuple [])) σ) Q):dC P hh (.ops (o::os) env σ) Q:=by
 intro F n ops l G w a B R f1 f2 f3 f4 f5 f6
 cases l with
 |nil=>exact f2.elim
 |cons i l =>
  obtain ⟨⟨od,ho,hcomp⟩,hrest⟩:=f2
  obtain ⟨c1,c2,c3,c4⟩:=gM hcomp
  simp only [wpOpsIn,ho,nA hcomp (sZ f3) hw,Bool.false_eq_true,if_false]
  refine ⟨fun f _=>f1.fn f,h f1 hrest ?_ f4 (by rw [lY];exact f5) f6⟩
  rw [c2]
  exact f3.put c3 DE
theorem MM {o:AOper} {os:List AOper} (hw:o.wanted env=some true) (ha:aop o.op env σ=some (v,σ')) (h:dC P hh (.ops os (Env.put env o.dst v) σ') Q):dC P hh (.ops (o::os) env σ) Q:=by
 intro F n ops l G w a B R f1 f2 f3 f4 f5 f6
 cases l with
 |nil=>exact f2.elim
 |cons i l =>
  obtain ⟨⟨od,ho,hcomp⟩,hrest⟩:=f2
  obtain ⟨c1,c2,c3,c4⟩:=gM hcomp
  simp only [wpOpsIn,ho,nA hcomp (sZ f3) hw,if_true,Oper.wpIn]
  refine ⟨fun f _=>f1.fn f,?_⟩
  rw [ET c1]
  refine G8 (tB c1 f3 f4 ha) fun u G' w' hu hS' he=>?_
  refine h f1 hrest ?_ hS' (by rw [lY];exact f5.mono he.defs) fun o' G2 a' w2 g1 g2 g3 g4 g5 g6=>f6 o' G2 a' w2 g1 g2 g3 g4 (he.trans g5) g6
  rw [c2]
  exact (f3.mono he).put c3 hu
theorem I6 {o:AOper} {os:List AOper} {f:AOpd} {args:List AOpd} (hw:o.wanted env=some true) (hop:o.op = .call f args) (hc:dC P hh (.callv (f.ev env) (args.map (·.ev env)) σ) R)
  (h:∀ r,R r→dC P hh (.ops os (Env.put env o.dst r.v) r.σ) Q):dC P hh (.ops (o::os) env σ) Q:=by
 intro F n ops l G w a B R f1 f2 f3 f4 f5 f6
 cases l with
 |nil=>exact f2.elim
 |cons i l =>
  obtain ⟨⟨od,ho,hcomp⟩,hrest⟩:=f2
  obtain ⟨c1,c2,c3,c4⟩:=gM hcomp
  simp only [wpOpsIn,ho,nA hcomp (sZ f3) hw,if_true,Oper.wpIn]
  refine ⟨fun f _=>f1.fn f,?_⟩
  rw [ET c1]
  rw [hop] at c1
  refine DS f1 c1 f3 f4 hc fun r G' w' u hr hu hS' he=>?_
  refine h r hr f1 hrest ?_ hS' (by rw [lY];exact f5.mono he.defs) fun o' G2 a' w2 g1 g2 g3 g4 g5 g6=>f6 o' G2 a' w2 g1 g2 g3 g4 (he.trans g5) g6
  rw [c2]
  exact (f3.mono he).put c3 hu
theorem I8 {pos:String} {op:Op} {x:AOpd} (h:bS P hh pos op=some (.mnext x)):∃ o,op = .next o false∧opd o=some x:=by
 cases op with
 |next o s =>
  simp only [bS] at h
  split at h
  ·rename_i y hy
   split at h
   ·cases h
   ·rename_i hs;cases h;exact ⟨o,by simp at hs;rw [hs],hy⟩
  ·cases h
 |call c =>
  exfalso
  simp only [bS,pO] at h
  repeat' split at h
  all_goals first|(cases h;done)|(simp_all;done)
 |_ =>
  exfalso
  simp only [bS] at h
  repeat' split at h
  all_goals first|(cases h;done)|(simp_all;done)
theorem KS {o:AOper} {os:List AOper} {x:AOpd} {id k:Nat} {es:List (AV×AV)} {left:List Nat} {last:Option Nat} (hw:o.wanted env=some true) (hop:o.op = .mnext x) (hx:x.ev env = .ptr id 0)
  (hl:σ[id]? = some (.miter m k left last)) (he:σ[m]? = some (.map es)) (hk:es.length=k)
  (h0:left=[]→dC P hh (.ops os (Env.put env o.dst (.tuple [.bool false])) σ) Q)
  (h1:∀ i x y,i∈left→es[i]? = some (x,y)→dC P hh (.ops os (Env.put env o.dst (.tuple [.bool true,x,y])) (σ.set id (.miter m k (left.filter (·≠i)) (some i)))) Q) :
  dC P hh (.ops (o::os) env σ) Q:=by
 intro F n ops l G w a B R f1 f2 f3 f4 f5 f6
 cases l with
 |nil=>exact f2.elim
 |cons i l =>
  obtain ⟨⟨od,ho,hcomp⟩,hrest⟩:=f2
  obtain ⟨c1,c2,c3,c4⟩:=gM hcomp
  simp only [wpOpsIn,ho,nA hcomp (sZ f3) hw,if_true,Oper.wpIn]
  refine ⟨fun f _=>f1.fn f,?_⟩
  rw [ET c1]
  rw [hop] at c1
  obtain ⟨xo,hxo,hxp⟩:=I8 c1
  have hr:=cP (a:=a) hxp f3
  rw [hx] at hr
  rcases HA (ty:=od.type) f4 hr hl he hk with ⟨hnil,w1,hrun,hS1,he1⟩|⟨j,y,z,w1,q,hj,hjes,hrun,hq,hS1,he1⟩
  ·rw [show (execOp a.eval od).run P w = .ok (.value (.tuple #[.bool false])) w1 from by simp [execOp,hxo,hrun],Oper.uponIn_value]
   refine h0 hnil f1 hrest ?_ hS1 (by rw [lY];exact f5.mono he1.defs) fun o' G2 a' w2 g1 g2 g3 g4 g5 g6=>f6 o' G2 a' w2 g1 g2 g3 g4 (he1.trans g5) g6
   rw [c2]
   refine (f3.mono he1).put c3 (.tuple rfl fun i a u e1 e2=>?_)
   match i with
   |0=>simp at e1 e2;subst e1;subst e2;exact .bool _
   |_+1=>simp at e1
  ·rw [show (execOp a.eval od).run P w = .ok (.value q) w1 from by simp [execOp,hxo,hrun],Oper.uponIn_value]
   refine h1 j y z hj hjes f1 hrest ?_ hS1 (by rw [lY];exact f5.mono he1.defs) fun o' G2 a' w2 g1 g2 g3 g4 g5 g6=>f6 o' G2 a' w2 g1 g2 g3 g4 (he1.trans g5) g6
   rw [c2]
   exact (f3.mono he1).put c3 hq
section
variable {ds:List ADOper} {d:ADOper} {next:Nat} {hist:List St} {reads:List ARead}
theorem ND (hr:∀ r∈reads,ARead.ok r hist) (h:Q ⟨none,env,σ,.undef⟩):dC P hh (.dops [] env σ next hist reads) Q:=by
 intro k h1 h2
 exact ⟨[],[],σ,rfl,by simpa using h2,h,by simpa using hr⟩
theorem SX {s:St} {k:Nat} {t:List St} (h1:hist.length=k+1) (h2:hist[k]? = some s):(hist++t)[k]? = some s:=by
 rw [List.getElem?_append_left (by omega)];exact h2
theorem uR (hna:d.o.op.acts=false) (hf:∀ k t,hist.length=k+1→hist[k]? = some σ→(∀ r∈reads,ARead.ok r (hist++t))→sP P hh (hist++t) d env k next v) {reads':List ARead}
  (hsub:∀ r∈reads,r∈reads') (hf':∀ k t,hist.length=k+1→hist[k]? = some σ→(∀ r∈reads',ARead.ok r (hist++t))→sP P hh (hist++t) d env k next v)
  (h:dC P hh (.dops ds (Env.put env d.o.dst v) σ (if d.o.op.allocs then next+1 else next) hist reads') Q):dC P hh (.dops (d::ds) env σ next hist reads) Q:=by
 intro k h1 h2
 obtain ⟨vs,t,σf,q1,q2,q3,q4⟩:=h k h1 h2
 refine ⟨v::vs,t,σf,⟨hf' k t h1 h2 q4,?_⟩,?_,q3,fun r hr=>q4 r (hsub r hr)⟩
 ·rw [hna]
  exact q1
 ·rw [List.countP_cons,hna]
  exact q2
theorem uF {s':St} (hact:d.o.op.acts=true) (hf:∀ k t,(hist++[s']++t)[k]? = some σ→(hist++[s']++t)[k+1]? = some s'→sP P hh (hist++[s']++t) d env k next v)
  (h:dC P hh (.dops ds (Env.put env d.o.dst v) s' (if d.o.op.allocs then next+1 else next) (hist++[s']) reads) Q):dC P hh (.dops (d::ds) env σ next hist reads) Q:=by
 intro k h1 h2
 obtain ⟨vs,t,σf,q1,q2,q3,q4⟩:=h (k+1) (by simp [h1]) (by rw [List.getElem?_append_right (by omega)];simp [h1])
 have e:hist++([s']++t)=hist++[s']++t:=by simp
 refine ⟨v::vs,[s']++t,σf,?_,?_,q3,by rw [e];exact q4⟩
 ·rw [e]
  refine ⟨hf k t ?_ ?_,?_⟩
  ·rw [List.append_assoc];exact SX h1 h2
  ·rw [List.append_assoc,List.getElem?_append_right (by omega)];simp [h1]
  ·rw [hact]
   exact q1
 ·rw [e,List.countP_cons,hact,if_pos rfl,←Nat.add_assoc,Nat.add_right_comm]
  exact q2
theorem sW {op:AOp} (h:op.acts=true):op.allocs=false:=by cases op<;>simp [AOp.acts,AOp.allocs] at h ⊢
theorem OC (hw:d.o.wanted env=some false) (h:dC P hh (.dops ds (Env.put env d.o.dst (.tuple [])) σ (if d.o.op.allocs then next+1 else next) (if d.o.op.acts then hist++[σ] else hist) reads) Q) :
  dC P hh (.dops (d::ds) env σ next hist reads) Q:=by
 cases ha:d.o.op.acts with
 |true =>
  rw [ha] at h
  exact uF ha (fun k t e1 e2=>.inl ⟨hw,rfl,fun _=>⟨σ,e1,e2⟩⟩) h
 |false =>
  rw [ha] at h
  have hf:∀ (k:Nat) (t:List St),sP P hh (hist++t) d env k next (.tuple []):=fun k t=>.inl ⟨hw,rfl,fun e=>by rw [ha] at e;cases e⟩
  exact uR ha (fun k t _ _ _=>hf k t) (fun r hr=>hr) (fun k t _ _ _=>hf k t) h
theorem GW {z:List AV} (hw:d.o.wanted env=some true) (ho:d.o.op = .alloc z) (h:dC P hh (.dops ds (Env.put env d.o.dst (.ptr next 0)) σ (next+1) hist reads) Q):dC P hh (.dops (d::ds) env σ next hist reads) Q:=by
 have hf:∀ (k:Nat) (t:List St),sP P hh (hist++t) d env k next (.ptr next 0):=fun k t=>.inr ⟨hw,.inl ⟨z,ho,rfl⟩⟩
 refine uR (by rw [ho];rfl) (fun k t _ _ _=>hf k t) (fun r hr=>hr) (fun k t _ _ _=>hf k t) ?_
 rw [ho]
 exact h
theorem KK (hw:d.o.wanted env=some true) (hk:(d.o.op.acts||d.o.op.allocs||d.o.op.reads)=false) (ha:aop d.o.op env σ=some (v,σ)) (h:dC P hh (.dops ds (Env.put env d.o.dst v) σ next hist reads) Q) :
  dC P hh (.dops (d::ds) env σ next hist reads) Q:=by
 simp only [Bool.or_eq_false_iff] at hk
 have hf:∀ (k:Nat) (t:List St),sP P hh (hist++t) d env k next v:=fun k t=>.inr ⟨hw,.inr (.inl ⟨hk.1.1,hk.1.2,hk.2,σ,σ,ha⟩)⟩
 refine uR hk.1.1 (fun k t _ _ _=>hf k t) (fun r hr=>hr) (fun k t _ _ _=>hf k t) ?_
 rw [hk.1.2]
 exact h
theorem J6 (hw:d.o.wanted env=some true) (hk:d.o.op.reads=true) (h:dC P hh (.dops ds (Env.put env d.o.dst v) σ next hist (⟨d.lo,d.hi,d.o.op,env,v⟩::reads)) Q):dC P hh (.dops (d::ds) env σ next hist reads) Q:=by
 have hna:d.o.op.acts=false:=by revert hk;cases d.o.op<;>simp [AOp.reads,AOp.acts]
 have hal:d.o.op.allocs=false:=by revert hk;cases d.o.op<;>simp [AOp.reads,AOp.allocs]
 intro k h1 h2
 obtain ⟨vs,t,σf,q1,q2,q3,q4⟩:=h k h1 h2
 refine ⟨v::vs,t,σf,⟨.inr ⟨hw,.inr (.inr (.inl ⟨hk,q4 _ (List.mem_cons_self ..)⟩))⟩,?_⟩,?_,q3,fun r hr=>q4 r (List.mem_cons_of_mem _ hr)⟩
 ·rw [hna,hal]
  exact q1
 ·rw [List.countP_cons,hna]
  exact q2
theorem NW (hw:d.o.wanted env=some true) (hk:d.o.op.acts=true) (ha:aop d.o.op env σ=some (v,σ')) (h:dC P hh (.dops ds (Env.put env d.o.dst v) σ' next (hist++[σ']) reads) Q) :
  dC P hh (.dops (d::ds) env σ next hist reads) Q:=by
 refine uF hk (fun k t e1 e2=>.inr ⟨hw,.inr (.inr (.inr (.inl ⟨hk,σ,σ',e1,e2,ha⟩)))⟩) ?_
 rw [sW hk]
 exact h
theorem IR {f:AOpd} {args:List AOpd} (hw:d.o.wanted env=some true) (ho:d.o.op = .call f args) (hc:dC P hh (.callv (f.ev env) (args.map (·.ev env)) σ) fun r=>r.v=v∧r.σ=σ')
  (h:dC P hh (.dops ds (Env.put env d.o.dst v) σ' next (hist++[σ']) reads) Q):dC P hh (.dops (d::ds) env σ next hist reads) Q:=by
 have hk:d.o.op.acts=true:=by rw [ho];rfl
 refine uF hk (fun k t e1 e2=>.inr ⟨hw,.inr (.inr (.inr (.inr ⟨f,args,σ,σ',ho,e1,e2,hc⟩)))⟩) ?_
 rw [sW hk]
 exact h
end
end Go.Am
namespace Go.Am
variable {P:Program} {hh:String→Bool} {G G0 G1 G2 G':Gh} {w w0 w1 w2 w':World} {σ σ' σ1 σ2:St} {env env':Env} {n m m':Nat} {v:AV} {a:Act} {Q R:Out→Prop}
theorem KP {c:ACode} (h:dC P hh (.code c env σ) R) (h1:∀ o,R o→Q o∨∃ env'' σ'',zL σ o.env o.σ env'' σ''∧Q ⟨o.j,env'',σ'',o.v⟩):dC P hh (.code c env σ) Q:=by
 intro F n cd G w a B f1 f2 f3 f4 f5 f6
 refine (h f1 f2 (f3.ghost (G':=G.shut σ) rfl rfl rfl rfl) f4.shut (f5.mono fun r e=>e) f6).mono fun e a' w' hp=>?_
 obtain ⟨o,G1,q1,q2,q3,q4,q5,q6⟩:=hp
 rcases h1 o q1 with hq|⟨env'',σ'',⟨t1,t2,t3,t4⟩,hq⟩
 ·refine ⟨o,{ G1 with res:=G.res },hq,q2,q3.ghost rfl rfl rfl rfl,q4.reserve _ fun id x e=>?_,?_,q6.mono fun r e=>e⟩
  ·exact q4.res id x (q5.res _ _ ((kR f4).res _ _ e))
  ·have h2:=(kR f4).trans q5
   exact ⟨h2.loc,h2.lim,h2.tok,h2.own,h2.defs,h2.B0,h2.h0,h2.os,h2.tape,h2.output,h2.size,fun _ _ e=>e⟩
 have hL:=nP (m:=σ''.length) q4 G.res
 refine ⟨_,G1.cut w' o.σ σ''.length G.res,hq,q2,⟨q3.1,fun t=>?_⟩,GG f4 q5 q4 q3 t1 t2 t4,u9 f4 q5 q4 t1,q6.mono fun r e=>e⟩
 show RelV _ _ (Env.get env'' t) _
 rcases w9 t3 t with hu|hu
 ·rw [hu];exact .undef _
 ·exact (q3.2 t).thin q4 hL hu
theorem KR {a0:ACode} {az:List ACode} {c:ACode} {S:Env→St→Prop} (h:dC P hh (.chain (a0::az) env σ) R) (h1:∀ o,R o→o.j≠none→Q o)
  (h2:∀ o,R o→o.j=none→∃ env1 σ1 env2 σ2,zL σ o.env o.σ env1 σ1∧((env2=env1∧σ2=σ1)∨PG σ.length env1 σ1 env2 σ2)∧S env2 σ2)
  (h3:∀ env2 σ2,S env2 σ2→dC P hh (.code c env2 σ2) Q):dC P hh (.code (NY (a0::az) c) env σ) Q:=by
 intro F n cd G w a B f1 f2 f3 f4 f5 f6
 have hwp:∀ K,cd.wpIn F 0 P K a w→wpL F P cd K a w:=by
  intro K hk
  simp only [NY] at f2
  obtain ⟨x,y,rfl,_⟩:=AH f2
  exact hk
 refine hwp _ (h f1 f2 (f3.ghost (G':=G.shut σ) rfl rfl rfl rfl) f4.shut (f5.mono fun r e=>e) f6 (fun d o G1 a' w' p1 p2 p3 p4 p5 p6 p7 p8=>?_) fun o G1 a' w' p1 p2 p3 p4 p5 p6=>?_)
 ·obtain ⟨env1,σ1,env2,σ2,⟨t1,t2,t3,t4⟩,ht,hs⟩:=h2 o p3 p4
  have hL:=nP (m:=σ1.length) p6 G.res
  have hE1:fE (G1.cut w' o.σ σ1.length G.res) w' n env1 a'.tmps:=by
   refine ⟨p5.1,fun t=>?_⟩
   rcases w9 t3 t with hu|hu
   ·rw [hu];exact .undef _
   ·exact (p5.2 t).thin p6 hL hu
  have hS1:=GG f4 p7 p6 p5 t1 t2 t4
  have hV1:=u9 f4 p7 p6 t1
  have hM1:pM (G1.cut w' o.σ σ1.length G.res) B a'.defers:=p8.mono fun r e=>e
  rcases ht with ⟨rfl,rfl⟩|ht
  ·exact ((h3 _ _ hs p2 p1 hE1 hS1 hM1 (Nat.le_trans f6 p7.size)).mono fun e a w=>o8.lift hV1).wpIn
  ·obtain ⟨G3,s1,s2,s3,s4⟩:=I0 f4 hV1 hS1 hE1 (fun id r e=>e) ht
   exact ((h3 _ _ hs p2 p1 s2 s1 (hM1.mono fun r e=>by rw [s4];exact e) (Nat.le_trans f6 p7.size)).mono fun e a w=>o8.lift s3).wpIn
 ·refine ⟨o,{ G1 with res:=G.res },h1 o p1 p2,rfl,p3.ghost rfl rfl rfl rfl,p4.reserve _ fun id x e=>?_,?_,p6.mono fun r e=>e⟩
  ·exact p4.res id x (p5.res _ _ ((kR f4).res _ _ e))
  ·have h2:=(kR f4).trans p5
   exact ⟨h2.loc,h2.lim,h2.tok,h2.own,h2.defs,h2.B0,h2.h0,h2.os,h2.tape,h2.output,h2.size,fun _ _ e=>e⟩
theorem CO (h:Q ⟨none,env,σ,.undef⟩):dC P hh (.chain [] env σ) Q:=by
 intro F n c0 cd G w a B K f1 f2 f3 f4 f5 f6 f7 f8
 exact f7 cd _ G a w f2 f1 h rfl f3 f4 (.refl _ _) f5
theorem zY {x:ACode} {az:List ACode} (h:dC P hh (.code x env σ) R) (h1:∀ o,R o→o.j=none→dC P hh (.chain az o.env o.σ) Q) (h2:∀ o,R o→o.j≠none→Q o):dC P hh (.chain (x::az) env σ) Q:=by
 intro F n c0 cd G w a B K f1 f2 f3 f4 f5 f6 f7 f8
 simp only [NY] at f2
 obtain ⟨c,d,rfl,c1,c2⟩:=AH f2
 refine wpIn_seq (wpIn_mono (h (qD f1 fun e=>by simp [n7] at e;exact e.1) c1 f3 f4 f5 f6).wpIn fun e a' w' hp=>?_)
 obtain ⟨o,G',q1,rfl,q3,q4,q5,q6⟩:=hp
 cases hj:o.j with
 |none =>
  refine (h1 o q1 hj) (qD f1 fun e=>by simp [n7] at e;exact e.2) c2 q3 q4 q6 (Nat.le_trans f6 q5.size) (fun d o2 G2 a2 w2 p1 p2 p3 p4 p5 p6 p7 p8=>f7 d o2 G2 a2 w2 p1 p2 p3 p4 p5 p6 (q5.trans p7) p8)
   fun o2 G2 a2 w2 p1 p2 p3 p4 p5 p6=>f8 o2 G2 a2 w2 p1 p2 p3 p4 (q5.trans p5) p6
 |some j =>
  have:=f8 o G' a' w' (h2 o q1 (by rw [hj];simp)) (by rw [hj];simp) q3 q4 q5 q6
  rw [hj] at this
  cases j<;>exact this
theorem RelV.free (hl:∀ b L,G.lim b=some L→(∀ t,G.own b≠some t)→∃ L',G'.lim b=some L'∧L≤L') (ho:∀ b L,G.lim b=some L→(∀ t,G.own b≠some t)→∀ t,G'.own b≠some t) {a:AV} {u:Value} (h:RelV G w a u) (hk:okV 0 a):RelV G' w a u:=by
 have htk:∀ {full tk n base cap},(∀ t,tk=some t→t<0)→mI G full tk n base cap→mI G' full tk n base cap:=fun q h=>⟨h.1,h.2.1,fun t e=>absurd (q t e) (by omega)⟩
 have hlit:∀ {xs tk b o sz},(∀ t,tk=some t→t<0)→LitAt G w xs tk b o sz→LitAt G' w xs tk b o sz:=by
  intro xs tk b o sz q ⟨⟨L,q1,q2⟩,q3,q4,q5⟩
  have hn:∀ t,G.own b≠some t:=fun t e=>absurd (q t (q3 t e)) (by omega)
  obtain ⟨L',r1,r2⟩:=hl b L q1 hn
  exact ⟨⟨L',r1,by omega⟩,fun t e=>absurd e (ho b L q1 hn t),q4,q5⟩
 induction h with
 |undef v=>exact .undef v
 |int k n=>exact .int k n
 |bool b=>exact .bool b
 |str s=>exact .str s
 |func e1 e2 _ _ e3 e4=>exact .func e1 e2 (fun i x u q1 q2=>e3 i x u q1 q2 (gH hk.1 q1)) (fun i x u q1 q2=>e4 i x u q1 q2 (gH hk.2 q1))
 |nilFunc=>exact .nilFunc
 |yield h=>exact absurd hk (by simp [okV])
 |ptr h=>exact absurd hk (by simp [okV])
 |nilPtr=>exact .nilPtr
 |lptr ht hi hl _ ih =>
  exact .lptr (fun t e=>absurd (hk.1 t e) (by omega)) hi (hlit hk.1 hl) fun i x j c u q1 q2 q3=>ih i x j c u q1 q2 q3 (vA (gH hk.2 q1) q2)
 |nil ht hb=>exact .nil (htk hk.1 ht) hb
 |lit ht hl _ ih=>exact .lit (htk hk.1 ht) (hlit hk.1 hl) fun i x j c u q1 q2 q3=>ih i x j c u q1 q2 q3 (vA (gH hk.2 q1) q2)
 |ref h hb hc hn=>exact absurd hk (by simp [okV])
 |map h=>exact absurd hk (by simp [okV])
 |nilMap=>exact .nilMap
 |agg h _ ih=>exact .agg h fun i x u q1 q2=>ih i x u q1 q2 (gH hk q1)
 |tuple h _ ih=>exact .tuple h fun i x u q1 q2=>ih i x u q1 q2 (gH hk q1)
theorem RelV.scal {a:AV} {u:Value} (h:RelV G w a u) (hk:Scal a):RelV G' w' a u:=by
 have hs:∀ {xs:List AV},Scals xs→∀ {i:Nat} {x:AV},xs[i]? = some x→Scal x:=by
  intro xs
  induction xs with
  |nil=>intro _ i x e;simp at e
  |cons y ys ih =>
   intro h (i:Nat) (x:AV) e
   cases i with
   |zero=>simp at e;subst e;exact h.1
   |succ i=>exact ih h.2 (by simpa using e)
 induction h with
 |undef v=>exact hk.elim
 |int k n=>exact .int k n
 |bool b=>exact .bool b
 |str s=>exact .str s
 |func e1 e2 _ _ e3 e4=>exact hk.elim
 |nilFunc=>exact hk.elim
 |yield h=>exact hk.elim
 |ptr h=>exact hk.elim
 |nilPtr=>exact hk.elim
 |lptr ht hi hl _ ih=>exact hk.elim
 |@nil full tk base cap ht hb =>
  cases tk with
  |none=>exact .nil ⟨ht.1,ht.2.1,fun t e=>by cases e⟩ hb
  |some t=>exact hk.elim
 |@lit xs full tk b o sz cap ht hl _ ih =>
  cases xs with
  |nil =>
   cases tk with
   |none=>exact .nil ⟨ht.1,ht.2.1,fun t e=>by cases e⟩ (fun e=>by cases e)
   |some t=>exact hk.elim
  |cons x xs=>cases tk<;>exact hk.elim
 |ref h hb hc hn=>exact hk.elim
 |map h=>exact hk.elim
 |nilMap=>exact hk.elim
 |agg h _ ih=>exact .agg h fun i x u q1 q2=>ih i x u q1 q2 (hs hk q1)
 |tuple h _ ih=>exact .tuple h fun i x u q1 q2=>ih i x u q1 q2 (hs hk q1)
open Classical in
noncomputable def Gh.fresh0 (G:Gh) (w:World) (lim:Nat→Option Nat) (old:Nat→Prop):Gh :=
  { loc:=fun _=>none,lim:=lim,tok:=fun _=>none,own:=fun _=>none,defs:=fun _=>False,B0:=w.heap.size
    h0:=w.heap++Array.ofFn (n:=w.heap.size) (fun i=>if old i then E0 else .deferred (some [])),res:=fun _=>none }
theorem B6 {lim:Nat→Option Nat} {old:Nat→Prop} {b:Nat} (hb:b<w.heap.size):(G.fresh0 w lim old).h0[w.heap.size+b]? = some E0↔old b:=by
 simp only [Gh.fresh0]
 rw [Array.getElem?_append_right (by omega)]
 simp only [Nat.add_sub_cancel_left,Array.getElem?_ofFn,hb,dite_true,Option.some.injEq]
 split
 ·rename_i h;simp [h]
 ·rename_i h;simp [h,E0]
theorem uW {lim:Nat→Option Nat} {old:Nat→Prop} (hl:∀ b L,lim b=some L→old b∧∃ vs T fr,w.heap[b]? = some (.cells vs T fr)∧L≤vs.size):RelS P hh (G.fresh0 w lim old) w [] :=
 ⟨fun _ _ e=>(by cases e),fun _ _ _ e=>(by cases e),fun _ _ _ e=>(by cases e),fun _ _ e=>(by cases e),fun b L e=>by
  obtain ⟨h1,vs,T,fr,h2,h3⟩:=hl b L e
  exact ⟨vs,T,fr,h2,h3,fun hb=>(B6 hb).2 h1⟩,fun _ _ _ _ e=>(by cases e),fun _ _ e=>(by cases e),fun _ e=>e.elim,
  fun b hb=>by simp only [Gh.fresh0];rw [Array.getElem?_append_left hb],Nat.le_refl _,fun _ _ e=>(by cases e)⟩
theorem DL {lim:Nat→Option Nat} {old:Nat→Prop} (hS:RelS P hh G w σ) (h1:RelS P hh G1 w' []) (he:Evo (G.fresh0 w lim old) w G1 w') (nl:Nat→Option Nat)
  (hn:∀ b,b<w.heap.size→(nl b=G.lim b)∨(∃ L L',G.lim b=some L∧(∀ t,G.own b≠some t)∧nl b=some L'∧L≤L'∧G1.lim b=some L')) (hn2:∀ b,w.heap.size≤b→nl b=G1.lim b) :
  RelS P hh { G with lim:=nl } w' σ∧Evo G w { G with lim:=nl } w':=by
 have hB:G1.B0=w.heap.size:=he.B0
 have hh0:G1.h0=_:=he.h0
 have heap:∀ b,b<w.heap.size→w'.heap[b]? = w.heap[b]?:=by
  intro b hb
  rw [h1.base b (by omega),hh0]
  simp only [Gh.fresh0]
  rw [Array.getElem?_append_left hb]
 have hsz:w.heap.size≤w'.heap.size:=he.size
 have lt:∀ {b L},G.lim b=some L→b<w.heap.size:=fun e=>by
  obtain ⟨vs,T,fr,q,_⟩:=hS.lim _ _ e
  exact (Array.getElem?_eq_some_iff.1 q).1
 have nlnone:∀ {b},b<w.heap.size→G.lim b=none→nl b=none:=by
  intro b hb e
  rcases hn b hb with h|⟨L,L',q,_⟩
  ·rw [h,e]
  ·rw [q] at e;cases e
 have hev:Evo G w { G with lim:=nl } w':=by
  refine ⟨fun _ _ h=>h,fun b L e=>?_,fun t b n c e=>⟨b,n,c,e,Nat.le_refl _,fun _=>⟨rfl,rfl⟩⟩,fun _ _ _ _ e=>e,fun _ e=>e,rfl,rfl,he.os,he.tape,he.output,hsz,fun _ _ e=>e⟩
  have hb:=lt e
  have hc:∀ k,k<L→w'.cell? ⟨b,k,none⟩=w.cell? ⟨b,k,none⟩:=by
   intro k _
   obtain ⟨vs,T,fr,q,_⟩:=hS.lim _ _ e
   rw [cell_of_row w b k vs T fr q,cell_of_row w' b k vs T fr (by rw [heap b hb];exact q)]
  rcases hn b hb with h|⟨L1,L',q,_,q2,q3,_⟩
  ·exact ⟨L,by show nl b=some L;rw [h,e],Nat.le_refl _,hc⟩
  ·rw [e] at q;cases q;exact ⟨L',q2,q3,hc⟩
 refine ⟨⟨hS.lt,fun id b x e1 e2=>(hS.blk id b x e1 e2).mono hev (heap b (hS.fresh _ _ e1).2.1),hS.inj,fun id b e=>?_,fun b L e=>?_,fun t b n c e=>?_,fun b t e=>?_,fun r e=>?_,fun b hb=>?_,Nat.le_trans hS.size hsz,hS.res⟩,hev⟩
 ·obtain ⟨q1,q2,q3,q4⟩:=hS.fresh id b e
  exact ⟨q1,by omega,nlnone q2 q3,q4⟩
 ·have e:nl b=some L:=e
  by_cases hb:b<w.heap.size
  ·rcases hn b hb with h|⟨L1,L',q,_,q2,q3,q4⟩
   ·rw [h] at e
    obtain ⟨vs,T,fr,p1,p2,p3⟩:=hS.lim b L e
    exact ⟨vs,T,fr,by rw [heap b hb];exact p1,p2,p3⟩
   ·rw [q2] at e
    cases e
    obtain ⟨vs,T,fr,p1,p2,p3⟩:=h1.lim b _ q4
    obtain ⟨_,_,_,_,_,p6⟩:=hS.lim b _ q
    exact ⟨vs,T,fr,p1,p2,p6⟩
  ·rw [hn2 b (by omega)] at e
   obtain ⟨vs,T,fr,p1,p2,p3⟩:=h1.lim b L e
   exact ⟨vs,T,fr,p1,p2,fun hlt=>absurd (Nat.lt_of_lt_of_le hlt hS.size) hb⟩
 ·obtain ⟨sz,ex,q1,q2,q3,q4⟩:=hS.tok t b n c e
  refine ⟨sz,ex,q1,q2,q3,fun hx=>?_⟩
  obtain ⟨bb,vs,T,r1,r2,r3,r4,r5,r6⟩:=q4 hx
  have hb:=lt r3
  refine ⟨bb,vs,T,r1,r2,?_,r4,by rw [heap bb hb];exact r5,r6⟩
  rcases hn bb hb with h|⟨_,_,_,q,_⟩
  ·show nl bb=_;rw [h,r3]
  ·exact absurd r2 (q t)
 ·obtain ⟨q1,q2⟩:=hS.own b t e
  exact ⟨by omega,q2⟩
 ·obtain ⟨q1,q2,q3⟩:=hS.defs r e
  have hr:=(Array.getElem?_eq_some_iff.1 q1).1
  exact ⟨by rw [heap r hr];exact q1,q2,nlnone hr q3⟩
 ·rw [heap b (Nat.lt_of_lt_of_le hb hS.size)]
  exact hS.base b hb
theorem yG {args:List AV} {vs:Array Value} (f:AV→AV) (hf:∀ (i:Nat) (x:AV) (u:Value),args[i]? = some x→vs[i]? = some u→RelV G' w (f x) u) (h:vs.size=args.length):fN G' w (args.map f) vs:=by
 refine ⟨by simp [h],fun i x u e1 e2=>?_⟩
 rw [List.getElem?_map] at e1
 cases e:args[i]? with
 |none=>rw [e] at e1;cases e1
 |some y=>rw [e] at e1;cases e1;exact hf i y u e e2
theorem JZ {f:FuncId} {args args0:List AV} (hf:okVs 0 args) (h0:args0=args∨args0=clrs args) (h:dC P hh (.call f args0 []) R) (h1:∀ o,R o→o.σ=[]∧Q ⟨none,[],σ,o.v⟩):dC P hh (.call f args σ) Q:=by
 refine ⟨h.1,fun {G w vs} ha hS=>?_⟩
 let old:Nat→Prop:=fun b=>(∃ L,G.lim b=some L)∧∀ t,G.own b≠some t
 let lim:Nat→Option Nat:=fun b=>match G.own b with|none=>G.lim b|some _=>none
 have hlim:∀ {b L},lim b=some L→G.lim b=some L∧∀ t,G.own b≠some t:=by
  intro b L e
  simp only [lim] at e
  split at e
  ·rename_i hn;exact ⟨e,fun t e'=>by rw [hn] at e';cases e'⟩
  ·cases e
 have hrel0:RelS P hh (G.fresh0 w lim old) w []:=uW fun b L e=>by
  obtain ⟨q1,q2⟩:=hlim e
  obtain ⟨vs,T,fr,p1,p2,_⟩:=hS.lim b L q1
  exact ⟨⟨⟨L,q1⟩,q2⟩,vs,T,fr,p1,p2⟩
 have hv:∀ (i:Nat) (x:AV) (u:Value),args[i]? = some x→vs[i]? = some u→RelV (G.fresh0 w lim old) w x u:=fun i x u e1 e2 =>
  (ha.2 i x u e1 e2).free (fun b L q1 q2=>⟨L,by
   show lim b=_
   simp only [lim]
   cases e:G.own b with
   |none=>exact q1
   |some t=>exact absurd e (q2 t),Nat.le_refl _⟩) (fun _ _ _ _ t e=>by cases e) (gH hf e1)
 have ha0:fN (G.fresh0 w lim old) w args0 vs:=by
  rcases h0 with rfl|rfl
  ·exact ⟨ha.1,hv⟩
  ·rw [gP]
   exact yG clr (fun i x u e1 e2=>(hv i x u e1 e2).clr) ha.1
 refine (h.2 ha0 hrel0).mono fun e w' hr=>?_
 obtain ⟨r,G1,u,rfl,q1,q2,q3,q4⟩:=hr
 obtain ⟨hσ,hq⟩:=h1 r q1
 rw [hσ] at q3
 have hB:G1.B0=w.heap.size:=q4.B0
 have hold:∀ {b L},b<w.heap.size→G1.lim b=some L→old b:=by
  intro b L hb e
  obtain ⟨_,_,_,_,_,p⟩:=q3.lim b L e
  have:=p (by omega)
  rw [hB,show G1.h0=_ from q4.h0] at this
  exact (B6 hb).1 this
 let nl:Nat→Option Nat:=fun b=>if b<w.heap.size then (match G.own b,G.lim b with|none,some _=>G1.lim b|_,l=>l) else G1.lim b
 have hg:=DL hS q3 q4 nl (fun b hb=>by
  simp only [nl,hb,if_true]
  cases e1:G.own b with
  |some t=>left;rfl
  |none =>
   cases e2:G.lim b with
   |none=>left;rfl
   |some L =>
    right
    obtain ⟨L',p1,p2,_⟩:=q4.lim b L (by show lim b=_;simp only [lim,e1,e2])
    exact ⟨L,L',rfl,(fun t e=>by cases e),p1,p2,p1⟩) (fun b hb=>by simp only [nl];rw [if_neg (by omega)])
 refine ⟨_,{ G with lim:=nl },u,rfl,hq,?_,hg.1,hg.2⟩
 refine q2.free (fun b L p1 p2=>⟨L,?_,Nat.le_refl _⟩) (fun b L p1 p2 t e=>?_) (q2.ok q3)
 ·show nl b=_
  simp only [nl]
  split
  ·rename_i hb
   obtain ⟨⟨L0,s1⟩,s2⟩:=hold hb p1
   cases e:G.own b with
   |some t=>exact absurd e (s2 t)
   |none=>rw [s1];exact p1
  ·exact p1
 ·have e:G.own b=some t:=e
  have hb:=(hS.own b t e).1
  exact (hold hb p1).2 t e
theorem FN {f:FuncId} {args args0 as1:List AV} {d:Nat} (hf:snaps σ 0 d args=some as1) (h0:args0=as1∨args0=clrs as1) (h:dC P hh (.call f args0 []) R) (h1:∀ o,R o→o.σ=[]∧Scal o.v∧Q ⟨none,[],σ,o.v⟩) :
    dC P hh (.call f args σ) Q:=by
  refine ⟨h.1,fun {G w vs} ha hS=>?_⟩
  have hL:=nP (m:=0) hS G.res
  obtain ⟨lim,hlimeq⟩:∃ lim,lim=(G.cut w σ 0 G.res).lim:=⟨_,rfl⟩
  have hrel0:RelS P hh (G.fresh0 w lim fun _=>True) w []:=uW fun b L e=>by
    rw [hlimeq] at e
    refine ⟨trivial,?_⟩
    cases hn:G.lim b with
    |some L' =>
      have:(G.cut w σ 0 G.res).lim b=some L':=by simp [Gh.cut,hn]
      rw [this] at e
      cases e
      obtain ⟨vs,T,fr,p1,p2,_⟩:=hS.lim b _ hn
      exact ⟨vs,T,fr,p1,p2⟩
    |none =>
      obtain ⟨rfl,id,cs,p1,p2,p3⟩:=vC e hn
      obtain ⟨vs,T,q,l,_⟩:=hS.blk _ _ _ p2 p3
      exact ⟨vs,T,(0,0),q,by simp [qQ,q]⟩
  have hL':Last σ G 0 (G.fresh0 w lim fun _=>True) :=
    { loc:=fun id b h _=>absurd h (by omega),lim:=fun b L e=>by obtain ⟨L',q⟩:=hL.lim b L e;exact ⟨L',by rw [hlimeq.symm] at q;exact q⟩,tok:=fun t p h _=>absurd h (by omega),own:=fun b t e=>(by cases e),
      frz:=fun id b cs h1 h2 h3=>by
        obtain ⟨⟨L,q1,q2⟩,_⟩:=hL.frz id b cs h1 h2 h3
        exact ⟨⟨L,by rw [hlimeq.symm] at q1;exact q1,q2⟩,fun t e=>by cases e⟩ }
  obtain ⟨hlen,hsp⟩:=eE hf
  have hv:∀ (i:Nat) (y:AV) (u:Value),as1[i]? = some y→vs[i]? = some u→RelV (G.fresh0 w lim fun _=>True) w y u:=fun i y u e1 e2=>by
    obtain ⟨x,p1,p2⟩:=pI hf e1
    exact qG hS hL' d p2 (ha.2 i x u p1 e2)
  have ha0:fN (G.fresh0 w lim fun _=>True) w args0 vs:=by
    rcases h0 with rfl|rfl
    · exact ⟨by rw [hlen];exact ha.1,hv⟩
    · rw [gP]
      exact yG clr (fun i x u e1 e2=>(hv i x u e1 e2).clr) (by rw [hlen];exact ha.1)
  refine (h.2 ha0 hrel0).mono fun e w' hr=>?_
  obtain ⟨r,G1,u,rfl,q1,q2,q3,q4⟩:=hr
  obtain ⟨hσ,hs,hq⟩:=h1 r q1
  rw [hσ] at q3
  have hg:=DL hS q3 q4 (fun b=>if b<w.heap.size then G.lim b else G1.lim b) (fun b hb=>by left;simp [hb]) (fun b hb=>by simp;omega)
  exact ⟨_,_,u,rfl,hq,q2.scal hs,hg.1,hg.2⟩
end Go.Am
namespace Go.Am
variable {P:Program} {hh:String→Bool} {G G0 G1 G':Gh} {w w0 w1 w':World} {σ σ' σ1:St} {env env':Env} {n m m':Nat} {v:AV} {a:Act} {Q R S:Out→Prop}
theorem WV (env:Env) (t:Nat):Env.get env t = .undef∨∃ p∈env,p.1=t∧Env.get env t=p.2:=by
 induction env with
 |nil=>exact .inl rfl
 |cons p env ih =>
  obtain ⟨k,v⟩:=p
  by_cases hk:k=t
  ·exact .inr ⟨(k,v),by simp,hk,by simp [Env.get,hk]⟩
  ·rcases ih with h|⟨p,q1,q2,q3⟩
   ·exact .inl (by simp [Env.get,hk,h])
   ·exact .inr ⟨p,by simp [q1],q2,by simp [Env.get,hk,q3]⟩
theorem ON {c:ACode} (h:dC P hh (.code c env σ) R) (h1:∀ o,R o→∃ env' m,ZU σ o.env o.σ env' m∧Q ⟨o.j,env',o.σ.take m,o.v⟩):dC P hh (.code c env σ) Q:=by
 intro F n cd G w a B f1 f2 f3 f4 f5 f6
 have he0:=kR f4
 refine (h f1 f2 (f3.ghost (G':=G.shut σ) rfl rfl rfl rfl) f4.shut (f5.mono fun r e=>e) f6).mono fun e a' w' hp=>?_
 obtain ⟨o,G1,q1,q2,q3,q4,q5,q6⟩:=hp
 obtain ⟨env',m,⟨t1,t2,t3,t4⟩,hq⟩:=h1 o q1
 have hkept:V8 σ o.σ m:=⟨t1,t2,t4⟩
 have hless:=(nP (m:=m) q4 G.res).toLess
 refine ⟨_,G1.cut w' o.σ m G.res,hq,q2,⟨q3.1,fun t=>?_⟩,G9 f4 q5 q4 hkept,u9 f4 q5 q4 t1,q6.mono fun r e=>e⟩
 rcases WV env' t with hu|⟨p,p1,p2,p3⟩
 ·show RelV _ _ (Env.get env' t) _
  rw [hu]
  exact .undef _
 ·show RelV _ _ (Env.get env' t) _
  obtain ⟨g1,g2⟩:=t3 p p1
  rw [p3]
  have:=q3.2 t
  rw [←p2,←g1] at this
  rw [←p2]
  exact this.less hless g2
theorem KC {c:ACode} (t sz:Nat) (xs:List AV) (ht:Env.get env t = .lit xs true none) (h:dC P hh (.code c ((t,.lit xs false (some σ.length))::env) (σ++[.tok sz xs.length false])) Q):dC P hh (.code c env σ) Q:=by
 intro F n cd G w a B f1 f2 f3 f4 f5 f6
 have hr:=f3.2 t
 rw [ht] at hr
 generalize hu:a.tmps.getD t undef=u at hr
 obtain ⟨base,cap,rfl,htk,hbn⟩:=j6 hr
 have hcap:=htk.2.1 rfl
 obtain ⟨G1,hG1⟩:∃ G1:Gh,G1={ G with tok:=fun i=>if i=σ.length then some (base,xs.length,xs.length) else G.tok i }:=⟨_,rfl⟩
 have hlt:∀ {t b n c},G.tok t=some (b,n,c)→t<σ.length:=fun e=>by
  obtain ⟨_,_,q,_⟩:=f4.tok _ _ _ _ e
  exact (List.getElem?_eq_some_iff.1 q).1
 have he:Evo G w G1 w:=by
  rw [hG1]
  refine ⟨fun _ _ h=>h,fun b L h=>⟨L,h,Nat.le_refl _,fun _ _=>rfl⟩,fun t b n c e=>⟨b,n,c,?_,Nat.le_refl _,fun _=>⟨rfl,rfl⟩⟩,fun _ _ _ _ h=>h,fun _ h=>h,rfl,rfl,rfl,rfl,rfl,Nat.le_refl _,fun _ _ h=>h⟩
  have:=hlt e
  simp only [show t≠σ.length by omega,if_false]
  exact e
 have hS1:RelS P hh G1 w (σ++[.tok sz xs.length false]):=by
  have hm:=f4.more [.tok sz xs.length false]
  rw [hG1] at he ⊢
  refine ⟨hm.lt,fun id b x e1 e2=>(hm.blk id b x e1 e2).mono he rfl,hm.inj,hm.fresh,hm.lim,fun t' b k c e=>?_,fun b t' e=>?_,hm.defs,hm.base,hm.size,hm.res⟩
  ·by_cases ht':t'=σ.length
   ·subst ht'
    simp only [if_true,Option.some.injEq,Prod.mk.injEq] at e
    obtain ⟨rfl,rfl,rfl⟩:=e
    exact ⟨sz,false,by simp,Nat.le_refl _,fun _=>rfl,fun h=>by cases h⟩
   ·simp only [ht',if_false] at e
    exact hm.tok _ _ _ _ e
  ·obtain ⟨q1,p,q2⟩:=hm.own b t' e
   refine ⟨q1,p,?_⟩
   obtain ⟨b',n',c'⟩:=p
   have:=hlt q2
   simp only [show t'≠σ.length by omega,if_false]
   exact q2
 have hv:RelV G1 w (.lit xs false (some σ.length)) (.slice base xs.length cap):=by
  have htk':mI G1 false (some σ.length) xs.length base cap:=by
   refine ⟨htk.1,by simp,fun t' e=>?_⟩
   cases e
   exact ⟨base,xs.length,xs.length,by rw [hG1];simp,Nat.le_refl _,fun _ _=>⟨rfl,hcap.symm⟩⟩
  have hr1:=hr.mono he
  cases hr1 with
  |nil _ hb=>exact .nil htk' hb
  |lit _ hl hc =>
   refine .lit htk' ⟨hl.lim,fun t' e=>?_,hl.size,hl.cells⟩ hc
   have:=hl.own t' e
   cases this
 have hE1:fE G1 w n ((t,.lit xs false (some σ.length))::env) a.tmps:=by
  refine ⟨f3.1,fun t'=>?_⟩
  by_cases htt:t=t'
  ·subst htt
   rw [hu]
   simpa [Env.get] using hv
  ·simpa [Env.get,htt] using (f3.2 t').mono he
 exact (h f1 f2 hE1 hS1 (f5.mono he.defs) f6).mono fun e a w=>o8.lift he
theorem yN:∀ (args:List AV) (k t:Nat),Env.get (gB k args) t=if k≤t then (args[t-k]?).getD .undef else .undef
 |[],k,t=>by simp [gB,Env.get]
 |v::vs,k,t=>by
  simp only [gB,Env.get]
  by_cases hk:k=t
  ·subst hk;simp
  ·rw [if_neg hk,yN vs (k+1) t]
   by_cases hlt:k≤t
   ·rw [if_pos hlt,if_pos (by omega),show t-k=(t-(k+1))+1 by omega]
    rfl
   ·rw [if_neg hlt,if_neg (by omega)]
theorem QX {args:List AV} {vs:Array Value} (h:fN G w args vs) (hn:args.length≤n):fE G w n (gB 0 args) (vs++Array.replicate (n-vs.size) undef):=by
 refine ⟨by have:=h.1;simp;omega,fun t=>?_⟩
 rw [yN]
 simp only [Nat.zero_le,if_true,Nat.sub_zero]
 cases e:args[t]? with
 |none=>simpa using .undef _
 |some x =>
  have ht:t<vs.size:=by rw [h.1];exact (List.getElem?_eq_some_iff.1 e).1
  have:=h.2 t x vs[t] e (Array.getElem?_eq_getElem ht)
  simpa [Array.getD_eq_getD_getElem?,Array.getElem?_append_left ht,Array.getElem?_eq_getElem ht] using this
theorem CL {fn:Func} {af:AFunc} (h:aD P hh fn=some af) :
  ∃ c,fn.body=some c∧comp P hh fn.ntmps c=some af.body∧mT P fn.results.toList=some af.results∧(fn.name== "runtime.NumGoroutine")=false∧af.ntmps=fn.ntmps:=by
 unfold aD at h
 split at h
 ·cases h
 ·rename_i c hb
  split at h
  ·rename_i b rs h1 h2
   split at h
   ·cases h
   ·rename_i hname
    cases h
    exact ⟨c,hb,h1,h2,by simpa using hname,rfl⟩
  ·cases h
theorem N8 {T:FuncId→Option AFunc} (hT:∀ f af,T f=some af→∃ fn,P.funcs[f]? = some fn∧aD P hh fn=some af) {f:FuncId} {args:List AV} {af:AFunc} (hf:T f=some af) (hn:args.length≤af.ntmps)
  (h:dC P hh (.code af.body (gB 0 args) σ) R) (h1:∀ o,R o→(o.j=none∨o.j=some .ret)∧∃ v,gX af.results o.env o.σ=some v∧Q1 σ o.σ v Q):dC P hh (.call f args σ) Q:=by
 obtain ⟨fn,hfn,hcomp⟩:=hT f af hf
 obtain ⟨c,hb,hc,hres,hname,hnt⟩:=CL hcomp
 have hname':¬fn.name = "runtime.NumGoroutine":=by simpa using hname
 refine ⟨fun vs w=>by simp [callFunc,hfn,hname',hb],fun {G w vs} ha hS=>?_⟩
 refine callsIn_of_wp_marks hfn hb trivial (wpIn_mono (h (F:=Fence.wide) (cd:=c) (n:=fn.ntmps) (G:=G.shut σ) (w:=w) (a:={ tmps:=vs++Array.replicate (fn.ntmps-vs.size) undef,defers:=[] }) (B:=w.heap.size) (.inl rfl) hc ((QX ha (by omega)).ghost rfl rfl rfl rfl) hS.shut
  ⟨[],rfl,List.nodup_nil,fun r hr=>by cases hr⟩ (Nat.le_refl _)).wpIn fun e a' w' hp=>?_)
 obtain ⟨o,G1,q1,rfl,q3,q4,q5,rs,m1,m2,m3⟩:=hp
 obtain ⟨hj,v,hv,hl⟩:=h1 o q1
 have hleave:LeavesInM Fence.wide 0 P fn a'.tmps (fun e w'=>∃ r G' u,e = .returned u∧Q r∧RelV G' w' r.v u∧RelS P hh G' w' r.σ∧Evo G w G' w') a'.defers .returning w':=by
  rw [m1]
  refine yI rs m2 (fun r hr=>⟨(m3 r hr).1,fun e=>?_⟩) q4 q3 q5 fun G2 w2 s1 s2 s3=>?_
  ·have:=(Array.getElem?_eq_some_iff.1 (hS.defs r e).1).1
   have:=(m3 r hr).2
   omega
  ·obtain ⟨u,r1,r2⟩:=CE s2 s1 hres hv
   obtain ⟨o2,G3,t1,t2,t3,t4⟩:=HS hS s3 s1 r2 hl
   exact ⟨u,r1,o2,G3,u,rfl,t1,t2,t3,t4⟩
 rcases hj with hj|hj<;>rw [hj]<;>exact hleave
theorem RelS.newDef (h:RelS P hh G w σ):RelS P hh { G with defs:=fun x=>G.defs x∨x=w.heap.size } (w.alloc (.deferred (some []))) σ ∧
  Evo G w { G with defs:=fun x=>G.defs x∨x=w.heap.size } (w.alloc (.deferred (some []))):=by
 have h1:=h.alloc (.deferred (some []))
 have he:=kI h (.deferred (some []))
 refine ⟨⟨h1.lt,fun id b x e1 e2=>(h1.blk id b x e1 e2).ghost rfl rfl rfl rfl,h1.inj,fun id b e=>?_,h1.lim,h1.tok,h1.own,fun r e=>?_,h1.base,h1.size,h1.res⟩,
  ⟨he.loc,he.lim,he.tok,he.own,fun r e=>.inl e,he.B0,he.h0,he.os,he.tape,he.output,he.size,he.res⟩⟩
 ·obtain ⟨q1,q2,q3,q4⟩:=h1.fresh id b e
  refine ⟨q1,q2,q3,fun hd=>hd.elim q4 fun e'=>?_⟩
  have:=(h.fresh id b e).2.1
  omega
 ·rcases e with e|rfl
  ·exact h1.defs r e
  ·refine ⟨by rw [eF,if_pos rfl],h.size,?_⟩
   cases e:G.lim w.heap.size with
   |none=>rfl
   |some L=>have:=qE h e;omega
theorem sM (w:World) (g:Nat) (o:Obj):Part g w (w.putObj g o):=j8 w g o
theorem AK {f:AOpd} {g:FuncId} {first cap:List AV} {ps:List Nat} {x y:ACode} (hf:f.ev env = .func g first cap)
  (h:dC P hh (.call g (first++[.yield σ.length]++cap) (σ++[.loop .ready none env ps x y])) R)
  (h1:∀ o,R o→∃ st pend env' ps' a' b',o.σ[σ.length]? = some (.loop st pend env' ps' a' b')∧st≠.busy∧Q ⟨pend,env,o.σ.set σ.length .dead,.undef⟩):dC P hh (.code (.rangeFunc f ps x y) env σ) Q:=by
 intro F n cd G w a B f1 f2 f3 f4 f5 f6
 obtain ⟨fo,pa,c,d,rfl,c1,c2,c3,rfl,c5,c6,c7⟩:=J0 f2
 have hF:F=Fence.wide:=by
  rcases f1 with h|⟨l,_,h⟩
  ·exact h
  ·simp [n7] at h
 subst hF
 refine wpIn_rangeFunc fun fn _=>?_
 obtain ⟨hD,heD⟩:=f4.newDef
 obtain ⟨GD,hGD⟩:∃ GD:Gh,GD={ G with defs:=fun z=>G.defs z∨z=w.heap.size }:=⟨_,rfl⟩
 rw [←hGD] at hD heD
 obtain ⟨rec,hrec⟩:∃ rec:Loop,rec={ state:=.ready,pending:=none,fn,tmps:=a.tmps,params:=pa,assign:=c,body:=d,defers:=w.heap.size }:=⟨_,rfl⟩
 have hED:=f3.mono heD
 obtain ⟨hL,heL⟩:=tA (o:=.loop rec) hD (x:=.loop .ready none env pa.toList x y) fun G' he' =>
  ⟨rec,n,by rw [eF,if_pos rfl],by rw [hrec];rfl,by rw [hrec];rfl,by rw [hrec],by rw [hrec];exact c2,by rw [hrec];exact c3,c5,by rw [show rec.tmps=a.tmps by rw [hrec]];exact hED.mono he',by rw [hrec];exact ⟨c6,c7⟩⟩
 rw [show (w.alloc (.deferred (some []))).heap.size=w.heap.size+1 from by simp] at hL heL
 have hr:=cP (a:=a) c1 f3
 rw [hf] at hr
 have heGL:=heD.trans heL
 have hr2:=hr.mono heGL
 generalize hfu:a.eval fo=fu at hr2
 cases hr2 with
 |@func _ _ _ first' cap' e1 e2 e3 e4 =>
  refine ⟨w.heap.size+1,[BV w.heap.size],(w.alloc (.deferred (some []))).alloc (.loop rec),{ target:=.fn (.func g) cap',args:=first'++#[.func (.yield (w.heap.size+1)) #[] #[]] },(w.alloc (.deferred (some []))).alloc (.loop rec),g,
   first'++#[.func (.yield (w.heap.size+1)) #[] #[]]++cap',(w.alloc (.deferred (some []))).alloc (.loop rec),?_,?_,fun _ _=>trivial,?_,(fun h0=>by cases h0),?_⟩
  ·rw [hrec];exact run_enterLoop_outer _ _ _ _ _
  ·simp only [resolve,rangeCall]
   rw [hfu]
   simp [Deferred.ofValue,Act.eval]
  ·simp [invoke,h.1]
  ·have hargs:fN (GD.withLoc σ.length (w.heap.size+1)) ((w.alloc (.deferred (some []))).alloc (.loop rec)) (first++[.yield σ.length]++cap) (first'++#[.func (.yield (w.heap.size+1)) #[] #[]]++cap'):=by
    refine fN.append (fN.append ⟨e1,e3⟩ ⟨rfl,fun i z u q1 q2=>?_⟩) ⟨e2,e4⟩
    match i with
    |0=>simp at q1 q2;subst q1;subst q2;exact .yield eW
    |_+1=>simp at q1
   refine (h.2 hargs hL).mono fun e w3 hr3=>?_
   obtain ⟨o,G3,u,rfl,q1,q2,q3,q4⟩:=hr3
   obtain ⟨st,pend,env',ps',a',b',s1,s2,s3⟩:=h1 o q1
   have hloc:G3.loc σ.length=some (w.heap.size+1):=q4.loc _ _ eW
   obtain ⟨l,k,l1,l2,l3,l4⟩:=q3.blk _ _ _ hloc s1
   have hst:l.state≠.busy:=by
    rw [l2]
    cases st<;>simp [aAW] at s2 ⊢
   have hend:=run_endLoop (P:=P) l1 hst
   have hw:=q3.write (y:=.dead) hloc (sM w3 (w.heap.size+1) (.loop { l with state:=.exhausted })) s1 (fun _ _ _ e=>by cases e) trivial
   refine ⟨_,_,hend,?_⟩
   have hevo:=(heGL.trans q4).trans hw.2
   have hmarks:pM G3 B ({ a with defers:=[BV w.heap.size]++a.defers }:Act).defers:=by
    obtain ⟨rs,m1,m2,m3⟩:=f5
    refine ⟨w.heap.size::rs,by simp [m1],List.nodup_cons.2 ⟨fun hm=>?_,m2⟩,fun r hr=>?_⟩
    ·have:=(Array.getElem?_eq_some_iff.1 (f4.defs _ (m3 _ hm).1).1).1
     omega
    ·rcases List.mem_cons.1 hr with rfl|hr
     ·exact ⟨(heL.trans q4).defs _ (by rw [hGD];exact .inr rfl),f6⟩
     ·exact ⟨hevo.defs _ (m3 r hr).1,(m3 r hr).2⟩
   have hpost:o8 P hh G w n B Q (OD pend) { a with defers:=[BV w.heap.size]++a.defers } (w3.putObj (w.heap.size+1) (.loop { l with state:=.exhausted })) :=
    ⟨_,G3,s3,rfl,f3.mono hevo,hw.1,hevo,hmarks⟩
   rw [l3] at hpost ⊢
   cases pend with
   |none=>exact hpost
   |some j =>
    cases j with
    |ret=>exact wpIn_ret hpost
    |exit id=>exact wpIn_exit hpost
theorem B9:∀ {ps:List Nat} {args:List AV} {us:List Value} {env:Env} {tmps:Array Value},ps.length=args.length→us.length=args.length→(∀ p∈ps,p<n) →
  (∀ (i:Nat) (x:AV) (u:Value),args[i]? = some x→us[i]? = some u→RelV G w x u)→fE G w n env tmps →
  fE G w n (kK env ps args) ((ps.zip us).foldl (fun tmps (t,a)=>tmps.setIfInBounds t a) tmps)
 |[],[],us,env,tmps,_,_,_,_,hE=>by simpa [kK] using hE
 |[],_::_,us,env,tmps,h,_,_,_,_=>by simp at h
 |_::_,[],us,env,tmps,h,_,_,_,_=>by simp at h
 |p::ps,v::args,[],env,tmps,_,h,_,_,_=>by simp at h
 |p::ps,v::args,u::us,env,tmps,h1,h2,h3,h4,hE=>by
  simp only [kK,List.zip_cons_cons,List.foldl_cons]
  refine B9 (by simpa using h1) (by simpa using h2) (fun q hq=>h3 q (List.mem_cons_of_mem _ hq)) (fun i x u e1 e2=>h4 (i+1) x u (by simpa using e1) (by simpa using e2)) ?_
  exact hE.put (a:={ tmps:=tmps,defers:=[] }) (dst:=some p) (fun d e=>by cases e;exact h3 p (by simp)) (h4 0 v u rfl rfl)
theorem II {r:Nat} {o o':Obj} (hb:w.heap[r]? = some o):(w.putObj r o').heap[r]? = some o':=rY hb
theorem JP {id:Nat} {args:List AV} {ps:List Nat} {x y:ACode} (hl:σ[id]? = some (.loop .ready none env ps x y)) (hn:ps.length=args.length) (h:dC P hh (.code x (kK env ps args) σ) R)
  (h0:∀ o,R o→o.j=none∧o.σ[id]? = some (.loop .ready none env ps x y)) (h1:∀ o,R o→dC P hh (.code y o.env (o.σ.set id (.loop .busy none env ps x y))) S)
  (h2:∀ o,S o→o.σ[id]? = some (.loop .busy none env ps x y)∧Q ⟨none,[],o.σ.set id (.loop (if o.j=none then .ready else .done) o.j env ps x y),.bool (decide (o.j=none))⟩) :
  dC P hh (.callv (.yield id) args σ) Q:=by
 intro G w fv vs hf ha hS
 cases hf with
 |@yield _ b hloc =>
  obtain ⟨l,n,l1,l2,l3,l4,l5,l6,l7,l8,l9,l10⟩:=hS.blk _ _ _ hloc hl
  have hy:=run_yield (P:=P) (args:=#[]++vs) l1 (by have:=ha.1;rw [←l4] at hn;simp at hn ⊢;omega)
  refine ⟨{ target:=.fn (.yield b) #[],args:=#[]++vs },_,w,by simp [Deferred.ofValue],by simp only [invoke];exact hy,fun {F} o a next Qx hF hnext=>?_⟩
  rw [Oper.uponIn_round]
  refine ⟨fun e=>absurd e hF.depth,hF.round ?_⟩
  have htm:((l.params.zip (#[]++vs)).foldl (fun tmps (t,a)=>tmps.setIfInBounds t a) l.tmps)=((ps.zip vs.toList).foldl (fun tmps (t,a)=>tmps.setIfInBounds t a) l.tmps):=by
   rw [←Array.foldl_toList,Array.toList_zip,←l4]
   simp
  rw [htm]
  have hE:=B9 (G:=G) (w:=w) (env:=env) (tmps:=l.tmps) hn (us:=vs.toList) (by simpa using ha.1) l7 (fun i z u e1 e2=>ha.2 i z u e1 (by simpa using e2)) l8
  refine roundIn_of_wpIn trivial (wpIn_mono (h (F:=Fence.wide.inRound b) (cd:=l.assign) (n:=n) (G:=G) (w:=w) (a:={ tmps:=(ps.zip vs.toList).foldl (fun tmps (t,a)=>tmps.setIfInBounds t a) l.tmps,defers:=[] }) (B:=w.heap.size)
   (.inr ⟨b,rfl,l9⟩) l5 hE hS ⟨[],rfl,List.nodup_nil,fun r hr=>by cases hr⟩ (Nat.le_refl _)).wpIn fun e a1 w1 hp=>?_)
  obtain ⟨o1,G1,q1,rfl,q3,q4,q5,q6⟩:=hp
  obtain ⟨j0,s0⟩:=h0 o1 q1
  rw [j0]
  have hloc1:=q5.loc _ _ hloc
  obtain ⟨r,n1,r1,r2,r3,r4,r5,r6,r7,r8,r9,r10⟩:=q4.blk _ _ _ hloc1 s0
  refine ⟨_,run_beginRound r1 r2,?_⟩
  have hp1:=sM w1 b (.loop { r with state:=.busy })
  have hev1:Evo G1 w1 G1 (w1.putObj b (.loop { r with state:=.busy })):=nZ hp1 (q4.fresh _ _ hloc1).2.2.1
  have hw1:=q4.write (y:=.loop .busy none env ps x y) hloc1 hp1 s0 (fun _ _ _ e=>by cases e)
   ⟨{ r with state:=.busy },n1,II r1,rfl,r3,r4,r5,r6,r7,r8.mono hev1,r9,r10⟩
  -- the body is the record's,from the first look on
  have hbody:comp P hh n l.body=some y:=l6
  refine wpIn_mono (h1 o1 q1 (F:=Fence.wide.inRound b) (cd:=l.body) (n:=n) (G:=G1) (w:=w1.putObj b (.loop { r with state:=.busy })) (a:=a1) (B:=w.heap.size)
   (.inr ⟨b,rfl,l10⟩) hbody (q3.mono hev1) hw1.1 (q6.mono hev1.defs) (Nat.le_trans q5.size hev1.size)).wpIn fun e2 a2 w2 hp2=>?_
  obtain ⟨o2,G2,p1,rfl,p3,p4,p5,p6⟩:=hp2
  obtain ⟨t0,tq⟩:=h2 o2 p1
  have hev2:=(q5.trans hev1).trans p5
  have hloc2:=hev2.loc _ _ hloc
  obtain ⟨z,n2,z1,z2,z3,z4,z5,z6,z7,z8,z9,z10⟩:=p4.blk _ _ _ hloc2 t0
  have fin:∀ (jump:Option Code),jump=o2.j.map JV→∃ v w',(Instr.endRound b jump).run P w2 = .ok v w'∧∃ v',Ending.returned v = .returned v'∧next (a.put o.dst v') w':=by
   intro jump hj
   have hp2:=sM w2 b (.loop { z with state:=if jump.isNone then .ready else .done,pending:=jump })
   have hev3:Evo G2 w2 G2 (w2.putObj b (.loop { z with state:=if jump.isNone then .ready else .done,pending:=jump })):=nZ hp2 (p4.fresh _ _ hloc2).2.2.1
   have hnone:jump.isNone=decide (o2.j=none):=by rw [hj];cases o2.j<;>rfl
   have hw2:=p4.write (y:=.loop (if o2.j=none then .ready else .done) o2.j env ps x y) hloc2 hp2 t0 (fun _ _ _ e=>by cases e)
    ⟨{ z with state:=if jump.isNone then .ready else .done,pending:=jump },n2,II z1,by
     simp only [hnone]
     by_cases hq:o2.j=none<;>simp [hq,aAW],hj,z4,z5,z6,z7,z8.mono hev3,z9,z10⟩
   refine ⟨_,_,run_endRound jump z1,_,rfl,?_⟩
   refine hnext _ G2 _ (.bool jump.isNone) tq ?_ hw2.1 (hev2.trans hev3)
   rw [hnone]
   exact .bool _
  cases hj:o2.j with
  |none =>
   obtain ⟨v,w3,g1,v',g2,g3⟩:=fin none (by rw [hj];rfl)
   cases g2
   exact ⟨v,w3,g1,g3⟩
  |some j =>
   cases j with
   |ret =>
    obtain ⟨v,w3,g1,v',g2,g3⟩:=fin (some .ret) (by rw [hj];rfl)
    cases g2
    exact ⟨v,w3,g1,g3⟩
   |exit id' =>
    obtain ⟨v,w3,g1,v',g2,g3⟩:=fin (some (.exit id')) (by rw [hj];rfl)
    cases g2
    exact ⟨v,w3,g1,g3⟩
theorem fE.same {tmps:Array Value} (h:fE G w n env' tmps) (he:∀ t,Env.get env t=Env.get env' t):fE G w n env tmps:=⟨h.1,fun t=>by rw [he];exact h.2 t⟩
theorem I1 {c:ACode} (he:∀ t,Env.get env t=Env.get env' t) (h:dC P hh (.code c env' σ) Q):dC P hh (.code c env σ) Q:=by
 intro F n cd G w a B f1 f2 f3 f4 f5 f6
 exact h f1 f2 (f3.same fun t=>(he t).symm) f4 f5 f6
theorem J7 {os:List AOper} (he:∀ t,Env.get env t=Env.get env' t) (h:dC P hh (.ops os env' σ) Q):dC P hh (.ops os env σ) Q:=by
 intro F n ops l G w a B R f1 f2 f3 f4 f5 f6
 exact h f1 f2 (f3.same fun t=>(he t).symm) f4 f5 f6
theorem MG {c:ACode} (he:∀ t,Env.get env' t = .undef∨Env.get env' t=Env.get env t∨Env.get env' t=clr (Env.get env t)) (h:dC P hh (.code c env' σ) Q):dC P hh (.code c env σ) Q:=by
 intro F n cd G w a B f1 f2 f3 f4 f5 f6
 refine h f1 f2 ⟨f3.1,fun t=>?_⟩ f4 f5 f6
 rcases he t with e|e|e
 ·rw [e];exact .undef _
 ·rw [e];exact f3.2 t
 ·rw [e];exact (f3.2 t).clr
theorem aFG {T:FuncId→Option AFunc} (hT:∀ f af,T f=some af→∃ fn,P.funcs[f]? = some fn∧aD P hh fn=some af) {t:Task} (h:Run T t Q):dC P hh t Q:=by
 induction h with
 |mono _ hq ih=>exact OJ ih hq
 |skip h=>exact NC h
 |jump h=>exact N7 h
 |seq _ _ h2 ih ih1=>exact OU ih ih1 h2
 |cond b hc _ ih=>exact OK b hc ih
 |block _ h1 ih=>exact JT ih h1
 |loop _ _ h2 ih ih1=>exact OB ih ih1 h2
 |scope _ ih=>exact JG ih
 |reg _ ih=>exact SN ih fun _ _=>trivial
 |dreg _ ih=>exact OA ih
 |rangeFunc hf _ h1 ih=>exact AK hf ih h1
 |trim _ h1 ih=>exact ON ih h1
 |trim2 _ h1 ih=>exact KP ih h1
 |frame hf h0 _ h1 ih=>exact JZ hf h0 ih h1
 |frameS hf h0 _ h1 ih=>exact FN hf h0 ih h1
 |chainNil h=>exact CO h
 |chainCons _ _ h2 ih ih1=>exact zY ih ih1 h2
 |chain _ h1 h2 _ ih ih1=>exact KR ih h1 h2 ih1
 |ghost t sz xs ht _ ih=>exact KC t sz xs ht ih
 |reenv he _ ih=>exact I1 he ih
 |weak he _ ih=>exact MG he ih
 |reops he _ ih=>exact J7 he ih
 |nil h=>exact OT h
 |off hw _ ih=>exact QM hw ih
 |step hw ha _ ih=>exact MM hw ha ih
 |stepc hw ho _ _ ih ih1=>exact I6 hw ho ih ih1
 |stepm hw ho hx hl he hn _ _ ih0 ih1=>exact KS hw ho hx hl he hn ih0 ih1
 |dnil hr h=>exact ND hr h
 |doff hw _ ih=>exact OC hw ih
 |dalloc hw ho _ ih=>exact GW hw ho ih
 |dpure hw hk ha _ ih=>exact KK hw hk ha ih
 |dread hw hk ha _ ih=>exact J6 hw hk ih
 |dact hw hk ha _ ih=>exact NW hw hk ha ih
 |dcall hw ho _ _ ih ih1=>exact IR hw ho ih ih1
 |callf _ ih=>exact CM ih
 |round hl hn _ h0 _ h2 ih ih1=>exact JP hl hn ih h0 ih1 h2
 |call hf hn _ h1 ih=>exact N8 hT hf hn ih h1
end Go.Am
namespace Go.Am
variable {P:Program} {hh:String→Bool}
def Gh.start (w:World):Gh:=⟨fun _=>none,fun _=>none,fun _=>none,fun _=>none,fun _=>False,w.heap.size,w.heap,fun _=>none⟩
end Go.Am
namespace Go.Am
open Go.ChangeShapes Go.WideShapes Go.ChangeAt Go.RowKit
variable {P:Program} {hh:String→Bool} {H:Type} {enc:TypeId×Value→H} {w:World} {sp:Nat→Bool} {held:Bool}
def mkV (P:Program) (t:TypeId) (cs:List AV):AV:=match P.underlying t with
 |some (.struct _)=>.agg cs
 |some (.array _ _)=>.agg cs
 |_=>cs.headD .undef
def Typ (P:Program):Nat→TypeId→List AV→Prop
 |0,_,_=>False
 |n+1,t,cs =>
  match P.underlying t with
  |some .bool=>∃ b,cs=[.bool b]
  |some (.int k)=>∃ m,cs=[.int k m]∧(Lit.int k m).wf=true
  |some .string=>∃ s:ByteArray,cs=[.str s]∧s.size≤maxLen
  |some (.slice e)=>∃ ys:List (List AV),cs=[.lit (ys.map (mkV P e)) false none]∧(ys.length≤maxLen∧ys.length*P.bytesOf e≤reachBytes)∧∀ y∈ys,Typ P n e y
  |some (.struct fs)=>∃ parts:List (List AV),cs=parts.flatten∧parts.length=fs.toList.length∧∀ (i:Nat) f p,fs.toList[i]? = some f→parts[i]? = some p→Typ P n f.type p
  |some (.array k e)=>∃ parts:List (List AV),cs=parts.flatten∧parts.length=k∧∀ p∈parts,Typ P n e p
  |_=>False
def I3 (P:Program):Nat→TypeId→Bool
 |0,_=>false
 |n+1,t =>
  match P.underlying t with
  |some .bool|some (.int _)|some .string=>true
  |some (.slice e)=>decide (0<P.cellsOf e)&&I3 P n e
  |some (.struct fs)=>fs.toList.all fun f=>I3 P n f.type
  |some (.array _ e)=>I3 P n e
  |_=>false
def QG (w:World) (b:Nat):Option Nat:=match w.heap[b]? with
 |some (.cells vs _ _)=>some vs.size
 |_=>none
noncomputable def AE (w:World):Gh:=(Gh.start w).fresh0 w (QG w) fun b=>∃ L,QG w b=some L
theorem TO (w:World):RelS P hh (AE w) w []:=uW fun b L e=>by
 refine ⟨⟨L,e⟩,?_⟩
 unfold QG at e
 split at e
 ·rename_i vs T fr h
  simp only [Option.some.injEq] at e
  exact ⟨vs,T,fr,h,by omega⟩
 ·cases e
def vV (G:Gh) (w:World) (az:List AV) (cs:List Value):Prop:=az.length=cs.length∧∀ (i:Nat) a v,az[i]? = some a→cs[i]? = some v→RelV G w a v
theorem vV.nil {G:Gh}:vV G w [] []:=⟨rfl,by simp⟩
theorem vV.app {G:Gh} {az bs:List AV} {cs ds:List Value} (h:vV G w az cs) (k:vV G w bs ds):vV G w (az++bs) (cs++ds):=by
 refine ⟨by simp [h.1,k.1],fun i a v e1 e2=>?_⟩
 by_cases hi:i<az.length
 ·rw [List.getElem?_append_left hi] at e1
  rw [List.getElem?_append_left (by rw [←h.1];exact hi)] at e2
  exact h.2 i a v e1 e2
 ·rw [List.getElem?_append_right (by omega)] at e1
  rw [List.getElem?_append_right (by rw [←h.1];omega),←h.1] at e2
  exact k.2 _ a v e1 e2
theorem vV.one {G:Gh} {a:AV} {v:Value} (h:RelV G w a v):vV G w [a] [v]:=⟨rfl,fun i x u e1 e2=>by
 cases i with
 |zero=>simp at e1 e2;subst e1;subst e2;exact h
 |succ i=>simp at e1⟩
theorem M7 {n:Nat} {t:TypeId} {cs:List AV} (h:Typ P n t cs):(mkV P t cs).cells=cs:=by
 cases n with
 |zero=>exact h.elim
 |succ n =>
  simp only [Typ] at h
  unfold mkV
  split at h
  ·rename_i hu;rw [hu];obtain ⟨b,rfl⟩:=h;rfl
  ·rename_i hu;rw [hu];obtain ⟨b,rfl,_⟩:=h;rfl
  ·rename_i hu;rw [hu];obtain ⟨b,rfl,_⟩:=h;rfl
  ·rename_i hu;rw [hu];obtain ⟨b,rfl,_⟩:=h;rfl
  ·rename_i hu;rw [hu];rfl
  ·rename_i hu;rw [hu];rfl
  ·exact h.elim
theorem QI {a:Addr} {v:Value} (h:w.cell? a=some v) (n:Nat):a.add n=⟨a.block,a.off+n,none⟩:=by
 have hs:a.spot=none:=by
  unfold World.cell? at h
  split at h
  ·split at h
   ·cases h
   ·rename_i hs;simpa using hs
  ·cases h
 obtain ⟨b,o,s⟩:=a
 simp only at hs
 subst hs
 unfold Addr.add
 split
 ·rename_i h0;simp [h0]
 ·rfl
theorem VM {b o:Nat} {v:Value} (h:w.cell? ⟨b,o,none⟩=some v):∃ L,QG w b=some L∧o<L:=by
 unfold World.cell? at h
 split at h
 ·rename_i c T fr hb
  refine ⟨c.size,by simp only at hb;simp [QG,hb],?_⟩
  simp at h
  exact (Array.getElem?_eq_some_iff.1 h).1
 ·cases h
theorem P0 {G:Gh} {n:Nat} {cs:List Value}:∀ (fl:List Field) (o:Nat),(∀ (j:Nat) f,fl[j]? = some f→f.offset=o+((fl.take j).map fun f=>P.cellsOf f.type).sum)→cs.length=o+(fl.map fun f=>P.cellsOf f.type).sum →
  (∀ f∈fl,∃ az,Typ P n f.type az∧vV G w az ((cs.drop f.offset).take (P.cellsOf f.type))) →
  ∃ parts:List (List AV),parts.length=fl.length∧(∀ (i:Nat) f p,fl[i]? = some f→parts[i]? = some p→Typ P n f.type p)∧vV G w parts.flatten (cs.drop o)
 |[],o,_,hl,_=>⟨[],rfl,by simp,by
   have:cs.drop o=[]:=List.drop_of_length_le (by simp at hl;omega)
   rw [this];exact .nil⟩
 |f::fl,o,ho,hl,ht=>by
  have h0:=ho 0 f rfl
  simp only [List.take_zero,List.map_nil,List.sum_nil,Nat.add_zero] at h0
  simp only [List.map_cons,List.sum_cons] at hl
  obtain ⟨az,h1,h2⟩:=ht f (by simp)
  obtain ⟨parts,q1,q2,q3⟩:=P0 fl (o+P.cellsOf f.type) (fun j g hj=>by
   have:=ho (j+1) g (by simpa using hj)
   simp only [List.take_succ_cons,List.map_cons,List.sum_cons] at this
   omega) (by omega) fun g hg=>ht g (List.mem_cons_of_mem _ hg)
  refine ⟨az::parts,by simp [q1],fun i g p e1 e2=>?_,?_⟩
  ·cases i with
   |zero=>simp at e1 e2;subst e1;subst e2;exact h1
   |succ i=>exact q2 i g p (by simpa using e1) (by simpa using e2)
  ·rw [List.flatten_cons]
   have e:cs.drop o=(cs.drop o).take (P.cellsOf f.type)++cs.drop (o+P.cellsOf f.type):=by
    rw [←List.drop_drop,List.take_append_drop]
   rw [e]
   rw [h0] at h2
   exact h2.app q3
theorem YG {G:Gh} {m:Nat} {e:TypeId} {cs:List Value}:∀ (n o:Nat),cs.length=o+n*P.cellsOf e →
  (∀ i,i<n→∃ az,Typ P m e az∧vV G w az ((cs.drop (o+i*P.cellsOf e)).take (P.cellsOf e)))→∃ parts:List (List AV),parts.length=n∧(∀ p∈parts,Typ P m e p)∧vV G w parts.flatten (cs.drop o)
 |0,o,hl,_=>⟨[],rfl,by simp,by
   have:cs.drop o=[]:=List.drop_of_length_le (by simp at hl;omega)
   rw [this];exact .nil⟩
 |n+1,o,hl,ht=>by
  obtain ⟨az,h1,h2⟩:=ht 0 (by omega)
  rw [Nat.zero_mul,Nat.add_zero] at h2
  rw [Nat.add_mul,Nat.one_mul] at hl
  obtain ⟨parts,q1,q2,q3⟩:=YG (e:=e) (cs:=cs) (m:=m) n (o+P.cellsOf e) (by omega) fun i hi=>by
   obtain ⟨az,k1,k2⟩:=ht (i+1) (by omega)
   rw [Nat.add_mul,Nat.one_mul,Nat.add_comm (i*_),←Nat.add_assoc] at k2
   exact ⟨az,k1,k2⟩
  refine ⟨az::parts,by simp [q1],fun p hp=>?_,?_⟩
  ·rcases List.mem_cons.1 hp with rfl|hp
   ·exact h1
   ·exact q2 p hp
  ·rw [List.flatten_cons]
   have e1:cs.drop o=(cs.drop o).take (P.cellsOf e)++cs.drop (o+P.cellsOf e):=by
    rw [←List.drop_drop,List.take_append_drop]
   rw [e1]
   exact h2.app q3
theorem xY {α:Type} {Q:Nat→α→Prop}:∀ n,(∀ i,i<n→∃ x,Q i x)→∃ l:List α,l.length=n∧∀ (i:Nat) x,l[i]? = some x→Q i x
 |0,_=>⟨[],rfl,by simp⟩
 |n+1,h=>by
  obtain ⟨l,h1,h2⟩:=xY n fun i hi=>h i (by omega)
  obtain ⟨x,hx⟩:=h n (by omega)
  refine ⟨l++[x],by simp [h1],fun i y e=>?_⟩
  by_cases hi:i<l.length
  ·rw [List.getElem?_append_left hi] at e;exact h2 i y e
  ·rw [List.getElem?_append_right (by omega)] at e
   have:i-l.length=0:=by
    by_cases h0:i-l.length=0
    ·exact h0
    ·rw [List.getElem?_eq_none (by simp;omega)] at e;cases e
   rw [this] at e
   simp at e
   subst e
   rw [show i=n by omega];exact hx
theorem oL (hl:laidOutB P=true):∀ (n m:Nat) (t:TypeId) (cs:List Value) (x:DataW H×List MemPlace),t<P.types.size→I3 P n t=true→DataW.trod enc P w 0 sp held m t cs=some x→(∀ k∈x.1.weights P t,k≤reachBytes) →
  ∃ az,Typ P n t az∧vV (AE w) w az cs
 |0,m,t,cs,x,_,ho,_,_=>by simp [I3] at ho
 |n+1,m,t,cs,x,ht,ho,h,hwt=>by
  simp only [I3] at ho
  split at ho
  ·rename_i hu
   obtain ⟨b,rfl,_⟩:=DataW.trod_bool hu h
   exact ⟨[.bool b],by simp only [Typ,hu];exact ⟨b,rfl⟩,.one (.bool b)⟩
  ·rename_i k hu
   obtain ⟨b,rfl,_,hw⟩:=DataW.trod_int hu h
   exact ⟨[.int k b],by simp only [Typ,hu];exact ⟨b,rfl,hw⟩,.one (.int k b)⟩
  ·rename_i hu
   obtain ⟨s,rfl,_,hs⟩:=DataW.trod_string hu h
   exact ⟨[.str s],by simp only [Typ,hu];exact ⟨s,rfl,hs⟩,.one (.str s)⟩
  ·rename_i e hu
   simp only [Bool.and_eq_true,decide_eq_true_eq] at ho
   rcases DataW.trod_slice hu h with ⟨rfl,_⟩|⟨a,len,cap,elems,rest,m',_,rfl,hxe,_,hlc,hcm,hel,hei,_,_⟩
   ·refine ⟨[.lit [] false none],by simp only [Typ,hu];exact ⟨[],rfl,⟨by simp,by simp⟩,by simp⟩,.one (.nil ⟨Nat.le_refl _,(fun e=>by cases e),(fun t e=>by cases e)⟩ fun _=>rfl)⟩
   ·
    have hws:∀ k∈x.1.weights P t,k≤reachBytes:=hwt
    rw [hxe] at hws
    simp only [DataW.weights,hu,List.mem_cons,List.mem_append,List.length_map] at hws
    have hwl:len*P.bytesOf e≤reachBytes:=by
     have h1:=hws _ (.inl rfl)
     rw [hel] at h1
     exact Nat.le_trans (Nat.mul_le_mul_right _ (Nat.le_add_right _ _)) h1
    have hwe:∀ (d:DataW H),d∈elems.map (·.1)→∀ k∈d.weights P e,k≤reachBytes:=by
     have key:∀ (l:List (DataW H)) (d:DataW H),d∈l→∀ k∈d.weights P e,k∈DataW.weightsAll P e l:=by
      intro l
      induction l with
      |nil=>intro d hd;cases hd
      |cons a l ih =>
       intro d hd k hk
       simp only [DataW.weightsAll,List.mem_append]
       rcases List.mem_cons.1 hd with rfl|hd
       ·exact .inl hk
       ·exact .inr (ih d hd k hk)
     exact fun d hd k hk=>hws k (.inr (.inl (key _ d hd k hk)))
    have hel2:∀ i,i<len→∃ y,Typ P n e y∧∃ vs,w.cells? 0 (a.add (i*P.cellsOf e)) (P.cellsOf e)=some vs∧vV (AE w) w y vs:=by
     intro i hi
     have h1:=hei i hi
     rw [List.getElem?_eq_getElem (by omega),Option.bind_eq_some_iff] at h1
     obtain ⟨vs,q1,q2⟩:=h1
     obtain ⟨y,q3,q4⟩:=oL hl n m' e vs _ (kid_slice hl ht hu) ho.2 q2 (hwe _ (List.mem_map.2 ⟨_,List.getElem_mem (by omega),rfl⟩))
     exact ⟨y,q3,vs,q1,q4⟩
    obtain ⟨ys,hyl,hys⟩:=xY len hel2
    refine ⟨[.lit (ys.map (mkV P e)) false none],by
     simp only [Typ,hu]
     refine ⟨ys,rfl,⟨by omega,by rw [hyl];exact hwl⟩,fun y hy=>?_⟩
     obtain ⟨i,hi⟩:=List.getElem?_of_mem hy
     exact (hys i y hi).1,.one ?_⟩
    by_cases h0:len=0
    ·subst h0
     obtain rfl:ys=[]:=List.eq_nil_of_length_eq_zero hyl
     exact .nil ⟨Nat.zero_le _,(fun e=>by cases e),(fun t e=>by cases e)⟩ fun e=>by cases e
    ·
     have hcell:∀ i j,i<len→j<P.cellsOf e→∃ v,w.cell? ((a.add (i*P.cellsOf e)).add j)=some v:=by
      intro i j hi hj
      obtain ⟨y,_,vs,q1,_⟩:=hel2 i hi
      simp only [World.cells?,Nat.zero_le,if_true] at q1
      have hlen:=mapM_some_length q1
      have:=mapM_some_get q1 j j (by simp [hj])
      rw [List.length_range] at hlen
      rw [List.getElem?_eq_getElem (by omega)] at this
      exact ⟨_,this⟩
     obtain ⟨v0,hv0⟩:=hcell 0 0 (by omega) ho.1
     rw [Nat.zero_mul] at hv0
     have ha0:a.add 0=a:=by simp [Addr.add]
     rw [ha0,ha0] at hv0
     have hplain:∀ i,a.add i=⟨a.block,a.off+i,none⟩:=QI hv0
     have hae:a=⟨a.block,a.off,none⟩:=by have:=hplain 0;rw [ha0] at this;simpa using this
     have hplain2:∀ i j,(a.add i).add j=⟨a.block,a.off+(i+j),none⟩:=by
      intro i j
      rw [hplain]
      unfold Addr.add
      split
      ·rename_i h;simp [h]
      ·simp [Nat.add_assoc]
     have hcell2:∀ i j,i<len→j<P.cellsOf e→∃ v,w.cell? ⟨a.block,a.off+(i*P.cellsOf e+j),none⟩=some v:=by
      intro i j hi hj
      have:=hcell i j hi hj
      rw [hplain2] at this
      exact this
     rw [hae,show len=(ys.map (mkV P e)).length by simp [hyl]]
     have hsz:∀ (i:Nat) (x:AV),(ys.map (mkV P e))[i]? = some x→∃ y,ys[i]? = some y∧x=mkV P e y∧x.cells=y:=by
      intro i x hx
      rw [List.getElem?_map] at hx
      cases hy:ys[i]? with
      |none=>rw [hy] at hx;cases hx
      |some y =>
       rw [hy] at hx
       simp at hx
       exact ⟨y,rfl,hx.symm,by rw [←hx,M7 (hys i y hy).1]⟩
     have hvl:∀ (i:Nat) y,ys[i]? = some y→y.length=P.cellsOf e:=by
      intro i y hy
      obtain ⟨_,vs,q1,q2⟩:=hys i y hy
      rw [q2.1]
      simp only [World.cells?,Nat.zero_le,if_true] at q1
      rw [mapM_some_length q1,List.length_range]
     refine .lit (sz:=P.cellsOf e) ⟨by simp;omega,(fun e=>by cases e),(fun t e=>by cases e)⟩ ⟨?_,(fun t e=>by cases e),fun i x hx=>?_,fun k hk=>?_⟩ fun i x j c u hx hc hu2=>?_
     ·obtain ⟨v,hv⟩:=hcell2 (len-1) (P.cellsOf e-1) (by omega) (by omega)
      obtain ⟨L,q1,q2⟩:=VM hv
      refine ⟨L,q1,?_⟩
      rw [List.length_map,hyl]
      have:(len-1)*P.cellsOf e+P.cellsOf e=len*P.cellsOf e:=by
       rw [←Nat.succ_mul];congr 1;omega
      omega
     ·obtain ⟨y,q1,q2,q3⟩:=hsz i x hx
      rw [q3];exact hvl i y q1
     ·rw [List.length_map,hyl] at hk
      have hd:k/P.cellsOf e<len:=Nat.div_lt_of_lt_mul (by rw [Nat.mul_comm];exact hk)
      have hm:k%P.cellsOf e<P.cellsOf e:=Nat.mod_lt _ ho.1
      obtain ⟨v,hv⟩:=hcell2 _ _ hd hm
      have:k/P.cellsOf e*P.cellsOf e+k%P.cellsOf e=k:=by rw [Nat.mul_comm];exact Nat.div_add_mod _ _
      rw [this] at hv
      rw [hv];rfl
     ·obtain ⟨y,q1,q2,q3⟩:=hsz i x hx
      rw [q3] at hc
      obtain ⟨_,vs,p1,p2⟩:=hys i y q1
      have hjl:j<P.cellsOf e:=by
       rw [←hvl i y q1]
       exact (List.getElem?_eq_some_iff.1 hc).1
      simp only [World.cells?,Nat.zero_le,if_true] at p1
      have hg:=mapM_some_get p1 j j (by simp [hjl])
      rw [hplain2] at hg
      rw [hu2] at hg
      exact p2.2 j c u hc hg.symm
  ·rename_i fs hu
   rw [List.all_eq_true] at ho
   obtain ⟨xs,m',_,hxe,hcl,hxl,hf⟩:=DataW.trod_struct hu h
   obtain ⟨k1,k2,k3⟩:=kid_struct hl ht hu
   obtain ⟨parts,q1,q2,q3⟩:=P0 (P:=P) (G:=AE w) (w:=w) (n:=n) (cs:=cs) fs.toList 0 (fun j f hj=>by rw [k3 j f hj];omega) (by rw [hcl,k2];omega) fun f hfm=>by
    obtain ⟨i,hi⟩:=List.getElem?_of_mem hfm
    have h1:=hf i f (by simpa using hi)
    have hil:i<xs.length:=by rw [hxl];have:=(List.getElem?_eq_some_iff.1 hi).1;simpa using this
    rw [List.getElem?_eq_getElem hil] at h1
    have hd:(xs.map (·.1))[i]? = some xs[i].1:=by rw [List.getElem?_map,List.getElem?_eq_getElem hil];rfl
    have hty:(fs.toList.map (·.type))[i]? = some f.type:=by rw [List.getElem?_map,hi];rfl
    refine oL hl n m' f.type _ _ (k1 f hfm) (ho f hfm) h1 fun k hk=>hwt k ?_
    rw [hxe]
    simp only [DataW.weights,hu]
    exact DataW.weights_mem_each hty hd k hk
   rw [List.drop_zero] at q3
   exact ⟨parts.flatten,by simp only [Typ,hu];exact ⟨parts,rfl,q1,q2⟩,q3⟩
  ·rename_i k e hu
   obtain ⟨xs,m',_,hxe,hcl,hxl,hf⟩:=DataW.trod_array hu h
   obtain ⟨k1,k2⟩:=kid_array hl ht hu
   have hwe:∀ (d:DataW H),d∈xs.map (·.1)→∀ q∈d.weights P e,q≤reachBytes:=by
    have key:∀ (l:List (DataW H)) (d:DataW H),d∈l→∀ q∈d.weights P e,q∈DataW.weightsAll P e l:=by
     intro l
     induction l with
     |nil=>intro d hd;cases hd
     |cons a l ih =>
      intro d hd q hq
      simp only [DataW.weightsAll,List.mem_append]
      rcases List.mem_cons.1 hd with rfl|hd
      ·exact .inl hq
      ·exact .inr (ih d hd q hq)
    intro d hd q hq
    refine hwt q ?_
    rw [hxe]
    simp only [DataW.weights,hu]
    exact key _ d hd q hq
   obtain ⟨parts,q1,q2,q3⟩:=YG (P:=P) (G:=AE w) (w:=w) (m:=n) (e:=e) (cs:=cs) k 0 (by rw [hcl,k2];omega) fun i hi=>by
    have h1:=hf i hi
    have hil:i<xs.length:=by omega
    rw [List.getElem?_eq_getElem hil] at h1
    rw [Nat.zero_add]
    exact oL hl n m' e _ _ k1 ho h1 (hwe _ (List.mem_map.2 ⟨_,List.getElem_mem hil,rfl⟩))
   rw [List.drop_zero] at q3
   exact ⟨parts.flatten,by simp only [Typ,hu];exact ⟨parts,rfl,q1,q2⟩,q3⟩
  ·cases ho
theorem xU (hl:laidOutB P=true) (n:Nat) {t:TypeId} {v:Value} {d:DataW H} {ps:List MemPlace} (ht:t<P.types.size) (ho:I3 P n t=true) (hv:Value.okWide P w .any 0 t v) (h:DataW.Trod enc P w 0 sp held t v d ps) (hwt:∀ k∈d.weights P t,k≤reachBytes) :
  ∃ az,Typ P n t az∧RelV (AE w) w (mkV P t az) v:=by
 obtain ⟨m,hm⟩:=h
 obtain ⟨az,h1,h2⟩:=oL hl n m t _ _ ht ho hm hwt
 refine ⟨az,h1,?_⟩
 have hone:∀ {a:AV},az=[a]→(∀ cs,v≠.agg cs)→RelV (AE w) w a v:=by
  rintro a rfl hx
  have hc:v.cells.toList=[v]:=by cases v<;>first|rfl|exact absurd rfl (hx _)
  rw [hc] at h2
  exact h2.2 0 a v rfl rfl
 cases n with
 |zero=>exact h1.elim
 |succ n =>
  unfold mkV
  simp only [Typ] at h1
  split at h1<;>rename_i hu
  ·obtain ⟨b,rfl⟩:=h1
   rw [hu]
   obtain ⟨c,hc⟩:=okWide_bool hu hv
   exact hone rfl (by rw [hc];intro cs e;cases e)
  ·obtain ⟨b,rfl,_⟩:=h1
   rw [hu]
   obtain ⟨c,hc⟩:=okWide_int hu hv
   exact hone rfl (by rw [hc];intro cs e;cases e)
  ·obtain ⟨b,rfl,_⟩:=h1
   rw [hu]
   obtain ⟨c,hc⟩:=okWide_string hu hv
   exact hone rfl (by rw [hc];intro cs e;cases e)
  ·obtain ⟨b,rfl,_⟩:=h1
   rw [hu]
   obtain ⟨_,_,_,hc⟩:=okWide_slice hu hv
   exact hone rfl (by rw [hc];intro cs e;cases e)
  ·rw [hu]
   unfold Value.okWide at hv
   rw [hu] at hv
   obtain ⟨cs,rfl,_,_⟩:=hv
   refine .agg ?_ fun i a u e1 e2=>?_
   ·have:=h2.1;simpa [Value.cells] using this.symm
   ·exact h2.2 i a u e1 (by simpa [Value.cells] using e2)
  ·rw [hu]
   unfold Value.okWide at hv
   rw [hu] at hv
   obtain ⟨cs,rfl,_,_⟩:=hv
   refine .agg ?_ fun i a u e1 e2=>?_
   ·have:=h2.1;simpa [Value.cells] using this.symm
   ·exact h2.2 i a u e1 (by simpa [Value.cells] using e2)
  ·exact h1.elim
theorem CK {T:FuncId→Option AFunc} (hT:∀ f af,T f=some af→∃ fn,P.funcs[f]? = some fn∧aD P hh fn=some af) {f:FuncId} {az:List AV} {vs:Array Value} {w:World} (ha:fN (AE w) w az vs) (h:Run T (.call f az []) fun o=>o.v = .bool true) :
  Calls P f vs w fun e w'=>e = .returned (.bool true)∧RowKit.Below w.heap.size w w':=by
 have hs:=aFG hT h
 refine (callsIn_wide.1 (hs.2 (G:=AE w) (w:=w) (vs:=vs) ha (TO w))).mono fun e w' hr=>?_
 obtain ⟨r,G',u,rfl,q1,q2,q3,q4⟩:=hr
 rw [q1] at q2
 cases q2
 refine ⟨rfl,q4.os,q4.tape,q4.output,q4.size,fun k hk=>?_⟩
 have hB:G'.B0=w.heap.size:=q4.B0
 have hh0:G'.h0=(AE w).h0:=q4.h0
 rw [q3.base k (by rw [hB];exact hk),hh0]
 simp only [AE,Gh.fresh0]
 rw [Array.getElem?_append_left hk]
theorem H4 {G:Gh}:fN G w [] #[]:=⟨rfl,by simp⟩
theorem vG {G:Gh} {a:AV} {v:Value} {az:List AV} {vs:List Value} (h:RelV G w a v) (hs:fN G w az vs.toArray):fN G w (a::az) (v::vs).toArray:=by
 refine ⟨by have:=hs.1;simp at this;simp [this],fun i x u e1 e2=>?_⟩
 cases i with
 |zero=>simp at e1 e2;subst e1;subst e2;exact h
 |succ i=>exact hs.2 i x u (by simpa using e1) (by simpa using e2)
def KT (P:Program) (n:Nat):List TypeId→List AV→Prop
 |[],cs=>cs=[]
 |t::ts,cs=>∃ a b,cs=a++b∧Typ P n t a∧KT P n ts b
theorem IF {n:Nat}:∀ (fl:List Field) (parts:List (List AV)),parts.length=fl.length→(∀ (i:Nat) f p,fl[i]? = some f→parts[i]? = some p→Typ P n f.type p)→KT P n (fl.map Field.type) parts.flatten
 |[],parts,hl,_=>by rw [List.length_eq_zero_iff.1 hl];rfl
 |f::fl,[],hl,_=>by simp at hl
 |f::fl,p::parts,hl,h=>⟨p,parts.flatten,rfl,h 0 f p rfl rfl,IF fl parts (by simpa using hl) fun i g q e1 e2=>h (i+1) g q (by simpa using e1) (by simpa using e2)⟩
theorem I5 {n:Nat} {t:TypeId} {fs:Array Field} {cs:List AV} (hu:P.underlying t=some (.struct fs)) (h:Typ P (n+1) t cs):KT P n (fs.toList.map Field.type) cs:=by
 simp only [Typ,hu] at h
 obtain ⟨parts,rfl,h1,h2⟩:=h
 exact IF fs.toList parts h1 h2
theorem jE {n:Nat} {t:TypeId} {k:IntKind} {cs:List AV} (hu:P.underlying t=some (.int k)) (h:Typ P (n+1) t cs):∃ m,cs=[.int k m]∧(Lit.int k m).wf=true:=by
 simp only [Typ,hu] at h;exact h
theorem U7 {n:Nat} {t:TypeId} {cs:List AV} (hu:P.underlying t=some .string) (h:Typ P (n+1) t cs):∃ s:ByteArray,cs=[.str s]∧s.size≤maxLen:=by
 simp only [Typ,hu] at h;exact h
theorem pB {n:Nat} {t e:TypeId} {cs:List AV} {α:Type} {f:α→AV} {Q:α→Prop} (hu:P.underlying t=some (.slice e)) (h:Typ P (n+1) t cs) (hq:∀ y,Typ P n e y→∃ x,mkV P e y=f x∧Q x):∃ l:List α,cs=[.lit (l.map f) false none]∧(l.length<9223372036854775808∧l.length*P.bytesOf e≤reachBytes)∧∀ x∈l,Q x:=by
 simp only [Typ,hu] at h
 obtain ⟨ys,rfl,⟨h1,h1b⟩,h2⟩:=h
 have key:∀ ys:List (List AV),(∀ y∈ys,Typ P n e y)→∃ l:List α,ys.map (mkV P e)=l.map f∧l.length=ys.length∧∀ x∈l,Q x:=by
  intro ys
  induction ys with
  |nil=>intro _;exact ⟨[],rfl,rfl,by simp⟩
  |cons y ys ih =>
   intro hy
   obtain ⟨x,q1,q2⟩:=hq y (hy y (by simp))
   obtain ⟨l,q3,q4,q5⟩:=ih fun z hz=>hy z (List.mem_cons_of_mem _ hz)
   exact ⟨x::l,by simp [q1,q3],by simp [q4],fun z hz=>by
    rcases List.mem_cons.1 hz with rfl|hz
    ·exact q2
    ·exact q5 z hz⟩
 obtain ⟨l,q1,q2,q3⟩:=key ys h2
 exact ⟨l,by rw [q1],⟨by simp only [maxLen] at h1;omega,by rw [q2];exact h1b⟩,q3⟩
theorem I7 {t:TypeId} {fs:Array Field} {cs:List AV} (hu:P.underlying t=some (.struct fs)):mkV P t cs = .agg cs:=by simp [mkV,hu]
theorem WW {t:TypeId} {a:AV} (hu:∀ fs,P.underlying t≠some (.struct fs)) (hu2:∀ k e,P.underlying t≠some (.array k e)):mkV P t [a]=a:=by
 unfold mkV
 split
 ·rename_i fs h;exact absurd h (hu fs)
 ·rename_i k e h;exact absurd h (hu2 k e)
 ·rfl
theorem aGH {m:Int} (h:(Lit.int .u8 m).wf=true):0≤m∧m<256:=by
 simp [Lit.wf,IntKind.min,IntKind.max,IntKind.signed,IntKind.bits] at h
 omega
end Go.Am
namespace Go.Am
variable {T:FuncId→Option AFunc}
def mM (r:Option (AV×St)) (K:AV→St→Prop):Prop :=
 match r with
 |some (v,σ)=>K v σ
 |none=>False
@[congr] theorem Y4 {r r':Option (AV×St)} {K:AV→St→Prop} (h:r=r'):mM r K=mM r' K:=by rw [h]
@[simp] theorem aAD (v:AV) (σ:St) (K:AV→St→Prop):mM (some (v,σ)) K=K v σ:=rfl
@[simp] theorem aBW (K:AV→St→Prop):mM none K=False:=rfl
@[simp] theorem aC5 (c:Prop) [Decidable c] (r q:Option (AV×St)) (K:AV→St→Prop):mM (if c then r else q) K=if c then mM r K else mM q K:=by split<;>rfl
def zO (v:AV) (A B:Unit→Prop):Prop :=
 match v with
 |.bool true=>A ()
 |.bool false=>B ()
 |_=>False
@[congr] theorem ZA {v v':AV} {A B:Unit→Prop} (h:v=v'):zO v A B=zO v' A B:=by rw [h]
@[simp] theorem aCH (b:Bool) (A B:Unit→Prop):zO (.bool b) A B=if b=true then A () else B ():=by cases b<;>rfl
def nH (v:AV) (want:Bool) (A B:Unit→Prop):Prop :=
 match v with
 |.bool b=>if b=want then A () else B ()
 |.tuple []=>B ()
 |_=>False
@[congr] theorem XQ {v v':AV} {want:Bool} {A B:Unit→Prop} (h:v=v'):nH v want A B=nH v' want A B:=by rw [h]
@[simp] theorem aBD (b want:Bool) (A B:Unit→Prop):nH (.bool b) want A B=if b=want then A () else B ():=rfl
@[simp] theorem aC7 (want:Bool) (A B:Unit→Prop):nH (.tuple []) want A B=B ():=rfl
def KW (T:FuncId→Option AFunc) (f:AV) (args:List AV) (σ:St) (K:AV→St→Prop):Prop:=Run T (.callv f args σ) fun r=>K r.v r.σ
@[congr] theorem XS {f f':AV} {args args':List AV} {σ σ':St} {K:AV→St→Prop} (h1:f=f') (h2:args=args') (h3:σ=σ'):KW T f args σ K=KW T f' args' σ' K:=by rw [h1,h2,h3]
def gL (T:FuncId→Option AFunc) (q:AOp) (e:Env) (σ:St) (K:AV→St→Prop):Prop :=
 match q with
 |.call f args=>KW T (f.ev e) (args.map (·.ev e)) σ K
 |q=>mM (aop q e σ) K
@[congr] theorem aA5 {q:AOp} {e e':Env} {σ σ':St} {K:AV→St→Prop} (h2:e=e') (h3:σ=σ'):gL T q e σ K=gL T q e' σ' K:=by rw [h2,h3]
def aM (T:FuncId→Option AFunc):List AOper→Env→St→(Env→St→Prop)→Prop
 |[],e,σ,K=>K e σ
 |⟨dst,q,none⟩::os,e,σ,K=>gL T q e σ fun v σ'=>aM T os (Env.put e dst v) σ' K
 |⟨dst,q,some (t,want)⟩::os,e,σ,K =>
  nH (Env.get e t) want (fun _=>gL T q e σ fun v σ'=>aM T os (Env.put e dst v) σ' K) (fun _=>aM T os (Env.put e dst (.tuple [])) σ K)
@[congr] theorem ZK {os:List AOper} {e e':Env} {σ σ':St} {K:Env→St→Prop} (h2:e=e') (h3:σ=σ'):aM T os e σ K=aM T os e' σ' K:=by rw [h2,h3]
theorem o0 {Q:Out→Prop}:∀ {os:List AOper} {e:Env} {σ:St} {K:Env→St→Prop},aM T os e σ K→(∀ e σ,K e σ→Q ⟨none,e,σ,.undef⟩)→Run T (.ops os e σ) Q
 |[],e,σ,K,h,hq=>.nil (hq _ _ h)
 |o::os,e,σ,K,h,hq=>by
  have key:o.wanted e=some true→gL T o.op e σ (fun v σ'=>aM T os (Env.put e o.dst v) σ' K)→Run T (.ops (o::os) e σ) Q:=by
   intro hw h
   by_cases hc:∃ f args,o.op = .call f args
   ·obtain ⟨f,args,ho⟩:=hc
    rw [ho] at h
    exact .stepc hw ho h fun r hr=>o0 hr hq
   ·have:∃ v σ',aop o.op e σ=some (v,σ')∧aM T os (Env.put e o.dst v) σ' K:=by
     unfold gL at h
     split at h
     ·rename_i f args ho;exact absurd ⟨f,args,ho⟩ hc
     ·unfold mM at h
      split at h
      ·rename_i v σ' hv;exact ⟨v,σ',hv,h⟩
      ·exact h.elim
    obtain ⟨v,σ',h1,h2⟩:=this
    exact .step hw h1 (o0 h2 hq)
  obtain ⟨dst,q,g⟩:=o
  cases g with
  |none=>exact key rfl h
  |some g =>
   obtain ⟨t,want⟩:=g
   simp only [aM,nH] at h
   split at h
   ·rename_i b h1
    split at h
    ·rename_i hb
     exact key (by simp [AOper.wanted,h1,hb]) h
    ·rename_i hb
     exact .off (by simp [AOper.wanted,h1];simpa using hb) (o0 h hq)
   ·rename_i h1
    exact .off (by simp [AOper.wanted,h1]) (o0 h hq)
   ·exact h.elim
abbrev KJ:=Option AJump→Env→St→Prop
def t7 (A K:KJ):KJ:=fun j e σ=>match j with|none=>A none e σ|some j=>K (some j) e σ
@[simp] theorem aAX (A K:KJ) (e:Env) (σ:St):t7 A K none e σ=A none e σ:=rfl
@[simp] theorem aAC (A K:KJ) (j:AJump) (e:Env) (σ:St):t7 A K (some j) e σ=K (some j) e σ:=rfl
def kM (id:Nat) (K:KJ):KJ:=fun j e σ=>match j with|some (.exit i)=>if i=id then K none e σ else K (some (.exit i)) e σ|j=>K j e σ
@[simp] theorem YB (id:Nat) (K:KJ) (e:Env) (σ:St):kM id K none e σ=K none e σ:=rfl
@[simp] theorem aBS (id:Nat) (K:KJ) (e:Env) (σ:St):kM id K (some .ret) e σ=K (some .ret) e σ:=rfl
@[simp] theorem X4 (id i:Nat) (K:KJ) (e:Env) (σ:St):kM id K (some (.exit i)) e σ=if i=id then K none e σ else K (some (.exit i)) e σ:=rfl
def M6 (T:FuncId→Option AFunc) (c:ACode) (e:Env) (σ:St) (K:KJ):Prop:=Run T (.code c e σ) fun o=>K o.j o.env o.σ
@[congr] theorem aA0 {c:ACode} {e e':Env} {σ σ':St} {K:KJ} (h2:e=e') (h3:σ=σ'):M6 T c e σ K=M6 T c e' σ' K:=by rw [h2,h3]
def wp (T:FuncId→Option AFunc):ACode→Env→St→KJ→Prop
 |.skip,e,σ,K=>K none e σ
 |.reg os,e,σ,K=>aM T os e σ fun e σ=>K none e σ
 |.seq a b,e,σ,K=>wp T a e σ (t7 (fun _ e σ=>wp T b e σ K) K)
 |.cond c a b,e,σ,K=>zO (c.ev e) (fun _=>wp T a e σ K) (fun _=>wp T b e σ K)
 |.block id b,e,σ,K=>wp T b e σ (kM id K)
 |.jump j,e,σ,K=>K (some j) e σ
 |.scope b,e,σ,K=>wp T b e σ K
 |c,e,σ,K=>M6 T c e σ K
@[congr] theorem aF0 {c:ACode} {e e':Env} {σ σ':St} {K:KJ} (h2:e=e') (h3:σ=σ'):wp T c e σ K=wp T c e' σ' K:=by rw [h2,h3]
theorem jQ {Q:Out→Prop}:∀ {c:ACode} {e:Env} {σ:St} {K:KJ},wp T c e σ K→(∀ o,K o.j o.env o.σ→Q o)→Run T (.code c e σ) Q:=by
 intro c
 induction c generalizing Q with
 |skip=>intro e σ K h hq;exact .skip (hq ⟨none,e,σ,.undef⟩ h)
 |reg os=>intro e σ K h hq;exact .reg (o0 h fun e σ hk=>hq ⟨none,e,σ,.undef⟩ hk)
 |dreg ds=>intro e σ K h hq;exact .mono h hq
 |seq a b iha ihb =>
  intro e σ K h hq
  refine .seq (iha h fun o ho=>ho) (fun o ho hj=>?_) fun o ho hj=>?_
  ·simp only [hj,t7] at ho
   exact ihb ho hq
  ·refine hq o ?_
   cases hj':o.j with
   |none=>exact absurd hj' hj
   |some j=>simp only [hj',t7] at ho;exact ho
 |cond c a b iha ihb =>
  intro e σ K h hq
  simp only [wp,zO] at h
  split at h
  ·rename_i h1;exact .cond true h1 (iha h hq)
  ·rename_i h1;exact .cond false h1 (ihb h hq)
  ·exact h.elim
 |block id b ih =>
  intro e σ K h hq
  refine .block (ih h fun o ho=>ho) fun o ho=>hq _ ?_
  unfold kM at ho
  split at ho
  ·rename_i i hj
   split at ho
   ·rename_i hi;subst hi;rw [if_pos hj];exact ho
   ·rename_i hi;rw [if_neg (by rw [hj];simpa using hi),hj];exact ho
  ·rename_i hj
   rw [if_neg (fun e=>hj _ e)]
   exact ho
 |loop b ih=>intro e σ K h hq;exact .mono h hq
 |rangeFunc f ps a b _ _=>intro e σ K h hq;exact .mono h hq
 |jump j=>intro e σ K h hq;exact .jump (hq ⟨some j,e,σ,.undef⟩ h)
 |scope b ih=>intro e σ K h hq;exact .scope (ih h hq)
def dY (T:FuncId→Option AFunc) (f:FuncId) (args:List AV) (v:AV):Prop:=∀ σ,Run T (.call f args σ) fun o=>o.v=v∧o.σ=σ
theorem rW (σ τ:St) (k:Nat):(σ++τ)[σ.length+k]? = τ[k]?:=by rw [List.getElem?_append_right (by omega)];congr 1;omega
theorem oN (σ τ:St) (k:Nat) (x:ABlk):(σ++τ).set (σ.length+k) x=σ++τ.set k x:=by rw [List.set_append_right _ _ (by omega)];congr 2;omega
theorem LZ (σ τ:St) (x:ABlk):(σ++τ).set σ.length x=σ++τ.set 0 x:=oN σ τ 0 x
end Go.Am
namespace Go.Am
variable {T:FuncId→Option AFunc}
theorem aE4 (e:Env) (d:Nat) (v:AV):Env.put e (some d) v=(d,v)::e:=by simp only [Env.put]
theorem aAU (e:Env) (v:AV):Env.put e none v=e:=by simp only [Env.put]
theorem SI (k:Nat) (v:AV) (e:Env) (t:Nat):Env.get ((k,v)::e) t=if k=t then v else Env.get e t:=by simp only [Env.get]
theorem QF (e:Env) (t:Nat):AOpd.ev e (.t t)=Env.get e t:=by simp only [AOpd.ev]
theorem aFC (e:Env) (v:AV):AOpd.ev e (.c v)=v:=by simp only [AOpd.ev]
theorem aEC (os:List AOper) (e:Env) (σ:St) (K:KJ):wp T (.reg os) e σ K=aM T os e σ fun e σ=>K none e σ:=by simp only [wp]
theorem aE9 (a b:ACode) (e:Env) (σ:St) (K:KJ):wp T (.seq a b) e σ K=wp T a e σ (t7 (fun _ e σ=>wp T b e σ K) K):=by simp only [wp]
theorem aCN (j:AJump) (e:Env) (σ:St) (K:KJ):wp T (.jump j) e σ K=K (some j) e σ:=by simp only [wp]
theorem aCC (A K:KJ) (e:Env) (σ:St):t7 A K none e σ=A none e σ:=by simp only [t7]
theorem aFU (e:Env) (σ:St) (K:Env→St→Prop):aM T [] e σ K=K e σ:=by simp only [aM]
def aFT (r:Option AV) (σ:St) (K:AV→St→Prop):Prop:=match r with|some v=>K v σ|none=>False
@[congr] theorem aBL {r r':Option AV} {σ σ':St} {K:AV→St→Prop} (h:r=r') (h2:σ=σ'):aFT r σ K=aFT r' σ' K:=by rw [h,h2]
def aEN (r:Option (List AV)) (σ:St) (K:AV→St→Prop):Prop:=match r with|some cs=>K (.agg cs) σ|none=>False
@[congr] theorem aCX {r r':Option (List AV)} {σ σ':St} {K:AV→St→Prop} (h:r=r') (h2:σ=σ'):aEN r σ K=aEN r' σ' K:=by rw [h,h2]
def aD0 (r:Option St) (K:AV→St→Prop):Prop:=match r with|some σ=>K (.tuple []) σ|none=>False
@[congr] theorem aBQ {r r':Option St} {K:AV→St→Prop} (h:r=r'):aD0 r K=aD0 r' K:=by rw [h]
def pX (n:Nat) (v:AV):Option (List AV):=if (v.cells.length==n&&v.cells.all (·.cell))=true then some v.cells else none
def wL (off:Nat):AV→Option AV
 |.ptr id o=>some (.ptr id (o+off))
 |.lptr xs i o t=>some (.lptr xs i (o+off) t)
 |_=>none
theorem Q8 (off id o:Nat):wL off (.ptr id o)=some (.ptr id (o+off)):=by simp [wL]
theorem R6 (off:Nat) (xs:List AV) (i o:Nat) (t:Option Nat):wL off (.lptr xs i o t)=some (.lptr xs i (o+off) t):=by simp [wL]
def aE0 (r:Option (List AV)) (σ:St) (K:AV→St→Prop):Prop:=match r with|some cs=>K (.ptr σ.length 0) (σ++[.cells cs])|none=>False
@[congr] theorem Z4 {r r':Option (List AV)} {σ σ':St} {K:AV→St→Prop} (h:r=r') (h2:σ=σ'):aE0 r σ K=aE0 r' σ' K:=by rw [h,h2]
def UY (i:Nat):AV→Option AV
 |.tuple vs=>vs[i]?
 |_=>none
theorem aCA (i:Nat) (vs:List AV):UY i (.tuple vs)=vs[i]?:=by simp [UY]
def WL:AV→Option AV
 |.bool b=>some (.bool !b)
 |_=>none
theorem aB2 (b:Bool):WL (.bool b)=some (.bool !b):=by simp [WL]
def CA (sh:EqTy) (neg:Bool) (x y:AV):Option AV:=(j3 sh x y).map fun b=>.bool (if neg then !b else b)
theorem aA9 (e:Env) (σ:St) (K:KJ):wp T .skip e σ K=K none e σ:=by simp only [wp]
theorem WJ (id:Nat) (b:ACode) (e:Env) (σ:St) (K:KJ):wp T (.block id b) e σ K=wp T b e σ (kM id K):=by simp only [wp]
theorem VK (b:ACode) (e:Env) (σ:St) (K:KJ):wp T (.scope b) e σ K=wp T b e σ K:=by simp only [wp]
theorem U3 (A K:KJ) (j:AJump) (e:Env) (σ:St):t7 A K (some j) e σ=K (some j) e σ:=by simp only [t7]
theorem ZZ (k:Nat):gB k []=[]:=by simp only [gB]
theorem aDU (k:Nat) (v:AV) (vs:List AV):gB k (v::vs)=(k,v)::gB (k+1) vs:=by simp only [gB]
theorem aFI (e:Env) (cs:List AV) (off n:Nat) (x:AOpd) (rest:List (Nat×Nat×AOpd)) :
  cO e cs ((off,n,x)::rest)=((pX n (x.ev e)).bind fun us=>gD cs off us).bind fun cs=>cO e cs rest:=by
 simp only [cO,pX];split
 ·simp only [Option.bind_some];cases gD cs off (x.ev e).cells<;>simp
 ·simp
end Go.Am
namespace Go.Am
variable {T:FuncId→Option AFunc}
def GC (I:Nat→Env→St→Prop) (k:Nat) (K:KJ):KJ:=fun j e σ=>match j with|none=>∃ k',k'<k∧I k' e σ|some j=>K (some j) e σ
theorem BD (I:Nat→Env→St→Prop) (k:Nat) (K:KJ) (e:Env) (σ:St):GC I k K none e σ = ∃ k',k'<k∧I k' e σ:=by simp only [GC]
theorem AO (I:Nat→Env→St→Prop) (k:Nat) (K:KJ) (j:AJump) (e:Env) (σ:St):GC I k K (some j) e σ=K (some j) e σ:=by simp only [GC]
theorem aET {b:ACode} {K:KJ} (I:Nat→Env→St→Prop) (step:∀ k e σ,I k e σ→wp T b e σ (GC I k K)):∀ n e σ,I n e σ→M6 T (.loop b) e σ K:=by
 intro n
 induction n using Nat.strongRecOn with
 |_ n ih =>
  intro e σ h
  refine .loop (jQ (step n e σ h) fun o ho=>ho) (fun o ho hj=>?_) fun o ho hj=>?_
  ·simp only [hj,BD] at ho
   obtain ⟨k',hk,hI⟩:=ho
   exact ih k' hk o.env o.σ hI
  ·cases hj':o.j with
   |none=>exact absurd hj' hj
   |some j=>simp only [hj',AO] at ho;exact ho
end Go.Am
namespace Go.Am
variable {T:FuncId→Option AFunc}
def D2 (r:ARead):List St→Nat→Prop
 |[],_=>True
 |s::ss,j=>(if r.lo≤j∧j≤r.hi then aop r.op r.env s=some (r.v,s) else True)∧D2 r ss (j+1)
theorem F5q {r:ARead}:∀ {hist:List St} {k:Nat},D2 r hist k→∀ j s,r.lo≤k+j→k+j≤r.hi→hist[j]? = some s→aop r.op r.env s=some (r.v,s)
 |[],k,_,j,s,_,_,h=>by simp at h
 |t::ss,k,h,j,s,h1,h2,h3=>by
  obtain ⟨q1,q2⟩:=h
  cases j with
  |zero=>simp at h3;subst h3;rw [if_pos ⟨by omega,by omega⟩] at q1;exact q1
  |succ j=>exact F5q q2 j s (by omega) (by omega) (by simpa using h3)
def qM:List ARead→List St→Prop
 |[],_=>True
 |r::rs,hist=>D2 r hist 0∧qM rs hist
theorem DO:∀ {rs:List ARead} {hist:List St},qM rs hist→∀ r∈rs,ARead.ok r hist
 |[],_,_,r,h=>by cases h
 |r::rs,hist,h,q,hq=>by
  rcases List.mem_cons.1 hq with rfl|hq
  ·intro j s h1 h2 h3
   exact F5q h.1 j s (by omega) (by omega) h3
  ·exact DO h.2 q hq
def DI (T:FuncId→Option AFunc) (f:AV) (args:List AV) (σ:St) (K:AV→St→Prop):Prop:=∃ v σ',Run T (.callv f args σ) (fun r=>r.v=v∧r.σ=σ')∧K v σ'
@[congr] theorem Y8 {f f':AV} {args args':List AV} {σ σ':St} {K:AV→St→Prop} (h1:f=f') (h2:args=args') (h3:σ=σ'):DI T f args σ K=DI T f' args' σ' K:=by rw [h1,h2,h3]
def wpD (T:FuncId→Option AFunc):List ADOper→Env→St→Nat→List St→List ARead→(Env→St→Prop)→Prop
 |[],e,σ,_,hist,reads,K=>qM reads hist∧K e σ
 |⟨⟨dst,.call f args,none⟩,_,_⟩::ds,e,σ,next,hist,reads,K=>DI T (f.ev e) (args.map (·.ev e)) σ fun v σ'=>wpD T ds (Env.put e dst v) σ' next (hist++[σ']) reads K
 |⟨⟨dst,.alloc _,none⟩,_,_⟩::ds,e,σ,next,hist,reads,K=>wpD T ds (Env.put e dst (.ptr next 0)) σ (next+1) hist reads K
 |⟨⟨dst,q,none⟩,lo,hi⟩::ds,e,σ,next,hist,reads,K =>
  mM (aop q e σ) fun v σ' =>
   if q.acts=true then wpD T ds (Env.put e dst v) σ' next (hist++[σ']) reads K
   else σ'=σ∧if q.reads=true then wpD T ds (Env.put e dst v) σ next hist (⟨lo,hi,q,e,v⟩::reads) K else wpD T ds (Env.put e dst v) σ next hist reads K
 |⟨⟨dst,.call f args,some (t,want)⟩,_,_⟩::ds,e,σ,next,hist,reads,K =>
  nH (Env.get e t) want (fun _=>DI T (f.ev e) (args.map (·.ev e)) σ fun v σ'=>wpD T ds (Env.put e dst v) σ' next (hist++[σ']) reads K)
   (fun _=>wpD T ds (Env.put e dst (.tuple [])) σ next (hist++[σ]) reads K)
 |⟨⟨dst,q,some (t,want)⟩,lo,hi⟩::ds,e,σ,next,hist,reads,K =>
  nH (Env.get e t) want
   (fun _=>q.allocs=false∧mM (aop q e σ) fun v σ' =>
    if q.acts=true then wpD T ds (Env.put e dst v) σ' next (hist++[σ']) reads K
    else σ'=σ∧if q.reads=true then wpD T ds (Env.put e dst v) σ next hist (⟨lo,hi,q,e,v⟩::reads) K else wpD T ds (Env.put e dst v) σ next hist reads K)
   (fun _=>wpD T ds (Env.put e dst (.tuple [])) σ (if q.allocs then next+1 else next) (if q.acts then hist++[σ] else hist) reads K)
theorem kL {Q:Out→Prop}:∀ {ds:List ADOper} {e:Env} {σ:St} {next:Nat} {hist:List St} {reads:List ARead} {K:Env→St→Prop},wpD T ds e σ next hist reads K →
  (∀ e σ,K e σ→Q ⟨none,e,σ,.undef⟩)→Run T (.dops ds e σ next hist reads) Q
 |[],e,σ,next,hist,reads,K,h,hq=>.dnil (DO h.1) (hq _ _ h.2)
 |⟨⟨dst,q,g⟩,lo,hi⟩::ds,e,σ,next,hist,reads,K,h,hq=>by
  -- an operation that is neither a call nor a new variable
  have key:AOper.wanted ⟨dst,q,g⟩ e=some true→q.allocs=false→(mM (aop q e σ) fun v σ' =>
    if q.acts=true then wpD T ds (Env.put e dst v) σ' next (hist++[σ']) reads K
    else σ'=σ∧if q.reads=true then wpD T ds (Env.put e dst v) σ next hist (⟨lo,hi,q,e,v⟩::reads) K else wpD T ds (Env.put e dst v) σ next hist reads K) →
    Run T (.dops (⟨⟨dst,q,g⟩,lo,hi⟩::ds) e σ next hist reads) Q:=by
   intro hw hal h
   unfold mM at h
   split at h
   ·rename_i v σ' hv
    split at h
    ·rename_i ha;exact .dact hw ha hv (kL h hq)
    ·rename_i ha
     obtain ⟨rfl,h⟩:=h
     split at h
     ·rename_i hr;exact .dread hw hr hv (kL h hq)
     ·rename_i hr;exact .dpure hw (by simp [hal];exact ⟨by simpa using ha,by simpa using hr⟩) hv (kL h hq)
   ·exact h.elim
  by_cases hc:∃ f args,q = .call f args
  ·obtain ⟨f,args,rfl⟩:=hc
   cases g with
   |none =>
    simp only [wpD,DI] at h
    obtain ⟨v,σ',h1,h2⟩:=h
    exact .dcall rfl rfl h1 (kL h2 hq)
   |some g =>
    obtain ⟨t,want⟩:=g
    simp only [wpD,nH] at h
    split at h
    ·rename_i b h1
     split at h
     ·rename_i hb
      obtain ⟨v,σ',h3,h4⟩:=h
      exact .dcall (by simp [AOper.wanted,h1,hb]) rfl h3 (kL h4 hq)
     ·rename_i hb
      exact .doff (by simp [AOper.wanted,h1];simpa using hb) (by simpa [AOp.allocs,AOp.acts] using kL h hq)
    ·rename_i h1
     exact .doff (by simp [AOper.wanted,h1]) (by simpa [AOp.allocs,AOp.acts] using kL h hq)
    ·exact h.elim
  ·cases g with
   |none =>
    by_cases hal:∃ z,q = .alloc z
    ·obtain ⟨z,rfl⟩:=hal
     simp only [wpD] at h
     exact .dalloc rfl rfl (kL h hq)
    ·refine key rfl ?_ ?_
     ·cases q<;>first|rfl|exact absurd ⟨_,rfl⟩ hal
     ·cases q<;>first|exact h|exact absurd ⟨_,_,rfl⟩ hc|exact absurd ⟨_,rfl⟩ hal
   |some g =>
    obtain ⟨t,want⟩:=g
    have h:nH (Env.get e t) want (fun _=>q.allocs=false∧mM (aop q e σ) fun v σ' =>
      if q.acts=true then wpD T ds (Env.put e dst v) σ' next (hist++[σ']) reads K
      else σ'=σ∧if q.reads=true then wpD T ds (Env.put e dst v) σ next hist (⟨lo,hi,q,e,v⟩::reads) K else wpD T ds (Env.put e dst v) σ next hist reads K)
      (fun _=>wpD T ds (Env.put e dst (.tuple [])) σ (if q.allocs then next+1 else next) (if q.acts then hist++[σ] else hist) reads K):=by
     cases q<;>first|exact h|exact absurd ⟨_,_,rfl⟩ hc
    simp only [nH] at h
    split at h
    ·rename_i b h1
     split at h
     ·rename_i hb
      exact key (by simp [AOper.wanted,h1,hb]) h.1 h.2
     ·rename_i hb
      exact .doff (by simp [AOper.wanted,h1];simpa using hb) (kL h hq)
    ·rename_i h1
     exact .doff (by simp [AOper.wanted,h1]) (kL h hq)
    ·exact h.elim
end Go.Am
namespace Go.Am
variable {T:FuncId→Option AFunc}
class HP (α:Type) where
 out:α
def bO (r:Option (AV×St)) [K:HP (AV→St→Prop)]:Prop:=mM r K.out
theorem aBC (v:AV) (σ:St) (K:AV→St→Prop):bO (K:=⟨K⟩) (some (v,σ))=K v σ:=by simp only [bO,mM]
def cK (T:FuncId→Option AFunc) (f:AV) (args:List AV) (σ:St) [K:HP (AV→St→Prop)]:Prop:=KW T f args σ K.out
def cD (T:FuncId→Option AFunc) (f:AV) (args:List AV) (σ:St) [K:HP (AV→St→Prop)]:Prop:=DI T f args σ K.out
def rK (T:FuncId→Option AFunc) (c:ACode) (e:Env) (σ:St) [K:HP KJ]:Prop:=M6 T c e σ K.out
def yV (b:Bool) [A:HP Prop] [B:HP Prop]:Prop:=if b=true then A.out else B.out
theorem nB (A:Prop) (B:HP Prop):yV (A:=⟨A⟩) true=A:=by simp [yV]
theorem lD (A:HP Prop) (B:Prop):yV (B:=⟨B⟩) false=B:=by simp [yV]
theorem aG {b:Bool} {A B:Prop} (h1:b=true→A) (h2:b=false→B):yV (A:=⟨A⟩) (B:=⟨B⟩) b:=by cases b<;>simp [yV]<;>first|exact h1 rfl|exact h2 rfl
def bB (v:AV) [A:HP Prop] [B:HP Prop]:Prop:=zO v (fun _=>A.out) (fun _=>B.out)
def bG (v:AV) (want:Bool) [A:HP Prop] [B:HP Prop]:Prop:=nH v want (fun _=>A.out) (fun _=>B.out)
theorem aCS (b:ACode) (e:Env) (σ:St) (K:KJ):wp T (.loop b) e σ K=rK (K:=⟨K⟩) T (.loop b) e σ:=by simp only [wp,rK]
theorem V0 (f:AOpd) (ps:List Nat) (a b:ACode) (e:Env) (σ:St) (K:KJ):wp T (.rangeFunc f ps a b) e σ K=rK (K:=⟨K⟩) T (.rangeFunc f ps a b) e σ:=by simp only [wp,rK]
theorem aB3 (c:AOpd) (a b:ACode) (e:Env) (σ:St) (K:KJ):wp T (.cond c a b) e σ K=bB (A:=⟨wp T a e σ K⟩) (B:=⟨wp T b e σ K⟩) (c.ev e):=by simp only [wp,bB]
def evs (e:Env):List AOpd→List AV
 |[]=>[]
 |x::xs=>x.ev e::evs e xs
theorem m6 (e:Env):∀ xs:List AOpd,xs.map (·.ev e)=evs e xs
 |[]=>rfl
 |x::xs=>by simp [evs,m6 e xs]
def ovs (e:Env):Option AOpd→Option AV
 |none=>none
 |some x=>some (x.ev e)
def EF:AV→AV→AV→Option AV
 |.bool true,x,_=>some x
 |.bool false,_,y=>some y
 |_,_,_=>none
def NL (n:Nat) (xs:List AV):Option AV:=if aL n xs=true then some (.lit xs true none) else none
def H6:AV→Option AV
 |.ptr i o=>some (.ptr i o)
 |.lptr xs i o t=>some (.lptr xs i o t)
 |.func f a b=>some (.func f a b)
 |.yield i=>some (.yield i)
 |_=>none
def XB:AV→Option AV
 |.int k n=>some (.int k (k.wrap (0-n)))
 |_=>none
def LI (k:IntKind):AV→Option AV
 |.int _ n=>some (.int k (k.wrap n))
 |_=>none
def V5:AV→Option ByteArray
 |.str s=>some s
 |_=>none
def w4 (σ:St):AV→Option (AV×St)
 |.ptr id 0 =>
  match σ[id]? with
  |some (.siter s pos) =>
   if pos<s.size then some (.tuple [.bool true,.int .i64 pos,.int .i32 (Utf8.decode s pos).1],σ.set id (.siter s (pos+(Utf8.decode s pos).2)))
   else some (.tuple [.bool false],σ)
  |_=>none
 |_=>none
def pC (bytes:Nat) (l c:AV):Option Nat :=
 match l,c with
 |.int _ n,.int _ m=>if 0≤n∧n=m∧n*bytes≤room∧n≤room then some n.toNat else none
 |_,_=>none
def oW (d:Nat):Option AV→Option Int
 |none=>some d
 |some x=>fY x
def zJ (sz:Nat) (σ:St) (x:AV) (lo hi mx:Option AV):Option AV :=
 match jL 1 σ x with
 |none=>none
 |some n =>
  match oW 0 lo,oW n hi,mx.map fY with
  |some l,some h,none=>m8 sz x l h false
  |some l,some h,some (some m)=>if m=h∧hi.isSome=true then m8 sz x l h true else none
  |_,_,_=>none
def MC (n sz:Nat) (x:AV) (lo hi:Option AV):Option AV :=
 match x,oW 0 lo,oW n hi with
 |.ptr id off,some l,some h=>if 0≤l∧l≤h∧h≤n then some (.ref id (off+l.toNat*sz) (h.toNat-l.toNat) sz) else none
 |_,_,_=>none
def E8 (off:Nat) (sh:Option Nat):AV→Option AV
 |.agg cs=>fW sh cs off
 |_=>none
def oO (arr:Option Nat) (sz:Nat) (x i:AV):Option AV :=
 match fY i,arr,x with
 |some j,some n,.ptr id off=>if 0≤j∧j<n then some (.ptr id (off+j.toNat*sz)) else none
 |some j,some n,.lptr xs q off t=>if 0≤j∧j<n then some (.lptr xs q (off+j.toNat*sz) t) else none
 |some j,none,.lit xs _ t =>
  match xs[j.toNat]? with
  |some y=>if 0≤j∧y.cells.length=sz then some (.lptr xs j.toNat 0 t) else none
  |none=>none
 |some j,none,.ref id off len sz'=>if 0≤j∧j<len∧sz'=sz then some (.ptr id (off+j.toNat*sz)) else none
 |_,_,_=>none
def PA (n sz:Nat) (sh:Option Nat) (x i:AV):Option AV :=
 match fY i,x with
 |some j,.agg cs=>if 0≤j∧j<n then fW sh cs (j.toNat*sz) else none
 |_,_=>none
def y2 (x i:AV):Option AV :=
 match fY i,x with
 |some j,.str s=>if 0≤j then (s[j.toNat]?).map fun b=>.int .u8 b.toNat else none
 |_,_=>none
def L9 (ok:Bool) (zero:AV):Option (Option AV)→Option AV
 |some (some v)=>some (if ok then .tuple [v,.bool true] else v)
 |some none=>some (if ok then .tuple [zero,.bool false] else zero)
 |none=>none
def y9 (sh:EqTy) (σ:St) (m k v:AV):Option St :=
 match m with
 |.map id =>
  if (j3 sh k k).isSome=false then none else
  match σ[id]? with
  |some (.map es)=>(n5 sh k v es).map fun es'=>σ.set id (.map es')
  |_=>none
 |_=>none
theorem aD1 (x:AOpd) (e:Env) (σ:St):aop (.mov x) e σ=some (x.ev e,σ):=by
 simp only [aop]
theorem T4 (z:List AV) (e:Env) (σ:St):aop (.alloc z) e σ=some (.ptr σ.length 0,σ++[.cells z]):=by
 simp only [aop]
theorem aAT (c x y:AOpd) (e:Env) (σ:St):aop (.pick c x y) e σ=(EF (c.ev e) (x.ev e) (y.ev e)).map (·,σ):=by
 simp only [aop,EF];repeat' split
 all_goals simp_all
theorem aED (n:Nat) (x:AOpd) (e:Env) (σ:St):aop (.box n x) e σ=(pX n (x.ev e)).map fun cs=>(.ptr σ.length 0,σ++[.cells cs]):=by
 simp only [aop,pX];split<;>simp_all
theorem VZ (z:List AV) (ps:List (Nat×Nat×AOpd)) (e:Env) (σ:St):aop (.build z ps) e σ=(cO e z ps).map fun cs=>(.agg cs,σ):=by
 simp only [aop];cases cO e z ps<;>simp
theorem VQ (n:Nat) (xs:List AOpd) (e:Env) (σ:St):aop (.mklit n xs) e σ=(NL n (evs e xs)).map (·,σ):=by
 simp only [aop,NL,m6];split<;>simp_all
theorem TX (n:Nat) (xs:List AOpd) (e:Env) (σ:St):aop (.mkref n xs) e σ=(NL n (evs e xs)).map fun _=>(.ref σ.length 0 (evs e xs).length n,σ++[.cells ((evs e xs).flatMap AV.cells)]):=by
 simp only [aop,NL,m6];have:=congrArg List.length (m6 e xs);split<;>simp_all
theorem aAG (sh:Option Nat) (x:AOpd) (e:Env) (σ:St):aop (.load sh x) e σ=(k8 sh σ (x.ev e)).map (·,σ):=by
 simp only [aop];cases k8 sh σ (x.ev e)<;>simp
theorem T9 (n:Nat) (x y:AOpd) (e:Env) (σ:St):aop (.store n x y) e σ=(oF n σ (x.ev e) (y.ev e)).map (.tuple [],·):=by
 simp only [aop];cases oF n σ (x.ev e) (y.ev e)<;>simp
theorem KA (x:AOpd) (e:Env) (σ:St):aop (.nilCheck x) e σ=(H6 (x.ev e)).map (·,σ):=by
 simp only [aop,H6];cases x.ev e<;>simp
theorem aEG (op:BinOp) (x y:AOpd) (e:Env) (σ:St):aop (.bin op x y) e σ=(fX op (x.ev e) (y.ev e)).map (·,σ):=by
 simp only [aop];cases fX op (x.ev e) (y.ev e)<;>simp
theorem aDO (sh:EqTy) (n:Bool) (x y:AOpd) (e:Env) (σ:St):aop (.eql sh n x y) e σ=(CA sh n (x.ev e) (y.ev e)).map (·,σ):=by
 simp only [aop,CA];cases j3 sh (x.ev e) (y.ev e)<;>simp
theorem aEJ (x:AOpd) (e:Env) (σ:St):aop (.not x) e σ=(WL (x.ev e)).map (·,σ):=by
 simp only [aop,WL];cases x.ev e<;>simp
theorem aDT (x:AOpd) (e:Env) (σ:St):aop (.neg x) e σ=(XB (x.ev e)).map (·,σ):=by
 simp only [aop,XB];cases x.ev e<;>simp
theorem aCJ (k:IntKind) (x:AOpd) (e:Env) (σ:St):aop (.conv k x) e σ=(LI k (x.ev e)).map (·,σ):=by
 simp only [aop,LI];cases x.ev e<;>simp
theorem TV (f:FuncId) (xs ys:List AOpd) (e:Env) (σ:St):aop (.mkfun f xs ys) e σ=some (.func f (evs e xs) (evs e ys),σ):=by
 simp only [aop,m6]
theorem T7  (e:Env) (σ:St):aop (.mkmap) e σ=some (.map σ.length,σ++[.map []]):=by
 simp only [aop]
theorem M0 (z:List AV) (b:Nat) (x y:AOpd) (e:Env) (σ:St):aop (.mkslice z b x y) e σ=(pC b (x.ev e) (y.ev e)).map fun n=>(.ref σ.length 0 n z.length,σ++[.cells (List.replicate n z).flatten]):=by
 simp only [aop,pC];generalize x.ev e=u;generalize y.ev e=v;cases u<;>cases v<;>first|rfl|(dsimp only;split<;>first|rfl|simp_all|(split<;>simp_all))
theorem O3 (n:Nat) (x:AOpd) (lo hi mx:Option AOpd) (e:Env) (σ:St):aop (.slicev n x lo hi mx) e σ=(zJ n σ (x.ev e) (ovs e lo) (ovs e hi) (ovs e mx)).map (·,σ):=by
 simp only [aop,zJ];cases jL 1 σ (x.ev e)<;>cases lo<;>cases hi<;>cases mx<;>simp only [cB,oW,ovs,Option.map_none,Option.map_some]<;>repeat' split
 all_goals simp_all
theorem PC (n s:Nat) (x:AOpd) (lo hi:Option AOpd) (e:Env) (σ:St):aop (.slicea n s x lo hi) e σ=(MC n s (x.ev e) (ovs e lo) (ovs e hi)).map (·,σ):=by
 simp only [aop,MC];generalize x.ev e=u;cases lo with
 |none=>cases hi with
  |none=>simp only [cB,oW,ovs];cases u<;>first|rfl|(dsimp only;split<;>first|rfl|simp_all|(split<;>simp_all))
  |some h=>simp only [cB,oW,ovs];generalize fY (h.ev e)=p;cases u<;>cases p<;>first|rfl|(dsimp only;split<;>first|rfl|simp_all|(split<;>simp_all))
 |some l=>cases hi with
  |none=>simp only [cB,oW,ovs];generalize fY (l.ev e)=p;cases u<;>cases p<;>first|rfl|(dsimp only;split<;>first|rfl|simp_all|(split<;>simp_all))
  |some h=>simp only [cB,oW,ovs];generalize fY (l.ev e)=p;generalize fY (h.ev e)=q;cases u<;>cases p<;>cases q<;>first|rfl|(dsimp only;split<;>first|rfl|simp_all|(split<;>simp_all))
theorem WN (x:AOpd) (o:Nat) (e:Env) (σ:St):aop (.faddr x o) e σ=(wL o (x.ev e)).map (·,σ):=by
 simp only [aop,wL];cases x.ev e<;>simp
theorem W0 (x:AOpd) (o:Nat) (sh:Option Nat) (e:Env) (σ:St):aop (.field x o sh) e σ=(E8 o sh (x.ev e)).map (·,σ):=by
 simp only [aop,E8];cases x.ev e<;>simp<;>(rename_i cs;cases fW sh cs o<;>simp)
theorem UC (a:Option Nat) (s:Nat) (x i:AOpd) (e:Env) (σ:St):aop (.iaddr a s x i) e σ=(oO a s (x.ev e) (i.ev e)).map (·,σ):=by
 simp only [aop,oO];generalize fY (i.ev e)=q;generalize x.ev e=u;cases q<;>cases a<;>cases u<;>first|rfl|(dsimp only;split<;>first|rfl|simp_all|(split<;>simp_all))
theorem U6 (n s:Nat) (sh:Option Nat) (x i:AOpd) (e:Env) (σ:St):aop (.index n s sh x i) e σ=(PA n s sh (x.ev e) (i.ev e)).map (·,σ):=by
 simp only [aop,PA];generalize fY (i.ev e)=q;generalize x.ev e=u;cases q<;>cases u<;>first|rfl|(dsimp only;split<;>first|rfl|simp_all|(split<;>simp_all))
theorem OW (x i:AOpd) (e:Env) (σ:St):aop (.sindex x i) e σ=(y2 (x.ev e) (i.ev e)).map (·,σ):=by
 simp only [aop,y2];generalize fY (i.ev e)=q;generalize x.ev e=u;cases q<;>cases u<;>first|rfl|(dsimp only;split<;>first|rfl|(rename_i k b h;cases b[k.toNat]?<;>rfl))
theorem P5 (sh:EqTy) (ok:Bool) (z:AV) (m k:AOpd) (e:Env) (σ:St):aop (.lookup sh ok z m k) e σ=(L9 ok z (uT sh σ (m.ev e) (k.ev e))).map (·,σ):=by
 simp only [aop,L9];cases uT sh σ (m.ev e) (k.ev e) with
 |none=>rfl
 |some o=>cases o<;>rfl
theorem R8 (sh:EqTy) (m k v:AOpd) (e:Env) (σ:St):aop (.mapset sh m k v) e σ=(y9 sh σ (m.ev e) (k.ev e) (v.ev e)).map (.tuple [],·):=by
 simp only [aop,y9];repeat' split
 all_goals simp_all
theorem aD8 (x:AOpd) (i:Nat) (e:Env) (σ:St):aop (.ext x i) e σ=(UY i (x.ev e)).map (·,σ):=by
 simp only [aop,UY];cases x.ev e<;>simp<;>(rename_i vs;cases vs[i]?<;>simp)
theorem aFR (k:Nat) (x:AOpd) (e:Env) (σ:St):aop (.len k x) e σ=(jL k σ (x.ev e)).map fun n=>(.int .i64 n,σ):=by
 simp only [aop];cases jL k σ (x.ev e)<;>simp
theorem OY (n b:Nat) (x y:AOpd) (e:Env) (σ:St):aop (.append n b x y) e σ=cZ n b σ (x.ev e) (y.ev e):=by
 simp only [aop]
theorem US (n b:Nat) (x y:AOpd) (e:Env) (σ:St):aop (.apref n b x y) e σ=s8 n b σ (x.ev e) (y.ev e):=by
 simp only [aop]
theorem aCQ (n:Nat) (x y:AOpd) (e:Env) (σ:St):aop (.copy n x y) e σ=rD n σ (x.ev e) (y.ev e):=by
 simp only [aop]
theorem aFH (xs:List AOpd) (e:Env) (σ:St):aop (.min xs) e σ=(yC (evs e xs)).map (·,σ):=by
 simp only [aop,m6];cases yC (evs e xs)<;>simp
theorem aFF (xs:List AOpd) (e:Env) (σ:St):aop (.max xs) e σ=(yS (evs e xs)).map (·,σ):=by
 simp only [aop,m6];cases yS (evs e xs)<;>simp
theorem RZ (x:AOpd) (e:Env) (σ:St):aop (.srange x) e σ=(V5 (x.ev e)).map fun s=>(.ptr σ.length 0,σ++[.siter s 0]):=by
 simp only [aop,V5];cases x.ev e<;>simp
theorem VR (x:AOpd) (e:Env) (σ:St):aop (.snext x) e σ=w4 σ (x.ev e):=by
 simp only [aop,w4];cases x.ev e<;>rfl
theorem aDA (x:AOpd) (d:Option Nat) (os:List AOper) (e:Env) (σ:St) (K:Env→St→Prop):aM T (⟨d,.mov x,none⟩::os) e σ K=bO (K:=⟨fun v σ'=>aM T os (Env.put e d v) σ' K⟩) (aop (.mov x) e σ):=by simp only [aM,gL,bO]
theorem V4 (z:List AV) (d:Option Nat) (os:List AOper) (e:Env) (σ:St) (K:Env→St→Prop):aM T (⟨d,.alloc z,none⟩::os) e σ K=bO (K:=⟨fun v σ'=>aM T os (Env.put e d v) σ' K⟩) (aop (.alloc z) e σ):=by simp only [aM,gL,bO]
theorem aBY (c x y:AOpd) (d:Option Nat) (os:List AOper) (e:Env) (σ:St) (K:Env→St→Prop):aM T (⟨d,.pick c x y,none⟩::os) e σ K=bO (K:=⟨fun v σ'=>aM T os (Env.put e d v) σ' K⟩) (aop (.pick c x y) e σ):=by simp only [aM,gL,bO]
theorem aFM (n:Nat) (x:AOpd) (d:Option Nat) (os:List AOper) (e:Env) (σ:St) (K:Env→St→Prop):aM T (⟨d,.box n x,none⟩::os) e σ K=bO (K:=⟨fun v σ'=>aM T os (Env.put e d v) σ' K⟩) (aop (.box n x) e σ):=by simp only [aM,gL,bO]
theorem TS (z:List AV) (ps:List (Nat×Nat×AOpd)) (d:Option Nat) (os:List AOper) (e:Env) (σ:St) (K:Env→St→Prop):aM T (⟨d,.build z ps,none⟩::os) e σ K=bO (K:=⟨fun v σ'=>aM T os (Env.put e d v) σ' K⟩) (aop (.build z ps) e σ):=by simp only [aM,gL,bO]
theorem XA (n:Nat) (xs:List AOpd) (d:Option Nat) (os:List AOper) (e:Env) (σ:St) (K:Env→St→Prop):aM T (⟨d,.mklit n xs,none⟩::os) e σ K=bO (K:=⟨fun v σ'=>aM T os (Env.put e d v) σ' K⟩) (aop (.mklit n xs) e σ):=by simp only [aM,gL,bO]
theorem VJ (n:Nat) (xs:List AOpd) (d:Option Nat) (os:List AOper) (e:Env) (σ:St) (K:Env→St→Prop):aM T (⟨d,.mkref n xs,none⟩::os) e σ K=bO (K:=⟨fun v σ'=>aM T os (Env.put e d v) σ' K⟩) (aop (.mkref n xs) e σ):=by simp only [aM,gL,bO]
theorem aB0 (sh:Option Nat) (x:AOpd) (d:Option Nat) (os:List AOper) (e:Env) (σ:St) (K:Env→St→Prop):aM T (⟨d,.load sh x,none⟩::os) e σ K=bO (K:=⟨fun v σ'=>aM T os (Env.put e d v) σ' K⟩) (aop (.load sh x) e σ):=by simp only [aM,gL,bO]
theorem UV (n:Nat) (x y:AOpd) (d:Option Nat) (os:List AOper) (e:Env) (σ:St) (K:Env→St→Prop):aM T (⟨d,.store n x y,none⟩::os) e σ K=bO (K:=⟨fun v σ'=>aM T os (Env.put e d v) σ' K⟩) (aop (.store n x y) e σ):=by simp only [aM,gL,bO]
theorem KL (x:AOpd) (d:Option Nat) (os:List AOper) (e:Env) (σ:St) (K:Env→St→Prop):aM T (⟨d,.nilCheck x,none⟩::os) e σ K=bO (K:=⟨fun v σ'=>aM T os (Env.put e d v) σ' K⟩) (aop (.nilCheck x) e σ):=by simp only [aM,gL,bO]
theorem aDK (op:BinOp) (x y:AOpd) (d:Option Nat) (os:List AOper) (e:Env) (σ:St) (K:Env→St→Prop):aM T (⟨d,.bin op x y,none⟩::os) e σ K=bO (K:=⟨fun v σ'=>aM T os (Env.put e d v) σ' K⟩) (aop (.bin op x y) e σ):=by simp only [aM,gL,bO]
theorem aEW (sh:EqTy) (n:Bool) (x y:AOpd) (d:Option Nat) (os:List AOper) (e:Env) (σ:St) (K:Env→St→Prop):aM T (⟨d,.eql sh n x y,none⟩::os) e σ K=bO (K:=⟨fun v σ'=>aM T os (Env.put e d v) σ' K⟩) (aop (.eql sh n x y) e σ):=by simp only [aM,gL,bO]
theorem aFE (x:AOpd) (d:Option Nat) (os:List AOper) (e:Env) (σ:St) (K:Env→St→Prop):aM T (⟨d,.not x,none⟩::os) e σ K=bO (K:=⟨fun v σ'=>aM T os (Env.put e d v) σ' K⟩) (aop (.not x) e σ):=by simp only [aM,gL,bO]
theorem aF7 (x:AOpd) (d:Option Nat) (os:List AOper) (e:Env) (σ:St) (K:Env→St→Prop):aM T (⟨d,.neg x,none⟩::os) e σ K=bO (K:=⟨fun v σ'=>aM T os (Env.put e d v) σ' K⟩) (aop (.neg x) e σ):=by simp only [aM,gL,bO]
theorem aBV (k:IntKind) (x:AOpd) (d:Option Nat) (os:List AOper) (e:Env) (σ:St) (K:Env→St→Prop):aM T (⟨d,.conv k x,none⟩::os) e σ K=bO (K:=⟨fun v σ'=>aM T os (Env.put e d v) σ' K⟩) (aop (.conv k x) e σ):=by simp only [aM,gL,bO]
theorem WE (f:FuncId) (xs ys:List AOpd) (d:Option Nat) (os:List AOper) (e:Env) (σ:St) (K:Env→St→Prop):aM T (⟨d,.mkfun f xs ys,none⟩::os) e σ K=bO (K:=⟨fun v σ'=>aM T os (Env.put e d v) σ' K⟩) (aop (.mkfun f xs ys) e σ):=by simp only [aM,gL,bO]
theorem TR  (d:Option Nat) (os:List AOper) (e:Env) (σ:St) (K:Env→St→Prop):aM T (⟨d,.mkmap,none⟩::os) e σ K=bO (K:=⟨fun v σ'=>aM T os (Env.put e d v) σ' K⟩) (aop (.mkmap) e σ):=by simp only [aM,gL,bO]
theorem NX (z:List AV) (b:Nat) (x y:AOpd) (d:Option Nat) (os:List AOper) (e:Env) (σ:St) (K:Env→St→Prop):aM T (⟨d,.mkslice z b x y,none⟩::os) e σ K=bO (K:=⟨fun v σ'=>aM T os (Env.put e d v) σ' K⟩) (aop (.mkslice z b x y) e σ):=by simp only [aM,gL,bO]
theorem RT (n:Nat) (x:AOpd) (lo hi mx:Option AOpd) (d:Option Nat) (os:List AOper) (e:Env) (σ:St) (K:Env→St→Prop):aM T (⟨d,.slicev n x lo hi mx,none⟩::os) e σ K=bO (K:=⟨fun v σ'=>aM T os (Env.put e d v) σ' K⟩) (aop (.slicev n x lo hi mx) e σ):=by simp only [aM,gL,bO]
theorem O8 (n s:Nat) (x:AOpd) (lo hi:Option AOpd) (d:Option Nat) (os:List AOper) (e:Env) (σ:St) (K:Env→St→Prop):aM T (⟨d,.slicea n s x lo hi,none⟩::os) e σ K=bO (K:=⟨fun v σ'=>aM T os (Env.put e d v) σ' K⟩) (aop (.slicea n s x lo hi) e σ):=by simp only [aM,gL,bO]
theorem UQ (x:AOpd) (o:Nat) (d:Option Nat) (os:List AOper) (e:Env) (σ:St) (K:Env→St→Prop):aM T (⟨d,.faddr x o,none⟩::os) e σ K=bO (K:=⟨fun v σ'=>aM T os (Env.put e d v) σ' K⟩) (aop (.faddr x o) e σ):=by simp only [aM,gL,bO]
theorem VL (x:AOpd) (o:Nat) (sh:Option Nat) (d:Option Nat) (os:List AOper) (e:Env) (σ:St) (K:Env→St→Prop):aM T (⟨d,.field x o sh,none⟩::os) e σ K=bO (K:=⟨fun v σ'=>aM T os (Env.put e d v) σ' K⟩) (aop (.field x o sh) e σ):=by simp only [aM,gL,bO]
theorem WP (a:Option Nat) (s:Nat) (x i:AOpd) (d:Option Nat) (os:List AOper) (e:Env) (σ:St) (K:Env→St→Prop):aM T (⟨d,.iaddr a s x i,none⟩::os) e σ K=bO (K:=⟨fun v σ'=>aM T os (Env.put e d v) σ' K⟩) (aop (.iaddr a s x i) e σ):=by simp only [aM,gL,bO]
theorem U8 (n s:Nat) (sh:Option Nat) (x i:AOpd) (d:Option Nat) (os:List AOper) (e:Env) (σ:St) (K:Env→St→Prop):aM T (⟨d,.index n s sh x i,none⟩::os) e σ K=bO (K:=⟨fun v σ'=>aM T os (Env.put e d v) σ' K⟩) (aop (.index n s sh x i) e σ):=by simp only [aM,gL,bO]
theorem R3 (x i:AOpd) (d:Option Nat) (os:List AOper) (e:Env) (σ:St) (K:Env→St→Prop):aM T (⟨d,.sindex x i,none⟩::os) e σ K=bO (K:=⟨fun v σ'=>aM T os (Env.put e d v) σ' K⟩) (aop (.sindex x i) e σ):=by simp only [aM,gL,bO]
theorem Q2 (sh:EqTy) (ok:Bool) (z:AV) (m k:AOpd) (d:Option Nat) (os:List AOper) (e:Env) (σ:St) (K:Env→St→Prop):aM T (⟨d,.lookup sh ok z m k,none⟩::os) e σ K=bO (K:=⟨fun v σ'=>aM T os (Env.put e d v) σ' K⟩) (aop (.lookup sh ok z m k) e σ):=by simp only [aM,gL,bO]
theorem RY (sh:EqTy) (m k v:AOpd) (d:Option Nat) (os:List AOper) (e:Env) (σ:St) (K:Env→St→Prop):aM T (⟨d,.mapset sh m k v,none⟩::os) e σ K=bO (K:=⟨fun v σ'=>aM T os (Env.put e d v) σ' K⟩) (aop (.mapset sh m k v) e σ):=by simp only [aM,gL,bO]
theorem aF4 (x:AOpd) (i:Nat) (d:Option Nat) (os:List AOper) (e:Env) (σ:St) (K:Env→St→Prop):aM T (⟨d,.ext x i,none⟩::os) e σ K=bO (K:=⟨fun v σ'=>aM T os (Env.put e d v) σ' K⟩) (aop (.ext x i) e σ):=by simp only [aM,gL,bO]
theorem aEV (k:Nat) (x:AOpd) (d:Option Nat) (os:List AOper) (e:Env) (σ:St) (K:Env→St→Prop):aM T (⟨d,.len k x,none⟩::os) e σ K=bO (K:=⟨fun v σ'=>aM T os (Env.put e d v) σ' K⟩) (aop (.len k x) e σ):=by simp only [aM,gL,bO]
theorem QY (n b:Nat) (x y:AOpd) (d:Option Nat) (os:List AOper) (e:Env) (σ:St) (K:Env→St→Prop):aM T (⟨d,.append n b x y,none⟩::os) e σ K=bO (K:=⟨fun v σ'=>aM T os (Env.put e d v) σ' K⟩) (aop (.append n b x y) e σ):=by simp only [aM,gL,bO]
theorem VO (n b:Nat) (x y:AOpd) (d:Option Nat) (os:List AOper) (e:Env) (σ:St) (K:Env→St→Prop):aM T (⟨d,.apref n b x y,none⟩::os) e σ K=bO (K:=⟨fun v σ'=>aM T os (Env.put e d v) σ' K⟩) (aop (.apref n b x y) e σ):=by simp only [aM,gL,bO]
theorem aBP (n:Nat) (x y:AOpd) (d:Option Nat) (os:List AOper) (e:Env) (σ:St) (K:Env→St→Prop):aM T (⟨d,.copy n x y,none⟩::os) e σ K=bO (K:=⟨fun v σ'=>aM T os (Env.put e d v) σ' K⟩) (aop (.copy n x y) e σ):=by simp only [aM,gL,bO]
theorem aGB (xs:List AOpd) (d:Option Nat) (os:List AOper) (e:Env) (σ:St) (K:Env→St→Prop):aM T (⟨d,.min xs,none⟩::os) e σ K=bO (K:=⟨fun v σ'=>aM T os (Env.put e d v) σ' K⟩) (aop (.min xs) e σ):=by simp only [aM,gL,bO]
theorem aC9 (xs:List AOpd) (d:Option Nat) (os:List AOper) (e:Env) (σ:St) (K:Env→St→Prop):aM T (⟨d,.max xs,none⟩::os) e σ K=bO (K:=⟨fun v σ'=>aM T os (Env.put e d v) σ' K⟩) (aop (.max xs) e σ):=by simp only [aM,gL,bO]
theorem RO (x:AOpd) (d:Option Nat) (os:List AOper) (e:Env) (σ:St) (K:Env→St→Prop):aM T (⟨d,.srange x,none⟩::os) e σ K=bO (K:=⟨fun v σ'=>aM T os (Env.put e d v) σ' K⟩) (aop (.srange x) e σ):=by simp only [aM,gL,bO]
theorem WM (x:AOpd) (d:Option Nat) (os:List AOper) (e:Env) (σ:St) (K:Env→St→Prop):aM T (⟨d,.snext x,none⟩::os) e σ K=bO (K:=⟨fun v σ'=>aM T os (Env.put e d v) σ' K⟩) (aop (.snext x) e σ):=by simp only [aM,gL,bO]
theorem aC2 (f:AOpd) (xs:List AOpd) (d:Option Nat) (os:List AOper) (e:Env) (σ:St) (K:Env→St→Prop):aM T (⟨d,.call f xs,none⟩::os) e σ K=cK (K:=⟨fun v σ'=>aM T os (Env.put e d v) σ' K⟩) T (f.ev e) (evs e xs) σ:=by simp only [aM,gL,m6,cK]
theorem VW (b:Bool) (A B:HP Prop):bB (.bool b) (A:=A) (B:=B)=yV (A:=A) (B:=B) b:=by cases b<;>simp [bB,zO,yV]
theorem SZ (b:Bool) (A B:HP Prop):bG (.bool b) true (A:=A) (B:=B)=yV (A:=A) (B:=B) b:=by cases b<;>simp [bG,nH,yV]
theorem RX (b:Bool) (A B:HP Prop):bG (.bool b) false (A:=A) (B:=B)=yV (A:=B) (B:=A) b:=by cases b<;>simp [bG,nH,yV]
theorem O9 (w:Bool) (A:HP Prop) (B:Prop):bG (.tuple []) w (A:=A) (B:=⟨B⟩)=B:=by simp [bG,nH]
theorem UR (d:Option Nat) (q:AOp) (t:Nat) (want:Bool) (os:List AOper) (e:Env) (σ:St) (K:Env→St→Prop):aM T (⟨d,q,some (t,want)⟩::os) e σ K =
  bG (A:=⟨aM T (⟨d,q,none⟩::os) e σ K⟩) (B:=⟨aM T os (Env.put e d (.tuple [])) σ K⟩) (Env.get e t) want:=by simp only [aM,bG]
theorem aE7 (ds:List ADOper) (e:Env) (σ:St) (K:KJ):wp T (.dreg ds) e σ K=rK (K:=⟨K⟩) T (.dreg ds) e σ:=by simp only [wp,rK]
theorem LG {ds:List ADOper} {e:Env} {σ:St} {K:KJ} (h:wpD T ds e (σ++d9 ds) σ.length [σ++d9 ds] [] fun e σ=>K none e σ):rK (K:=⟨K⟩) T (.dreg ds) e σ:=.dreg (kL h fun e σ hk=>hk)
theorem aEU (e:Env) (σ:St) (next:Nat) (hist:List St) (reads:List ARead) (K:Env→St→Prop):wpD T [] e σ next hist reads K=(qM reads hist∧K e σ):=by simp only [wpD]
theorem aA6 (f:AOpd) (xs:List AOpd) (d:Option Nat) (lo hi:Nat) (ds:List ADOper) (e:Env) (σ:St) (next:Nat) (hist:List St) (reads:List ARead) (K:Env→St→Prop) :
  wpD T (⟨⟨d,.call f xs,none⟩,lo,hi⟩::ds) e σ next hist reads K=cD (K:=⟨fun v σ'=>wpD T ds (Env.put e d v) σ' next (hist++[σ']) reads K⟩) T (f.ev e) (evs e xs) σ:=by simp only [wpD,m6,cD]
theorem UA (z:List AV) (d:Option Nat) (lo hi:Nat) (ds:List ADOper) (e:Env) (σ:St) (next:Nat) (hist:List St) (reads:List ARead) (K:Env→St→Prop) :
  wpD T (⟨⟨d,.alloc z,none⟩,lo,hi⟩::ds) e σ next hist reads K=wpD T ds (Env.put e d (.ptr next 0)) σ (next+1) hist reads K:=by simp only [wpD]
def tY (lo hi:Nat) (q:AOp) (e:Env) (v:AV):List St→Nat→Prop
 |[],_=>True
 |s::ss,j=>(if lo≤j∧j≤hi then aop q e s=some (v,s) else True)∧tY lo hi q e v ss (j+1)
theorem HI (r:ARead):∀ (ss:List St) (j:Nat),tY r.lo r.hi r.op r.env r.v ss j=D2 r ss j
 |[],j=>by simp only [tY,D2]
 |s::ss,j=>by simp only [tY,D2,HI r ss (j+1)]
theorem O7 (hist:List St):qM [] hist=True:=by simp only [qM]
theorem Q0 (lo hi:Nat) (q:AOp) (e:Env) (v:AV) (rs:List ARead) (hist:List St):qM (⟨lo,hi,q,e,v⟩::rs) hist=(tY lo hi q e v hist 0∧qM rs hist):=by
 simp only [qM];rw [←HI]
theorem WX (lo hi:Nat) (q:AOp) (e:Env) (v:AV) (j:Nat):tY lo hi q e v [] j=True:=by simp only [tY]
theorem VC (lo hi:Nat) (q:AOp) (e:Env) (v:AV) (s:St) (ss:List St) (j:Nat):tY lo hi q e v (s::ss) j=((if lo≤j∧j≤hi then aop q e s=some (v,s) else True)∧tY lo hi q e v ss (j+1)):=by simp only [tY]
theorem aDD (x:AOpd) (d:Option Nat) (wl wh:Nat) (ds:List ADOper) (e:Env) (σ:St) (next:Nat) (hist:List St) (reads:List ARead) (K:Env→St→Prop):wpD T (⟨⟨d,.mov x,none⟩,wl,wh⟩::ds) e σ next hist reads K=bO (K:=⟨fun v σ'=>σ'=σ∧wpD T ds (Env.put e d v) σ next hist reads K⟩) (aop (.mov x) e σ):=by
 simp only [wpD,bO,AOp.acts,AOp.reads,if_true,Bool.false_eq_true,if_false]
theorem aA8 (c x y:AOpd) (d:Option Nat) (wl wh:Nat) (ds:List ADOper) (e:Env) (σ:St) (next:Nat) (hist:List St) (reads:List ARead) (K:Env→St→Prop):wpD T (⟨⟨d,.pick c x y,none⟩,wl,wh⟩::ds) e σ next hist reads K=bO (K:=⟨fun v σ'=>σ'=σ∧wpD T ds (Env.put e d v) σ next hist reads K⟩) (aop (.pick c x y) e σ):=by
 simp only [wpD,bO,AOp.acts,AOp.reads,if_true,Bool.false_eq_true,if_false]
theorem aEA (n:Nat) (x:AOpd) (d:Option Nat) (wl wh:Nat) (ds:List ADOper) (e:Env) (σ:St) (next:Nat) (hist:List St) (reads:List ARead) (K:Env→St→Prop):wpD T (⟨⟨d,.box n x,none⟩,wl,wh⟩::ds) e σ next hist reads K=bO (K:=⟨fun v σ'=>wpD T ds (Env.put e d v) σ' next (hist++[σ']) reads K⟩) (aop (.box n x) e σ):=by
 simp only [wpD,bO,AOp.acts,AOp.reads,if_true,Bool.false_eq_true,if_false]
theorem U0 (z:List AV) (ps:List (Nat×Nat×AOpd)) (d:Option Nat) (wl wh:Nat) (ds:List ADOper) (e:Env) (σ:St) (next:Nat) (hist:List St) (reads:List ARead) (K:Env→St→Prop):wpD T (⟨⟨d,.build z ps,none⟩,wl,wh⟩::ds) e σ next hist reads K=bO (K:=⟨fun v σ'=>σ'=σ∧wpD T ds (Env.put e d v) σ next hist reads K⟩) (aop (.build z ps) e σ):=by
 simp only [wpD,bO,AOp.acts,AOp.reads,if_true,Bool.false_eq_true,if_false]
theorem VD (n:Nat) (xs:List AOpd) (d:Option Nat) (wl wh:Nat) (ds:List ADOper) (e:Env) (σ:St) (next:Nat) (hist:List St) (reads:List ARead) (K:Env→St→Prop):wpD T (⟨⟨d,.mklit n xs,none⟩,wl,wh⟩::ds) e σ next hist reads K=bO (K:=⟨fun v σ'=>σ'=σ∧wpD T ds (Env.put e d v) σ next hist reads K⟩) (aop (.mklit n xs) e σ):=by
 simp only [wpD,bO,AOp.acts,AOp.reads,if_true,Bool.false_eq_true,if_false]
theorem WT (n:Nat) (xs:List AOpd) (d:Option Nat) (wl wh:Nat) (ds:List ADOper) (e:Env) (σ:St) (next:Nat) (hist:List St) (reads:List ARead) (K:Env→St→Prop):wpD T (⟨⟨d,.mkref n xs,none⟩,wl,wh⟩::ds) e σ next hist reads K=bO (K:=⟨fun v σ'=>wpD T ds (Env.put e d v) σ' next (hist++[σ']) reads K⟩) (aop (.mkref n xs) e σ):=by
 simp only [wpD,bO,AOp.acts,AOp.reads,if_true,Bool.false_eq_true,if_false]
theorem aCY (sh:Option Nat) (x:AOpd) (d:Option Nat) (wl wh:Nat) (ds:List ADOper) (e:Env) (σ:St) (next:Nat) (hist:List St) (reads:List ARead) (K:Env→St→Prop):wpD T (⟨⟨d,.load sh x,none⟩,wl,wh⟩::ds) e σ next hist reads K=bO (K:=⟨fun v σ'=>σ'=σ∧wpD T ds (Env.put e d v) σ next hist (⟨wl,wh,.load sh x,e,v⟩::reads) K⟩) (aop (.load sh x) e σ):=by
 simp only [wpD,bO,AOp.acts,AOp.reads,if_true,Bool.false_eq_true,if_false]
theorem UB (n:Nat) (x y:AOpd) (d:Option Nat) (wl wh:Nat) (ds:List ADOper) (e:Env) (σ:St) (next:Nat) (hist:List St) (reads:List ARead) (K:Env→St→Prop):wpD T (⟨⟨d,.store n x y,none⟩,wl,wh⟩::ds) e σ next hist reads K=bO (K:=⟨fun v σ'=>wpD T ds (Env.put e d v) σ' next (hist++[σ']) reads K⟩) (aop (.store n x y) e σ):=by
 simp only [wpD,bO,AOp.acts,AOp.reads,if_true,Bool.false_eq_true,if_false]
theorem JF (x:AOpd) (d:Option Nat) (wl wh:Nat) (ds:List ADOper) (e:Env) (σ:St) (next:Nat) (hist:List St) (reads:List ARead) (K:Env→St→Prop):wpD T (⟨⟨d,.nilCheck x,none⟩,wl,wh⟩::ds) e σ next hist reads K=bO (K:=⟨fun v σ'=>σ'=σ∧wpD T ds (Env.put e d v) σ next hist reads K⟩) (aop (.nilCheck x) e σ):=by
 simp only [wpD,bO,AOp.acts,AOp.reads,if_true,Bool.false_eq_true,if_false]
theorem aFA (op:BinOp) (x y:AOpd) (d:Option Nat) (wl wh:Nat) (ds:List ADOper) (e:Env) (σ:St) (next:Nat) (hist:List St) (reads:List ARead) (K:Env→St→Prop):wpD T (⟨⟨d,.bin op x y,none⟩,wl,wh⟩::ds) e σ next hist reads K=bO (K:=⟨fun v σ'=>σ'=σ∧wpD T ds (Env.put e d v) σ next hist reads K⟩) (aop (.bin op x y) e σ):=by
 simp only [wpD,bO,AOp.acts,AOp.reads,if_true,Bool.false_eq_true,if_false]
theorem aEP (sh:EqTy) (n:Bool) (x y:AOpd) (d:Option Nat) (wl wh:Nat) (ds:List ADOper) (e:Env) (σ:St) (next:Nat) (hist:List St) (reads:List ARead) (K:Env→St→Prop):wpD T (⟨⟨d,.eql sh n x y,none⟩,wl,wh⟩::ds) e σ next hist reads K=bO (K:=⟨fun v σ'=>σ'=σ∧wpD T ds (Env.put e d v) σ next hist reads K⟩) (aop (.eql sh n x y) e σ):=by
 simp only [wpD,bO,AOp.acts,AOp.reads,if_true,Bool.false_eq_true,if_false]
theorem aE5 (x:AOpd) (d:Option Nat) (wl wh:Nat) (ds:List ADOper) (e:Env) (σ:St) (next:Nat) (hist:List St) (reads:List ARead) (K:Env→St→Prop):wpD T (⟨⟨d,.not x,none⟩,wl,wh⟩::ds) e σ next hist reads K=bO (K:=⟨fun v σ'=>σ'=σ∧wpD T ds (Env.put e d v) σ next hist reads K⟩) (aop (.not x) e σ):=by
 simp only [wpD,bO,AOp.acts,AOp.reads,if_true,Bool.false_eq_true,if_false]
theorem aEZ (x:AOpd) (d:Option Nat) (wl wh:Nat) (ds:List ADOper) (e:Env) (σ:St) (next:Nat) (hist:List St) (reads:List ARead) (K:Env→St→Prop):wpD T (⟨⟨d,.neg x,none⟩,wl,wh⟩::ds) e σ next hist reads K=bO (K:=⟨fun v σ'=>σ'=σ∧wpD T ds (Env.put e d v) σ next hist reads K⟩) (aop (.neg x) e σ):=by
 simp only [wpD,bO,AOp.acts,AOp.reads,if_true,Bool.false_eq_true,if_false]
theorem aAZ (k:IntKind) (x:AOpd) (d:Option Nat) (wl wh:Nat) (ds:List ADOper) (e:Env) (σ:St) (next:Nat) (hist:List St) (reads:List ARead) (K:Env→St→Prop):wpD T (⟨⟨d,.conv k x,none⟩,wl,wh⟩::ds) e σ next hist reads K=bO (K:=⟨fun v σ'=>σ'=σ∧wpD T ds (Env.put e d v) σ next hist reads K⟩) (aop (.conv k x) e σ):=by
 simp only [wpD,bO,AOp.acts,AOp.reads,if_true,Bool.false_eq_true,if_false]
theorem VF (f:FuncId) (xs ys:List AOpd) (d:Option Nat) (wl wh:Nat) (ds:List ADOper) (e:Env) (σ:St) (next:Nat) (hist:List St) (reads:List ARead) (K:Env→St→Prop):wpD T (⟨⟨d,.mkfun f xs ys,none⟩,wl,wh⟩::ds) e σ next hist reads K=bO (K:=⟨fun v σ'=>σ'=σ∧wpD T ds (Env.put e d v) σ next hist reads K⟩) (aop (.mkfun f xs ys) e σ):=by
 simp only [wpD,bO,AOp.acts,AOp.reads,if_true,Bool.false_eq_true,if_false]
theorem WA  (d:Option Nat) (wl wh:Nat) (ds:List ADOper) (e:Env) (σ:St) (next:Nat) (hist:List St) (reads:List ARead) (K:Env→St→Prop):wpD T (⟨⟨d,.mkmap,none⟩,wl,wh⟩::ds) e σ next hist reads K=bO (K:=⟨fun v σ'=>wpD T ds (Env.put e d v) σ' next (hist++[σ']) reads K⟩) (aop (.mkmap) e σ):=by
 simp only [wpD,bO,AOp.acts,AOp.reads,if_true,Bool.false_eq_true,if_false]
theorem NR (z:List AV) (b:Nat) (x y:AOpd) (d:Option Nat) (wl wh:Nat) (ds:List ADOper) (e:Env) (σ:St) (next:Nat) (hist:List St) (reads:List ARead) (K:Env→St→Prop):wpD T (⟨⟨d,.mkslice z b x y,none⟩,wl,wh⟩::ds) e σ next hist reads K=bO (K:=⟨fun v σ'=>wpD T ds (Env.put e d v) σ' next (hist++[σ']) reads K⟩) (aop (.mkslice z b x y) e σ):=by
 simp only [wpD,bO,AOp.acts,AOp.reads,if_true,Bool.false_eq_true,if_false]
theorem RW (n:Nat) (x:AOpd) (lo hi mx:Option AOpd) (d:Option Nat) (wl wh:Nat) (ds:List ADOper) (e:Env) (σ:St) (next:Nat) (hist:List St) (reads:List ARead) (K:Env→St→Prop):wpD T (⟨⟨d,.slicev n x lo hi mx,none⟩,wl,wh⟩::ds) e σ next hist reads K=bO (K:=⟨fun v σ'=>σ'=σ∧wpD T ds (Env.put e d v) σ next hist (⟨wl,wh,.slicev n x lo hi mx,e,v⟩::reads) K⟩) (aop (.slicev n x lo hi mx) e σ):=by
 simp only [wpD,bO,AOp.acts,AOp.reads,if_true,Bool.false_eq_true,if_false]
theorem RJ (n s:Nat) (x:AOpd) (lo hi:Option AOpd) (d:Option Nat) (wl wh:Nat) (ds:List ADOper) (e:Env) (σ:St) (next:Nat) (hist:List St) (reads:List ARead) (K:Env→St→Prop):wpD T (⟨⟨d,.slicea n s x lo hi,none⟩,wl,wh⟩::ds) e σ next hist reads K=bO (K:=⟨fun v σ'=>σ'=σ∧wpD T ds (Env.put e d v) σ next hist reads K⟩) (aop (.slicea n s x lo hi) e σ):=by
 simp only [wpD,bO,AOp.acts,AOp.reads,if_true,Bool.false_eq_true,if_false]
theorem WZ (x:AOpd) (o:Nat) (d:Option Nat) (wl wh:Nat) (ds:List ADOper) (e:Env) (σ:St) (next:Nat) (hist:List St) (reads:List ARead) (K:Env→St→Prop):wpD T (⟨⟨d,.faddr x o,none⟩,wl,wh⟩::ds) e σ next hist reads K=bO (K:=⟨fun v σ'=>σ'=σ∧wpD T ds (Env.put e d v) σ next hist reads K⟩) (aop (.faddr x o) e σ):=by
 simp only [wpD,bO,AOp.acts,AOp.reads,if_true,Bool.false_eq_true,if_false]
theorem UF (x:AOpd) (o:Nat) (sh:Option Nat) (d:Option Nat) (wl wh:Nat) (ds:List ADOper) (e:Env) (σ:St) (next:Nat) (hist:List St) (reads:List ARead) (K:Env→St→Prop):wpD T (⟨⟨d,.field x o sh,none⟩,wl,wh⟩::ds) e σ next hist reads K=bO (K:=⟨fun v σ'=>σ'=σ∧wpD T ds (Env.put e d v) σ next hist reads K⟩) (aop (.field x o sh) e σ):=by
 simp only [wpD,bO,AOp.acts,AOp.reads,if_true,Bool.false_eq_true,if_false]
theorem VS (a:Option Nat) (s:Nat) (x i:AOpd) (d:Option Nat) (wl wh:Nat) (ds:List ADOper) (e:Env) (σ:St) (next:Nat) (hist:List St) (reads:List ARead) (K:Env→St→Prop):wpD T (⟨⟨d,.iaddr a s x i,none⟩,wl,wh⟩::ds) e σ next hist reads K=bO (K:=⟨fun v σ'=>σ'=σ∧wpD T ds (Env.put e d v) σ next hist reads K⟩) (aop (.iaddr a s x i) e σ):=by
 simp only [wpD,bO,AOp.acts,AOp.reads,if_true,Bool.false_eq_true,if_false]
theorem W4 (n s:Nat) (sh:Option Nat) (x i:AOpd) (d:Option Nat) (wl wh:Nat) (ds:List ADOper) (e:Env) (σ:St) (next:Nat) (hist:List St) (reads:List ARead) (K:Env→St→Prop):wpD T (⟨⟨d,.index n s sh x i,none⟩,wl,wh⟩::ds) e σ next hist reads K=bO (K:=⟨fun v σ'=>σ'=σ∧wpD T ds (Env.put e d v) σ next hist reads K⟩) (aop (.index n s sh x i) e σ):=by
 simp only [wpD,bO,AOp.acts,AOp.reads,if_true,Bool.false_eq_true,if_false]
theorem TD (x i:AOpd) (d:Option Nat) (wl wh:Nat) (ds:List ADOper) (e:Env) (σ:St) (next:Nat) (hist:List St) (reads:List ARead) (K:Env→St→Prop):wpD T (⟨⟨d,.sindex x i,none⟩,wl,wh⟩::ds) e σ next hist reads K=bO (K:=⟨fun v σ'=>σ'=σ∧wpD T ds (Env.put e d v) σ next hist reads K⟩) (aop (.sindex x i) e σ):=by
 simp only [wpD,bO,AOp.acts,AOp.reads,if_true,Bool.false_eq_true,if_false]
theorem QU (sh:EqTy) (ok:Bool) (z:AV) (m k:AOpd) (d:Option Nat) (wl wh:Nat) (ds:List ADOper) (e:Env) (σ:St) (next:Nat) (hist:List St) (reads:List ARead) (K:Env→St→Prop):wpD T (⟨⟨d,.lookup sh ok z m k,none⟩,wl,wh⟩::ds) e σ next hist reads K=bO (K:=⟨fun v σ'=>σ'=σ∧wpD T ds (Env.put e d v) σ next hist (⟨wl,wh,.lookup sh ok z m k,e,v⟩::reads) K⟩) (aop (.lookup sh ok z m k) e σ):=by
 simp only [wpD,bO,AOp.acts,AOp.reads,if_true,Bool.false_eq_true,if_false]
theorem QL (sh:EqTy) (m k v:AOpd) (d:Option Nat) (wl wh:Nat) (ds:List ADOper) (e:Env) (σ:St) (next:Nat) (hist:List St) (reads:List ARead) (K:Env→St→Prop):wpD T (⟨⟨d,.mapset sh m k v,none⟩,wl,wh⟩::ds) e σ next hist reads K=bO (K:=⟨fun v σ'=>wpD T ds (Env.put e d v) σ' next (hist++[σ']) reads K⟩) (aop (.mapset sh m k v) e σ):=by
 simp only [wpD,bO,AOp.acts,AOp.reads,if_true,Bool.false_eq_true,if_false]
theorem aE2 (x:AOpd) (i:Nat) (d:Option Nat) (wl wh:Nat) (ds:List ADOper) (e:Env) (σ:St) (next:Nat) (hist:List St) (reads:List ARead) (K:Env→St→Prop):wpD T (⟨⟨d,.ext x i,none⟩,wl,wh⟩::ds) e σ next hist reads K=bO (K:=⟨fun v σ'=>σ'=σ∧wpD T ds (Env.put e d v) σ next hist reads K⟩) (aop (.ext x i) e σ):=by
 simp only [wpD,bO,AOp.acts,AOp.reads,if_true,Bool.false_eq_true,if_false]
theorem aF3 (k:Nat) (x:AOpd) (d:Option Nat) (wl wh:Nat) (ds:List ADOper) (e:Env) (σ:St) (next:Nat) (hist:List St) (reads:List ARead) (K:Env→St→Prop):wpD T (⟨⟨d,.len k x,none⟩,wl,wh⟩::ds) e σ next hist reads K=bO (K:=⟨fun v σ'=>σ'=σ∧wpD T ds (Env.put e d v) σ next hist (⟨wl,wh,.len k x,e,v⟩::reads) K⟩) (aop (.len k x) e σ):=by
 simp only [wpD,bO,AOp.acts,AOp.reads,if_true,Bool.false_eq_true,if_false]
theorem S5 (n b:Nat) (x y:AOpd) (d:Option Nat) (wl wh:Nat) (ds:List ADOper) (e:Env) (σ:St) (next:Nat) (hist:List St) (reads:List ARead) (K:Env→St→Prop):wpD T (⟨⟨d,.append n b x y,none⟩,wl,wh⟩::ds) e σ next hist reads K=bO (K:=⟨fun v σ'=>wpD T ds (Env.put e d v) σ' next (hist++[σ']) reads K⟩) (aop (.append n b x y) e σ):=by
 simp only [wpD,bO,AOp.acts,AOp.reads,if_true,Bool.false_eq_true,if_false]
theorem XF (n b:Nat) (x y:AOpd) (d:Option Nat) (wl wh:Nat) (ds:List ADOper) (e:Env) (σ:St) (next:Nat) (hist:List St) (reads:List ARead) (K:Env→St→Prop):wpD T (⟨⟨d,.apref n b x y,none⟩,wl,wh⟩::ds) e σ next hist reads K=bO (K:=⟨fun v σ'=>wpD T ds (Env.put e d v) σ' next (hist++[σ']) reads K⟩) (aop (.apref n b x y) e σ):=by
 simp only [wpD,bO,AOp.acts,AOp.reads,if_true,Bool.false_eq_true,if_false]
theorem aCU (n:Nat) (x y:AOpd) (d:Option Nat) (wl wh:Nat) (ds:List ADOper) (e:Env) (σ:St) (next:Nat) (hist:List St) (reads:List ARead) (K:Env→St→Prop):wpD T (⟨⟨d,.copy n x y,none⟩,wl,wh⟩::ds) e σ next hist reads K=bO (K:=⟨fun v σ'=>wpD T ds (Env.put e d v) σ' next (hist++[σ']) reads K⟩) (aop (.copy n x y) e σ):=by
 simp only [wpD,bO,AOp.acts,AOp.reads,if_true,Bool.false_eq_true,if_false]
theorem aEY (xs:List AOpd) (d:Option Nat) (wl wh:Nat) (ds:List ADOper) (e:Env) (σ:St) (next:Nat) (hist:List St) (reads:List ARead) (K:Env→St→Prop):wpD T (⟨⟨d,.min xs,none⟩,wl,wh⟩::ds) e σ next hist reads K=bO (K:=⟨fun v σ'=>σ'=σ∧wpD T ds (Env.put e d v) σ next hist reads K⟩) (aop (.min xs) e σ):=by
 simp only [wpD,bO,AOp.acts,AOp.reads,if_true,Bool.false_eq_true,if_false]
theorem aE1 (xs:List AOpd) (d:Option Nat) (wl wh:Nat) (ds:List ADOper) (e:Env) (σ:St) (next:Nat) (hist:List St) (reads:List ARead) (K:Env→St→Prop):wpD T (⟨⟨d,.max xs,none⟩,wl,wh⟩::ds) e σ next hist reads K=bO (K:=⟨fun v σ'=>σ'=σ∧wpD T ds (Env.put e d v) σ next hist reads K⟩) (aop (.max xs) e σ):=by
 simp only [wpD,bO,AOp.acts,AOp.reads,if_true,Bool.false_eq_true,if_false]
theorem PT (x:AOpd) (d:Option Nat) (wl wh:Nat) (ds:List ADOper) (e:Env) (σ:St) (next:Nat) (hist:List St) (reads:List ARead) (K:Env→St→Prop):wpD T (⟨⟨d,.srange x,none⟩,wl,wh⟩::ds) e σ next hist reads K=bO (K:=⟨fun v σ'=>wpD T ds (Env.put e d v) σ' next (hist++[σ']) reads K⟩) (aop (.srange x) e σ):=by
 simp only [wpD,bO,AOp.acts,AOp.reads,if_true,Bool.false_eq_true,if_false]
theorem TY (x:AOpd) (d:Option Nat) (wl wh:Nat) (ds:List ADOper) (e:Env) (σ:St) (next:Nat) (hist:List St) (reads:List ARead) (K:Env→St→Prop):wpD T (⟨⟨d,.snext x,none⟩,wl,wh⟩::ds) e σ next hist reads K=bO (K:=⟨fun v σ'=>wpD T ds (Env.put e d v) σ' next (hist++[σ']) reads K⟩) (aop (.snext x) e σ):=by
 simp only [wpD,bO,AOp.acts,AOp.reads,if_true,Bool.false_eq_true,if_false]
theorem TN (f:AOpd) (xs:List AOpd) (t:Nat) (want:Bool) (d:Option Nat) (wl wh:Nat) (ds:List ADOper) (e:Env) (σ:St) (next:Nat) (hist:List St) (reads:List ARead) (K:Env→St→Prop):wpD T (⟨⟨d,.call f xs,some (t,want)⟩,wl,wh⟩::ds) e σ next hist reads K =
  bG (A:=⟨wpD T (⟨⟨d,.call f xs,none⟩,wl,wh⟩::ds) e σ next hist reads K⟩) (B:=⟨wpD T ds (Env.put e d (.tuple [])) σ next (hist++[σ]) reads K⟩) (Env.get e t) want:=by simp only [wpD,bG]
theorem aEL (x:AOpd) (t:Nat) (want:Bool) (d:Option Nat) (wl wh:Nat) (ds:List ADOper) (e:Env) (σ:St) (next:Nat) (hist:List St) (reads:List ARead) (K:Env→St→Prop):wpD T (⟨⟨d,.mov x,some (t,want)⟩,wl,wh⟩::ds) e σ next hist reads K =
  bG (A:=⟨wpD T (⟨⟨d,.mov x,none⟩,wl,wh⟩::ds) e σ next hist reads K⟩) (B:=⟨wpD T ds (Env.put e d (.tuple [])) σ next hist reads K⟩) (Env.get e t) want:=by
 simp only [wpD,bG,AOp.allocs,AOp.acts,true_and,if_true,Bool.false_eq_true,if_false]
theorem aCP (c x y:AOpd) (t:Nat) (want:Bool) (d:Option Nat) (wl wh:Nat) (ds:List ADOper) (e:Env) (σ:St) (next:Nat) (hist:List St) (reads:List ARead) (K:Env→St→Prop):wpD T (⟨⟨d,.pick c x y,some (t,want)⟩,wl,wh⟩::ds) e σ next hist reads K =
  bG (A:=⟨wpD T (⟨⟨d,.pick c x y,none⟩,wl,wh⟩::ds) e σ next hist reads K⟩) (B:=⟨wpD T ds (Env.put e d (.tuple [])) σ next hist reads K⟩) (Env.get e t) want:=by
 simp only [wpD,bG,AOp.allocs,AOp.acts,true_and,if_true,Bool.false_eq_true,if_false]
theorem aDW (n:Nat) (x:AOpd) (t:Nat) (want:Bool) (d:Option Nat) (wl wh:Nat) (ds:List ADOper) (e:Env) (σ:St) (next:Nat) (hist:List St) (reads:List ARead) (K:Env→St→Prop):wpD T (⟨⟨d,.box n x,some (t,want)⟩,wl,wh⟩::ds) e σ next hist reads K =
  bG (A:=⟨wpD T (⟨⟨d,.box n x,none⟩,wl,wh⟩::ds) e σ next hist reads K⟩) (B:=⟨wpD T ds (Env.put e d (.tuple [])) σ next (hist++[σ]) reads K⟩) (Env.get e t) want:=by
 simp only [wpD,bG,AOp.allocs,AOp.acts,true_and,if_true,Bool.false_eq_true,if_false]
theorem UJ (z:List AV) (ps:List (Nat×Nat×AOpd)) (t:Nat) (want:Bool) (d:Option Nat) (wl wh:Nat) (ds:List ADOper) (e:Env) (σ:St) (next:Nat) (hist:List St) (reads:List ARead) (K:Env→St→Prop):wpD T (⟨⟨d,.build z ps,some (t,want)⟩,wl,wh⟩::ds) e σ next hist reads K =
  bG (A:=⟨wpD T (⟨⟨d,.build z ps,none⟩,wl,wh⟩::ds) e σ next hist reads K⟩) (B:=⟨wpD T ds (Env.put e d (.tuple [])) σ next hist reads K⟩) (Env.get e t) want:=by
 simp only [wpD,bG,AOp.allocs,AOp.acts,true_and,if_true,Bool.false_eq_true,if_false]
theorem V1 (n:Nat) (xs:List AOpd) (t:Nat) (want:Bool) (d:Option Nat) (wl wh:Nat) (ds:List ADOper) (e:Env) (σ:St) (next:Nat) (hist:List St) (reads:List ARead) (K:Env→St→Prop):wpD T (⟨⟨d,.mklit n xs,some (t,want)⟩,wl,wh⟩::ds) e σ next hist reads K =
  bG (A:=⟨wpD T (⟨⟨d,.mklit n xs,none⟩,wl,wh⟩::ds) e σ next hist reads K⟩) (B:=⟨wpD T ds (Env.put e d (.tuple [])) σ next hist reads K⟩) (Env.get e t) want:=by
 simp only [wpD,bG,AOp.allocs,AOp.acts,true_and,if_true,Bool.false_eq_true,if_false]
theorem UU (n:Nat) (xs:List AOpd) (t:Nat) (want:Bool) (d:Option Nat) (wl wh:Nat) (ds:List ADOper) (e:Env) (σ:St) (next:Nat) (hist:List St) (reads:List ARead) (K:Env→St→Prop):wpD T (⟨⟨d,.mkref n xs,some (t,want)⟩,wl,wh⟩::ds) e σ next hist reads K =
  bG (A:=⟨wpD T (⟨⟨d,.mkref n xs,none⟩,wl,wh⟩::ds) e σ next hist reads K⟩) (B:=⟨wpD T ds (Env.put e d (.tuple [])) σ next (hist++[σ]) reads K⟩) (Env.get e t) want:=by
 simp only [wpD,bG,AOp.allocs,AOp.acts,true_and,if_true,Bool.false_eq_true,if_false]
theorem aAB (sh:Option Nat) (x:AOpd) (t:Nat) (want:Bool) (d:Option Nat) (wl wh:Nat) (ds:List ADOper) (e:Env) (σ:St) (next:Nat) (hist:List St) (reads:List ARead) (K:Env→St→Prop):wpD T (⟨⟨d,.load sh x,some (t,want)⟩,wl,wh⟩::ds) e σ next hist reads K =
  bG (A:=⟨wpD T (⟨⟨d,.load sh x,none⟩,wl,wh⟩::ds) e σ next hist reads K⟩) (B:=⟨wpD T ds (Env.put e d (.tuple [])) σ next hist reads K⟩) (Env.get e t) want:=by
 simp only [wpD,bG,AOp.allocs,AOp.acts,true_and,if_true,Bool.false_eq_true,if_false]
theorem UX (n:Nat) (x y:AOpd) (t:Nat) (want:Bool) (d:Option Nat) (wl wh:Nat) (ds:List ADOper) (e:Env) (σ:St) (next:Nat) (hist:List St) (reads:List ARead) (K:Env→St→Prop):wpD T (⟨⟨d,.store n x y,some (t,want)⟩,wl,wh⟩::ds) e σ next hist reads K =
  bG (A:=⟨wpD T (⟨⟨d,.store n x y,none⟩,wl,wh⟩::ds) e σ next hist reads K⟩) (B:=⟨wpD T ds (Env.put e d (.tuple [])) σ next (hist++[σ]) reads K⟩) (Env.get e t) want:=by
 simp only [wpD,bG,AOp.allocs,AOp.acts,true_and,if_true,Bool.false_eq_true,if_false]
theorem J4 (x:AOpd) (t:Nat) (want:Bool) (d:Option Nat) (wl wh:Nat) (ds:List ADOper) (e:Env) (σ:St) (next:Nat) (hist:List St) (reads:List ARead) (K:Env→St→Prop):wpD T (⟨⟨d,.nilCheck x,some (t,want)⟩,wl,wh⟩::ds) e σ next hist reads K =
  bG (A:=⟨wpD T (⟨⟨d,.nilCheck x,none⟩,wl,wh⟩::ds) e σ next hist reads K⟩) (B:=⟨wpD T ds (Env.put e d (.tuple [])) σ next hist reads K⟩) (Env.get e t) want:=by
 simp only [wpD,bG,AOp.allocs,AOp.acts,true_and,if_true,Bool.false_eq_true,if_false]
theorem aD9 (op:BinOp) (x y:AOpd) (t:Nat) (want:Bool) (d:Option Nat) (wl wh:Nat) (ds:List ADOper) (e:Env) (σ:St) (next:Nat) (hist:List St) (reads:List ARead) (K:Env→St→Prop):wpD T (⟨⟨d,.bin op x y,some (t,want)⟩,wl,wh⟩::ds) e σ next hist reads K =
  bG (A:=⟨wpD T (⟨⟨d,.bin op x y,none⟩,wl,wh⟩::ds) e σ next hist reads K⟩) (B:=⟨wpD T ds (Env.put e d (.tuple [])) σ next hist reads K⟩) (Env.get e t) want:=by
 simp only [wpD,bG,AOp.allocs,AOp.acts,true_and,if_true,Bool.false_eq_true,if_false]
theorem aDQ (sh:EqTy) (n:Bool) (x y:AOpd) (t:Nat) (want:Bool) (d:Option Nat) (wl wh:Nat) (ds:List ADOper) (e:Env) (σ:St) (next:Nat) (hist:List St) (reads:List ARead) (K:Env→St→Prop):wpD T (⟨⟨d,.eql sh n x y,some (t,want)⟩,wl,wh⟩::ds) e σ next hist reads K =
  bG (A:=⟨wpD T (⟨⟨d,.eql sh n x y,none⟩,wl,wh⟩::ds) e σ next hist reads K⟩) (B:=⟨wpD T ds (Env.put e d (.tuple [])) σ next hist reads K⟩) (Env.get e t) want:=by
 simp only [wpD,bG,AOp.allocs,AOp.acts,true_and,if_true,Bool.false_eq_true,if_false]
theorem aDX (x:AOpd) (t:Nat) (want:Bool) (d:Option Nat) (wl wh:Nat) (ds:List ADOper) (e:Env) (σ:St) (next:Nat) (hist:List St) (reads:List ARead) (K:Env→St→Prop):wpD T (⟨⟨d,.not x,some (t,want)⟩,wl,wh⟩::ds) e σ next hist reads K =
  bG (A:=⟨wpD T (⟨⟨d,.not x,none⟩,wl,wh⟩::ds) e σ next hist reads K⟩) (B:=⟨wpD T ds (Env.put e d (.tuple [])) σ next hist reads K⟩) (Env.get e t) want:=by
 simp only [wpD,bG,AOp.allocs,AOp.acts,true_and,if_true,Bool.false_eq_true,if_false]
theorem aGK (x:AOpd) (t:Nat) (want:Bool) (d:Option Nat) (wl wh:Nat) (ds:List ADOper) (e:Env) (σ:St) (next:Nat) (hist:List St) (reads:List ARead) (K:Env→St→Prop):wpD T (⟨⟨d,.neg x,some (t,want)⟩,wl,wh⟩::ds) e σ next hist reads K =
  bG (A:=⟨wpD T (⟨⟨d,.neg x,none⟩,wl,wh⟩::ds) e σ next hist reads K⟩) (B:=⟨wpD T ds (Env.put e d (.tuple [])) σ next hist reads K⟩) (Env.get e t) want:=by
 simp only [wpD,bG,AOp.allocs,AOp.acts,true_and,if_true,Bool.false_eq_true,if_false]
theorem aB8 (k:IntKind) (x:AOpd) (t:Nat) (want:Bool) (d:Option Nat) (wl wh:Nat) (ds:List ADOper) (e:Env) (σ:St) (next:Nat) (hist:List St) (reads:List ARead) (K:Env→St→Prop):wpD T (⟨⟨d,.conv k x,some (t,want)⟩,wl,wh⟩::ds) e σ next hist reads K =
  bG (A:=⟨wpD T (⟨⟨d,.conv k x,none⟩,wl,wh⟩::ds) e σ next hist reads K⟩) (B:=⟨wpD T ds (Env.put e d (.tuple [])) σ next hist reads K⟩) (Env.get e t) want:=by
 simp only [wpD,bG,AOp.allocs,AOp.acts,true_and,if_true,Bool.false_eq_true,if_false]
theorem XI (f:FuncId) (xs ys:List AOpd) (t:Nat) (want:Bool) (d:Option Nat) (wl wh:Nat) (ds:List ADOper) (e:Env) (σ:St) (next:Nat) (hist:List St) (reads:List ARead) (K:Env→St→Prop):wpD T (⟨⟨d,.mkfun f xs ys,some (t,want)⟩,wl,wh⟩::ds) e σ next hist reads K =
  bG (A:=⟨wpD T (⟨⟨d,.mkfun f xs ys,none⟩,wl,wh⟩::ds) e σ next hist reads K⟩) (B:=⟨wpD T ds (Env.put e d (.tuple [])) σ next hist reads K⟩) (Env.get e t) want:=by
 simp only [wpD,bG,AOp.allocs,AOp.acts,true_and,if_true,Bool.false_eq_true,if_false]
theorem UW  (t:Nat) (want:Bool) (d:Option Nat) (wl wh:Nat) (ds:List ADOper) (e:Env) (σ:St) (next:Nat) (hist:List St) (reads:List ARead) (K:Env→St→Prop):wpD T (⟨⟨d,.mkmap,some (t,want)⟩,wl,wh⟩::ds) e σ next hist reads K =
  bG (A:=⟨wpD T (⟨⟨d,.mkmap,none⟩,wl,wh⟩::ds) e σ next hist reads K⟩) (B:=⟨wpD T ds (Env.put e d (.tuple [])) σ next (hist++[σ]) reads K⟩) (Env.get e t) want:=by
 simp only [wpD,bG,AOp.allocs,AOp.acts,true_and,if_true,Bool.false_eq_true,if_false]
theorem MS (z:List AV) (b:Nat) (x y:AOpd) (t:Nat) (want:Bool) (d:Option Nat) (wl wh:Nat) (ds:List ADOper) (e:Env) (σ:St) (next:Nat) (hist:List St) (reads:List ARead) (K:Env→St→Prop):wpD T (⟨⟨d,.mkslice z b x y,some (t,want)⟩,wl,wh⟩::ds) e σ next hist reads K =
  bG (A:=⟨wpD T (⟨⟨d,.mkslice z b x y,none⟩,wl,wh⟩::ds) e σ next hist reads K⟩) (B:=⟨wpD T ds (Env.put e d (.tuple [])) σ next (hist++[σ]) reads K⟩) (Env.get e t) want:=by
 simp only [wpD,bG,AOp.allocs,AOp.acts,true_and,if_true,Bool.false_eq_true,if_false]
theorem PV (n:Nat) (x:AOpd) (lo hi mx:Option AOpd) (t:Nat) (want:Bool) (d:Option Nat) (wl wh:Nat) (ds:List ADOper) (e:Env) (σ:St) (next:Nat) (hist:List St) (reads:List ARead) (K:Env→St→Prop):wpD T (⟨⟨d,.slicev n x lo hi mx,some (t,want)⟩,wl,wh⟩::ds) e σ next hist reads K =
  bG (A:=⟨wpD T (⟨⟨d,.slicev n x lo hi mx,none⟩,wl,wh⟩::ds) e σ next hist reads K⟩) (B:=⟨wpD T ds (Env.put e d (.tuple [])) σ next hist reads K⟩) (Env.get e t) want:=by
 simp only [wpD,bG,AOp.allocs,AOp.acts,true_and,if_true,Bool.false_eq_true,if_false]
theorem SH (n s:Nat) (x:AOpd) (lo hi:Option AOpd) (t:Nat) (want:Bool) (d:Option Nat) (wl wh:Nat) (ds:List ADOper) (e:Env) (σ:St) (next:Nat) (hist:List St) (reads:List ARead) (K:Env→St→Prop):wpD T (⟨⟨d,.slicea n s x lo hi,some (t,want)⟩,wl,wh⟩::ds) e σ next hist reads K =
  bG (A:=⟨wpD T (⟨⟨d,.slicea n s x lo hi,none⟩,wl,wh⟩::ds) e σ next hist reads K⟩) (B:=⟨wpD T ds (Env.put e d (.tuple [])) σ next hist reads K⟩) (Env.get e t) want:=by
 simp only [wpD,bG,AOp.allocs,AOp.acts,true_and,if_true,Bool.false_eq_true,if_false]
theorem WD (x:AOpd) (o:Nat) (t:Nat) (want:Bool) (d:Option Nat) (wl wh:Nat) (ds:List ADOper) (e:Env) (σ:St) (next:Nat) (hist:List St) (reads:List ARead) (K:Env→St→Prop):wpD T (⟨⟨d,.faddr x o,some (t,want)⟩,wl,wh⟩::ds) e σ next hist reads K =
  bG (A:=⟨wpD T (⟨⟨d,.faddr x o,none⟩,wl,wh⟩::ds) e σ next hist reads K⟩) (B:=⟨wpD T ds (Env.put e d (.tuple [])) σ next hist reads K⟩) (Env.get e t) want:=by
 simp only [wpD,bG,AOp.allocs,AOp.acts,true_and,if_true,Bool.false_eq_true,if_false]
theorem W6 (x:AOpd) (o:Nat) (sh:Option Nat) (t:Nat) (want:Bool) (d:Option Nat) (wl wh:Nat) (ds:List ADOper) (e:Env) (σ:St) (next:Nat) (hist:List St) (reads:List ARead) (K:Env→St→Prop):wpD T (⟨⟨d,.field x o sh,some (t,want)⟩,wl,wh⟩::ds) e σ next hist reads K =
  bG (A:=⟨wpD T (⟨⟨d,.field x o sh,none⟩,wl,wh⟩::ds) e σ next hist reads K⟩) (B:=⟨wpD T ds (Env.put e d (.tuple [])) σ next hist reads K⟩) (Env.get e t) want:=by
 simp only [wpD,bG,AOp.allocs,AOp.acts,true_and,if_true,Bool.false_eq_true,if_false]
theorem UH (a:Option Nat) (s:Nat) (x i:AOpd) (t:Nat) (want:Bool) (d:Option Nat) (wl wh:Nat) (ds:List ADOper) (e:Env) (σ:St) (next:Nat) (hist:List St) (reads:List ARead) (K:Env→St→Prop):wpD T (⟨⟨d,.iaddr a s x i,some (t,want)⟩,wl,wh⟩::ds) e σ next hist reads K =
  bG (A:=⟨wpD T (⟨⟨d,.iaddr a s x i,none⟩,wl,wh⟩::ds) e σ next hist reads K⟩) (B:=⟨wpD T ds (Env.put e d (.tuple [])) σ next hist reads K⟩) (Env.get e t) want:=by
 simp only [wpD,bG,AOp.allocs,AOp.acts,true_and,if_true,Bool.false_eq_true,if_false]
theorem TW (n s:Nat) (sh:Option Nat) (x i:AOpd) (t:Nat) (want:Bool) (d:Option Nat) (wl wh:Nat) (ds:List ADOper) (e:Env) (σ:St) (next:Nat) (hist:List St) (reads:List ARead) (K:Env→St→Prop):wpD T (⟨⟨d,.index n s sh x i,some (t,want)⟩,wl,wh⟩::ds) e σ next hist reads K =
  bG (A:=⟨wpD T (⟨⟨d,.index n s sh x i,none⟩,wl,wh⟩::ds) e σ next hist reads K⟩) (B:=⟨wpD T ds (Env.put e d (.tuple [])) σ next hist reads K⟩) (Env.get e t) want:=by
 simp only [wpD,bG,AOp.allocs,AOp.acts,true_and,if_true,Bool.false_eq_true,if_false]
theorem OR (x i:AOpd) (t:Nat) (want:Bool) (d:Option Nat) (wl wh:Nat) (ds:List ADOper) (e:Env) (σ:St) (next:Nat) (hist:List St) (reads:List ARead) (K:Env→St→Prop):wpD T (⟨⟨d,.sindex x i,some (t,want)⟩,wl,wh⟩::ds) e σ next hist reads K =
  bG (A:=⟨wpD T (⟨⟨d,.sindex x i,none⟩,wl,wh⟩::ds) e σ next hist reads K⟩) (B:=⟨wpD T ds (Env.put e d (.tuple [])) σ next hist reads K⟩) (Env.get e t) want:=by
 simp only [wpD,bG,AOp.allocs,AOp.acts,true_and,if_true,Bool.false_eq_true,if_false]
theorem SD (sh:EqTy) (ok:Bool) (z:AV) (m k:AOpd) (t:Nat) (want:Bool) (d:Option Nat) (wl wh:Nat) (ds:List ADOper) (e:Env) (σ:St) (next:Nat) (hist:List St) (reads:List ARead) (K:Env→St→Prop):wpD T (⟨⟨d,.lookup sh ok z m k,some (t,want)⟩,wl,wh⟩::ds) e σ next hist reads K =
  bG (A:=⟨wpD T (⟨⟨d,.lookup sh ok z m k,none⟩,wl,wh⟩::ds) e σ next hist reads K⟩) (B:=⟨wpD T ds (Env.put e d (.tuple [])) σ next hist reads K⟩) (Env.get e t) want:=by
 simp only [wpD,bG,AOp.allocs,AOp.acts,true_and,if_true,Bool.false_eq_true,if_false]
theorem SR (sh:EqTy) (m k v:AOpd) (t:Nat) (want:Bool) (d:Option Nat) (wl wh:Nat) (ds:List ADOper) (e:Env) (σ:St) (next:Nat) (hist:List St) (reads:List ARead) (K:Env→St→Prop):wpD T (⟨⟨d,.mapset sh m k v,some (t,want)⟩,wl,wh⟩::ds) e σ next hist reads K =
  bG (A:=⟨wpD T (⟨⟨d,.mapset sh m k v,none⟩,wl,wh⟩::ds) e σ next hist reads K⟩) (B:=⟨wpD T ds (Env.put e d (.tuple [])) σ next (hist++[σ]) reads K⟩) (Env.get e t) want:=by
 simp only [wpD,bG,AOp.allocs,AOp.acts,true_and,if_true,Bool.false_eq_true,if_false]
theorem aEK (x:AOpd) (i:Nat) (t:Nat) (want:Bool) (d:Option Nat) (wl wh:Nat) (ds:List ADOper) (e:Env) (σ:St) (next:Nat) (hist:List St) (reads:List ARead) (K:Env→St→Prop):wpD T (⟨⟨d,.ext x i,some (t,want)⟩,wl,wh⟩::ds) e σ next hist reads K =
  bG (A:=⟨wpD T (⟨⟨d,.ext x i,none⟩,wl,wh⟩::ds) e σ next hist reads K⟩) (B:=⟨wpD T ds (Env.put e d (.tuple [])) σ next hist reads K⟩) (Env.get e t) want:=by
 simp only [wpD,bG,AOp.allocs,AOp.acts,true_and,if_true,Bool.false_eq_true,if_false]
theorem aD2 (k:Nat) (x:AOpd) (t:Nat) (want:Bool) (d:Option Nat) (wl wh:Nat) (ds:List ADOper) (e:Env) (σ:St) (next:Nat) (hist:List St) (reads:List ARead) (K:Env→St→Prop):wpD T (⟨⟨d,.len k x,some (t,want)⟩,wl,wh⟩::ds) e σ next hist reads K =
  bG (A:=⟨wpD T (⟨⟨d,.len k x,none⟩,wl,wh⟩::ds) e σ next hist reads K⟩) (B:=⟨wpD T ds (Env.put e d (.tuple [])) σ next hist reads K⟩) (Env.get e t) want:=by
 simp only [wpD,bG,AOp.allocs,AOp.acts,true_and,if_true,Bool.false_eq_true,if_false]
theorem PN (n b:Nat) (x y:AOpd) (t:Nat) (want:Bool) (d:Option Nat) (wl wh:Nat) (ds:List ADOper) (e:Env) (σ:St) (next:Nat) (hist:List St) (reads:List ARead) (K:Env→St→Prop):wpD T (⟨⟨d,.append n b x y,some (t,want)⟩,wl,wh⟩::ds) e σ next hist reads K =
  bG (A:=⟨wpD T (⟨⟨d,.append n b x y,none⟩,wl,wh⟩::ds) e σ next hist reads K⟩) (B:=⟨wpD T ds (Env.put e d (.tuple [])) σ next (hist++[σ]) reads K⟩) (Env.get e t) want:=by
 simp only [wpD,bG,AOp.allocs,AOp.acts,true_and,if_true,Bool.false_eq_true,if_false]
theorem UN (n b:Nat) (x y:AOpd) (t:Nat) (want:Bool) (d:Option Nat) (wl wh:Nat) (ds:List ADOper) (e:Env) (σ:St) (next:Nat) (hist:List St) (reads:List ARead) (K:Env→St→Prop):wpD T (⟨⟨d,.apref n b x y,some (t,want)⟩,wl,wh⟩::ds) e σ next hist reads K =
  bG (A:=⟨wpD T (⟨⟨d,.apref n b x y,none⟩,wl,wh⟩::ds) e σ next hist reads K⟩) (B:=⟨wpD T ds (Env.put e d (.tuple [])) σ next (hist++[σ]) reads K⟩) (Env.get e t) want:=by
 simp only [wpD,bG,AOp.allocs,AOp.acts,true_and,if_true,Bool.false_eq_true,if_false]
theorem aAY (n:Nat) (x y:AOpd) (t:Nat) (want:Bool) (d:Option Nat) (wl wh:Nat) (ds:List ADOper) (e:Env) (σ:St) (next:Nat) (hist:List St) (reads:List ARead) (K:Env→St→Prop):wpD T (⟨⟨d,.copy n x y,some (t,want)⟩,wl,wh⟩::ds) e σ next hist reads K =
  bG (A:=⟨wpD T (⟨⟨d,.copy n x y,none⟩,wl,wh⟩::ds) e σ next hist reads K⟩) (B:=⟨wpD T ds (Env.put e d (.tuple [])) σ next (hist++[σ]) reads K⟩) (Env.get e t) want:=by
 simp only [wpD,bG,AOp.allocs,AOp.acts,true_and,if_true,Bool.false_eq_true,if_false]
theorem aFW (xs:List AOpd) (t:Nat) (want:Bool) (d:Option Nat) (wl wh:Nat) (ds:List ADOper) (e:Env) (σ:St) (next:Nat) (hist:List St) (reads:List ARead) (K:Env→St→Prop):wpD T (⟨⟨d,.min xs,some (t,want)⟩,wl,wh⟩::ds) e σ next hist reads K =
  bG (A:=⟨wpD T (⟨⟨d,.min xs,none⟩,wl,wh⟩::ds) e σ next hist reads K⟩) (B:=⟨wpD T ds (Env.put e d (.tuple [])) σ next hist reads K⟩) (Env.get e t) want:=by
 simp only [wpD,bG,AOp.allocs,AOp.acts,true_and,if_true,Bool.false_eq_true,if_false]
theorem aEQ (xs:List AOpd) (t:Nat) (want:Bool) (d:Option Nat) (wl wh:Nat) (ds:List ADOper) (e:Env) (σ:St) (next:Nat) (hist:List St) (reads:List ARead) (K:Env→St→Prop):wpD T (⟨⟨d,.max xs,some (t,want)⟩,wl,wh⟩::ds) e σ next hist reads K =
  bG (A:=⟨wpD T (⟨⟨d,.max xs,none⟩,wl,wh⟩::ds) e σ next hist reads K⟩) (B:=⟨wpD T ds (Env.put e d (.tuple [])) σ next hist reads K⟩) (Env.get e t) want:=by
 simp only [wpD,bG,AOp.allocs,AOp.acts,true_and,if_true,Bool.false_eq_true,if_false]
theorem SE (x:AOpd) (t:Nat) (want:Bool) (d:Option Nat) (wl wh:Nat) (ds:List ADOper) (e:Env) (σ:St) (next:Nat) (hist:List St) (reads:List ARead) (K:Env→St→Prop):wpD T (⟨⟨d,.srange x,some (t,want)⟩,wl,wh⟩::ds) e σ next hist reads K =
  bG (A:=⟨wpD T (⟨⟨d,.srange x,none⟩,wl,wh⟩::ds) e σ next hist reads K⟩) (B:=⟨wpD T ds (Env.put e d (.tuple [])) σ next (hist++[σ]) reads K⟩) (Env.get e t) want:=by
 simp only [wpD,bG,AOp.allocs,AOp.acts,true_and,if_true,Bool.false_eq_true,if_false]
theorem U1 (x:AOpd) (t:Nat) (want:Bool) (d:Option Nat) (wl wh:Nat) (ds:List ADOper) (e:Env) (σ:St) (next:Nat) (hist:List St) (reads:List ARead) (K:Env→St→Prop):wpD T (⟨⟨d,.snext x,some (t,want)⟩,wl,wh⟩::ds) e σ next hist reads K =
  bG (A:=⟨wpD T (⟨⟨d,.snext x,none⟩,wl,wh⟩::ds) e σ next hist reads K⟩) (B:=⟨wpD T ds (Env.put e d (.tuple [])) σ next (hist++[σ]) reads K⟩) (Env.get e t) want:=by
 simp only [wpD,bG,AOp.allocs,AOp.acts,true_and,if_true,Bool.false_eq_true,if_false]
end Go.Am
namespace Go.Am
variable {T:FuncId→Option AFunc}
structure KeepS (σ σ':St) (lo:Nat):Prop where
 len:σ.length≤σ'.length
 low:∀ i,i<lo→i<σ.length→σ'[i]? = σ[i]?
 loops:∀ (i:Nat) (st:LS) (pe:Option AJump) (env:Env) (ps:List Nat) (a b:ACode),i<σ.length→σ'[i]? = some (.loop st pe env ps a b)→∃ st' pe',σ[i]? = some (.loop st' pe' env ps a b)
theorem KeepS.refl (σ:St) (lo:Nat):KeepS σ σ lo:=⟨Nat.le_refl _,fun _ _ _=>rfl,fun i st pe env ps a b _ h=>⟨st,pe,h⟩⟩
theorem KeepS.weak {σ σ':St} {lo l:Nat} (h:KeepS σ σ' lo) (hl:l≤lo):KeepS σ σ' l:=⟨h.len,fun i hi=>h.low i (by omega),h.loops⟩
theorem KeepS.trans {σ σ1 σ2:St} {l1 l2:Nat} (h:KeepS σ σ1 l1) (k:KeepS σ1 σ2 l2):KeepS σ σ2 (Nat.min l1 l2) where
 len:=Nat.le_trans h.len k.len
 low i hi hlt:=by
  have h1:i<l1:=Nat.lt_of_lt_of_le hi (Nat.min_le_left _ _)
  have h2:i<l2:=Nat.lt_of_lt_of_le hi (Nat.min_le_right _ _)
  rw [k.low i h2 (Nat.lt_of_lt_of_le hlt h.len),h.low i h1 hlt]
 loops i st pe env ps a b hlt e:=by
  obtain ⟨st1,pe1,e1⟩:=k.loops i st pe env ps a b (Nat.lt_of_lt_of_le hlt h.len) e
  exact h.loops i st1 pe1 env ps a b hlt e1
theorem KeepS.app (σ:St) (τ:St) (lo:Nat):KeepS σ (σ++τ) lo :=
 ⟨by simp,fun i _ hi=>List.getElem?_append_left hi,fun i st pe env ps a b hi e=>⟨st,pe,by rw [←List.getElem?_append_left (l₂:=τ) hi];exact e⟩⟩
theorem KeepS.set {σ:St} {i:Nat} {x:ABlk} (hx:∀ st pe env ps a b,x≠.loop st pe env ps a b):KeepS σ (σ.set i x) i where
 len:=by simp
 low j hj _:=List.getElem?_set_ne (by omega)
 loops j st pe env ps a b hj e:=by
  by_cases h:i=j
  ·subst h
   rw [List.getElem?_set_self hj] at e
   cases e
   exact absurd rfl (hx _ _ _ _ _ _)
  ·rw [List.getElem?_set_ne h] at e
   exact ⟨st,pe,e⟩
end Go.Am
namespace Go.Am
variable {T:FuncId→Option AFunc}
theorem KeepS.step {σ σ1 σ2:St} {l lo lo':Nat} (h:KeepS σ σ1 l) (k:lo'≤Nat.min lo l∧KeepS σ1 σ2 lo'):lo'≤lo∧KeepS σ σ2 lo':=by
 have h1:lo'≤l:=Nat.le_trans k.1 (Nat.min_le_right _ _)
 refine ⟨Nat.le_trans k.1 (Nat.min_le_left _ _),(h.trans k.2).weak ?_⟩
 exact Nat.le_min.2 ⟨h1,Nat.le_refl _⟩
end Go.Am
namespace Go.Am
variable {T:FuncId→Option AFunc}
theorem aA2 (e:Env):evs e []=[]:=by simp only [evs]
theorem aAP (e:Env) (x:AOpd) (xs:List AOpd):evs e (x::xs)=x.ev e::evs e xs:=by simp only [evs]
theorem aAN (e:Env):ovs e none=none:=by simp only [ovs]
theorem ZV (e:Env) (x:AOpd):ovs e (some x)=some (x.ev e):=by simp only [ovs]
theorem ZL {α β:Type} (f:α→β) (a:α):Option.map f (some a)=some (f a):=by simp
theorem TA {α β:Type} (f:α→Option β) (a:α):(some a).bind f=f a:=by simp
theorem aA3 (i o:Nat):H6 (.ptr i o)=some (.ptr i o):=by simp only [H6]
theorem aCT (xs:List AV) (i o:Nat) (t:Option Nat):H6 (.lptr xs i o t)=some (.lptr xs i o t):=by simp only [H6]
theorem aC4 (f:FuncId) (a b:List AV):H6 (.func f a b)=some (.func f a b):=by simp only [H6]
theorem W8 (o:Nat) (sh:Option Nat) (cs:List AV):E8 o sh (.agg cs)=fW sh cs o:=by simp only [E8]
theorem aBI (k k':IntKind) (n:Int):LI k (.int k' n)=some (.int k (k.wrap n)):=by simp only [LI]
theorem aEF (k:IntKind) (n:Int):XB (.int k n)=some (.int k (k.wrap (0-n))):=by simp only [XB]
theorem WS (x y:AV):EF (.bool true) x y=some x:=by simp only [EF]
theorem UI (x y:AV):EF (.bool false) x y=some y:=by simp only [EF]
theorem aE6 (s:ByteArray):V5 (.str s)=some s:=by simp only [V5]
theorem ZE (k:IntKind) (a b:Int):gJ .i (.int k a) (.int k b)=some (a==b):=by simp [gJ]
theorem aGD (a b:Bool):gJ .b (.bool a) (.bool b)=some (a==b):=by simp [gJ]
theorem aF5 (a b:ByteArray):gJ .s (.str a) (.str b)=some (a.toList==b.toList):=by simp [gJ]
def VP:Option Bool→Option Bool→Option Bool
 |some p,some q=>some (p&&q)
 |_,_=>none
theorem QO (p q:Bool):VP (some p) (some q)=some (p&&q):=by simp only [VP]
theorem aCO:bK [] [] []=some true:=by simp [bK]
theorem OV (k:SK) (ks:List SK) (a b:AV) (x y:List AV):bK (k::ks) (a::x) (b::y)=VP (gJ k a b) (bK ks x y):=by
 simp only [bK,VP];cases gJ k a b<;>cases bK ks x y<;>rfl
theorem aDP (k:SK) (x y:AV):CA (.one k) false x y=(gJ k x y).map .bool:=by
 simp only [CA,j3];cases gJ k x y<;>simp
theorem aF9 (k:SK) (x y:AV):CA (.one k) true x y=(gJ k x y).map fun b=>.bool !b:=by
 simp only [CA,j3];cases gJ k x y<;>simp
theorem aD5 (ks:List SK) (x y:List AV):CA (.agg ks) false (.agg x) (.agg y)=(bK ks x y).map .bool:=by
 simp only [CA,j3];cases bK ks x y<;>simp
theorem aDY (ks:List SK) (x y:List AV):CA (.agg ks) true (.agg x) (.agg y)=(bK ks x y).map fun b=>.bool !b:=by
 simp only [CA,j3];cases bK ks x y<;>simp
theorem aFQ (k:IntKind) (a b:Int):fX .add (.int k a) (.int k b)=some (.int k (k.wrap (a+b))):=by simp [fX,lK]
theorem aEE (k:IntKind) (a b:Int):fX .sub (.int k a) (.int k b)=some (.int k (k.wrap (a-b))):=by simp [fX,lK]
theorem aFX (k:IntKind) (a b:Int):fX .mul (.int k a) (.int k b)=some (.int k (k.wrap (a*b))):=by simp [fX,lK]
theorem Q7 (k:IntKind) (a b:Int) (h:b≠0):fX .rem (.int k a) (.int k b)=some (.int k (a.tmod b)):=by simp [fX,lK,h]
theorem aDN (k:IntKind) (a b:Int):fX .lss (.int k a) (.int k b)=some (.bool (decide (a<b))):=by simp [fX,lK]
theorem aDJ (k:IntKind) (a b:Int):fX .leq (.int k a) (.int k b)=some (.bool (decide (a≤b))):=by simp [fX,lK]
theorem aGA (k:IntKind) (a b:Int):fX .gtr (.int k a) (.int k b)=some (.bool (decide (b<a))):=by simp [fX,lK]
theorem aGC (k:IntKind) (a b:Int):fX .geq (.int k a) (.int k b)=some (.bool (decide (b≤a))):=by simp [fX,lK]
theorem eO {x:Int} (h:-9223372036854775808≤x∧x≤9223372036854775807):IntKind.i64.wrap x=x:=by
 simp only [IntKind.wrap,IntKind.signed,IntKind.bits]
 first
  |(rw [Int.bmod_eq_of_le]<;>omega)
  |(simp;omega)
theorem aC8 (σ:St) (xs:List AV) (f:Bool) (t:Option Nat):jL 1 σ (.lit xs f t)=some xs.length:=by simp only [jL]
theorem aB9 (σ:St) (s:ByteArray):jL 0 σ (.str s)=some s.size:=by simp only [jL]
theorem Z0 (σ:St) (id off len sz:Nat):jL 1 σ (.ref id off len sz)=some len:=by simp only [jL]
theorem aFD (sh:Option Nat) (σ:St) (id off:Nat):k8 sh σ (.ptr id off)=(aK σ id).bind fun cs=>fW sh cs off:=by
 simp only [k8];cases aK σ id<;>simp
theorem aBX (sh:Option Nat) (σ:St) (xs:List AV) (i off:Nat) (t:Option Nat):k8 sh σ (.lptr xs i off t)=(xs[i]?).bind fun x=>fW sh x.cells off:=by
 simp only [k8];cases xs[i]?<;>simp
theorem QZ (b:List AV) (τ:St):aK (.cells b::τ) 0=some b:=by simp [aK]
theorem rA (b:ABlk) (τ:St) (k:Nat):aK (b::τ) (k+1)=aK τ k:=by simp [aK]
theorem sK (σ τ:St) (k:Nat):aK (σ++τ) (σ.length+k)=aK τ k:=by simp only [aK,rW]
theorem jG (σ τ:St):aK (σ++τ) σ.length=aK τ 0:=sK σ τ 0
theorem aFV (cs:List AV) (off:Nat):fW none cs off=cs[off]?:=by simp [fW]
theorem aFO (n:Nat) (cs:List AV) (off:Nat):fW (some n) cs off=if off+n≤cs.length then some (.agg ((cs.drop off).take n)) else none:=by simp [fW]
theorem VA (n:Nat) (σ:St) (id off:Nat) (v:AV):oF n σ (.ptr id off) v=(pX n v).bind fun us=>(aK σ id).bind fun cs=>(gD cs off us).map fun cs'=>σ.set id (.cells cs'):=by
 simp only [oF,pX]
 split
 ·simp only [Option.bind_some]
  cases aK σ id with
  |none=>simp
  |some cs=>simp only [Option.bind_some];cases gD cs off v.cells<;>simp
 ·simp
theorem aFJ (cs us:List AV) (off:Nat):gD cs off us=if off+us.length≤cs.length then some (cs.take off++us++cs.drop (off+us.length)) else none:=by simp only [gD]
def cG (n:Nat) (v:AV):Bool:=v.cells.length==n&&v.cells.all (·.cell)
theorem TZ (n:Nat) (v:AV):pX n v=if cG n v=true then some v.cells else none:=by unfold pX cG;rfl
theorem PK (k:IntKind) (n:Int):cG 1 (.int k n)=true:=by simp [cG,AV.cells,AV.cell]
theorem SV (b:Bool):cG 1 (.bool b)=true:=by simp [cG,AV.cells,AV.cell]
theorem YT (b:ByteArray):cG 1 (.str b)=true:=by simp [cG,AV.cells,AV.cell]
theorem LE (xs:List AV) (f:Bool) (t:Option Nat):cG 1 (.lit xs f t)=true:=by simp [cG,AV.cells,AV.cell]
theorem aEI (a b c d:Nat):cG 1 (.ref a b c d)=true:=by simp [cG,AV.cells,AV.cell]
theorem aFS (a b:Nat):cG 1 (.ptr a b)=true:=by simp [cG,AV.cells,AV.cell]
theorem Z7 (f:FuncId) (a b:List AV):cG 1 (.func f a b)=true:=by simp [cG,AV.cells,AV.cell]
theorem aEM (i:Nat):cG 1 (.map i)=true:=by simp [cG,AV.cells,AV.cell]
theorem RL:cG 1 .nilPtr=true:=by simp [cG,AV.cells,AV.cell]
theorem N6:cG 1 .nilFunc=true:=by simp [cG,AV.cells,AV.cell]
def bU:List AV→Bool
 |[]=>true
 |v::vs=>v.cell&&bU vs
theorem aE3 (n:Nat) (cs:List AV):cG n (.agg cs)=(cs.length==n&&bU cs):=by
 simp only [cG,AV.cells]
 congr 1
 induction cs with
 |nil=>rfl
 |cons c cs ih=>simp only [List.all_cons,bU,ih]
theorem C_0:bU []=true:=by simp only [bU]
theorem aBN (k:IntKind) (n:Int) (cs:List AV):bU (.int k n::cs)=bU cs:=by simp [bU,AV.cell]
theorem VV (b:Bool) (cs:List AV):bU (.bool b::cs)=bU cs:=by simp [bU,AV.cell]
theorem aCB (b:ByteArray) (cs:List AV):bU (.str b::cs)=bU cs:=by simp [bU,AV.cell]
theorem aAS (xs:List AV) (f:Bool) (t:Option Nat) (cs:List AV):bU (.lit xs f t::cs)=bU cs:=by simp [bU,AV.cell]
theorem aB7 (a b c d:Nat) (cs:List AV):bU (.ref a b c d::cs)=bU cs:=by simp [bU,AV.cell]
theorem aCM (a b:Nat) (cs:List AV):bU (.ptr a b::cs)=bU cs:=by simp [bU,AV.cell]
theorem WY (f:FuncId) (a b:List AV) (cs:List AV):bU (.func f a b::cs)=bU cs:=by simp [bU,AV.cell]
theorem aAH (i:Nat) (cs:List AV):bU (.map i::cs)=bU cs:=by simp [bU,AV.cell]
theorem NU  (cs:List AV):bU (.nilPtr::cs)=bU cs:=by simp [bU,AV.cell]
theorem JE  (cs:List AV):bU (.nilFunc::cs)=bU cs:=by simp [bU,AV.cell]
theorem aCL {α:Type} (enc:α→AV) (l:List α) (h:∀ x,(enc x).cell=true):bU (l.map enc)=true:=by
 induction l with
 |nil=>rfl
 |cons x l ih=>simp [bU,h,ih]
theorem aFY (k:IntKind) (n:Int):(AV.int k n).cells=[.int k n]:=by simp [AV.cells]
theorem Z8 (b:Bool):(AV.bool b).cells=[.bool b]:=by simp [AV.cells]
theorem aFK (b:ByteArray):(AV.str b).cells=[.str b]:=by simp [AV.cells]
theorem aE8 (xs:List AV) (f:Bool) (t:Option Nat):(AV.lit xs f t).cells=[.lit xs f t]:=by simp [AV.cells]
theorem aGE (a b c d:Nat):(AV.ref a b c d).cells=[.ref a b c d]:=by simp [AV.cells]
theorem aGJ (a b:Nat):(AV.ptr a b).cells=[.ptr a b]:=by simp [AV.cells]
theorem aBJ (f:FuncId) (a b:List AV):(AV.func f a b).cells=[.func f a b]:=by simp [AV.cells]
theorem aFB (i:Nat):(AV.map i).cells=[.map i]:=by simp [AV.cells]
theorem aD3 (cs:List AV):(AV.agg cs).cells=cs:=by simp [AV.cells]
theorem RE:AV.nilPtr.cells=[.nilPtr]:=by simp [AV.cells]
theorem N5:AV.nilFunc.cells=[.nilFunc]:=by simp [AV.cells]
theorem aGG (e:Env) (cs:List AV):cO e cs []=some cs:=by simp only [cO]
theorem aEB (e:Env) (cs:List AV) (off n:Nat) (x:AOpd) (rest:List (Nat×Nat×AOpd)) :
  cO e cs ((off,n,x)::rest)=((pX n (x.ev e)).bind fun us=>gD cs off us).bind fun cs=>cO e cs rest:=aFI e cs off n x rest
theorem Q4 (n:Nat):aL n []=true:=by simp [aL]
theorem TQ (n:Nat) (x:AV) (xs:List AV):aL n (x::xs)=(cG n x&&aL n xs):=by simp [aL,cG]
theorem oT {α:Type} (n:Nat) (enc:α→AV) (l:List α) (h:∀ x,cG n (enc x)=true):aL n (l.map enc)=true:=by
 induction l with
 |nil=>exact Q4 n
 |cons x l ih=>rw [List.map_cons,TQ,h,ih];rfl
theorem aEH (n:Nat) (xs:List AV):NL n xs=if aL n xs=true then some (.lit xs true none) else none:=by simp only [NL]
def HO (sz:Nat) (xs:List AV) (j:Int) (t:Option Nat):Option AV:=(xs[j.toNat]?).bind fun y=>if 0≤j∧y.cells.length=sz then some (.lptr xs j.toNat 0 t) else none
theorem aFL (sz:Nat) (xs:List AV) (f:Bool) (t:Option Nat) (k:IntKind) (j:Int):oO none sz (.lit xs f t) (.int k j)=HO sz xs j t:=by
 simp only [oO,fY,HO];cases xs[j.toNat]?<;>simp
theorem aD7 (n sz id off:Nat) (k:IntKind) (j:Int):oO (some n) sz (.ptr id off) (.int k j)=if 0≤j∧j<n then some (.ptr id (off+j.toNat*sz)) else none:=by simp only [oO,fY]
theorem aBM (n sz q off:Nat) (xs:List AV) (t:Option Nat) (k:IntKind) (j:Int):oO (some n) sz (.lptr xs q off t) (.int k j)=if 0≤j∧j<n then some (.lptr xs q (off+j.toNat*sz) t) else none:=by simp only [oO,fY]
theorem aDR (sz id off len sz':Nat) (k:IntKind) (j:Int):oO none sz (.ref id off len sz') (.int k j)=if 0≤j∧j<len∧sz'=sz then some (.ptr id (off+j.toNat*sz)) else none:=by simp only [oO,fY]
def F1 (sz b:Nat) (xs ys:List AV):Prop:=aL sz xs=true∧aL sz ys=true∧(xs.length+ys.length)*b≤room∧xs.length+ys.length≤room
theorem v9 {sz b:Nat} {σ:St} {xs ys:List AV} {tk t:Option Nat} {f:Bool} (h:F1 sz b xs ys) (h0:ys.length≠0) :
  cZ sz b σ (.lit xs true tk) (.lit ys f t)=some (.lit (xs++ys) false (some σ.length),σ++[.tok sz (xs.length+ys.length) true]):=by
 obtain ⟨h1,h2,h3,h4⟩:=h
 simp [cZ,kN,yJ,h0,h1,h2,h3,h4]
theorem vY {sz b:Nat} {σ:St} {xs ys:List AV} {t:Nat} {tk:Option Nat} {f ex:Bool} (h:F1 sz b xs ys) (h0:ys.length≠0) (ht:σ[t]? = some (.tok sz xs.length ex)) :
  cZ sz b σ (.lit xs false (some t)) (.lit ys f tk)=some (.lit (xs++ys) false (some t),σ.set t (.tok sz (xs.length+ys.length) true)):=by
 obtain ⟨h1,h2,h3,h4⟩:=h
 simp [cZ,kN,yJ,h0,h1,h2,h3,h4,ht]
theorem LA {sz b:Nat} {σ:St} {xs:List AV} {tk t:Option Nat} {f f':Bool}:cZ sz b σ (.lit xs f' tk) (.lit [] f t)=some (.lit xs f' tk,σ):=by
 simp [cZ,kN]
def cN (σ:St) (m d:Nat) (v:AV):Option AV:=(snap σ m d v).map clr
def cT (σ:St) (m d:Nat) (vs:List AV):Option (List AV):=(snaps σ m d vs).map clrs
theorem SQ (σ:St) (m d:Nat) (k:IntKind) (n:Int):cN σ m d (.int k n)=some (.int k n):=by simp [cN,snap,clr]
theorem EN (σ:St) (m d:Nat) (b:Bool):cN σ m d (.bool b)=some (.bool b):=by simp [cN,snap,clr]
theorem SG (σ:St) (m d:Nat) (b:ByteArray):cN σ m d (.str b)=some (.str b):=by simp [cN,snap,clr]
theorem SF (σ:St) (m d:Nat):cN σ m d .nilPtr=some .nilPtr:=by simp [cN,snap,clr]
theorem NO (σ:St) (m d:Nat):cN σ m d .nilFunc=some .nilFunc:=by simp [cN,snap,clr]
theorem ZG (σ:St) (m d id off:Nat):cN σ m d (.ptr id off)=if id<m then some (.ptr id off) else none:=by
 simp only [cN,snap];split<;>simp [clr]
theorem aDE (σ:St) (m d id:Nat):cN σ m d (.map id)=if id<m then some (.map id) else none:=by
 simp only [cN,snap];split<;>simp [clr]
theorem K2 (σ:St) (m d:Nat):cT σ m d []=some []:=by simp [cT,snaps,clrs]
theorem BF (σ:St) (m d:Nat) (v:AV) (vs:List AV):cT σ m d (v::vs)=(cN σ m d v).bind fun a=>(cT σ m d vs).map (a::·):=by
 simp only [cT,cN,snaps];cases snap σ m d v<;>cases snaps σ m d vs<;>simp [clrs]
theorem T0 (σ:St) (m d:Nat) (vs:List AV):cN σ m d (.tuple vs)=(cT σ m d vs).map .tuple:=by
 simp only [cT,cN,snap];cases snaps σ m d vs<;>simp [clr]
theorem PH (σ:St) (m d:Nat) (vs:List AV):cN σ m d (.agg vs)=(cT σ m d vs).map .agg:=by
 simp only [cT,cN,snap];cases snaps σ m d vs<;>simp [clr]
theorem I9 (σ:St) (m d:Nat) (vs:List AV) (f:Bool):cN σ m d (.lit vs f none)=(cT σ m d vs).map fun ys=>.lit ys false none:=by
 simp only [cT,cN,snap];cases snaps σ m d vs<;>simp [clr]
theorem aAF (σ:St) (m d t:Nat) (vs:List AV) (f:Bool):cN σ m d (.lit vs f (some t))=(cT σ m d vs).map fun ys=>if t<m then .lit ys f (some t) else .lit ys false none:=by
 simp only [cT,cN,snap];cases snaps σ m d vs<;>by_cases h:t<m<;>simp [clr,h,Option.filter]
theorem E3 (σ:St) (m d:Nat) (f:FuncId) (a b:List AV):cN σ m d (.func f a b)=(cT σ m d a).bind fun x=>(cT σ m d b).map fun y=>.func f x y:=by
 simp only [cT,cN,snap];cases snaps σ m d a<;>cases snaps σ m d b<;>simp [clr]
theorem LH (σ:St) (m d id off len sz:Nat):cN σ m (d+1) (.ref id off len sz) =
  if id<m then some (.ref id off len sz) else (kN σ (.ref id off len sz)).bind fun xs=>if (decide (0<sz)&&aL sz xs)=true then (cT σ m d xs).map fun ys=>.lit ys false none else none:=by
 simp only [cN,snap]
 split
 ·simp [clr]
 ·cases kN σ (.ref id off len sz) with
  |none=>simp
  |some xs =>
   simp only [Option.bind_some]
   split
   ·simp only [cT];cases snaps σ m d xs<;>simp [clr]
   ·simp
def kV (v:AV):Prop:=okV 0 v∧clr v=v
def mO (vs:List AV):Prop:=okVs 0 vs∧clrs vs=vs
mutual
theorem snap_ok0 (σ:St) (m d:Nat):∀ (v:AV),okV 0 v→snap σ m d v=some v
 |.func f first cap,h=>by simp only [okV] at h;simp only [snap,snaps_ok0 σ m d first h.1,snaps_ok0 σ m d cap h.2]
 |.yield _,h|.ptr _ _,h|.ref _ _ _ _,h|.map _,h=>by simp [okV] at h
 |.lptr xs i o tk,h=>by
  simp only [okV] at h
  cases tk with
  |none=>simp [snap,snaps_ok0 σ m d xs h.2]
  |some t=>exact absurd (h.1 t rfl) (by omega)
 |.lit xs f tk,h=>by
  simp only [okV] at h
  cases tk with
  |none=>simp [snap,snaps_ok0 σ m d xs h.2]
  |some t=>exact absurd (h.1 t rfl) (by omega)
 |.agg cs,h=>by simp only [okV] at h;simp [snap,snaps_ok0 σ m d cs h]
 |.tuple cs,h=>by simp only [okV] at h;simp [snap,snaps_ok0 σ m d cs h]
 |.undef,_|.int _ _,_|.bool _,_|.str _,_|.nilFunc,_|.nilPtr,_|.nilMap,_=>by simp [snap]
theorem snaps_ok0 (σ:St) (m d:Nat):∀ (vs:List AV),okVs 0 vs→snaps σ m d vs=some vs
 |[],_=>by simp [snaps]
 |v::vs,h=>by simp only [okVs] at h;simp [snaps,snap_ok0 σ m d v h.1,snaps_ok0 σ m d vs h.2]
end
theorem Z2 {v:AV} (h:kV v) (σ:St) (m d:Nat):cN σ m d v=some v:=by simp [cN,snap_ok0 σ m d v h.1,h.2]
theorem jC {vs:List AV} (h:mO vs) (σ:St) (m d:Nat):cT σ m d vs=some vs:=by simp [cT,snaps_ok0 σ m d vs h.1,h.2]
theorem cR (k:IntKind) (n:Int):kV (.int k n):=⟨trivial,rfl⟩
theorem tK (b:Bool):kV (.bool b):=⟨trivial,rfl⟩
theorem vK (b:ByteArray):kV (.str b):=⟨trivial,rfl⟩
theorem dD:mO []:=⟨trivial,rfl⟩
theorem bE {v:AV} {vs:List AV} (h:kV v) (hs:mO vs):mO (v::vs):=⟨⟨h.1,hs.1⟩,by simp [clrs,h.2,hs.2]⟩
theorem i7 {vs:List AV} (h:mO vs):kV (.agg vs):=⟨h.1,by simp [clr,h.2]⟩
theorem JH {vs:List AV} (h:mO vs):kV (.tuple vs):=⟨h.1,by simp [clr,h.2]⟩
theorem IK {vs:List AV} (h:mO vs):kV (.lit vs false none):=⟨⟨(fun t e=>by cases e),h.1⟩,by simp [clr,h.2]⟩
theorem cL {α:Type} {enc:α→AV} (h:∀ x,kV (enc x)) (l:List α):mO (l.map enc):=by
 induction l with
 |nil=>exact dD
 |cons x l ih=>exact bE (h x) ih
theorem iL {α:Type} {enc:α→AV} (h:∀ x,kV (enc x)) (l:List α):kV (.lit (l.map enc) false none):=IK (cL h l)
def JC (o:Option AV) (σ:St) (v:AV):Prop:=∃ v0,o=some v0∧cN σ 0 20 v0=some v
@[congr] theorem aAE {o o':Option AV} {σ σ':St} {v:AV} (h:o=o') (h2:σ=σ'):JC o σ v=JC o' σ' v:=by rw [h,h2]
theorem Z6 (v0:AV) (σ:St) (v:AV):JC (some v0) σ v=(cN σ 0 20 v0=some v):=by simp [JC]
def QN (rs:List ARes) (v:AV):KJ:=fun j e σ=>(j=none∨j=some .ret)∧JC (gX rs e σ) σ v
theorem aCD (rs:List ARes) (v:AV) (e:Env) (σ:St):QN rs v none e σ=JC (gX rs e σ) σ v:=by simp [QN]
theorem aDI (rs:List ARes) (v:AV) (e:Env) (σ:St):QN rs v (some .ret) e σ=JC (gX rs e σ) σ v:=by simp [QN]
theorem bA {f:FuncId} {args:List AV} {v:AV} {af:AFunc} (hf:T f=some af) (hn:args.length≤af.ntmps) (hk:mO args) (h:wp T af.body (gB 0 args) [] (QN af.results v)):dY T f args v:=by
 intro σ
 refine .frame hk.1 (.inl rfl) (R:=fun o=>o.v=v∧o.σ=[]) (.call hf hn (jQ h fun o ho=>ho) fun o ho=>?_) fun o ho=>⟨ho.2,ho.1,rfl⟩
 obtain ⟨h1,v0,h2,h3⟩:=ho
 refine ⟨h1,v0,h2,?_⟩
 unfold cN at h3
 cases hs:snap o.σ 0 20 v0 with
 |none=>rw [hs] at h3;cases h3
 |some v1 =>
  rw [hs] at h3
  simp at h3
  exact .inr ⟨20,v1,v,hs,.inr h3.symm,fun i hi=>absurd hi (by simp),by simp,rfl,by simp⟩
theorem LX {f:FuncId} {args args0:List AV} {v:AV} (h:dY T f args0 v) (ha:clrs args=args0) (hk:okVs 0 args) (σ:St):Run T (.call f args σ) fun o=>o.v=v∧o.σ=σ :=
 .frame hk (.inr ha.symm) (h []) fun o ho=>⟨ho.2,ho.1,rfl⟩
theorem ID {f:FuncId} {first cap args args0:List AV} {v:AV} {σ:St} {K:AV→St→Prop} (h:dY T f args0 v) (ha:clrs (first++args++cap)=args0) (hk:okVs 0 (first++args++cap)) (k:K v σ):cK (K:=⟨K⟩) T (.func f first cap) args σ :=
 .callf (.mono (LX h ha hk σ) fun o ho=>by rw [ho.1,ho.2];exact k)
theorem HL {f:FuncId} {first cap args args0:List AV} {v:AV} {σ:St} {K:AV→St→Prop} (h:dY T f args0 v) (ha:clrs (first++args++cap)=args0) (hk:okVs 0 (first++args++cap)) (k:K v σ):cD (K:=⟨K⟩) T (.func f first cap) args σ :=
 ⟨v,σ,.callf (LX h ha hk σ),k⟩
theorem aE {f:FuncId} {args args0:List AV} {v:AV} {σ:St} {K:AV→St→Prop} (h:dY T f args0 v) (ha:args=args0) (hk:mO args0) (k:K v σ):cK (K:=⟨K⟩) T (.func f [] []) args σ:=by
 subst ha;exact ID h (by simpa using hk.2) (by simpa using hk.1) k
theorem aF {f:FuncId} {args args0:List AV} {v:AV} {σ:St} {K:AV→St→Prop} (h:dY T f args0 v) (ha:args=args0) (hk:mO args0) (k:K v σ):cD (K:=⟨K⟩) T (.func f [] []) args σ:=by
 subst ha;exact HL h (by simpa using hk.2) (by simpa using hk.1) k
theorem H0 {f:FuncId} {args args0:List AV} {v:AV} {σ:St} (h:dY T f args0 v) (ha:cT σ 0 20 args=some args0) (hv:Scal v):Run T (.call f args σ) fun o=>o.v=v∧o.σ=σ:=by
 unfold cT at ha
 cases hs:snaps σ 0 20 args with
 |none=>rw [hs] at ha;cases ha
 |some as1 =>
  rw [hs] at ha
  simp at ha
  exact .frameS hs (.inr ha.symm) (h []) fun o ho=>⟨ho.2,by rw [ho.1];exact hv,ho.1,rfl⟩
theorem s7 {f:FuncId} {first cap args args0:List AV} {v:AV} {σ:St} {K:AV→St→Prop} (h:dY T f args0 v) (ha:cT σ 0 20 (first++args++cap)=some args0) (hv:Scal v) (k:K v σ):cK (K:=⟨K⟩) T (.func f first cap) args σ :=
 .callf (.mono (H0 h ha hv) fun o ho=>by rw [ho.1,ho.2];exact k)
theorem wF {f:FuncId} {first cap args args0:List AV} {v:AV} {σ:St} {K:AV→St→Prop} (h:dY T f args0 v) (ha:cT σ 0 20 (first++args++cap)=some args0) (hv:Scal v) (k:K v σ):cD (K:=⟨K⟩) T (.func f first cap) args σ :=
 ⟨v,σ,.callf (H0 h ha hv),k⟩
def InK (rs:List ARes) (K:AV→St→Prop):KJ:=fun j e σ=>(j=none∨j=some .ret)∧∃ v,gX rs e σ=some v∧K v σ
def InR (o:Option AV) (σ:St) (K:AV→St→Prop):Prop:=∃ v,o=some v∧K v σ
@[congr] theorem aC6 {o o':Option AV} {σ σ':St} {K:AV→St→Prop} (h:o=o') (h2:σ=σ'):InR o σ K=InR o' σ' K:=by rw [h,h2]
theorem aCW (v:AV) (σ:St) (K:AV→St→Prop):InR (some v) σ K=K v σ:=by simp [InR]
theorem aAK (rs:List ARes) (K:AV→St→Prop) (e:Env) (σ:St):InK rs K none e σ=InR (gX rs e σ) σ K:=by simp [InK,InR]
theorem aES (rs:List ARes) (K:AV→St→Prop) (e:Env) (σ:St):InK rs K (some .ret) e σ=InR (gX rs e σ) σ K:=by simp [InK,InR]
theorem sV {f:FuncId} {first cap args:List AV} {af:AFunc} {σ:St} {K:AV→St→Prop} (hf:T f=some af) (hn:(first++args++cap).length≤af.ntmps) (h:wp T af.body (gB 0 (first++args++cap)) σ (InK af.results K)) :
  cK (K:=⟨K⟩) T (.func f first cap) args σ :=
 .callf (.call hf hn (jQ h fun o ho=>ho) fun o ho=>⟨ho.1,ho.2.choose,ho.2.choose_spec.1,.inl ho.2.choose_spec.2⟩)
def EqE (σ:St) (m:Nat) (e:Env):Env→Prop
 |[]=>True
 |(t,v)::e'=>cN σ m 20 (Env.get e t)=some v∧EqE σ m e e'
theorem aHV (σ:St) (m:Nat) (e:Env):EqE σ m e []=True:=by simp only [EqE]
theorem aH1 (σ:St) (m:Nat) (e:Env) (t:Nat) (v:AV) (e':Env):EqE σ m e ((t,v)::e')=(cN σ m 20 (Env.get e t)=some v∧EqE σ m e e'):=by simp only [EqE]
theorem GP {σ:St} {m:Nat} {e:Env}:∀ {e':Env},EqE σ m e e'→L7 σ m e e'
 |[],_=>trivial
 |(t,v)::e',h=>by
  refine ⟨.inr ?_,GP h.2⟩
  have h1:=h.1
  unfold cN at h1
  cases hs:snap σ m 20 (Env.get e t) with
  |none=>rw [hs] at h1;cases h1
  |some v1=>rw [hs] at h1;simp at h1;exact ⟨20,v1,hs,.inr h1.symm⟩
def EqS (m:Nat):St→St→St→Prop
 |_,_,[]=>True
 |s::ss,b::bs,c::cs=>(c=b∧(b=s∨aJ m b))∧EqS m ss bs cs
 |[],b::bs,c::cs=>(c=b∧aJ m b)∧EqS m [] bs cs
 |_,[],_::_=>False
theorem aG4 (m:Nat) (a b:St):EqS m a b []=True:=by cases a<;>cases b<;>simp only [EqS]
theorem aHH (m:Nat) (s b c:ABlk) (ss bs cs:St):EqS m (s::ss) (b::bs) (c::cs)=((c=b∧(b=s∨aJ m b))∧EqS m ss bs cs):=by simp only [EqS]
theorem aHK (m:Nat) (b c:ABlk) (bs cs:St):EqS m [] (b::bs) (c::cs)=((c=b∧aJ m b)∧EqS m [] bs cs):=by simp only [EqS]
theorem zT {m:Nat}:∀ {σ σ' σ'':St},EqS m σ σ' σ''→∀ i c,σ''[i]? = some c→σ'[i]? = some c∧((i<σ.length∧σ'[i]? = σ[i]?)∨aJ m c)
 |_,_,[],_,i,c,h=>by simp at h
 |s::ss,b::bs,x::cs,h,i,c,hc=>by
  obtain ⟨⟨h1,h2⟩,h3⟩:=h
  cases i with
  |zero =>
   simp at hc
   subst hc
   subst h1
   refine ⟨rfl,?_⟩
   rcases h2 with h2|h2
   ·left;simp [h2]
   ·right;exact h2
  |succ i =>
   obtain ⟨q1,q2⟩:=zT h3 i c (by simpa using hc)
   refine ⟨by simpa using q1,?_⟩
   rcases q2 with ⟨q2,q3⟩|q2
   ·left;exact ⟨by simp;omega,by simpa using q3⟩
   ·right;exact q2
 |[],b::bs,x::cs,h,i,c,hc=>by
  obtain ⟨⟨h1,h2⟩,h3⟩:=h
  cases i with
  |zero =>
   simp at hc
   subst hc
   subst h1
   exact ⟨rfl,.inr h2⟩
  |succ i =>
   obtain ⟨q1,q2⟩:=zT h3 i c (by simpa using hc)
   refine ⟨by simpa using q1,?_⟩
   rcases q2 with ⟨q2,q3⟩|q2
   ·simp at q2
   ·right;exact q2
def aC (σ:St) (e':Env) (σ':St) (e'':Env) (σ'':St):Prop:=σ.length≤σ''.length∧σ''.length≤σ'.length∧EqE σ' σ''.length e' e''∧EqS σ''.length σ σ' σ''
@[congr] theorem YR {σ σ1:St} {e' e1:Env} {σ' σ1':St} {e'':Env} {σ'':St} (h1:σ=σ1) (h2:e'=e1) (h3:σ'=σ1'):aC σ e' σ' e'' σ''=aC σ1 e1 σ1' e'' σ'':=by rw [h1,h2,h3]
theorem OS {σ:St} {e':Env} {σ':St} {e'':Env} {σ'':St} (h:aC σ e' σ' e'' σ''):zL σ e' σ' e'' σ'':=by
 obtain ⟨h1,h2,h3,h4⟩:=h
 refine ⟨h1,h2,GP h3,fun i hi=>?_⟩
 obtain ⟨c,hc⟩:∃ c,σ''[i]? = some c:=⟨_,List.getElem?_eq_getElem hi⟩
 obtain ⟨q1,q2⟩:=zT h4 i c hc
 refine ⟨c,hc,?_⟩
 rcases q2 with ⟨q2,q3⟩|q2
 ·left;exact ⟨q2,.inl q3,q1⟩
 ·right;left;exact ⟨q1,q2⟩
def D5 {S:Type} (P:S→Prop) (μ:S→Nat) (IE:S→Env) (IS:S→St) (s:S) (K:KJ):KJ:=fun j e σ =>
 match j with
 |none=>∃ s',P s'∧μ s'<μ s∧aC (IS s) e σ (IE s') (IS s')
 |some j=>K (some j) e σ
theorem PY {S:Type} (P:S→Prop) (μ:S→Nat) (IE:S→Env) (IS:S→St) (s:S) (K:KJ) (e:Env) (σ:St):D5 P μ IE IS s K none e σ = ∃ s',P s'∧μ s'<μ s∧aC (IS s) e σ (IE s') (IS s'):=by simp only [D5]
theorem YW {S:Type} (P:S→Prop) (μ:S→Nat) (IE:S→Env) (IS:S→St) (s:S) (K:KJ) (j:AJump) (e:Env) (σ:St):D5 P μ IE IS s K (some j) e σ=K (some j) e σ:=by simp only [D5]
def EqW (e:Env):Env→Prop
 |[]=>True
 |(t,v)::e'=>(Env.get e t=v∨clr (Env.get e t)=v)∧EqW e e'
theorem aHO (e:Env):EqW e []=True:=by simp only [EqW]
theorem aHS (e:Env) (t:Nat) (v:AV) (e':Env):EqW e ((t,v)::e')=((Env.get e t=v∨clr (Env.get e t)=v)∧EqW e e'):=by simp only [EqW]
theorem H1 {e:Env}:∀ {e':Env},EqW e e'→∀ t,Env.get e' t = .undef∨Env.get e' t=Env.get e t∨Env.get e' t=clr (Env.get e t)
 |[],_,t=>.inl rfl
 |(k,v)::e',h,t=>by
  by_cases hk:k=t
  ·subst hk
   right
   rcases h.1 with h|h
   ·left;simp [Env.get,h]
   ·right;simp [Env.get,h]
  ·simpa [Env.get,hk] using H1 h.2 t
theorem aDS {S:Type} (P:S→Prop) (μ:S→Nat) (IE:S→Env) (IS:S→St) {b:ACode} {K:KJ} (step:∀ s,P s→wp T b (IE s) (IS s) (D5 P μ IE IS s K)):∀ n s,μ s=n→P s→M6 T (.loop b) (IE s) (IS s) K:=by
 intro n
 induction n using Nat.strongRecOn with
 |_ n ih =>
  intro s hs hp
  have h1:Run T (.code b (IE s) (IS s)) fun o=>(o.j=none∧∃ s',P s'∧μ s'<μ s∧o.env=IE s'∧o.σ=IS s')∨(o.j≠none∧K o.j o.env o.σ):=by
   refine .trim2 (jQ (step s hp) fun o ho=>ho) fun o ho=>?_
   cases hj:o.j with
   |none =>
    rw [hj,PY] at ho
    obtain ⟨s',h1,h2,h3⟩:=ho
    exact .inr ⟨_,_,OS h3,.inl ⟨rfl,s',h1,h2,rfl,rfl⟩⟩
   |some j =>
    rw [hj,YW] at ho
    exact .inl (.inr ⟨by simp,ho⟩)
  refine .loop h1 (fun o ho hj=>?_) fun o ho hj=>?_
  ·rcases ho with ⟨_,s',q1,q2,q3,q4⟩|⟨q1,_⟩
   ·rw [q3,q4];exact ih _ (by omega) s' rfl q1
   ·exact absurd hj q1
  ·rcases ho with ⟨q,_⟩|⟨_,q⟩
   ·exact absurd q hj
   ·exact q
theorem bY {S:Type} (s0:S) (P:S→Prop) (μ:S→Nat) (IE:S→Env) (IS:S→St) {b:ACode} {e:Env} {σ:St} {K:KJ} (hP:P s0) (hσ:σ=IS s0) (hE:EqW e (IE s0))
  (step:∀ s,P s→wp T b (IE s) (IS s) (D5 P μ IE IS s K)):rK (K:=⟨K⟩) T (.loop b) e σ:=by
 subst hσ
 exact .weak (H1 hE) (aDS P μ IE IS step _ s0 rfl hP)
theorem jP {c:ACode} {e:Env} {σ:St} {K:KJ} (t sz:Nat) (xs:List AV) (ht:Env.get e t = .lit xs true none) (h:rK (K:=⟨K⟩) T c ((t,.lit xs false (some σ.length))::e) (σ++[.tok sz xs.length false])):rK (K:=⟨K⟩) T c e σ :=
 .ghost t sz xs ht h
end Go.Am
namespace Go.Am
variable {T:FuncId→Option AFunc}
def yX (e:Env) (σ:St):ARes→Option AV
 |.tmp t=>some (Env.get e t)
 |.cell t sh=>k8 sh σ (Env.get e t)
def oM (e:Env) (σ:St):List ARes→Option (List AV)
 |[]=>some []
 |r::rs=>(yX e σ r).bind fun v=>(oM e σ rs).map (v::·)
theorem vD (e:Env) (σ:St):∀ rs,nS e σ rs=oM e σ rs
 |[]=>rfl
 |.tmp t::rs=>by simp [nS,oM,yX,vD e σ rs]
 |.cell t sh::rs=>by
  simp only [nS,oM,yX,vD e σ rs]
  cases k8 sh σ (Env.get e t)<;>cases oM e σ rs<;>simp
theorem aCK (e:Env) (σ:St):gX [] e σ=some (.tuple []):=by simp [gX,nS]
theorem ZX (r:ARes) (e:Env) (σ:St):gX [r] e σ=yX e σ r:=by
 simp only [gX,vD,oM];cases yX e σ r<;>simp
theorem aC3 (r s:ARes) (rs:List ARes) (e:Env) (σ:St):gX (r::s::rs) e σ=(oM e σ (r::s::rs)).map .tuple:=by
 simp only [gX,vD,oM];cases yX e σ r<;>cases yX e σ s<;>cases oM e σ rs<;>simp
theorem aDZ (e:Env) (σ:St):oM e σ []=some []:=by simp only [oM]
theorem aFN (r:ARes) (rs:List ARes) (e:Env) (σ:St):oM e σ (r::rs)=(yX e σ r).bind fun v=>(oM e σ rs).map (v::·):=by simp only [oM]
theorem aGP (t:Nat) (e:Env) (σ:St):yX e σ (.tmp t)=some (Env.get e t):=by simp only [yX]
theorem aG8 (t:Nat) (sh:Option Nat) (e:Env) (σ:St):yX e σ (.cell t sh)=k8 sh σ (Env.get e t):=by simp only [yX]
theorem aGZ (id:Nat) (K:KJ) (e:Env) (σ:St):kM id K none e σ=K none e σ:=by simp only [kM]
theorem aHW (id:Nat) (K:KJ) (e:Env) (σ:St):kM id K (some .ret) e σ=K (some .ret) e σ:=by simp only [kM]
theorem aDG (id:Nat) (K:KJ) (e:Env) (σ:St):kM id K (some (.exit id)) e σ=K none e σ:=by simp [kM]
theorem aFZ (id i:Nat) (K:KJ) (e:Env) (σ:St) (h:i≠id):kM id K (some (.exit i)) e σ=K (some (.exit i)) e σ:=by simp [kM,h]
theorem aBB {α:Type} {sz:Nat} {enc:α→AV} {l:List α} {k:Nat} {t:Option Nat} (h:k<l.length) (hs:∀ x,(enc x).cells.length=sz):HO sz (l.map enc) (k:Int) t=some (.lptr (l.map enc) k 0 t):=by
 simp [HO,List.getElem?_map,h,hs]
theorem aCI {α:Type} {enc:α→AV} {l:List α} {k:Nat} (h:k<l.length):(l.map enc)[k]? = some (enc l[k]):=by simp [List.getElem?_map,h]
theorem rd0 {ds:List ADOper} {e:Env} {σ:St} {K:KJ} (hz:d9 ds=[]) (h:wpD T ds e σ σ.length [σ] [] fun e σ=>K none e σ):rK (K:=⟨K⟩) T (.dreg ds) e σ:=by
 refine LG ?_
 rw [hz,List.append_nil]
 exact h
theorem pP {ds:List ADOper} {e:Env} {σ:St} {K:KJ} (zs:St) (hz:d9 ds=zs) (h:wpD T ds e (σ++zs) σ.length [σ++zs] [] fun e σ=>K none e σ):rK (K:=⟨K⟩) T (.dreg ds) e σ:=by
 subst hz
 exact LG h
theorem bV {k n:Nat} (h:k<n) (hn:n<9223372036854775808):IntKind.i64.wrap ((k:Int)+1)=((k+1:Nat):Int):=by rw [eO ⟨by omega,by omega⟩];omega
def ints (l:List Int):AV:=.lit (l.map (.int .i64)) false none
theorem kC (l:List Int):kV (ints l):=iL (cR .i64) l
theorem nL (σ:St) (m d:Nat) (k:IntKind) (l:List Int):cT σ m d (l.map (.int k))=some (l.map (.int k)):=jC (cL (cR k) l) σ m d
theorem aBU (σ:St) (m d:Nat) (l:List ByteArray):cT σ m d (l.map .str)=some (l.map .str):=jC (cL vK l) σ m d
theorem YD (σ:St) (m d:Nat):∀ xs ys:List AV,cT σ m d (xs++ys)=(cT σ m d xs).bind fun a=>(cT σ m d ys).map (a++·)
 |[],ys=>by rw [K2];simp
 |x::xs,ys=>by
  rw [List.cons_append,BF,BF,YD σ m d xs ys]
  cases cN σ m d x<;>simp
  cases cT σ m d xs<;>simp
  cases cT σ m d ys<;>simp
def aN (l:List (List Int)):AV:=.lit (l.map ints) false none
theorem nN (l:List (List Int)):kV (aN l):=iL kC l
theorem aAI (σ:St) (m d:Nat) (l:List Int):cN σ m d (ints l)=some (ints l):=Z2 (kC l) σ m d
theorem RS (σ:St) (m d:Nat) (l:List (List Int)):cT σ m d (l.map ints)=some (l.map ints):=jC (cL kC l) σ m d
theorem Z9 (k:IntKind) (a b:Int):yC [.int k a,.int k b]=some (.int k (min a b)):=by
 simp only [yC,tU,if_true,Option.some.injEq,AV.int.injEq,true_and];split<;>omega
theorem aAJ (k:IntKind) (a b:Int):yS [.int k a,.int k b]=some (.int k (max a b)):=by
 simp only [yS,tJ,if_true,Option.some.injEq,AV.int.injEq,true_and];split<;>omega
def eT (s:ByteArray) (k:Nat):Int:=(((s[k]?).getD 0).toNat:Int)
theorem CY (s:ByteArray) (k:Nat):0≤eT s k∧eT s k<256:=by
 have:=((s[k]?).getD 0).toNat_lt
 unfold eT
 omega
theorem aBZ {s:ByteArray} {k:Nat} (h:k<s.size):y2 (.str s) (.int .i64 (k:Int))=some (.int .u8 (eT s k)):=by
 simp [y2,fY,eT,h]
structure Span where
 lo:Int
 hi:Int
 deriving DecidableEq
def pR (s:Span):AV:=.agg [.int .i64 s.lo,.int .i64 s.hi]
theorem aS (s:Span):pR s = .agg [.int .i64 s.lo,.int .i64 s.hi]:=by simp only [pR]
theorem MW (s:Span):kV (pR s):=i7 (bE (cR _ _) (bE (cR _ _) dD))
def KM (l:List ByteArray):AV:=.lit (l.map .str) false none
theorem N0 (l:List ByteArray):kV (KM l):=iL vK l
end Go.Am
namespace Go.Am
variable {T:FuncId→Option AFunc}
def jJ (T:FuncId→Option AFunc) (f:AV) (args:List AV) (σ:St) (v:AV):Prop:=Run T (.callv f args σ) fun o=>o.v=v∧o.σ=σ
def AJ (o:Option AV) (σ0 σ:St) (v:AV):Prop:=∃ v0 τ,o=some v0∧σ=σ0++τ∧cN σ σ0.length 20 v0=some v
@[congr] theorem XO {o o':Option AV} {σ0 σ σ':St} {v:AV} (h:o=o') (h2:σ=σ'):AJ o σ0 σ v=AJ o' σ0 σ' v:=by rw [h,h2]
def F8 (rs:List ARes) (σ0:St) (v:AV):KJ:=fun j e σ=>(j=none∨j=some .ret)∧AJ (gX rs e σ) σ0 σ v
theorem aA4 (rs:List ARes) (σ0:St) (v:AV) (e:Env) (σ:St):F8 rs σ0 v none e σ=AJ (gX rs e σ) σ0 σ v:=by simp [F8]
theorem aER (rs:List ARes) (σ0:St) (v:AV) (e:Env) (σ:St):F8 rs σ0 v (some .ret) e σ=AJ (gX rs e σ) σ0 σ v:=by simp [F8]
theorem fI {v0:AV} {σ0 σ:St} {v:AV} (τ:St) (h1:σ=σ0++τ) (h2:cN σ σ0.length 20 v0=some v):AJ (some v0) σ0 σ v:=⟨v0,τ,rfl,h1,h2⟩
theorem eV {f:FuncId} {first cap args:List AV} {σ:St} {af:AFunc} {v:AV} (hf:T f=some af) (hn:(first++args++cap).length≤af.ntmps) (h:wp T af.body (gB 0 (first++args++cap)) σ (F8 af.results σ v)):jJ T (.func f first cap) args σ v:=by
 refine .callf (.call hf hn (jQ h fun o ho=>ho) fun o ho=>?_)
 obtain ⟨h1,v0,τ,h2,h3,h4⟩:=ho
 refine ⟨h1,v0,h2,?_⟩
 unfold cN at h4
 cases hs:snap o.σ σ.length 20 v0 with
 |none=>rw [hs] at h4;cases h4
 |some v1 =>
  rw [hs] at h4
  simp at h4
  exact .inr ⟨20,v1,v,hs,.inr h4.symm,fun i hi=>.inl (by rw [h3];exact List.getElem?_append_left hi),by rw [h3];simp,rfl,by rw [h3];simp⟩
theorem bW {f:AV} {args:List AV} {v:AV} {σ:St} {K:AV→St→Prop} (h:jJ T f args σ v) (k:K v σ):cK (K:=⟨K⟩) T f args σ:=.mono h fun o ho=>by rw [ho.1,ho.2];exact k
theorem BA {f:AV} {args:List AV} {v:AV} {σ:St} {K:AV→St→Prop} (h:jJ T f args σ v) (k:K v σ):cD (K:=⟨K⟩) T f args σ:=⟨v,σ,h,k⟩
def uE (σ:St) (v:AV):Prop:=∀ τ,cN (σ++τ) σ.length 20 v=some v
theorem uE.nil {σ:St} {v:AV} (h:uE σ v):cN σ σ.length 20 v=some v:=by simpa using h []
theorem aBF (m:Nat):∀ (σ τ:St),EqS m σ (σ++τ) σ=True
 |[],τ=>by cases τ<;>simp [EqS]
 |b::σ,τ=>by simp [EqS,aBF m σ τ]
theorem aDB (m:Nat) (σ:St):EqS m σ σ σ=True:=by simpa using aBF m σ []
theorem aB5 (σ τ υ:St):σ++τ++υ=σ++(τ++υ):=List.append_assoc _ _ _
theorem SA {s:ByteArray} {k:Nat} (h:k<s.size):w4 [.siter s k] (.ptr 0 0)=some (.tuple [.bool true,.int .i64 k,.int .i32 (Utf8.decode s k).1],[.siter s (k+(Utf8.decode s k).2)]):=by
 simp [w4,h]
theorem RP {s:ByteArray} {k:Nat} (h:¬k<s.size):w4 [.siter s k] (.ptr 0 0)=some (.tuple [.bool false],[.siter s k]):=by
 simp [w4,h]
theorem vE {s:ByteArray} {k:Nat} (h:k<s.size) (hb:eT s k<128):Utf8.decode s k=((eT s k).toNat,1):=by
 have e:eT s k=((s[k]'h).toNat:Int):=by simp [eT,h]
 rw [decode_ascii s k h (by omega),e]
 simp
theorem HK {s:ByteArray} {k:Nat} (h:k<s.size) (hb:128≤eT s k):128≤(Utf8.decode s k).1:=by
 have e:eT s k=((s[k]'h).toNat:Int):=by simp [eT,h]
 exact (decode_high s k h (by omega)).1
theorem aBT {α:Type} {sz:Nat} {enc:α→AV} {l:List α} {i:Nat} {σ:St} {t:Option Nat} (hi:i≤l.length) (hs:∀ x,(enc x).cells.length=sz):zJ sz σ (.lit (l.map enc) false t) none (some (.int .i64 (i:Int))) none=some (.lit ((l.take i).map enc) false t):=by
 have hc:zH sz (l.map enc) 0 (i:Int)=true:=by
  unfold zH
  by_cases h0:i=0
  ·subst h0;simp
  ·cases l with
   |nil=>simp at hi;omega
   |cons x l=>simp [hs]
 simp only [zJ,jL,oW,Option.map_none,fY,m8]
 rw [if_pos ⟨by omega,by omega,by simp;omega,hc⟩]
 simp [List.map_take]
theorem eN {f:FuncId} {args args0:List AV} {v:AV} {σ:St} {K:AV→St→Prop} (h:dY T f args0 v) (ha:clrs args=args0) (hk:okVs 0 args) (k:K v σ):cK (K:=⟨K⟩) T (.func f [] []) args σ :=
 ID h (by simpa using ha) (by simpa using hk) k
theorem fA {f:FuncId} {args args0:List AV} {v:AV} {σ:St} {K:AV→St→Prop} (h:dY T f args0 v) (ha:clrs args=args0) (hk:okVs 0 args) (k:K v σ):cD (K:=⟨K⟩) T (.func f [] []) args σ :=
 HL h (by simpa using ha) (by simpa using hk) k
end Go.Am
namespace Go.Am
def QV:=And.intro @aE6 (And.intro @oN (And.intro @LZ (And.intro @aB5 (And.intro @aBZ (And.intro @Z9 (And.intro @aAJ (And.intro @aE4 (And.intro @aAU (And.intro @SI (And.intro @QF (And.intro @aFC (And.intro @aDU (And.intro @ZZ (And.intro @VW (And.intro @SZ (And.intro @RX (And.intro @O9 (And.intro @nB (And.intro @lD (And.intro @aA2 (And.intro @aAP (And.intro @aAN (And.intro @ZV (And.intro @aBC (And.intro @ZL (And.intro @TA (And.intro @aA3 (And.intro @aCT (And.intro @aC4 (And.intro @W8 (And.intro @aBI (And.intro @aEF (And.intro @WS (And.intro @UI (And.intro @ZE (And.intro @aGD (And.intro @aF5 (And.intro @QO (And.intro @aCO (And.intro @OV (And.intro @aDP (And.intro @aF9 (And.intro @aD5 (And.intro @aDY (And.intro @aFQ (And.intro @aEE (And.intro @aFX (And.intro @aDN (And.intro @aDJ (And.intro @aGA (And.intro @aGC (And.intro @aC8 (And.intro @aB9 (And.intro @Z0 (And.intro @Q8 (And.intro @R6 (And.intro @aCA (And.intro @aB2 (And.intro @aFD (And.intro @aBX (And.intro @QZ (And.intro @rA (And.intro @sK (And.intro @jG (And.intro @aFV (And.intro @aFO (And.intro @VA (And.intro @aFJ (And.intro @TZ (And.intro @PK (And.intro @SV (And.intro @YT (And.intro @LE (And.intro @aEI (And.intro @aFS (And.intro @Z7 (And.intro @aEM (And.intro @RL (And.intro @N6 (And.intro @aE3 (And.intro @C_0 (And.intro @aBN (And.intro @VV (And.intro @aCB (And.intro @aAS (And.intro @aB7 (And.intro @aCM (And.intro @WY (And.intro @aAH (And.intro @NU (And.intro @JE (And.intro @aFY (And.intro @Z8 (And.intro @aFK (And.intro @aE8 (And.intro @aGE (And.intro @aGJ (And.intro @aBJ (And.intro @aFB (And.intro @aD3 (And.intro @RE (And.intro @N5 (And.intro @aGG (And.intro @aEB (And.intro @Q4 (And.intro @TQ (And.intro @aEH (And.intro @aFL (And.intro @aD7 (And.intro @aBM (And.intro @aDR (And.intro @aCK (And.intro @ZX (And.intro @aC3 (And.intro @aDZ (And.intro @aFN (And.intro @aGP (And.intro @aG8 (And.intro @Z6 (And.intro @aCW (And.intro @aD1 (And.intro @aAT (And.intro @T4 (And.intro @aED (And.intro @VZ (And.intro @VQ (And.intro @TX (And.intro @aAG (And.intro @T9 (And.intro @KA (And.intro @aEG (And.intro @aDO (And.intro @aEJ (And.intro @aDT (And.intro @aCJ (And.intro @TV (And.intro @T7 (And.intro @M0 (And.intro @O3 (And.intro @PC (And.intro @WN (And.intro @W0 (And.intro @UC (And.intro @U6 (And.intro @OW (And.intro @P5 (And.intro @R8 (And.intro @aD8 (And.intro @aFR (And.intro @OY (And.intro @US (And.intro @aCQ (And.intro @aFH (And.intro @aFF (And.intro @RZ (@VR))))))))))))))))))))))))))))))))))))))))))))))))))))))))))))))))))))))))))))))))))))))))))))))))))))))))))))))))))))))))))))))))))))))))))))))))))))))))))))
def QP:=And.intro @aA4 (And.intro @aER (And.intro @aEC (And.intro @aE9 (And.intro @aCN (And.intro @aCC (And.intro @U3 (And.intro @aA9 (And.intro @WJ (And.intro @VK (And.intro @aFU (And.intro @aGZ (And.intro @aHW (And.intro @aDG (And.intro @aFZ (And.intro @aBB (And.intro @aCI (And.intro @aC2 (And.intro @UR (And.intro @aB3 (And.intro @aCS (And.intro @V0 (And.intro @aE7 (And.intro @aCD (And.intro @aDI (And.intro @aAK (And.intro @aES (And.intro @PY (And.intro @YW (And.intro @aDA (And.intro @aBY (And.intro @V4 (And.intro @aFM (And.intro @TS (And.intro @XA (And.intro @VJ (And.intro @aB0 (And.intro @UV (And.intro @KL (And.intro @aDK (And.intro @aEW (And.intro @aFE (And.intro @aF7 (And.intro @aBV (And.intro @WE (And.intro @TR (And.intro @NX (And.intro @RT (And.intro @O8 (And.intro @UQ (And.intro @VL (And.intro @WP (And.intro @U8 (And.intro @R3 (And.intro @Q2 (And.intro @RY (And.intro @aF4 (And.intro @aEV (And.intro @QY (And.intro @VO (And.intro @aBP (And.intro @aGB (And.intro @aC9 (And.intro @RO (@WM))))))))))))))))))))))))))))))))))))))))))))))))))))))))))))))))
def QD:=And.intro @aEU (And.intro @aA6 (And.intro @UA (And.intro @TN (And.intro @aDD (And.intro @aA8 (And.intro @aEA (And.intro @U0 (And.intro @VD (And.intro @WT (And.intro @aCY (And.intro @UB (And.intro @JF (And.intro @aFA (And.intro @aEP (And.intro @aE5 (And.intro @aEZ (And.intro @aAZ (And.intro @VF (And.intro @WA (And.intro @NR (And.intro @RW (And.intro @RJ (And.intro @WZ (And.intro @UF (And.intro @VS (And.intro @W4 (And.intro @TD (And.intro @QU (And.intro @QL (And.intro @aE2 (And.intro @aF3 (And.intro @S5 (And.intro @XF (And.intro @aCU (And.intro @aEY (And.intro @aE1 (And.intro @PT (And.intro @TY (And.intro @aEL (And.intro @aCP (And.intro @aDW (And.intro @UJ (And.intro @V1 (And.intro @UU (And.intro @aAB (And.intro @UX (And.intro @J4 (And.intro @aD9 (And.intro @aDQ (And.intro @aDX (And.intro @aGK (And.intro @aB8 (And.intro @XI (And.intro @UW (And.intro @MS (And.intro @PV (And.intro @SH (And.intro @WD (And.intro @W6 (And.intro @UH (And.intro @TW (And.intro @OR (And.intro @SD (And.intro @SR (And.intro @aEK (And.intro @aD2 (And.intro @PN (And.intro @UN (And.intro @aAY (And.intro @aFW (And.intro @aEQ (And.intro @SE (@U1)))))))))))))))))))))))))))))))))))))))))))))))))))))))))))))))))))))))))
def QS:=And.intro @RS (And.intro @aAI (And.intro @YD (And.intro @nL (And.intro @aBU (And.intro @SQ (And.intro @EN (And.intro @SG (And.intro @SF (And.intro @NO (And.intro @ZG (And.intro @aDE (And.intro @K2 (And.intro @BF (And.intro @T0 (And.intro @PH (And.intro @I9 (And.intro @aAF (And.intro @E3 (And.intro @ZL (@TA))))))))))))))))))))
def QR:=And.intro @O7 (And.intro @Q0 (And.intro @WX (@VC)))
def QT:=And.intro @aBF (And.intro @aDB (And.intro @aHV (And.intro @aH1 (And.intro @aG4 (And.intro @aHH (And.intro @aHK (And.intro @aHO (And.intro @aHS (@SI)))))))))
variable {T:FuncId→Option AFunc}
mutual
theorem okV_up {m:Nat}:∀ v,okV 0 v→okV m v
 |.func _ first cap,h=>⟨okVs_up first h.1,okVs_up cap h.2⟩
 |.lptr xs _ _ tk,h=>⟨fun t e=>absurd (h.1 t e) (by omega),okVs_up xs h.2⟩
 |.lit xs _ tk,h=>⟨fun t e=>absurd (h.1 t e) (by omega),okVs_up xs h.2⟩
 |.agg cs,h=>okVs_up cs h
 |.tuple vs,h=>okVs_up vs h
 |.yield _,h|.ptr _ _,h|.ref _ _ _ _,h|.map _,h=>absurd h (by simp [okV])
 |.undef,_|.int _ _,_|.bool _,_|.str _,_|.nilFunc,_|.nilPtr,_|.nilMap,_=>trivial
theorem okVs_up {m:Nat}:∀ vs,okVs 0 vs→okVs m vs
 |[],_=>trivial
 |v::vs,h=>⟨okV_up v h.1,okVs_up vs h.2⟩
end
theorem J3 {σ:St} {m d id off len sz:Nat} (h:id<m):cN σ m d (.ref id off len sz)=some (.ref id off len sz):=by
 cases d<;>simp [cN,snap,h,clr]
end Go.Am
namespace Go.Am
theorem mA (l:List Int):ints l = .lit (l.map (.int .i64)) false none:=by simp only [ints]
theorem R0 (l:List ByteArray):KM l = .lit (l.map .str) false none:=by simp only [KM]
def QC:=And.intro @and_self (And.intro @and_true (And.intro @true_and (And.intro @true_or (And.intro @or_true (And.intro @mA (And.intro @R0 (And.intro @decide_true (And.intro @decide_false (And.intro @Nat.lt_irrefl (And.intro @Nat.le_refl (And.intro @List.length_cons.{0} (And.intro @List.length_nil.{0} (And.intro @List.cons_append.{0} (And.intro @List.nil_append.{0} (And.intro @List.append_nil.{0} (And.intro @List.getElem?_cons_zero.{0} (And.intro @List.getElem?_cons_succ.{0} (And.intro @List.take_zero.{0} (And.intro @List.drop_zero.{0} (And.intro @List.take_succ_cons.{0} (And.intro @List.drop_succ_cons.{0} (And.intro @List.take_nil.{0} (And.intro @List.drop_nil.{0} (And.intro @List.set_cons_zero.{0} (And.intro @List.set_cons_succ.{0} (And.intro @List.length_map.{0,0} (And.intro @Bool.and_true (And.intro @Bool.true_and (And.intro @Bool.and_self (And.intro @Bool.not_true (And.intro @Bool.not_false (And.intro @beq_self_eq_true.{0} (And.intro @Nat.zero_add (And.intro @implies_true.{0} (And.intro @implies_true.{1} (And.intro @forall_const.{0} (And.intro @forall_const.{1} (And.intro @ne_eq.{1} (And.intro @not_false_eq_true (@not_true_eq_false))))))))))))))))))))))))))))))))))))))))
def QA:=And.intro QP QD
def QB:=And.intro QR (And.intro QV (And.intro QS QC))
def QE:=And.intro QT (And.intro QS (And.intro @SI (And.intro @List.length_append.{0} (And.intro @Nat.le_add_right QC))))
class Dat (v:AV):Prop where
 h:kV v
class Dats (vs:List AV):Prop where
 h:mO vs
theorem dd {vs:List AV} [k:Dats vs]:mO vs:=k.h
instance:Dats []:=⟨dD⟩
instance {v:AV} {vs:List AV} [a:Dat v] [b:Dats vs]:Dats (v::vs):=⟨bE a.h b.h⟩
instance (k:IntKind) (n:Int):Dat (.int k n):=⟨cR k n⟩
instance (b:Bool):Dat (.bool b):=⟨tK b⟩
instance (s:ByteArray):Dat (.str s):=⟨vK s⟩
instance (l:List Int):Dat (ints l):=⟨kC l⟩
instance (l:List (List Int)):Dat (aN l):=⟨nN l⟩
instance (l:List ByteArray):Dat (KM l):=⟨N0 l⟩
instance (s:Span):Dat (pR s):=⟨MW s⟩
instance {cs:List AV} [a:Dats cs]:Dat (.agg cs):=⟨i7 a.h⟩
instance {cs:List AV} [a:Dats cs]:Dat (.tuple cs):=⟨JH a.h⟩
instance {cs:List AV} [a:Dats cs]:Dat (.lit cs false none):=⟨IK a.h⟩
instance (k:IntKind) (l:List Int):Dats (l.map (.int k)):=⟨cL (cR k) l⟩
end Go.Am
namespace Go.Am.Room
def inR (n lo hi:Int):Bool:=decide (lo≤n)&&decide (n≤hi)
theorem gA (n lo hi:Int):dY T 62 [.int .i64 n,.int .i64 lo,.int .i64 hi] (.bool (inR n lo hi)):=by
 refine bA (af:=a62) rfl (by simp [a62]) dd ?_
 (repeat (first|simp only [↓QA,QB,Nat.reduceLT,reduceIte,Nat.reduceEqDiff,Nat.reduceAdd,Nat.reduceLeDiff,Nat.reduceMul,Nat.reduceBEq,a62]|refine rd0 rfl ?_))
 refine aG (fun h=>?_) fun h=>?_
 all_goals
  (repeat (first|simp only [↓QA,QB,Nat.reduceLT,reduceIte,Nat.reduceEqDiff,Nat.reduceAdd,Nat.reduceLeDiff,Nat.reduceMul,Nat.reduceBEq,h]|refine rd0 rfl ?_))
  simp [inR,h]
def n9 (s:Span) (lo hi:Int):Int:=if !inR s.lo lo hi||!inR s.hi lo hi then 7 else if s.hi<s.lo then 2 else 0
theorem L5 (s:Span) (lo hi:Int):dY T 103 [pR s,.int .i64 lo,.int .i64 hi] (.int .i64 (n9 s lo hi)):=by
 refine bA (af:=a103) rfl (by simp [a103]) dd ?_
 (repeat (first|simp only [↓QA,QB,Nat.reduceLT,reduceIte,Nat.reduceEqDiff,Nat.reduceAdd,Nat.reduceLeDiff,Nat.reduceMul,Nat.reduceBEq,a103,aS]|refine rd0 rfl ?_))
 refine aE (gA _ _ _) rfl dd ?_
 (repeat (first|simp only [↓QA,QB,Nat.reduceLT,reduceIte,Nat.reduceEqDiff,Nat.reduceAdd,Nat.reduceLeDiff,Nat.reduceMul,Nat.reduceBEq]|refine rd0 rfl ?_))
 cases h1:inR s.lo lo hi
 ·(repeat (first|simp only [↓QA,QB,Nat.reduceLT,reduceIte,Nat.reduceEqDiff,Nat.reduceAdd,Nat.reduceLeDiff,Nat.reduceMul,Nat.reduceBEq]|refine rd0 rfl ?_))
  simp [n9,h1]
 ·(repeat (first|simp only [↓QA,QB,Nat.reduceLT,reduceIte,Nat.reduceEqDiff,Nat.reduceAdd,Nat.reduceLeDiff,Nat.reduceMul,Nat.reduceBEq]|refine rd0 rfl ?_))
  refine aE (gA _ _ _) rfl dd ?_
  (repeat (first|simp only [↓QA,QB,Nat.reduceLT,reduceIte,Nat.reduceEqDiff,Nat.reduceAdd,Nat.reduceLeDiff,Nat.reduceMul,Nat.reduceBEq]|refine rd0 rfl ?_))
  cases h2:inR s.hi lo hi
  ·(repeat (first|simp only [↓QA,QB,Nat.reduceLT,reduceIte,Nat.reduceEqDiff,Nat.reduceAdd,Nat.reduceLeDiff,Nat.reduceMul,Nat.reduceBEq]|refine rd0 rfl ?_))
   simp [n9,h1,h2]
  ·(repeat (first|simp only [↓QA,QB,Nat.reduceLT,reduceIte,Nat.reduceEqDiff,Nat.reduceAdd,Nat.reduceLeDiff,Nat.reduceMul,Nat.reduceBEq]|refine rd0 rfl ?_))
   refine aG (fun h=>?_) fun h=>?_
   all_goals
    (repeat (first|simp only [↓QA,QB,Nat.reduceLT,reduceIte,Nat.reduceEqDiff,Nat.reduceAdd,Nat.reduceLeDiff,Nat.reduceMul,Nat.reduceBEq,h]|refine rd0 rfl ?_))
    simp [n9,h1,h2]
    simpa using h
def lI (s:Span) (n:Int):Span:=⟨min s.lo n,max s.hi n⟩
theorem rS (l:List Int) (n:Int) (hl:l.length<9223372036854775808):dY T 43 [ints l,.int .i64 n] (.bool (l.contains n)):=by
 refine bA (af:=a43) rfl (by simp [a43]) dd ?_
 (repeat (first|simp only [↓QA,QB,Nat.reduceLT,reduceIte,Nat.reduceEqDiff,Nat.reduceAdd,Nat.reduceLeDiff,Nat.reduceMul,Nat.reduceBEq,a43]|refine rd0 rfl ?_))
 refine bY (S:=Nat) 0 (·≤l.length) (fun k=>l.length-k) (fun k=>[(0,ints l),(1,.int .i64 n),(5,.bool ((l.take k).contains n)),(6,.int .i64 k)]) (fun _=>[]) (Nat.zero_le _) rfl ?_ fun k hk=>?_
 ·try simp only [aC,QE,Nat.reduceLT,reduceIte,Nat.reduceEqDiff,Nat.reduceAdd,Nat.reduceLeDiff,Nat.reduceMul,Nat.reduceBEq]
  try simp
 ·(repeat (first|simp only [↓QA,QB,Nat.reduceLT,reduceIte,Nat.reduceEqDiff,Nat.reduceAdd,Nat.reduceLeDiff,Nat.reduceMul,Nat.reduceBEq,X0]|refine rd0 rfl ?_))
  refine aG (fun h=>?_) fun h=>?_
  ·have hk1:k<l.length:=by simpa using h
   (repeat (first|simp only [↓QA,QB,Nat.reduceLT,reduceIte,Nat.reduceEqDiff,Nat.reduceAdd,Nat.reduceLeDiff,Nat.reduceMul,Nat.reduceBEq]|refine rd0 rfl ?_))
   refine aG (fun h2=>?_) fun h2=>?_
   all_goals
    (repeat (first|simp only [↓QA,QB,Nat.reduceLT,reduceIte,Nat.reduceEqDiff,Nat.reduceAdd,Nat.reduceLeDiff,Nat.reduceMul,Nat.reduceBEq,h2,hk1]|refine rd0 rfl ?_))
    refine ⟨k+1,by omega,by omega,?_⟩
    try simp only [aC,QE,Nat.reduceLT,reduceIte,Nat.reduceEqDiff,Nat.reduceAdd,Nat.reduceLeDiff,Nat.reduceMul,Nat.reduceBEq,bV hk1 hl]
    simp only [List.take_succ_eq_append_getElem hk1,List.contains_append,h2]
    simp
    try (rw [Bool.eq_iff_iff];simp;exact eq_comm)
  ·have:k=l.length:=by simp at h;omega
   (repeat (first|simp only [↓QA,QB,Nat.reduceLT,reduceIte,Nat.reduceEqDiff,Nat.reduceAdd,Nat.reduceLeDiff,Nat.reduceMul,Nat.reduceBEq]|refine rd0 rfl ?_))
   simp [this]
def less:List Int→List Int→Bool
 |_,[]=>false
 |[],_::_=>true
 |a::az,b::bs=>if a=b then less az bs else decide (a<b)
theorem NV {a b:List Int} {k:Nat} (ha:k<a.length) (hb:k<b.length) (h:a[k]=b[k]):less (a.drop (k+1)) (b.drop (k+1))=less (a.drop k) (b.drop k):=by
 rw [List.drop_eq_getElem_cons ha,List.drop_eq_getElem_cons hb];simp [less,h]
theorem EL (a b:List Int) (ha:a.length<9223372036854775808) (hb:b.length<9223372036854775808):dY T 56 [ints a,ints b] (.bool (less a b)):=by
 refine bA (af:=a56) rfl (by simp [a56]) dd ?_
 (repeat (first|simp only [↓QA,QB,Nat.reduceLT,reduceIte,Nat.reduceEqDiff,Nat.reduceAdd,Nat.reduceLeDiff,Nat.reduceMul,Nat.reduceBEq,a56]|refine rd0 rfl ?_))
 refine bY (S:=Nat) 0 (fun k=>k≤a.length∧k≤b.length∧less (a.drop k) (b.drop k)=less a b) (fun k=>a.length-k) (fun k=>[(0,ints a),(1,ints b),(5,.int .i64 k)]) (fun _=>[]) ⟨Nat.zero_le _,Nat.zero_le _,rfl⟩ rfl ?_ fun k hk=>?_
 ·try simp only [aC,QE,Nat.reduceLT,reduceIte,Nat.reduceEqDiff,Nat.reduceAdd,Nat.reduceLeDiff,Nat.reduceMul,Nat.reduceBEq]
  try simp
 ·obtain ⟨hka,hkb,hl⟩:=hk
  (repeat (first|simp only [↓QA,QB,Nat.reduceLT,reduceIte,Nat.reduceEqDiff,Nat.reduceAdd,Nat.reduceLeDiff,Nat.reduceMul,Nat.reduceBEq,YU]|refine rd0 rfl ?_))
  by_cases h1:k<a.length
  ·have g1:decide ((k:Int)<a.length)=true:=by simpa using h1
   by_cases h2:k<b.length
   ·have g2:decide ((k:Int)<b.length)=true:=by simpa using h2
    (repeat (first|simp only [↓QA,QB,Nat.reduceLT,reduceIte,Nat.reduceEqDiff,Nat.reduceAdd,Nat.reduceLeDiff,Nat.reduceMul,Nat.reduceBEq,g1,g2,h1,h2]|refine rd0 rfl ?_))
    refine aG (fun h3=>?_) fun h3=>?_
    ·have h3':a[k]=b[k]:=by simpa using h3
     (repeat (first|simp only [↓QA,QB,Nat.reduceLT,reduceIte,Nat.reduceEqDiff,Nat.reduceAdd,Nat.reduceLeDiff,Nat.reduceMul,Nat.reduceBEq,h3]|refine rd0 rfl ?_))
     refine ⟨k+1,⟨by omega,by omega,(NV h1 h2 h3').trans hl⟩,by omega,?_⟩
     try simp only [aC,QE,Nat.reduceLT,reduceIte,Nat.reduceEqDiff,Nat.reduceAdd,Nat.reduceLeDiff,Nat.reduceMul,Nat.reduceBEq,bV h1 ha]
    ·have h3':a[k]≠b[k]:=by simpa using h3
     have e1:((k:Int)==b.length)=false:=by simp;omega
     have e2:((k:Int)==a.length)=false:=by simp;omega
     (repeat (first|simp only [↓QA,QB,Nat.reduceLT,reduceIte,Nat.reduceEqDiff,Nat.reduceAdd,Nat.reduceLeDiff,Nat.reduceMul,Nat.reduceBEq,h3,e1,e2,h1,h2]|refine rd0 rfl ?_))
     rw [←hl,List.drop_eq_getElem_cons h1,List.drop_eq_getElem_cons h2]
     simp [less,h3']
   ·have hkb':k=b.length:=by omega
    have g2:decide ((k:Int)<b.length)=false:=by simp;omega
    have e1:((k:Int)==b.length)=true:=by simp;omega
    (repeat (first|simp only [↓QA,QB,Nat.reduceLT,reduceIte,Nat.reduceEqDiff,Nat.reduceAdd,Nat.reduceLeDiff,Nat.reduceMul,Nat.reduceBEq,g1,g2,e1]|refine rd0 rfl ?_))
    rw [←hl,hkb',List.drop_length]
    cases List.drop b.length a<;>simp [less]
  ·have g1:decide ((k:Int)<a.length)=false:=by simp;omega
   have e2:((k:Int)==a.length)=true:=by simp;omega
   have hka':k=a.length:=by omega
   (repeat (first|simp only [↓QA,QB,Nat.reduceLT,reduceIte,Nat.reduceEqDiff,Nat.reduceAdd,Nat.reduceLeDiff,Nat.reduceMul,Nat.reduceBEq,g1]|refine rd0 rfl ?_))
   refine aG (fun h3=>?_) fun h3=>?_
   ·have h3':k=b.length:=by simp at h3;omega
    (repeat (first|simp only [↓QA,QB,Nat.reduceLT,reduceIte,Nat.reduceEqDiff,Nat.reduceAdd,Nat.reduceLeDiff,Nat.reduceMul,Nat.reduceBEq]|refine rd0 rfl ?_))
    rw [←hl,h3',List.drop_length]
    cases List.drop b.length a<;>simp [less]
   ·have h3':k<b.length:=by simp at h3;omega
    (repeat (first|simp only [↓QA,QB,Nat.reduceLT,reduceIte,Nat.reduceEqDiff,Nat.reduceAdd,Nat.reduceLeDiff,Nat.reduceMul,Nat.reduceBEq,h3,e2]|refine rd0 rfl ?_))
    rw [←hl,hka',List.drop_length,List.drop_eq_getElem_cons (by omega)]
    simp [less]
theorem kW:∀ a,less a a=false
 |[]=>rfl
 |a::az=>by simp [less,kW az]
theorem BG:∀ a b,less a b=false→less b a=false→a=b
 |[],[],_,_=>rfl
 |[],b::bs,h,_=>by simp [less] at h
 |a::az,[],_,h=>by simp [less] at h
 |a::az,b::bs,h1,h2=>by
  by_cases hab:a=b
  ·subst hab
   simp [less] at h1 h2
   rw [BG az bs h1 h2]
  ·simp [less,hab,Ne.symm hab] at h1 h2
   omega
theorem VT (a b:Nat):((a:Int)==(b:Int))=decide (a=b):=by rw [Bool.eq_iff_iff];simp;omega
theorem fU (a b:List Int) (ha:a.length<9223372036854775808) (hb:b.length<9223372036854775808):dY T 27 [ints a,ints b] (.bool (decide (a=b))):=by
 refine bA (af:=a27) rfl (by simp [a27]) dd ?_
 (repeat (first|simp only [↓QA,QB,Nat.reduceLT,reduceIte,Nat.reduceEqDiff,Nat.reduceAdd,Nat.reduceLeDiff,Nat.reduceMul,Nat.reduceBEq,a27]|refine rd0 rfl ?_))
 refine aG (fun h=>?_) fun h=>?_
 ·(repeat (first|simp only [↓QA,QB,Nat.reduceLT,reduceIte,Nat.reduceEqDiff,Nat.reduceAdd,Nat.reduceLeDiff,Nat.reduceMul,Nat.reduceBEq,h]|refine rd0 rfl ?_))
  refine aE (EL a b ha hb) rfl dd ?_
  (repeat (first|simp only [↓QA,QB,Nat.reduceLT,reduceIte,Nat.reduceEqDiff,Nat.reduceAdd,Nat.reduceLeDiff,Nat.reduceMul,Nat.reduceBEq,h]|refine rd0 rfl ?_))
  cases h1:less a b
  ·(repeat (first|simp only [↓QA,QB,Nat.reduceLT,reduceIte,Nat.reduceEqDiff,Nat.reduceAdd,Nat.reduceLeDiff,Nat.reduceMul,Nat.reduceBEq,h]|refine rd0 rfl ?_))
   refine aE (EL b a hb ha) rfl dd ?_
   (repeat (first|simp only [↓QA,QB,Nat.reduceLT,reduceIte,Nat.reduceEqDiff,Nat.reduceAdd,Nat.reduceLeDiff,Nat.reduceMul,Nat.reduceBEq,h]|refine rd0 rfl ?_))
   cases h2:less b a
   ·rw [BG a b h1 h2];simp
   ·have:a≠b:=by rintro rfl;rw [kW] at h2;cases h2
    simp [this]
  ·have:a≠b:=by rintro rfl;rw [kW] at h1;cases h1
   (repeat (first|simp only [↓QA,QB,Nat.reduceLT,reduceIte,Nat.reduceEqDiff,Nat.reduceAdd,Nat.reduceLeDiff,Nat.reduceMul,Nat.reduceBEq,h]|refine rd0 rfl ?_))
   simp [this]
 ·have:a≠b:=by rintro rfl;simp at h
  (repeat (first|simp only [↓QA,QB,Nat.reduceLT,reduceIte,Nat.reduceEqDiff,Nat.reduceAdd,Nat.reduceLeDiff,Nat.reduceMul,Nat.reduceBEq,h]|refine rd0 rfl ?_))
  simp [this]
def gC (a b:List Int):Bool:=if a.length=b.length then less a b else decide (a.length<b.length)
theorem FM (a b:ByteArray):(a.toList==b.toList)=decide (a=b):=by
 rw [Bool.eq_iff_iff];simp
 constructor
 ·intro h;rw [Go.Lib.toList_data,Go.Lib.toList_data] at h;exact ByteArray.ext (Array.toList_inj.1 h)
 ·rintro rfl;rfl
def j4 (s:ByteArray):List ByteArray→Nat
 |[]=>0
 |x::xs=>if x=s then 0 else j4 s xs+1
def AW (s:ByteArray) (l:List ByteArray):Int:=if j4 s l=l.length then -1 else j4 s l
theorem JN {s:ByteArray} {l:List ByteArray} {k:Nat} (h:k<l.length) (hx:l[k]≠s):k+j4 s (l.drop k)=k+1+j4 s (l.drop (k+1)):=by
 rw [List.drop_eq_getElem_cons h];simp [j4,hx];omega
theorem GH (l:List ByteArray) (s:ByteArray) (hl:l.length<9223372036854775808):dY T 104 [KM l,.str s] (.int .i64 (AW s l)):=by
 refine bA (af:=a104) rfl (by simp [a104]) dd ?_
 (repeat (first|simp only [↓QA,QB,Nat.reduceLT,reduceIte,Nat.reduceEqDiff,Nat.reduceAdd,Nat.reduceLeDiff,Nat.reduceMul,Nat.reduceBEq,a104]|refine rd0 rfl ?_))
 refine bY (S:=Nat) 0 (fun k=>k≤l.length∧k+j4 s (l.drop k)=j4 s l) (fun k=>l.length-k) (fun k=>[(0,KM l),(1,.str s),(5,.int .i64 k)]) (fun _=>[]) ⟨Nat.zero_le _,by simp⟩ rfl ?_ fun k hk=>?_
 ·try simp only [aC,QE,Nat.reduceLT,reduceIte,Nat.reduceEqDiff,Nat.reduceAdd,Nat.reduceLeDiff,Nat.reduceMul,Nat.reduceBEq]
  try simp
 ·obtain ⟨hkl,ha⟩:=hk
  (repeat (first|simp only [↓QA,QB,Nat.reduceLT,reduceIte,Nat.reduceEqDiff,Nat.reduceAdd,Nat.reduceLeDiff,Nat.reduceMul,Nat.reduceBEq,S3,FM]|refine rd0 rfl ?_))
  refine aG (fun h=>?_) fun h=>?_
  ·have hk1:k<l.length:=by simpa using h
   have e2:((k:Int)==l.length)=false:=by simp;omega
   (repeat (first|simp only [↓QA,QB,Nat.reduceLT,reduceIte,Nat.reduceEqDiff,Nat.reduceAdd,Nat.reduceLeDiff,Nat.reduceMul,Nat.reduceBEq,h,hk1,FM]|refine rd0 rfl ?_))
   refine aG (fun h3=>?_) fun h3=>?_
   ·have h3':l[k]≠s:=by simpa using h3
    (repeat (first|simp only [↓QA,QB,Nat.reduceLT,reduceIte,Nat.reduceEqDiff,Nat.reduceAdd,Nat.reduceLeDiff,Nat.reduceMul,Nat.reduceBEq,h3]|refine rd0 rfl ?_))
    refine ⟨k+1,⟨by omega,by rw [←JN hk1 h3'];exact ha⟩,by omega,?_⟩
    try simp only [aC,QE,Nat.reduceLT,reduceIte,Nat.reduceEqDiff,Nat.reduceAdd,Nat.reduceLeDiff,Nat.reduceMul,Nat.reduceBEq,bV hk1 hl]
   ·have h3':l[k]=s:=by simpa using h3
    have h4:j4 s (l.drop k)=0:=by rw [List.drop_eq_getElem_cons hk1];simp [j4,h3']
    (repeat (first|simp only [↓QA,QB,Nat.reduceLT,reduceIte,Nat.reduceEqDiff,Nat.reduceAdd,Nat.reduceLeDiff,Nat.reduceMul,Nat.reduceBEq,h3,e2]|refine rd0 rfl ?_))
    simp only [AW]
    rw [if_neg (by omega)]
    simp;omega
  ·have hk1:k=l.length:=by simp at h;omega
   have e2:((k:Int)==l.length)=true:=by simp;omega
   have h4:j4 s (l.drop k)=0:=by rw [hk1,List.drop_length];rfl
   (repeat (first|simp only [↓QA,QB,Nat.reduceLT,reduceIte,Nat.reduceEqDiff,Nat.reduceAdd,Nat.reduceLeDiff,Nat.reduceMul,Nat.reduceBEq,h,e2]|refine rd0 rfl ?_))
   simp only [AW]
   rw [if_pos (by omega)]
def BI (i:Nat) (b:Int):Bool:=inR b 97 122||(decide (0<i)&&(b==46||inR b 48 57))
def gT (s:ByteArray):Nat→Bool
 |0=>true
 |k+1=>gT s k&&BI k (eT s k)
def oY (s:ByteArray):Bool:=inR s.size 1 16&&gT s s.size
theorem zE (s:ByteArray) (hs:s.size<9223372036854775808):dY T 105 [.str s] (.bool (oY s)):=by
 refine bA (af:=a105) rfl (by simp [a105]) dd ?_
 (repeat (first|simp only [↓QA,QB,Nat.reduceLT,reduceIte,Nat.reduceEqDiff,Nat.reduceAdd,Nat.reduceLeDiff,Nat.reduceMul,Nat.reduceBEq,a105]|refine rd0 rfl ?_))
 ((first|refine aE (gA _ _ _) rfl dd ?_|refine aF (gA _ _ _) rfl dd ?_);(repeat (first|simp only [↓QA,QB,Nat.reduceLT,reduceIte,Nat.reduceEqDiff,Nat.reduceAdd,Nat.reduceLeDiff,Nat.reduceMul,Nat.reduceBEq]|refine rd0 rfl ?_)))
 refine bY (S:=Nat) 0 (fun k=>k≤s.size) (fun k=>s.size-k) (fun k=>[(0,.str s),(3,.bool (inR s.size 1 16&&gT s k)),(4,.int .i64 k)]) (fun _=>[]) (Nat.zero_le _) rfl ?_ fun k hk=>?_
 ·try simp only [aC,QE,Nat.reduceLT,reduceIte,Nat.reduceEqDiff,Nat.reduceAdd,Nat.reduceLeDiff,Nat.reduceMul,Nat.reduceBEq,gT]
  try simp
 ·(repeat (first|simp only [↓QA,QB,Nat.reduceLT,reduceIte,Nat.reduceEqDiff,Nat.reduceAdd,Nat.reduceLeDiff,Nat.reduceMul,Nat.reduceBEq,TK]|refine rd0 rfl ?_))
  refine aG (fun h=>?_) fun h=>?_
  ·have hk1:k<s.size:=by simpa using h
   have hb:=CY s k
   have hw:IntKind.i64.wrap (eT s k)=eT s k:=eO ⟨by omega,by omega⟩
   have fin:∀ (later:Bool),later=(decide (0<k)&&(eT s k==46||inR (eT s k) 48 57))→(inR s.size 1 16&&gT s k&&(inR (eT s k) 97 122||later))=(inR s.size 1 16&&gT s (k+1)):=by
    rintro _ rfl
    simp only [gT,BI,Bool.and_assoc]
   have tail:∀ (later:Bool) (e:Env),later=(decide (0<k)&&(eT s k==46||inR (eT s k) 48 57))→True:=fun _ _ _=>trivial
   (repeat (first|simp only [↓QA,QB,Nat.reduceLT,reduceIte,Nat.reduceEqDiff,Nat.reduceAdd,Nat.reduceLeDiff,Nat.reduceMul,Nat.reduceBEq,hk1,hw]|refine rd0 rfl ?_))
   cases h0:decide ((0:Int)<k)
   ·have h0':decide (0<k)=false:=by simpa using h0
    (repeat (first|simp only [↓QA,QB,Nat.reduceLT,reduceIte,Nat.reduceEqDiff,Nat.reduceAdd,Nat.reduceLeDiff,Nat.reduceMul,Nat.reduceBEq,hk1,hw]|refine rd0 rfl ?_))
    cases hf:(inR s.size 1 16&&gT s k)
    ·(repeat (first|simp only [↓QA,QB,Nat.reduceLT,reduceIte,Nat.reduceEqDiff,Nat.reduceAdd,Nat.reduceLeDiff,Nat.reduceMul,Nat.reduceBEq,hk1,hw,hf]|refine rd0 rfl ?_))
     refine ⟨k+1,by omega,by omega,?_⟩
     try simp only [aC,QE,Nat.reduceLT,reduceIte,Nat.reduceEqDiff,Nat.reduceAdd,Nat.reduceLeDiff,Nat.reduceMul,Nat.reduceBEq,bV hk1 hs,←fin false (by simp [h0']),hf]
     try simp
    ·(repeat (first|simp only [↓QA,QB,Nat.reduceLT,reduceIte,Nat.reduceEqDiff,Nat.reduceAdd,Nat.reduceLeDiff,Nat.reduceMul,Nat.reduceBEq,hk1,hw,hf]|refine rd0 rfl ?_))
     ((first|refine aE (gA _ _ _) rfl dd ?_|refine aF (gA _ _ _) rfl dd ?_);(repeat (first|simp only [↓QA,QB,Nat.reduceLT,reduceIte,Nat.reduceEqDiff,Nat.reduceAdd,Nat.reduceLeDiff,Nat.reduceMul,Nat.reduceBEq]|refine rd0 rfl ?_)))
     cases h2:inR (eT s k) 97 122
     all_goals
      (repeat (first|simp only [↓QA,QB,Nat.reduceLT,reduceIte,Nat.reduceEqDiff,Nat.reduceAdd,Nat.reduceLeDiff,Nat.reduceMul,Nat.reduceBEq,hk1,hw,hf]|refine rd0 rfl ?_))
      refine ⟨k+1,by omega,by omega,?_⟩
      try simp only [aC,QE,Nat.reduceLT,reduceIte,Nat.reduceEqDiff,Nat.reduceAdd,Nat.reduceLeDiff,Nat.reduceMul,Nat.reduceBEq,bV hk1 hs,←fin false (by simp [h0']),hf,h2]
      try simp
   ·have h0':decide (0<k)=true:=by simpa using h0
    (repeat (first|simp only [↓QA,QB,Nat.reduceLT,reduceIte,Nat.reduceEqDiff,Nat.reduceAdd,Nat.reduceLeDiff,Nat.reduceMul,Nat.reduceBEq,hk1,hw]|refine rd0 rfl ?_))
    cases h1:(eT s k==46)
    ·(repeat (first|simp only [↓QA,QB,Nat.reduceLT,reduceIte,Nat.reduceEqDiff,Nat.reduceAdd,Nat.reduceLeDiff,Nat.reduceMul,Nat.reduceBEq,hk1,hw]|refine rd0 rfl ?_))
     ((first|refine aE (gA _ _ _) rfl dd ?_|refine aF (gA _ _ _) rfl dd ?_);(repeat (first|simp only [↓QA,QB,Nat.reduceLT,reduceIte,Nat.reduceEqDiff,Nat.reduceAdd,Nat.reduceLeDiff,Nat.reduceMul,Nat.reduceBEq]|refine rd0 rfl ?_)))
     cases hf:(inR s.size 1 16&&gT s k)
     ·(repeat (first|simp only [↓QA,QB,Nat.reduceLT,reduceIte,Nat.reduceEqDiff,Nat.reduceAdd,Nat.reduceLeDiff,Nat.reduceMul,Nat.reduceBEq,hk1,hw,hf]|refine rd0 rfl ?_))
      refine ⟨k+1,by omega,by omega,?_⟩
      try simp only [aC,QE,Nat.reduceLT,reduceIte,Nat.reduceEqDiff,Nat.reduceAdd,Nat.reduceLeDiff,Nat.reduceMul,Nat.reduceBEq,bV hk1 hs,←fin _ rfl,hf]
      try simp
     ·(repeat (first|simp only [↓QA,QB,Nat.reduceLT,reduceIte,Nat.reduceEqDiff,Nat.reduceAdd,Nat.reduceLeDiff,Nat.reduceMul,Nat.reduceBEq,hk1,hw,hf]|refine rd0 rfl ?_))
      ((first|refine aE (gA _ _ _) rfl dd ?_|refine aF (gA _ _ _) rfl dd ?_);(repeat (first|simp only [↓QA,QB,Nat.reduceLT,reduceIte,Nat.reduceEqDiff,Nat.reduceAdd,Nat.reduceLeDiff,Nat.reduceMul,Nat.reduceBEq]|refine rd0 rfl ?_)))
      cases h2:inR (eT s k) 97 122
      all_goals
       (repeat (first|simp only [↓QA,QB,Nat.reduceLT,reduceIte,Nat.reduceEqDiff,Nat.reduceAdd,Nat.reduceLeDiff,Nat.reduceMul,Nat.reduceBEq,hk1,hw,hf]|refine rd0 rfl ?_))
       refine ⟨k+1,by omega,by omega,?_⟩
       try simp only [aC,QE,Nat.reduceLT,reduceIte,Nat.reduceEqDiff,Nat.reduceAdd,Nat.reduceLeDiff,Nat.reduceMul,Nat.reduceBEq,bV hk1 hs,←fin _ rfl,hf,h2,h0',h1]
       try simp
    ·(repeat (first|simp only [↓QA,QB,Nat.reduceLT,reduceIte,Nat.reduceEqDiff,Nat.reduceAdd,Nat.reduceLeDiff,Nat.reduceMul,Nat.reduceBEq,hk1,hw]|refine rd0 rfl ?_))
     cases hf:(inR s.size 1 16&&gT s k)
     ·(repeat (first|simp only [↓QA,QB,Nat.reduceLT,reduceIte,Nat.reduceEqDiff,Nat.reduceAdd,Nat.reduceLeDiff,Nat.reduceMul,Nat.reduceBEq,hk1,hw,hf]|refine rd0 rfl ?_))
      refine ⟨k+1,by omega,by omega,?_⟩
      try simp only [aC,QE,Nat.reduceLT,reduceIte,Nat.reduceEqDiff,Nat.reduceAdd,Nat.reduceLeDiff,Nat.reduceMul,Nat.reduceBEq,bV hk1 hs,←fin _ rfl,hf]
      try simp
     ·(repeat (first|simp only [↓QA,QB,Nat.reduceLT,reduceIte,Nat.reduceEqDiff,Nat.reduceAdd,Nat.reduceLeDiff,Nat.reduceMul,Nat.reduceBEq,hk1,hw,hf]|refine rd0 rfl ?_))
      ((first|refine aE (gA _ _ _) rfl dd ?_|refine aF (gA _ _ _) rfl dd ?_);(repeat (first|simp only [↓QA,QB,Nat.reduceLT,reduceIte,Nat.reduceEqDiff,Nat.reduceAdd,Nat.reduceLeDiff,Nat.reduceMul,Nat.reduceBEq]|refine rd0 rfl ?_)))
      cases h2:inR (eT s k) 97 122
      all_goals
       (repeat (first|simp only [↓QA,QB,Nat.reduceLT,reduceIte,Nat.reduceEqDiff,Nat.reduceAdd,Nat.reduceLeDiff,Nat.reduceMul,Nat.reduceBEq,hk1,hw,hf]|refine rd0 rfl ?_))
       refine ⟨k+1,by omega,by omega,?_⟩
       try simp only [aC,QE,Nat.reduceLT,reduceIte,Nat.reduceEqDiff,Nat.reduceAdd,Nat.reduceLeDiff,Nat.reduceMul,Nat.reduceBEq,bV hk1 hs,←fin _ rfl,hf,h2,h0',h1]
       try simp
  ·have hk1:k=s.size:=by simp at h;omega
   (repeat (first|simp only [↓QA,QB,Nat.reduceLT,reduceIte,Nat.reduceEqDiff,Nat.reduceAdd,Nat.reduceLeDiff,Nat.reduceMul,Nat.reduceBEq]|refine rd0 rfl ?_))
   simp [oY,hk1]
def fresh (s:ByteArray) (before:List ByteArray):Int:=if oY s=false then 6 else if j4 s before=before.length then 0 else 5
theorem R7 (s:ByteArray) (l:List ByteArray) (hs:s.size<9223372036854775808) (hl:l.length<9223372036854775808):dY T 75 [.str s,KM l] (.int .i64 (fresh s l)):=by
 refine bA (af:=a75) rfl (by simp [a75]) dd ?_
 (repeat (first|simp only [↓QA,QB,Nat.reduceLT,reduceIte,Nat.reduceEqDiff,Nat.reduceAdd,Nat.reduceLeDiff,Nat.reduceMul,Nat.reduceBEq,a75]|refine rd0 rfl ?_))
 ((first|refine aE (GH l s hl) rfl dd ?_|refine aF (GH l s hl) rfl dd ?_);(repeat (first|simp only [↓QA,QB,Nat.reduceLT,reduceIte,Nat.reduceEqDiff,Nat.reduceAdd,Nat.reduceLeDiff,Nat.reduceMul,Nat.reduceBEq]|refine rd0 rfl ?_)))
 refine aG (fun h=>?_) fun h=>?_
 ·have hin:j4 s l≠l.length:=by
   intro e
   simp [AW,e] at h
  (repeat (first|simp only [↓QA,QB,Nat.reduceLT,reduceIte,Nat.reduceEqDiff,Nat.reduceAdd,Nat.reduceLeDiff,Nat.reduceMul,Nat.reduceBEq]|refine rd0 rfl ?_))
  ((first|refine aE (zE s hs) rfl dd ?_|refine aF (zE s hs) rfl dd ?_);(repeat (first|simp only [↓QA,QB,Nat.reduceLT,reduceIte,Nat.reduceEqDiff,Nat.reduceAdd,Nat.reduceLeDiff,Nat.reduceMul,Nat.reduceBEq]|refine rd0 rfl ?_)))
  cases hn:oY s
  all_goals
   (repeat (first|simp only [↓QA,QB,Nat.reduceLT,reduceIte,Nat.reduceEqDiff,Nat.reduceAdd,Nat.reduceLeDiff,Nat.reduceMul,Nat.reduceBEq]|refine rd0 rfl ?_))
   simp [fresh,hn,hin]
 ·have hin:j4 s l=l.length:=by
   simp only [AW] at h
   split at h
   ·assumption
   ·simp at h
  (repeat (first|simp only [↓QA,QB,Nat.reduceLT,reduceIte,Nat.reduceEqDiff,Nat.reduceAdd,Nat.reduceLeDiff,Nat.reduceMul,Nat.reduceBEq]|refine rd0 rfl ?_))
  ((first|refine aE (zE s hs) rfl dd ?_|refine aF (zE s hs) rfl dd ?_);(repeat (first|simp only [↓QA,QB,Nat.reduceLT,reduceIte,Nat.reduceEqDiff,Nat.reduceAdd,Nat.reduceLeDiff,Nat.reduceMul,Nat.reduceBEq]|refine rd0 rfl ?_)))
  cases hn:oY s
  all_goals
   (repeat (first|simp only [↓QA,QB,Nat.reduceLT,reduceIte,Nat.reduceEqDiff,Nat.reduceAdd,Nat.reduceLeDiff,Nat.reduceMul,Nat.reduceBEq]|refine rd0 rfl ?_))
   simp [fresh,hn,hin]
def aT (a:Int):Nat→List Int
 |0=>[]
 |n+1=>a::aT (a+1) n
theorem kE:∀ n a,(aT a n).length=n
 |0,_=>rfl
 |n+1,a=>by simp [aT,kE n]
theorem cF:∀ n a x,x∈aT a n↔a≤x∧x<a+n
 |0,a,x=>by simp [aT]
 |n+1,a,x=>by simp [aT,cF n];omega
def A1 (i:Nat) (c:List Int):Int:=if 0<i then (c[i-1]?).getD 0+1 else 0
def K0 (below i:Nat) (c:List Int):List (List Int):=(aT (A1 i c) ((below:Int)-A1 i c).toNat).map fun n=>c++[n]
def eC (below:Nat):Nat→List (List Int)
 |0=>[[]]
 |i+1=>(eC below i).flatMap (K0 below i)
theorem mU (below:Nat):∀ i c,c∈eC below i→c.length=i∧∀ x∈c,0≤x∧x<below
 |0,c,h=>by simp [eC] at h;subst h;simp
 |i+1,c,h=>by
  simp only [eC,List.mem_flatMap] at h
  obtain ⟨d,h1,h2⟩:=h
  obtain ⟨q1,q2⟩:=mU below i d h1
  simp only [K0,List.mem_map,cF] at h2
  obtain ⟨n,h3,rfl⟩:=h2
  refine ⟨by simp [q1],fun x hx=>?_⟩
  rcases List.mem_append.1 hx with hx|hx
  ·exact q2 x hx
  ·simp at hx
   subst hx
   have:0≤A1 i d:=by
    unfold A1
    split
    ·rename_i hi
     have hlt:i-1<d.length:=by omega
     have:=q2 d[i-1] (List.getElem_mem hlt)
     simp [hlt]
     omega
    ·omega
   omega
theorem zB {α β:Type} (f:α→List β) (b:Nat):∀ l:List α,(∀ x∈l,(f x).length≤b)→(l.flatMap f).length≤l.length*b
 |[],_=>by simp
 |x::l,h=>by
  have h1:=h x (by simp)
  have h2:=zB f b l fun y hy=>h y (List.mem_cons_of_mem _ hy)
  simp only [List.flatMap_cons,List.length_append,List.length_cons,Nat.add_mul]
  omega
theorem iM (l:List (List Int)):aL 1 (l.map ints)=true:=oT 1 ints l fun x=>LE _ _ _
theorem iE (l:List Int):aL 1 (l.map (.int .i64))=true:=oT 1 _ l fun x=>PK _ _
theorem m5 {a:Int} {below:Nat} (h:a<below):aT a ((below:Int)-a).toNat=a::aT (a+1) ((below:Int)-(a+1)).toNat:=by
 rw [show ((below:Int)-a).toNat=((below:Int)-(a+1)).toNat+1 by omega];rfl
theorem mW {a:Int} {below:Nat} (h:¬a<below):aT a ((below:Int)-a).toNat=[]:=by
 rw [show ((below:Int)-a).toNat=0 by omega];rfl
theorem p9:∀ {a b c:List Int},less a b=true→less b c=true→less a c=true
 |a,b,[],h1,h2=>by cases b<;>simp [less] at h2
 |a,[],c::cs,h1,h2=>by cases a<;>simp [less] at h1
 |[],b::bs,c::cs,h1,h2=>by simp [less]
 |a::az,b::bs,c::cs,h1,h2=>by
  simp only [less] at *
  by_cases hab:a=b
  ·subst hab
   by_cases hac:a=c
   ·subst hac
    simp only [if_true] at *
    exact p9 h1 h2
   ·simp only [hac,if_false,if_true] at *
    exact h2
  ·by_cases hbc:b=c
   ·subst hbc
    simp only [hab,if_false,if_true,decide_eq_true_eq] at *
    exact h1
   ·simp only [hab,hbc,if_false,decide_eq_true_eq] at *
    rw [if_neg (by omega)]
    simp;omega
theorem wT (a:List Int):gC a a=false:=by simp [gC,kW]
theorem yO {a b c:List Int} (h1:gC a b=true) (h2:gC b c=true):gC a c=true:=by
 simp only [gC] at *
 by_cases e1:a.length=b.length<;>by_cases e2:b.length=c.length
 ·simp only [e1,e2,if_true] at *;exact p9 h1 h2
 ·simp only [e1,e2,if_true,if_false,decide_eq_true_eq] at *;exact h2
 ·rw [if_neg e1] at h1;rw [if_neg (by omega)];simp at h1 ⊢;omega
 ·simp only [e1,e2,if_false,decide_eq_true_eq] at *
  rw [if_neg (by omega)];simp;omega
theorem DD {a b:List Int} (h1:gC a b=false) (h2:gC b a=false):a=b:=by
 simp only [gC] at *
 by_cases e1:a.length=b.length
 ·simp only [e1,if_true] at *
  exact BG a b h1 h2
 ·rw [if_neg e1] at h1;rw [if_neg (Ne.symm e1)] at h2
  simp at h1 h2;omega
theorem E6 {a b c:List Int} (h1:gC b a=false) (h2:gC c b=false):gC c a=false:=by
 rw [Bool.eq_false_iff]
 intro h
 by_cases hab:gC a b=true
 ·rw [yO h hab] at h2;cases h2
 ·have:=DD (by simpa using hab) h1
  subst this
  rw [h] at h2;cases h2
def lst (n s:Nat):List Int:=(aT 0 n).filter fun i=>decide (s/2^i.toNat%2=1)
theorem aBK:∀ n:Fin 7,∀ s:Fin 64,s.val<2^n.val→lst n s∈eC n (lst n s).length:=by decide +kernel
theorem S6:∀ n m:Fin 7,∀ c∈eC n m,∃ s:Fin 64,s.val<2^n.val∧lst n s=c:=by decide +kernel
theorem B2:∀ n m:Fin 7,(eC n m).Pairwise fun a b=>less a b=true:=by decide +kernel
theorem G4:∀ n:Fin 7,(eC n n).length=1:=by decide +kernel
theorem LU (n s:Nat):(lst n s).length≤n:=by
 have:=List.length_filter_le (fun i:Int=>decide (s/2^i.toNat%2=1)) (aT 0 n)
 rw [kE] at this
 exact this
def eG (f:List Int→Bool) (n:Nat):Nat→Nat→Option (List Int)
 |0,_=>none
 |k+1,m=>match (eC n m).find? f with
  |some l=>some l
  |none=>eG f n k (m+1)
theorem E1:∀ n:Fin 7,∀ c∈eC n n,∀ j:Fin 7,j.val<n.val→c.contains ((j.val:Nat):Int)=true:=by decide +kernel
def jD (f:List Int→Bool) (o:Option (List Int)) (l:List Int):Option (List Int):=match o with
 |none=>if f l=true then some l else none
 |some b=>if gC b l=true then some b else if f l=true then some l else some b
def m4 (f:List Int→Bool) (n:Nat):Nat→Nat→Option (List Int)→Option (List Int)
 |0,_,o=>o
 |k+1,s,o=>m4 f n k (s+1) (jD f o (lst n s))
theorem v3 (f:List Int→Bool) (n:Nat):∀ k s o,(∀ w,o=some w→f w=true∧∃ t,t<s∧w=lst n t∧∀ t',t'<s→f (lst n t')=true→gC (lst n t') w=false)→(o=none→∀ t,t<s→f (lst n t)=false) →
  (∀ w,m4 f n k s o=some w→f w=true∧∃ t,t<s+k∧w=lst n t∧∀ t',t'<s+k→f (lst n t')=true→gC (lst n t') w=false)∧(m4 f n k s o=none→∀ t,t<s+k→f (lst n t)=false)
 |0,s,o,h1,h2=>⟨h1,h2⟩
 |k+1,s,o,h1,h2=>by
  have ih:=v3 f n k (s+1) (jD f o (lst n s))
  rw [show s+1+k=s+(k+1) by omega] at ih
  simp only [m4]
  have last:∀ (w:List Int) t',t'<s+1→(∀ t'',t''<s→f (lst n t'')=true→gC (lst n t'') w=false)→(f (lst n s)=true→gC (lst n s) w=false)→f (lst n t')=true→gC (lst n t') w=false:=by
   intro w t' ht h3 h4 hs
   by_cases he:t'=s
   ·subst he;exact h4 hs
   ·exact h3 t' (by omega) hs
  refine ih (fun w hw=>?_) fun hn t ht=>?_
  ·cases o with
   |none =>
    simp only [jD] at hw
    split at hw
    ·rename_i hs
     simp only [Option.some.injEq] at hw
     subst hw
     refine ⟨hs,s,by omega,rfl,fun t' ht hst=>last _ t' ht (fun t'' h4 h5=>by rw [h2 rfl t'' h4] at h5;cases h5) (fun _=>wT _) hst⟩
    ·cases hw
   |some b =>
    obtain ⟨q1,t,q2,q3,q4⟩:=h1 b rfl
    simp only [jD] at hw
    split at hw
    ·rename_i hf
     simp only [Option.some.injEq] at hw
     subst hw
     refine ⟨q1,t,by omega,q3,fun t' ht hst=>last _ t' ht q4 (fun _=>?_) hst⟩
     rw [Bool.eq_false_iff]
     intro h5
     have:=yO hf h5
     rw [wT] at this;cases this
    ·rename_i hf
     split at hw
     ·rename_i hs
      simp only [Option.some.injEq] at hw
      subst hw
      refine ⟨hs,s,by omega,rfl,fun t' ht hst=>last _ t' ht (fun t'' h4 h5=>?_) (fun _=>wT _) hst⟩
      exact E6 (by simpa using hf) (q4 t'' h4 h5)
     ·rename_i hs
      simp only [Option.some.injEq] at hw
      subst hw
      exact ⟨q1,t,by omega,q3,fun t' ht hst=>last _ t' ht q4 (fun h5=>absurd h5 hs) hst⟩
  ·cases o with
   |none =>
    simp only [jD] at hn
    split at hn
    ·cases hn
    ·rename_i hs
     by_cases he:t=s
     ·subst he;simpa using hs
     ·exact h2 rfl t (by omega)
   |some b =>
    simp only [jD] at hn
    split at hn
    ·cases hn
    ·split at hn<;>cases hn
theorem uX:∀ {n i:Nat} {c:List Int},c∈eC n i→i≤n:=by
 intro n i
 cases i with
 |zero=>intros;omega
 |succ i =>
  intro c hc
  simp only [eC,List.mem_flatMap,K0,List.mem_map,cF] at hc
  obtain ⟨d,hd,x,hx,rfl⟩:=hc
  have key:∀ j (d:List Int),d∈eC n j→(j:Int)≤A1 j d:=by
   intro j
   induction j with
   |zero=>intro d _;simp [A1]
   |succ j ih =>
    intro d hd
    simp only [eC,List.mem_flatMap,K0,List.mem_map,cF] at hd
    obtain ⟨d',hd',y,hy,rfl⟩:=hd
    have h5:=ih d' hd'
    have h6:=(mU n j d' hd').1
    simp only [A1,Nat.succ_pos,if_true,Nat.add_sub_cancel]
    rw [List.getElem?_append_right (by omega),h6,Nat.sub_self]
    simp only [List.getElem?_cons_zero,Option.getD_some]
    omega
  have:=key i d hd
  omega
theorem sF (f:List Int→Bool) (n:Nat) (hN:n≤6):∀ k m,(∀ m',m'<m→∀ c∈eC n m',f c=false) →
  (∀ l,eG f n k m=some l→l∈eC n l.length∧f l=true∧∀ m',∀ c∈eC n m',f c=true→gC c l=false)∧(eG f n k m=none→∀ m',m'<m+k→∀ c∈eC n m',f c=false)
 |0,m,hlow=>⟨fun l h=>by simp [eG] at h,fun _ m' h c hc=>hlow m' (by omega) c hc⟩
 |k+1,m,hlow=>by
  simp only [eG]
  cases hf:(eC n m).find? f with
  |none =>
   simp only
   have ih:=sF f n hN k (m+1) fun m' hm' c hc=>by
    by_cases he:m'=m
    ·subst he
     rw [List.find?_eq_none] at hf
     simpa using hf c hc
    ·exact hlow m' (by omega) c hc
   exact ⟨ih.1,fun h m' hm'=>ih.2 h m' (by omega)⟩
  |some l =>
   simp only
   refine ⟨fun l' h=>?_,fun h=>by cases h⟩
   cases h
   have hmem:=List.mem_of_find?_eq_some hf
   have hs:=List.find?_some hf
   have hlen:=(mU _ _ _ hmem).1
   rw [hlen]
   refine ⟨hmem,hs,fun m' c hc hsc=>?_⟩
   have hcl:=(mU _ _ _ hc).1
   by_cases h1:m'<m
   ·rw [hlow m' h1 c hc] at hsc;cases hsc
   ·by_cases he:m'=m
    ·subst he
     rw [Bool.eq_false_iff]
     intro hlt
     simp only [gC,hcl,hlen,if_true] at hlt
     obtain ⟨pre,post,e1,e2⟩:=(List.find?_eq_some_iff_append.1 hf).2
     have hmn:=uX hmem
     have hpw:=B2 ⟨n,by omega⟩ ⟨m',by omega⟩
     simp only at hpw
     rw [e1] at hc hpw
     rcases List.mem_append.1 hc with hc|hc
     ·have:=e2 c hc
      rw [hsc] at this;cases this
     ·rcases List.mem_cons.1 hc with rfl|hc
      ·rw [kW] at hlt;cases hlt
      ·have:=(List.pairwise_append.1 hpw).2.1
       have:=(List.pairwise_cons.1 this).1 c hc
       have h3:=p9 hlt this
       rw [kW] at h3;cases h3
    ·simp only [gC];rw [if_neg (by omega)];simp;omega
theorem aCE (f:List Int→Bool) (n:Nat) (hN:n≤6):m4 f n (2^n) 0 none=eG f n (n+1) 0:=by
 have hp:2^n≤2^6:=Nat.pow_le_pow_right (by omega) hN
 obtain ⟨w1,w2⟩:=sF f n hN (n+1) 0 (fun m' h=>by omega)
 obtain ⟨s1,s2⟩:=v3 f n (2^n) 0 none (fun w h=>by cases h) (fun _ t h=>by omega)
 rw [Nat.zero_add] at s1 s2
 cases hf:m4 f n (2^n) 0 none with
 |none =>
  cases hg:eG f n (n+1) 0 with
  |none=>rfl
  |some l =>
   obtain ⟨a,b,c⟩:=w1 l hg
   have hle:=uX a
   obtain ⟨t,ht,hlt⟩:=S6 ⟨n,by omega⟩ ⟨l.length,by omega⟩ l a
   have:=s2 hf t.val ht
   rw [show lst n t.val=l from hlt,b] at this;cases this
 |some w =>
  obtain ⟨q1,t',q2,q3,q4⟩:=s1 w hf
  have hin:=aBK ⟨n,by omega⟩ ⟨t',by omega⟩ q2
  simp only at hin
  rw [←q3] at hin
  have hle:w.length≤n:=by rw [q3];exact LU _ _
  cases hg:eG f n (n+1) 0 with
  |none =>
   have:=w2 hg w.length (by omega) w hin
   rw [q1] at this;cases this
  |some l =>
   obtain ⟨a,b,c⟩:=w1 l hg
   have hll:=uX a
   obtain ⟨t,ht,hlt⟩:=S6 ⟨n,by omega⟩ ⟨l.length,by omega⟩ l a
   have a1:=q4 t.val ht (by rw [show lst n t.val=l from hlt];exact b)
   rw [show lst n t.val=l from hlt] at a1
   have a2:=c w.length w hin q1
   rw [DD a1 a2]
open Go
variable {P:Program}
def nW (P:Program) (t:TypeId) (ts:List TypeId):Prop:=∃ fs,P.underlying t=some (.struct fs)∧fs.toList.map Field.type=ts
theorem BU {n:Nat} {t:TypeId} {ts:List TypeId} {cs:List AV} (hu:nW P t ts) (h:Typ P (n+1) t cs):mkV P t cs = .agg cs∧KT P n ts cs:=by
 obtain ⟨fs,h1,h2⟩:=hu
 have:=I5 h1 h
 rw [h2] at this
 exact ⟨I7 h1,this⟩
theorem EY {t:TypeId} {a:AV} {d:TypeDesc} (hu:P.underlying t=some d) (hd:∀ fs,d≠.struct fs:=by intro fs h;cases h) (hd2:∀ k e,d≠.array k e:=by intro k e h;cases h):mkV P t [a]=a:=WW (by rw [hu];intro fs e;cases e;exact hd _ rfl) (by rw [hu];intro k e h;cases h;exact hd2 _ _ rfl)
theorem UE {n:Nat} {i t:TypeId} {cs:List AV} (hi:P.underlying i=some (.int .i64)) (hs:nW P t [i,i]) (h:Typ P (n+2) t cs):∃ s:Span,cs=[.int .i64 s.lo,.int .i64 s.hi]:=by
 obtain ⟨_,a,b,rfl,h1,c,d,rfl,h2,rfl⟩:=BU hs h
 obtain ⟨x,rfl,_⟩:=jE hi h1
 obtain ⟨y,rfl,_⟩:=jE hi h2
 exact ⟨⟨x,y⟩,rfl⟩
theorem aAA {n:Nat} {t:TypeId} {cs:List AV} (hi:P.underlying t=some (.int .i64)) (h:Typ P (n+1) t cs):∃ x:Int,mkV P t cs = .int .i64 x∧True:=by
 obtain ⟨x,rfl,_⟩:=jE hi h
 exact ⟨x,EY hi,trivial⟩
theorem aD4 {n:Nat} {t:TypeId} {cs:List AV} (hi:P.underlying t=some (.int .u8)) (h:Typ P (n+1) t cs):∃ x:Int,mkV P t cs = .int .u8 x∧(0≤x∧x<256):=by
 obtain ⟨x,rfl,hw⟩:=jE hi h
 exact ⟨x,EY hi,aGH hw⟩
theorem W3 {n:Nat} {t i:TypeId} {cs:List AV} (hi:P.underlying i=some (.int .i64)) (hs:P.underlying t=some (.slice i)) (h:Typ P (n+2) t cs):∃ l:List Int,mkV P t cs=Go.Am.ints l∧cs=[Go.Am.ints l]∧l.length<9223372036854775808:=by
 obtain ⟨l,rfl,⟨h1,_⟩,_⟩:=pB (f:=fun x:Int=>AV.int .i64 x) hs h fun y hy=>aAA hi hy
 exact ⟨l,EY hs,rfl,h1⟩
theorem Z3 {n:Nat} {t i:TypeId} {cs:List AV} (hi:P.underlying i=some (.int .u8)) (hs:P.underlying t=some (.slice i)) (h:Typ P (n+2) t cs):∃ l:List Int,mkV P t cs = .lit (l.map (.int .u8)) false none∧(∀ x∈l,0≤x∧x<256)∧l.length<9223372036854775808:=by
 obtain ⟨l,rfl,⟨h1,_⟩,h2⟩:=pB (f:=fun x:Int=>AV.int .u8 x) hs h fun y hy=>aD4 hi hy
 exact ⟨l,EY hs,h2,h1⟩
end Go.Am.Room
namespace Go.Am.Room
def bN {α:Type} (f:Nat→α→Int):List α→Nat→Option (Nat×Int)
 |[],_=>none
 |x::xs,i=>if f i x=0 then bN f xs (i+1) else some (i,f i x)
theorem iN {α:Type} {f:Nat→α→Int} {l:List α} {k:Nat} (h:k<l.length):bN f (l.drop k) k=if f k l[k]=0 then bN f (l.drop (k+1)) (k+1) else some (k,f k l[k]):=by
 rw [List.drop_eq_getElem_cons h];rfl
theorem jB {α:Type} {f:Nat→α→Int} {l:List α} {k:Nat} (h:k=l.length):bN f (l.drop k) k=none:=by
 rw [h,List.drop_length];rfl
def gI:List Int→Span
 |[]=>⟨0,0⟩
 |x::xs=>xs.foldl lI ⟨x,x⟩
def fC (yes all:Nat):Int:=if yes=all then 1 else if yes=0 then 2 else 0
theorem eK {n lo hi:Int}:inR n lo hi=true↔lo≤n∧n≤hi:=by simp [inR]
theorem C6 {s:Span} {lo hi:Int} (h:n9 s lo hi=0):lo≤s.lo∧s.lo≤s.hi∧s.hi≤hi:=by
 unfold n9 at h
 split at h
 ·omega
 ·rename_i h1
  split at h
  ·omega
  ·simp [inR] at h1;omega
theorem V2 {s:Span} {lo hi:Int} (h:lo≤s.lo∧s.lo≤s.hi∧s.hi≤hi):n9 s lo hi=0:=by
 unfold n9
 rw [eK.2 ⟨h.1,by omega⟩,eK.2 ⟨by omega,h.2.2⟩]
 simp
 omega
theorem kO {α:Type} {f:Nat→α→Int}:∀ {l:List α} {i:Nat},bN f l i=none→∀ k (h:k<l.length),f (i+k) l[k]=0
 |[],_,_,k,h=>by simp at h
 |x::xs,i,h,k,hk=>by
  simp only [bN] at h
  split at h
  ·rename_i h0
   cases k with
   |zero=>exact h0
   |succ k =>
    have:=kO h k (by simpa using hk)
    simpa [Nat.add_assoc,Nat.add_comm 1 k] using this
  ·cases h
theorem i6 {α:Type} {f:Nat→α→Int}:∀ {l:List α} {i j:Nat} {e:Int},bN f l i=some (j,e)→e≠0
 |[],_,_,_,h=>by cases h
 |x::xs,i,j,e,h=>by
  simp only [bN] at h
  split at h
  ·exact i6 h
  ·rename_i hn
   simp at h
   rw [←h.2]
   exact hn
theorem vZ:∀ (n:Nat) (a:Int),aT a (n+1)=aT a n++[a+n]
 |0,a=>by simp [aT]
 |n+1,a=>by
  rw [aT,vZ n (a+1)]
  simp only [aT,List.cons_append]
  congr 3
  omega
structure Rail where
 a:Int
 b:Int
 mins:Span
 shut:Int
structure Tram where
 name:ByteArray
 frm:Int
 leaves:Int
 due:Int
 path:List Int
structure Seen where
 tram:Int
 minute:Int
structure Net where
 stations:Int
 rails:List Rail
 trams:List Tram
 seen:List Seen
def d5 (r:Rail):AV:=.agg [.int .i64 r.a,.int .i64 r.b,.int .i64 r.mins.lo,.int .i64 r.mins.hi,.int .i64 r.shut]
theorem aX (r:Rail):d5 r = .agg [.int .i64 r.a,.int .i64 r.b,.int .i64 r.mins.lo,.int .i64 r.mins.hi,.int .i64 r.shut]:=by simp only [d5]
theorem tT (r:Rail):kV (d5 r):=i7 (bE (cR _ _) (bE (cR _ _) (bE (cR _ _) (bE (cR _ _) (bE (cR _ _) dD)))))
instance (r:Rail):Dat (d5 r):=⟨tT r⟩
instance (l:List Rail):Dats (l.map d5):=⟨cL tT l⟩
theorem bC (σ:St) (m d:Nat) (l:List Rail):cT σ m d (l.map d5)=some (l.map d5):=jC (cL tT l) σ m d
def cV (t:Tram):AV:=.agg [.str t.name,.int .i64 t.frm,.int .i64 t.leaves,.int .i64 t.due,ints t.path]
theorem aW (t:Tram):cV t = .agg [.str t.name,.int .i64 t.frm,.int .i64 t.leaves,.int .i64 t.due,ints t.path]:=by simp only [cV]
theorem tF (t:Tram):kV (cV t):=i7 (bE (vK _) (bE (cR _ _) (bE (cR _ _) (bE (cR _ _) (bE (kC _) dD)))))
instance (t:Tram):Dat (cV t):=⟨tF t⟩
instance (l:List Tram):Dats (l.map cV):=⟨cL tF l⟩
theorem a9 (σ:St) (m d:Nat) (l:List Tram):cT σ m d (l.map cV)=some (l.map cV):=jC (cL tF l) σ m d
def eL (x:Seen):AV:=.agg [.int .i64 x.tram,.int .i64 x.minute]
theorem aV (x:Seen):eL x = .agg [.int .i64 x.tram,.int .i64 x.minute]:=by simp only [eL]
theorem tE (x:Seen):kV (eL x):=i7 (bE (cR _ _) (bE (cR _ _) dD))
instance (x:Seen):Dat (eL x):=⟨tE x⟩
instance (l:List Seen):Dats (l.map eL):=⟨cL tE l⟩
theorem aZ (σ:St) (m d:Nat) (l:List Seen):cT σ m d (l.map eL)=some (l.map eL):=jC (cL tE l) σ m d
def aB (v:Net):List AV:=[.int .i64 v.stations,.lit (v.rails.map d5) false none,.lit (v.trams.map cV) false none,.lit (v.seen.map eL) false none]
theorem aI (v:Net):aB v=[.int .i64 v.stations,.lit (v.rails.map d5) false none,.lit (v.trams.map cV) false none,.lit (v.seen.map eL) false none]:=by simp only [aB]
def bX (v:Net):AV:=.agg (aB v)
theorem bD (v:Net):bX v = .agg (aB v):=by simp only [bX]
theorem sA (v:Net):kV (bX v):=i7 (bE (cR _ _) (bE (iL tT _) (bE (iL tF _) (bE (iL tE _) dD))))
instance (v:Net):Dat (bX v):=⟨sA v⟩
structure Fits (v:Net):Prop where
 rails:v.rails.length<9223372036854775808
 trams:v.trams.length<9223372036854775808
 seen:v.seen.length<9223372036854775808
 names:∀ t∈v.trams,t.name.size<9223372036854775808
 paths:∀ t∈v.trams,t.path.length<9223372036854775808
def mD (v:Net) (s:Int):Bool:=inR s 0 (v.stations-1)
def cW (v:Net) (r:Rail):Int :=
 if mD v r.a=false∨mD v r.b=false then 4 else if r.a=r.b then 2
 else if n9 r.mins 1 20=7∨inR r.shut 0 2=false then 7 else if n9 r.mins 1 20≠0∨r.mins.lo+1<r.mins.hi then 2 else 0
def cY (r:Rail) (s:Int):Int:=if s=r.a then r.b else if s=r.b then r.a else -1
def c9 (v:Net) (r:Int):Rail:=(v.rails[r.toNat]?).getD ⟨0,0,⟨0,0⟩,0⟩
def jY (v:Net):List Int→Int→List Int→Bool
 |[],s,_=>s==0
 |r::l,s,met =>
  if cY (c9 v r) s<0∨met.contains (cY (c9 v r) s)=true∨(cY (c9 v r) s=0∧l≠[]) then false
  else jY v l (cY (c9 v r) s) (met++[cY (c9 v r) s])
def d4 (v:Net) (s:Int) (path:List Int):Bool:=if inR path.length 1 4=false∨s=0 then false else jY v path s [s]
def f9 (v:Net) (t:Tram):Int :=
 if mD v t.frm=false then 4 else if inR t.leaves 0 60=false∨inR t.due 0 400=false then 7
 else if inR t.path.length 1 4=false then 3 else if t.path.all (fun r=>inR r 0 ((v.rails.length:Int)-1))=false then 4
 else if d4 v t.frm t.path=false then 2 else 0
def jF (v:Net) (i:Nat) (t:Tram):Int:=if fresh t.name ((v.trams.take i).map Tram.name)=0 then f9 v t else fresh t.name ((v.trams.take i).map Tram.name)
def jV (v:Net) (_:Nat) (x:Seen):Int:=if inR x.tram 0 ((v.trams.length:Int)-1)=false then 4 else if inR x.minute (-1) 400=false then 7 else 0
def oX (v:Net):Int×Int×Int:=if 3<v.seen.length then (4,0,3) else match bN (jV v) v.seen 0 with|some (i,e)=>(4,i,e)|none=>(0,0,0)
def oS (v:Net):Int×Int×Int:=if 3<v.trams.length then (3,0,3) else match bN (jF v) v.trams 0 with|some (i,e)=>(3,i,e)|none=>oX v
def oQ (v:Net):Int×Int×Int:=if 5<v.rails.length then (2,0,3) else match bN (fun _ r=>cW v r) v.rails 0 with|some (i,e)=>(2,i,e)|none=>oS v
def dL (v:Net):Int×Int×Int:=if inR v.stations 2 5=false then (1,0,7) else oQ v
def pY (v:Net) (but l:List Int) (r:Int):Bool:=!decide ((c9 v r).shut=1)&&!but.contains r&&!l.contains r
def n8 (v:Net) (but l:List Int):List (List Int):=((aT 0 v.rails.length).filter (pY v but l)).map fun r=>l++[r]
def eD (v:Net) (but:List Int):Nat→List (List Int)
 |0=>[[]]
 |k+1=>(eD v but k).flatMap (n8 v but)
def dS (v:Net) (s:Int) (but:List Int):Nat→List (List Int)
 |0=>[]
 |k+1=>dS v s but k++(eD v but (k+1)).filter (d4 v s)
def cJ (v:Net) (s:Int) (but:List Int):List (List Int):=dS v s but 4
def oG (v:Net) (s:Int):List (List Int)×Int:=if (dL v).2.2=0 then (if mD v s=true then (cJ v s [],0) else ([],4)) else ([],(dL v).2.2)
structure State where
 closed:List Bool
 mins:List Int
def zV (s:Span):List Int:=aT s.lo (s.hi+1-s.lo).toNat
def tW (shut:Int) (c:Bool):Bool:=!(c&&decide (shut=0)||!c&&decide (shut=1))
def yW (r:Rail) (s:State):List State:=(zV r.mins).flatMap fun m=>([false,true].filter (tW r.shut)).map fun c=>⟨s.closed++[c],s.mins++[m]⟩
def mY (rs:List Rail):Nat→List State
 |0=>[⟨[],[]⟩]
 |k+1=>match rs[k]? with|some r=>(mY rs k).flatMap (yW r)|none=>mY rs k
def gV (v:Net):List State:=mY v.rails v.rails.length
def eff (s:State) (r:Int):Int:=if (s.closed[r.toNat]?).getD false=true then 0 else (s.mins[r.toNat]?).getD 0
structure Stay where
 tram:Int
 rail:Int
 frm:Int
 til:Int
def iB (rail ready m:Int) (x:Stay):Bool:=decide (x.rail=rail)&&decide (x.frm<ready+m)&&decide (ready<x.til)
def uO (ss:List Stay) (rail m:Int):Nat→Int→Int
 |0,s=>s
 |k+1,s=>if ss.any (iB rail s m)=true then uO ss rail m k (s+1) else s
def jN (ss:List Stay) (rail ready m:Int):Int:=uO ss rail m 1000 ready
def mK (m:Int→Int) (i:Int):List Int→Int→List Stay→List Stay×Int
 |[],at_,ss=>(ss,at_)
 |r::l,at_,ss=>mK m i l (jN ss r at_ (m r)+m r) (ss++[⟨i,r,jN ss r at_ (m r),jN ss r at_ (m r)+m r⟩])
def jZ (m:Int→Int) (i:Int) (leaves:Int) (path:List Int) (ss:List Stay):List Stay×Int :=
 if path.any (fun r=>m r==0)=true then (ss,-1) else mK m i path leaves ss
def lT (v:Net) (i:Nat):Int:=match v.trams[i]? with|some t=>t.leaves|none=>0
def cH (ps:List (List Int)) (i:Nat):List Int:=(ps[i]?).getD []
def dP (v:Net) (m:Int→Int) (ps:List (List Int)):Nat→List Stay×List Int
 |0=>([],[])
 |k+1=>((jZ m k (lT v k) (cH ps k) (dP v m ps k).1).1,(dP v m ps k).2++[(jZ m k (lT v k) (cH ps k) (dP v m ps k).1).2])
def gE (v:Net) (ps:List (List Int)) (m:Int→Int):List Int:=(dP v m ps v.trams.length).2
def gR (v:Net):List (List Int):=v.trams.map Tram.path
def iF (v:Net) (s:State):List Int:=gE v (gR v) (eff s)
def d8 (cs:List Int) (t:Int):Int:=(cs[t.toNat]?).getD 0
def kX (v:Net) (but cs:List Int):Bool:=(List.range v.seen.length).all fun k=>match v.seen[k]? with|some x=>but.contains (k:Int)||d8 cs x.tram==x.minute|none=>true
def bF (v:Net) (but:List Int):List State:=(gV v).filter fun s=>kX v but (iF v s)
def qZ (v:Net) (but:List Int):Bool:=!(bF v but).isEmpty
def gQ (v:Net) (e:Int):Int:=if e=0 then (if (bF v []).isEmpty then 8 else 0) else e
def eQ (v:Net):Int:=gQ v (dL v).2.2
def mS (v:Net) (t:Int):Int:=gQ v (if (dL v).2.2=0 then (if inR t 0 ((v.trams.length:Int)-1) then 0 else 4) else (dL v).2.2)
def LJ (v:Net) (l:List State) (t:Nat):List Int:=l.map fun s=>d8 (iF v s) t
def fH (ats:List Int):List Int:=ats.filter fun c=>!decide (c = -1)
def pW (ats:List Int):Span×Int:=(gI (fH ats),fC (fH ats).length ats.length)
def rP (v:Net) (t:Int):Span×Int×Int:=if mS v t=0 then ((pW (LJ v (bF v []) t.toNat)).1,(pW (LJ v (bF v []) t.toNat)).2,0) else (⟨0,0⟩,0,mS v t)
def yD (v:Net) (t:Nat):Int:=match v.trams[t]? with|some x=>x.due|none=>0
def iR (v:Net) (t:Nat) (c:Int):Bool:=!decide (c = -1)&&decide (c≤yD v t)
def A9 (v:Net) (t:Int) (s:State):Bool:=!iR v t.toNat (d8 (iF v s) t)
def GE (v:Net) (l:List State) (t:Int):Bool:=l.all (A9 v t)
def zG (v:Net) (l:List State) (t:Int):Bool:=l.any (A9 v t)
def HZ (v:Net) (l:List State):List Int:=(aT 0 v.trams.length).filter (GE v l)
def xF (v:Net) (l:List State):List Int:=(aT 0 v.trams.length).filter (zG v l)
def uU (v:Net):List Int×List Int×Int:=if eQ v=0 then (HZ v (bF v []),xF v (bF v []),0) else ([],[],eQ v)
def jX (v:Net):List Int→Int→Int
 |[],b=>b
 |t::l,b=>jX v l (if b<0∨yD v t.toNat<yD v b.toNat then t else b)
def mX (v:Net):Int×Int:=if eQ v=0 then (if xF v (bF v [])=[] then (0,9) else (jX v (xF v (bF v [])) (-1),0)) else (0,eQ v)
def xM (v:Net) (ps:List (List Int)) (s:State):Bool:=(List.range v.trams.length).all fun t=>iR v t (d8 (gE v ps (eff s)) t)
def mR (v:Net) (l:List State) (ps:List (List Int)):Bool:=l.all (xM v ps)
def dB (v:Net) (ps:List (List Int)):List Int:=(aT 0 ps.length).filter fun t=>!decide (cH ps t.toNat=cH (gR v) t.toNat)
def eR (v:Net) (t:Nat):Int:=match v.trams[t]? with|some x=>x.frm|none=>0
def iU (v:Net):Nat→List (List (List Int))
 |0=>[[]]
 |k+1=>(iU v k).flatMap fun p=>(cJ v (eR v k) []).map fun w=>p++[w]
def iD (v:Net):List (List (List Int)):=iU v v.trams.length
def pZ (v:Net) (l:List State) (many:Nat) (p:List (List Int)):Bool:=(dB v p).length==many&&mR v l p
def iI (v:Net) (l:List State):Nat→Nat→Option (List (List Int))
 |0,_=>none
 |k+1,m=>match (iD v).find? (pZ v l m) with|some p=>some p|none=>iI v l k (m+1)
def iZ (v:Net) (l:List State):Option (List (List Int)):=iI v l (v.trams.length+1) 0
def jO (v:Net):List (List Int)×List Int×Int:=if eQ v=0 then (match iZ v (bF v []) with|some p=>(p,dB v p,0)|none=>([],[],9)) else ([],[],eQ v)
def vP (r:Int) (s:State):Bool:=(s.closed[r.toNat]?).getD false
def Q6 (v:Net) (l:List State):List Int:=(aT 0 v.rails.length).filter fun r=>l.all (vP r)
def ZW (v:Net) (l:List State):List Int:=(aT 0 v.rails.length).filter fun r=>l.any (vP r)
def wO (v:Net):List Int×List Int×Int:=if eQ v=0 then (Q6 v (bF v []),ZW v (bF v []),0) else ([],[],eQ v)
def A7 (v:Net) (r:Int):Int:=(((List.range v.trams.length).filter fun t=>(cJ v (eR v t) [r]).isEmpty).length:Int)
def rU (v:Net):List Int→Int×Int→Int×Int
 |[],b=>b
 |r::l,b=>rU v l (if (c9 v r).shut=1 then b else if b.1<0∨b.2<A7 v r then (r,A7 v r) else b)
def v5 (v:Net):Int×Int:=rU v (aT 0 v.rails.length) (-1,0)
def tS (v:Net):Int×Int×Int:=if (dL v).2.2=0 then (if (v5 v).1<0 then (0,0,9) else ((v5 v).1,(v5 v).2,0)) else (0,0,(dL v).2.2)
def AC (v:Net):List Int:=(eG (qZ v) v.seen.length v.seen.length 0).getD (((eC v.seen.length v.seen.length)[0]?).getD [])
def y6 (v:Net):List Int×Int:=if (dL v).2.2=0 then (AC v,0) else ([],(dL v).2.2)
def P9:ByteArray:=⟨#[114,101,100]⟩
def J2:ByteArray:=⟨#[98,108,117,101]⟩
def exN (o:Bool) (l:List Seen):Net:=⟨4,[⟨1,0,⟨5,6⟩,if o then 2 else 0⟩,⟨2,1,⟨4,4⟩,0⟩,⟨2,0,⟨12,12⟩,if o then 0 else 2⟩,⟨3,2,⟨3,3⟩,0⟩],[⟨P9,2,0,12,[1,0]⟩,⟨J2,3,0,24,[3,1,0]⟩],l⟩
def exH:Net:=exN false []
def exK:Net:=exN true []
def exS:Net:=exN true [⟨0,-1⟩,⟨1,15⟩]
def exT:Net:=exN true [⟨0,-1⟩]
theorem x1:oG exH 3=([[3,2],[3,1,0]],0):=by decide +kernel
theorem x2:rP exH 1=(⟨14,16⟩,1,0):=by decide +kernel
theorem x3:(rP exK 1).2=(0,0):=by decide +kernel
theorem x4:(rP exT 0).2=(2,0):=by decide +kernel
theorem x5:uU exK=([],[0,1],0):=by decide +kernel
theorem x6:mX exK=(0,0):=by decide +kernel
theorem x7:mX exH=(0,9):=by decide +kernel
theorem x8:jO exK=([[2],[3,2]],[0,1],0):=by decide +kernel
theorem x9:wO exH=([],[2],0):=by decide +kernel
theorem x10:tS exH=(3,1,0):=by decide +kernel
theorem x11:y6 exS=([1],0):=by decide +kernel
theorem x12:mX exS=(0,8):=by decide +kernel
open Go
variable {P:Program}
structure Tys (P:Program):Prop where
 int:P.underlying 3=some (.int .i64)
 u8:P.underlying 5=some (.int .u8)
 str:P.underlying 9=some .string
 rails:P.underlying 22=some (.slice 87)
 trams:P.underlying 23=some (.slice 65)
 seens:P.underlying 24=some (.slice 53)
 net:nW P 26 [3,22,23,24]
 span:nW P 37 [3,3]
 ints:P.underlying 40=some (.slice 3)
 seen:nW P 53 [3,3]
 u16:P.underlying 56=some (.int .u16)
 tram:nW P 65 [9,3,3,3,40]
 u8s:P.underlying 74=some (.slice 5)
 rail:nW P 87 [3,3,37,3]
 a2:P.underlying 91=some (.array 2 5)
 seenB:P.bytesOf 53=16
 tramB:P.bytesOf 65=64
theorem U4 {n:Nat} {cs:List AV} (T:Tys P) (h:Typ P (n+3) 87 cs):∃ s:Rail,mkV P 87 cs=d5 s∧True:=by
 obtain ⟨e,a1,b1,rfl,h1,a2,b2,rfl,h2,a3,b3,rfl,h3,a4,b4,rfl,h4,rfl⟩:=BU T.rail h
 obtain ⟨x1,rfl,_⟩:=jE T.int h1
 obtain ⟨x2,rfl,_⟩:=jE T.int h2
 obtain ⟨x3,rfl⟩:=UE T.int T.span h3
 obtain ⟨x4,rfl,_⟩:=jE T.int h4
 exact ⟨⟨x1,x2,x3,x4⟩,e,trivial⟩
theorem UP {n:Nat} {cs:List AV} (T:Tys P) (h:Typ P (n+3) 65 cs):∃ s:Tram,mkV P 65 cs=cV s∧(s.name.size<9223372036854775808∧s.path.length<9223372036854775808):=by
 obtain ⟨e,a1,b1,rfl,h1,a2,b2,rfl,h2,a3,b3,rfl,h3,a4,b4,rfl,h4,a5,b5,rfl,h5,rfl⟩:=BU T.tram h
 obtain ⟨x1,rfl,hx⟩:=U7 T.str h1
 obtain ⟨x2,rfl,_⟩:=jE T.int h2
 obtain ⟨x3,rfl,_⟩:=jE T.int h3
 obtain ⟨x4,rfl,_⟩:=jE T.int h4
 obtain ⟨x5,_,rfl,l5⟩:=W3 T.int T.ints h5
 exact ⟨⟨x1,x2,x3,x4,x5⟩,e,by simp only [maxLen] at hx;simp only;omega,l5⟩
theorem WH {n:Nat} {cs:List AV} (T:Tys P) (h:Typ P (n+2) 53 cs):∃ s:Seen,mkV P 53 cs=eL s∧True:=by
 obtain ⟨e,a,b,rfl,h1,c,d,rfl,h2,rfl⟩:=BU T.seen h
 obtain ⟨x,rfl,_⟩:=jE T.int h1
 obtain ⟨y,rfl,_⟩:=jE T.int h2
 exact ⟨⟨x,y⟩,e,trivial⟩
theorem ZY {n:Nat} {cs:List AV} (T:Tys P) (h:Typ P (n+2) 74 cs):∃ l:List Int,mkV P 74 cs = .lit (l.map (.int .u8)) false none∧(∀ x∈l,0≤x∧x<256)∧l.length<9223372036854775808:=Z3 T.u8 T.u8s h
theorem T3 {n:Nat} {cs:List AV} (T:Tys P) (h:Typ P (n+5) 26 cs):∃ s:Net,mkV P 26 cs=bX s∧Fits s∧s.seen.length*16≤140737488351232∧s.trams.length*64≤140737488351232:=by
 obtain ⟨e,a1,b1,rfl,h1,a2,b2,rfl,h2,a3,b3,rfl,h3,a4,b4,rfl,h4,rfl⟩:=BU T.net h
 obtain ⟨x1,rfl,_⟩:=jE T.int h1
 obtain ⟨x2,rfl,⟨l2,_⟩,_⟩:=pB T.rails h2 fun y hy=>U4 T hy
 obtain ⟨x3,rfl,⟨l3,b3⟩,q3⟩:=pB T.trams h3 fun y hy=>UP T hy
 obtain ⟨x4,rfl,⟨l4,b4⟩,_⟩:=pB T.seens h4 fun y hy=>WH T hy
 exact ⟨⟨x1,x2,x3,x4⟩,e,⟨l2,l3,l4,fun t ht=>(q3 t ht).1,fun t ht=>(q3 t ht).2⟩,by rw [T.seenB] at b4;simpa [reachBytes] using b4,by rw [T.tramB] at b3;simpa [reachBytes] using b3⟩
theorem aAQ {n:Nat} {cs:List AV} (T:Tys P) (h:Typ P (n+5) 26 cs):∃ s:Net,mkV P 26 cs=bX s∧Fits s:=by
 obtain ⟨r,h1,h2,_⟩:=T3 T h
 exact ⟨r,h1,h2⟩
end Go.Am.Room
namespace Go.Am.Room
structure RailOk (v:Net) (r:Rail):Prop where
 a:0≤r.a∧r.a<v.stations
 b:0≤r.b∧r.b<v.stations
 ne:r.a≠r.b
 mins:1≤r.mins.lo∧r.mins.lo≤r.mins.hi∧r.mins.hi≤20∧r.mins.hi≤r.mins.lo+1
 shut:0≤r.shut∧r.shut≤2
structure Vd (v:Net):Prop where
 st:2≤v.stations∧v.stations≤5
 nra:v.rails.length≤5
 ra:∀ r∈v.rails,RailOk v r
 ntr:v.trams.length≤3
 tr:∀ i (h:i<v.trams.length),jF v i v.trams[i]=0
 nse:v.seen.length≤3
 se:∀ x∈v.seen,(0≤x.tram∧x.tram<v.trams.length)∧-1≤x.minute∧x.minute≤400
theorem nR {v:Net} {s:Int}:mD v s=true↔0≤s∧s<v.stations:=by
 rw [mD,eK];omega
theorem D6 {v:Net} {r:Rail}:cW v r=0↔RailOk v r:=by
 constructor
 ·intro h
  unfold cW at h
  split at h
  ·omega
  rename_i h1
  split at h
  ·omega
  rename_i h2
  split at h
  ·omega
  rename_i h3
  split at h
  ·omega
  rename_i h4
  rw [not_or,Bool.not_eq_false,Bool.not_eq_false,nR,nR] at h1
  rw [not_or,Bool.not_eq_false,eK] at h3
  rw [not_or,Decidable.not_not] at h4
  have:=C6 h4.1
  exact ⟨h1.1,h1.2,h2,by omega,h3.2⟩
 ·intro h
  have h1:=h.mins
  have e:=V2 (show 1≤r.mins.lo∧r.mins.lo≤r.mins.hi∧r.mins.hi≤20 by omega)
  rw [cW,if_neg (by simp [nR.2 h.a,nR.2 h.b]),if_neg h.ne,if_neg (by simp [e,eK.2 h.shut]),if_neg (by simp [e];omega)]
theorem hJ {v:Net} (h:(dL v).2.2=0):Vd v:=by
 unfold dL at h
 split at h
 ·simp at h
 rename_i c1
 unfold oQ at h
 split at h
 ·simp at h
 rename_i c2
 split at h
 ·rename_i i e he;exact absurd h (i6 he)
 rename_i f2
 unfold oS at h
 split at h
 ·simp at h
 rename_i c3
 split at h
 ·rename_i i e he;exact absurd h (i6 he)
 rename_i f3
 unfold oX at h
 split at h
 ·simp at h
 rename_i c4
 split at h
 ·rename_i i e he;exact absurd h (i6 he)
 rename_i f4
 rw [Bool.not_eq_false,eK] at c1
 refine ⟨c1,by omega,?_,by omega,fun i hi=>by simpa using kO f3 i hi,by omega,?_⟩
 ·intro x hx
  obtain ⟨k,hk,rfl⟩:=List.getElem_of_mem hx
  exact D6.1 (kO f2 k hk)
 ·intro x hx
  obtain ⟨k,hk,rfl⟩:=List.getElem_of_mem hx
  have:=kO f4 k hk
  unfold jV at this
  split at this
  ·omega
  rename_i hi
  split at this
  ·omega
  rename_i hj
  rw [Bool.not_eq_false,eK] at hi hj
  omega
structure TramOk (v:Net) (t:Tram):Prop where
 frm:0≤t.frm∧t.frm<v.stations
 leaves:0≤t.leaves∧t.leaves≤60
 due:0≤t.due∧t.due≤400
 len:1≤t.path.length∧t.path.length≤4
 path:∀ r∈t.path,0≤r∧r<v.rails.length
 leads:d4 v t.frm t.path=true
theorem R9 {v:Net} {t:Tram} (h:f9 v t=0):TramOk v t:=by
 unfold f9 at h
 split at h
 ·omega
 rename_i h1
 split at h
 ·omega
 rename_i h2
 split at h
 ·omega
 rename_i h3
 split at h
 ·omega
 rename_i h4
 split at h
 ·omega
 rename_i h5
 rw [Bool.not_eq_false] at h1 h3 h4 h5
 rw [not_or,Bool.not_eq_false,Bool.not_eq_false,eK,eK] at h2
 rw [nR] at h1
 rw [eK] at h3
 rw [List.all_eq_true] at h4
 exact ⟨h1,h2.1,h2.2,by omega,fun r hr=>by have:=eK.1 (h4 r hr);omega,h5⟩
theorem sD {v:Net} (h:Vd v) {i:Nat} (hi:i<v.trams.length):TramOk v v.trams[i]:=by
 have:=h.tr i hi
 unfold jF at this
 split at this
 ·exact R9 this
 ·rename_i h0;exact absurd this h0
theorem wE {v:Net} {r:Nat} (h:r<v.rails.length):c9 v (r:Int)=v.rails[r]:=by simp [c9,h]
def pH (sz:Nat) (σ:St) (xs:List AV):AV×St:=if xs.length=0 then (.lit [] true none,σ) else (.lit xs false (some σ.length),σ++[.tok sz xs.length true])
theorem E9 {sz b:Nat} {σ:St} {xs:List AV} {f:Bool} {tk:Option Nat} (h:F1 sz b [] xs):cZ sz b σ (.lit [] true none) (.lit xs f tk)=some ((pH sz σ xs).1,(pH sz σ xs).2):=by
 by_cases h0:xs.length=0
 ·have:xs=[]:=List.length_eq_zero_iff.1 h0
  subst this
  rw [LA];simp [pH]
 ·rw [v9 h h0];simp [pH,h0]
theorem w7 {sz b:Nat} {σ:St} {xs ys:List AV} {f:Bool} {tk:Option Nat} (h:F1 sz b xs ys) (hy:ys.length≠0):cZ sz b (pH sz σ xs).2 (pH sz σ xs).1 (.lit ys f tk)=some (.lit (xs++ys) false (some σ.length),σ++[.tok sz (xs.length+ys.length) true]):=by
 by_cases h0:xs.length=0
 ·have:xs=[]:=List.length_eq_zero_iff.1 h0
  subst this
  simp only [pH,List.length_nil,if_true]
  rw [v9 h hy]
  simp
 ·simp only [pH,h0,if_false]
  rw [vY (ex:=true) h hy (by simp)]
  simp
theorem iK {σ:St} {sz b:Nat} {xs ys:List AV} {ex f:Bool} {t:Nat} {tk:Option Nat} (h:F1 sz b xs ys) (h0:ys.length≠0) (n:Nat) (hn:n=xs.length) (ht:σ[t]? = some (.tok sz n ex)) :
  cZ sz b σ (.lit xs false (some t)) (.lit ys f tk)=some (.lit (xs++ys) false (some t),σ.set t (.tok sz (n+ys.length) true)):=by
 subst hn
 exact vY h h0 ht
theorem dH (m:Nat):∀ (σ a b c:St),EqS m (σ++a) (σ++b) (σ++c)=EqS m a b c
 |[],a,b,c=>rfl
 |x::σ,a,b,c=>by simp only [List.cons_append,EqS,dH m σ a b c,true_or,true_and,and_self]
theorem aHF (a:Nat) (h:a<9223372036854775808):Go.Am.bits .and .i64 (a:Int) 1=((a%2:Nat):Int):=by
 have e1:(BitVec.ofInt 64 (a:Int) &&& BitVec.ofInt 64 1).toNat=a%2:=by
  rw [BitVec.toNat_and]
  have h1:(BitVec.ofInt 64 (a:Int)).toNat=a:=by
   rw [BitVec.toNat_ofInt]
   omega
  have h2:(BitVec.ofInt 64 1).toNat=1:=by decide
  rw [h1,h2,Nat.and_one_is_mod]
 show IntKind.i64.wrap (((BitVec.ofInt 64 (a:Int) &&& BitVec.ofInt 64 1).toNat:Nat):Int)=_
 rw [e1]
 exact eO ⟨by omega,by omega⟩
theorem IW (a:Nat) (h:a<9223372036854775808):fX .and (.int .i64 (a:Int)) (.int .i64 1)=some (.int .i64 ((a%2:Nat):Int)):=by
 simp [fX,lK,aHF a h]
theorem PE (a i:Nat) (h:i≤60):fX .shr (.int .i64 (a:Int)) (.int .i64 (i:Int))=some (.int .i64 ((a/2^i:Nat):Int)):=by
 have hm:Nat.min i 64=i:=Nat.min_eq_left (by omega)
 have h0:¬(i:Int)<0:=by omega
 simp only [fX,h0,if_false,IntKind.bits,Int.toNat_natCast,hm,Option.some.injEq,AV.int.injEq,true_and]
 rw [Int.fdiv_eq_ediv_of_nonneg _ (Int.pow_nonneg (by omega))]
 norm_cast
theorem dF (m:Nat) (σ b c:St):EqS m σ (σ++b) (σ++c)=EqS m [] b c:=by have:=dH m σ [] b c;rwa [List.append_nil] at this
def zS (T:FuncId→Option AFunc) (f:AV) (args:List AV) (σ:St) (v:AV) (σ':St):Prop:=Run T (.callv f args σ) fun o=>o.v=v∧o.σ=σ'
theorem dM {f:AV} {args:List AV} {v:AV} {σ σ':St} {K:AV→St→Prop} (h:zS T f args σ v σ') (k:K v σ'):cK (K:=⟨K⟩) T f args σ:=.mono h fun o ho=>by rw [ho.1,ho.2];exact k
theorem KD (n:Nat):(List.replicate n [AV.int .i64 0]).flatten=List.replicate n (.int .i64 0):=by
 induction n with
 |zero=>rfl
 |succ n ih=>simp [List.replicate_succ,ih]
theorem JK (l:List Int):(l.map (AV.int .i64)).flatMap AV.cells=l.map (.int .i64):=by
 induction l with
 |nil=>rfl
 |cons x l ih=>simp only [List.map_cons,List.flatMap_cons,ih,AV.cells];rfl
theorem zI (z v:AV):L9 true z (some (some v))=some (.tuple [v,.bool true]):=rfl
theorem y3 (z:AV):L9 true z (some none)=some (.tuple [z,.bool false]):=rfl
theorem LO (k:Nat) (x:ABlk) (hx:aJ k x):∀ (A a b c:St) (i:Nat),EqS k (A++a) (A.set i x++b) (A.set i x++c)=EqS k a b c
 |[],a,b,c,i=>by simp
 |y::A,a,b,c,0=>by
  simp only [List.set_cons_zero,List.cons_append,EqS,dH,hx,or_true,true_and,and_self]
 |y::A,a,b,c,i+1=>by
  have:=LO k x hx A a b c i
  simp only [List.set_cons_succ,List.cons_append,EqS,this,true_or,true_and,and_self]
theorem oH (i:Nat):cG 1 (.yield i)=true:=by simp [cG,AV.cells,AV.cell]
theorem oB (i:Nat):(AV.yield i).cells=[.yield i]:=by simp [AV.cells]
theorem GY {f:AOpd} {g:FuncId} {first cap:List AV} {ps:List Nat} {a b:ACode} {e:Env} {σ:St} {K:KJ} {R:Out→Prop} (hf:f.ev e = .func g first cap)
  (h:Run T (.call g (first++[.yield σ.length]++cap) (σ++[.loop .ready none e ps a b])) R)
  (h1:∀ o,R o→∃ st pend env' ps' a' b',o.σ[σ.length]? = some (.loop st pend env' ps' a' b')∧st≠.busy∧K pend e (o.σ.set σ.length .dead)):rK (K:=⟨K⟩) T (.rangeFunc f ps a b) e σ:=.rangeFunc hf h h1
theorem lW {σ:St} {l:List Int} {a:Int} {ex:Bool} {t:Nat} (hn:l.length<100) (ht:σ[t]? = some (.tok 1 l.length ex)):cZ 1 8 σ (.lit (l.map (.int .i64)) false (some t)) (.lit [.int .i64 a] true none)=some (.lit ((l++[a]).map (.int .i64)) false (some t),σ.set t (.tok 1 (l.length+1) true)):=by
 rw [vY (ex:=ex) ⟨oT 1 _ l (fun x=>PK _ _),by simp [aL,AV.cells,AV.cell],by simp [room];omega,by simp [room];omega⟩ (by simp) (by simpa using ht)]
 simp
theorem HM {vs:List AV} (h:mO vs) (m:Nat):okVs m vs:=okVs_up _ h.1
theorem y0 {v:AV} (h:kV v) (m:Nat):okV m v:=(HM (bE h dD) m).1
end Go.Am.Room
set_option maxRecDepth 4000
namespace Go.Am.Room
def bI:=And.intro @bD (And.intro @aI (And.intro @aX (And.intro @aW (And.intro @aV (And.intro @aS (And.intro @bC (And.intro @a9 (@aZ))))))))
theorem j7 (v:Net) (s:Int) (hst:2≤v.stations∧v.stations≤5):dY T 78 [bX v,.int .i64 s] (.bool (mD v s)):=by
 refine bA (af:=a78) rfl (by simp [a78]) dd ?_
 have hw:IntKind.i64.wrap (v.stations-1)=v.stations-1:=eO ⟨by omega,by omega⟩
 (repeat (first|simp only [↓QA,QB,Nat.reduceLT,reduceIte,Nat.reduceEqDiff,Nat.reduceAdd,Nat.reduceLeDiff,Nat.reduceMul,Nat.reduceBEq,bI,a78,hw]|refine rd0 rfl ?_))
 ((first|refine aE (gA s 0 (v.stations-1)) rfl dd ?_|refine aF (gA s 0 (v.stations-1)) rfl dd ?_);(repeat (first|simp only [↓QA,QB,Nat.reduceLT,reduceIte,Nat.reduceEqDiff,Nat.reduceAdd,Nat.reduceLeDiff,Nat.reduceMul,Nat.reduceBEq,bI,mD]|refine rd0 rfl ?_)))
theorem Q9 (r:Rail) (s:Int):dY T 97 [d5 r,.int .i64 s] (.int .i64 (cY r s)):=by
 refine bA (af:=a97) rfl (by simp [a97]) dd ?_
 (repeat (first|simp only [↓QA,QB,Nat.reduceLT,reduceIte,Nat.reduceEqDiff,Nat.reduceAdd,Nat.reduceLeDiff,Nat.reduceMul,Nat.reduceBEq,bI,a97]|refine rd0 rfl ?_))
 cases h1:(s==r.a)
 ·have h1':s≠r.a:=by simpa using h1
  (repeat (first|simp only [↓QA,QB,Nat.reduceLT,reduceIte,Nat.reduceEqDiff,Nat.reduceAdd,Nat.reduceLeDiff,Nat.reduceMul,Nat.reduceBEq,bI,h1]|refine rd0 rfl ?_))
  cases h2:(s==r.b)
  ·have h2':s≠r.b:=by simpa using h2
   (repeat (first|simp only [↓QA,QB,Nat.reduceLT,reduceIte,Nat.reduceEqDiff,Nat.reduceAdd,Nat.reduceLeDiff,Nat.reduceMul,Nat.reduceBEq,bI,h2]|refine rd0 rfl ?_))
   simp [cY,h1',h2']
  ·have h2':s=r.b:=by simpa using h2
   (repeat (first|simp only [↓QA,QB,Nat.reduceLT,reduceIte,Nat.reduceEqDiff,Nat.reduceAdd,Nat.reduceLeDiff,Nat.reduceMul,Nat.reduceBEq,bI,h2]|refine rd0 rfl ?_))
   simp only [cY,if_neg h1',if_pos h2']
 ·have h1':s=r.a:=by simpa using h1
  (repeat (first|simp only [↓QA,QB,Nat.reduceLT,reduceIte,Nat.reduceEqDiff,Nat.reduceAdd,Nat.reduceLeDiff,Nat.reduceMul,Nat.reduceBEq,bI,h1]|refine rd0 rfl ?_))
  simp only [cY,if_pos h1']
theorem O1 (v:Net) (r:Rail) (hst:2≤v.stations∧v.stations≤5):dY T 74 [bX v,d5 r] (.int .i64 (cW v r)):=by
 refine bA (af:=a74) rfl (by simp [a74]) dd ?_
 (repeat (first|simp only [↓QA,QB,Nat.reduceLT,reduceIte,Nat.reduceEqDiff,Nat.reduceAdd,Nat.reduceLeDiff,Nat.reduceMul,Nat.reduceBEq,bI,a74]|refine rd0 rfl ?_))
 ((first|refine aE (j7 v r.a hst) rfl dd ?_|refine aF (j7 v r.a hst) rfl dd ?_);(repeat (first|simp only [↓QA,QB,Nat.reduceLT,reduceIte,Nat.reduceEqDiff,Nat.reduceAdd,Nat.reduceLeDiff,Nat.reduceMul,Nat.reduceBEq,bI]|refine rd0 rfl ?_)))
 cases h1:mD v r.a
 ·(repeat (first|simp only [↓QA,QB,Nat.reduceLT,reduceIte,Nat.reduceEqDiff,Nat.reduceAdd,Nat.reduceLeDiff,Nat.reduceMul,Nat.reduceBEq,bI]|refine rd0 rfl ?_))
  simp [cW,h1]
 ·(repeat (first|simp only [↓QA,QB,Nat.reduceLT,reduceIte,Nat.reduceEqDiff,Nat.reduceAdd,Nat.reduceLeDiff,Nat.reduceMul,Nat.reduceBEq,bI]|refine rd0 rfl ?_))
  ((first|refine aE (j7 v r.b hst) rfl dd ?_|refine aF (j7 v r.b hst) rfl dd ?_);(repeat (first|simp only [↓QA,QB,Nat.reduceLT,reduceIte,Nat.reduceEqDiff,Nat.reduceAdd,Nat.reduceLeDiff,Nat.reduceMul,Nat.reduceBEq,bI]|refine rd0 rfl ?_)))
  cases h2:mD v r.b
  ·(repeat (first|simp only [↓QA,QB,Nat.reduceLT,reduceIte,Nat.reduceEqDiff,Nat.reduceAdd,Nat.reduceLeDiff,Nat.reduceMul,Nat.reduceBEq,bI]|refine rd0 rfl ?_))
   simp [cW,h2]
  ·(repeat (first|simp only [↓QA,QB,Nat.reduceLT,reduceIte,Nat.reduceEqDiff,Nat.reduceAdd,Nat.reduceLeDiff,Nat.reduceMul,Nat.reduceBEq,bI]|refine rd0 rfl ?_))
   cases h3:(r.a==r.b)
   ·have h3':r.a≠r.b:=by simpa using h3
    (repeat (first|simp only [↓QA,QB,Nat.reduceLT,reduceIte,Nat.reduceEqDiff,Nat.reduceAdd,Nat.reduceLeDiff,Nat.reduceMul,Nat.reduceBEq,bI,h3]|refine rd0 rfl ?_))
    ((first|refine aE (L5 r.mins 1 20) rfl dd ?_|refine aF (L5 r.mins 1 20) rfl dd ?_);(repeat (first|simp only [↓QA,QB,Nat.reduceLT,reduceIte,Nat.reduceEqDiff,Nat.reduceAdd,Nat.reduceLeDiff,Nat.reduceMul,Nat.reduceBEq,bI]|refine rd0 rfl ?_)))
    cases h4:(n9 r.mins 1 20==7)
    ·have h4':n9 r.mins 1 20≠7:=by simpa using h4
     (repeat (first|simp only [↓QA,QB,Nat.reduceLT,reduceIte,Nat.reduceEqDiff,Nat.reduceAdd,Nat.reduceLeDiff,Nat.reduceMul,Nat.reduceBEq,bI,h4]|refine rd0 rfl ?_))
     ((first|refine aE (gA r.shut 0 2) rfl dd ?_|refine aF (gA r.shut 0 2) rfl dd ?_);(repeat (first|simp only [↓QA,QB,Nat.reduceLT,reduceIte,Nat.reduceEqDiff,Nat.reduceAdd,Nat.reduceLeDiff,Nat.reduceMul,Nat.reduceBEq,bI]|refine rd0 rfl ?_)))
     cases h5:inR r.shut 0 2
     ·(repeat (first|simp only [↓QA,QB,Nat.reduceLT,reduceIte,Nat.reduceEqDiff,Nat.reduceAdd,Nat.reduceLeDiff,Nat.reduceMul,Nat.reduceBEq,bI]|refine rd0 rfl ?_))
      simp [cW,h1,h2,h3',h5]
     ·cases h6:(n9 r.mins 1 20==0)
      ·have h6':n9 r.mins 1 20≠0:=by simpa using h6
       (repeat (first|simp only [↓QA,QB,Nat.reduceLT,reduceIte,Nat.reduceEqDiff,Nat.reduceAdd,Nat.reduceLeDiff,Nat.reduceMul,Nat.reduceBEq,bI,h6]|refine rd0 rfl ?_))
       simp [cW,h1,h2,h3',h4',h5,h6']
      ·have h6':n9 r.mins 1 20=0:=by simpa using h6
       have hb:=C6 h6'
       have hw:IntKind.i64.wrap (r.mins.lo+1)=r.mins.lo+1:=eO ⟨by omega,by omega⟩
       cases h7:decide (r.mins.lo+1<r.mins.hi)
       ·have h7':¬r.mins.lo+1<r.mins.hi:=by simpa using h7
        (repeat (first|simp only [↓QA,QB,Nat.reduceLT,reduceIte,Nat.reduceEqDiff,Nat.reduceAdd,Nat.reduceLeDiff,Nat.reduceMul,Nat.reduceBEq,bI,h6,hw,h7]|refine rd0 rfl ?_))
        simp [cW,h1,h2,h3',h5,h6',h7']
       ·have h7':r.mins.lo+1<r.mins.hi:=by simpa using h7
        (repeat (first|simp only [↓QA,QB,Nat.reduceLT,reduceIte,Nat.reduceEqDiff,Nat.reduceAdd,Nat.reduceLeDiff,Nat.reduceMul,Nat.reduceBEq,bI,h6,hw,h7]|refine rd0 rfl ?_))
        simp [cW,h1,h2,h3',h5,h6',h7']
    ·have h4':n9 r.mins 1 20=7:=by simpa using h4
     (repeat (first|simp only [↓QA,QB,Nat.reduceLT,reduceIte,Nat.reduceEqDiff,Nat.reduceAdd,Nat.reduceLeDiff,Nat.reduceMul,Nat.reduceBEq,bI,h4]|refine rd0 rfl ?_))
     simp [cW,h1,h2,h3',h4']
   ·have h3':r.a=r.b:=by simpa using h3
    (repeat (first|simp only [↓QA,QB,Nat.reduceLT,reduceIte,Nat.reduceEqDiff,Nat.reduceAdd,Nat.reduceLeDiff,Nat.reduceMul,Nat.reduceBEq,bI,h3]|refine rd0 rfl ?_))
    rw [cW,if_neg (by simp [h1,h2]),if_pos h3']
theorem JJ {v:Net} {p:List Int} {k:Nat} (hk:k<p.length) (s:Int) (met:List Int):jY v (p.drop k) s met=if cY (c9 v p[k]) s<0∨met.contains (cY (c9 v p[k]) s)=true∨(cY (c9 v p[k]) s=0∧k+1<p.length) then false
  else jY v (p.drop (k+1)) (cY (c9 v p[k]) s) (met++[cY (c9 v p[k]) s]):=by
 rw [List.drop_eq_getElem_cons hk,jY]
 have:p.drop (k+1)≠[]↔k+1<p.length:=by
  rw [Ne,List.drop_eq_nil_iff];omega
 simp only [this]
theorem xB (v:Net) (s:Int) (p:List Int) (hp:∀ r∈p,0≤r∧r<v.rails.length) (hl:p.length<9223372036854775808):dY T 61 [bX v,.int .i64 s,ints p] (.bool (d4 v s p)):=by
 refine bA (af:=a61) rfl (by simp [a61]) dd ?_
 (repeat (first|simp only [↓QA,QB,Nat.reduceLT,reduceIte,Nat.reduceEqDiff,Nat.reduceAdd,Nat.reduceLeDiff,Nat.reduceMul,Nat.reduceBEq,bI,a61]|refine rd0 rfl ?_))
 ((first|refine aE (gA p.length 1 4) rfl dd ?_|refine aF (gA p.length 1 4) rfl dd ?_);(repeat (first|simp only [↓QA,QB,Nat.reduceLT,reduceIte,Nat.reduceEqDiff,Nat.reduceAdd,Nat.reduceLeDiff,Nat.reduceMul,Nat.reduceBEq,bI]|refine rd0 rfl ?_)))
 cases h1:inR p.length 1 4
 ·(repeat (first|simp only [↓QA,QB,Nat.reduceLT,reduceIte,Nat.reduceEqDiff,Nat.reduceAdd,Nat.reduceLeDiff,Nat.reduceMul,Nat.reduceBEq,bI]|refine rd0 rfl ?_))
  simp [d4,h1]
 ·have hpl:=eK.1 h1
  cases h2:(s==0)
  case' true =>
   have h2':s=0:=by simpa using h2
   (repeat (first|simp only [↓QA,QB,Nat.reduceLT,reduceIte,Nat.reduceEqDiff,Nat.reduceAdd,Nat.reduceLeDiff,Nat.reduceMul,Nat.reduceBEq,bI,h2]|refine rd0 rfl ?_))
   simp [d4,h1,h2']
  have h2':s≠0:=by simpa using h2
  obtain ⟨B,hB⟩:∃ B,d4 v s p=B:=⟨_,rfl⟩
  have hB2:jY v p s [s]=B:=by rw [←hB,d4,if_neg (by simp [h1,h2'])]
  rw [hB]
  (repeat (first|simp only [↓QA,QB,Nat.reduceLT,reduceIte,Nat.reduceEqDiff,Nat.reduceAdd,Nat.reduceLeDiff,Nat.reduceMul,Nat.reduceBEq,bI,h2]|refine rd0 rfl ?_))
  refine jP 7 1 [.int .i64 s] rfl ?_
  refine bY (S:=Nat×Int×List Int×Bool) (0,s,[s],false) (fun a=>a.1≤p.length∧a.2.2.1.length=a.1+1∧jY v (p.drop a.1) a.2.1 a.2.2.1=B) (fun a=>p.length-a.1)
   (fun a=>[(1,.int .i64 a.2.1),(2,ints p),(3,.ptr 0 0),(7,.lit (a.2.2.1.map (.int .i64)) false (some 1)),(8,.int .i64 a.1)]) (fun a=>[.cells (aB v),.tok 1 (a.1+1) a.2.2.2]) ⟨by simp,by simp,by simpa using hB2⟩ (by simp [aB,ints]) ?_ fun a ha=>?_
  ·try simp only [aC,QE,Nat.reduceLT,reduceIte,Nat.reduceEqDiff,Nat.reduceAdd,Nat.reduceLeDiff,Nat.reduceMul,Nat.reduceBEq,bI]
   try simp
  ·obtain ⟨k,c,met,ex⟩:=a
   obtain ⟨hk,hm,hgo⟩:=ha
   simp only at hk hm hgo
   (repeat (first|simp only [↓QA,QB,Nat.reduceLT,reduceIte,Nat.reduceEqDiff,Nat.reduceAdd,Nat.reduceLeDiff,Nat.reduceMul,Nat.reduceBEq,bI,Y5]|refine rd0 rfl ?_))
   refine aG (fun h=>?_) fun h=>?_
   ·have hk1:k<p.length:=by simpa using h
    have hw:=bV hk1 (by omega)
    rw [JJ hk1] at hgo
    have hpr:=hp _ (List.getElem_mem hk1)
    obtain ⟨R,hR⟩:∃ R:Nat,p[k]=(R:Int):=⟨p[k].toNat,by omega⟩
    rw [hR] at hpr hgo
    have hRl:R<v.rails.length:=by omega
    rw [wE hRl] at hgo
    obtain ⟨z,hz⟩:∃ z,v.rails[R]=z:=⟨_,rfl⟩
    rw [hz] at hgo
    have hov:=Q9 z c
    obtain ⟨o,ho⟩:∃ o,cY z c=o:=⟨_,rfl⟩
    rw [ho] at hgo hov
    have hap:=fun (b0:ABlk) (τ:St)=>lW (σ:=b0::.tok 1 (k+1) ex::τ) (l:=met) (a:=o) (ex:=ex) (t:=1) (by omega) (by rw [hm];rfl)
    rw [hm] at hap
    (repeat (first|simp only [↓QA,QB,Nat.reduceLT,reduceIte,Nat.reduceEqDiff,Nat.reduceAdd,Nat.reduceLeDiff,Nat.reduceMul,Nat.reduceBEq,bI,hk1,hR,hRl,hz]|refine rd0 rfl ?_))
    ((first|refine aE (hov) rfl dd ?_|refine aF (hov) rfl dd ?_);(repeat (first|simp only [↓QA,QB,Nat.reduceLT,reduceIte,Nat.reduceEqDiff,Nat.reduceAdd,Nat.reduceLeDiff,Nat.reduceMul,Nat.reduceBEq,bI,hk1,hR,hRl,hz]|refine rd0 rfl ?_)))
    cases q1:decide (o<0)
    ·have q1':¬o<0:=by simpa using q1
     (repeat (first|simp only [↓QA,QB,Nat.reduceLT,reduceIte,Nat.reduceEqDiff,Nat.reduceAdd,Nat.reduceLeDiff,Nat.reduceMul,Nat.reduceBEq,bI,q1]|refine rd0 rfl ?_))
     ((first|refine s7 (rS met o (by omega)) (by try simp only [QS,QC,Nat.reduceLT,reduceIte,Nat.reduceEqDiff,Nat.reduceAdd,Nat.reduceLeDiff,Nat.reduceMul,Nat.reduceBEq,bI]) trivial ?_|refine wF (rS met o (by omega)) (by try simp only [QS,QC,Nat.reduceLT,reduceIte,Nat.reduceEqDiff,Nat.reduceAdd,Nat.reduceLeDiff,Nat.reduceMul,Nat.reduceBEq,bI]) trivial ?_);(repeat (first|simp only [↓QA,QB,Nat.reduceLT,reduceIte,Nat.reduceEqDiff,Nat.reduceAdd,Nat.reduceLeDiff,Nat.reduceMul,Nat.reduceBEq,bI,q1]|refine rd0 rfl ?_)))
     cases q2:met.contains o
     ·cases q3:(o==0)
      ·have q3':o≠0:=by simpa using q3
       rw [if_neg (by rw [q2];simp [q1',q3'])] at hgo
       (repeat (first|simp only [↓QA,QB,Nat.reduceLT,reduceIte,Nat.reduceEqDiff,Nat.reduceAdd,Nat.reduceLeDiff,Nat.reduceMul,Nat.reduceBEq,bI,q3,hap,hw]|refine rd0 rfl ?_))
       refine ⟨(k+1,o,met++[o],true),⟨by simp only;omega,by simp [hm],hgo⟩,by simp only;omega,?_⟩
       try simp only [aC,QE,Nat.reduceLT,reduceIte,Nat.reduceEqDiff,Nat.reduceAdd,Nat.reduceLeDiff,Nat.reduceMul,Nat.reduceBEq,bI,hw,nL,List.map_append,List.map_cons,List.map_nil]
       try simp [aJ]
      ·have q3':o=0:=by simpa using q3
       cases q4:decide (((k+1:Nat):Int)<(p.length:Int))
       ·have q4':¬k+1<p.length:=by have:=of_decide_eq_false q4;omega
        rw [if_neg (by rw [q2];simp [q1',q4'])] at hgo
        (repeat (first|simp only [↓QA,QB,Nat.reduceLT,reduceIte,Nat.reduceEqDiff,Nat.reduceAdd,Nat.reduceLeDiff,Nat.reduceMul,Nat.reduceBEq,bI,q3,hap,hw,q4]|refine rd0 rfl ?_))
        refine ⟨(k+1,o,met++[o],true),⟨by simp only;omega,by simp [hm],hgo⟩,by simp only;omega,?_⟩
        try simp only [aC,QE,Nat.reduceLT,reduceIte,Nat.reduceEqDiff,Nat.reduceAdd,Nat.reduceLeDiff,Nat.reduceMul,Nat.reduceBEq,bI,hw,nL,List.map_append,List.map_cons,List.map_nil]
        try simp [aJ]
       ·have q4':k+1<p.length:=by
         have:=of_decide_eq_true q4
         omega
        rw [if_pos (.inr (.inr ⟨q3',q4'⟩))] at hgo
        (repeat (first|simp only [↓QA,QB,Nat.reduceLT,reduceIte,Nat.reduceEqDiff,Nat.reduceAdd,Nat.reduceLeDiff,Nat.reduceMul,Nat.reduceBEq,bI,q3,hw,q4,←hgo]|refine rd0 rfl ?_))
     ·rw [if_pos (.inr (.inl q2))] at hgo
      (repeat (first|simp only [↓QA,QB,Nat.reduceLT,reduceIte,Nat.reduceEqDiff,Nat.reduceAdd,Nat.reduceLeDiff,Nat.reduceMul,Nat.reduceBEq,bI,←hgo]|refine rd0 rfl ?_))
    ·have q1':o<0:=by simpa using q1
     rw [if_pos (.inl q1')] at hgo
     (repeat (first|simp only [↓QA,QB,Nat.reduceLT,reduceIte,Nat.reduceEqDiff,Nat.reduceAdd,Nat.reduceLeDiff,Nat.reduceMul,Nat.reduceBEq,bI,q1,←hgo]|refine rd0 rfl ?_))
   ·have hk1:k=p.length:=by simp at h;omega
    rw [hk1,List.drop_length,jY] at hgo
    (repeat (first|simp only [↓QA,QB,Nat.reduceLT,reduceIte,Nat.reduceEqDiff,Nat.reduceAdd,Nat.reduceLeDiff,Nat.reduceMul,Nat.reduceBEq,bI,hgo]|refine rd0 rfl ?_))
end Go.Am.Room
