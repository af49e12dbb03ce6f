/- A part of the proof of TopDoors: an abstract machine, or what functions come to on it. -/
import Derived.Test.YtckllniniolhcaaGreatTopDoorsQ2
import Derived.WalkKit
import Derived.ChangeArms
import Derived.SizedLaws
import Derived.ChangeBears
import Derived.ChangeShapes
import Derived.WideShapes
import Derived.ProofKit
import Derived.OpenShut
import Derived.Lib.Strings
import Derived.Laws.RangeAny
open Nat (reduceLT reduceEqDiff reduceAdd reduceLeDiff reduceMul)
set_option linter.unusedVariables false
set_option linter.unusedSimpArgs false
set_option linter.defProp false
namespace Go.Am
variable {P:Program} {hh:String->Bool} {G G0 G1 G2 G':Gh} {w w0 w1 w2 w':World} {σ σ' σ1 σ2:St} {env env':Env} {n m m':Nat} {v:AV} {a:Act} {Q R:Out->Prop}
theorem KG{c:ACode}(h:b8 P hh (.code c env σ) R)(h1:∀ o,R o->Q o\/∃ env'' σ'',zD σ o.env o.σ env'' σ''/\Q ⟨o.j,env'',σ'',o.v⟩):b8 P hh (.code c env σ) Q:=by
 intro F n cd G w a B f1 f2 f3 f4 f5 f6;refine (h f1 f2 (f3.ghost (G':=G.shut σ) rfl rfl rfl rfl) f4.shut (f5.mono fun r e=>e) f6).mono fun e a' w' hp=>?_
 obtain⟨o,G1,q1,q2,q3,q4,q5,q6⟩:=hp;rcases h1 o q1 with hq|⟨env'',σ'',⟨t1,t2,t3,t4⟩,hq⟩
 ·refine⟨o,{ G1 with res:=G.res },hq,q2,q3.ghost rfl rfl rfl rfl,q4.reserve _ fun id x e=>?_,?_,q6.mono fun r e=>e⟩
  ·exact q4.res id x (q5.res _ _ ((i6 f4).res _ _ e))
  ·have h2:=(i6 f4).trans q5;exact⟨h2.loc,h2.lim,h2.tok,h2.own,h2.defs,h2.B0,h2.h0,h2.os,h2.tape,h2.output,h2.size,fun _ _ e=>e⟩
 have hL:=lT (m:=σ''.length) q4 G.res;refine⟨_,G1.cut w' o.σ σ''.length G.res,hq,q2,⟨q3.1,fun t=>?_⟩,HL f4 q5 q4 q3 t1 t2 t4,vI f4 q5 q4 t1,q6.mono fun r e=>e⟩;show RelV _ _ (Env.get env'' t) _
 rcases wD t3 t with hu|hu
 ·rw[hu];exact .undef _
 ·exact (q3.2 t).thin q4 hL hu
theorem IZ{a0:ACode}{az:List ACode}{c:ACode}{S:Env->St->Prop}(h:b8 P hh (.chain (a0::az) env σ) R)(h1:∀ o,R o->o.j≠none->Q o)(h2:∀ o,R o->o.j=none->∃ env1 σ1 env2 σ2,zD σ o.env o.σ env1 σ1/\((env2=env1/\σ2=σ1)\/TN σ.length env1 σ1 env2 σ2)/\S env2 σ2)(h3:∀ env2 σ2,S env2 σ2->b8 P hh (.code c env2 σ2) Q):b8 P hh (.code (MU (a0::az) c) env σ) Q:=by
 intro F n cd G w a B f1 f2 f3 f4 f5 f6;have hwp:∀ K,cd.wpIn F 0 P K a w->wpL F P cd K a w:=by
  intro K hk;simp only[MU] at f2;obtain⟨x,y,rfl,_⟩:=zC f2;exact hk
 refine hwp _ (h f1 f2 (f3.ghost (G':=G.shut σ) rfl rfl rfl rfl) f4.shut (f5.mono fun r e=>e) f6 (fun d o G1 a' w' p1 p2 p3 p4 p5 p6 p7 p8=>?_) fun o G1 a' w' p1 p2 p3 p4 p5 p6=>?_)
 ·obtain⟨env1,σ1,env2,σ2,⟨t1,t2,t3,t4⟩,ht,hs⟩:=h2 o p3 p4;have hL:=lT (m:=σ1.length) p6 G.res;have hE1:dS (G1.cut w' o.σ σ1.length G.res) w' n env1 a'.tmps:=by
   refine⟨p5.1,fun t=>?_⟩;rcases wD t3 t with hu|hu
   ·rw[hu];exact .undef _
   ·exact (p5.2 t).thin p6 hL hu
  have hS1:=HL f4 p7 p6 p5 t1 t2 t4;have hV1:=vI f4 p7 p6 t1;have hM1:nS (G1.cut w' o.σ σ1.length G.res) B a'.defers:=p8.mono fun r e=>e
  rcases ht with⟨rfl,rfl⟩|ht
  ·exact ((h3 _ _ hs p2 p1 hE1 hS1 hM1 (Nat.le_trans f6 p7.size)).mono fun e a w=>nE.lift hV1).wpIn
  ·obtain⟨G3,s1,s2,s3,s4⟩:=I9 f4 hV1 hS1 hE1 (fun id r e=>e) ht;exact ((h3 _ _ hs p2 p1 s2 s1 (hM1.mono fun r e=>by rw[s4];exact e) (Nat.le_trans f6 p7.size)).mono fun e a w=>nE.lift s3).wpIn
 ·refine⟨o,{ G1 with res:=G.res },h1 o p1 p2,rfl,p3.ghost rfl rfl rfl rfl,p4.reserve _ fun id x e=>?_,?_,p6.mono fun r e=>e⟩
  ·exact p4.res id x (p5.res _ _ ((i6 f4).res _ _ e))
  ·have h2:=(i6 f4).trans p5;exact⟨h2.loc,h2.lim,h2.tok,h2.own,h2.defs,h2.B0,h2.h0,h2.os,h2.tape,h2.output,h2.size,fun _ _ e=>e⟩
theorem BJ(h:Q ⟨none,env,σ,.undef⟩):b8 P hh (.chain [] env σ) Q:=by
 intro F n c0 cd G w a B K f1 f2 f3 f4 f5 f6 f7 f8;exact f7 cd _ G a w f2 f1 h rfl f3 f4 (.refl _ _) f5
theorem yT{x:ACode}{az:List ACode}(h:b8 P hh (.code x env σ) R)(h1:∀ o,R o->o.j=none->b8 P hh (.chain az o.env o.σ) Q)(h2:∀ o,R o->o.j≠none->Q o):b8 P hh (.chain (x::az) env σ) Q:=by
 intro F n c0 cd G w a B K f1 f2 f3 f4 f5 f6 f7 f8;simp only[MU] at f2;obtain⟨c,d,rfl,c1,c2⟩:=zC f2;refine wpIn_seq (wpIn_mono (h (oZ f1 fun e=>by simp[mF] at e;exact e.1) c1 f3 f4 f5 f6).wpIn fun e a' w' hp=>?_);obtain⟨o,G',q1,rfl,q3,q4,q5,q6⟩:=hp;cases hj:o.j with
 |none =>
  refine (h1 o q1 hj) (oZ f1 fun e=>by simp[mF] at e;exact e.2) c2 q3 q4 q6 (Nat.le_trans f6 q5.size) (fun d o2 G2 a2 w2 p1 p2 p3 p4 p5 p6 p7 p8=>f7 d o2 G2 a2 w2 p1 p2 p3 p4 p5 p6 (q5.trans p7) p8)
   fun o2 G2 a2 w2 p1 p2 p3 p4 p5 p6=>f8 o2 G2 a2 w2 p1 p2 p3 p4 (q5.trans p5) p6
 |some j =>
  have:=f8 o G' a' w' (h2 o q1 (by rw[hj];simp)) (by rw[hj];simp) q3 q4 q5 q6;rw[hj] at this;cases j<;>exact this
theorem RelV.free(hl:∀ b L,G.lim b=some L->(∀ t,G.own b≠some t)->∃ L',G'.lim b=some L'/\L<=L')(ho:∀ b L,G.lim b=some L->(∀ t,G.own b≠some t)->∀ t,G'.own b≠some t){a:AV}{u:Value}(h:RelV G w a u)(hk:okV 0 a):RelV G' w a u:=by
 have htk:∀ {full tk n base cap},(∀ t,tk=some t->t<0)->kH G full tk n base cap->kH G' full tk n base cap:=fun q h=>⟨h.1,h.2.1,fun t e=>absurd (q t e) (by omega)⟩
 have hlit:∀ {xs tk b o sz},(∀ t,tk=some t->t<0)->LitAt G w xs tk b o sz->LitAt G' w xs tk b o sz:=by
  intro xs tk b o sz q ⟨⟨L,q1,q2⟩,q3,q4,q5⟩;have hn:∀ t,G.own b≠some t:=fun t e=>absurd (q t (q3 t e)) (by omega)
  obtain⟨L',r1,r2⟩:=hl b L q1 hn;exact⟨⟨L',r1,by omega⟩,fun t e=>absurd e (ho b L q1 hn t),q4,q5⟩
 induction h with
 |undef v=>exact .undef v
 |int k n=>exact .int k n
 |bool b=>exact .bool b
 |str s=>exact .str s
 |func e1 e2 _ _ e3 e4=>exact .func e1 e2 (fun i x u q1 q2=>e3 i x u q1 q2 (eZ hk.1 q1)) (fun i x u q1 q2=>e4 i x u q1 q2 (eZ hk.2 q1))
 |nilFunc=>exact .nilFunc
 |yield h=>exact absurd hk (by simp[okV])
 |ptr h=>exact absurd hk (by simp[okV])
 |nilPtr=>exact .nilPtr
 |lptr ht hi hl _ ih =>
  exact .lptr (fun t e=>absurd (hk.1 t e) (by omega)) hi (hlit hk.1 hl) fun i x j c u q1 q2 q3=>ih i x j c u q1 q2 q3 (uE (eZ hk.2 q1) q2)
 |nil ht hb=>exact .nil (htk hk.1 ht) hb
 |lit ht hl _ ih=>exact .lit (htk hk.1 ht) (hlit hk.1 hl) fun i x j c u q1 q2 q3=>ih i x j c u q1 q2 q3 (uE (eZ hk.2 q1) q2)
 |ref h hb hc hn=>exact absurd hk (by simp[okV])
 |map h=>exact absurd hk (by simp[okV])
 |nilMap=>exact .nilMap
 |agg h _ ih=>exact .agg h fun i x u q1 q2=>ih i x u q1 q2 (eZ hk q1)
 |tuple h _ ih=>exact .tuple h fun i x u q1 q2=>ih i x u q1 q2 (eZ hk q1)
theorem RelV.scal{a:AV}{u:Value}(h:RelV G w a u)(hk:Scal a):RelV G' w' a u:=by
 have hs:∀ {xs:List AV},Scals xs->∀ {i:Nat} {x:AV},xs[i]? = some x->Scal x:=by
  intro xs
  induction xs with
  |nil=>intro _ i x e;simp at e
  |cons y ys ih =>
   intro h (i:Nat) (x:AV) e;cases i with
   |zero=>simp at e;subst e;exact h.1
   |succ i=>exact ih h.2 (by simpa using e)
 induction h with
 |undef v=>exact hk.elim
 |int k n=>exact .int k n
 |bool b=>exact .bool b
 |str s=>exact .str s
 |func e1 e2 _ _ e3 e4=>exact hk.elim
 |nilFunc=>exact hk.elim
 |yield h=>exact hk.elim
 |ptr h=>exact hk.elim
 |nilPtr=>exact hk.elim
 |lptr ht hi hl _ ih=>exact hk.elim
 |@nil full tk base cap ht hb =>
  cases tk with
  |none=>exact .nil ⟨ht.1,ht.2.1,fun t e=>by cases e⟩ hb
  |some t=>exact hk.elim
 |@lit xs full tk b o sz cap ht hl _ ih =>
  cases xs with
  |nil =>
   cases tk with
   |none=>exact .nil ⟨ht.1,ht.2.1,fun t e=>by cases e⟩ (fun e=>by cases e)
   |some t=>exact hk.elim
  |cons x xs=>cases tk<;>exact hk.elim
 |ref h hb hc hn=>exact hk.elim
 |map h=>exact hk.elim
 |nilMap=>exact hk.elim
 |agg h _ ih=>exact .agg h fun i x u q1 q2=>ih i x u q1 q2 (hs hk q1)
 |tuple h _ ih=>exact .tuple h fun i x u q1 q2=>ih i x u q1 q2 (hs hk q1)
open Classical in
noncomputable def Gh.fresh0 (G:Gh) (w:World) (lim:Nat->Option Nat) (old:Nat->Prop):Gh :=
  { loc:=fun _=>none,lim:=lim,tok:=fun _=>none,own:=fun _=>none,defs:=fun _=>False,B0:=w.heap.size
    h0:=w.heap++Array.ofFn (n:=w.heap.size) (fun i=>if old i then DO else .deferred (some [])),res:=fun _=>none }
theorem AX{lim:Nat->Option Nat}{old:Nat->Prop}{b:Nat}(hb:b<w.heap.size):(G.fresh0 w lim old).h0[w.heap.size+b]? = some DO↔old b:=by
 simp only[Gh.fresh0];rw[Array.getElem?_append_right (by omega)];simp only[Nat.add_sub_cancel_left,Array.getElem?_ofFn,hb,dite_true,Option.some.injEq];split
 ·rename_i h;simp[h]
 ·rename_i h;simp[h,DO]
theorem tN{lim:Nat->Option Nat}{old:Nat->Prop}(hl:∀ b L,lim b=some L->old b/\∃ vs T fr,w.heap[b]? = some (.cells vs T fr)/\L<=vs.size):RelS P hh (G.fresh0 w lim old) w [] :=
 ⟨fun _ _ e=>(by cases e),fun _ _ _ e=>(by cases e),fun _ _ _ e=>(by cases e),fun _ _ e=>(by cases e),fun b L e=>by
  obtain⟨h1,vs,T,fr,h2,h3⟩:=hl b L e;exact⟨vs,T,fr,h2,h3,fun hb=>(AX hb).2 h1⟩,fun _ _ _ _ e=>(by cases e),fun _ _ e=>(by cases e),fun _ e=>e.elim,
  fun b hb=>by simp only[Gh.fresh0];rw[Array.getElem?_append_left hb],Nat.le_refl _,fun _ _ e=>(by cases e)⟩
theorem CL{lim:Nat->Option Nat}{old:Nat->Prop}(hS:RelS P hh G w σ)(h1:RelS P hh G1 w' [])(he:Evo (G.fresh0 w lim old) w G1 w')(nl:Nat->Option Nat)(hn:∀ b,b<w.heap.size->(nl b=G.lim b)\/(∃ L L',G.lim b=some L/\(∀ t,G.own b≠some t)/\nl b=some L'/\L<=L'/\G1.lim b=some L'))(hn2:∀ b,w.heap.size<=b->nl b=G1.lim b):
  RelS P hh { G with lim:=nl } w' σ/\Evo G w { G with lim:=nl } w':=by
 have hB:G1.B0=w.heap.size:=he.B0;have hh0:G1.h0=_:=he.h0;have heap:∀ b,b<w.heap.size->w'.heap[b]? = w.heap[b]?:=by
  intro b hb;rw[h1.base b (by omega),hh0];simp only[Gh.fresh0];rw[Array.getElem?_append_left hb]
 have hsz:w.heap.size<=w'.heap.size:=he.size;have lt:∀ {b L},G.lim b=some L->b<w.heap.size:=fun e=>by
  obtain⟨vs,T,fr,q,_⟩:=hS.lim _ _ e;exact (Array.getElem?_eq_some_iff.1 q).1
 have nlnone:∀ {b},b<w.heap.size->G.lim b=none->nl b=none:=by
  intro b hb e;rcases hn b hb with h|⟨L,L',q,_⟩
  ·rw[h,e]
  ·rw[q] at e;cases e
 have hev:Evo G w { G with lim:=nl } w':=by
  refine⟨fun _ _ h=>h,fun b L e=>?_,fun t b n c e=>⟨b,n,c,e,Nat.le_refl _,fun _=>⟨rfl,rfl⟩⟩,fun _ _ _ _ e=>e,fun _ e=>e,rfl,rfl,he.os,he.tape,he.output,hsz,fun _ _ e=>e⟩;have hb:=lt e;have hc:∀ k,k<L->w'.cell? ⟨b,k,none⟩=w.cell? ⟨b,k,none⟩:=by
   intro k _;obtain⟨vs,T,fr,q,_⟩:=hS.lim _ _ e;rw[cell_of_row w b k vs T fr q,cell_of_row w' b k vs T fr (by rw[heap b hb];exact q)]
  rcases hn b hb with h|⟨L1,L',q,_,q2,q3,_⟩
  ·exact⟨L,by show nl b=some L;rw[h,e],Nat.le_refl _,hc⟩
  ·rw[e] at q;cases q;exact⟨L',q2,q3,hc⟩
 refine⟨⟨hS.lt,fun id b x e1 e2=>(hS.blk id b x e1 e2).mono hev (heap b (hS.fresh _ _ e1).2.1),hS.inj,fun id b e=>?_,fun b L e=>?_,fun t b n c e=>?_,fun b t e=>?_,fun r e=>?_,fun b hb=>?_,Nat.le_trans hS.size hsz,hS.res⟩,hev⟩
 ·obtain⟨q1,q2,q3,q4⟩:=hS.fresh id b e;exact⟨q1,by omega,nlnone q2 q3,q4⟩
 ·have e:nl b=some L:=e;by_cases hb:b<w.heap.size
  ·rcases hn b hb with h|⟨L1,L',q,_,q2,q3,q4⟩
   ·rw[h] at e;obtain⟨vs,T,fr,p1,p2,p3⟩:=hS.lim b L e;exact⟨vs,T,fr,by rw[heap b hb];exact p1,p2,p3⟩
   ·rw[q2] at e;cases e;obtain⟨vs,T,fr,p1,p2,p3⟩:=h1.lim b _ q4;obtain⟨_,_,_,_,_,p6⟩:=hS.lim b _ q;exact⟨vs,T,fr,p1,p2,p6⟩
  ·rw[hn2 b (by omega)] at e;obtain⟨vs,T,fr,p1,p2,p3⟩:=h1.lim b L e;exact⟨vs,T,fr,p1,p2,fun hlt=>absurd (Nat.lt_of_lt_of_le hlt hS.size) hb⟩
 ·obtain⟨sz,ex,q1,q2,q3,q4⟩:=hS.tok t b n c e;refine⟨sz,ex,q1,q2,q3,fun hx=>?_⟩;obtain⟨bb,vs,T,r1,r2,r3,r4,r5,r6⟩:=q4 hx;have hb:=lt r3;refine⟨bb,vs,T,r1,r2,?_,r4,by rw[heap bb hb];exact r5,r6⟩;rcases hn bb hb with h|⟨_,_,_,q,_⟩
  ·show nl bb=_;rw[h,r3]
  ·exact absurd r2 (q t)
 ·obtain⟨q1,q2⟩:=hS.own b t e;exact⟨by omega,q2⟩
 ·obtain⟨q1,q2,q3⟩:=hS.defs r e;have hr:=(Array.getElem?_eq_some_iff.1 q1).1;exact⟨by rw[heap r hr];exact q1,q2,nlnone hr q3⟩
 ·rw[heap b (Nat.lt_of_lt_of_le hb hS.size)];exact hS.base b hb
theorem w6{args:List AV}{vs:Array Value}(f:AV->AV)(hf:∀ (i:Nat) (x:AV) (u:Value),args[i]? = some x->vs[i]? = some u->RelV G' w (f x) u)(h:vs.size=args.length):eH G' w (args.map f) vs:=by
 refine⟨by simp[h],fun i x u e1 e2=>?_⟩;rw[List.getElem?_map] at e1;cases e:args[i]? with
 |none=>rw[e] at e1;cases e1
 |some y=>rw[e] at e1;cases e1;exact hf i y u e e2
theorem JI{f:FuncId}{args args0:List AV}(hf:okVs 0 args)(h0:args0=args\/args0=clrs args)(h:b8 P hh (.call f args0 []) R)(h1:∀ o,R o->o.σ=[]/\Q ⟨none,[],σ,o.v⟩):b8 P hh (.call f args σ) Q:=by
 refine⟨h.1,fun {G w vs} ha hS=>?_⟩
 let old:Nat->Prop:=fun b=>(∃ L,G.lim b=some L)/\∀ t,G.own b≠some t
 let lim:Nat->Option Nat:=fun b=>match G.own b with|none=>G.lim b|some _=>none
 have hlim:∀ {b L},lim b=some L->G.lim b=some L/\∀ t,G.own b≠some t:=by
  intro b L e;simp only[lim] at e;split at e
  ·rename_i hn;exact⟨e,fun t e'=>by rw[hn] at e';cases e'⟩
  ·cases e
 have hrel0:RelS P hh (G.fresh0 w lim old) w []:=tN fun b L e=>by
  obtain⟨q1,q2⟩:=hlim e;obtain⟨vs,T,fr,p1,p2,_⟩:=hS.lim b L q1;exact⟨⟨⟨L,q1⟩,q2⟩,vs,T,fr,p1,p2⟩
 have hv:∀ (i:Nat) (x:AV) (u:Value),args[i]? = some x->vs[i]? = some u->RelV (G.fresh0 w lim old) w x u:=fun i x u e1 e2 =>
  (ha.2 i x u e1 e2).free (fun b L q1 q2=>⟨L,by
   show lim b=_
   simp only[lim];cases e:G.own b with
   |none=>exact q1
   |some t=>exact absurd e (q2 t),Nat.le_refl _⟩) (fun _ _ _ _ t e=>by cases e) (eZ hf e1)
 have ha0:eH (G.fresh0 w lim old) w args0 vs:=by
  rcases h0 with rfl|rfl
  ·exact⟨ha.1,hv⟩
  ·rw[fK];exact w6 clr (fun i x u e1 e2=>(hv i x u e1 e2).clr) ha.1
 refine (h.2 ha0 hrel0).mono fun e w' hr=>?_
 obtain⟨r,G1,u,rfl,q1,q2,q3,q4⟩:=hr;obtain⟨hσ,hq⟩:=h1 r q1;rw[hσ] at q3;have hB:G1.B0=w.heap.size:=q4.B0;have hold:∀ {b L},b<w.heap.size->G1.lim b=some L->old b:=by
  intro b L hb e;obtain⟨_,_,_,_,_,p⟩:=q3.lim b L e;have:=p (by omega);rw[hB,show G1.h0=_ from q4.h0] at this;exact (AX hb).1 this
 let nl:Nat->Option Nat:=fun b=>if b<w.heap.size then (match G.own b,G.lim b with|none,some _=>G1.lim b|_,l=>l) else G1.lim b
 have hg:=CL hS q3 q4 nl (fun b hb=>by
  simp only[nl,hb,if_true];cases e1:G.own b with
  |some t=>left;rfl
  |none =>
   cases e2:G.lim b with
   |none=>left;rfl
   |some L =>
    right;obtain⟨L',p1,p2,_⟩:=q4.lim b L (by show lim b=_;simp only[lim,e1,e2])
    exact⟨L,L',rfl,(fun t e=>by cases e),p1,p2,p1⟩) (fun b hb=>by simp only[nl];rw[if_neg (by omega)])
 refine⟨_,{ G with lim:=nl },u,rfl,hq,?_,hg.1,hg.2⟩;refine q2.free (fun b L p1 p2=>⟨L,?_,Nat.le_refl _⟩) (fun b L p1 p2 t e=>?_) (q2.ok q3)
 ·show nl b=_
  simp only[nl];split
  ·rename_i hb;obtain⟨⟨L0,s1⟩,s2⟩:=hold hb p1;cases e:G.own b with
   |some t=>exact absurd e (s2 t)
   |none=>rw[s1];exact p1
  ·exact p1
 ·have e:G.own b=some t:=e;have hb:=(hS.own b t e).1;exact (hold hb p1).2 t e
theorem F5{f:FuncId}{args args0 as1:List AV}{d:Nat}(hf:snaps σ 0 d args=some as1)(h0:args0=as1\/args0=clrs as1)(h:b8 P hh (.call f args0 []) R)(h1:∀ o,R o->o.σ=[]/\Scal o.v/\Q ⟨none,[],σ,o.v⟩):
    b8 P hh (.call f args σ) Q:=by
  refine⟨h.1,fun {G w vs} ha hS=>?_⟩;have hL:=lT (m:=0) hS G.res;obtain⟨lim,hlimeq⟩:∃ lim,lim=(G.cut w σ 0 G.res).lim:=⟨_,rfl⟩;have hrel0:RelS P hh (G.fresh0 w lim fun _=>True) w []:=tN fun b L e=>by
    rw[hlimeq] at e;refine⟨trivial,?_⟩;cases hn:G.lim b with
    |some L' =>
      have:(G.cut w σ 0 G.res).lim b=some L':=by simp[Gh.cut,hn]
      rw[this] at e;cases e;obtain⟨vs,T,fr,p1,p2,_⟩:=hS.lim b _ hn;exact⟨vs,T,fr,p1,p2⟩
    |none =>
      obtain⟨rfl,id,cs,p1,p2,p3⟩:=u3 e hn;obtain⟨vs,T,q,l,_⟩:=hS.blk _ _ _ p2 p3;exact⟨vs,T,(0,0),q,by simp[oE,q]⟩
  have hL':Last σ G 0 (G.fresh0 w lim fun _=>True) :=
    { loc:=fun id b h _=>absurd h (by omega),lim:=fun b L e=>by obtain⟨L',q⟩:=hL.lim b L e;exact⟨L',by rw[hlimeq.symm] at q;exact q⟩,tok:=fun t p h _=>absurd h (by omega),own:=fun b t e=>(by cases e),
      frz:=fun id b cs h1 h2 h3=>by
        obtain⟨⟨L,q1,q2⟩,_⟩:=hL.frz id b cs h1 h2 h3
        exact⟨⟨L,by rw[hlimeq.symm] at q1;exact q1,q2⟩,fun t e=>by cases e⟩ }
  obtain⟨hlen,hsp⟩:=cT hf;have hv:∀ (i:Nat) (y:AV) (u:Value),as1[i]? = some y->vs[i]? = some u->RelV (G.fresh0 w lim fun _=>True) w y u:=fun i y u e1 e2=>by
    obtain⟨x,p1,p2⟩:=nQ hf e1;exact oX hS hL' d p2 (ha.2 i x u p1 e2)
  have ha0:eH (G.fresh0 w lim fun _=>True) w args0 vs:=by
    rcases h0 with rfl|rfl
    · exact⟨by rw[hlen];exact ha.1,hv⟩
    · rw[fK];exact w6 clr (fun i x u e1 e2=>(hv i x u e1 e2).clr) (by rw[hlen];exact ha.1)
  refine (h.2 ha0 hrel0).mono fun e w' hr=>?_
  obtain⟨r,G1,u,rfl,q1,q2,q3,q4⟩:=hr;obtain⟨hσ,hs,hq⟩:=h1 r q1;rw[hσ] at q3;have hg:=CL hS q3 q4 (fun b=>if b<w.heap.size then G.lim b else G1.lim b) (fun b hb=>by left;simp[hb]) (fun b hb=>by simp;omega);exact⟨_,_,u,rfl,hq,q2.scal hs,hg.1,hg.2⟩
end Go.Am
namespace Go.Am
variable {P:Program} {hh:String->Bool} {G G0 G1 G':Gh} {w w0 w1 w':World} {σ σ' σ1:St} {env env':Env} {n m m':Nat} {v:AV} {a:Act} {Q R S:Out->Prop}
theorem W9(env:Env)(t:Nat):Env.get env t = .undef\/∃ p∈env,p.1=t/\Env.get env t=p.2:=by
 induction env with
 |nil=>exact .inl rfl
 |cons p env ih =>
  obtain⟨k,v⟩:=p;by_cases hk:k=t
  ·exact .inr ⟨(k,v),by simp,hk,by simp[Env.get,hk]⟩
  ·rcases ih with h|⟨p,q1,q2,q3⟩
   ·exact .inl (by simp[Env.get,hk,h])
   ·exact .inr ⟨p,by simp[q1],q2,by simp[Env.get,hk,q3]⟩
theorem OC{c:ACode}(h:b8 P hh (.code c env σ) R)(h1:∀ o,R o->∃ env' m,aBL σ o.env o.σ env' m/\Q ⟨o.j,env',o.σ.take m,o.v⟩):b8 P hh (.code c env σ) Q:=by
 intro F n cd G w a B f1 f2 f3 f4 f5 f6;have he0:=i6 f4;refine (h f1 f2 (f3.ghost (G':=G.shut σ) rfl rfl rfl rfl) f4.shut (f5.mono fun r e=>e) f6).mono fun e a' w' hp=>?_
 obtain⟨o,G1,q1,q2,q3,q4,q5,q6⟩:=hp;obtain⟨env',m,⟨t1,t2,t3,t4⟩,hq⟩:=h1 o q1;have hkept:aAE σ o.σ m:=⟨t1,t2,t4⟩;have hless:=(lT (m:=m) q4 G.res).toLess;refine⟨_,G1.cut w' o.σ m G.res,hq,q2,⟨q3.1,fun t=>?_⟩,FL f4 q5 q4 hkept,vI f4 q5 q4 t1,q6.mono fun r e=>e⟩;rcases W9 env' t with hu|⟨p,p1,p2,p3⟩
 ·show RelV _ _ (Env.get env' t) _
  rw[hu];exact .undef _
 ·show RelV _ _ (Env.get env' t) _
  obtain⟨g1,g2⟩:=t3 p p1;rw[p3];have:=q3.2 t;rw[<-p2,<-g1] at this;rw[<-p2];exact this.less hless g2
theorem IP{c:ACode}(t sz:Nat)(xs:List AV)(ht:Env.get env t = .lit xs true none)(h:b8 P hh (.code c ((t,.lit xs false (some σ.length))::env) (σ++[.tok sz xs.length false])) Q):b8 P hh (.code c env σ) Q:=by
 intro F n cd G w a B f1 f2 f3 f4 f5 f6;have hr:=f3.2 t;rw[ht] at hr;generalize hu:a.tmps.getD t undef=u at hr;obtain⟨base,cap,rfl,htk,hbn⟩:=iQ hr;have hcap:=htk.2.1 rfl;obtain⟨G1,hG1⟩:∃ G1:Gh,G1={ G with tok:=fun i=>if i=σ.length then some (base,xs.length,xs.length) else G.tok i }:=⟨_,rfl⟩;have hlt:∀ {t b n c},G.tok t=some (b,n,c)->t<σ.length:=fun e=>by
  obtain⟨_,_,q,_⟩:=f4.tok _ _ _ _ e;exact (List.getElem?_eq_some_iff.1 q).1
 have he:Evo G w G1 w:=by
  rw[hG1];refine⟨fun _ _ h=>h,fun b L h=>⟨L,h,Nat.le_refl _,fun _ _=>rfl⟩,fun t b n c e=>⟨b,n,c,?_,Nat.le_refl _,fun _=>⟨rfl,rfl⟩⟩,fun _ _ _ _ h=>h,fun _ h=>h,rfl,rfl,rfl,rfl,rfl,Nat.le_refl _,fun _ _ h=>h⟩;have:=hlt e;simp only[show t≠σ.length by omega,if_false];exact e
 have hS1:RelS P hh G1 w (σ++[.tok sz xs.length false]):=by
  have hm:=f4.more [.tok sz xs.length false];rw[hG1] at he ⊢;refine⟨hm.lt,fun id b x e1 e2=>(hm.blk id b x e1 e2).mono he rfl,hm.inj,hm.fresh,hm.lim,fun t' b k c e=>?_,fun b t' e=>?_,hm.defs,hm.base,hm.size,hm.res⟩
  ·by_cases ht':t'=σ.length
   ·subst ht';simp only[if_true,Option.some.injEq,Prod.mk.injEq] at e;obtain⟨rfl,rfl,rfl⟩:=e;exact⟨sz,false,by simp,Nat.le_refl _,fun _=>rfl,fun h=>by cases h⟩
   ·simp only[ht',if_false] at e;exact hm.tok _ _ _ _ e
  ·obtain⟨q1,p,q2⟩:=hm.own b t' e;refine⟨q1,p,?_⟩;obtain⟨b',n',c'⟩:=p;have:=hlt q2;simp only[show t'≠σ.length by omega,if_false];exact q2
 have hv:RelV G1 w (.lit xs false (some σ.length)) (.slice base xs.length cap):=by
  have htk':kH G1 false (some σ.length) xs.length base cap:=by
   refine⟨htk.1,by simp,fun t' e=>?_⟩;cases e;exact⟨base,xs.length,xs.length,by rw[hG1];simp,Nat.le_refl _,fun _ _=>⟨rfl,hcap.symm⟩⟩
  have hr1:=hr.mono he;cases hr1 with
  |nil _ hb=>exact .nil htk' hb
  |lit _ hl hc =>
   refine .lit htk' ⟨hl.lim,fun t' e=>?_,hl.size,hl.cells⟩ hc;have:=hl.own t' e;cases this
 have hE1:dS G1 w n ((t,.lit xs false (some σ.length))::env) a.tmps:=by
  refine⟨f3.1,fun t'=>?_⟩;by_cases htt:t=t'
  ·subst htt;rw[hu];simpa[Env.get] using hv
  ·simpa[Env.get,htt] using (f3.2 t').mono he
 exact (h f1 f2 hE1 hS1 (f5.mono he.defs) f6).mono fun e a w=>nE.lift he
theorem xK:∀ (args:List AV) (k t:Nat),Env.get (dX k args) t=if k<=t then (args[t-k]?).getD .undef else .undef
 |[],k,t=>by simp[dX,Env.get]
 |v::vs,k,t=>by
  simp only[dX,Env.get];by_cases hk:k=t
  ·subst hk;simp
  ·rw[if_neg hk,xK vs (k+1) t];by_cases hlt:k<=t
   ·rw[if_pos hlt,if_pos (by omega),show t-k=(t-(k+1))+1 by omega];rfl
   ·rw[if_neg hlt,if_neg (by omega)]
theorem QW{args:List AV}{vs:Array Value}(h:eH G w args vs)(hn:args.length<=n):dS G w n (dX 0 args) (vs++Array.replicate (n-vs.size) undef):=by
 refine⟨by have:=h.1;simp;omega,fun t=>?_⟩;rw[xK];simp only[Nat.zero_le,if_true,Nat.sub_zero];cases e:args[t]? with
 |none=>simpa using .undef _
 |some x =>
  have ht:t<vs.size:=by rw[h.1];exact (List.getElem?_eq_some_iff.1 e).1
  have:=h.2 t x vs[t] e (Array.getElem?_eq_getElem ht);simpa[Array.getD_eq_getD_getElem?,Array.getElem?_append_left ht,Array.getElem?_eq_getElem ht] using this
theorem BQ{fn:Func}{af:AFunc}(h:iY P hh fn=some af):
  ∃ c,fn.body=some c/\comp P hh fn.ntmps c=some af.body/\kX P fn.results.toList=some af.results/\(fn.name== "runtime.NumGoroutine")=false/\af.ntmps=fn.ntmps:=by
 unfold iY at h
 split at h
 ·cases h
 ·rename_i c hb
  split at h
  ·rename_i b rs h1 h2
   split at h
   ·cases h
   ·rename_i hname
    cases h
    exact⟨c,hb,h1,h2,by simpa using hname,rfl⟩
  ·cases h
theorem OO{T:FuncId->Option AFunc}(hT:∀ f af,T f=some af->∃ fn,P.funcs[f]? = some fn/\iY P hh fn=some af){f:FuncId}{args:List AV}{af:AFunc}(hf:T f=some af)(hn:args.length<=af.ntmps)(h:b8 P hh (.code af.body (dX 0 args) σ) R)(h1:∀ o,R o->(o.j=none\/o.j=some .ret)/\∃ v,eQ af.results o.env o.σ=some v/\G5 σ o.σ v Q):b8 P hh (.call f args σ) Q:=by
 obtain⟨fn,hfn,hcomp⟩:=hT f af hf
 obtain⟨c,hb,hc,hres,hname,hnt⟩:=BQ hcomp
 have hname':¬fn.name = "runtime.NumGoroutine":=by simpa using hname
 refine⟨fun vs w=>by simp[callFunc,hfn,hname',hb],fun {G w vs} ha hS=>?_⟩
 refine callsIn_of_wp_marks hfn hb trivial (wpIn_mono (h (F:=Fence.wide) (cd:=c) (n:=fn.ntmps) (G:=G.shut σ) (w:=w) (a:={ tmps:=vs++Array.replicate (fn.ntmps-vs.size) undef,defers:=[] }) (B:=w.heap.size) (.inl rfl) hc ((QW ha (by omega)).ghost rfl rfl rfl rfl) hS.shut
  ⟨[],rfl,List.nodup_nil,fun r hr=>by cases hr⟩ (Nat.le_refl _)).wpIn fun e a' w' hp=>?_)
 obtain⟨o,G1,q1,rfl,q3,q4,q5,rs,m1,m2,m3⟩:=hp
 obtain⟨hj,v,hv,hl⟩:=h1 o q1
 have hleave:LeavesInM Fence.wide 0 P fn a'.tmps (fun e w'=>∃ r G' u,e = .returned u/\Q r/\RelV G' w' r.v u/\RelS P hh G' w' r.σ/\Evo G w G' w') a'.defers .returning w':=by
  rw[m1]
  refine wY rs m2 (fun r hr=>⟨(m3 r hr).1,fun e=>?_⟩) q4 q3 q5 fun G2 w2 s1 s2 s3=>?_
  ·have:=(Array.getElem?_eq_some_iff.1 (hS.defs r e).1).1
   have:=(m3 r hr).2
   omega
  ·obtain⟨u,r1,r2⟩:=BM s2 s1 hres hv
   obtain⟨o2,G3,t1,t2,t3,t4⟩:=FK hS s3 s1 r2 hl
   exact⟨u,r1,o2,G3,u,rfl,t1,t2,t3,t4⟩
 rcases hj with hj|hj<;>rw[hj]<;>exact hleave
theorem RelS.newDef(h:RelS P hh G w σ):RelS P hh { G with defs:=fun x=>G.defs x\/x=w.heap.size } (w.alloc (.deferred (some []))) σ /\
  Evo G w { G with defs:=fun x=>G.defs x\/x=w.heap.size } (w.alloc (.deferred (some []))):=by
 have h1:=h.alloc (.deferred (some []));have he:=iN h (.deferred (some []))
 refine⟨⟨h1.lt,fun id b x e1 e2=>(h1.blk id b x e1 e2).ghost rfl rfl rfl rfl,h1.inj,fun id b e=>?_,h1.lim,h1.tok,h1.own,fun r e=>?_,h1.base,h1.size,h1.res⟩,
  ⟨he.loc,he.lim,he.tok,he.own,fun r e=>.inl e,he.B0,he.h0,he.os,he.tape,he.output,he.size,he.res⟩⟩
 ·obtain⟨q1,q2,q3,q4⟩:=h1.fresh id b e;refine⟨q1,q2,q3,fun hd=>hd.elim q4 fun e'=>?_⟩;have:=(h.fresh id b e).2.1;omega
 ·rcases e with e|rfl
  ·exact h1.defs r e
  ·refine⟨by rw[cV,if_pos rfl],h.size,?_⟩;cases e:G.lim w.heap.size with
   |none=>rfl
   |some L=>have:=nZ h e;omega
theorem rA(w:World)(g:Nat)(o:Obj):Part g w (w.putObj g o):=iM w g o
theorem yR{f:AOpd}{g:FuncId}{first cap:List AV}{ps:List Nat}{x y:ACode}(hf:f.ev env = .func g first cap)(h:b8 P hh (.call g (first++[.yield σ.length]++cap) (σ++[.loop .ready none env ps x y])) R)(h1:∀ o,R o->∃ st pend env' ps' a' b',o.σ[σ.length]? = some (.loop st pend env' ps' a' b')/\st≠.busy/\Q ⟨pend,env,o.σ.set σ.length .dead,.undef⟩):b8 P hh (.code (.rangeFunc f ps x y) env σ) Q:=by
 intro F n cd G w a B f1 f2 f3 f4 f5 f6;obtain⟨fo,pa,c,d,rfl,c1,c2,c3,rfl,c5,c6,c7⟩:=I1 f2;have hF:F=Fence.wide:=by
  rcases f1 with h|⟨l,_,h⟩
  ·exact h
  ·simp[mF] at h
 subst hF;refine wpIn_rangeFunc fun fn _=>?_
 obtain⟨hD,heD⟩:=f4.newDef;obtain⟨GD,hGD⟩:∃ GD:Gh,GD={ G with defs:=fun z=>G.defs z\/z=w.heap.size }:=⟨_,rfl⟩;rw[<-hGD] at hD heD;obtain⟨rec,hrec⟩:∃ rec:Loop,rec={ state:=.ready,pending:=none,fn,tmps:=a.tmps,params:=pa,assign:=c,body:=d,defers:=w.heap.size }:=⟨_,rfl⟩;have hED:=f3.mono heD;obtain⟨hL,heL⟩:=rT (o:=.loop rec) hD (x:=.loop .ready none env pa.toList x y) fun G' he' =>
  ⟨rec,n,by rw[cV,if_pos rfl],by rw[hrec];rfl,by rw[hrec];rfl,by rw[hrec],by rw[hrec];exact c2,by rw[hrec];exact c3,c5,by rw[show rec.tmps=a.tmps by rw[hrec]];exact hED.mono he',by rw[hrec];exact⟨c6,c7⟩⟩
 rw[show (w.alloc (.deferred (some []))).heap.size=w.heap.size+1 from by simp] at hL heL;have hr:=bR (a:=a) c1 f3;rw[hf] at hr;have heGL:=heD.trans heL;have hr2:=hr.mono heGL;generalize hfu:a.eval fo=fu at hr2;cases hr2 with
 |@func _ _ _ first' cap' e1 e2 e3 e4 =>
  refine⟨w.heap.size+1,[zB w.heap.size],(w.alloc (.deferred (some []))).alloc (.loop rec),{ target:=.fn (.func g) cap',args:=first'++#[.func (.yield (w.heap.size+1)) #[] #[]] },(w.alloc (.deferred (some []))).alloc (.loop rec),g,
   first'++#[.func (.yield (w.heap.size+1)) #[] #[]]++cap',(w.alloc (.deferred (some []))).alloc (.loop rec),?_,?_,fun _ _=>trivial,?_,(fun h0=>by cases h0),?_⟩
  ·rw[hrec];exact run_enterLoop_outer _ _ _ _ _
  ·simp only[resolve,rangeCall];rw[hfu];simp[Deferred.ofValue,Act.eval]
  ·simp[invoke,h.1]
  ·have hargs:eH (GD.withLoc σ.length (w.heap.size+1)) ((w.alloc (.deferred (some []))).alloc (.loop rec)) (first++[.yield σ.length]++cap) (first'++#[.func (.yield (w.heap.size+1)) #[] #[]]++cap'):=by
    refine eH.append (eH.append ⟨e1,e3⟩ ⟨rfl,fun i z u q1 q2=>?_⟩) ⟨e2,e4⟩
    match i with
    |0=>simp at q1 q2;subst q1;subst q2;exact .yield dI
    |_+1=>simp at q1
   refine (h.2 hargs hL).mono fun e w3 hr3=>?_
   obtain⟨o,G3,u,rfl,q1,q2,q3,q4⟩:=hr3;obtain⟨st,pend,env',ps',a',b',s1,s2,s3⟩:=h1 o q1;have hloc:G3.loc σ.length=some (w.heap.size+1):=q4.loc _ _ dI;obtain⟨l,k,l1,l2,l3,l4⟩:=q3.blk _ _ _ hloc s1;have hst:l.state≠.busy:=by
    rw[l2];cases st<;>simp[aDY] at s2 ⊢
   have hend:=run_endLoop (P:=P) l1 hst;have hw:=q3.write (y:=.dead) hloc (rA w3 (w.heap.size+1) (.loop { l with state:=.exhausted })) s1 (fun _ _ _ e=>by cases e) trivial;refine⟨_,_,hend,?_⟩;have hevo:=(heGL.trans q4).trans hw.2;have hmarks:nS G3 B ({ a with defers:=[zB w.heap.size]++a.defers }:Act).defers:=by
    obtain⟨rs,m1,m2,m3⟩:=f5;refine⟨w.heap.size::rs,by simp[m1],List.nodup_cons.2 ⟨fun hm=>?_,m2⟩,fun r hr=>?_⟩
    ·have:=(Array.getElem?_eq_some_iff.1 (f4.defs _ (m3 _ hm).1).1).1;omega
    ·rcases List.mem_cons.1 hr with rfl|hr
     ·exact⟨(heL.trans q4).defs _ (by rw[hGD];exact .inr rfl),f6⟩
     ·exact⟨hevo.defs _ (m3 r hr).1,(m3 r hr).2⟩
   have hpost:nE P hh G w n B Q (ON pend) { a with defers:=[zB w.heap.size]++a.defers } (w3.putObj (w.heap.size+1) (.loop { l with state:=.exhausted })) :=
    ⟨_,G3,s3,rfl,f3.mono hevo,hw.1,hevo,hmarks⟩
   rw[l3] at hpost ⊢;cases pend with
   |none=>exact hpost
   |some j =>
    cases j with
    |ret=>exact wpIn_ret hpost
    |exit id=>exact wpIn_exit hpost
theorem yP:∀ {ps:List Nat} {args:List AV} {us:List Value} {env:Env} {tmps:Array Value},ps.length=args.length->us.length=args.length->(∀ p∈ps,p<n) ->
  (∀ (i:Nat) (x:AV) (u:Value),args[i]? = some x->us[i]? = some u->RelV G w x u)->dS G w n env tmps ->
  dS G w n (iH env ps args) ((ps.zip us).foldl (fun tmps (t,a)=>tmps.setIfInBounds t a) tmps)
 |[],[],us,env,tmps,_,_,_,_,hE=>by simpa[iH] using hE
 |[],_::_,us,env,tmps,h,_,_,_,_=>by simp at h
 |_::_,[],us,env,tmps,h,_,_,_,_=>by simp at h
 |p::ps,v::args,[],env,tmps,_,h,_,_,_=>by simp at h
 |p::ps,v::args,u::us,env,tmps,h1,h2,h3,h4,hE=>by
  simp only[iH,List.zip_cons_cons,List.foldl_cons];refine yP (by simpa using h1) (by simpa using h2) (fun q hq=>h3 q (List.mem_cons_of_mem _ hq)) (fun i x u e1 e2=>h4 (i+1) x u (by simpa using e1) (by simpa using e2)) ?_;exact hE.put (a:={ tmps:=tmps,defers:=[] }) (dst:=some p) (fun d e=>by cases e;exact h3 p (by simp)) (h4 0 v u rfl rfl)
theorem GU{r:Nat}{o o':Obj}(hb:w.heap[r]? = some o):(w.putObj r o').heap[r]? = some o':=pX hb
theorem IC{id:Nat}{args:List AV}{ps:List Nat}{x y:ACode}(hl:σ[id]? = some (.loop .ready none env ps x y))(hn:ps.length=args.length)(h:b8 P hh (.code x (iH env ps args) σ) R)(h0:∀ o,R o->o.j=none/\o.σ[id]? = some (.loop .ready none env ps x y))(h1:∀ o,R o->b8 P hh (.code y o.env (o.σ.set id (.loop .busy none env ps x y))) S)(h2:∀ o,S o->o.σ[id]? = some (.loop .busy none env ps x y)/\Q ⟨none,[],o.σ.set id (.loop (if o.j=none then .ready else .done) o.j env ps x y),.bool (decide (o.j=none))⟩):
  b8 P hh (.callv (.yield id) args σ) Q:=by
 intro G w fv vs hf ha hS;cases hf with
 |@yield _ b hloc =>
  obtain⟨l,n,l1,l2,l3,l4,l5,l6,l7,l8,l9,l10⟩:=hS.blk _ _ _ hloc hl;have hy:=run_yield (P:=P) (args:=#[]++vs) l1 (by have:=ha.1;rw[<-l4] at hn;simp at hn ⊢;omega);refine⟨{ target:=.fn (.yield b) #[],args:=#[]++vs },_,w,by simp[Deferred.ofValue],by simp only[invoke];exact hy,fun {F} o a next Qx hF hnext=>?_⟩;rw[Oper.uponIn_round];refine⟨fun e=>absurd e hF.depth,hF.round ?_⟩;have htm:((l.params.zip (#[]++vs)).foldl (fun tmps (t,a)=>tmps.setIfInBounds t a) l.tmps)=((ps.zip vs.toList).foldl (fun tmps (t,a)=>tmps.setIfInBounds t a) l.tmps):=by
   rw[<-Array.foldl_toList,Array.toList_zip,<-l4];simp
  rw[htm];have hE:=yP (G:=G) (w:=w) (env:=env) (tmps:=l.tmps) hn (us:=vs.toList) (by simpa using ha.1) l7 (fun i z u e1 e2=>ha.2 i z u e1 (by simpa using e2)) l8
  refine roundIn_of_wpIn trivial (wpIn_mono (h (F:=Fence.wide.inRound b) (cd:=l.assign) (n:=n) (G:=G) (w:=w) (a:={ tmps:=(ps.zip vs.toList).foldl (fun tmps (t,a)=>tmps.setIfInBounds t a) l.tmps,defers:=[] }) (B:=w.heap.size)
   (.inr ⟨b,rfl,l9⟩) l5 hE hS ⟨[],rfl,List.nodup_nil,fun r hr=>by cases hr⟩ (Nat.le_refl _)).wpIn fun e a1 w1 hp=>?_)
  obtain⟨o1,G1,q1,rfl,q3,q4,q5,q6⟩:=hp;obtain⟨j0,s0⟩:=h0 o1 q1;rw[j0];have hloc1:=q5.loc _ _ hloc;obtain⟨r,n1,r1,r2,r3,r4,r5,r6,r7,r8,r9,r10⟩:=q4.blk _ _ _ hloc1 s0;refine⟨_,run_beginRound r1 r2,?_⟩;have hp1:=rA w1 b (.loop { r with state:=.busy });have hev1:Evo G1 w1 G1 (w1.putObj b (.loop { r with state:=.busy })):=lX hp1 (q4.fresh _ _ hloc1).2.2.1;have hw1:=q4.write (y:=.loop .busy none env ps x y) hloc1 hp1 s0 (fun _ _ _ e=>by cases e)
   ⟨{ r with state:=.busy },n1,GU r1,rfl,r3,r4,r5,r6,r7,r8.mono hev1,r9,r10⟩
  -- the body is the record's,from the first look on
  have hbody:comp P hh n l.body=some y:=l6
  refine wpIn_mono (h1 o1 q1 (F:=Fence.wide.inRound b) (cd:=l.body) (n:=n) (G:=G1) (w:=w1.putObj b (.loop { r with state:=.busy })) (a:=a1) (B:=w.heap.size)
   (.inr ⟨b,rfl,l10⟩) hbody (q3.mono hev1) hw1.1 (q6.mono hev1.defs) (Nat.le_trans q5.size hev1.size)).wpIn fun e2 a2 w2 hp2=>?_
  obtain⟨o2,G2,p1,rfl,p3,p4,p5,p6⟩:=hp2;obtain⟨t0,tq⟩:=h2 o2 p1;have hev2:=(q5.trans hev1).trans p5;have hloc2:=hev2.loc _ _ hloc;obtain⟨z,n2,z1,z2,z3,z4,z5,z6,z7,z8,z9,z10⟩:=p4.blk _ _ _ hloc2 t0;have fin:∀ (jump:Option Code),jump=o2.j.map J2->∃ v w',(Instr.endRound b jump).run P w2 = .ok v w'/\∃ v',Ending.returned v = .returned v'/\next (a.put o.dst v') w':=by
   intro jump hj;have hp2:=rA w2 b (.loop { z with state:=if jump.isNone then .ready else .done,pending:=jump });have hev3:Evo G2 w2 G2 (w2.putObj b (.loop { z with state:=if jump.isNone then .ready else .done,pending:=jump })):=lX hp2 (p4.fresh _ _ hloc2).2.2.1;have hnone:jump.isNone=decide (o2.j=none):=by rw[hj];cases o2.j<;>rfl
   have hw2:=p4.write (y:=.loop (if o2.j=none then .ready else .done) o2.j env ps x y) hloc2 hp2 t0 (fun _ _ _ e=>by cases e)
    ⟨{ z with state:=if jump.isNone then .ready else .done,pending:=jump },n2,GU z1,by
     simp only[hnone]
     by_cases hq:o2.j=none<;>simp[hq,aDY],hj,z4,z5,z6,z7,z8.mono hev3,z9,z10⟩
   refine⟨_,_,run_endRound jump z1,_,rfl,?_⟩;refine hnext _ G2 _ (.bool jump.isNone) tq ?_ hw2.1 (hev2.trans hev3);rw[hnone];exact .bool _
  cases hj:o2.j with
  |none =>
   obtain⟨v,w3,g1,v',g2,g3⟩:=fin none (by rw[hj];rfl);cases g2;exact⟨v,w3,g1,g3⟩
  |some j =>
   cases j with
   |ret =>
    obtain⟨v,w3,g1,v',g2,g3⟩:=fin (some .ret) (by rw[hj];rfl);cases g2;exact⟨v,w3,g1,g3⟩
   |exit id' =>
    obtain⟨v,w3,g1,v',g2,g3⟩:=fin (some (.exit id')) (by rw[hj];rfl);cases g2;exact⟨v,w3,g1,g3⟩
theorem dS.same{tmps:Array Value}(h:dS G w n env' tmps)(he:∀ t,Env.get env t=Env.get env' t):dS G w n env tmps:=⟨h.1,fun t=>by rw[he];exact h.2 t⟩
theorem HY{c:ACode}(he:∀ t,Env.get env t=Env.get env' t)(h:b8 P hh (.code c env' σ) Q):b8 P hh (.code c env σ) Q:=by
 intro F n cd G w a B f1 f2 f3 f4 f5 f6;exact h f1 f2 (f3.same fun t=>(he t).symm) f4 f5 f6
theorem J3{os:List AOper}(he:∀ t,Env.get env t=Env.get env' t)(h:b8 P hh (.ops os env' σ) Q):b8 P hh (.ops os env σ) Q:=by
 intro F n ops l G w a B R f1 f2 f3 f4 f5 f6;exact h f1 f2 (f3.same fun t=>(he t).symm) f4 f5 f6
theorem M1{c:ACode}(he:∀ t,Env.get env' t = .undef\/Env.get env' t=Env.get env t\/Env.get env' t=clr (Env.get env t))(h:b8 P hh (.code c env' σ) Q):b8 P hh (.code c env σ) Q:=by
 intro F n cd G w a B f1 f2 f3 f4 f5 f6;refine h f1 f2 ⟨f3.1,fun t=>?_⟩ f4 f5 f6;rcases he t with e|e|e
 ·rw[e];exact .undef _
 ·rw[e];exact f3.2 t
 ·rw[e];exact (f3.2 t).clr
theorem aHS{T:FuncId->Option AFunc}(hT:∀ f af,T f=some af->∃ fn,P.funcs[f]? = some fn/\iY P hh fn=some af){t:Task}(h:Run T t Q):b8 P hh t Q:=by
 induction h with
 |mono _ hq ih=>exact NJ ih hq
 |skip h=>exact N3 h
 |jump h=>exact OA h
 |seq _ _ h2 ih ih1=>exact T9 ih ih1 h2
 |cond b hc _ ih=>exact N6 b hc ih
 |block _ h1 ih=>exact IU ih h1
 |loop _ _ h2 ih ih1=>exact M9 ih ih1 h2
 |scope _ ih=>exact JA ih
 |reg _ ih=>exact WC ih fun _ _=>trivial
 |dreg _ ih=>exact NE ih
 |rangeFunc hf _ h1 ih=>exact yR hf ih h1
 |trim _ h1 ih=>exact OC ih h1
 |trim2 _ h1 ih=>exact KG ih h1
 |frame hf h0 _ h1 ih=>exact JI hf h0 ih h1
 |frameS hf h0 _ h1 ih=>exact F5 hf h0 ih h1
 |chainNil h=>exact BJ h
 |chainCons _ _ h2 ih ih1=>exact yT ih ih1 h2
 |chain _ h1 h2 _ ih ih1=>exact IZ ih h1 h2 ih1
 |ghost t sz xs ht _ ih=>exact IP t sz xs ht ih
 |reenv he _ ih=>exact HY he ih
 |weak he _ ih=>exact M1 he ih
 |reops he _ ih=>exact J3 he ih
 |nil h=>exact PT h
 |off hw _ ih=>exact RF hw ih
 |step hw ha _ ih=>exact OD hw ha ih
 |stepc hw ho _ _ ih ih1=>exact IW hw ho ih ih1
 |stepm hw ho hx hl he hn _ _ ih0 ih1=>exact KI hw ho hx hl he hn ih0 ih1
 |dnil hr h=>exact M3 hr h
 |doff hw _ ih=>exact OY hw ih
 |dalloc hw ho _ ih=>exact E1 hw ho ih
 |dpure hw hk ha _ ih=>exact IN hw hk ha ih
 |dread hw hk ha _ ih=>exact IB hw hk ih
 |dact hw hk ha _ ih=>exact O5 hw hk ha ih
 |dcall hw ho _ _ ih ih1=>exact I0q hw ho ih ih1
 |callf _ ih=>exact BB ih
 |round hl hn _ h0 _ h2 ih ih1=>exact IC hl hn ih h0 ih1 h2
 |call hf hn _ h1 ih=>exact OO hT hf hn ih h1
end Go.Am
namespace Go.Am
variable {P:Program} {hh:String->Bool}
def Gh.start(w:World):Gh:=⟨fun _=>none,fun _=>none,fun _=>none,fun _=>none,fun _=>False,w.heap.size,w.heap,fun _=>none⟩
end Go.Am
namespace Go.Am
open Go.ChangeShapes Go.WideShapes Go.ChangeAt Go.RowKit
variable {P:Program} {hh:String->Bool} {H:Type} {enc:TypeId×Value->H} {w:World} {sp:Nat->Bool} {held:Bool}
def mkV(P:Program)(t:TypeId)(cs:List AV):AV:=match P.underlying t with
 |some (.struct _)=>.agg cs
 |some (.array _ _)=>.agg cs
 |_=>cs.headD .undef
def Typ(P:Program):Nat->TypeId->List AV->Prop
 |0,_,_=>False
 |n+1,t,cs =>
  match P.underlying t with
  |some .bool=>∃ b,cs=[.bool b]
  |some (.int k)=>∃ m,cs=[.int k m]/\(Lit.int k m).wf=true
  |some .string=>∃ s:ByteArray,cs=[.str s]/\s.size<=maxLen
  |some (.slice e)=>∃ ys:List (List AV),cs=[.lit (ys.map (mkV P e)) false none]/\(ys.length<=maxLen/\ys.length*P.bytesOf e<=reachBytes)/\∀ y∈ys,Typ P n e y
  |some (.struct fs)=>∃ parts:List (List AV),cs=parts.flatten/\parts.length=fs.toList.length/\∀ (i:Nat) f p,fs.toList[i]? = some f->parts[i]? = some p->Typ P n f.type p
  |some (.array k e)=>∃ parts:List (List AV),cs=parts.flatten/\parts.length=k/\∀ p∈parts,Typ P n e p
  |_=>False
def I8(P:Program):Nat->TypeId->Bool
 |0,_=>false
 |n+1,t =>
  match P.underlying t with
  |some .bool|some (.int _)|some .string=>true
  |some (.slice e)=>decide (0<P.cellsOf e)&&I8 P n e
  |some (.struct fs)=>fs.toList.all fun f=>I8 P n f.type
  |some (.array _ e)=>I8 P n e
  |_=>false
def T8(w:World)(b:Nat):Option Nat:=match w.heap[b]? with
 |some (.cells vs _ _)=>some vs.size
 |_=>none
noncomputable def zT(w:World):Gh:=(Gh.start w).fresh0 w (T8 w) fun b=>∃ L,T8 w b=some L
theorem U3(w:World):RelS P hh (zT w) w []:=tN fun b L e=>by
 refine⟨⟨L,e⟩,?_⟩;unfold T8 at e;split at e
 ·rename_i vs T fr h;simp only[Option.some.injEq] at e;exact⟨vs,T,fr,h,by omega⟩
 ·cases e
def vG(G:Gh)(w:World)(az:List AV)(cs:List Value):Prop:=az.length=cs.length/\∀ (i:Nat) a v,az[i]? = some a->cs[i]? = some v->RelV G w a v
theorem vG.nil{G:Gh}:vG G w [] []:=⟨rfl,by simp⟩
theorem vG.app{G:Gh}{az bs:List AV}{cs ds:List Value}(h:vG G w az cs)(k:vG G w bs ds):vG G w (az++bs) (cs++ds):=by
 refine⟨by simp[h.1,k.1],fun i a v e1 e2=>?_⟩;by_cases hi:i<az.length
 ·rw[List.getElem?_append_left hi] at e1;rw[List.getElem?_append_left (by rw[<-h.1];exact hi)] at e2;exact h.2 i a v e1 e2
 ·rw[List.getElem?_append_right (by omega)] at e1;rw[List.getElem?_append_right (by rw[<-h.1];omega),<-h.1] at e2;exact k.2 _ a v e1 e2
theorem vG.one{G:Gh}{a:AV}{v:Value}(h:RelV G w a v):vG G w [a] [v]:=⟨rfl,fun i x u e1 e2=>by
 cases i with
 |zero=>simp at e1 e2;subst e1;subst e2;exact h
 |succ i=>simp at e1⟩
theorem N4{n:Nat}{t:TypeId}{cs:List AV}(h:Typ P n t cs):(mkV P t cs).cells=cs:=by
 cases n with
 |zero=>exact h.elim
 |succ n =>
  simp only[Typ] at h;unfold mkV;split at h
  ·rename_i hu;rw[hu];obtain⟨b,rfl⟩:=h;rfl
  ·rename_i hu;rw[hu];obtain⟨b,rfl,_⟩:=h;rfl
  ·rename_i hu;rw[hu];obtain⟨b,rfl,_⟩:=h;rfl
  ·rename_i hu;rw[hu];obtain⟨b,rfl,_⟩:=h;rfl
  ·rename_i hu;rw[hu];rfl
  ·rename_i hu;rw[hu];rfl
  ·exact h.elim
theorem UR{a:Addr}{v:Value}(h:w.cell? a=some v)(n:Nat):a.add n=⟨a.block,a.off+n,none⟩:=by
 have hs:a.spot=none:=by
  unfold World.cell? at h;split at h
  ·split at h
   ·cases h
   ·rename_i hs;simpa using hs
  ·cases h
 obtain⟨b,o,s⟩:=a;simp only at hs;subst hs;unfold Addr.add;split
 ·rename_i h0;simp[h0]
 ·rfl
theorem aAD{b o:Nat}{v:Value}(h:w.cell? ⟨b,o,none⟩=some v):∃ L,T8 w b=some L/\o<L:=by
 unfold World.cell? at h;split at h
 ·rename_i c T fr hb;refine⟨c.size,by simp only at hb;simp[T8,hb],?_⟩;simp at h;exact (Array.getElem?_eq_some_iff.1 h).1
 ·cases h
theorem O7{G:Gh}{n:Nat}{cs:List Value}:∀ (fl:List Field) (o:Nat),(∀ (j:Nat) f,fl[j]? = some f->f.offset=o+((fl.take j).map fun f=>P.cellsOf f.type).sum)->cs.length=o+(fl.map fun f=>P.cellsOf f.type).sum ->
  (∀ f∈fl,∃ az,Typ P n f.type az/\vG G w az ((cs.drop f.offset).take (P.cellsOf f.type))) ->
  ∃ parts:List (List AV),parts.length=fl.length/\(∀ (i:Nat) f p,fl[i]? = some f->parts[i]? = some p->Typ P n f.type p)/\vG G w parts.flatten (cs.drop o)
 |[],o,_,hl,_=>⟨[],rfl,by simp,by
   have:cs.drop o=[]:=List.drop_of_length_le (by simp at hl;omega)
   rw[this];exact .nil⟩
 |f::fl,o,ho,hl,ht=>by
  have h0:=ho 0 f rfl;simp only[List.take_zero,List.map_nil,List.sum_nil,Nat.add_zero] at h0;simp only[List.map_cons,List.sum_cons] at hl;obtain⟨az,h1,h2⟩:=ht f (by simp)
  obtain⟨parts,q1,q2,q3⟩:=O7 fl (o+P.cellsOf f.type) (fun j g hj=>by
   have:=ho (j+1) g (by simpa using hj);simp only[List.take_succ_cons,List.map_cons,List.sum_cons] at this
   omega) (by omega) fun g hg=>ht g (List.mem_cons_of_mem _ hg)
  refine⟨az::parts,by simp[q1],fun i g p e1 e2=>?_,?_⟩
  ·cases i with
   |zero=>simp at e1 e2;subst e1;subst e2;exact h1
   |succ i=>exact q2 i g p (by simpa using e1) (by simpa using e2)
  ·rw[List.flatten_cons];have e:cs.drop o=(cs.drop o).take (P.cellsOf f.type)++cs.drop (o+P.cellsOf f.type):=by
    rw[<-List.drop_drop,List.take_append_drop]
   rw[e];rw[h0] at h2;exact h2.app q3
theorem aBO{G:Gh}{m:Nat}{e:TypeId}{cs:List Value}:∀ (n o:Nat),cs.length=o+n*P.cellsOf e ->
  (∀ i,i<n->∃ az,Typ P m e az/\vG G w az ((cs.drop (o+i*P.cellsOf e)).take (P.cellsOf e)))->∃ parts:List (List AV),parts.length=n/\(∀ p∈parts,Typ P m e p)/\vG G w parts.flatten (cs.drop o)
 |0,o,hl,_=>⟨[],rfl,by simp,by
   have:cs.drop o=[]:=List.drop_of_length_le (by simp at hl;omega)
   rw[this];exact .nil⟩
 |n+1,o,hl,ht=>by
  obtain⟨az,h1,h2⟩:=ht 0 (by omega);rw[Nat.zero_mul,Nat.add_zero] at h2;rw[Nat.add_mul,Nat.one_mul] at hl;obtain⟨parts,q1,q2,q3⟩:=aBO (e:=e) (cs:=cs) (m:=m) n (o+P.cellsOf e) (by omega) fun i hi=>by
   obtain⟨az,k1,k2⟩:=ht (i+1) (by omega);rw[Nat.add_mul,Nat.one_mul,Nat.add_comm (i*_),<-Nat.add_assoc] at k2;exact⟨az,k1,k2⟩
  refine⟨az::parts,by simp[q1],fun p hp=>?_,?_⟩
  ·rcases List.mem_cons.1 hp with rfl|hp
   ·exact h1
   ·exact q2 p hp
  ·rw[List.flatten_cons];have e1:cs.drop o=(cs.drop o).take (P.cellsOf e)++cs.drop (o+P.cellsOf e):=by
    rw[<-List.drop_drop,List.take_append_drop]
   rw[e1];exact h2.app q3
theorem wU{α:Type}{Q:Nat->α->Prop}:∀ n,(∀ i,i<n->∃ x,Q i x)->∃ l:List α,l.length=n/\∀ (i:Nat) x,l[i]? = some x->Q i x
 |0,_=>⟨[],rfl,by simp⟩
 |n+1,h=>by
  obtain⟨l,h1,h2⟩:=wU n fun i hi=>h i (by omega)
  obtain⟨x,hx⟩:=h n (by omega);refine⟨l++[x],by simp[h1],fun i y e=>?_⟩;by_cases hi:i<l.length
  ·rw[List.getElem?_append_left hi] at e;exact h2 i y e
  ·rw[List.getElem?_append_right (by omega)] at e;have:i-l.length=0:=by
    by_cases h0:i-l.length=0
    ·exact h0
    ·rw[List.getElem?_eq_none (by simp;omega)] at e;cases e
   rw[this] at e;simp at e;subst e;rw[show i=n by omega];exact hx
theorem mI(hl:laidOutB P=true):∀ (n m:Nat) (t:TypeId) (cs:List Value) (x:DataW H×List MemPlace),t<P.types.size->I8 P n t=true->DataW.trod enc P w 0 sp held m t cs=some x->(∀ k∈x.1.weights P t,k<=reachBytes) ->
  ∃ az,Typ P n t az/\vG (zT w) w az cs
 |0,m,t,cs,x,_,ho,_,_=>by simp[I8] at ho
 |n+1,m,t,cs,x,ht,ho,h,hwt=>by
  simp only[I8] at ho;split at ho
  ·rename_i hu;obtain⟨b,rfl,_⟩:=DataW.trod_bool hu h;exact⟨[.bool b],by simp only[Typ,hu];exact⟨b,rfl⟩,.one (.bool b)⟩
  ·rename_i k hu;obtain⟨b,rfl,_,hw⟩:=DataW.trod_int hu h;exact⟨[.int k b],by simp only[Typ,hu];exact⟨b,rfl,hw⟩,.one (.int k b)⟩
  ·rename_i hu;obtain⟨s,rfl,_,hs⟩:=DataW.trod_string hu h;exact⟨[.str s],by simp only[Typ,hu];exact⟨s,rfl,hs⟩,.one (.str s)⟩
  ·rename_i e hu;simp only[Bool.and_eq_true,decide_eq_true_eq] at ho;rcases DataW.trod_slice hu h with⟨rfl,_⟩|⟨a,len,cap,elems,rest,m',_,rfl,hxe,_,hlc,hcm,hel,hei,_,_⟩
   ·refine⟨[.lit [] false none],by simp only[Typ,hu];exact⟨[],rfl,⟨by simp,by simp⟩,by simp⟩,.one (.nil ⟨Nat.le_refl _,(fun e=>by cases e),(fun t e=>by cases e)⟩ fun _=>rfl)⟩
   ·
    have hws:∀ k∈x.1.weights P t,k<=reachBytes:=hwt;rw[hxe] at hws;simp only[DataW.weights,hu,List.mem_cons,List.mem_append,List.length_map] at hws;have hwl:len*P.bytesOf e<=reachBytes:=by
     have h1:=hws _ (.inl rfl);rw[hel] at h1;exact Nat.le_trans (Nat.mul_le_mul_right _ (Nat.le_add_right _ _)) h1
    have hwe:∀ (d:DataW H),d∈elems.map (·.1)->∀ k∈d.weights P e,k<=reachBytes:=by
     have key:∀ (l:List (DataW H)) (d:DataW H),d∈l->∀ k∈d.weights P e,k∈DataW.weightsAll P e l:=by
      intro l
      induction l with
      |nil=>intro d hd;cases hd
      |cons a l ih =>
       intro d hd k hk;simp only[DataW.weightsAll,List.mem_append];rcases List.mem_cons.1 hd with rfl|hd
       ·exact .inl hk
       ·exact .inr (ih d hd k hk)
     exact fun d hd k hk=>hws k (.inr (.inl (key _ d hd k hk)))
    have hel2:∀ i,i<len->∃ y,Typ P n e y/\∃ vs,w.cells? 0 (a.add (i*P.cellsOf e)) (P.cellsOf e)=some vs/\vG (zT w) w y vs:=by
     intro i hi;have h1:=hei i hi;rw[List.getElem?_eq_getElem (by omega),Option.bind_eq_some_iff] at h1;obtain⟨vs,q1,q2⟩:=h1;obtain⟨y,q3,q4⟩:=mI hl n m' e vs _ (kid_slice hl ht hu) ho.2 q2 (hwe _ (List.mem_map.2 ⟨_,List.getElem_mem (by omega),rfl⟩));exact⟨y,q3,vs,q1,q4⟩
    obtain⟨ys,hyl,hys⟩:=wU len hel2
    refine⟨[.lit (ys.map (mkV P e)) false none],by
     simp only[Typ,hu];refine⟨ys,rfl,⟨by omega,by rw[hyl];exact hwl⟩,fun y hy=>?_⟩;obtain⟨i,hi⟩:=List.getElem?_of_mem hy
     exact (hys i y hi).1,.one ?_⟩
    by_cases h0:len=0
    ·subst h0;obtain rfl:ys=[]:=List.eq_nil_of_length_eq_zero hyl;exact .nil ⟨Nat.zero_le _,(fun e=>by cases e),(fun t e=>by cases e)⟩ fun e=>by cases e
    ·
     have hcell:∀ i j,i<len->j<P.cellsOf e->∃ v,w.cell? ((a.add (i*P.cellsOf e)).add j)=some v:=by
      intro i j hi hj;obtain⟨y,_,vs,q1,_⟩:=hel2 i hi;simp only[World.cells?,Nat.zero_le,if_true] at q1;have hlen:=mapM_some_length q1;have:=mapM_some_get q1 j j (by simp[hj]);rw[List.length_range] at hlen;rw[List.getElem?_eq_getElem (by omega)] at this;exact⟨_,this⟩
     obtain⟨v0,hv0⟩:=hcell 0 0 (by omega) ho.1;rw[Nat.zero_mul] at hv0;have ha0:a.add 0=a:=by simp[Addr.add]
     rw[ha0,ha0] at hv0;have hplain:∀ i,a.add i=⟨a.block,a.off+i,none⟩:=UR hv0;have hae:a=⟨a.block,a.off,none⟩:=by have:=hplain 0;rw[ha0] at this;simpa using this
     have hplain2:∀ i j,(a.add i).add j=⟨a.block,a.off+(i+j),none⟩:=by
      intro i j;rw[hplain];unfold Addr.add;split
      ·rename_i h;simp[h]
      ·simp[Nat.add_assoc]
     have hcell2:∀ i j,i<len->j<P.cellsOf e->∃ v,w.cell? ⟨a.block,a.off+(i*P.cellsOf e+j),none⟩=some v:=by
      intro i j hi hj;have:=hcell i j hi hj;rw[hplain2] at this;exact this
     rw[hae,show len=(ys.map (mkV P e)).length by simp[hyl]];have hsz:∀ (i:Nat) (x:AV),(ys.map (mkV P e))[i]? = some x->∃ y,ys[i]? = some y/\x=mkV P e y/\x.cells=y:=by
      intro i x hx;rw[List.getElem?_map] at hx;cases hy:ys[i]? with
      |none=>rw[hy] at hx;cases hx
      |some y =>
       rw[hy] at hx;simp at hx;exact⟨y,rfl,hx.symm,by rw[<-hx,N4 (hys i y hy).1]⟩
     have hvl:∀ (i:Nat) y,ys[i]? = some y->y.length=P.cellsOf e:=by
      intro i y hy;obtain⟨_,vs,q1,q2⟩:=hys i y hy;rw[q2.1];simp only[World.cells?,Nat.zero_le,if_true] at q1;rw[mapM_some_length q1,List.length_range]
     refine .lit (sz:=P.cellsOf e) ⟨by simp;omega,(fun e=>by cases e),(fun t e=>by cases e)⟩ ⟨?_,(fun t e=>by cases e),fun i x hx=>?_,fun k hk=>?_⟩ fun i x j c u hx hc hu2=>?_
     ·obtain⟨v,hv⟩:=hcell2 (len-1) (P.cellsOf e-1) (by omega) (by omega);obtain⟨L,q1,q2⟩:=aAD hv;refine⟨L,q1,?_⟩;rw[List.length_map,hyl];have:(len-1)*P.cellsOf e+P.cellsOf e=len*P.cellsOf e:=by
       rw[<-Nat.succ_mul];congr 1;omega
      omega
     ·obtain⟨y,q1,q2,q3⟩:=hsz i x hx;rw[q3];exact hvl i y q1
     ·rw[List.length_map,hyl] at hk;have hd:k/P.cellsOf e<len:=Nat.div_lt_of_lt_mul (by rw[Nat.mul_comm];exact hk);have hm:k%P.cellsOf e<P.cellsOf e:=Nat.mod_lt _ ho.1;obtain⟨v,hv⟩:=hcell2 _ _ hd hm;have:k/P.cellsOf e*P.cellsOf e+k%P.cellsOf e=k:=by rw[Nat.mul_comm];exact Nat.div_add_mod _ _
      rw[this] at hv;rw[hv];rfl
     ·obtain⟨y,q1,q2,q3⟩:=hsz i x hx;rw[q3] at hc;obtain⟨_,vs,p1,p2⟩:=hys i y q1;have hjl:j<P.cellsOf e:=by
       rw[<-hvl i y q1];exact (List.getElem?_eq_some_iff.1 hc).1
      simp only[World.cells?,Nat.zero_le,if_true] at p1;have hg:=mapM_some_get p1 j j (by simp[hjl]);rw[hplain2] at hg;rw[hu2] at hg;exact p2.2 j c u hc hg.symm
  ·rename_i fs hu;rw[List.all_eq_true] at ho;obtain⟨xs,m',_,hxe,hcl,hxl,hf⟩:=DataW.trod_struct hu h;obtain⟨k1,k2,k3⟩:=kid_struct hl ht hu;obtain⟨parts,q1,q2,q3⟩:=O7 (P:=P) (G:=zT w) (w:=w) (n:=n) (cs:=cs) fs.toList 0 (fun j f hj=>by rw[k3 j f hj];omega) (by rw[hcl,k2];omega) fun f hfm=>by
    obtain⟨i,hi⟩:=List.getElem?_of_mem hfm;have h1:=hf i f (by simpa using hi);have hil:i<xs.length:=by rw[hxl];have:=(List.getElem?_eq_some_iff.1 hi).1;simpa using this
    rw[List.getElem?_eq_getElem hil] at h1;have hd:(xs.map (·.1))[i]? = some xs[i].1:=by rw[List.getElem?_map,List.getElem?_eq_getElem hil];rfl
    have hty:(fs.toList.map (·.type))[i]? = some f.type:=by rw[List.getElem?_map,hi];rfl
    refine mI hl n m' f.type _ _ (k1 f hfm) (ho f hfm) h1 fun k hk=>hwt k ?_
    rw[hxe];simp only[DataW.weights,hu];exact DataW.weights_mem_each hty hd k hk
   rw[List.drop_zero] at q3;exact⟨parts.flatten,by simp only[Typ,hu];exact⟨parts,rfl,q1,q2⟩,q3⟩
  ·rename_i k e hu;obtain⟨xs,m',_,hxe,hcl,hxl,hf⟩:=DataW.trod_array hu h;obtain⟨k1,k2⟩:=kid_array hl ht hu;have hwe:∀ (d:DataW H),d∈xs.map (·.1)->∀ q∈d.weights P e,q<=reachBytes:=by
    have key:∀ (l:List (DataW H)) (d:DataW H),d∈l->∀ q∈d.weights P e,q∈DataW.weightsAll P e l:=by
     intro l
     induction l with
     |nil=>intro d hd;cases hd
     |cons a l ih =>
      intro d hd q hq;simp only[DataW.weightsAll,List.mem_append];rcases List.mem_cons.1 hd with rfl|hd
      ·exact .inl hq
      ·exact .inr (ih d hd q hq)
    intro d hd q hq;refine hwt q ?_;rw[hxe];simp only[DataW.weights,hu];exact key _ d hd q hq
   obtain⟨parts,q1,q2,q3⟩:=aBO (P:=P) (G:=zT w) (w:=w) (m:=n) (e:=e) (cs:=cs) k 0 (by rw[hcl,k2];omega) fun i hi=>by
    have h1:=hf i hi;have hil:i<xs.length:=by omega
    rw[List.getElem?_eq_getElem hil] at h1;rw[Nat.zero_add];exact mI hl n m' e _ _ k1 ho h1 (hwe _ (List.mem_map.2 ⟨_,List.getElem_mem hil,rfl⟩))
   rw[List.drop_zero] at q3;exact⟨parts.flatten,by simp only[Typ,hu];exact⟨parts,rfl,q1,q2⟩,q3⟩
  ·cases ho
theorem qY(hl:laidOutB P=true)(n:Nat){t:TypeId}{v:Value}{d:DataW H}{ps:List MemPlace}(ht:t<P.types.size)(ho:I8 P n t=true)(hv:Value.okWide P w .any 0 t v)(h:DataW.Trod enc P w 0 sp held t v d ps)(hwt:∀ k∈d.weights P t,k<=reachBytes):
  ∃ az,Typ P n t az/\RelV (zT w) w (mkV P t az) v:=by
 obtain⟨m,hm⟩:=h;obtain⟨az,h1,h2⟩:=mI hl n m t _ _ ht ho hm hwt;refine⟨az,h1,?_⟩;have hone:∀ {a:AV},az=[a]->(∀ cs,v≠.agg cs)->RelV (zT w) w a v:=by
  rintro a rfl hx;have hc:v.cells.toList=[v]:=by cases v<;>first|rfl|exact absurd rfl (hx _)
  rw[hc] at h2;exact h2.2 0 a v rfl rfl
 cases n with
 |zero=>exact h1.elim
 |succ n =>
  unfold mkV;simp only[Typ] at h1;split at h1<;>rename_i hu
  ·obtain⟨b,rfl⟩:=h1;rw[hu];obtain⟨c,hc⟩:=okWide_bool hu hv;exact hone rfl (by rw[hc];intro cs e;cases e)
  ·obtain⟨b,rfl,_⟩:=h1;rw[hu];obtain⟨c,hc⟩:=okWide_int hu hv;exact hone rfl (by rw[hc];intro cs e;cases e)
  ·obtain⟨b,rfl,_⟩:=h1;rw[hu];obtain⟨c,hc⟩:=okWide_string hu hv;exact hone rfl (by rw[hc];intro cs e;cases e)
  ·obtain⟨b,rfl,_⟩:=h1;rw[hu];obtain⟨_,_,_,hc⟩:=okWide_slice hu hv;exact hone rfl (by rw[hc];intro cs e;cases e)
  ·rw[hu];unfold Value.okWide at hv;rw[hu] at hv;obtain⟨cs,rfl,_,_⟩:=hv;refine .agg ?_ fun i a u e1 e2=>?_
   ·have:=h2.1;simpa[Value.cells] using this.symm
   ·exact h2.2 i a u e1 (by simpa[Value.cells] using e2)
  ·rw[hu];unfold Value.okWide at hv;rw[hu] at hv;obtain⟨cs,rfl,_,_⟩:=hv;refine .agg ?_ fun i a u e1 e2=>?_
   ·have:=h2.1;simpa[Value.cells] using this.symm
   ·exact h2.2 i a u e1 (by simpa[Value.cells] using e2)
  ·exact h1.elim
theorem BI{T:FuncId->Option AFunc}(hT:∀ f af,T f=some af->∃ fn,P.funcs[f]? = some fn/\iY P hh fn=some af){f:FuncId}{az:List AV}{vs:Array Value}{w:World}(ha:eH (zT w) w az vs)(h:Run T (.call f az []) fun o=>o.v = .bool true):
  Calls P f vs w fun e w'=>e = .returned (.bool true)/\RowKit.Below w.heap.size w w':=by
 have hs:=aHS hT h;refine (callsIn_wide.1 (hs.2 (G:=zT w) (w:=w) (vs:=vs) ha (U3 w))).mono fun e w' hr=>?_
 obtain⟨r,G',u,rfl,q1,q2,q3,q4⟩:=hr;rw[q1] at q2;cases q2;refine⟨rfl,q4.os,q4.tape,q4.output,q4.size,fun k hk=>?_⟩;have hB:G'.B0=w.heap.size:=q4.B0;have hh0:G'.h0=(zT w).h0:=q4.h0;rw[q3.base k (by rw[hB];exact hk),hh0];simp only[zT,Gh.fresh0];rw[Array.getElem?_append_left hk]
theorem GQ{G:Gh}:eH G w [] #[]:=⟨rfl,by simp⟩
theorem n4{G:Gh}{a:AV}{v:Value}{az:List AV}{vs:List Value}(h:RelV G w a v)(hs:eH G w az vs.toArray):eH G w (a::az) (v::vs).toArray:=by
 refine⟨by have:=hs.1;simp at this;simp[this],fun i x u e1 e2=>?_⟩;cases i with
 |zero=>simp at e1 e2;subst e1;subst e2;exact h
 |succ i=>exact hs.2 i x u (by simpa using e1) (by simpa using e2)
def KX(P:Program)(n:Nat):List TypeId->List AV->Prop
 |[],cs=>cs=[]
 |t::ts,cs=>∃ a b,cs=a++b/\Typ P n t a/\KX P n ts b
theorem FY{n:Nat}:∀ (fl:List Field) (parts:List (List AV)),parts.length=fl.length->(∀ (i:Nat) f p,fl[i]? = some f->parts[i]? = some p->Typ P n f.type p)->KX P n (fl.map Field.type) parts.flatten
 |[],parts,hl,_=>by rw[List.length_eq_zero_iff.1 hl];rfl
 |f::fl,[],hl,_=>by simp at hl
 |f::fl,p::parts,hl,h=>⟨p,parts.flatten,rfl,h 0 f p rfl rfl,FY fl parts (by simpa using hl) fun i g q e1 e2=>h (i+1) g q (by simpa using e1) (by simpa using e2)⟩
theorem H5{n:Nat}{t:TypeId}{fs:Array Field}{cs:List AV}(hu:P.underlying t=some (.struct fs))(h:Typ P (n+1) t cs):KX P n (fs.toList.map Field.type) cs:=by
 simp only[Typ,hu] at h;obtain⟨parts,rfl,h1,h2⟩:=h;exact FY fs.toList parts h1 h2
theorem kL{n:Nat}{t:TypeId}{k:IntKind}{cs:List AV}(hu:P.underlying t=some (.int k))(h:Typ P (n+1) t cs):∃ m,cs=[.int k m]/\(Lit.int k m).wf=true:=by
 simp only[Typ,hu] at h;exact h
theorem E6{n:Nat}{t:TypeId}{cs:List AV}(hu:P.underlying t=some .bool)(h:Typ P (n+1) t cs):∃ b,cs=[.bool b]:=by
 simp only[Typ,hu] at h;exact h
theorem XQ{n:Nat}{t:TypeId}{cs:List AV}(hu:P.underlying t=some .string)(h:Typ P (n+1) t cs):∃ s:ByteArray,cs=[.str s]/\s.size<=maxLen:=by
 simp only[Typ,hu] at h;exact h
theorem rO{n:Nat}{t e:TypeId}{cs:List AV}{α:Type}{f:α->AV}{Q:α->Prop}(hu:P.underlying t=some (.slice e))(h:Typ P (n+1) t cs)(hq:∀ y,Typ P n e y->∃ x,mkV P e y=f x/\Q x):∃ l:List α,cs=[.lit (l.map f) false none]/\(l.length<9223372036854775808/\l.length*P.bytesOf e<=reachBytes)/\∀ x∈l,Q x:=by
 simp only[Typ,hu] at h;obtain⟨ys,rfl,⟨h1,h1b⟩,h2⟩:=h;have key:∀ ys:List (List AV),(∀ y∈ys,Typ P n e y)->∃ l:List α,ys.map (mkV P e)=l.map f/\l.length=ys.length/\∀ x∈l,Q x:=by
  intro ys
  induction ys with
  |nil=>intro _;exact⟨[],rfl,rfl,by simp⟩
  |cons y ys ih =>
   intro hy;obtain⟨x,q1,q2⟩:=hq y (hy y (by simp));obtain⟨l,q3,q4,q5⟩:=ih fun z hz=>hy z (List.mem_cons_of_mem _ hz)
   exact⟨x::l,by simp[q1,q3],by simp[q4],fun z hz=>by
    rcases List.mem_cons.1 hz with rfl|hz
    ·exact q2
    ·exact q5 z hz⟩
 obtain⟨l,q1,q2,q3⟩:=key ys h2;exact⟨l,by rw[q1],⟨by simp only[maxLen] at h1;omega,by rw[q2];exact h1b⟩,q3⟩
theorem HZ{t:TypeId}{fs:Array Field}{cs:List AV}(hu:P.underlying t=some (.struct fs)):mkV P t cs = .agg cs:=by simp[mkV,hu]
theorem ZL{t:TypeId}{a:AV}(hu:∀ fs,P.underlying t≠some (.struct fs))(hu2:∀ k e,P.underlying t≠some (.array k e)):mkV P t [a]=a:=by
 unfold mkV;split
 ·rename_i fs h;exact absurd h (hu fs)
 ·rename_i k e h;exact absurd h (hu2 k e)
 ·rfl
theorem aHT{m:Int}(h:(Lit.int .u8 m).wf=true):0<=m/\m<256:=by
 simp[Lit.wf,IntKind.min,IntKind.max,IntKind.signed,IntKind.bits] at h;omega
end Go.Am
namespace Go.Am
variable {T:FuncId->Option AFunc}
def kI(r:Option (AV×St))(K:AV->St->Prop):Prop :=
 match r with
 |some (v,σ)=>K v σ
 |none=>False
@[congr] theorem aA0{r r':Option (AV×St)}{K:AV->St->Prop}(h:r=r'):kI r K=kI r' K:=by rw[h]
@[simp] theorem aC4(v:AV)(σ:St)(K:AV->St->Prop):kI (some (v,σ)) K=K v σ:=rfl
@[simp] theorem aCD(K:AV->St->Prop):kI none K=False:=rfl
@[simp] theorem aHB(c:Prop)[Decidable c](r q:Option (AV×St))(K:AV->St->Prop):kI (if c then r else q) K=if c then kI r K else kI q K:=by split<;>rfl
def AT(v:AV)(A B:Unit->Prop):Prop :=
 match v with
 |.bool true=>A ()
 |.bool false=>B ()
 |_=>False
@[congr] theorem aBN{v v':AV}{A B:Unit->Prop}(h:v=v'):AT v A B=AT v' A B:=by rw[h]
@[simp] theorem aEW(b:Bool)(A B:Unit->Prop):AT (.bool b) A B=if b=true then A () else B ():=by cases b<;>rfl
def lZ(v:AV)(want:Bool)(A B:Unit->Prop):Prop :=
 match v with
 |.bool b=>if b=want then A () else B ()
 |.tuple []=>B ()
 |_=>False
@[congr] theorem aBK{v v':AV}{want:Bool}{A B:Unit->Prop}(h:v=v'):lZ v want A B=lZ v' want A B:=by rw[h]
@[simp] theorem aDO(b want:Bool)(A B:Unit->Prop):lZ (.bool b) want A B=if b=want then A () else B ():=rfl
@[simp] theorem aHC(want:Bool)(A B:Unit->Prop):lZ (.tuple []) want A B=B ():=rfl
def K3(T:FuncId->Option AFunc)(f:AV)(args:List AV)(σ:St)(K:AV->St->Prop):Prop:=Run T (.callv f args σ) fun r=>K r.v r.σ
@[congr] theorem aB2{f f':AV}{args args':List AV}{σ σ':St}{K:AV->St->Prop}(h1:f=f')(h2:args=args')(h3:σ=σ'):K3 T f args σ K=K3 T f' args' σ' K:=by rw[h1,h2,h3]
def fG(T:FuncId->Option AFunc)(q:AOp)(e:Env)(σ:St)(K:AV->St->Prop):Prop :=
 match q with
 |.call f args=>K3 T (f.ev e) (args.map (·.ev e)) σ K
 |q=>kI (aop q e σ) K
@[congr] theorem aE2{q:AOp}{e e':Env}{σ σ':St}{K:AV->St->Prop}(h2:e=e')(h3:σ=σ'):fG T q e σ K=fG T q e' σ' K:=by rw[h2,h3]
def aH(T:FuncId->Option AFunc):List AOper->Env->St->(Env->St->Prop)->Prop
 |[],e,σ,K=>K e σ
 |⟨dst,q,none⟩::os,e,σ,K=>fG T q e σ fun v σ'=>aH T os (Env.put e dst v) σ' K
 |⟨dst,q,some (t,want)⟩::os,e,σ,K =>
  lZ (Env.get e t) want (fun _=>fG T q e σ fun v σ'=>aH T os (Env.put e dst v) σ' K) (fun _=>aH T os (Env.put e dst (.tuple [])) σ K)
@[congr] theorem aA5{os:List AOper}{e e':Env}{σ σ':St}{K:Env->St->Prop}(h2:e=e')(h3:σ=σ'):aH T os e σ K=aH T os e' σ' K:=by rw[h2,h3]
theorem nJ{Q:Out->Prop}:∀ {os:List AOper} {e:Env} {σ:St} {K:Env->St->Prop},aH T os e σ K->(∀ e σ,K e σ->Q ⟨none,e,σ,.undef⟩)->Run T (.ops os e σ) Q
 |[],e,σ,K,h,hq=>.nil (hq _ _ h)
 |o::os,e,σ,K,h,hq=>by
  have key:o.wanted e=some true->fG T o.op e σ (fun v σ'=>aH T os (Env.put e o.dst v) σ' K)->Run T (.ops (o::os) e σ) Q:=by
   intro hw h;by_cases hc:∃ f args,o.op = .call f args
   ·obtain⟨f,args,ho⟩:=hc;rw[ho] at h;exact .stepc hw ho h fun r hr=>nJ hr hq
   ·have:∃ v σ',aop o.op e σ=some (v,σ')/\aH T os (Env.put e o.dst v) σ' K:=by
     unfold fG at h;split at h
     ·rename_i f args ho;exact absurd ⟨f,args,ho⟩ hc
     ·unfold kI at h;split at h
      ·rename_i v σ' hv;exact⟨v,σ',hv,h⟩
      ·exact h.elim
    obtain⟨v,σ',h1,h2⟩:=this;exact .step hw h1 (nJ h2 hq)
  obtain⟨dst,q,g⟩:=o;cases g with
  |none=>exact key rfl h
  |some g =>
   obtain⟨t,want⟩:=g;simp only[aH,lZ] at h;split at h
   ·rename_i b h1;split at h
    ·rename_i hb;exact key (by simp[AOper.wanted,h1,hb]) h
    ·rename_i hb;exact .off (by simp[AOper.wanted,h1];simpa using hb) (nJ h hq)
   ·rename_i h1;exact .off (by simp[AOper.wanted,h1]) (nJ h hq)
   ·exact h.elim
abbrev KJ:=Option AJump->Env->St->Prop
def sX(A K:KJ):KJ:=fun j e σ=>match j with|none=>A none e σ|some j=>K (some j) e σ
@[simp] theorem aFW(A K:KJ)(e:Env)(σ:St):sX A K none e σ=A none e σ:=rfl
@[simp] theorem aEO(A K:KJ)(j:AJump)(e:Env)(σ:St):sX A K (some j) e σ=K (some j) e σ:=rfl
def jD(id:Nat)(K:KJ):KJ:=fun j e σ=>match j with|some (.exit i)=>if i=id then K none e σ else K (some (.exit i)) e σ|j=>K j e σ
@[simp] theorem aA1(id:Nat)(K:KJ)(e:Env)(σ:St):jD id K none e σ=K none e σ:=rfl
@[simp] theorem aCH(id:Nat)(K:KJ)(e:Env)(σ:St):jD id K (some .ret) e σ=K (some .ret) e σ:=rfl
@[simp] theorem aB7(id i:Nat)(K:KJ)(e:Env)(σ:St):jD id K (some (.exit i)) e σ=if i=id then K none e σ else K (some (.exit i)) e σ:=rfl
def UT(T:FuncId->Option AFunc)(c:ACode)(e:Env)(σ:St)(K:KJ):Prop:=Run T (.code c e σ) fun o=>K o.j o.env o.σ
@[congr] theorem aGW{c:ACode}{e e':Env}{σ σ':St}{K:KJ}(h2:e=e')(h3:σ=σ'):UT T c e σ K=UT T c e' σ' K:=by rw[h2,h3]
def wp(T:FuncId->Option AFunc):ACode->Env->St->KJ->Prop
 |.skip,e,σ,K=>K none e σ
 |.reg os,e,σ,K=>aH T os e σ fun e σ=>K none e σ
 |.seq a b,e,σ,K=>wp T a e σ (sX (fun _ e σ=>wp T b e σ K) K)
 |.cond c a b,e,σ,K=>AT (c.ev e) (fun _=>wp T a e σ K) (fun _=>wp T b e σ K)
 |.block id b,e,σ,K=>wp T b e σ (jD id K)
 |.jump j,e,σ,K=>K (some j) e σ
 |.scope b,e,σ,K=>wp T b e σ K
 |c,e,σ,K=>UT T c e σ K
@[congr] theorem aKO{c:ACode}{e e':Env}{σ σ':St}{K:KJ}(h2:e=e')(h3:σ=σ'):wp T c e σ K=wp T c e' σ' K:=by rw[h2,h3]
theorem i3{Q:Out->Prop}:∀ {c:ACode} {e:Env} {σ:St} {K:KJ},wp T c e σ K->(∀ o,K o.j o.env o.σ->Q o)->Run T (.code c e σ) Q:=by
 intro c
 induction c generalizing Q with
 |skip=>intro e σ K h hq;exact .skip (hq ⟨none,e,σ,.undef⟩ h)
 |reg os=>intro e σ K h hq;exact .reg (nJ h fun e σ hk=>hq ⟨none,e,σ,.undef⟩ hk)
 |dreg ds=>intro e σ K h hq;exact .mono h hq
 |seq a b iha ihb =>
  intro e σ K h hq;refine .seq (iha h fun o ho=>ho) (fun o ho hj=>?_) fun o ho hj=>?_
  ·simp only[hj,sX] at ho;exact ihb ho hq
  ·refine hq o ?_;cases hj':o.j with
   |none=>exact absurd hj' hj
   |some j=>simp only[hj',sX] at ho;exact ho
 |cond c a b iha ihb =>
  intro e σ K h hq;simp only[wp,AT] at h;split at h
  ·rename_i h1;exact .cond true h1 (iha h hq)
  ·rename_i h1;exact .cond false h1 (ihb h hq)
  ·exact h.elim
 |block id b ih =>
  intro e σ K h hq;refine .block (ih h fun o ho=>ho) fun o ho=>hq _ ?_
  unfold jD at ho;split at ho
  ·rename_i i hj;split at ho
   ·rename_i hi;subst hi;rw[if_pos hj];exact ho
   ·rename_i hi;rw[if_neg (by rw[hj];simpa using hi),hj];exact ho
  ·rename_i hj;rw[if_neg (fun e=>hj _ e)];exact ho
 |loop b ih=>intro e σ K h hq;exact .mono h hq
 |rangeFunc f ps a b _ _=>intro e σ K h hq;exact .mono h hq
 |jump j=>intro e σ K h hq;exact .jump (hq ⟨some j,e,σ,.undef⟩ h)
 |scope b ih=>intro e σ K h hq;exact .scope (ih h hq)
def aV(T:FuncId->Option AFunc)(f:FuncId)(args:List AV)(v:AV):Prop:=∀ σ,Run T (.call f args σ) fun o=>o.v=v/\o.σ=σ
theorem tB(σ τ:St)(k:Nat):(σ++τ)[σ.length+k]? = τ[k]?:=by rw[List.getElem?_append_right (by omega)];congr 1;omega
theorem m4(σ τ:St)(k:Nat)(x:ABlk):(σ++τ).set (σ.length+k) x=σ++τ.set k x:=by rw[List.set_append_right _ _ (by omega)];congr 2;omega
theorem W8(σ τ:St)(x:ABlk):(σ++τ).set σ.length x=σ++τ.set 0 x:=m4 σ τ 0 x
end Go.Am
namespace Go.Am
variable {T:FuncId->Option AFunc}
theorem aIO(e:Env)(d:Nat)(v:AV):Env.put e (some d) v=(d,v)::e:=by simp only[Env.put]
theorem aGR(e:Env)(v:AV):Env.put e none v=e:=by simp only[Env.put]
theorem WF(k:Nat)(v:AV)(e:Env)(t:Nat):Env.get ((k,v)::e) t=if k=t then v else Env.get e t:=by simp only[Env.get]
theorem VE(e:Env)(t:Nat):AOpd.ev e (.t t)=Env.get e t:=by simp only[AOpd.ev]
theorem aNJ(e:Env)(v:AV):AOpd.ev e (.c v)=v:=by simp only[AOpd.ev]
theorem aK3(os:List AOper)(e:Env)(σ:St)(K:KJ):wp T (.reg os) e σ K=aH T os e σ fun e σ=>K none e σ:=by simp only[wp]
theorem aJK(a b:ACode)(e:Env)(σ:St)(K:KJ):wp T (.seq a b) e σ K=wp T a e σ (sX (fun _ e σ=>wp T b e σ K) K):=by simp only[wp]
theorem aFT(j:AJump)(e:Env)(σ:St)(K:KJ):wp T (.jump j) e σ K=K (some j) e σ:=by simp only[wp]
theorem aEU(A K:KJ)(e:Env)(σ:St):sX A K none e σ=A none e σ:=by simp only[sX]
theorem aMY(e:Env)(σ:St)(K:Env->St->Prop):aH T [] e σ K=K e σ:=by simp only[aH]
def aMN(r:Option AV)(σ:St)(K:AV->St->Prop):Prop:=match r with|some v=>K v σ|none=>False
@[congr] theorem aEJ{r r':Option AV}{σ σ':St}{K:AV->St->Prop}(h:r=r')(h2:σ=σ'):aMN r σ K=aMN r' σ' K:=by rw[h,h2]
def aLI(r:Option (List AV))(σ:St)(K:AV->St->Prop):Prop:=match r with|some cs=>K (.agg cs) σ|none=>False
@[congr] theorem aDP{r r':Option (List AV)}{σ σ':St}{K:AV->St->Prop}(h:r=r')(h2:σ=σ'):aLI r σ K=aLI r' σ' K:=by rw[h,h2]
def aH6(r:Option St)(K:AV->St->Prop):Prop:=match r with|some σ=>K (.tuple []) σ|none=>False
@[congr] theorem aDT{r r':Option St}{K:AV->St->Prop}(h:r=r'):aH6 r K=aH6 r' K:=by rw[h]
def iW(n:Nat)(v:AV):Option (List AV):=if (v.cells.length==n&&v.cells.all (·.cell))=true then some v.cells else none
def vR(off:Nat):AV->Option AV
 |.ptr id o=>some (.ptr id (o+off))
 |.lptr xs i o t=>some (.lptr xs i (o+off) t)
 |_=>none
theorem UM(off id o:Nat):vR off (.ptr id o)=some (.ptr id (o+off)):=by simp[vR]
theorem V3(off:Nat)(xs:List AV)(i o:Nat)(t:Option Nat):vR off (.lptr xs i o t)=some (.lptr xs i (o+off) t):=by simp[vR]
def aL1(r:Option (List AV))(σ:St)(K:AV->St->Prop):Prop:=match r with|some cs=>K (.ptr σ.length 0) (σ++[.cells cs])|none=>False
@[congr] theorem aEH{r r':Option (List AV)}{σ σ':St}{K:AV->St->Prop}(h:r=r')(h2:σ=σ'):aL1 r σ K=aL1 r' σ' K:=by rw[h,h2]
def XY(i:Nat):AV->Option AV
 |.tuple vs=>vs[i]?
 |_=>none
theorem aFP(i:Nat)(vs:List AV):XY i (.tuple vs)=vs[i]?:=by simp[XY]
def ZH:AV->Option AV
 |.bool b=>some (.bool !b)
 |_=>none
theorem aGB(b:Bool):ZH (.bool b)=some (.bool !b):=by simp[ZH]
def BF(sh:EqTy)(neg:Bool)(x y:AV):Option AV:=(gK sh x y).map fun b=>.bool (if neg then !b else b)
theorem aFE(e:Env)(σ:St)(K:KJ):wp T .skip e σ K=K none e σ:=by simp only[wp]
theorem W4(id:Nat)(b:ACode)(e:Env)(σ:St)(K:KJ):wp T (.block id b) e σ K=wp T b e σ (jD id K):=by simp only[wp]
theorem XN(b:ACode)(e:Env)(σ:St)(K:KJ):wp T (.scope b) e σ K=wp T b e σ K:=by simp only[wp]
theorem WY(A K:KJ)(j:AJump)(e:Env)(σ:St):sX A K (some j) e σ=K (some j) e σ:=by simp only[sX]
theorem aCE(k:Nat):dX k []=[]:=by simp only[dX]
theorem aHG(k:Nat)(v:AV)(vs:List AV):dX k (v::vs)=(k,v)::dX (k+1) vs:=by simp only[dX]
theorem aHM(e:Env)(cs:List AV)(off n:Nat)(x:AOpd)(rest:List (Nat×Nat×AOpd)):
  bQ e cs ((off,n,x)::rest)=((iW n (x.ev e)).bind fun us=>dF cs off us).bind fun cs=>bQ e cs rest:=by
 simp only[bQ,iW];split
 ·simp only[Option.bind_some];cases dF cs off (x.ev e).cells<;>simp
 ·simp
end Go.Am
namespace Go.Am
variable {T:FuncId->Option AFunc}
def BW(r:ARead):List St->Nat->Prop
 |[],_=>True
 |s::ss,j=>(if r.lo<=j/\j<=r.hi then aop r.op r.env s=some (r.v,s) else True)/\BW r ss (j+1)
theorem FM{r:ARead}:∀ {hist:List St} {k:Nat},BW r hist k->∀ j s,r.lo<=k+j->k+j<=r.hi->hist[j]? = some s->aop r.op r.env s=some (r.v,s)
 |[],k,_,j,s,_,_,h=>by simp at h
 |t::ss,k,h,j,s,h1,h2,h3=>by
  obtain⟨q1,q2⟩:=h;cases j with
  |zero=>simp at h3;subst h3;rw[if_pos ⟨by omega,by omega⟩] at q1;exact q1
  |succ j=>exact FM q2 j s (by omega) (by omega) (by simpa using h3)
def pE:List ARead->List St->Prop
 |[],_=>True
 |r::rs,hist=>BW r hist 0/\pE rs hist
theorem B6:∀ {rs:List ARead} {hist:List St},pE rs hist->∀ r∈rs,ARead.ok r hist
 |[],_,_,r,h=>by cases h
 |r::rs,hist,h,q,hq=>by
  rcases List.mem_cons.1 hq with rfl|hq
  ·intro j s h1 h2 h3;exact FM h.1 j s (by omega) (by omega) h3
  ·exact B6 h.2 q hq
def B5(T:FuncId->Option AFunc)(f:AV)(args:List AV)(σ:St)(K:AV->St->Prop):Prop:=∃ v σ',Run T (.callv f args σ) (fun r=>r.v=v/\r.σ=σ')/\K v σ'
@[congr] theorem aAV{f f':AV}{args args':List AV}{σ σ':St}{K:AV->St->Prop}(h1:f=f')(h2:args=args')(h3:σ=σ'):B5 T f args σ K=B5 T f' args' σ' K:=by rw[h1,h2,h3]
def wpD(T:FuncId->Option AFunc):List ADOper->Env->St->Nat->List St->List ARead->(Env->St->Prop)->Prop
 |[],e,σ,_,hist,reads,K=>pE reads hist/\K e σ
 |⟨⟨dst,.call f args,none⟩,_,_⟩::ds,e,σ,next,hist,reads,K=>B5 T (f.ev e) (args.map (·.ev e)) σ fun v σ'=>wpD T ds (Env.put e dst v) σ' next (hist++[σ']) reads K
 |⟨⟨dst,.alloc _,none⟩,_,_⟩::ds,e,σ,next,hist,reads,K=>wpD T ds (Env.put e dst (.ptr next 0)) σ (next+1) hist reads K
 |⟨⟨dst,q,none⟩,lo,hi⟩::ds,e,σ,next,hist,reads,K =>
  kI (aop q e σ) fun v σ' =>
   if q.acts=true then wpD T ds (Env.put e dst v) σ' next (hist++[σ']) reads K
   else σ'=σ/\if q.reads=true then wpD T ds (Env.put e dst v) σ next hist (⟨lo,hi,q,e,v⟩::reads) K else wpD T ds (Env.put e dst v) σ next hist reads K
 |⟨⟨dst,.call f args,some (t,want)⟩,_,_⟩::ds,e,σ,next,hist,reads,K =>
  lZ (Env.get e t) want (fun _=>B5 T (f.ev e) (args.map (·.ev e)) σ fun v σ'=>wpD T ds (Env.put e dst v) σ' next (hist++[σ']) reads K)
   (fun _=>wpD T ds (Env.put e dst (.tuple [])) σ next (hist++[σ]) reads K)
 |⟨⟨dst,q,some (t,want)⟩,lo,hi⟩::ds,e,σ,next,hist,reads,K =>
  lZ (Env.get e t) want
   (fun _=>q.allocs=false/\kI (aop q e σ) fun v σ' =>
    if q.acts=true then wpD T ds (Env.put e dst v) σ' next (hist++[σ']) reads K
    else σ'=σ/\if q.reads=true then wpD T ds (Env.put e dst v) σ next hist (⟨lo,hi,q,e,v⟩::reads) K else wpD T ds (Env.put e dst v) σ next hist reads K)
   (fun _=>wpD T ds (Env.put e dst (.tuple [])) σ (if q.allocs then next+1 else next) (if q.acts then hist++[σ] else hist) reads K)
theorem iX{Q:Out->Prop}:∀ {ds:List ADOper} {e:Env} {σ:St} {next:Nat} {hist:List St} {reads:List ARead} {K:Env->St->Prop},wpD T ds e σ next hist reads K ->
  (∀ e σ,K e σ->Q ⟨none,e,σ,.undef⟩)->Run T (.dops ds e σ next hist reads) Q
 |[],e,σ,next,hist,reads,K,h,hq=>.dnil (B6 h.1) (hq _ _ h.2)
 |⟨⟨dst,q,g⟩,lo,hi⟩::ds,e,σ,next,hist,reads,K,h,hq=>by
  -- an operation that is neither a call nor a new variable
  have key:AOper.wanted ⟨dst,q,g⟩ e=some true->q.allocs=false->(kI (aop q e σ) fun v σ' =>
    if q.acts=true then wpD T ds (Env.put e dst v) σ' next (hist++[σ']) reads K
    else σ'=σ/\if q.reads=true then wpD T ds (Env.put e dst v) σ next hist (⟨lo,hi,q,e,v⟩::reads) K else wpD T ds (Env.put e dst v) σ next hist reads K) ->
    Run T (.dops (⟨⟨dst,q,g⟩,lo,hi⟩::ds) e σ next hist reads) Q:=by
   intro hw hal h;unfold kI at h;split at h
   ·rename_i v σ' hv;split at h
    ·rename_i ha;exact .dact hw ha hv (iX h hq)
    ·rename_i ha;obtain⟨rfl,h⟩:=h;split at h
     ·rename_i hr;exact .dread hw hr hv (iX h hq)
     ·rename_i hr;exact .dpure hw (by simp[hal];exact⟨by simpa using ha,by simpa using hr⟩) hv (iX h hq)
   ·exact h.elim
  by_cases hc:∃ f args,q = .call f args
  ·obtain⟨f,args,rfl⟩:=hc;cases g with
   |none =>
    simp only[wpD,B5] at h;obtain⟨v,σ',h1,h2⟩:=h;exact .dcall rfl rfl h1 (iX h2 hq)
   |some g =>
    obtain⟨t,want⟩:=g;simp only[wpD,lZ] at h;split at h
    ·rename_i b h1;split at h
     ·rename_i hb;obtain⟨v,σ',h3,h4⟩:=h;exact .dcall (by simp[AOper.wanted,h1,hb]) rfl h3 (iX h4 hq)
     ·rename_i hb;exact .doff (by simp[AOper.wanted,h1];simpa using hb) (by simpa[AOp.allocs,AOp.acts] using iX h hq)
    ·rename_i h1;exact .doff (by simp[AOper.wanted,h1]) (by simpa[AOp.allocs,AOp.acts] using iX h hq)
    ·exact h.elim
  ·cases g with
   |none =>
    by_cases hal:∃ z,q = .alloc z
    ·obtain⟨z,rfl⟩:=hal;simp only[wpD] at h;exact .dalloc rfl rfl (iX h hq)
    ·refine key rfl ?_ ?_
     ·cases q<;>first|rfl|exact absurd ⟨_,rfl⟩ hal
     ·cases q<;>first|exact h|exact absurd ⟨_,_,rfl⟩ hc|exact absurd ⟨_,rfl⟩ hal
   |some g =>
    obtain⟨t,want⟩:=g
    have h:lZ (Env.get e t) want (fun _=>q.allocs=false/\kI (aop q e σ) fun v σ' =>
      if q.acts=true then wpD T ds (Env.put e dst v) σ' next (hist++[σ']) reads K
      else σ'=σ/\if q.reads=true then wpD T ds (Env.put e dst v) σ next hist (⟨lo,hi,q,e,v⟩::reads) K else wpD T ds (Env.put e dst v) σ next hist reads K)
      (fun _=>wpD T ds (Env.put e dst (.tuple [])) σ (if q.allocs then next+1 else next) (if q.acts then hist++[σ] else hist) reads K):=by
     cases q<;>first|exact h|exact absurd ⟨_,_,rfl⟩ hc
    simp only[lZ] at h;split at h
    ·rename_i b h1;split at h
     ·rename_i hb;exact key (by simp[AOper.wanted,h1,hb]) h.1 h.2
     ·rename_i hb;exact .doff (by simp[AOper.wanted,h1];simpa using hb) (iX h hq)
    ·rename_i h1;exact .doff (by simp[AOper.wanted,h1]) (iX h hq)
    ·exact h.elim
end Go.Am
namespace Go.Am
variable {T:FuncId->Option AFunc}
class HP (α:Type) where
 out:α
def bO(r:Option (AV×St))[K:HP (AV->St->Prop)]:Prop:=kI r K.out
theorem aEC(v:AV)(σ:St)(K:AV->St->Prop):bO (K:=⟨K⟩) (some (v,σ))=K v σ:=by simp only[bO,kI]
def cK(T:FuncId->Option AFunc)(f:AV)(args:List AV)(σ:St)[K:HP (AV->St->Prop)]:Prop:=K3 T f args σ K.out
def cD(T:FuncId->Option AFunc)(f:AV)(args:List AV)(σ:St)[K:HP (AV->St->Prop)]:Prop:=B5 T f args σ K.out
def rK(T:FuncId->Option AFunc)(c:ACode)(e:Env)(σ:St)[K:HP KJ]:Prop:=UT T c e σ K.out
def xP(b:Bool)[A:HP Prop][B:HP Prop]:Prop:=if b=true then A.out else B.out
theorem N2(A:Prop)(B:HP Prop):xP (A:=⟨A⟩) true=A:=by simp[xP]
theorem I2(A:HP Prop)(B:Prop):xP (B:=⟨B⟩) false=B:=by simp[xP]
theorem aG{b:Bool}{A B:Prop}(h1:b=true->A)(h2:b=false->B):xP (A:=⟨A⟩) (B:=⟨B⟩) b:=by cases b<;>simp[xP]<;>first|exact h1 rfl|exact h2 rfl
def bB(v:AV)[A:HP Prop][B:HP Prop]:Prop:=AT v (fun _=>A.out) (fun _=>B.out)
def bG(v:AV)(want:Bool)[A:HP Prop][B:HP Prop]:Prop:=lZ v want (fun _=>A.out) (fun _=>B.out)
theorem aGX(b:ACode)(e:Env)(σ:St)(K:KJ):wp T (.loop b) e σ K=rK (K:=⟨K⟩) T (.loop b) e σ:=by simp only[wp,rK]
theorem Z8(f:AOpd)(ps:List Nat)(a b:ACode)(e:Env)(σ:St)(K:KJ):wp T (.rangeFunc f ps a b) e σ K=rK (K:=⟨K⟩) T (.rangeFunc f ps a b) e σ:=by simp only[wp,rK]
theorem aG9(c:AOpd)(a b:ACode)(e:Env)(σ:St)(K:KJ):wp T (.cond c a b) e σ K=bB (A:=⟨wp T a e σ K⟩) (B:=⟨wp T b e σ K⟩) (c.ev e):=by simp only[wp,bB]
def evs(e:Env):List AOpd->List AV
 |[]=>[]
 |x::xs=>x.ev e::evs e xs
theorem kP(e:Env):∀ xs:List AOpd,xs.map (·.ev e)=evs e xs
 |[]=>rfl
 |x::xs=>by simp[evs,kP e xs]
def ovs(e:Env):Option AOpd->Option AV
 |none=>none
 |some x=>some (x.ev e)
def CH:AV->AV->AV->Option AV
 |.bool true,x,_=>some x
 |.bool false,_,y=>some y
 |_,_,_=>none
def wE(n:Nat)(xs:List AV):Option AV:=if aF n xs=true then some (.lit xs true none) else none
def F5q:AV->Option AV
 |.ptr i o=>some (.ptr i o)
 |.lptr xs i o t=>some (.lptr xs i o t)
 |.func f a b=>some (.func f a b)
 |.yield i=>some (.yield i)
 |_=>none
def Z9:AV->Option AV
 |.int k n=>some (.int k (k.wrap (0-n)))
 |_=>none
def LE(k:IntKind):AV->Option AV
 |.int _ n=>some (.int k (k.wrap n))
 |_=>none
def aAM:AV->Option ByteArray
 |.str s=>some s
 |_=>none
def wM(σ:St):AV->Option (AV×St)
 |.ptr id 0 =>
  match σ[id]? with
  |some (.siter s pos) =>
   if pos<s.size then some (.tuple [.bool true,.int .i64 pos,.int .i32 (Utf8.decode s pos).1],σ.set id (.siter s (pos+(Utf8.decode s pos).2)))
   else some (.tuple [.bool false],σ)
  |_=>none
 |_=>none
def uA(bytes:Nat)(l c:AV):Option Nat :=
 match l,c with
 |.int _ n,.int _ m=>if 0<=n/\n=m/\n*bytes<=room/\n<=room then some n.toNat else none
 |_,_=>none
def mT(d:Nat):Option AV->Option Int
 |none=>some d
 |some x=>eE x
def yC(sz:Nat)(σ:St)(x:AV)(lo hi mx:Option AV):Option AV :=
 match gD 1 σ x with
 |none=>none
 |some n =>
  match mT 0 lo,mT n hi,mx.map eE with
  |some l,some h,none=>kV sz x l h false
  |some l,some h,some (some m)=>if m=h/\hi.isSome=true then kV sz x l h true else none
  |_,_,_=>none
def KM(n sz:Nat)(x:AV)(lo hi:Option AV):Option AV :=
 match x,mT 0 lo,mT n hi with
 |.ptr id off,some l,some h=>if 0<=l/\l<=h/\h<=n then some (.ref id (off+l.toNat*sz) (h.toNat-l.toNat) sz) else none
 |_,_,_=>none
def DN(off:Nat)(sh:Option Nat):AV->Option AV
 |.agg cs=>cU sh cs off
 |_=>none
def mW(arr:Option Nat)(sz:Nat)(x i:AV):Option AV :=
 match eE i,arr,x with
 |some j,some n,.ptr id off=>if 0<=j/\j<n then some (.ptr id (off+j.toNat*sz)) else none
 |some j,some n,.lptr xs q off t=>if 0<=j/\j<n then some (.lptr xs q (off+j.toNat*sz) t) else none
 |some j,none,.lit xs _ t =>
  match xs[j.toNat]? with
  |some y=>if 0<=j/\y.cells.length=sz then some (.lptr xs j.toNat 0 t) else none
  |none=>none
 |some j,none,.ref id off len sz'=>if 0<=j/\j<len/\sz'=sz then some (.ptr id (off+j.toNat*sz)) else none
 |_,_,_=>none
def D6(n sz:Nat)(sh:Option Nat)(x i:AV):Option AV :=
 match eE i,x with
 |some j,.agg cs=>if 0<=j/\j<n then cU sh cs (j.toNat*sz) else none
 |_,_=>none
def yJ(x i:AV):Option AV :=
 match eE i,x with
 |some j,.str s=>if 0<=j then (s[j.toNat]?).map fun b=>.int .u8 b.toNat else none
 |_,_=>none
def K5(ok:Bool)(zero:AV):Option (Option AV)->Option AV
 |some (some v)=>some (if ok then .tuple [v,.bool true] else v)
 |some none=>some (if ok then .tuple [zero,.bool false] else zero)
 |none=>none
def xZ(sh:EqTy)(σ:St)(m k v:AV):Option St :=
 match m with
 |.map id =>
  if (gK sh k k).isSome=false then none else
  match σ[id]? with
  |some (.map es)=>(mE sh k v es).map fun es'=>σ.set id (.map es')
  |_=>none
 |_=>none
theorem aJO(x:AOpd)(e:Env)(σ:St):aop (.mov x) e σ=some (x.ev e,σ):=by
 simp only[aop]
theorem X0(z:List AV)(e:Env)(σ:St):aop (.alloc z) e σ=some (.ptr σ.length 0,σ++[.cells z]):=by
 simp only[aop]
theorem aC7(c x y:AOpd)(e:Env)(σ:St):aop (.pick c x y) e σ=(CH (c.ev e) (x.ev e) (y.ev e)).map (·,σ):=by
 simp only[aop,CH];repeat' split
 all_goals simp_all
theorem aKV(n:Nat)(x:AOpd)(e:Env)(σ:St):aop (.box n x) e σ=(iW n (x.ev e)).map fun cs=>(.ptr σ.length 0,σ++[.cells cs]):=by
 simp only[aop,iW];split<;>simp_all
theorem YT(z:List AV)(ps:List (Nat×Nat×AOpd))(e:Env)(σ:St):aop (.build z ps) e σ=(bQ e z ps).map fun cs=>(.agg cs,σ):=by
 simp only[aop];cases bQ e z ps<;>simp
theorem XE(n:Nat)(xs:List AOpd)(e:Env)(σ:St):aop (.mklit n xs) e σ=(wE n (evs e xs)).map (·,σ):=by
 simp only[aop,wE,kP];split<;>simp_all
theorem ZN(n:Nat)(xs:List AOpd)(e:Env)(σ:St):aop (.mkref n xs) e σ=(wE n (evs e xs)).map fun _=>(.ref σ.length 0 (evs e xs).length n,σ++[.cells ((evs e xs).flatMap AV.cells)]):=by
 simp only[aop,wE,kP];have:=congrArg List.length (kP e xs);split<;>simp_all
theorem aFQ(sh:Option Nat)(x:AOpd)(e:Env)(σ:St):aop (.load sh x) e σ=(gZ sh σ (x.ev e)).map (·,σ):=by
 simp only[aop];cases gZ sh σ (x.ev e)<;>simp
theorem YL(n:Nat)(x y:AOpd)(e:Env)(σ:St):aop (.store n x y) e σ=(i5 n σ (x.ev e) (y.ev e)).map (.tuple [],·):=by
 simp only[aop];cases i5 n σ (x.ev e) (y.ev e)<;>simp
theorem HU(x:AOpd)(e:Env)(σ:St):aop (.nilCheck x) e σ=(F5q (x.ev e)).map (·,σ):=by
 simp only[aop,F5q];cases x.ev e<;>simp
theorem aL2(op:BinOp)(x y:AOpd)(e:Env)(σ:St):aop (.bin op x y) e σ=(cA op (x.ev e) (y.ev e)).map (·,σ):=by
 simp only[aop];cases cA op (x.ev e) (y.ev e)<;>simp
theorem aI4(sh:EqTy)(n:Bool)(x y:AOpd)(e:Env)(σ:St):aop (.eql sh n x y) e σ=(BF sh n (x.ev e) (y.ev e)).map (·,σ):=by
 simp only[aop,BF];cases gK sh (x.ev e) (y.ev e)<;>simp
theorem aJH(x:AOpd)(e:Env)(σ:St):aop (.not x) e σ=(ZH (x.ev e)).map (·,σ):=by
 simp only[aop,ZH];cases x.ev e<;>simp
theorem aJG(x:AOpd)(e:Env)(σ:St):aop (.neg x) e σ=(Z9 (x.ev e)).map (·,σ):=by
 simp only[aop,Z9];cases x.ev e<;>simp
theorem aCN(k:IntKind)(x:AOpd)(e:Env)(σ:St):aop (.conv k x) e σ=(LE k (x.ev e)).map (·,σ):=by
 simp only[aop,LE];cases x.ev e<;>simp
theorem Y6(f:FuncId)(xs ys:List AOpd)(e:Env)(σ:St):aop (.mkfun f xs ys) e σ=some (.func f (evs e xs) (evs e ys),σ):=by
 simp only[aop,kP]
theorem Z1(e:Env)(σ:St):aop (.mkmap) e σ=some (.map σ.length,σ++[.map []]):=by
 simp only[aop]
theorem N8(z:List AV)(b:Nat)(x y:AOpd)(e:Env)(σ:St):aop (.mkslice z b x y) e σ=(uA b (x.ev e) (y.ev e)).map fun n=>(.ref σ.length 0 n z.length,σ++[.cells (List.replicate n z).flatten]):=by
 simp only[aop,uA];generalize x.ev e=u;generalize y.ev e=v;cases u<;>cases v<;>first|rfl|(dsimp only;split<;>first|rfl|simp_all|(split<;>simp_all))
theorem PU(n:Nat)(x:AOpd)(lo hi mx:Option AOpd)(e:Env)(σ:St):aop (.slicev n x lo hi mx) e σ=(yC n σ (x.ev e) (ovs e lo) (ovs e hi) (ovs e mx)).map (·,σ):=by
 simp only[aop,yC];cases gD 1 σ (x.ev e)<;>cases lo<;>cases hi<;>cases mx<;>simp only[bE,mT,ovs,Option.map_none,Option.map_some]<;>repeat' split
 all_goals simp_all
theorem WK(n s:Nat)(x:AOpd)(lo hi:Option AOpd)(e:Env)(σ:St):aop (.slicea n s x lo hi) e σ=(KM n s (x.ev e) (ovs e lo) (ovs e hi)).map (·,σ):=by
 simp only[aop,KM];generalize x.ev e=u;cases lo with
 |none=>cases hi with
  |none=>simp only[bE,mT,ovs];cases u<;>first|rfl|(dsimp only;split<;>first|rfl|simp_all|(split<;>simp_all))
  |some h=>simp only[bE,mT,ovs];generalize eE (h.ev e)=p;cases u<;>cases p<;>first|rfl|(dsimp only;split<;>first|rfl|simp_all|(split<;>simp_all))
 |some l=>cases hi with
  |none=>simp only[bE,mT,ovs];generalize eE (l.ev e)=p;cases u<;>cases p<;>first|rfl|(dsimp only;split<;>first|rfl|simp_all|(split<;>simp_all))
  |some h=>simp only[bE,mT,ovs];generalize eE (l.ev e)=p;generalize eE (h.ev e)=q;cases u<;>cases p<;>cases q<;>first|rfl|(dsimp only;split<;>first|rfl|simp_all|(split<;>simp_all))
theorem Y8(x:AOpd)(o:Nat)(e:Env)(σ:St):aop (.faddr x o) e σ=(vR o (x.ev e)).map (·,σ):=by
 simp only[aop,vR];cases x.ev e<;>simp
theorem XS(x:AOpd)(o:Nat)(sh:Option Nat)(e:Env)(σ:St):aop (.field x o sh) e σ=(DN o sh (x.ev e)).map (·,σ):=by
 simp only[aop,DN];cases x.ev e<;>simp<;>(rename_i cs;cases cU sh cs o<;>simp)
theorem aAG(a:Option Nat)(s:Nat)(x i:AOpd)(e:Env)(σ:St):aop (.iaddr a s x i) e σ=(mW a s (x.ev e) (i.ev e)).map (·,σ):=by
 simp only[aop,mW];generalize eE (i.ev e)=q;generalize x.ev e=u;cases q<;>cases a<;>cases u<;>first|rfl|(dsimp only;split<;>first|rfl|simp_all|(split<;>simp_all))
theorem ZA(n s:Nat)(sh:Option Nat)(x i:AOpd)(e:Env)(σ:St):aop (.index n s sh x i) e σ=(D6 n s sh (x.ev e) (i.ev e)).map (·,σ):=by
 simp only[aop,D6];generalize eE (i.ev e)=q;generalize x.ev e=u;cases q<;>cases u<;>first|rfl|(dsimp only;split<;>first|rfl|simp_all|(split<;>simp_all))
theorem Q6(x i:AOpd)(e:Env)(σ:St):aop (.sindex x i) e σ=(yJ (x.ev e) (i.ev e)).map (·,σ):=by
 simp only[aop,yJ];generalize eE (i.ev e)=q;generalize x.ev e=u;cases q<;>cases u<;>first|rfl|(dsimp only;split<;>first|rfl|(rename_i k b h;cases b[k.toNat]?<;>rfl))
theorem WM(sh:EqTy)(ok:Bool)(z:AV)(m k:AOpd)(e:Env)(σ:St):aop (.lookup sh ok z m k) e σ=(K5 ok z (tR sh σ (m.ev e) (k.ev e))).map (·,σ):=by
 simp only[aop,K5];cases tR sh σ (m.ev e) (k.ev e) with
 |none=>rfl
 |some o=>cases o<;>rfl
theorem U0(sh:EqTy)(m k v:AOpd)(e:Env)(σ:St):aop (.mapset sh m k v) e σ=(xZ sh σ (m.ev e) (k.ev e) (v.ev e)).map (.tuple [],·):=by
 simp only[aop,xZ];repeat' split
 all_goals simp_all
theorem aLH(x:AOpd)(i:Nat)(e:Env)(σ:St):aop (.ext x i) e σ=(XY i (x.ev e)).map (·,σ):=by
 simp only[aop,XY];cases x.ev e<;>simp<;>(rename_i vs;cases vs[i]?<;>simp)
theorem aIB(k:Nat)(x:AOpd)(e:Env)(σ:St):aop (.len k x) e σ=(gD k σ (x.ev e)).map fun n=>(.int .i64 n,σ):=by
 simp only[aop];cases gD k σ (x.ev e)<;>simp
theorem S2(n b:Nat)(x y:AOpd)(e:Env)(σ:St):aop (.append n b x y) e σ=bT n b σ (x.ev e) (y.ev e):=by
 simp only[aop]
theorem Y5(n b:Nat)(x y:AOpd)(e:Env)(σ:St):aop (.apref n b x y) e σ=pC n b σ (x.ev e) (y.ev e):=by
 simp only[aop]
theorem aFM(n:Nat)(x y:AOpd)(e:Env)(σ:St):aop (.copy n x y) e σ=pH n σ (x.ev e) (y.ev e):=by
 simp only[aop]
theorem aID(xs:List AOpd)(e:Env)(σ:St):aop (.min xs) e σ=(xB (evs e xs)).map (·,σ):=by
 simp only[aop,kP];cases xB (evs e xs)<;>simp
theorem aJQ(xs:List AOpd)(e:Env)(σ:St):aop (.max xs) e σ=(w4 (evs e xs)).map (·,σ):=by
 simp only[aop,kP];cases w4 (evs e xs)<;>simp
theorem RA(x:AOpd)(e:Env)(σ:St):aop (.srange x) e σ=(aAM (x.ev e)).map fun s=>(.ptr σ.length 0,σ++[.siter s 0]):=by
 simp only[aop,aAM];cases x.ev e<;>simp
theorem XU(x:AOpd)(e:Env)(σ:St):aop (.snext x) e σ=wM σ (x.ev e):=by
 simp only[aop,wM];cases x.ev e<;>rfl
theorem aJV(x:AOpd)(d:Option Nat)(os:List AOper)(e:Env)(σ:St)(K:Env->St->Prop):aH T (⟨d,.mov x,none⟩::os) e σ K=bO (K:=⟨fun v σ'=>aH T os (Env.put e d v) σ' K⟩) (aop (.mov x) e σ):=by simp only[aH,fG,bO]
theorem YC(z:List AV)(d:Option Nat)(os:List AOper)(e:Env)(σ:St)(K:Env->St->Prop):aH T (⟨d,.alloc z,none⟩::os) e σ K=bO (K:=⟨fun v σ'=>aH T os (Env.put e d v) σ' K⟩) (aop (.alloc z) e σ):=by simp only[aH,fG,bO]
theorem aE9(c x y:AOpd)(d:Option Nat)(os:List AOper)(e:Env)(σ:St)(K:Env->St->Prop):aH T (⟨d,.pick c x y,none⟩::os) e σ K=bO (K:=⟨fun v σ'=>aH T os (Env.put e d v) σ' K⟩) (aop (.pick c x y) e σ):=by simp only[aH,fG,bO]
theorem aN9(n:Nat)(x:AOpd)(d:Option Nat)(os:List AOper)(e:Env)(σ:St)(K:Env->St->Prop):aH T (⟨d,.box n x,none⟩::os) e σ K=bO (K:=⟨fun v σ'=>aH T os (Env.put e d v) σ' K⟩) (aop (.box n x) e σ):=by simp only[aH,fG,bO]
theorem X3(z:List AV)(ps:List (Nat×Nat×AOpd))(d:Option Nat)(os:List AOper)(e:Env)(σ:St)(K:Env->St->Prop):aH T (⟨d,.build z ps,none⟩::os) e σ K=bO (K:=⟨fun v σ'=>aH T os (Env.put e d v) σ' K⟩) (aop (.build z ps) e σ):=by simp only[aH,fG,bO]
theorem ZY(n:Nat)(xs:List AOpd)(d:Option Nat)(os:List AOper)(e:Env)(σ:St)(K:Env->St->Prop):aH T (⟨d,.mklit n xs,none⟩::os) e σ K=bO (K:=⟨fun v σ'=>aH T os (Env.put e d v) σ' K⟩) (aop (.mklit n xs) e σ):=by simp only[aH,fG,bO]
theorem XA(n:Nat)(xs:List AOpd)(d:Option Nat)(os:List AOper)(e:Env)(σ:St)(K:Env->St->Prop):aH T (⟨d,.mkref n xs,none⟩::os) e σ K=bO (K:=⟨fun v σ'=>aH T os (Env.put e d v) σ' K⟩) (aop (.mkref n xs) e σ):=by simp only[aH,fG,bO]
theorem aE4(sh:Option Nat)(x:AOpd)(d:Option Nat)(os:List AOper)(e:Env)(σ:St)(K:Env->St->Prop):aH T (⟨d,.load sh x,none⟩::os) e σ K=bO (K:=⟨fun v σ'=>aH T os (Env.put e d v) σ' K⟩) (aop (.load sh x) e σ):=by simp only[aH,fG,bO]
theorem ZM(n:Nat)(x y:AOpd)(d:Option Nat)(os:List AOper)(e:Env)(σ:St)(K:Env->St->Prop):aH T (⟨d,.store n x y,none⟩::os) e σ K=bO (K:=⟨fun v σ'=>aH T os (Env.put e d v) σ' K⟩) (aop (.store n x y) e σ):=by simp only[aH,fG,bO]
theorem I6(x:AOpd)(d:Option Nat)(os:List AOper)(e:Env)(σ:St)(K:Env->St->Prop):aH T (⟨d,.nilCheck x,none⟩::os) e σ K=bO (K:=⟨fun v σ'=>aH T os (Env.put e d v) σ' K⟩) (aop (.nilCheck x) e σ):=by simp only[aH,fG,bO]
theorem aOF(op:BinOp)(x y:AOpd)(d:Option Nat)(os:List AOper)(e:Env)(σ:St)(K:Env->St->Prop):aH T (⟨d,.bin op x y,none⟩::os) e σ K=bO (K:=⟨fun v σ'=>aH T os (Env.put e d v) σ' K⟩) (aop (.bin op x y) e σ):=by simp only[aH,fG,bO]
theorem aJC(sh:EqTy)(n:Bool)(x y:AOpd)(d:Option Nat)(os:List AOper)(e:Env)(σ:St)(K:Env->St->Prop):aH T (⟨d,.eql sh n x y,none⟩::os) e σ K=bO (K:=⟨fun v σ'=>aH T os (Env.put e d v) σ' K⟩) (aop (.eql sh n x y) e σ):=by simp only[aH,fG,bO]
theorem aI0(x:AOpd)(d:Option Nat)(os:List AOper)(e:Env)(σ:St)(K:Env->St->Prop):aH T (⟨d,.not x,none⟩::os) e σ K=bO (K:=⟨fun v σ'=>aH T os (Env.put e d v) σ' K⟩) (aop (.not x) e σ):=by simp only[aH,fG,bO]
theorem aLO(x:AOpd)(d:Option Nat)(os:List AOper)(e:Env)(σ:St)(K:Env->St->Prop):aH T (⟨d,.neg x,none⟩::os) e σ K=bO (K:=⟨fun v σ'=>aH T os (Env.put e d v) σ' K⟩) (aop (.neg x) e σ):=by simp only[aH,fG,bO]
theorem aDW(k:IntKind)(x:AOpd)(d:Option Nat)(os:List AOper)(e:Env)(σ:St)(K:Env->St->Prop):aH T (⟨d,.conv k x,none⟩::os) e σ K=bO (K:=⟨fun v σ'=>aH T os (Env.put e d v) σ' K⟩) (aop (.conv k x) e σ):=by simp only[aH,fG,bO]
theorem YY(f:FuncId)(xs ys:List AOpd)(d:Option Nat)(os:List AOper)(e:Env)(σ:St)(K:Env->St->Prop):aH T (⟨d,.mkfun f xs ys,none⟩::os) e σ K=bO (K:=⟨fun v σ'=>aH T os (Env.put e d v) σ' K⟩) (aop (.mkfun f xs ys) e σ):=by simp only[aH,fG,bO]
theorem WS(d:Option Nat)(os:List AOper)(e:Env)(σ:St)(K:Env->St->Prop):aH T (⟨d,.mkmap,none⟩::os) e σ K=bO (K:=⟨fun v σ'=>aH T os (Env.put e d v) σ' K⟩) (aop (.mkmap) e σ):=by simp only[aH,fG,bO]
theorem N1(z:List AV)(b:Nat)(x y:AOpd)(d:Option Nat)(os:List AOper)(e:Env)(σ:St)(K:Env->St->Prop):aH T (⟨d,.mkslice z b x y,none⟩::os) e σ K=bO (K:=⟨fun v σ'=>aH T os (Env.put e d v) σ' K⟩) (aop (.mkslice z b x y) e σ):=by simp only[aH,fG,bO]
theorem VG(n:Nat)(x:AOpd)(lo hi mx:Option AOpd)(d:Option Nat)(os:List AOper)(e:Env)(σ:St)(K:Env->St->Prop):aH T (⟨d,.slicev n x lo hi mx,none⟩::os) e σ K=bO (K:=⟨fun v σ'=>aH T os (Env.put e d v) σ' K⟩) (aop (.slicev n x lo hi mx) e σ):=by simp only[aH,fG,bO]
theorem T0(n s:Nat)(x:AOpd)(lo hi:Option AOpd)(d:Option Nat)(os:List AOper)(e:Env)(σ:St)(K:Env->St->Prop):aH T (⟨d,.slicea n s x lo hi,none⟩::os) e σ K=bO (K:=⟨fun v σ'=>aH T os (Env.put e d v) σ' K⟩) (aop (.slicea n s x lo hi) e σ):=by simp only[aH,fG,bO]
theorem aAC(x:AOpd)(o:Nat)(d:Option Nat)(os:List AOper)(e:Env)(σ:St)(K:Env->St->Prop):aH T (⟨d,.faddr x o,none⟩::os) e σ K=bO (K:=⟨fun v σ'=>aH T os (Env.put e d v) σ' K⟩) (aop (.faddr x o) e σ):=by simp only[aH,fG,bO]
theorem WT(x:AOpd)(o:Nat)(sh:Option Nat)(d:Option Nat)(os:List AOper)(e:Env)(σ:St)(K:Env->St->Prop):aH T (⟨d,.field x o sh,none⟩::os) e σ K=bO (K:=⟨fun v σ'=>aH T os (Env.put e d v) σ' K⟩) (aop (.field x o sh) e σ):=by simp only[aH,fG,bO]
theorem YF(a:Option Nat)(s:Nat)(x i:AOpd)(d:Option Nat)(os:List AOper)(e:Env)(σ:St)(K:Env->St->Prop):aH T (⟨d,.iaddr a s x i,none⟩::os) e σ K=bO (K:=⟨fun v σ'=>aH T os (Env.put e d v) σ' K⟩) (aop (.iaddr a s x i) e σ):=by simp only[aH,fG,bO]
theorem Y7(n s:Nat)(sh:Option Nat)(x i:AOpd)(d:Option Nat)(os:List AOper)(e:Env)(σ:St)(K:Env->St->Prop):aH T (⟨d,.index n s sh x i,none⟩::os) e σ K=bO (K:=⟨fun v σ'=>aH T os (Env.put e d v) σ' K⟩) (aop (.index n s sh x i) e σ):=by simp only[aH,fG,bO]
theorem WH(x i:AOpd)(d:Option Nat)(os:List AOper)(e:Env)(σ:St)(K:Env->St->Prop):aH T (⟨d,.sindex x i,none⟩::os) e σ K=bO (K:=⟨fun v σ'=>aH T os (Env.put e d v) σ' K⟩) (aop (.sindex x i) e σ):=by simp only[aH,fG,bO]
theorem RM(sh:EqTy)(ok:Bool)(z:AV)(m k:AOpd)(d:Option Nat)(os:List AOper)(e:Env)(σ:St)(K:Env->St->Prop):aH T (⟨d,.lookup sh ok z m k,none⟩::os) e σ K=bO (K:=⟨fun v σ'=>aH T os (Env.put e d v) σ' K⟩) (aop (.lookup sh ok z m k) e σ):=by simp only[aH,fG,bO]
theorem VA(sh:EqTy)(m k v:AOpd)(d:Option Nat)(os:List AOper)(e:Env)(σ:St)(K:Env->St->Prop):aH T (⟨d,.mapset sh m k v,none⟩::os) e σ K=bO (K:=⟨fun v σ'=>aH T os (Env.put e d v) σ' K⟩) (aop (.mapset sh m k v) e σ):=by simp only[aH,fG,bO]
theorem aIQ(x:AOpd)(i:Nat)(d:Option Nat)(os:List AOper)(e:Env)(σ:St)(K:Env->St->Prop):aH T (⟨d,.ext x i,none⟩::os) e σ K=bO (K:=⟨fun v σ'=>aH T os (Env.put e d v) σ' K⟩) (aop (.ext x i) e σ):=by simp only[aH,fG,bO]
theorem aK4(k:Nat)(x:AOpd)(d:Option Nat)(os:List AOper)(e:Env)(σ:St)(K:Env->St->Prop):aH T (⟨d,.len k x,none⟩::os) e σ K=bO (K:=⟨fun v σ'=>aH T os (Env.put e d v) σ' K⟩) (aop (.len k x) e σ):=by simp only[aH,fG,bO]
theorem S0(n b:Nat)(x y:AOpd)(d:Option Nat)(os:List AOper)(e:Env)(σ:St)(K:Env->St->Prop):aH T (⟨d,.append n b x y,none⟩::os) e σ K=bO (K:=⟨fun v σ'=>aH T os (Env.put e d v) σ' K⟩) (aop (.append n b x y) e σ):=by simp only[aH,fG,bO]
theorem ZJ(n b:Nat)(x y:AOpd)(d:Option Nat)(os:List AOper)(e:Env)(σ:St)(K:Env->St->Prop):aH T (⟨d,.apref n b x y,none⟩::os) e σ K=bO (K:=⟨fun v σ'=>aH T os (Env.put e d v) σ' K⟩) (aop (.apref n b x y) e σ):=by simp only[aH,fG,bO]
theorem aGE(n:Nat)(x y:AOpd)(d:Option Nat)(os:List AOper)(e:Env)(σ:St)(K:Env->St->Prop):aH T (⟨d,.copy n x y,none⟩::os) e σ K=bO (K:=⟨fun v σ'=>aH T os (Env.put e d v) σ' K⟩) (aop (.copy n x y) e σ):=by simp only[aH,fG,bO]
theorem aN1(xs:List AOpd)(d:Option Nat)(os:List AOper)(e:Env)(σ:St)(K:Env->St->Prop):aH T (⟨d,.min xs,none⟩::os) e σ K=bO (K:=⟨fun v σ'=>aH T os (Env.put e d v) σ' K⟩) (aop (.min xs) e σ):=by simp only[aH,fG,bO]
theorem aM1(xs:List AOpd)(d:Option Nat)(os:List AOper)(e:Env)(σ:St)(K:Env->St->Prop):aH T (⟨d,.max xs,none⟩::os) e σ K=bO (K:=⟨fun v σ'=>aH T os (Env.put e d v) σ' K⟩) (aop (.max xs) e σ):=by simp only[aH,fG,bO]
theorem SO(x:AOpd)(d:Option Nat)(os:List AOper)(e:Env)(σ:St)(K:Env->St->Prop):aH T (⟨d,.srange x,none⟩::os) e σ K=bO (K:=⟨fun v σ'=>aH T os (Env.put e d v) σ' K⟩) (aop (.srange x) e σ):=by simp only[aH,fG,bO]
theorem ZF(x:AOpd)(d:Option Nat)(os:List AOper)(e:Env)(σ:St)(K:Env->St->Prop):aH T (⟨d,.snext x,none⟩::os) e σ K=bO (K:=⟨fun v σ'=>aH T os (Env.put e d v) σ' K⟩) (aop (.snext x) e σ):=by simp only[aH,fG,bO]
theorem aDF(f:AOpd)(xs:List AOpd)(d:Option Nat)(os:List AOper)(e:Env)(σ:St)(K:Env->St->Prop):aH T (⟨d,.call f xs,none⟩::os) e σ K=cK (K:=⟨fun v σ'=>aH T os (Env.put e d v) σ' K⟩) T (f.ev e) (evs e xs) σ:=by simp only[aH,fG,kP,cK]
theorem YZ(b:Bool)(A B:HP Prop):bB (.bool b) (A:=A) (B:=B)=xP (A:=A) (B:=B) b:=by cases b<;>simp[bB,AT,xP]
theorem TU(b:Bool)(A B:HP Prop):bG (.bool b) true (A:=A) (B:=B)=xP (A:=A) (B:=B) b:=by cases b<;>simp[bG,lZ,xP]
theorem SM(b:Bool)(A B:HP Prop):bG (.bool b) false (A:=A) (B:=B)=xP (A:=B) (B:=A) b:=by cases b<;>simp[bG,lZ,xP]
theorem UK(w:Bool)(A:HP Prop)(B:Prop):bG (.tuple []) w (A:=A) (B:=⟨B⟩)=B:=by simp[bG,lZ]
theorem aAF(d:Option Nat)(q:AOp)(t:Nat)(want:Bool)(os:List AOper)(e:Env)(σ:St)(K:Env->St->Prop):aH T (⟨d,q,some (t,want)⟩::os) e σ K =
  bG (A:=⟨aH T (⟨d,q,none⟩::os) e σ K⟩) (B:=⟨aH T os (Env.put e d (.tuple [])) σ K⟩) (Env.get e t) want:=by simp only[aH,bG]
theorem aJ1(ds:List ADOper)(e:Env)(σ:St)(K:KJ):wp T (.dreg ds) e σ K=rK (K:=⟨K⟩) T (.dreg ds) e σ:=by simp only[wp,rK]
theorem MD{ds:List ADOper}{e:Env}{σ:St}{K:KJ}(h:wpD T ds e (σ++cG ds) σ.length [σ++cG ds] [] fun e σ=>K none e σ):rK (K:=⟨K⟩) T (.dreg ds) e σ:=.dreg (iX h fun e σ hk=>hk)
theorem aK1(e:Env)(σ:St)(next:Nat)(hist:List St)(reads:List ARead)(K:Env->St->Prop):wpD T [] e σ next hist reads K=(pE reads hist/\K e σ):=by simp only[wpD]
theorem aE7(f:AOpd)(xs:List AOpd)(d:Option Nat)(lo hi:Nat)(ds:List ADOper)(e:Env)(σ:St)(next:Nat)(hist:List St)(reads:List ARead)(K:Env->St->Prop):
  wpD T (⟨⟨d,.call f xs,none⟩,lo,hi⟩::ds) e σ next hist reads K=cD (K:=⟨fun v σ'=>wpD T ds (Env.put e d v) σ' next (hist++[σ']) reads K⟩) T (f.ev e) (evs e xs) σ:=by simp only[wpD,kP,cD]
theorem ZR(z:List AV)(d:Option Nat)(lo hi:Nat)(ds:List ADOper)(e:Env)(σ:St)(next:Nat)(hist:List St)(reads:List ARead)(K:Env->St->Prop):
  wpD T (⟨⟨d,.alloc z,none⟩,lo,hi⟩::ds) e σ next hist reads K=wpD T ds (Env.put e d (.ptr next 0)) σ (next+1) hist reads K:=by simp only[wpD]
def sU(lo hi:Nat)(q:AOp)(e:Env)(v:AV):List St->Nat->Prop
 |[],_=>True
 |s::ss,j=>(if lo<=j/\j<=hi then aop q e s=some (v,s) else True)/\sU lo hi q e v ss (j+1)
theorem GN(r:ARead):∀ (ss:List St) (j:Nat),sU r.lo r.hi r.op r.env r.v ss j=BW r ss j
 |[],j=>by simp only[sU,BW]
 |s::ss,j=>by simp only[sU,BW,GN r ss (j+1)]
theorem QI(hist:List St):pE [] hist=True:=by simp only[pE]
theorem S6(lo hi:Nat)(q:AOp)(e:Env)(v:AV)(rs:List ARead)(hist:List St):pE (⟨lo,hi,q,e,v⟩::rs) hist=(sU lo hi q e v hist 0/\pE rs hist):=by
 simp only[pE];rw[<-GN]
theorem XR(lo hi:Nat)(q:AOp)(e:Env)(v:AV)(j:Nat):sU lo hi q e v [] j=True:=by simp only[sU]
theorem ZT(lo hi:Nat)(q:AOp)(e:Env)(v:AV)(s:St)(ss:List St)(j:Nat):sU lo hi q e v (s::ss) j=((if lo<=j/\j<=hi then aop q e s=some (v,s) else True)/\sU lo hi q e v ss (j+1)):=by simp only[sU]
theorem aIX(x:AOpd)(d:Option Nat)(wl wh:Nat)(ds:List ADOper)(e:Env)(σ:St)(next:Nat)(hist:List St)(reads:List ARead)(K:Env->St->Prop):wpD T (⟨⟨d,.mov x,none⟩,wl,wh⟩::ds) e σ next hist reads K=bO (K:=⟨fun v σ'=>σ'=σ/\wpD T ds (Env.put e d v) σ next hist reads K⟩) (aop (.mov x) e σ):=by
 simp only[wpD,bO,AOp.acts,AOp.reads,if_true,Bool.false_eq_true,if_false]
theorem aDB(c x y:AOpd)(d:Option Nat)(wl wh:Nat)(ds:List ADOper)(e:Env)(σ:St)(next:Nat)(hist:List St)(reads:List ARead)(K:Env->St->Prop):wpD T (⟨⟨d,.pick c x y,none⟩,wl,wh⟩::ds) e σ next hist reads K=bO (K:=⟨fun v σ'=>σ'=σ/\wpD T ds (Env.put e d v) σ next hist reads K⟩) (aop (.pick c x y) e σ):=by
 simp only[wpD,bO,AOp.acts,AOp.reads,if_true,Bool.false_eq_true,if_false]
theorem aJL(n:Nat)(x:AOpd)(d:Option Nat)(wl wh:Nat)(ds:List ADOper)(e:Env)(σ:St)(next:Nat)(hist:List St)(reads:List ARead)(K:Env->St->Prop):wpD T (⟨⟨d,.box n x,none⟩,wl,wh⟩::ds) e σ next hist reads K=bO (K:=⟨fun v σ'=>wpD T ds (Env.put e d v) σ' next (hist++[σ']) reads K⟩) (aop (.box n x) e σ):=by
 simp only[wpD,bO,AOp.acts,AOp.reads,if_true,Bool.false_eq_true,if_false]
theorem YV(z:List AV)(ps:List (Nat×Nat×AOpd))(d:Option Nat)(wl wh:Nat)(ds:List ADOper)(e:Env)(σ:St)(next:Nat)(hist:List St)(reads:List ARead)(K:Env->St->Prop):wpD T (⟨⟨d,.build z ps,none⟩,wl,wh⟩::ds) e σ next hist reads K=bO (K:=⟨fun v σ'=>σ'=σ/\wpD T ds (Env.put e d v) σ next hist reads K⟩) (aop (.build z ps) e σ):=by
 simp only[wpD,bO,AOp.acts,AOp.reads,if_true,Bool.false_eq_true,if_false]
theorem YD(n:Nat)(xs:List AOpd)(d:Option Nat)(wl wh:Nat)(ds:List ADOper)(e:Env)(σ:St)(next:Nat)(hist:List St)(reads:List ARead)(K:Env->St->Prop):wpD T (⟨⟨d,.mklit n xs,none⟩,wl,wh⟩::ds) e σ next hist reads K=bO (K:=⟨fun v σ'=>σ'=σ/\wpD T ds (Env.put e d v) σ next hist reads K⟩) (aop (.mklit n xs) e σ):=by
 simp only[wpD,bO,AOp.acts,AOp.reads,if_true,Bool.false_eq_true,if_false]
theorem ZE(n:Nat)(xs:List AOpd)(d:Option Nat)(wl wh:Nat)(ds:List ADOper)(e:Env)(σ:St)(next:Nat)(hist:List St)(reads:List ARead)(K:Env->St->Prop):wpD T (⟨⟨d,.mkref n xs,none⟩,wl,wh⟩::ds) e σ next hist reads K=bO (K:=⟨fun v σ'=>wpD T ds (Env.put e d v) σ' next (hist++[σ']) reads K⟩) (aop (.mkref n xs) e σ):=by
 simp only[wpD,bO,AOp.acts,AOp.reads,if_true,Bool.false_eq_true,if_false]
theorem aDX(sh:Option Nat)(x:AOpd)(d:Option Nat)(wl wh:Nat)(ds:List ADOper)(e:Env)(σ:St)(next:Nat)(hist:List St)(reads:List ARead)(K:Env->St->Prop):wpD T (⟨⟨d,.load sh x,none⟩,wl,wh⟩::ds) e σ next hist reads K=bO (K:=⟨fun v σ'=>σ'=σ/\wpD T ds (Env.put e d v) σ next hist (⟨wl,wh,.load sh x,e,v⟩::reads) K⟩) (aop (.load sh x) e σ):=by
 simp only[wpD,bO,AOp.acts,AOp.reads,if_true,Bool.false_eq_true,if_false]
theorem WU(n:Nat)(x y:AOpd)(d:Option Nat)(wl wh:Nat)(ds:List ADOper)(e:Env)(σ:St)(next:Nat)(hist:List St)(reads:List ARead)(K:Env->St->Prop):wpD T (⟨⟨d,.store n x y,none⟩,wl,wh⟩::ds) e σ next hist reads K=bO (K:=⟨fun v σ'=>wpD T ds (Env.put e d v) σ' next (hist++[σ']) reads K⟩) (aop (.store n x y) e σ):=by
 simp only[wpD,bO,AOp.acts,AOp.reads,if_true,Bool.false_eq_true,if_false]
theorem II(x:AOpd)(d:Option Nat)(wl wh:Nat)(ds:List ADOper)(e:Env)(σ:St)(next:Nat)(hist:List St)(reads:List ARead)(K:Env->St->Prop):wpD T (⟨⟨d,.nilCheck x,none⟩,wl,wh⟩::ds) e σ next hist reads K=bO (K:=⟨fun v σ'=>σ'=σ/\wpD T ds (Env.put e d v) σ next hist reads K⟩) (aop (.nilCheck x) e σ):=by
 simp only[wpD,bO,AOp.acts,AOp.reads,if_true,Bool.false_eq_true,if_false]
theorem aK9(op:BinOp)(x y:AOpd)(d:Option Nat)(wl wh:Nat)(ds:List ADOper)(e:Env)(σ:St)(next:Nat)(hist:List St)(reads:List ARead)(K:Env->St->Prop):wpD T (⟨⟨d,.bin op x y,none⟩,wl,wh⟩::ds) e σ next hist reads K=bO (K:=⟨fun v σ'=>σ'=σ/\wpD T ds (Env.put e d v) σ next hist reads K⟩) (aop (.bin op x y) e σ):=by
 simp only[wpD,bO,AOp.acts,AOp.reads,if_true,Bool.false_eq_true,if_false]
theorem aN2(sh:EqTy)(n:Bool)(x y:AOpd)(d:Option Nat)(wl wh:Nat)(ds:List ADOper)(e:Env)(σ:St)(next:Nat)(hist:List St)(reads:List ARead)(K:Env->St->Prop):wpD T (⟨⟨d,.eql sh n x y,none⟩,wl,wh⟩::ds) e σ next hist reads K=bO (K:=⟨fun v σ'=>σ'=σ/\wpD T ds (Env.put e d v) σ next hist reads K⟩) (aop (.eql sh n x y) e σ):=by
 simp only[wpD,bO,AOp.acts,AOp.reads,if_true,Bool.false_eq_true,if_false]
theorem aL3(x:AOpd)(d:Option Nat)(wl wh:Nat)(ds:List ADOper)(e:Env)(σ:St)(next:Nat)(hist:List St)(reads:List ARead)(K:Env->St->Prop):wpD T (⟨⟨d,.not x,none⟩,wl,wh⟩::ds) e σ next hist reads K=bO (K:=⟨fun v σ'=>σ'=σ/\wpD T ds (Env.put e d v) σ next hist reads K⟩) (aop (.not x) e σ):=by
 simp only[wpD,bO,AOp.acts,AOp.reads,if_true,Bool.false_eq_true,if_false]
theorem aKL(x:AOpd)(d:Option Nat)(wl wh:Nat)(ds:List ADOper)(e:Env)(σ:St)(next:Nat)(hist:List St)(reads:List ARead)(K:Env->St->Prop):wpD T (⟨⟨d,.neg x,none⟩,wl,wh⟩::ds) e σ next hist reads K=bO (K:=⟨fun v σ'=>σ'=σ/\wpD T ds (Env.put e d v) σ next hist reads K⟩) (aop (.neg x) e σ):=by
 simp only[wpD,bO,AOp.acts,AOp.reads,if_true,Bool.false_eq_true,if_false]
theorem aDM(k:IntKind)(x:AOpd)(d:Option Nat)(wl wh:Nat)(ds:List ADOper)(e:Env)(σ:St)(next:Nat)(hist:List St)(reads:List ARead)(K:Env->St->Prop):wpD T (⟨⟨d,.conv k x,none⟩,wl,wh⟩::ds) e σ next hist reads K=bO (K:=⟨fun v σ'=>σ'=σ/\wpD T ds (Env.put e d v) σ next hist reads K⟩) (aop (.conv k x) e σ):=by
 simp only[wpD,bO,AOp.acts,AOp.reads,if_true,Bool.false_eq_true,if_false]
theorem X6(f:FuncId)(xs ys:List AOpd)(d:Option Nat)(wl wh:Nat)(ds:List ADOper)(e:Env)(σ:St)(next:Nat)(hist:List St)(reads:List ARead)(K:Env->St->Prop):wpD T (⟨⟨d,.mkfun f xs ys,none⟩,wl,wh⟩::ds) e σ next hist reads K=bO (K:=⟨fun v σ'=>σ'=σ/\wpD T ds (Env.put e d v) σ next hist reads K⟩) (aop (.mkfun f xs ys) e σ):=by
 simp only[wpD,bO,AOp.acts,AOp.reads,if_true,Bool.false_eq_true,if_false]
theorem YS(d:Option Nat)(wl wh:Nat)(ds:List ADOper)(e:Env)(σ:St)(next:Nat)(hist:List St)(reads:List ARead)(K:Env->St->Prop):wpD T (⟨⟨d,.mkmap,none⟩,wl,wh⟩::ds) e σ next hist reads K=bO (K:=⟨fun v σ'=>wpD T ds (Env.put e d v) σ' next (hist++[σ']) reads K⟩) (aop (.mkmap) e σ):=by
 simp only[wpD,bO,AOp.acts,AOp.reads,if_true,Bool.false_eq_true,if_false]
theorem MO(z:List AV)(b:Nat)(x y:AOpd)(d:Option Nat)(wl wh:Nat)(ds:List ADOper)(e:Env)(σ:St)(next:Nat)(hist:List St)(reads:List ARead)(K:Env->St->Prop):wpD T (⟨⟨d,.mkslice z b x y,none⟩,wl,wh⟩::ds) e σ next hist reads K=bO (K:=⟨fun v σ'=>wpD T ds (Env.put e d v) σ' next (hist++[σ']) reads K⟩) (aop (.mkslice z b x y) e σ):=by
 simp only[wpD,bO,AOp.acts,AOp.reads,if_true,Bool.false_eq_true,if_false]
theorem PG(n:Nat)(x:AOpd)(lo hi mx:Option AOpd)(d:Option Nat)(wl wh:Nat)(ds:List ADOper)(e:Env)(σ:St)(next:Nat)(hist:List St)(reads:List ARead)(K:Env->St->Prop):wpD T (⟨⟨d,.slicev n x lo hi mx,none⟩,wl,wh⟩::ds) e σ next hist reads K=bO (K:=⟨fun v σ'=>σ'=σ/\wpD T ds (Env.put e d v) σ next hist (⟨wl,wh,.slicev n x lo hi mx,e,v⟩::reads) K⟩) (aop (.slicev n x lo hi mx) e σ):=by
 simp only[wpD,bO,AOp.acts,AOp.reads,if_true,Bool.false_eq_true,if_false]
theorem TE(n s:Nat)(x:AOpd)(lo hi:Option AOpd)(d:Option Nat)(wl wh:Nat)(ds:List ADOper)(e:Env)(σ:St)(next:Nat)(hist:List St)(reads:List ARead)(K:Env->St->Prop):wpD T (⟨⟨d,.slicea n s x lo hi,none⟩,wl,wh⟩::ds) e σ next hist reads K=bO (K:=⟨fun v σ'=>σ'=σ/\wpD T ds (Env.put e d v) σ next hist reads K⟩) (aop (.slicea n s x lo hi) e σ):=by
 simp only[wpD,bO,AOp.acts,AOp.reads,if_true,Bool.false_eq_true,if_false]
theorem YK(x:AOpd)(o:Nat)(d:Option Nat)(wl wh:Nat)(ds:List ADOper)(e:Env)(σ:St)(next:Nat)(hist:List St)(reads:List ARead)(K:Env->St->Prop):wpD T (⟨⟨d,.faddr x o,none⟩,wl,wh⟩::ds) e σ next hist reads K=bO (K:=⟨fun v σ'=>σ'=σ/\wpD T ds (Env.put e d v) σ next hist reads K⟩) (aop (.faddr x o) e σ):=by
 simp only[wpD,bO,AOp.acts,AOp.reads,if_true,Bool.false_eq_true,if_false]
theorem YM(x:AOpd)(o:Nat)(sh:Option Nat)(d:Option Nat)(wl wh:Nat)(ds:List ADOper)(e:Env)(σ:St)(next:Nat)(hist:List St)(reads:List ARead)(K:Env->St->Prop):wpD T (⟨⟨d,.field x o sh,none⟩,wl,wh⟩::ds) e σ next hist reads K=bO (K:=⟨fun v σ'=>σ'=σ/\wpD T ds (Env.put e d v) σ next hist reads K⟩) (aop (.field x o sh) e σ):=by
 simp only[wpD,bO,AOp.acts,AOp.reads,if_true,Bool.false_eq_true,if_false]
theorem ZB(a:Option Nat)(s:Nat)(x i:AOpd)(d:Option Nat)(wl wh:Nat)(ds:List ADOper)(e:Env)(σ:St)(next:Nat)(hist:List St)(reads:List ARead)(K:Env->St->Prop):wpD T (⟨⟨d,.iaddr a s x i,none⟩,wl,wh⟩::ds) e σ next hist reads K=bO (K:=⟨fun v σ'=>σ'=σ/\wpD T ds (Env.put e d v) σ next hist reads K⟩) (aop (.iaddr a s x i) e σ):=by
 simp only[wpD,bO,AOp.acts,AOp.reads,if_true,Bool.false_eq_true,if_false]
theorem XF(n s:Nat)(sh:Option Nat)(x i:AOpd)(d:Option Nat)(wl wh:Nat)(ds:List ADOper)(e:Env)(σ:St)(next:Nat)(hist:List St)(reads:List ARead)(K:Env->St->Prop):wpD T (⟨⟨d,.index n s sh x i,none⟩,wl,wh⟩::ds) e σ next hist reads K=bO (K:=⟨fun v σ'=>σ'=σ/\wpD T ds (Env.put e d v) σ next hist reads K⟩) (aop (.index n s sh x i) e σ):=by
 simp only[wpD,bO,AOp.acts,AOp.reads,if_true,Bool.false_eq_true,if_false]
theorem UL(x i:AOpd)(d:Option Nat)(wl wh:Nat)(ds:List ADOper)(e:Env)(σ:St)(next:Nat)(hist:List St)(reads:List ARead)(K:Env->St->Prop):wpD T (⟨⟨d,.sindex x i,none⟩,wl,wh⟩::ds) e σ next hist reads K=bO (K:=⟨fun v σ'=>σ'=σ/\wpD T ds (Env.put e d v) σ next hist reads K⟩) (aop (.sindex x i) e σ):=by
 simp only[wpD,bO,AOp.acts,AOp.reads,if_true,Bool.false_eq_true,if_false]
theorem RT(sh:EqTy)(ok:Bool)(z:AV)(m k:AOpd)(d:Option Nat)(wl wh:Nat)(ds:List ADOper)(e:Env)(σ:St)(next:Nat)(hist:List St)(reads:List ARead)(K:Env->St->Prop):wpD T (⟨⟨d,.lookup sh ok z m k,none⟩,wl,wh⟩::ds) e σ next hist reads K=bO (K:=⟨fun v σ'=>σ'=σ/\wpD T ds (Env.put e d v) σ next hist (⟨wl,wh,.lookup sh ok z m k,e,v⟩::reads) K⟩) (aop (.lookup sh ok z m k) e σ):=by
 simp only[wpD,bO,AOp.acts,AOp.reads,if_true,Bool.false_eq_true,if_false]
theorem P1(sh:EqTy)(m k v:AOpd)(d:Option Nat)(wl wh:Nat)(ds:List ADOper)(e:Env)(σ:St)(next:Nat)(hist:List St)(reads:List ARead)(K:Env->St->Prop):wpD T (⟨⟨d,.mapset sh m k v,none⟩,wl,wh⟩::ds) e σ next hist reads K=bO (K:=⟨fun v σ'=>wpD T ds (Env.put e d v) σ' next (hist++[σ']) reads K⟩) (aop (.mapset sh m k v) e σ):=by
 simp only[wpD,bO,AOp.acts,AOp.reads,if_true,Bool.false_eq_true,if_false]
theorem aMD(x:AOpd)(i:Nat)(d:Option Nat)(wl wh:Nat)(ds:List ADOper)(e:Env)(σ:St)(next:Nat)(hist:List St)(reads:List ARead)(K:Env->St->Prop):wpD T (⟨⟨d,.ext x i,none⟩,wl,wh⟩::ds) e σ next hist reads K=bO (K:=⟨fun v σ'=>σ'=σ/\wpD T ds (Env.put e d v) σ next hist reads K⟩) (aop (.ext x i) e σ):=by
 simp only[wpD,bO,AOp.acts,AOp.reads,if_true,Bool.false_eq_true,if_false]
theorem aIF(k:Nat)(x:AOpd)(d:Option Nat)(wl wh:Nat)(ds:List ADOper)(e:Env)(σ:St)(next:Nat)(hist:List St)(reads:List ARead)(K:Env->St->Prop):wpD T (⟨⟨d,.len k x,none⟩,wl,wh⟩::ds) e σ next hist reads K=bO (K:=⟨fun v σ'=>σ'=σ/\wpD T ds (Env.put e d v) σ next hist (⟨wl,wh,.len k x,e,v⟩::reads) K⟩) (aop (.len k x) e σ):=by
 simp only[wpD,bO,AOp.acts,AOp.reads,if_true,Bool.false_eq_true,if_false]
theorem VO(n b:Nat)(x y:AOpd)(d:Option Nat)(wl wh:Nat)(ds:List ADOper)(e:Env)(σ:St)(next:Nat)(hist:List St)(reads:List ARead)(K:Env->St->Prop):wpD T (⟨⟨d,.append n b x y,none⟩,wl,wh⟩::ds) e σ next hist reads K=bO (K:=⟨fun v σ'=>wpD T ds (Env.put e d v) σ' next (hist++[σ']) reads K⟩) (aop (.append n b x y) e σ):=by
 simp only[wpD,bO,AOp.acts,AOp.reads,if_true,Bool.false_eq_true,if_false]
theorem ZP(n b:Nat)(x y:AOpd)(d:Option Nat)(wl wh:Nat)(ds:List ADOper)(e:Env)(σ:St)(next:Nat)(hist:List St)(reads:List ARead)(K:Env->St->Prop):wpD T (⟨⟨d,.apref n b x y,none⟩,wl,wh⟩::ds) e σ next hist reads K=bO (K:=⟨fun v σ'=>wpD T ds (Env.put e d v) σ' next (hist++[σ']) reads K⟩) (aop (.apref n b x y) e σ):=by
 simp only[wpD,bO,AOp.acts,AOp.reads,if_true,Bool.false_eq_true,if_false]
theorem aG5(n:Nat)(x y:AOpd)(d:Option Nat)(wl wh:Nat)(ds:List ADOper)(e:Env)(σ:St)(next:Nat)(hist:List St)(reads:List ARead)(K:Env->St->Prop):wpD T (⟨⟨d,.copy n x y,none⟩,wl,wh⟩::ds) e σ next hist reads K=bO (K:=⟨fun v σ'=>wpD T ds (Env.put e d v) σ' next (hist++[σ']) reads K⟩) (aop (.copy n x y) e σ):=by
 simp only[wpD,bO,AOp.acts,AOp.reads,if_true,Bool.false_eq_true,if_false]
theorem aHV(xs:List AOpd)(d:Option Nat)(wl wh:Nat)(ds:List ADOper)(e:Env)(σ:St)(next:Nat)(hist:List St)(reads:List ARead)(K:Env->St->Prop):wpD T (⟨⟨d,.min xs,none⟩,wl,wh⟩::ds) e σ next hist reads K=bO (K:=⟨fun v σ'=>σ'=σ/\wpD T ds (Env.put e d v) σ next hist reads K⟩) (aop (.min xs) e σ):=by
 simp only[wpD,bO,AOp.acts,AOp.reads,if_true,Bool.false_eq_true,if_false]
theorem aMS(xs:List AOpd)(d:Option Nat)(wl wh:Nat)(ds:List ADOper)(e:Env)(σ:St)(next:Nat)(hist:List St)(reads:List ARead)(K:Env->St->Prop):wpD T (⟨⟨d,.max xs,none⟩,wl,wh⟩::ds) e σ next hist reads K=bO (K:=⟨fun v σ'=>σ'=σ/\wpD T ds (Env.put e d v) σ next hist reads K⟩) (aop (.max xs) e σ):=by
 simp only[wpD,bO,AOp.acts,AOp.reads,if_true,Bool.false_eq_true,if_false]
theorem TD(x:AOpd)(d:Option Nat)(wl wh:Nat)(ds:List ADOper)(e:Env)(σ:St)(next:Nat)(hist:List St)(reads:List ARead)(K:Env->St->Prop):wpD T (⟨⟨d,.srange x,none⟩,wl,wh⟩::ds) e σ next hist reads K=bO (K:=⟨fun v σ'=>wpD T ds (Env.put e d v) σ' next (hist++[σ']) reads K⟩) (aop (.srange x) e σ):=by
 simp only[wpD,bO,AOp.acts,AOp.reads,if_true,Bool.false_eq_true,if_false]
theorem XW(x:AOpd)(d:Option Nat)(wl wh:Nat)(ds:List ADOper)(e:Env)(σ:St)(next:Nat)(hist:List St)(reads:List ARead)(K:Env->St->Prop):wpD T (⟨⟨d,.snext x,none⟩,wl,wh⟩::ds) e σ next hist reads K=bO (K:=⟨fun v σ'=>wpD T ds (Env.put e d v) σ' next (hist++[σ']) reads K⟩) (aop (.snext x) e σ):=by
 simp only[wpD,bO,AOp.acts,AOp.reads,if_true,Bool.false_eq_true,if_false]
theorem TJ(f:AOpd)(xs:List AOpd)(t:Nat)(want:Bool)(d:Option Nat)(wl wh:Nat)(ds:List ADOper)(e:Env)(σ:St)(next:Nat)(hist:List St)(reads:List ARead)(K:Env->St->Prop):wpD T (⟨⟨d,.call f xs,some (t,want)⟩,wl,wh⟩::ds) e σ next hist reads K =
  bG (A:=⟨wpD T (⟨⟨d,.call f xs,none⟩,wl,wh⟩::ds) e σ next hist reads K⟩) (B:=⟨wpD T ds (Env.put e d (.tuple [])) σ next (hist++[σ]) reads K⟩) (Env.get e t) want:=by simp only[wpD,bG]
theorem aL9(x:AOpd)(t:Nat)(want:Bool)(d:Option Nat)(wl wh:Nat)(ds:List ADOper)(e:Env)(σ:St)(next:Nat)(hist:List St)(reads:List ARead)(K:Env->St->Prop):wpD T (⟨⟨d,.mov x,some (t,want)⟩,wl,wh⟩::ds) e σ next hist reads K =
  bG (A:=⟨wpD T (⟨⟨d,.mov x,none⟩,wl,wh⟩::ds) e σ next hist reads K⟩) (B:=⟨wpD T ds (Env.put e d (.tuple [])) σ next hist reads K⟩) (Env.get e t) want:=by
 simp only[wpD,bG,AOp.allocs,AOp.acts,true_and,if_true,Bool.false_eq_true,if_false]
theorem aF6(c x y:AOpd)(t:Nat)(want:Bool)(d:Option Nat)(wl wh:Nat)(ds:List ADOper)(e:Env)(σ:St)(next:Nat)(hist:List St)(reads:List ARead)(K:Env->St->Prop):wpD T (⟨⟨d,.pick c x y,some (t,want)⟩,wl,wh⟩::ds) e σ next hist reads K =
  bG (A:=⟨wpD T (⟨⟨d,.pick c x y,none⟩,wl,wh⟩::ds) e σ next hist reads K⟩) (B:=⟨wpD T ds (Env.put e d (.tuple [])) σ next hist reads K⟩) (Env.get e t) want:=by
 simp only[wpD,bG,AOp.allocs,AOp.acts,true_and,if_true,Bool.false_eq_true,if_false]
theorem aOJ(n:Nat)(x:AOpd)(t:Nat)(want:Bool)(d:Option Nat)(wl wh:Nat)(ds:List ADOper)(e:Env)(σ:St)(next:Nat)(hist:List St)(reads:List ARead)(K:Env->St->Prop):wpD T (⟨⟨d,.box n x,some (t,want)⟩,wl,wh⟩::ds) e σ next hist reads K =
  bG (A:=⟨wpD T (⟨⟨d,.box n x,none⟩,wl,wh⟩::ds) e σ next hist reads K⟩) (B:=⟨wpD T ds (Env.put e d (.tuple [])) σ next (hist++[σ]) reads K⟩) (Env.get e t) want:=by
 simp only[wpD,bG,AOp.allocs,AOp.acts,true_and,if_true,Bool.false_eq_true,if_false]
theorem X5(z:List AV)(ps:List (Nat×Nat×AOpd))(t:Nat)(want:Bool)(d:Option Nat)(wl wh:Nat)(ds:List ADOper)(e:Env)(σ:St)(next:Nat)(hist:List St)(reads:List ARead)(K:Env->St->Prop):wpD T (⟨⟨d,.build z ps,some (t,want)⟩,wl,wh⟩::ds) e σ next hist reads K =
  bG (A:=⟨wpD T (⟨⟨d,.build z ps,none⟩,wl,wh⟩::ds) e σ next hist reads K⟩) (B:=⟨wpD T ds (Env.put e d (.tuple [])) σ next hist reads K⟩) (Env.get e t) want:=by
 simp only[wpD,bG,AOp.allocs,AOp.acts,true_and,if_true,Bool.false_eq_true,if_false]
theorem ZK(n:Nat)(xs:List AOpd)(t:Nat)(want:Bool)(d:Option Nat)(wl wh:Nat)(ds:List ADOper)(e:Env)(σ:St)(next:Nat)(hist:List St)(reads:List ARead)(K:Env->St->Prop):wpD T (⟨⟨d,.mklit n xs,some (t,want)⟩,wl,wh⟩::ds) e σ next hist reads K =
  bG (A:=⟨wpD T (⟨⟨d,.mklit n xs,none⟩,wl,wh⟩::ds) e σ next hist reads K⟩) (B:=⟨wpD T ds (Env.put e d (.tuple [])) σ next hist reads K⟩) (Env.get e t) want:=by
 simp only[wpD,bG,AOp.allocs,AOp.acts,true_and,if_true,Bool.false_eq_true,if_false]
theorem aAR(n:Nat)(xs:List AOpd)(t:Nat)(want:Bool)(d:Option Nat)(wl wh:Nat)(ds:List ADOper)(e:Env)(σ:St)(next:Nat)(hist:List St)(reads:List ARead)(K:Env->St->Prop):wpD T (⟨⟨d,.mkref n xs,some (t,want)⟩,wl,wh⟩::ds) e σ next hist reads K =
  bG (A:=⟨wpD T (⟨⟨d,.mkref n xs,none⟩,wl,wh⟩::ds) e σ next hist reads K⟩) (B:=⟨wpD T ds (Env.put e d (.tuple [])) σ next (hist++[σ]) reads K⟩) (Env.get e t) want:=by
 simp only[wpD,bG,AOp.allocs,AOp.acts,true_and,if_true,Bool.false_eq_true,if_false]
theorem aEN(sh:Option Nat)(x:AOpd)(t:Nat)(want:Bool)(d:Option Nat)(wl wh:Nat)(ds:List ADOper)(e:Env)(σ:St)(next:Nat)(hist:List St)(reads:List ARead)(K:Env->St->Prop):wpD T (⟨⟨d,.load sh x,some (t,want)⟩,wl,wh⟩::ds) e σ next hist reads K =
  bG (A:=⟨wpD T (⟨⟨d,.load sh x,none⟩,wl,wh⟩::ds) e σ next hist reads K⟩) (B:=⟨wpD T ds (Env.put e d (.tuple [])) σ next hist reads K⟩) (Env.get e t) want:=by
 simp only[wpD,bG,AOp.allocs,AOp.acts,true_and,if_true,Bool.false_eq_true,if_false]
theorem XI(n:Nat)(x y:AOpd)(t:Nat)(want:Bool)(d:Option Nat)(wl wh:Nat)(ds:List ADOper)(e:Env)(σ:St)(next:Nat)(hist:List St)(reads:List ARead)(K:Env->St->Prop):wpD T (⟨⟨d,.store n x y,some (t,want)⟩,wl,wh⟩::ds) e σ next hist reads K =
  bG (A:=⟨wpD T (⟨⟨d,.store n x y,none⟩,wl,wh⟩::ds) e σ next hist reads K⟩) (B:=⟨wpD T ds (Env.put e d (.tuple [])) σ next (hist++[σ]) reads K⟩) (Env.get e t) want:=by
 simp only[wpD,bG,AOp.allocs,AOp.acts,true_and,if_true,Bool.false_eq_true,if_false]
theorem IM(x:AOpd)(t:Nat)(want:Bool)(d:Option Nat)(wl wh:Nat)(ds:List ADOper)(e:Env)(σ:St)(next:Nat)(hist:List St)(reads:List ARead)(K:Env->St->Prop):wpD T (⟨⟨d,.nilCheck x,some (t,want)⟩,wl,wh⟩::ds) e σ next hist reads K =
  bG (A:=⟨wpD T (⟨⟨d,.nilCheck x,none⟩,wl,wh⟩::ds) e σ next hist reads K⟩) (B:=⟨wpD T ds (Env.put e d (.tuple [])) σ next hist reads K⟩) (Env.get e t) want:=by
 simp only[wpD,bG,AOp.allocs,AOp.acts,true_and,if_true,Bool.false_eq_true,if_false]
theorem aKJ(op:BinOp)(x y:AOpd)(t:Nat)(want:Bool)(d:Option Nat)(wl wh:Nat)(ds:List ADOper)(e:Env)(σ:St)(next:Nat)(hist:List St)(reads:List ARead)(K:Env->St->Prop):wpD T (⟨⟨d,.bin op x y,some (t,want)⟩,wl,wh⟩::ds) e σ next hist reads K =
  bG (A:=⟨wpD T (⟨⟨d,.bin op x y,none⟩,wl,wh⟩::ds) e σ next hist reads K⟩) (B:=⟨wpD T ds (Env.put e d (.tuple [])) σ next hist reads K⟩) (Env.get e t) want:=by
 simp only[wpD,bG,AOp.allocs,AOp.acts,true_and,if_true,Bool.false_eq_true,if_false]
theorem aKQ(sh:EqTy)(n:Bool)(x y:AOpd)(t:Nat)(want:Bool)(d:Option Nat)(wl wh:Nat)(ds:List ADOper)(e:Env)(σ:St)(next:Nat)(hist:List St)(reads:List ARead)(K:Env->St->Prop):wpD T (⟨⟨d,.eql sh n x y,some (t,want)⟩,wl,wh⟩::ds) e σ next hist reads K =
  bG (A:=⟨wpD T (⟨⟨d,.eql sh n x y,none⟩,wl,wh⟩::ds) e σ next hist reads K⟩) (B:=⟨wpD T ds (Env.put e d (.tuple [])) σ next hist reads K⟩) (Env.get e t) want:=by
 simp only[wpD,bG,AOp.allocs,AOp.acts,true_and,if_true,Bool.false_eq_true,if_false]
theorem aIU(x:AOpd)(t:Nat)(want:Bool)(d:Option Nat)(wl wh:Nat)(ds:List ADOper)(e:Env)(σ:St)(next:Nat)(hist:List St)(reads:List ARead)(K:Env->St->Prop):wpD T (⟨⟨d,.not x,some (t,want)⟩,wl,wh⟩::ds) e σ next hist reads K =
  bG (A:=⟨wpD T (⟨⟨d,.not x,none⟩,wl,wh⟩::ds) e σ next hist reads K⟩) (B:=⟨wpD T ds (Env.put e d (.tuple [])) σ next hist reads K⟩) (Env.get e t) want:=by
 simp only[wpD,bG,AOp.allocs,AOp.acts,true_and,if_true,Bool.false_eq_true,if_false]
theorem aN7(x:AOpd)(t:Nat)(want:Bool)(d:Option Nat)(wl wh:Nat)(ds:List ADOper)(e:Env)(σ:St)(next:Nat)(hist:List St)(reads:List ARead)(K:Env->St->Prop):wpD T (⟨⟨d,.neg x,some (t,want)⟩,wl,wh⟩::ds) e σ next hist reads K =
  bG (A:=⟨wpD T (⟨⟨d,.neg x,none⟩,wl,wh⟩::ds) e σ next hist reads K⟩) (B:=⟨wpD T ds (Env.put e d (.tuple [])) σ next hist reads K⟩) (Env.get e t) want:=by
 simp only[wpD,bG,AOp.allocs,AOp.acts,true_and,if_true,Bool.false_eq_true,if_false]
theorem aGM(k:IntKind)(x:AOpd)(t:Nat)(want:Bool)(d:Option Nat)(wl wh:Nat)(ds:List ADOper)(e:Env)(σ:St)(next:Nat)(hist:List St)(reads:List ARead)(K:Env->St->Prop):wpD T (⟨⟨d,.conv k x,some (t,want)⟩,wl,wh⟩::ds) e σ next hist reads K =
  bG (A:=⟨wpD T (⟨⟨d,.conv k x,none⟩,wl,wh⟩::ds) e σ next hist reads K⟩) (B:=⟨wpD T ds (Env.put e d (.tuple [])) σ next hist reads K⟩) (Env.get e t) want:=by
 simp only[wpD,bG,AOp.allocs,AOp.acts,true_and,if_true,Bool.false_eq_true,if_false]
theorem aAN(f:FuncId)(xs ys:List AOpd)(t:Nat)(want:Bool)(d:Option Nat)(wl wh:Nat)(ds:List ADOper)(e:Env)(σ:St)(next:Nat)(hist:List St)(reads:List ARead)(K:Env->St->Prop):wpD T (⟨⟨d,.mkfun f xs ys,some (t,want)⟩,wl,wh⟩::ds) e σ next hist reads K =
  bG (A:=⟨wpD T (⟨⟨d,.mkfun f xs ys,none⟩,wl,wh⟩::ds) e σ next hist reads K⟩) (B:=⟨wpD T ds (Env.put e d (.tuple [])) σ next hist reads K⟩) (Env.get e t) want:=by
 simp only[wpD,bG,AOp.allocs,AOp.acts,true_and,if_true,Bool.false_eq_true,if_false]
theorem YH(t:Nat)(want:Bool)(d:Option Nat)(wl wh:Nat)(ds:List ADOper)(e:Env)(σ:St)(next:Nat)(hist:List St)(reads:List ARead)(K:Env->St->Prop):wpD T (⟨⟨d,.mkmap,some (t,want)⟩,wl,wh⟩::ds) e σ next hist reads K =
  bG (A:=⟨wpD T (⟨⟨d,.mkmap,none⟩,wl,wh⟩::ds) e σ next hist reads K⟩) (B:=⟨wpD T ds (Env.put e d (.tuple [])) σ next (hist++[σ]) reads K⟩) (Env.get e t) want:=by
 simp only[wpD,bG,AOp.allocs,AOp.acts,true_and,if_true,Bool.false_eq_true,if_false]
theorem MW(z:List AV)(b:Nat)(x y:AOpd)(t:Nat)(want:Bool)(d:Option Nat)(wl wh:Nat)(ds:List ADOper)(e:Env)(σ:St)(next:Nat)(hist:List St)(reads:List ARead)(K:Env->St->Prop):wpD T (⟨⟨d,.mkslice z b x y,some (t,want)⟩,wl,wh⟩::ds) e σ next hist reads K =
  bG (A:=⟨wpD T (⟨⟨d,.mkslice z b x y,none⟩,wl,wh⟩::ds) e σ next hist reads K⟩) (B:=⟨wpD T ds (Env.put e d (.tuple [])) σ next (hist++[σ]) reads K⟩) (Env.get e t) want:=by
 simp only[wpD,bG,AOp.allocs,AOp.acts,true_and,if_true,Bool.false_eq_true,if_false]
theorem QG(n:Nat)(x:AOpd)(lo hi mx:Option AOpd)(t:Nat)(want:Bool)(d:Option Nat)(wl wh:Nat)(ds:List ADOper)(e:Env)(σ:St)(next:Nat)(hist:List St)(reads:List ARead)(K:Env->St->Prop):wpD T (⟨⟨d,.slicev n x lo hi mx,some (t,want)⟩,wl,wh⟩::ds) e σ next hist reads K =
  bG (A:=⟨wpD T (⟨⟨d,.slicev n x lo hi mx,none⟩,wl,wh⟩::ds) e σ next hist reads K⟩) (B:=⟨wpD T ds (Env.put e d (.tuple [])) σ next hist reads K⟩) (Env.get e t) want:=by
 simp only[wpD,bG,AOp.allocs,AOp.acts,true_and,if_true,Bool.false_eq_true,if_false]
theorem RL(n s:Nat)(x:AOpd)(lo hi:Option AOpd)(t:Nat)(want:Bool)(d:Option Nat)(wl wh:Nat)(ds:List ADOper)(e:Env)(σ:St)(next:Nat)(hist:List St)(reads:List ARead)(K:Env->St->Prop):wpD T (⟨⟨d,.slicea n s x lo hi,some (t,want)⟩,wl,wh⟩::ds) e σ next hist reads K =
  bG (A:=⟨wpD T (⟨⟨d,.slicea n s x lo hi,none⟩,wl,wh⟩::ds) e σ next hist reads K⟩) (B:=⟨wpD T ds (Env.put e d (.tuple [])) σ next hist reads K⟩) (Env.get e t) want:=by
 simp only[wpD,bG,AOp.allocs,AOp.acts,true_and,if_true,Bool.false_eq_true,if_false]
theorem W1(x:AOpd)(o:Nat)(t:Nat)(want:Bool)(d:Option Nat)(wl wh:Nat)(ds:List ADOper)(e:Env)(σ:St)(next:Nat)(hist:List St)(reads:List ARead)(K:Env->St->Prop):wpD T (⟨⟨d,.faddr x o,some (t,want)⟩,wl,wh⟩::ds) e σ next hist reads K =
  bG (A:=⟨wpD T (⟨⟨d,.faddr x o,none⟩,wl,wh⟩::ds) e σ next hist reads K⟩) (B:=⟨wpD T ds (Env.put e d (.tuple [])) σ next hist reads K⟩) (Env.get e t) want:=by
 simp only[wpD,bG,AOp.allocs,AOp.acts,true_and,if_true,Bool.false_eq_true,if_false]
theorem WV(x:AOpd)(o:Nat)(sh:Option Nat)(t:Nat)(want:Bool)(d:Option Nat)(wl wh:Nat)(ds:List ADOper)(e:Env)(σ:St)(next:Nat)(hist:List St)(reads:List ARead)(K:Env->St->Prop):wpD T (⟨⟨d,.field x o sh,some (t,want)⟩,wl,wh⟩::ds) e σ next hist reads K =
  bG (A:=⟨wpD T (⟨⟨d,.field x o sh,none⟩,wl,wh⟩::ds) e σ next hist reads K⟩) (B:=⟨wpD T ds (Env.put e d (.tuple [])) σ next hist reads K⟩) (Env.get e t) want:=by
 simp only[wpD,bG,AOp.allocs,AOp.acts,true_and,if_true,Bool.false_eq_true,if_false]
theorem XL(a:Option Nat)(s:Nat)(x i:AOpd)(t:Nat)(want:Bool)(d:Option Nat)(wl wh:Nat)(ds:List ADOper)(e:Env)(σ:St)(next:Nat)(hist:List St)(reads:List ARead)(K:Env->St->Prop):wpD T (⟨⟨d,.iaddr a s x i,some (t,want)⟩,wl,wh⟩::ds) e σ next hist reads K =
  bG (A:=⟨wpD T (⟨⟨d,.iaddr a s x i,none⟩,wl,wh⟩::ds) e σ next hist reads K⟩) (B:=⟨wpD T ds (Env.put e d (.tuple [])) σ next hist reads K⟩) (Env.get e t) want:=by
 simp only[wpD,bG,AOp.allocs,AOp.acts,true_and,if_true,Bool.false_eq_true,if_false]
theorem XH(n s:Nat)(sh:Option Nat)(x i:AOpd)(t:Nat)(want:Bool)(d:Option Nat)(wl wh:Nat)(ds:List ADOper)(e:Env)(σ:St)(next:Nat)(hist:List St)(reads:List ARead)(K:Env->St->Prop):wpD T (⟨⟨d,.index n s sh x i,some (t,want)⟩,wl,wh⟩::ds) e σ next hist reads K =
  bG (A:=⟨wpD T (⟨⟨d,.index n s sh x i,none⟩,wl,wh⟩::ds) e σ next hist reads K⟩) (B:=⟨wpD T ds (Env.put e d (.tuple [])) σ next hist reads K⟩) (Env.get e t) want:=by
 simp only[wpD,bG,AOp.allocs,AOp.acts,true_and,if_true,Bool.false_eq_true,if_false]
theorem VH(x i:AOpd)(t:Nat)(want:Bool)(d:Option Nat)(wl wh:Nat)(ds:List ADOper)(e:Env)(σ:St)(next:Nat)(hist:List St)(reads:List ARead)(K:Env->St->Prop):wpD T (⟨⟨d,.sindex x i,some (t,want)⟩,wl,wh⟩::ds) e σ next hist reads K =
  bG (A:=⟨wpD T (⟨⟨d,.sindex x i,none⟩,wl,wh⟩::ds) e σ next hist reads K⟩) (B:=⟨wpD T ds (Env.put e d (.tuple [])) σ next hist reads K⟩) (Env.get e t) want:=by
 simp only[wpD,bG,AOp.allocs,AOp.acts,true_and,if_true,Bool.false_eq_true,if_false]
theorem UU(sh:EqTy)(ok:Bool)(z:AV)(m k:AOpd)(t:Nat)(want:Bool)(d:Option Nat)(wl wh:Nat)(ds:List ADOper)(e:Env)(σ:St)(next:Nat)(hist:List St)(reads:List ARead)(K:Env->St->Prop):wpD T (⟨⟨d,.lookup sh ok z m k,some (t,want)⟩,wl,wh⟩::ds) e σ next hist reads K =
  bG (A:=⟨wpD T (⟨⟨d,.lookup sh ok z m k,none⟩,wl,wh⟩::ds) e σ next hist reads K⟩) (B:=⟨wpD T ds (Env.put e d (.tuple [])) σ next hist reads K⟩) (Env.get e t) want:=by
 simp only[wpD,bG,AOp.allocs,AOp.acts,true_and,if_true,Bool.false_eq_true,if_false]
theorem UJ(sh:EqTy)(m k v:AOpd)(t:Nat)(want:Bool)(d:Option Nat)(wl wh:Nat)(ds:List ADOper)(e:Env)(σ:St)(next:Nat)(hist:List St)(reads:List ARead)(K:Env->St->Prop):wpD T (⟨⟨d,.mapset sh m k v,some (t,want)⟩,wl,wh⟩::ds) e σ next hist reads K =
  bG (A:=⟨wpD T (⟨⟨d,.mapset sh m k v,none⟩,wl,wh⟩::ds) e σ next hist reads K⟩) (B:=⟨wpD T ds (Env.put e d (.tuple [])) σ next (hist++[σ]) reads K⟩) (Env.get e t) want:=by
 simp only[wpD,bG,AOp.allocs,AOp.acts,true_and,if_true,Bool.false_eq_true,if_false]
theorem aMI(x:AOpd)(i:Nat)(t:Nat)(want:Bool)(d:Option Nat)(wl wh:Nat)(ds:List ADOper)(e:Env)(σ:St)(next:Nat)(hist:List St)(reads:List ARead)(K:Env->St->Prop):wpD T (⟨⟨d,.ext x i,some (t,want)⟩,wl,wh⟩::ds) e σ next hist reads K =
  bG (A:=⟨wpD T (⟨⟨d,.ext x i,none⟩,wl,wh⟩::ds) e σ next hist reads K⟩) (B:=⟨wpD T ds (Env.put e d (.tuple [])) σ next hist reads K⟩) (Env.get e t) want:=by
 simp only[wpD,bG,AOp.allocs,AOp.acts,true_and,if_true,Bool.false_eq_true,if_false]
theorem aL0(k:Nat)(x:AOpd)(t:Nat)(want:Bool)(d:Option Nat)(wl wh:Nat)(ds:List ADOper)(e:Env)(σ:St)(next:Nat)(hist:List St)(reads:List ARead)(K:Env->St->Prop):wpD T (⟨⟨d,.len k x,some (t,want)⟩,wl,wh⟩::ds) e σ next hist reads K =
  bG (A:=⟨wpD T (⟨⟨d,.len k x,none⟩,wl,wh⟩::ds) e σ next hist reads K⟩) (B:=⟨wpD T ds (Env.put e d (.tuple [])) σ next hist reads K⟩) (Env.get e t) want:=by
 simp only[wpD,bG,AOp.allocs,AOp.acts,true_and,if_true,Bool.false_eq_true,if_false]
theorem VN(n b:Nat)(x y:AOpd)(t:Nat)(want:Bool)(d:Option Nat)(wl wh:Nat)(ds:List ADOper)(e:Env)(σ:St)(next:Nat)(hist:List St)(reads:List ARead)(K:Env->St->Prop):wpD T (⟨⟨d,.append n b x y,some (t,want)⟩,wl,wh⟩::ds) e σ next hist reads K =
  bG (A:=⟨wpD T (⟨⟨d,.append n b x y,none⟩,wl,wh⟩::ds) e σ next hist reads K⟩) (B:=⟨wpD T ds (Env.put e d (.tuple [])) σ next (hist++[σ]) reads K⟩) (Env.get e t) want:=by
 simp only[wpD,bG,AOp.allocs,AOp.acts,true_and,if_true,Bool.false_eq_true,if_false]
theorem aAJ(n b:Nat)(x y:AOpd)(t:Nat)(want:Bool)(d:Option Nat)(wl wh:Nat)(ds:List ADOper)(e:Env)(σ:St)(next:Nat)(hist:List St)(reads:List ARead)(K:Env->St->Prop):wpD T (⟨⟨d,.apref n b x y,some (t,want)⟩,wl,wh⟩::ds) e σ next hist reads K =
  bG (A:=⟨wpD T (⟨⟨d,.apref n b x y,none⟩,wl,wh⟩::ds) e σ next hist reads K⟩) (B:=⟨wpD T ds (Env.put e d (.tuple [])) σ next (hist++[σ]) reads K⟩) (Env.get e t) want:=by
 simp only[wpD,bG,AOp.allocs,AOp.acts,true_and,if_true,Bool.false_eq_true,if_false]
theorem aGG(n:Nat)(x y:AOpd)(t:Nat)(want:Bool)(d:Option Nat)(wl wh:Nat)(ds:List ADOper)(e:Env)(σ:St)(next:Nat)(hist:List St)(reads:List ARead)(K:Env->St->Prop):wpD T (⟨⟨d,.copy n x y,some (t,want)⟩,wl,wh⟩::ds) e σ next hist reads K =
  bG (A:=⟨wpD T (⟨⟨d,.copy n x y,none⟩,wl,wh⟩::ds) e σ next hist reads K⟩) (B:=⟨wpD T ds (Env.put e d (.tuple [])) σ next (hist++[σ]) reads K⟩) (Env.get e t) want:=by
 simp only[wpD,bG,AOp.allocs,AOp.acts,true_and,if_true,Bool.false_eq_true,if_false]
theorem aN8(xs:List AOpd)(t:Nat)(want:Bool)(d:Option Nat)(wl wh:Nat)(ds:List ADOper)(e:Env)(σ:St)(next:Nat)(hist:List St)(reads:List ARead)(K:Env->St->Prop):wpD T (⟨⟨d,.min xs,some (t,want)⟩,wl,wh⟩::ds) e σ next hist reads K =
  bG (A:=⟨wpD T (⟨⟨d,.min xs,none⟩,wl,wh⟩::ds) e σ next hist reads K⟩) (B:=⟨wpD T ds (Env.put e d (.tuple [])) σ next hist reads K⟩) (Env.get e t) want:=by
 simp only[wpD,bG,AOp.allocs,AOp.acts,true_and,if_true,Bool.false_eq_true,if_false]
theorem aI7(xs:List AOpd)(t:Nat)(want:Bool)(d:Option Nat)(wl wh:Nat)(ds:List ADOper)(e:Env)(σ:St)(next:Nat)(hist:List St)(reads:List ARead)(K:Env->St->Prop):wpD T (⟨⟨d,.max xs,some (t,want)⟩,wl,wh⟩::ds) e σ next hist reads K =
  bG (A:=⟨wpD T (⟨⟨d,.max xs,none⟩,wl,wh⟩::ds) e σ next hist reads K⟩) (B:=⟨wpD T ds (Env.put e d (.tuple [])) σ next hist reads K⟩) (Env.get e t) want:=by
 simp only[wpD,bG,AOp.allocs,AOp.acts,true_and,if_true,Bool.false_eq_true,if_false]
theorem WA(x:AOpd)(t:Nat)(want:Bool)(d:Option Nat)(wl wh:Nat)(ds:List ADOper)(e:Env)(σ:St)(next:Nat)(hist:List St)(reads:List ARead)(K:Env->St->Prop):wpD T (⟨⟨d,.srange x,some (t,want)⟩,wl,wh⟩::ds) e σ next hist reads K =
  bG (A:=⟨wpD T (⟨⟨d,.srange x,none⟩,wl,wh⟩::ds) e σ next hist reads K⟩) (B:=⟨wpD T ds (Env.put e d (.tuple [])) σ next (hist++[σ]) reads K⟩) (Env.get e t) want:=by
 simp only[wpD,bG,AOp.allocs,AOp.acts,true_and,if_true,Bool.false_eq_true,if_false]
theorem XM(x:AOpd)(t:Nat)(want:Bool)(d:Option Nat)(wl wh:Nat)(ds:List ADOper)(e:Env)(σ:St)(next:Nat)(hist:List St)(reads:List ARead)(K:Env->St->Prop):wpD T (⟨⟨d,.snext x,some (t,want)⟩,wl,wh⟩::ds) e σ next hist reads K =
  bG (A:=⟨wpD T (⟨⟨d,.snext x,none⟩,wl,wh⟩::ds) e σ next hist reads K⟩) (B:=⟨wpD T ds (Env.put e d (.tuple [])) σ next (hist++[σ]) reads K⟩) (Env.get e t) want:=by
 simp only[wpD,bG,AOp.allocs,AOp.acts,true_and,if_true,Bool.false_eq_true,if_false]
end Go.Am
namespace Go.Am
variable {T:FuncId->Option AFunc}
structure KeepS (σ σ':St) (lo:Nat):Prop where
 len:σ.length<=σ'.length
 low:∀ i,i<lo->i<σ.length->σ'[i]? = σ[i]?
 loops:∀ (i:Nat) (st:LS) (pe:Option AJump) (env:Env) (ps:List Nat) (a b:ACode),i<σ.length->σ'[i]? = some (.loop st pe env ps a b)->∃ st' pe',σ[i]? = some (.loop st' pe' env ps a b)
theorem KeepS.refl(σ:St)(lo:Nat):KeepS σ σ lo:=⟨Nat.le_refl _,fun _ _ _=>rfl,fun i st pe env ps a b _ h=>⟨st,pe,h⟩⟩
theorem KeepS.weak{σ σ':St}{lo l:Nat}(h:KeepS σ σ' lo)(hl:l<=lo):KeepS σ σ' l:=⟨h.len,fun i hi=>h.low i (by omega),h.loops⟩
theorem KeepS.trans{σ σ1 σ2:St}{l1 l2:Nat}(h:KeepS σ σ1 l1)(k:KeepS σ1 σ2 l2):KeepS σ σ2 (Nat.min l1 l2) where
 len:=Nat.le_trans h.len k.len
 low i hi hlt:=by
  have h1:i<l1:=Nat.lt_of_lt_of_le hi (Nat.min_le_left _ _);have h2:i<l2:=Nat.lt_of_lt_of_le hi (Nat.min_le_right _ _);rw[k.low i h2 (Nat.lt_of_lt_of_le hlt h.len),h.low i h1 hlt]
 loops i st pe env ps a b hlt e:=by
  obtain⟨st1,pe1,e1⟩:=k.loops i st pe env ps a b (Nat.lt_of_lt_of_le hlt h.len) e;exact h.loops i st1 pe1 env ps a b hlt e1
theorem KeepS.app(σ:St)(τ:St)(lo:Nat):KeepS σ (σ++τ) lo :=
 ⟨by simp,fun i _ hi=>List.getElem?_append_left hi,fun i st pe env ps a b hi e=>⟨st,pe,by rw[<-List.getElem?_append_left (l₂:=τ) hi];exact e⟩⟩
theorem KeepS.set{σ:St}{i:Nat}{x:ABlk}(hx:∀ st pe env ps a b,x≠.loop st pe env ps a b):KeepS σ (σ.set i x) i where
 len:=by simp
 low j hj _:=List.getElem?_set_ne (by omega)
 loops j st pe env ps a b hj e:=by
  by_cases h:i=j
  ·subst h;rw[List.getElem?_set_self hj] at e;cases e;exact absurd rfl (hx _ _ _ _ _ _)
  ·rw[List.getElem?_set_ne h] at e;exact⟨st,pe,e⟩
theorem KeepS.setLoop{σ:St}{i:Nat}{st st0:LS}{pe pe0:Option AJump}{env:Env}{ps:List Nat}{a b:ACode}(h0:σ[i]? = some (.loop st0 pe0 env ps a b)):KeepS σ (σ.set i (.loop st pe env ps a b)) i where
 len:=by simp
 low j hj _:=List.getElem?_set_ne (by omega)
 loops j st' pe' env' ps' a' b' hj e:=by
  by_cases h:i=j
  ·subst h;rw[List.getElem?_set_self hj] at e;cases e;exact⟨st0,pe0,h0⟩
  ·rw[List.getElem?_set_ne h] at e;exact⟨st',pe',e⟩
theorem FD{q:AOp}{e:Env}{σ σ':St}{v:AV}(h:aop q e σ=some (v,σ')):KeepS σ σ' (wS q e):=by
 cases q<;>simp only[aop] at h
 case mov=>cases h;exact .refl _ _
 case alloc=>cases h;exact .app _ _ _
 case mkfun=>cases h;exact .refl _ _
 case mkmap=>cases h;exact .app _ _ _
 case mnext=>cases h
 case call=>cases h
 case store n a x =>
  split at h
  ·rename_i τ hτ;cases h;unfold i5 at hτ;split at hτ
   ·rename_i id off ha;split at hτ
    ·split at hτ
     ·split at hτ
      ·cases hτ;simp only[wS,ha];exact .set fun _ _ _ _ _ _ e=>by cases e
      ·cases hτ
     ·cases hτ
    ·cases hτ
   ·cases hτ
  ·cases h
 case mapset sh m k x =>
  split at h
  ·rename_i id hm;split at h
   ·cases h
   ·split at h
    ·split at h
     ·cases h;simp only[wS,hm];exact .set fun _ _ _ _ _ _ e=>by cases e
     ·cases h
    ·cases h
  ·cases h
 case copy sz x y =>
  unfold pH at h;split at h
  ·rename_i id off len sz' ys hx hy;simp only at h;split at h
   ·split at h
    ·split at h
     ·cases h;simp only[wS,hx];exact .set fun _ _ _ _ _ _ e=>by cases e
     ·cases h
    ·cases h
   ·cases h
  ·cases h
 case snext x =>
  split at h
  ·rename_i id hx;split at h
   ·split at h
    ·cases h;simp only[wS,hx];exact .set fun _ _ _ _ _ _ e=>by cases e
    ·cases h;exact .refl _ _
   ·cases h
  ·cases h
 case append sz bytes x y =>
  unfold bT at h;split at h
  ·rename_i xs full tk ys hx hy;split at h
   ·cases h;exact .refl _ _
   ·split at h
    ·split at h
     ·cases h;exact .app _ _ _
     ·rename_i hf;split at h
      ·rename_i t;split at h
       ·split at h
        ·cases h;have:full=false:=by simpa using hf
         subst this;simp only[wS,hx];exact .set fun _ _ _ _ _ _ e=>by cases e
        ·cases h
       ·cases h
      ·cases h
    ·cases h
  ·cases h
 case apref sz bytes x y =>
  unfold pC at h;split at h
  ·split at h
   ·cases h;exact .refl _ _
   ·split at h
    ·cases h;exact .app _ _ _
    ·cases h
  ·cases h
 all_goals
  repeat' split at h
  all_goals first|(cases h;done)|(cases h;first|exact .refl _ _|exact .app _ _ _)
end Go.Am
namespace Go.Am
variable {T:FuncId->Option AFunc}
mutual
theorem eqVF_ok:∀ (k:Nat) (a b:AV),eqVF k a b=true->a=b
 |0,a,b,h=>by simp[eqVF] at h
 |k+1,a,b,h=>by
  cases a<;>cases b<;>simp only[eqVF,Bool.and_eq_true,decide_eq_true_eq,beq_iff_eq,Bool.false_eq_true] at h
  case func.func f a b g c d=>rw[h.1.1,eqVsF_ok k a c h.1.2,eqVsF_ok k b d h.2]
  case int.int=>rw[h.1,h.2]
  case bool.bool=>rw[h]
  case str.str=>rw[h]
  case yield.yield=>rw[h]
  case map.map=>rw[h]
  case ptr.ptr=>rw[h.1,h.2]
  case lptr.lptr xs i o t ys j p u=>rw[eqVsF_ok k xs ys h.1.1.1,h.1.1.2,h.1.2,h.2]
  case lit.lit xs f t ys g u=>rw[eqVsF_ok k xs ys h.1.1,h.1.2,h.2]
  case ref.ref=>rw[h.1.1.1,h.1.1.2,h.1.2,h.2]
  case agg.agg xs ys=>rw[eqVsF_ok k xs ys h]
  case tuple.tuple xs ys=>rw[eqVsF_ok k xs ys h]
  all_goals rfl
theorem eqVsF_ok:∀ (k:Nat) (a b:List AV),eqVsF k a b=true->a=b
 |0,a,b,h=>by simp[eqVsF] at h
 |k+1,[],[],h=>rfl
 |k+1,[],_::_,h=>by simp[eqVsF] at h
 |k+1,_::_,[],h=>by simp[eqVsF] at h
 |k+1,a::x,b::y,h=>by
  simp only[eqVsF,Bool.and_eq_true] at h;rw[eqVF_ok k a b h.1,eqVsF_ok k x y h.2]
end
theorem CQ{q:AOp}{e:Env}{σ σ':St}{v:AV}(hr:q.reads=true)(h:aop q e σ=some (v,σ')):σ'=σ:=by
 cases q<;>simp only[AOp.reads] at hr<;>first|(cases hr;done)|skip
 all_goals
  simp only[aop] at h
  repeat' split at h
  all_goals first|(cases h;done)|(cases h;rfl)
theorem KeepS.step{σ σ1 σ2:St}{l lo lo':Nat}(h:KeepS σ σ1 l)(k:lo'<=Nat.min lo l/\KeepS σ1 σ2 lo'):lo'<=lo/\KeepS σ σ2 lo':=by
 have h1:lo'<=l:=Nat.le_trans k.1 (Nat.min_le_right _ _);refine⟨Nat.le_trans k.1 (Nat.min_le_left _ _),(h.trans k.2).weak ?_⟩;exact Nat.le_min.2 ⟨h1,Nat.le_refl _⟩
end Go.Am
namespace Go.Am
variable {T:FuncId->Option AFunc}
theorem aEE(e:Env):evs e []=[]:=by simp only[evs]
theorem aEG(e:Env)(x:AOpd)(xs:List AOpd):evs e (x::xs)=x.ev e::evs e xs:=by simp only[evs]
theorem aFC(e:Env):ovs e none=none:=by simp only[ovs]
theorem aE0(e:Env)(x:AOpd):ovs e (some x)=some (x.ev e):=by simp only[ovs]
theorem aBR{α β:Type}(f:α->β)(a:α):Option.map f (some a)=some (f a):=by simp
theorem RK{α β:Type}(f:α->Option β)(a:α):(some a).bind f=f a:=by simp
theorem aCV(i o:Nat):F5q (.ptr i o)=some (.ptr i o):=by simp only[F5q]
theorem aC1(xs:List AV)(i o:Nat)(t:Option Nat):F5q (.lptr xs i o t)=some (.lptr xs i o t):=by simp only[F5q]
theorem aEQ(f:FuncId)(a b:List AV):F5q (.func f a b)=some (.func f a b):=by simp only[F5q]
theorem W0(o:Nat)(sh:Option Nat)(cs:List AV):DN o sh (.agg cs)=cU sh cs o:=by simp only[DN]
theorem aDH(k k':IntKind)(n:Int):LE k (.int k' n)=some (.int k (k.wrap n)):=by simp only[LE]
theorem aJA(k:IntKind)(n:Int):Z9 (.int k n)=some (.int k (k.wrap (0-n))):=by simp only[Z9]
theorem WZ(x y:AV):CH (.bool true) x y=some x:=by simp only[CH]
theorem YR(x y:AV):CH (.bool false) x y=some y:=by simp only[CH]
theorem aJU(s:ByteArray):aAM (.str s)=some s:=by simp only[aAM]
theorem RE(k:IntKind)(a b:Int):eV .i (.int k a) (.int k b)=some (a==b):=by simp[eV]
theorem aKH(a b:Bool):eV .b (.bool a) (.bool b)=some (a==b):=by simp[eV]
theorem aL7(a b:ByteArray):eV .s (.str a) (.str b)=some (a.toList==b.toList):=by simp[eV]
def Z5:Option Bool->Option Bool->Option Bool
 |some p,some q=>some (p&&q)
 |_,_=>none
theorem I0(p q:Bool):Z5 (some p) (some q)=some (p&&q):=by simp only[Z5]
theorem RC:aU [] [] []=some true:=by simp[aU]
theorem IK(k:SK)(ks:List SK)(a b:AV)(x y:List AV):aU (k::ks) (a::x) (b::y)=Z5 (eV k a b) (aU ks x y):=by
 simp only[aU,Z5];cases eV k a b<;>cases aU ks x y<;>rfl
theorem aLJ(k:SK)(x y:AV):BF (.one k) false x y=(eV k x y).map .bool:=by
 simp only[BF,gK];cases eV k x y<;>simp
theorem aHR(k:SK)(x y:AV):BF (.one k) true x y=(eV k x y).map fun b=>.bool !b:=by
 simp only[BF,gK];cases eV k x y<;>simp
theorem aKX(ks:List SK)(x y:List AV):BF (.agg ks) false (.agg x) (.agg y)=(aU ks x y).map .bool:=by
 simp only[BF,gK];cases aU ks x y<;>simp
theorem aKM(ks:List SK)(x y:List AV):BF (.agg ks) true (.agg x) (.agg y)=(aU ks x y).map fun b=>.bool !b:=by
 simp only[BF,gK];cases aU ks x y<;>simp
theorem aN0(k:IntKind)(a b:Int):cA .add (.int k a) (.int k b)=some (.int k (k.wrap (a+b))):=by simp[cA,eJ]
theorem aIE(k:IntKind)(a b:Int):cA .sub (.int k a) (.int k b)=some (.int k (k.wrap (a-b))):=by simp[cA,eJ]
theorem aLP(k:IntKind)(a b:Int):cA .mul (.int k a) (.int k b)=some (.int k (k.wrap (a*b))):=by simp[cA,eJ]
theorem TR(k:IntKind)(a b:Int)(h:b≠0):cA .rem (.int k a) (.int k b)=some (.int k (a.tmod b)):=by simp[cA,eJ,h]
theorem aLS(k:IntKind)(a b:Int):cA .lss (.int k a) (.int k b)=some (.bool (decide (a<b))):=by simp[cA,eJ]
theorem aKD(k:IntKind)(a b:Int):cA .leq (.int k a) (.int k b)=some (.bool (decide (a<=b))):=by simp[cA,eJ]
theorem aLT(k:IntKind)(a b:Int):cA .gtr (.int k a) (.int k b)=some (.bool (decide (b<a))):=by simp[cA,eJ]
theorem aHP(k:IntKind)(a b:Int):cA .geq (.int k a) (.int k b)=some (.bool (decide (b<=a))):=by simp[cA,eJ]
theorem dL{x:Int}(h:-9223372036854775808<=x/\x<=9223372036854775807):IntKind.i64.wrap x=x:=by
 simp only[IntKind.wrap,IntKind.signed,IntKind.bits];first
  |(rw[Int.bmod_eq_of_le]<;>omega)
  |(simp;omega)
theorem aJF(σ:St)(xs:List AV)(f:Bool)(t:Option Nat):gD 1 σ (.lit xs f t)=some xs.length:=by simp only[gD]
theorem aGJ(σ:St)(s:ByteArray):gD 0 σ (.str s)=some s.size:=by simp only[gD]
theorem aGZ(σ:St)(id off len sz:Nat):gD 1 σ (.ref id off len sz)=some len:=by simp only[gD]
theorem aKR(sh:Option Nat)(σ:St)(id off:Nat):gZ sh σ (.ptr id off)=(aL σ id).bind fun cs=>cU sh cs off:=by
 simp only[gZ];cases aL σ id<;>simp
theorem aEY(sh:Option Nat)(σ:St)(xs:List AV)(i off:Nat)(t:Option Nat):gZ sh σ (.lptr xs i off t)=(xs[i]?).bind fun x=>cU sh x.cells off:=by
 simp only[gZ];cases xs[i]?<;>simp
theorem RB(b:List AV)(τ:St):aL (.cells b::τ) 0=some b:=by simp[aL]
theorem QO(b:ABlk)(τ:St)(k:Nat):aL (b::τ) (k+1)=aL τ k:=by simp[aL]
theorem qV(σ τ:St)(k:Nat):aL (σ++τ) (σ.length+k)=aL τ k:=by simp only[aL,tB]
theorem EB(σ τ:St):aL (σ++τ) σ.length=aL τ 0:=qV σ τ 0
theorem aI9(cs:List AV)(off:Nat):cU none cs off=cs[off]?:=by simp[cU]
theorem aJI(n:Nat)(cs:List AV)(off:Nat):cU (some n) cs off=if off+n<=cs.length then some (.agg ((cs.drop off).take n)) else none:=by simp[cU]
theorem Z0(n:Nat)(σ:St)(id off:Nat)(v:AV):i5 n σ (.ptr id off) v=(iW n v).bind fun us=>(aL σ id).bind fun cs=>(dF cs off us).map fun cs'=>σ.set id (.cells cs'):=by
 simp only[i5,iW];split
 ·simp only[Option.bind_some];cases aL σ id with
  |none=>simp
  |some cs=>simp only[Option.bind_some];cases dF cs off v.cells<;>simp
 ·simp
theorem aNS(cs us:List AV)(off:Nat):dF cs off us=if off+us.length<=cs.length then some (cs.take off++us++cs.drop (off+us.length)) else none:=by simp only[dF]
def bD(n:Nat)(v:AV):Bool:=v.cells.length==n&&v.cells.all (·.cell)
theorem ZX(n:Nat)(v:AV):iW n v=if bD n v=true then some v.cells else none:=by unfold iW bD;rfl
theorem PS(k:IntKind)(n:Int):bD 1 (.int k n)=true:=by simp[bD,AV.cells,AV.cell]
theorem aF9(b:Bool):bD 1 (.bool b)=true:=by simp[bD,AV.cells,AV.cell]
theorem aB4(b:ByteArray):bD 1 (.str b)=true:=by simp[bD,AV.cells,AV.cell]
theorem QZ(xs:List AV)(f:Bool)(t:Option Nat):bD 1 (.lit xs f t)=true:=by simp[bD,AV.cells,AV.cell]
theorem aK5(a b c d:Nat):bD 1 (.ref a b c d)=true:=by simp[bD,AV.cells,AV.cell]
theorem aNK(a b:Nat):bD 1 (.ptr a b)=true:=by simp[bD,AV.cells,AV.cell]
theorem aGS(f:FuncId)(a b:List AV):bD 1 (.func f a b)=true:=by simp[bD,AV.cells,AV.cell]
theorem aH2(i:Nat):bD 1 (.map i)=true:=by simp[bD,AV.cells,AV.cell]
theorem WE:bD 1 .nilPtr=true:=by simp[bD,AV.cells,AV.cell]
theorem MK:bD 1 .nilFunc=true:=by simp[bD,AV.cells,AV.cell]
def aZ:List AV->Bool
 |[]=>true
 |v::vs=>v.cell&&aZ vs
theorem aAU(n:Nat)(cs:List AV):bD n (.agg cs)=(cs.length==n&&aZ cs):=by
 simp only[bD,AV.cells]
 congr 1
 induction cs with
 |nil=>rfl
 |cons c cs ih=>simp only[List.all_cons,aZ,ih]
theorem C_0:aZ []=true:=by simp only[aZ]
theorem aDG(k:IntKind)(n:Int)(cs:List AV):aZ (.int k n::cs)=aZ cs:=by simp[aZ,AV.cell]
theorem XG(b:Bool)(cs:List AV):aZ (.bool b::cs)=aZ cs:=by simp[aZ,AV.cell]
theorem aGC(b:ByteArray)(cs:List AV):aZ (.str b::cs)=aZ cs:=by simp[aZ,AV.cell]
theorem aF1(xs:List AV)(f:Bool)(t:Option Nat)(cs:List AV):aZ (.lit xs f t::cs)=aZ cs:=by simp[aZ,AV.cell]
theorem aFK(a b c d:Nat)(cs:List AV):aZ (.ref a b c d::cs)=aZ cs:=by simp[aZ,AV.cell]
theorem aE6(a b:Nat)(cs:List AV):aZ (.ptr a b::cs)=aZ cs:=by simp[aZ,AV.cell]
theorem X4(f:FuncId)(a b:List AV)(cs:List AV):aZ (.func f a b::cs)=aZ cs:=by simp[aZ,AV.cell]
theorem aEV(i:Nat)(cs:List AV):aZ (.map i::cs)=aZ cs:=by simp[aZ,AV.cell]
theorem OW(cs:List AV):aZ (.nilPtr::cs)=aZ cs:=by simp[aZ,AV.cell]
theorem I5(cs:List AV):aZ (.nilFunc::cs)=aZ cs:=by simp[aZ,AV.cell]
theorem aGH{α:Type}(enc:α->AV)(l:List α)(h:∀ x,(enc x).cell=true):aZ (l.map enc)=true:=by
 induction l with
 |nil=>rfl
 |cons x l ih=>simp[aZ,h,ih]
theorem aK2(k:IntKind)(n:Int):(AV.int k n).cells=[.int k n]:=by simp[AV.cells]
theorem aGY(b:Bool):(AV.bool b).cells=[.bool b]:=by simp[AV.cells]
theorem aKS(b:ByteArray):(AV.str b).cells=[.str b]:=by simp[AV.cells]
theorem aJ8(xs:List AV)(f:Bool)(t:Option Nat):(AV.lit xs f t).cells=[.lit xs f t]:=by simp[AV.cells]
theorem aK7(a b c d:Nat):(AV.ref a b c d).cells=[.ref a b c d]:=by simp[AV.cells]
theorem aII(a b:Nat):(AV.ptr a b).cells=[.ptr a b]:=by simp[AV.cells]
theorem aG1(f:FuncId)(a b:List AV):(AV.func f a b).cells=[.func f a b]:=by simp[AV.cells]
theorem aN5(i:Nat):(AV.map i).cells=[.map i]:=by simp[AV.cells]
theorem aK6(cs:List AV):(AV.agg cs).cells=cs:=by simp[AV.cells]
theorem S9:AV.nilPtr.cells=[.nilPtr]:=by simp[AV.cells]
theorem OR:AV.nilFunc.cells=[.nilFunc]:=by simp[AV.cells]
theorem aOC(e:Env)(cs:List AV):bQ e cs []=some cs:=by simp only[bQ]
theorem aOG(e:Env)(cs:List AV)(off n:Nat)(x:AOpd)(rest:List (Nat×Nat×AOpd)):
  bQ e cs ((off,n,x)::rest)=((iW n (x.ev e)).bind fun us=>dF cs off us).bind fun cs=>bQ e cs rest:=aHM e cs off n x rest
theorem VZ(n:Nat):aF n []=true:=by simp[aF]
theorem JG(n:Nat)(x:AV)(xs:List AV):aF n (x::xs)=(bD n x&&aF n xs):=by simp[aF,bD]
theorem n9{α:Type}(n:Nat)(enc:α->AV)(l:List α)(h:∀ x,bD n (enc x)=true):aF n (l.map enc)=true:=by
 induction l with
 |nil=>exact VZ n
 |cons x l ih=>rw[List.map_cons,JG,h,ih];rfl
theorem aIN(n:Nat)(xs:List AV):wE n xs=if aF n xs=true then some (.lit xs true none) else none:=by simp only[wE]
def xS(sz:Nat)(xs:List AV)(j:Int)(t:Option Nat):Option AV:=(xs[j.toNat]?).bind fun y=>if 0<=j/\y.cells.length=sz then some (.lptr xs j.toNat 0 t) else none
theorem aHD(sz:Nat)(xs:List AV)(f:Bool)(t:Option Nat)(k:IntKind)(j:Int):mW none sz (.lit xs f t) (.int k j)=xS sz xs j t:=by
 simp only[mW,eE,xS];cases xs[j.toNat]?<;>simp
theorem aLF(n sz id off:Nat)(k:IntKind)(j:Int):mW (some n) sz (.ptr id off) (.int k j)=if 0<=j/\j<n then some (.ptr id (off+j.toNat*sz)) else none:=by simp only[mW,eE]
theorem aC6(n sz q off:Nat)(xs:List AV)(t:Option Nat)(k:IntKind)(j:Int):mW (some n) sz (.lptr xs q off t) (.int k j)=if 0<=j/\j<n then some (.lptr xs q (off+j.toNat*sz) t) else none:=by simp only[mW,eE]
theorem aHQ(sz id off len sz':Nat)(k:IntKind)(j:Int):mW none sz (.ref id off len sz') (.int k j)=if 0<=j/\j<len/\sz'=sz then some (.ptr id (off+j.toNat*sz)) else none:=by simp only[mW,eE]
def G6(sz b:Nat)(xs ys:List AV):Prop:=aF sz xs=true/\aF sz ys=true/\(xs.length+ys.length)*b<=room/\xs.length+ys.length<=room
theorem FE{sz b:Nat}{σ:St}{xs ys:List AV}{tk t:Option Nat}{f:Bool}(h:G6 sz b xs ys)(h0:ys.length≠0):
  bT sz b σ (.lit xs true tk) (.lit ys f t)=some (.lit (xs++ys) false (some σ.length),σ++[.tok sz (xs.length+ys.length) true]):=by
 obtain⟨h1,h2,h3,h4⟩:=h;simp[bT,kT,pW,h0,h1,h2,h3,h4]
theorem tU{sz b:Nat}{σ:St}{xs ys:List AV}{t:Nat}{tk:Option Nat}{f ex:Bool}(h:G6 sz b xs ys)(h0:ys.length≠0)(ht:σ[t]? = some (.tok sz xs.length ex)):
  bT sz b σ (.lit xs false (some t)) (.lit ys f tk)=some (.lit (xs++ys) false (some t),σ.set t (.tok sz (xs.length+ys.length) true)):=by
 obtain⟨h1,h2,h3,h4⟩:=h;simp[bT,kT,pW,h0,h1,h2,h3,h4,ht]
theorem YP{sz b:Nat}{σ:St}{xs:List AV}{tk t:Option Nat}{f f':Bool}:bT sz b σ (.lit xs f' tk) (.lit [] f t)=some (.lit xs f' tk,σ):=by
 simp[bT,kT]
def cH(σ:St)(m d:Nat)(v:AV):Option AV:=(snap σ m d v).map clr
def bW(σ:St)(m d:Nat)(vs:List AV):Option (List AV):=(snaps σ m d vs).map clrs
theorem aML(σ:St)(m d:Nat)(k:IntKind)(n:Int):cH σ m d (.int k n)=some (.int k n):=by simp[cH,snap,clr]
theorem aD9(σ:St)(m d:Nat)(b:Bool):cH σ m d (.bool b)=some (.bool b):=by simp[cH,snap,clr]
theorem aLE(σ:St)(m d:Nat)(b:ByteArray):cH σ m d (.str b)=some (.str b):=by simp[cH,snap,clr]
theorem RV(σ:St)(m d:Nat):cH σ m d .nilPtr=some .nilPtr:=by simp[cH,snap,clr]
theorem NX(σ:St)(m d:Nat):cH σ m d .nilFunc=some .nilFunc:=by simp[cH,snap,clr]
theorem aMJ(σ:St)(m d id off:Nat):cH σ m d (.ptr id off)=if id<m then some (.ptr id off) else none:=by
 simp only[cH,snap];split<;>simp[clr]
theorem aLA(σ:St)(m d id:Nat):cH σ m d (.map id)=if id<m then some (.map id) else none:=by
 simp only[cH,snap];split<;>simp[clr]
theorem aBM(σ:St)(m d:Nat):bW σ m d []=some []:=by simp[bW,snaps,clrs]
theorem JX(σ:St)(m d:Nat)(v:AV)(vs:List AV):bW σ m d (v::vs)=(cH σ m d v).bind fun a=>(bW σ m d vs).map (a::·):=by
 simp only[bW,cH,snaps];cases snap σ m d v<;>cases snaps σ m d vs<;>simp[clrs]
theorem YW(σ:St)(m d:Nat)(vs:List AV):cH σ m d (.tuple vs)=(bW σ m d vs).map .tuple:=by
 simp only[bW,cH,snap];cases snaps σ m d vs<;>simp[clr]
theorem aLB(σ:St)(m d:Nat)(vs:List AV):cH σ m d (.agg vs)=(bW σ m d vs).map .agg:=by
 simp only[bW,cH,snap];cases snaps σ m d vs<;>simp[clr]
theorem aC9(σ:St)(m d:Nat)(vs:List AV)(f:Bool):cH σ m d (.lit vs f none)=(bW σ m d vs).map fun ys=>.lit ys false none:=by
 simp only[bW,cH,snap];cases snaps σ m d vs<;>simp[clr]
theorem aC2(σ:St)(m d t:Nat)(vs:List AV)(f:Bool):cH σ m d (.lit vs f (some t))=(bW σ m d vs).map fun ys=>if t<m then .lit ys f (some t) else .lit ys false none:=by
 simp only[bW,cH,snap];cases snaps σ m d vs<;>by_cases h:t<m<;>simp[clr,h,Option.filter]
theorem aD7(σ:St)(m d:Nat)(f:FuncId)(a b:List AV):cH σ m d (.func f a b)=(bW σ m d a).bind fun x=>(bW σ m d b).map fun y=>.func f x y:=by
 simp only[bW,cH,snap];cases snaps σ m d a<;>cases snaps σ m d b<;>simp[clr]
def gV(v:AV):Prop:=okV 0 v/\clr v=v
def kJ(vs:List AV):Prop:=okVs 0 vs/\clrs vs=vs
mutual
theorem snap_ok0 (σ:St) (m d:Nat):∀ (v:AV),okV 0 v->snap σ m d v=some v
 |.func f first cap,h=>by simp only[okV] at h;simp only[snap,snaps_ok0 σ m d first h.1,snaps_ok0 σ m d cap h.2]
 |.yield _,h|.ptr _ _,h|.ref _ _ _ _,h|.map _,h=>by simp[okV] at h
 |.lptr xs i o tk,h=>by
  simp only[okV] at h;cases tk with
  |none=>simp[snap,snaps_ok0 σ m d xs h.2]
  |some t=>exact absurd (h.1 t rfl) (by omega)
 |.lit xs f tk,h=>by
  simp only[okV] at h;cases tk with
  |none=>simp[snap,snaps_ok0 σ m d xs h.2]
  |some t=>exact absurd (h.1 t rfl) (by omega)
 |.agg cs,h=>by simp only[okV] at h;simp[snap,snaps_ok0 σ m d cs h]
 |.tuple cs,h=>by simp only[okV] at h;simp[snap,snaps_ok0 σ m d cs h]
 |.undef,_|.int _ _,_|.bool _,_|.str _,_|.nilFunc,_|.nilPtr,_|.nilMap,_=>by simp[snap]
theorem snaps_ok0 (σ:St) (m d:Nat):∀ (vs:List AV),okVs 0 vs->snaps σ m d vs=some vs
 |[],_=>by simp[snaps]
 |v::vs,h=>by simp only[okVs] at h;simp[snaps,snap_ok0 σ m d v h.1,snaps_ok0 σ m d vs h.2]
end
theorem aCM{v:AV}(h:gV v)(σ:St)(m d:Nat):cH σ m d v=some v:=by simp[cH,snap_ok0 σ m d v h.1,h.2]
theorem iE{vs:List AV}(h:kJ vs)(σ:St)(m d:Nat):bW σ m d vs=some vs:=by simp[bW,snaps_ok0 σ m d vs h.1,h.2]
theorem cE(k:IntKind)(n:Int):gV (.int k n):=⟨trivial,rfl⟩
theorem vV(b:Bool):gV (.bool b):=⟨trivial,rfl⟩
theorem u0(b:ByteArray):gV (.str b):=⟨trivial,rfl⟩
theorem bM:kJ []:=⟨trivial,rfl⟩
theorem aM{v:AV}{vs:List AV}(h:gV v)(hs:kJ vs):kJ (v::vs):=⟨⟨h.1,hs.1⟩,by simp[clrs,h.2,hs.2]⟩
theorem iD{vs:List AV}(h:kJ vs):gV (.agg vs):=⟨h.1,by simp[clr,h.2]⟩
theorem IL{vs:List AV}(h:kJ vs):gV (.tuple vs):=⟨h.1,by simp[clr,h.2]⟩
theorem EM{vs:List AV}(h:kJ vs):gV (.lit vs false none):=⟨⟨(fun t e=>by cases e),h.1⟩,by simp[clr,h.2]⟩
theorem b9{α:Type}{enc:α->AV}(h:∀ x,gV (enc x))(l:List α):kJ (l.map enc):=by
 induction l with
 |nil=>exact bM
 |cons x l ih=>exact aM (h x) ih
theorem eY{α:Type}{enc:α->AV}(h:∀ x,gV (enc x))(l:List α):gV (.lit (l.map enc) false none):=EM (b9 h l)
def IX(o:Option AV)(σ:St)(v:AV):Prop:=∃ v0,o=some v0/\cH σ 0 20 v0=some v
@[congr] theorem aE3{o o':Option AV}{σ σ':St}{v:AV}(h:o=o')(h2:σ=σ'):IX o σ v=IX o' σ' v:=by rw[h,h2]
theorem aCR(v0:AV)(σ:St)(v:AV):IX (some v0) σ v=(cH σ 0 20 v0=some v):=by simp[IX]
def TF(rs:List ARes)(v:AV):KJ:=fun j e σ=>(j=none\/j=some .ret)/\IX (eQ rs e σ) σ v
theorem aDC(rs:List ARes)(v:AV)(e:Env)(σ:St):TF rs v none e σ=IX (eQ rs e σ) σ v:=by simp[TF]
theorem aN4(rs:List ARes)(v:AV)(e:Env)(σ:St):TF rs v (some .ret) e σ=IX (eQ rs e σ) σ v:=by simp[TF]
theorem aS{f:FuncId}{args:List AV}{v:AV}{af:AFunc}(hf:T f=some af)(hn:args.length<=af.ntmps)(hk:kJ args)(h:wp T af.body (dX 0 args) [] (TF af.results v)):aV T f args v:=by
 intro σ;refine .frame hk.1 (.inl rfl) (R:=fun o=>o.v=v/\o.σ=[]) (.call hf hn (i3 h fun o ho=>ho) fun o ho=>?_) fun o ho=>⟨ho.2,ho.1,rfl⟩
 obtain⟨h1,v0,h2,h3⟩:=ho;refine⟨h1,v0,h2,?_⟩;unfold cH at h3;cases hs:snap o.σ 0 20 v0 with
 |none=>rw[hs] at h3;cases h3
 |some v1 =>
  rw[hs] at h3;simp at h3;exact .inr ⟨20,v1,v,hs,.inr h3.symm,fun i hi=>absurd hi (by simp),by simp,rfl,by simp⟩
theorem LM{f:FuncId}{args args0:List AV}{v:AV}(h:aV T f args0 v)(ha:clrs args=args0)(hk:okVs 0 args)(σ:St):Run T (.call f args σ) fun o=>o.v=v/\o.σ=σ :=
 .frame hk (.inr ha.symm) (h []) fun o ho=>⟨ho.2,ho.1,rfl⟩
theorem GE{f:FuncId}{first cap args args0:List AV}{v:AV}{σ:St}{K:AV->St->Prop}(h:aV T f args0 v)(ha:clrs (first++args++cap)=args0)(hk:okVs 0 (first++args++cap))(k:K v σ):cK (K:=⟨K⟩) T (.func f first cap) args σ :=
 .callf (.mono (LM h ha hk σ) fun o ho=>by rw[ho.1,ho.2];exact k)
theorem GX{f:FuncId}{first cap args args0:List AV}{v:AV}{σ:St}{K:AV->St->Prop}(h:aV T f args0 v)(ha:clrs (first++args++cap)=args0)(hk:okVs 0 (first++args++cap))(k:K v σ):cD (K:=⟨K⟩) T (.func f first cap) args σ :=
 ⟨v,σ,.callf (LM h ha hk σ),k⟩
theorem aE{f:FuncId}{args args0:List AV}{v:AV}{σ:St}{K:AV->St->Prop}(h:aV T f args0 v)(ha:args=args0)(hk:kJ args0)(k:K v σ):cK (K:=⟨K⟩) T (.func f [] []) args σ:=by
 subst ha;exact GE h (by simpa using hk.2) (by simpa using hk.1) k
theorem aQ{f:FuncId}{args args0:List AV}{v:AV}{σ:St}{K:AV->St->Prop}(h:aV T f args0 v)(ha:args=args0)(hk:kJ args0)(k:K v σ):cD (K:=⟨K⟩) T (.func f [] []) args σ:=by
 subst ha;exact GX h (by simpa using hk.2) (by simpa using hk.1) k
theorem ER{f:FuncId}{args args0:List AV}{v:AV}{σ:St}(h:aV T f args0 v)(ha:bW σ 0 20 args=some args0)(hv:Scal v):Run T (.call f args σ) fun o=>o.v=v/\o.σ=σ:=by
 unfold bW at ha;cases hs:snaps σ 0 20 args with
 |none=>rw[hs] at ha;cases ha
 |some as1 =>
  rw[hs] at ha;simp at ha;exact .frameS hs (.inr ha.symm) (h []) fun o ho=>⟨ho.2,by rw[ho.1];exact hv,ho.1,rfl⟩
theorem Z7{f:FuncId}{first cap args args0:List AV}{v:AV}{σ:St}{K:AV->St->Prop}(h:aV T f args0 v)(ha:bW σ 0 20 (first++args++cap)=some args0)(hv:Scal v)(k:K v σ):cK (K:=⟨K⟩) T (.func f first cap) args σ :=
 .callf (.mono (ER h ha hv) fun o ho=>by rw[ho.1,ho.2];exact k)
theorem YN{f:FuncId}{first cap args args0:List AV}{v:AV}{σ:St}{K:AV->St->Prop}(h:aV T f args0 v)(ha:bW σ 0 20 (first++args++cap)=some args0)(hv:Scal v)(k:K v σ):cD (K:=⟨K⟩) T (.func f first cap) args σ :=
 ⟨v,σ,.callf (ER h ha hv),k⟩
def InK(rs:List ARes)(K:AV->St->Prop):KJ:=fun j e σ=>(j=none\/j=some .ret)/\∃ v,eQ rs e σ=some v/\K v σ
def InR(o:Option AV)(σ:St)(K:AV->St->Prop):Prop:=∃ v,o=some v/\K v σ
@[congr] theorem aHA{o o':Option AV}{σ σ':St}{K:AV->St->Prop}(h:o=o')(h2:σ=σ'):InR o σ K=InR o' σ' K:=by rw[h,h2]
theorem aDR(v:AV)(σ:St)(K:AV->St->Prop):InR (some v) σ K=K v σ:=by simp[InR]
theorem aCT(rs:List ARes)(K:AV->St->Prop)(e:Env)(σ:St):InK rs K none e σ=InR (eQ rs e σ) σ K:=by simp[InK,InR]
theorem aKB(rs:List ARes)(K:AV->St->Prop)(e:Env)(σ:St):InK rs K (some .ret) e σ=InR (eQ rs e σ) σ K:=by simp[InK,InR]
theorem uD{f:FuncId}{first cap args:List AV}{af:AFunc}{σ:St}{K:AV->St->Prop}(hf:T f=some af)(hn:(first++args++cap).length<=af.ntmps)(h:wp T af.body (dX 0 (first++args++cap)) σ (InK af.results K)):
  cK (K:=⟨K⟩) T (.func f first cap) args σ :=
 .callf (.call hf hn (i3 h fun o ho=>ho) fun o ho=>⟨ho.1,ho.2.choose,ho.2.choose_spec.1,.inl ho.2.choose_spec.2⟩)
def EqE(σ:St)(m:Nat)(e:Env):Env->Prop
 |[]=>True
 |(t,v)::e'=>cH σ m 20 (Env.get e t)=some v/\EqE σ m e e'
theorem aRW(σ:St)(m:Nat)(e:Env):EqE σ m e []=True:=by simp only[EqE]
theorem aSU(σ:St)(m:Nat)(e:Env)(t:Nat)(v:AV)(e':Env):EqE σ m e ((t,v)::e')=(cH σ m 20 (Env.get e t)=some v/\EqE σ m e e'):=by simp only[EqE]
theorem FC{σ:St}{m:Nat}{e:Env}:∀ {e':Env},EqE σ m e e'->LV σ m e e'
 |[],_=>trivial
 |(t,v)::e',h=>by
  refine⟨.inr ?_,FC h.2⟩;have h1:=h.1;unfold cH at h1;cases hs:snap σ m 20 (Env.get e t) with
  |none=>rw[hs] at h1;cases h1
  |some v1=>rw[hs] at h1;simp at h1;exact⟨20,v1,hs,.inr h1.symm⟩
def EqS(m:Nat):St->St->St->Prop
 |_,_,[]=>True
 |s::ss,b::bs,c::cs=>(c=b/\(b=s\/aO m b))/\EqS m ss bs cs
 |[],b::bs,c::cs=>(c=b/\aO m b)/\EqS m [] bs cs
 |_,[],_::_=>False
theorem aR3(m:Nat)(a b:St):EqS m a b []=True:=by cases a<;>cases b<;>simp only[EqS]
theorem aOY(m:Nat)(s b c:ABlk)(ss bs cs:St):EqS m (s::ss) (b::bs) (c::cs)=((c=b/\(b=s\/aO m b))/\EqS m ss bs cs):=by simp only[EqS]
theorem aTE(m:Nat)(b c:ABlk)(bs cs:St):EqS m [] (b::bs) (c::cs)=((c=b/\aO m b)/\EqS m [] bs cs):=by simp only[EqS]
theorem AK{m:Nat}:∀ {σ σ' σ'':St},EqS m σ σ' σ''->∀ i c,σ''[i]? = some c->σ'[i]? = some c/\((i<σ.length/\σ'[i]? = σ[i]?)\/aO m c)
 |_,_,[],_,i,c,h=>by simp at h
 |s::ss,b::bs,x::cs,h,i,c,hc=>by
  obtain⟨⟨h1,h2⟩,h3⟩:=h;cases i with
  |zero =>
   simp at hc;subst hc;subst h1;refine⟨rfl,?_⟩;rcases h2 with h2|h2
   ·left;simp[h2]
   ·right;exact h2
  |succ i =>
   obtain⟨q1,q2⟩:=AK h3 i c (by simpa using hc);refine⟨by simpa using q1,?_⟩;rcases q2 with⟨q2,q3⟩|q2
   ·left;exact⟨by simp;omega,by simpa using q3⟩
   ·right;exact q2
 |[],b::bs,x::cs,h,i,c,hc=>by
  obtain⟨⟨h1,h2⟩,h3⟩:=h;cases i with
  |zero =>
   simp at hc;subst hc;subst h1;exact⟨rfl,.inr h2⟩
  |succ i =>
   obtain⟨q1,q2⟩:=AK h3 i c (by simpa using hc);refine⟨by simpa using q1,?_⟩;rcases q2 with⟨q2,q3⟩|q2
   ·simp at q2
   ·right;exact q2
def aD(σ:St)(e':Env)(σ':St)(e'':Env)(σ'':St):Prop:=σ.length<=σ''.length/\σ''.length<=σ'.length/\EqE σ' σ''.length e' e''/\EqS σ''.length σ σ' σ''
@[congr] theorem aBP{σ σ1:St}{e' e1:Env}{σ' σ1':St}{e'':Env}{σ'':St}(h1:σ=σ1)(h2:e'=e1)(h3:σ'=σ1'):aD σ e' σ' e'' σ''=aD σ1 e1 σ1' e'' σ'':=by rw[h1,h2,h3]
theorem WP{σ:St}{e':Env}{σ':St}{e'':Env}{σ'':St}(h:aD σ e' σ' e'' σ''):zD σ e' σ' e'' σ'':=by
 obtain⟨h1,h2,h3,h4⟩:=h;refine⟨h1,h2,FC h3,fun i hi=>?_⟩;obtain⟨c,hc⟩:∃ c,σ''[i]? = some c:=⟨_,List.getElem?_eq_getElem hi⟩;obtain⟨q1,q2⟩:=AK h4 i c hc;refine⟨c,hc,?_⟩;rcases q2 with⟨q2,q3⟩|q2
 ·left;exact⟨q2,.inl q3,q1⟩
 ·right;left;exact⟨q1,q2⟩
def C0{S:Type}(P:S->Prop)(μ:S->Nat)(IE:S->Env)(IS:S->St)(s:S)(K:KJ):KJ:=fun j e σ =>
 match j with
 |none=>∃ s',P s'/\μ s'<μ s/\aD (IS s) e σ (IE s') (IS s')
 |some j=>K (some j) e σ
theorem U9{S:Type}(P:S->Prop)(μ:S->Nat)(IE:S->Env)(IS:S->St)(s:S)(K:KJ)(e:Env)(σ:St):C0 P μ IE IS s K none e σ = ∃ s',P s'/\μ s'<μ s/\aD (IS s) e σ (IE s') (IS s'):=by simp only[C0]
theorem aB5{S:Type}(P:S->Prop)(μ:S->Nat)(IE:S->Env)(IS:S->St)(s:S)(K:KJ)(j:AJump)(e:Env)(σ:St):C0 P μ IE IS s K (some j) e σ=K (some j) e σ:=by simp only[C0]
def EqW(e:Env):Env->Prop
 |[]=>True
 |(t,v)::e'=>(Env.get e t=v\/clr (Env.get e t)=v)/\EqW e e'
theorem aP9(e:Env):EqW e []=True:=by simp only[EqW]
theorem aST(e:Env)(t:Nat)(v:AV)(e':Env):EqW e ((t,v)::e')=((Env.get e t=v\/clr (Env.get e t)=v)/\EqW e e'):=by simp only[EqW]
theorem GS{e:Env}:∀ {e':Env},EqW e e'->∀ t,Env.get e' t = .undef\/Env.get e' t=Env.get e t\/Env.get e' t=clr (Env.get e t)
 |[],_,t=>.inl rfl
 |(k,v)::e',h,t=>by
  by_cases hk:k=t
  ·subst hk;right;rcases h.1 with h|h
   ·left;simp[Env.get,h]
   ·right;simp[Env.get,h]
  ·simpa[Env.get,hk] using GS h.2 t
theorem aKN{S:Type}(P:S->Prop)(μ:S->Nat)(IE:S->Env)(IS:S->St){b:ACode}{K:KJ}(step:∀ s,P s->wp T b (IE s) (IS s) (C0 P μ IE IS s K)):∀ n s,μ s=n->P s->UT T (.loop b) (IE s) (IS s) K:=by
 intro n
 induction n using Nat.strongRecOn with
 |_ n ih =>
  intro s hs hp;have h1:Run T (.code b (IE s) (IS s)) fun o=>(o.j=none/\∃ s',P s'/\μ s'<μ s/\o.env=IE s'/\o.σ=IS s')\/(o.j≠none/\K o.j o.env o.σ):=by
   refine .trim2 (i3 (step s hp) fun o ho=>ho) fun o ho=>?_
   cases hj:o.j with
   |none =>
    rw[hj,U9] at ho;obtain⟨s',h1,h2,h3⟩:=ho;exact .inr ⟨_,_,WP h3,.inl ⟨rfl,s',h1,h2,rfl,rfl⟩⟩
   |some j =>
    rw[hj,aB5] at ho;exact .inl (.inr ⟨by simp,ho⟩)
  refine .loop h1 (fun o ho hj=>?_) fun o ho hj=>?_
  ·rcases ho with⟨_,s',q1,q2,q3,q4⟩|⟨q1,_⟩
   ·rw[q3,q4];exact ih _ (by omega) s' rfl q1
   ·exact absurd hj q1
  ·rcases ho with⟨q,_⟩|⟨_,q⟩
   ·exact absurd q hj
   ·exact q
theorem cY{S:Type}(s0:S)(P:S->Prop)(μ:S->Nat)(IE:S->Env)(IS:S->St){b:ACode}{e:Env}{σ:St}{K:KJ}(hP:P s0)(hσ:σ=IS s0)(hE:EqW e (IE s0))(step:∀ s,P s->wp T b (IE s) (IS s) (C0 P μ IE IS s K)):rK (K:=⟨K⟩) T (.loop b) e σ:=by
 subst hσ;exact .weak (GS hE) (aKN P μ IE IS step _ s0 rfl hP)
theorem qO{c:ACode}{e:Env}{σ:St}{K:KJ}(t sz:Nat)(xs:List AV)(ht:Env.get e t = .lit xs true none)(h:rK (K:=⟨K⟩) T c ((t,.lit xs false (some σ.length))::e) (σ++[.tok sz xs.length false])):rK (K:=⟨K⟩) T c e σ :=
 .ghost t sz xs ht h
end Go.Am
namespace Go.Am
variable {T:FuncId->Option AFunc}
def xT(e:Env)(σ:St):ARes->Option AV
 |.tmp t=>some (Env.get e t)
 |.cell t sh=>gZ sh σ (Env.get e t)
def mO(e:Env)(σ:St):List ARes->Option (List AV)
 |[]=>some []
 |r::rs=>(xT e σ r).bind fun v=>(mO e σ rs).map (v::·)
theorem u9(e:Env)(σ:St):∀ rs,gX e σ rs=mO e σ rs
 |[]=>rfl
 |.tmp t::rs=>by simp[gX,mO,xT,u9 e σ rs]
 |.cell t sh::rs=>by
  simp only[gX,mO,xT,u9 e σ rs];cases gZ sh σ (Env.get e t)<;>cases mO e σ rs<;>simp
theorem aFH(e:Env)(σ:St):eQ [] e σ=some (.tuple []):=by simp[eQ,gX]
theorem aCS(r:ARes)(e:Env)(σ:St):eQ [r] e σ=xT e σ r:=by
 simp only[eQ,u9,mO];cases xT e σ r<;>simp
theorem aCI(r s:ARes)(rs:List ARes)(e:Env)(σ:St):eQ (r::s::rs) e σ=(mO e σ (r::s::rs)).map .tuple:=by
 simp only[eQ,u9,mO];cases xT e σ r<;>cases xT e σ s<;>cases mO e σ rs<;>simp
theorem aLY(e:Env)(σ:St):mO e σ []=some []:=by simp only[mO]
theorem aHF(r:ARes)(rs:List ARes)(e:Env)(σ:St):mO e σ (r::rs)=(xT e σ r).bind fun v=>(mO e σ rs).map (v::·):=by simp only[mO]
theorem aSW(t:Nat)(e:Env)(σ:St):xT e σ (.tmp t)=some (Env.get e t):=by simp only[xT]
theorem aSV(t:Nat)(sh:Option Nat)(e:Env)(σ:St):xT e σ (.cell t sh)=gZ sh σ (Env.get e t):=by simp only[xT]
theorem aPE(id:Nat)(K:KJ)(e:Env)(σ:St):jD id K none e σ=K none e σ:=by simp only[jD]
theorem aSH(id:Nat)(K:KJ)(e:Env)(σ:St):jD id K (some .ret) e σ=K (some .ret) e σ:=by simp only[jD]
theorem aMP(id:Nat)(K:KJ)(e:Env)(σ:St):jD id K (some (.exit id)) e σ=K none e σ:=by simp[jD]
theorem aJ3(id i:Nat)(K:KJ)(e:Env)(σ:St)(h:i≠id):jD id K (some (.exit i)) e σ=K (some (.exit i)) e σ:=by simp[jD,h]
theorem zG{α:Type}{sz:Nat}{enc:α->AV}{l:List α}{k:Nat}{t:Option Nat}(h:k<l.length)(hs:∀ x,(enc x).cells.length=sz):xS sz (l.map enc) (k:Int) t=some (.lptr (l.map enc) k 0 t):=by
 simp[xS,List.getElem?_map,h,hs]
theorem y9{α:Type}{enc:α->AV}{l:List α}{k:Nat}(h:k<l.length):(l.map enc)[k]? = some (enc l[k]):=by simp[List.getElem?_map,h]
theorem zH{α:Type}{sz:Nat}{enc:α->AV}{l:List α}{i:Int}{t:Option Nat}(h0:0<=i)(h:i.toNat<l.length)(hs:∀ x,(enc x).cells.length=sz):xS sz (l.map enc) i t=some (.lptr (l.map enc) i.toNat 0 t):=by
 simp[xS,List.getElem?_map,h,hs,h0]
theorem rd0{ds:List ADOper}{e:Env}{σ:St}{K:KJ}(hz:cG ds=[])(h:wpD T ds e σ σ.length [σ] [] fun e σ=>K none e σ):rK (K:=⟨K⟩) T (.dreg ds) e σ:=by
 refine MD ?_;rw[hz,List.append_nil];exact h
theorem E3{ds:List ADOper}{e:Env}{σ:St}{K:KJ}(zs:St)(hz:cG ds=zs)(h:wpD T ds e (σ++zs) σ.length [σ++zs] [] fun e σ=>K none e σ):rK (K:=⟨K⟩) T (.dreg ds) e σ:=by
 subst hz;exact MD h
theorem cB{k n:Nat}(h:k<n)(hn:n<9223372036854775808):IntKind.i64.wrap ((k:Int)+1)=((k+1:Nat):Int):=by rw[dL ⟨by omega,by omega⟩];omega
def aK(l:List Int):AV:=.lit (l.map (.int .i64)) false none
theorem k6(l:List Int):gV (aK l):=eY (cE .i64) l
theorem JU(σ:St)(m d:Nat)(k:IntKind)(l:List Int):bW σ m d (l.map (.int k))=some (l.map (.int k)):=iE (b9 (cE k) l) σ m d
theorem aFY(σ:St)(m d:Nat)(l:List ByteArray):bW σ m d (l.map .str)=some (l.map .str):=iE (b9 u0 l) σ m d
theorem aBX(σ:St)(m d:Nat):∀ xs ys:List AV,bW σ m d (xs++ys)=(bW σ m d xs).bind fun a=>(bW σ m d ys).map (a++·)
 |[],ys=>by rw[aBM];simp
 |x::xs,ys=>by
  rw[List.cons_append,JX,JX,aBX σ m d xs ys];cases cH σ m d x<;>simp;cases bW σ m d xs<;>simp;cases bW σ m d ys<;>simp
def fA(l:List (List Int)):AV:=.lit (l.map aK) false none
theorem J6(l:List (List Int)):gV (fA l):=eY k6 l
theorem aCL(σ:St)(m d:Nat)(l:List Int):cH σ m d (aK l)=some (aK l):=aCM (k6 l) σ m d
theorem aD5(σ:St)(m d:Nat)(l:List (List Int)):bW σ m d (l.map aK)=some (l.map aK):=iE (b9 k6 l) σ m d
theorem aFO(k:IntKind)(a b:Int):xB [.int k a,.int k b]=some (.int k (min a b)):=by
 simp only[xB,sI,if_true,Option.some.injEq,AV.int.injEq,true_and];split<;>omega
theorem vX(k:IntKind)(a b:Int):w4 [.int k a,.int k b]=some (.int k (max a b)):=by
 simp only[w4,rX,if_true,Option.some.injEq,AV.int.injEq,true_and];split<;>omega
def dE(s:ByteArray)(k:Nat):Int:=(((s[k]?).getD 0).toNat:Int)
theorem CV(s:ByteArray)(k:Nat):0<=dE s k/\dE s k<256:=by
 have:=((s[k]?).getD 0).toNat_lt;unfold dE;omega
theorem aDN{s:ByteArray}{k:Nat}(h:k<s.size):yJ (.str s) (.int .i64 (k:Int))=some (.int .u8 (dE s k)):=by
 simp[yJ,eE,dE,h]
structure Span where
 lo:Int
 hi:Int
 deriving DecidableEq
def oR(s:Span):AV:=.agg [.int .i64 s.lo,.int .i64 s.hi]
theorem bK(s:Span):oR s = .agg [.int .i64 s.lo,.int .i64 s.hi]:=by simp only[oR]
theorem OZ(s:Span):gV (oR s):=iD (aM (cE _ _) (aM (cE _ _) bM))
def H4(l:List ByteArray):AV:=.lit (l.map .str) false none
theorem O4(l:List ByteArray):gV (H4 l):=eY u0 l
end Go.Am
namespace Go.Am
variable {T:FuncId->Option AFunc}
def lK(T:FuncId->Option AFunc)(f:AV)(args:List AV)(σ:St)(v:AV):Prop:=Run T (.callv f args σ) fun o=>o.v=v/\o.σ=σ
def y6(o:Option AV)(σ0 σ:St)(v:AV):Prop:=∃ v0 τ,o=some v0/\σ=σ0++τ/\cH σ σ0.length 20 v0=some v
@[congr] theorem aA9{o o':Option AV}{σ0 σ σ':St}{v:AV}(h:o=o')(h2:σ=σ'):y6 o σ0 σ v=y6 o' σ0 σ' v:=by rw[h,h2]
def GO(rs:List ARes)(σ0:St)(v:AV):KJ:=fun j e σ=>(j=none\/j=some .ret)/\y6 (eQ rs e σ) σ0 σ v
theorem aG0(rs:List ARes)(σ0:St)(v:AV)(e:Env)(σ:St):GO rs σ0 v none e σ=y6 (eQ rs e σ) σ0 σ v:=by simp[GO]
theorem aM3(rs:List ARes)(σ0:St)(v:AV)(e:Env)(σ:St):GO rs σ0 v (some .ret) e σ=y6 (eQ rs e σ) σ0 σ v:=by simp[GO]
theorem gB{v0:AV}{σ0 σ:St}{v:AV}(τ:St)(h1:σ=σ0++τ)(h2:cH σ σ0.length 20 v0=some v):y6 (some v0) σ0 σ v:=⟨v0,τ,rfl,h1,h2⟩
theorem fZ{f:FuncId}{first cap args:List AV}{σ:St}{af:AFunc}{v:AV}(hf:T f=some af)(hn:(first++args++cap).length<=af.ntmps)(h:wp T af.body (dX 0 (first++args++cap)) σ (GO af.results σ v)):lK T (.func f first cap) args σ v:=by
 refine .callf (.call hf hn (i3 h fun o ho=>ho) fun o ho=>?_);obtain⟨h1,v0,τ,h2,h3,h4⟩:=ho;refine⟨h1,v0,h2,?_⟩;unfold cH at h4;cases hs:snap o.σ σ.length 20 v0 with
 |none=>rw[hs] at h4;cases h4
 |some v1 =>
  rw[hs] at h4;simp at h4;exact .inr ⟨20,v1,v,hs,.inr h4.symm,fun i hi=>.inl (by rw[h3];exact List.getElem?_append_left hi),by rw[h3];simp,rfl,by rw[h3];simp⟩
theorem dJ{f:AV}{args:List AV}{v:AV}{σ:St}{K:AV->St->Prop}(h:lK T f args σ v)(k:K v σ):cK (K:=⟨K⟩) T f args σ:=.mono h fun o ho=>by rw[ho.1,ho.2];exact k
def vC(σ:St)(v:AV):Prop:=∀ τ,cH (σ++τ) σ.length 20 v=some v
theorem vC.nil{σ:St}{v:AV}(h:vC σ v):cH σ σ.length 20 v=some v:=by simpa using h []
theorem XC(m:Nat):∀ (σ τ:St),EqS m σ (σ++τ) σ=True
 |[],τ=>by cases τ<;>simp[EqS]
 |b::σ,τ=>by simp[EqS,XC m σ τ]
theorem aBF(m:Nat)(σ:St):EqS m σ σ σ=True:=by simpa using XC m σ []
theorem aFD(σ τ υ:St):σ++τ++υ=σ++(τ++υ):=List.append_assoc _ _ _
theorem TS{s:ByteArray}{k:Nat}(h:k<s.size):wM [.siter s k] (.ptr 0 0)=some (.tuple [.bool true,.int .i64 k,.int .i32 (Utf8.decode s k).1],[.siter s (k+(Utf8.decode s k).2)]):=by
 simp[wM,h]
theorem QF{s:ByteArray}{k:Nat}(h:¬k<s.size):wM [.siter s k] (.ptr 0 0)=some (.tuple [.bool false],[.siter s k]):=by
 simp[wM,h]
theorem tW{s:ByteArray}{k:Nat}(h:k<s.size)(hb:dE s k<128):Utf8.decode s k=((dE s k).toNat,1):=by
 have e:dE s k=((s[k]'h).toNat:Int):=by simp[dE,h]
 rw[decode_ascii s k h (by omega),e];simp
theorem HO{s:ByteArray}{k:Nat}(h:k<s.size)(hb:128<=dE s k):128<=(Utf8.decode s k).1:=by
 have e:dE s k=((s[k]'h).toNat:Int):=by simp[dE,h]
 exact (decode_high s k h (by omega)).1
theorem aF2{α:Type}{sz:Nat}{enc:α->AV}{l:List α}{i:Nat}{σ:St}{t:Option Nat}(hi:i<=l.length)(hs:∀ x,(enc x).cells.length=sz):yC sz σ (.lit (l.map enc) false t) none (some (.int .i64 (i:Int))) none=some (.lit ((l.take i).map enc) false t):=by
 have hc:yN sz (l.map enc) 0 (i:Int)=true:=by
  unfold yN;by_cases h0:i=0
  ·subst h0;simp
  ·cases l with
   |nil=>simp at hi;omega
   |cons x l=>simp[hs]
 simp only[yC,gD,mT,Option.map_none,eE,kV];rw[if_pos ⟨by omega,by omega,by simp;omega,hc⟩];simp[List.map_take]
theorem cS{f:FuncId}{args args0:List AV}{v:AV}{σ:St}{K:AV->St->Prop}(h:aV T f args0 v)(ha:clrs args=args0)(hk:okVs 0 args)(k:K v σ):cK (K:=⟨K⟩) T (.func f [] []) args σ :=
 GE h (by simpa using ha) (by simpa using hk) k
theorem pG{f:FuncId}{args args0:List AV}{v:AV}{σ:St}{K:AV->St->Prop}(h:aV T f args0 v)(ha:clrs args=args0)(hk:okVs 0 args)(k:K v σ):cD (K:=⟨K⟩) T (.func f [] []) args σ :=
 GX h (by simpa using ha) (by simpa using hk) k
end Go.Am
namespace Go.Am
def QV:=zz @aJU (zz @m4 (zz @W8 (zz @aFD (zz @aDN (zz @aFO (zz @vX (zz @aIO (zz @aGR (zz @WF (zz @VE (zz @aNJ (zz @aHG (zz @aCE (zz @YZ (zz @TU (zz @SM (zz @UK (zz @N2 (zz @I2 (zz @aEE (zz @aEG (zz @aFC (zz @aE0 (zz @aEC (zz @aBR (zz @RK (zz @aCV (zz @aC1 (zz @aEQ (zz @W0 (zz @aDH (zz @aJA (zz @WZ (zz @YR (zz @RE (zz @aKH (zz @aL7 (zz @I0 (zz @RC (zz @IK (zz @aLJ (zz @aHR (zz @aKX (zz @aKM (zz @aN0 (zz @aIE (zz @aLP (zz @aLS (zz @aKD (zz @aLT (zz @aHP (zz @aJF (zz @aGJ (zz @aGZ (zz @UM (zz @V3 (zz @aFP (zz @aGB (zz @aKR (zz @aEY (zz @RB (zz @QO (zz @qV (zz @EB (zz @aI9 (zz @aJI (zz @Z0 (zz @aNS (zz @ZX (zz @PS (zz @aF9 (zz @aB4 (zz @QZ (zz @aK5 (zz @aNK (zz @aGS (zz @aH2 (zz @WE (zz @MK (zz @aAU (zz @C_0 (zz @aDG (zz @XG (zz @aGC (zz @aF1 (zz @aFK (zz @aE6 (zz @X4 (zz @aEV (zz @OW (zz @I5 (zz @aK2 (zz @aGY (zz @aKS (zz @aJ8 (zz @aK7 (zz @aII (zz @aG1 (zz @aN5 (zz @aK6 (zz @S9 (zz @OR (zz @aOC (zz @aOG (zz @VZ (zz @JG (zz @aIN (zz @aHD (zz @aLF (zz @aC6 (zz @aHQ (zz @aFH (zz @aCS (zz @aCI (zz @aLY (zz @aHF (zz @aSW (zz @aSV (zz @aCR (zz @aDR (zz @aJO (zz @aC7 (zz @X0 (zz @aKV (zz @YT (zz @XE (zz @ZN (zz @aFQ (zz @YL (zz @HU (zz @aL2 (zz @aI4 (zz @aJH (zz @aJG (zz @aCN (zz @Y6 (zz @Z1 (zz @N8 (zz @PU (zz @WK (zz @Y8 (zz @XS (zz @aAG (zz @ZA (zz @Q6 (zz @WM (zz @U0 (zz @aLH (zz @aIB (zz @S2 (zz @Y5 (zz @aFM (zz @aID (zz @aJQ (zz @RA (@XU))))))))))))))))))))))))))))))))))))))))))))))))))))))))))))))))))))))))))))))))))))))))))))))))))))))))))))))))))))))))))))))))))))))))))))))))))))))))))))
def QP:=zz @aG0 (zz @aM3 (zz @aK3 (zz @aJK (zz @aFT (zz @aEU (zz @WY (zz @aFE (zz @W4 (zz @XN (zz @aMY (zz @aPE (zz @aSH (zz @aMP (zz @aJ3 (zz @zG (zz @y9 (zz @aDF (zz @aAF (zz @aG9 (zz @aGX (zz @Z8 (zz @aJ1 (zz @aDC (zz @aN4 (zz @aCT (zz @aKB (zz @U9 (zz @aB5 (zz @aJV (zz @aE9 (zz @YC (zz @aN9 (zz @X3 (zz @ZY (zz @XA (zz @aE4 (zz @ZM (zz @I6 (zz @aOF (zz @aJC (zz @aI0 (zz @aLO (zz @aDW (zz @YY (zz @WS (zz @N1 (zz @VG (zz @T0 (zz @aAC (zz @WT (zz @YF (zz @Y7 (zz @WH (zz @RM (zz @VA (zz @aIQ (zz @aK4 (zz @S0 (zz @ZJ (zz @aGE (zz @aN1 (zz @aM1 (zz @SO (@ZF))))))))))))))))))))))))))))))))))))))))))))))))))))))))))))))))
def QD:=zz @aK1 (zz @aE7 (zz @ZR (zz @TJ (zz @aIX (zz @aDB (zz @aJL (zz @YV (zz @YD (zz @ZE (zz @aDX (zz @WU (zz @II (zz @aK9 (zz @aN2 (zz @aL3 (zz @aKL (zz @aDM (zz @X6 (zz @YS (zz @MO (zz @PG (zz @TE (zz @YK (zz @YM (zz @ZB (zz @XF (zz @UL (zz @RT (zz @P1 (zz @aMD (zz @aIF (zz @VO (zz @ZP (zz @aG5 (zz @aHV (zz @aMS (zz @TD (zz @XW (zz @aL9 (zz @aF6 (zz @aOJ (zz @X5 (zz @ZK (zz @aAR (zz @aEN (zz @XI (zz @IM (zz @aKJ (zz @aKQ (zz @aIU (zz @aN7 (zz @aGM (zz @aAN (zz @YH (zz @MW (zz @QG (zz @RL (zz @W1 (zz @WV (zz @XL (zz @XH (zz @VH (zz @UU (zz @UJ (zz @aMI (zz @aL0 (zz @VN (zz @aAJ (zz @aGG (zz @aN8 (zz @aI7 (zz @WA (@XM)))))))))))))))))))))))))))))))))))))))))))))))))))))))))))))))))))))))))
def QS:=zz @aD5 (zz @aCL (zz @aBX (zz @JU (zz @aFY (zz @aML (zz @aD9 (zz @aLE (zz @RV (zz @NX (zz @aMJ (zz @aLA (zz @aBM (zz @JX (zz @YW (zz @aLB (zz @aC9 (zz @aC2 (zz @aD7 (zz @aBR (@RK))))))))))))))))))))
def QR:=zz @QI (zz @S6 (zz @XR (@ZT)))
def QT:=zz @XC (zz @aBF (zz @aRW (zz @aSU (zz @aR3 (zz @aOY (zz @aTE (zz @aP9 (zz @aST (@WF)))))))))
variable {T:FuncId->Option AFunc}
mutual
theorem okV_up {m:Nat}:∀ v,okV 0 v->okV m v
 |.func _ first cap,h=>⟨okVs_up first h.1,okVs_up cap h.2⟩
 |.lptr xs _ _ tk,h=>⟨fun t e=>absurd (h.1 t e) (by omega),okVs_up xs h.2⟩
 |.lit xs _ tk,h=>⟨fun t e=>absurd (h.1 t e) (by omega),okVs_up xs h.2⟩
 |.agg cs,h=>okVs_up cs h
 |.tuple vs,h=>okVs_up vs h
 |.yield _,h|.ptr _ _,h|.ref _ _ _ _,h|.map _,h=>absurd h (by simp[okV])
 |.undef,_|.int _ _,_|.bool _,_|.str _,_|.nilFunc,_|.nilPtr,_|.nilMap,_=>trivial
theorem okVs_up {m:Nat}:∀ vs,okVs 0 vs->okVs m vs
 |[],_=>trivial
 |v::vs,h=>⟨okV_up v h.1,okVs_up vs h.2⟩
end
theorem v6{σ:St}{m d id off len sz:Nat}(h:id<m):cH σ m d (.ref id off len sz)=some (.ref id off len sz):=by
 cases d<;>simp[cH,snap,h,clr]
theorem AU{m:Nat}:∀ {xs ys:List AV},okVs m xs->okVs m ys->okVs m (xs++ys)
 |[],_,_,h=>h
 |x::xs,ys,h,h2=>⟨h.1,AU h.2 h2⟩
end Go.Am
namespace Go.Am
theorem WO(l:List Int):aK l = .lit (l.map (.int .i64)) false none:=by simp only[aK]
theorem Q1(l:List ByteArray):H4 l = .lit (l.map .str) false none:=by simp only[H4]
def QC:=zz @and_self (zz @and_true (zz @true_and (zz @true_or (zz @or_true (zz @WO (zz @Q1 (zz @decide_true (zz @decide_false (zz @Nat.lt_irrefl (zz @Nat.le_refl (zz @List.length_cons.{0} (zz @List.length_nil.{0} (zz @List.cons_append.{0} (zz @List.nil_append.{0} (zz @List.append_nil.{0} (zz @List.getElem?_cons_zero.{0} (zz @List.getElem?_cons_succ.{0} (zz @List.take_zero.{0} (zz @List.drop_zero.{0} (zz @List.take_succ_cons.{0} (zz @List.drop_succ_cons.{0} (zz @List.take_nil.{0} (zz @List.drop_nil.{0} (zz @List.set_cons_zero.{0} (zz @List.set_cons_succ.{0} (zz @List.length_map.{0,0} (zz @Bool.and_true (zz @Bool.true_and (zz @Bool.and_self (zz @Bool.not_true (zz @Bool.not_false (zz @beq_self_eq_true.{0} (zz @Nat.zero_add (zz @implies_true.{0} (zz @implies_true.{1} (zz @forall_const.{0} (zz @forall_const.{1} (zz @ne_eq.{1} (zz @not_false_eq_true (@not_true_eq_false))))))))))))))))))))))))))))))))))))))))
def QA:=zz QP QD
def QB:=zz QR (zz QV (zz QS QC))
def QE:=zz QT (zz QS (zz @WF (zz @List.length_append.{0} (zz @Nat.le_add_right QC))))
class Dat (v:AV):Prop where
 h:gV v
class Dats (vs:List AV):Prop where
 h:kJ vs
theorem dd{vs:List AV}[k:Dats vs]:kJ vs:=k.h
instance:Dats []:=⟨bM⟩
instance {v:AV} {vs:List AV} [a:Dat v] [b:Dats vs]:Dats (v::vs):=⟨aM a.h b.h⟩
instance (k:IntKind) (n:Int):Dat (.int k n):=⟨cE k n⟩
instance (b:Bool):Dat (.bool b):=⟨vV b⟩
instance (s:ByteArray):Dat (.str s):=⟨u0 s⟩
instance (l:List Int):Dat (aK l):=⟨k6 l⟩
instance (l:List (List Int)):Dat (fA l):=⟨J6 l⟩
instance (l:List ByteArray):Dat (H4 l):=⟨O4 l⟩
instance (s:Span):Dat (oR s):=⟨OZ s⟩
instance {cs:List AV} [a:Dats cs]:Dat (.agg cs):=⟨iD a.h⟩
instance {cs:List AV} [a:Dats cs]:Dat (.tuple cs):=⟨IL a.h⟩
instance {cs:List AV} [a:Dats cs]:Dat (.lit cs false none):=⟨EM a.h⟩
instance (k:IntKind) (l:List Int):Dats (l.map (.int k)):=⟨b9 (cE k) l⟩
end Go.Am
namespace Go.Am.Room
def inR(n lo hi:Int):Bool:=decide (lo<=n)&&decide (n<=hi)
theorem kK(n lo hi:Int):aV T 20 [.int .i64 n,.int .i64 lo,.int .i64 hi] (.bool (inR n lo hi)):=by
 refine aS (af:=a20) rfl (by simp[a20]) dd ?_;try simp only[↓QA,QB,seval,a20]
 refine aG (fun h=>?_) fun h=>?_
 all_goals
  try simp only[↓QA,QB,seval,h]
  simp[inR,h]
def pA(s:Span)(lo hi:Int):Int:=if !inR s.lo lo hi||!inR s.hi lo hi then 7 else if s.hi<s.lo then 2 else 0
theorem LO(s:Span)(lo hi:Int):aV T 29 [oR s,.int .i64 lo,.int .i64 hi] (.int .i64 (pA s lo hi)):=by
 refine aS (af:=a29) rfl (by simp[a29]) dd ?_;try simp only[↓QA,QB,seval,a29,bK]
 refine aE (kK _ _ _) rfl dd ?_;try simp only[↓QA,QB,seval]
 cases h1:inR s.lo lo hi
 ·try simp only[↓QA,QB,seval]
  simp[pA,h1]
 ·try simp only[↓QA,QB,seval]
  refine aE (kK _ _ _) rfl dd ?_;try simp only[↓QA,QB,seval]
  cases h2:inR s.hi lo hi
  ·try simp only[↓QA,QB,seval]
   simp[pA,h1,h2]
  ·try simp only[↓QA,QB,seval]
   refine aG (fun h=>?_) fun h=>?_
   all_goals
    try simp only[↓QA,QB,seval,h]
    simp[pA,h1,h2];simpa using h
def mD(s:Span)(n:Int):Span:=⟨min s.lo n,max s.hi n⟩
theorem EE(l:List Int)(n:Int)(hl:l.length<9223372036854775808):aV T 64 [aK l,.int .i64 n] (.bool (l.contains n)):=by
 refine aS (af:=a64) rfl (by simp[a64]) dd ?_;try simp only[↓QA,QB,seval,a64]
 refine cY (S:=Nat) 0 (·<=l.length) (fun k=>l.length-k) (fun k=>[(0,aK l),(1,.int .i64 n),(5,.bool ((l.take k).contains n)),(6,.int .i64 k)]) (fun _=>[]) (Nat.zero_le _) rfl ?_ fun k hk=>?_
 ·try simp only[aD,QE,seval]
  try simp
 ·try simp only[↓QA,QB,seval,aBT]
  refine aG (fun h=>?_) fun h=>?_
  ·have hk1:k<l.length:=by simpa using h
   try simp only[↓QA,QB,seval]
   refine aG (fun h2=>?_) fun h2=>?_
   all_goals
    try simp only[↓QA,QB,seval,h2,hk1]
    refine⟨k+1,by omega,by omega,?_⟩;try simp only[aD,QE,seval,cB hk1 hl]
    simp only[List.take_succ_eq_append_getElem hk1,List.contains_append,h2];simp;try (rw[Bool.eq_iff_iff];simp;exact eq_comm)
  ·have:k=l.length:=by simp at h;omega
   try simp only[↓QA,QB,seval]
   simp[this]
def less:List Int->List Int->Bool
 |_,[]=>false
 |[],_::_=>true
 |a::az,b::bs=>if a=b then less az bs else decide (a<b)
theorem NC{a b:List Int}{k:Nat}(ha:k<a.length)(hb:k<b.length)(h:a[k]=b[k]):less (a.drop (k+1)) (b.drop (k+1))=less (a.drop k) (b.drop k):=by
 rw[List.drop_eq_getElem_cons ha,List.drop_eq_getElem_cons hb];simp[less,h]
theorem LR(a b:List Int)(ha:a.length<9223372036854775808)(hb:b.length<9223372036854775808):aV T 170 [aK a,aK b] (.bool (less a b)):=by
 refine aS (af:=UV) rfl (by simp[UV]) dd ?_
 (repeat (first|simp only[↓QA,QB,seval,UV]|refine rd0 rfl ?_))
 refine cY (S:=Nat) 0 (fun k=>k<=a.length/\k<=b.length/\less (a.drop k) (b.drop k)=less a b) (fun k=>a.length-k) (fun k=>[(0,aK a),(1,aK b),(5,.int .i64 k)]) (fun _=>[]) ⟨Nat.zero_le _,Nat.zero_le _,rfl⟩ rfl ?_ fun k hk=>?_
 ·try simp only[aD,QE,seval]
  try simp
 ·obtain⟨hka,hkb,hl⟩:=hk
  (repeat (first|simp only[↓QA,QB,seval,SH]|refine rd0 rfl ?_))
  by_cases h1:k<a.length
  ·have g1:decide ((k:Int)<a.length)=true:=by simpa using h1
   by_cases h2:k<b.length
   ·have g2:decide ((k:Int)<b.length)=true:=by simpa using h2
    (repeat (first|simp only[↓QA,QB,seval,g1,g2,h1,h2]|refine rd0 rfl ?_))
    refine aG (fun h3=>?_) fun h3=>?_
    ·have h3':a[k]=b[k]:=by simpa using h3
     (repeat (first|simp only[↓QA,QB,seval,h3]|refine rd0 rfl ?_))
     refine⟨k+1,⟨by omega,by omega,(NC h1 h2 h3').trans hl⟩,by omega,?_⟩;try simp only[aD,QE,seval,cB h1 ha]
    ·have h3':a[k]≠b[k]:=by simpa using h3
     have e1:((k:Int)==b.length)=false:=by simp;omega
     have e2:((k:Int)==a.length)=false:=by simp;omega
     (repeat (first|simp only[↓QA,QB,seval,h3,e1,e2,h1,h2]|refine rd0 rfl ?_))
     rw[<-hl,List.drop_eq_getElem_cons h1,List.drop_eq_getElem_cons h2];simp[less,h3']
   ·have hkb':k=b.length:=by omega
    have g2:decide ((k:Int)<b.length)=false:=by simp;omega
    have e1:((k:Int)==b.length)=true:=by simp;omega
    (repeat (first|simp only[↓QA,QB,seval,g1,g2,e1]|refine rd0 rfl ?_))
    rw[<-hl,hkb',List.drop_length];cases List.drop b.length a<;>simp[less]
  ·have g1:decide ((k:Int)<a.length)=false:=by simp;omega
   have e2:((k:Int)==a.length)=true:=by simp;omega
   have hka':k=a.length:=by omega
   (repeat (first|simp only[↓QA,QB,seval,g1]|refine rd0 rfl ?_))
   refine aG (fun h3=>?_) fun h3=>?_
   ·have h3':k=b.length:=by simp at h3;omega
    (repeat (first|simp only[↓QA,QB,seval]|refine rd0 rfl ?_))
    rw[<-hl,h3',List.drop_length];cases List.drop b.length a<;>simp[less]
   ·have h3':k<b.length:=by simp at h3;omega
    (repeat (first|simp only[↓QA,QB,seval,h3,e2]|refine rd0 rfl ?_))
    rw[<-hl,hka',List.drop_length,List.drop_eq_getElem_cons (by omega)];simp[less]
theorem nL:∀ a,less a a=false
 |[]=>rfl
 |a::az=>by simp[less,nL az]
theorem zE:∀ a b,less a b=false->less b a=false->a=b
 |[],[],_,_=>rfl
 |[],b::bs,h,_=>by simp[less] at h
 |a::az,[],_,h=>by simp[less] at h
 |a::az,b::bs,h1,h2=>by
  by_cases hab:a=b
  ·subst hab;simp[less] at h1 h2;rw[zE az bs h1 h2]
  ·simp[less,hab,Ne.symm hab] at h1 h2;omega
theorem iF(a b:List Int)(ha:a.length<9223372036854775808)(hb:b.length<9223372036854775808):aV T 44 [aK a,aK b] (.bool (decide (a=b))):=by
 refine aS (af:=a44) rfl (by simp[a44]) dd ?_;try simp only[↓QA,QB,seval,a44]
 refine aG (fun h=>?_) fun h=>?_
 ·try simp only[↓QA,QB,seval,h]
  refine aE (LR a b ha hb) rfl dd ?_;try simp only[↓QA,QB,seval,h]
  cases h1:less a b
  ·try simp only[↓QA,QB,seval,h]
   refine aE (LR b a hb ha) rfl dd ?_;try simp only[↓QA,QB,seval,h]
   cases h2:less b a
   ·rw[zE a b h1 h2];simp
   ·have:a≠b:=by rintro rfl;rw[nL] at h2;cases h2
    simp[this]
  ·have:a≠b:=by rintro rfl;rw[nL] at h1;cases h1
   try simp only[↓QA,QB,seval,h]
   simp[this]
 ·have:a≠b:=by rintro rfl;simp at h
  try simp only[↓QA,QB,seval,h]
  simp[this]
def dD(a b:List Int):Bool:=if a.length=b.length then less a b else decide (a.length<b.length)
def iI(below:Int):Int->List Int->Bool
 |_,[]=>true
 |last,x::xs=>decide (last<x)&&decide (x<below)&&iI below x xs
theorem CJ(l:List Int)(below:Int)(hl:l.length<9223372036854775808):aV T 27 [aK l,.int .i64 below] (.bool (iI below (-1) l)):=by
 refine aS (af:=a27) rfl (by simp[a27]) dd ?_;try simp only[↓QA,QB,seval,a27]
 refine cY (S:=Nat×Int) (0,-1) (fun s=>s.1<=l.length/\iI below s.2 (l.drop s.1)=iI below (-1) l) (fun s=>l.length-s.1) (fun s=>[(0,aK l),(1,.int .i64 below),(4,.bool false),(5,.int .i64 s.2),(6,.int .i64 s.1)]) (fun _=>[]) ⟨Nat.zero_le _,rfl⟩ rfl ?_ fun s hs=>?_
 ·try simp only[aD,QE,seval]
  try simp
 ·obtain⟨k,last⟩:=s;obtain⟨hk,hl2⟩:=hs;simp only at hk hl2;try simp only[↓QA,QB,seval,aBW]
  refine aG (fun h=>?_) fun h=>?_
  ·have hk1:k<l.length:=by simpa using h
   rw[List.drop_eq_getElem_cons hk1] at hl2;simp only[iI] at hl2;try simp only[↓QA,QB,seval,hk1]
   refine aG (fun h2=>?_) fun h2=>?_
   ·have h2':¬last<l[k]:=by simp at h2;omega
    try simp only[↓QA,QB,seval,h2]
    rw[<-hl2];simp[h2']
   ·have h2':last<l[k]:=by simp at h2;omega
    try simp only[↓QA,QB,seval,h2,hk1]
    refine aG (fun h3=>?_) fun h3=>?_
    ·have h3':¬l[k]<below:=by simp at h3;omega
     try simp only[↓QA,QB,seval,h3]
     rw[<-hl2];simp[h3']
    ·have h3':l[k]<below:=by simp at h3;omega
     try simp only[↓QA,QB,seval,h3,hk1]
     refine⟨(k+1,l[k]),⟨by simp;omega,by rw[<-hl2];simp[h2',h3']⟩,by simp;omega,?_⟩;try simp only[aD,QE,seval,cB hk1 hl]
  ·have hk1:k=l.length:=by simp at h;omega
   try simp only[↓QA,QB,seval]
   rw[<-hl2,hk1,List.drop_length];simp[iI]
theorem DD(a b:ByteArray):(a.toList==b.toList)=decide (a=b):=by
 rw[Bool.eq_iff_iff];simp;constructor
 ·intro h;rw[Go.Lib.toList_data,Go.Lib.toList_data] at h;exact ByteArray.ext (Array.toList_inj.1 h)
 ·rintro rfl;rfl
def iJ(s:ByteArray):List ByteArray->Nat
 |[]=>0
 |x::xs=>if x=s then 0 else iJ s xs+1
def BA(s:ByteArray)(l:List ByteArray):Int:=if iJ s l=l.length then -1 else iJ s l
theorem JD{s:ByteArray}{l:List ByteArray}{k:Nat}(h:k<l.length)(hx:l[k]≠s):k+iJ s (l.drop k)=k+1+iJ s (l.drop (k+1)):=by
 rw[List.drop_eq_getElem_cons h];simp[iJ,hx];omega
theorem UO(l:List ByteArray)(s:ByteArray)(hl:l.length<9223372036854775808):aV T 220 [H4 l,.str s] (.int .i64 (BA s l)):=by
 refine aS (af:=QK) rfl (by simp[QK]) dd ?_;try simp only[↓QA,QB,seval,QK]
 refine cY (S:=Nat) 0 (fun k=>k<=l.length/\k+iJ s (l.drop k)=iJ s l) (fun k=>l.length-k) (fun k=>[(0,H4 l),(1,.str s),(5,.int .i64 k)]) (fun _=>[]) ⟨Nat.zero_le _,by simp⟩ rfl ?_ fun k hk=>?_
 ·try simp only[aD,QE,seval]
  try simp
 ·obtain⟨hkl,ha⟩:=hk;try simp only[↓QA,QB,seval,V9,DD]
  refine aG (fun h=>?_) fun h=>?_
  ·have hk1:k<l.length:=by simpa using h
   have e2:((k:Int)==l.length)=false:=by simp;omega
   try simp only[↓QA,QB,seval,h,hk1,DD]
   refine aG (fun h3=>?_) fun h3=>?_
   ·have h3':l[k]≠s:=by simpa using h3
    try simp only[↓QA,QB,seval,h3]
    refine⟨k+1,⟨by omega,by rw[<-JD hk1 h3'];exact ha⟩,by omega,?_⟩;try simp only[aD,QE,seval,cB hk1 hl]
   ·have h3':l[k]=s:=by simpa using h3
    have h4:iJ s (l.drop k)=0:=by rw[List.drop_eq_getElem_cons hk1];simp[iJ,h3']
    try simp only[↓QA,QB,seval,h3,e2]
    simp only[BA];rw[if_neg (by omega)];simp;omega
  ·have hk1:k=l.length:=by simp at h;omega
   have e2:((k:Int)==l.length)=true:=by simp;omega
   have h4:iJ s (l.drop k)=0:=by rw[hk1,List.drop_length];rfl
   try simp only[↓QA,QB,seval,h,e2]
   simp only[BA];rw[if_pos (by omega)]
def zR(i:Nat)(b:Int):Bool:=inR b 97 122||(decide (0<i)&&(b==46||inR b 48 57))
def fM(s:ByteArray):Nat->Bool
 |0=>true
 |k+1=>fM s k&&zR k (dE s k)
def mR(s:ByteArray):Bool:=inR s.size 1 16&&fM s s.size
theorem L8(s:ByteArray)(hs:s.size<9223372036854775808):aV T 221 [.str s] (.bool (mR s)):=by
 refine aS (af:=S4) rfl (by simp[S4]) dd ?_;try simp only[↓QA,QB,seval,S4]
 (refine aE (kK _ _ _) rfl dd ?_;try simp only[↓QA,QB,seval])
 refine cY (S:=Nat) 0 (fun k=>k<=s.size) (fun k=>s.size-k) (fun k=>[(0,.str s),(3,.bool (inR s.size 1 16&&fM s k)),(4,.int .i64 k)]) (fun _=>[]) (Nat.zero_le _) rfl ?_ fun k hk=>?_
 ·try simp only[aD,QE,seval,fM]
  try simp
 ·try simp only[↓QA,QB,seval,PE]
  refine aG (fun h=>?_) fun h=>?_
  ·have hk1:k<s.size:=by simpa using h
   have hb:=CV s k;have hw:IntKind.i64.wrap (dE s k)=dE s k:=dL ⟨by omega,by omega⟩;have fin:∀ (later:Bool),later=(decide (0<k)&&(dE s k==46||inR (dE s k) 48 57))->(inR s.size 1 16&&fM s k&&(inR (dE s k) 97 122||later))=(inR s.size 1 16&&fM s (k+1)):=by
    rintro _ rfl;simp only[fM,zR,Bool.and_assoc]
   have tail:∀ (later:Bool) (e:Env),later=(decide (0<k)&&(dE s k==46||inR (dE s k) 48 57))->True:=fun _ _ _=>trivial
   try simp only[↓QA,QB,seval,hk1,hw]
   cases h0:decide ((0:Int)<k)
   ·have h0':decide (0<k)=false:=by simpa using h0
    try simp only[↓QA,QB,seval,hk1,hw]
    cases hf:(inR s.size 1 16&&fM s k)
    ·try simp only[↓QA,QB,seval,hk1,hw,hf]
     refine⟨k+1,by omega,by omega,?_⟩;try simp only[aD,QE,seval,cB hk1 hs,<-fin false (by simp[h0']),hf]
     try simp
    ·try simp only[↓QA,QB,seval,hk1,hw,hf]
     (refine aE (kK _ _ _) rfl dd ?_;try simp only[↓QA,QB,seval])
     cases h2:inR (dE s k) 97 122;all_goals
      try simp only[↓QA,QB,seval,hk1,hw,hf]
      refine⟨k+1,by omega,by omega,?_⟩;try simp only[aD,QE,seval,cB hk1 hs,<-fin false (by simp[h0']),hf,h2]
      try simp
   ·have h0':decide (0<k)=true:=by simpa using h0
    try simp only[↓QA,QB,seval,hk1,hw]
    cases h1:(dE s k==46)
    ·try simp only[↓QA,QB,seval,hk1,hw]
     (refine aE (kK _ _ _) rfl dd ?_;try simp only[↓QA,QB,seval])
     cases hf:(inR s.size 1 16&&fM s k)
     ·try simp only[↓QA,QB,seval,hk1,hw,hf]
      refine⟨k+1,by omega,by omega,?_⟩;try simp only[aD,QE,seval,cB hk1 hs,<-fin _ rfl,hf]
      try simp
     ·try simp only[↓QA,QB,seval,hk1,hw,hf]
      (refine aE (kK _ _ _) rfl dd ?_;try simp only[↓QA,QB,seval])
      cases h2:inR (dE s k) 97 122;all_goals
       try simp only[↓QA,QB,seval,hk1,hw,hf]
       refine⟨k+1,by omega,by omega,?_⟩;try simp only[aD,QE,seval,cB hk1 hs,<-fin _ rfl,hf,h2,h0',h1]
       try simp
    ·try simp only[↓QA,QB,seval,hk1,hw]
     cases hf:(inR s.size 1 16&&fM s k)
     ·try simp only[↓QA,QB,seval,hk1,hw,hf]
      refine⟨k+1,by omega,by omega,?_⟩;try simp only[aD,QE,seval,cB hk1 hs,<-fin _ rfl,hf]
      try simp
     ·try simp only[↓QA,QB,seval,hk1,hw,hf]
      (refine aE (kK _ _ _) rfl dd ?_;try simp only[↓QA,QB,seval])
      cases h2:inR (dE s k) 97 122;all_goals
       try simp only[↓QA,QB,seval,hk1,hw,hf]
       refine⟨k+1,by omega,by omega,?_⟩;try simp only[aD,QE,seval,cB hk1 hs,<-fin _ rfl,hf,h2,h0',h1]
       try simp
  ·have hk1:k=s.size:=by simp at h;omega
   try simp only[↓QA,QB,seval]
   simp[mR,hk1]
def fresh(s:ByteArray)(before:List ByteArray):Int:=if mR s=false then 6 else if iJ s before=before.length then 0 else 5
theorem GW(s:ByteArray)(l:List ByteArray)(hs:s.size<9223372036854775808)(hl:l.length<9223372036854775808):aV T 67 [.str s,H4 l] (.int .i64 (fresh s l)):=by
 refine aS (af:=a67) rfl (by simp[a67]) dd ?_;try simp only[↓QA,QB,seval,a67]
 (refine aE (UO l s hl) rfl dd ?_;try simp only[↓QA,QB,seval])
 refine aG (fun h=>?_) fun h=>?_
 ·have hin:iJ s l≠l.length:=by
   intro e;simp[BA,e] at h
  try simp only[↓QA,QB,seval]
  (refine aE (L8 s hs) rfl dd ?_;try simp only[↓QA,QB,seval])
  cases hn:mR s;all_goals
   try simp only[↓QA,QB,seval]
   simp[fresh,hn,hin]
 ·have hin:iJ s l=l.length:=by
   simp only[BA] at h;split at h
   ·assumption
   ·simp at h
  try simp only[↓QA,QB,seval]
  (refine aE (L8 s hs) rfl dd ?_;try simp only[↓QA,QB,seval])
  cases hn:mR s;all_goals
   try simp only[↓QA,QB,seval]
   simp[fresh,hn,hin]
def aR(a:Int):Nat->List Int
 |0=>[]
 |n+1=>a::aR (a+1) n
theorem iK:∀ n a,(aR a n).length=n
 |0,_=>rfl
 |n+1,a=>by simp[aR,iK n]
theorem aX:∀ n a x,x∈aR a n↔a<=x/\x<a+n
 |0,a,x=>by simp[aR]
 |n+1,a,x=>by simp[aR,aX n];omega
def gC(i:Nat)(c:List Int):Int:=if 0<i then (c[i-1]?).getD 0+1 else 0
def KU(below i:Nat)(c:List Int):List (List Int):=(aR (gC i c) ((below:Int)-gC i c).toNat).map fun n=>c++[n]
def cR(below:Nat):Nat->List (List Int)
 |0=>[[]]
 |i+1=>(cR below i).flatMap (KU below i)
theorem kW(below:Nat):∀ i c,c∈cR below i->c.length=i/\∀ x∈c,0<=x/\x<below
 |0,c,h=>by simp[cR] at h;subst h;simp
 |i+1,c,h=>by
  simp only[cR,List.mem_flatMap] at h;obtain⟨d,h1,h2⟩:=h;obtain⟨q1,q2⟩:=kW below i d h1;simp only[KU,List.mem_map,aX] at h2;obtain⟨n,h3,rfl⟩:=h2;refine⟨by simp[q1],fun x hx=>?_⟩;rcases List.mem_append.1 hx with hx|hx
  ·exact q2 x hx
  ·simp at hx;subst hx;have:0<=gC i d:=by
    unfold gC;split
    ·rename_i hi;have hlt:i-1<d.length:=by omega
     have:=q2 d[i-1] (List.getElem_mem hlt);simp[hlt];omega
    ·omega
   omega
theorem EK{α β:Type}(f:α->List β)(b:Nat):∀ l:List α,(∀ x∈l,(f x).length<=b)->(l.flatMap f).length<=l.length*b
 |[],_=>by simp
 |x::l,h=>by
  have h1:=h x (by simp);have h2:=EK f b l fun y hy=>h y (List.mem_cons_of_mem _ hy)
  simp only[List.flatMap_cons,List.length_append,List.length_cons,Nat.add_mul];omega
theorem BK(l:List (List Int)):aF 1 (l.map aK)=true:=n9 1 aK l fun x=>QZ _ _ _
theorem pD(l:List Int):aF 1 (l.map (.int .i64))=true:=n9 1 _ l fun x=>PS _ _
theorem tG:∀ {a b c:List Int},less a b=true->less b c=true->less a c=true
 |a,b,[],h1,h2=>by cases b<;>simp[less] at h2
 |a,[],c::cs,h1,h2=>by cases a<;>simp[less] at h1
 |[],b::bs,c::cs,h1,h2=>by simp[less]
 |a::az,b::bs,c::cs,h1,h2=>by
  simp only[less] at *;by_cases hab:a=b
  ·subst hab;by_cases hac:a=c
   ·subst hac;simp only[if_true] at *;exact tG h1 h2
   ·simp only[hac,if_false,if_true] at *;exact h2
  ·by_cases hbc:b=c
   ·subst hbc;simp only[hab,if_false,if_true,decide_eq_true_eq] at *;exact h1
   ·simp only[hab,hbc,if_false,decide_eq_true_eq] at *;rw[if_neg (by omega)];simp;omega
theorem sK(a:List Int):dD a a=false:=by simp[dD,nL]
theorem qJ{a b c:List Int}(h1:dD a b=true)(h2:dD b c=true):dD a c=true:=by
 simp only[dD] at *;by_cases e1:a.length=b.length<;>by_cases e2:b.length=c.length
 ·simp only[e1,e2,if_true] at *;exact tG h1 h2
 ·simp only[e1,e2,if_true,if_false,decide_eq_true_eq] at *;exact h2
 ·rw[if_neg e1] at h1;rw[if_neg (by omega)];simp at h1 ⊢;omega
 ·simp only[e1,e2,if_false,decide_eq_true_eq] at *;rw[if_neg (by omega)];simp;omega
theorem wO{a b:List Int}(h1:dD a b=false)(h2:dD b a=false):a=b:=by
 simp only[dD] at *;by_cases e1:a.length=b.length
 ·simp only[e1,if_true] at *;exact zE a b h1 h2
 ·rw[if_neg e1] at h1;rw[if_neg (Ne.symm e1)] at h2;simp at h1 h2;omega
theorem EC{a b c:List Int}(h1:dD b a=false)(h2:dD c b=false):dD c a=false:=by
 rw[Bool.eq_false_iff];intro h;by_cases hab:dD a b=true
 ·rw[qJ h hab] at h2;cases h2
 ·have:=wO (by simpa using hab) h1;subst this;rw[h] at h2;cases h2
def lst(n s:Nat):List Int:=(aR 0 n).filter fun i=>decide (s/2^i.toNat%2=1)
theorem aCG:∀ n:Fin 7,∀ s:Fin 64,s.val<2^n.val->lst n s∈cR n (lst n s).length:=by decide +kernel
theorem U6:∀ n m:Fin 7,∀ c∈cR n m,∃ s:Fin 64,s.val<2^n.val/\lst n s=c:=by decide +kernel
theorem yY:∀ n m:Fin 7,(cR n m).Pairwise fun a b=>less a b=true:=by decide +kernel
theorem EZ:∀ n:Fin 7,(cR n n).length=1:=by decide +kernel
theorem uG(n s:Nat):(lst n s).length<=n:=by
 have:=List.length_filter_le (fun i:Int=>decide (s/2^i.toNat%2=1)) (aR 0 n);rw[iK] at this;exact this
def dA(f:List Int->Bool)(n:Nat):Nat->Nat->Option (List Int)
 |0,_=>none
 |k+1,m=>match (cR n m).find? f with
  |some l=>some l
  |none=>dA f n k (m+1)
theorem DC:∀ n:Fin 7,∀ c∈cR n n,∀ j:Fin 7,j.val<n.val->c.contains ((j.val:Nat):Int)=true:=by decide +kernel
def mN(f:List Int->Bool)(o:Option (List Int))(l:List Int):Option (List Int):=match o with
 |none=>if f l=true then some l else none
 |some b=>if dD b l=true then some b else if f l=true then some l else some b
def kQ(f:List Int->Bool)(n:Nat):Nat->Nat->Option (List Int)->Option (List Int)
 |0,_,o=>o
 |k+1,s,o=>kQ f n k (s+1) (mN f o (lst n s))
theorem vA(f:List Int->Bool)(n:Nat):∀ k s o,(∀ w,o=some w->f w=true/\∃ t,t<s/\w=lst n t/\∀ t',t'<s->f (lst n t')=true->dD (lst n t') w=false)->(o=none->∀ t,t<s->f (lst n t)=false) ->
  (∀ w,kQ f n k s o=some w->f w=true/\∃ t,t<s+k/\w=lst n t/\∀ t',t'<s+k->f (lst n t')=true->dD (lst n t') w=false)/\(kQ f n k s o=none->∀ t,t<s+k->f (lst n t)=false)
 |0,s,o,h1,h2=>⟨h1,h2⟩
 |k+1,s,o,h1,h2=>by
  have ih:=vA f n k (s+1) (mN f o (lst n s));rw[show s+1+k=s+(k+1) by omega] at ih;simp only[kQ];have last:∀ (w:List Int) t',t'<s+1->(∀ t'',t''<s->f (lst n t'')=true->dD (lst n t'') w=false)->(f (lst n s)=true->dD (lst n s) w=false)->f (lst n t')=true->dD (lst n t') w=false:=by
   intro w t' ht h3 h4 hs;by_cases he:t'=s
   ·subst he;exact h4 hs
   ·exact h3 t' (by omega) hs
  refine ih (fun w hw=>?_) fun hn t ht=>?_
  ·cases o with
   |none =>
    simp only[mN] at hw;split at hw
    ·rename_i hs;simp only[Option.some.injEq] at hw;subst hw;refine⟨hs,s,by omega,rfl,fun t' ht hst=>last _ t' ht (fun t'' h4 h5=>by rw[h2 rfl t'' h4] at h5;cases h5) (fun _=>sK _) hst⟩
    ·cases hw
   |some b =>
    obtain⟨q1,t,q2,q3,q4⟩:=h1 b rfl;simp only[mN] at hw;split at hw
    ·rename_i hf;simp only[Option.some.injEq] at hw;subst hw;refine⟨q1,t,by omega,q3,fun t' ht hst=>last _ t' ht q4 (fun _=>?_) hst⟩;rw[Bool.eq_false_iff];intro h5;have:=qJ hf h5;rw[sK] at this;cases this
    ·rename_i hf;split at hw
     ·rename_i hs;simp only[Option.some.injEq] at hw;subst hw;refine⟨hs,s,by omega,rfl,fun t' ht hst=>last _ t' ht (fun t'' h4 h5=>?_) (fun _=>sK _) hst⟩;exact EC (by simpa using hf) (q4 t'' h4 h5)
     ·rename_i hs;simp only[Option.some.injEq] at hw;subst hw;exact⟨q1,t,by omega,q3,fun t' ht hst=>last _ t' ht q4 (fun h5=>absurd h5 hs) hst⟩
  ·cases o with
   |none =>
    simp only[mN] at hn;split at hn
    ·cases hn
    ·rename_i hs;by_cases he:t=s
     ·subst he;simpa using hs
     ·exact h2 rfl t (by omega)
   |some b =>
    simp only[mN] at hn;split at hn
    ·cases hn
    ·split at hn<;>cases hn
theorem tI:∀ {n i:Nat} {c:List Int},c∈cR n i->i<=n:=by
 intro n i;cases i with
 |zero=>intros;omega
 |succ i =>
  intro c hc;simp only[cR,List.mem_flatMap,KU,List.mem_map,aX] at hc;obtain⟨d,hd,x,hx,rfl⟩:=hc;have key:∀ j (d:List Int),d∈cR n j->(j:Int)<=gC j d:=by
   intro j
   induction j with
   |zero=>intro d _;simp[gC]
   |succ j ih =>
    intro d hd;simp only[cR,List.mem_flatMap,KU,List.mem_map,aX] at hd;obtain⟨d',hd',y,hy,rfl⟩:=hd;have h5:=ih d' hd';have h6:=(kW n j d' hd').1;simp only[gC,Nat.succ_pos,if_true,Nat.add_sub_cancel];rw[List.getElem?_append_right (by omega),h6,Nat.sub_self];simp only[List.getElem?_cons_zero,Option.getD_some];omega
  have:=key i d hd;omega
theorem qT(f:List Int->Bool)(n:Nat)(hN:n<=6):∀ k m,(∀ m',m'<m->∀ c∈cR n m',f c=false) ->
  (∀ l,dA f n k m=some l->l∈cR n l.length/\f l=true/\∀ m',∀ c∈cR n m',f c=true->dD c l=false)/\(dA f n k m=none->∀ m',m'<m+k->∀ c∈cR n m',f c=false)
 |0,m,hlow=>⟨fun l h=>by simp[dA] at h,fun _ m' h c hc=>hlow m' (by omega) c hc⟩
 |k+1,m,hlow=>by
  simp only[dA];cases hf:(cR n m).find? f with
  |none =>
   simp only;have ih:=qT f n hN k (m+1) fun m' hm' c hc=>by
    by_cases he:m'=m
    ·subst he;rw[List.find?_eq_none] at hf;simpa using hf c hc
    ·exact hlow m' (by omega) c hc
   exact⟨ih.1,fun h m' hm'=>ih.2 h m' (by omega)⟩
  |some l =>
   simp only;refine⟨fun l' h=>?_,fun h=>by cases h⟩;cases h;have hmem:=List.mem_of_find?_eq_some hf;have hs:=List.find?_some hf;have hlen:=(kW _ _ _ hmem).1;rw[hlen];refine⟨hmem,hs,fun m' c hc hsc=>?_⟩;have hcl:=(kW _ _ _ hc).1;by_cases h1:m'<m
   ·rw[hlow m' h1 c hc] at hsc;cases hsc
   ·by_cases he:m'=m
    ·subst he;rw[Bool.eq_false_iff];intro hlt;simp only[dD,hcl,hlen,if_true] at hlt;obtain⟨pre,post,e1,e2⟩:=(List.find?_eq_some_iff_append.1 hf).2;have hmn:=tI hmem;have hpw:=yY ⟨n,by omega⟩ ⟨m',by omega⟩;simp only at hpw;rw[e1] at hc hpw;rcases List.mem_append.1 hc with hc|hc
     ·have:=e2 c hc;rw[hsc] at this;cases this
     ·rcases List.mem_cons.1 hc with rfl|hc
      ·rw[nL] at hlt;cases hlt
      ·have:=(List.pairwise_append.1 hpw).2.1;have:=(List.pairwise_cons.1 this).1 c hc;have h3:=tG hlt this;rw[nL] at h3;cases h3
    ·simp only[dD];rw[if_neg (by omega)];simp;omega
theorem aDL(f:List Int->Bool)(n:Nat)(hN:n<=6):kQ f n (2^n) 0 none=dA f n (n+1) 0:=by
 have hp:2^n<=2^6:=Nat.pow_le_pow_right (by omega) hN;obtain⟨w1,w2⟩:=qT f n hN (n+1) 0 (fun m' h=>by omega);obtain⟨s1,s2⟩:=vA f n (2^n) 0 none (fun w h=>by cases h) (fun _ t h=>by omega);rw[Nat.zero_add] at s1 s2;cases hf:kQ f n (2^n) 0 none with
 |none =>
  cases hg:dA f n (n+1) 0 with
  |none=>rfl
  |some l =>
   obtain⟨a,b,c⟩:=w1 l hg;have hle:=tI a;obtain⟨t,ht,hlt⟩:=U6 ⟨n,by omega⟩ ⟨l.length,by omega⟩ l a;have:=s2 hf t.val ht;rw[show lst n t.val=l from hlt,b] at this;cases this
 |some w =>
  obtain⟨q1,t',q2,q3,q4⟩:=s1 w hf;have hin:=aCG ⟨n,by omega⟩ ⟨t',by omega⟩ q2;simp only at hin;rw[<-q3] at hin;have hle:w.length<=n:=by rw[q3];exact uG _ _
  cases hg:dA f n (n+1) 0 with
  |none =>
   have:=w2 hg w.length (by omega) w hin;rw[q1] at this;cases this
  |some l =>
   obtain⟨a,b,c⟩:=w1 l hg;have hll:=tI a;obtain⟨t,ht,hlt⟩:=U6 ⟨n,by omega⟩ ⟨l.length,by omega⟩ l a;have a1:=q4 t.val ht (by rw[show lst n t.val=l from hlt];exact b);rw[show lst n t.val=l from hlt] at a1;have a2:=c w.length w hin q1;rw[wO a1 a2]
open Go
variable {P:Program}
def lF(P:Program)(t:TypeId)(ts:List TypeId):Prop:=∃ fs,P.underlying t=some (.struct fs)/\fs.toList.map Field.type=ts
theorem A7{n:Nat}{t:TypeId}{ts:List TypeId}{cs:List AV}(hu:lF P t ts)(h:Typ P (n+1) t cs):mkV P t cs = .agg cs/\KX P n ts cs:=by
 obtain⟨fs,h1,h2⟩:=hu;have:=H5 h1 h;rw[h2] at this;exact⟨HZ h1,this⟩
theorem VT{t:TypeId}{a:AV}{d:TypeDesc}(hu:P.underlying t=some d)(hd:∀ fs,d≠.struct fs:=by intro fs h;cases h)(hd2:∀ k e,d≠.array k e:=by intro k e h;cases h):mkV P t [a]=a:=ZL (by rw[hu];intro fs e;cases e;exact hd _ rfl) (by rw[hu];intro k e h;cases h;exact hd2 _ _ rfl)
theorem XZ{n:Nat}{i t:TypeId}{cs:List AV}(hi:P.underlying i=some (.int .i64))(hs:lF P t [i,i])(h:Typ P (n+2) t cs):∃ s:Span,cs=[.int .i64 s.lo,.int .i64 s.hi]:=by
 obtain⟨_,a,b,rfl,h1,c,d,rfl,h2,rfl⟩:=A7 hs h;obtain⟨x,rfl,_⟩:=kL hi h1;obtain⟨y,rfl,_⟩:=kL hi h2;exact⟨⟨x,y⟩,rfl⟩
theorem aBQ{n:Nat}{t:TypeId}{cs:List AV}(hi:P.underlying t=some (.int .u8))(h:Typ P (n+1) t cs):∃ x:Int,mkV P t cs = .int .u8 x/\(0<=x/\x<256):=by
 obtain⟨x,rfl,hw⟩:=kL hi h;exact⟨x,VT hi,aHT hw⟩
theorem aFZ{n:Nat}{t i:TypeId}{cs:List AV}(hi:P.underlying i=some (.int .u8))(hs:P.underlying t=some (.slice i))(h:Typ P (n+2) t cs):∃ l:List Int,mkV P t cs = .lit (l.map (.int .u8)) false none/\(∀ x∈l,0<=x/\x<256)/\l.length<9223372036854775808:=by
 obtain⟨l,rfl,⟨h1,_⟩,h2⟩:=rO (f:=fun x:Int=>AV.int .u8 x) hs h fun y hy=>aBQ hi hy
 exact⟨l,VT hs,h2,h1⟩
end Go.Am.Room
namespace Go.Am.Room
def bC{α:Type}(f:Nat->α->Int):List α->Nat->Option (Nat×Int)
 |[],_=>none
 |x::xs,i=>if f i x=0 then bC f xs (i+1) else some (i,f i x)
theorem fY{α:Type}{f:Nat->α->Int}{l:List α}{k:Nat}(h:k<l.length):bC f (l.drop k) k=if f k l[k]=0 then bC f (l.drop (k+1)) (k+1) else some (k,f k l[k]):=by
 rw[List.drop_eq_getElem_cons h];rfl
theorem gT{α:Type}{f:Nat->α->Int}{l:List α}{k:Nat}(h:k=l.length):bC f (l.drop k) k=none:=by
 rw[h,List.drop_length];rfl
def vE:List Int->Span
 |[]=>⟨0,0⟩
 |x::xs=>xs.foldl mD ⟨x,x⟩
def iT(yes all:Nat):Int:=if yes=all then 1 else if yes=0 then 2 else 0
theorem eI{n lo hi:Int}:inR n lo hi=true↔lo<=n/\n<=hi:=by simp[inR]
theorem MJ{s:Span}{lo hi:Int}(h:pA s lo hi=0):lo<=s.lo/\s.lo<=s.hi/\s.hi<=hi:=by
 unfold pA at h;split at h
 ·omega
 ·rename_i h1;split at h
  ·omega
  ·simp[inR] at h1;omega
theorem kY{α:Type}{f:Nat->α->Int}:∀ {l:List α} {i:Nat},bC f l i=none->∀ k (h:k<l.length),f (i+k) l[k]=0
 |[],_,_,k,h=>by simp at h
 |x::xs,i,h,k,hk=>by
  simp only[bC] at h;split at h
  ·rename_i h0;cases k with
   |zero=>exact h0
   |succ k =>
    have:=kY h k (by simpa using hk);simpa[Nat.add_assoc,Nat.add_comm 1 k] using this
  ·cases h
theorem kD{α:Type}{f:Nat->α->Int}:∀ {l:List α} {i j:Nat} {e:Int},bC f l i=some (j,e)->e≠0
 |[],_,_,_,h=>by cases h
 |x::xs,i,j,e,h=>by
  simp only[bC] at h;split at h
  ·exact kD h
  ·rename_i hn;simp at h;rw[<-h.2];exact hn
theorem gW:∀ (n:Nat) (a:Int),aR a (n+1)=aR a n++[a+n]
 |0,a=>by simp[aR]
 |n+1,a=>by
  rw[aR,gW n (a+1)];simp only[aR,List.cons_append]
  congr 3
  omega
theorem CW{n:Nat}{bl l:List Int}(h:∀ x:Int,0<=x->x<n->(x∈bl↔x∈l)):(aR 0 n).filter (fun h=>bl.contains h)=(aR 0 n).filter (fun h=>l.contains h):=by
 refine List.filter_congr fun x hx=>?_
 have:=(aX _ _ _).1 hx;have:=h x (by omega) (by omega);rw[Bool.eq_iff_iff];simpa using this
end Go.Am.Room
namespace Go.Am.Room.Do
structure Kp where
 name:ByteArray
 frm:Int
structure Door where
 hour:Int
 sure:Bool
structure Look where
 lot:Int
 hour:Int
 turned:Bool
structure Voy where
 hours:Int
 delay:Span
 keepers:List Kp
 doors:List Door
 lots:Int
 looks:List Look
def fH(k:Kp):AV:=.agg [.str k.name,.int .i64 k.frm]
theorem dB(k:Kp):fH k = .agg [.str k.name,.int .i64 k.frm]:=by simp only[fH]
theorem sF(k:Kp):gV (fH k):=iD (aM (u0 _) (aM (cE _ _) bM))
instance (k:Kp):Dat (fH k):=⟨sF k⟩
def eF(d:Door):AV:=.agg [.int .i64 d.hour,.bool d.sure]
theorem aY(d:Door):eF d = .agg [.int .i64 d.hour,.bool d.sure]:=by simp only[eF]
theorem rY(d:Door):gV (eF d):=iD (aM (cE _ _) (aM (vV _) bM))
instance (d:Door):Dat (eF d):=⟨rY d⟩
def bY(x:Look):AV:=.agg [.int .i64 x.lot,.int .i64 x.hour,.bool x.turned]
theorem bA(x:Look):bY x = .agg [.int .i64 x.lot,.int .i64 x.hour,.bool x.turned]:=by simp only[bY]
theorem nK(x:Look):gV (bY x):=iD (aM (cE _ _) (aM (cE _ _) (aM (vV _) bM)))
instance (x:Look):Dat (bY x):=⟨nK x⟩
instance (l:List Kp):Dats (l.map fH):=⟨b9 sF l⟩
instance (l:List Door):Dats (l.map eF):=⟨b9 rY l⟩
instance (l:List Look):Dats (l.map bY):=⟨b9 nK l⟩
def aB(v:Voy):List AV:=[.int .i64 v.hours,.int .i64 v.delay.lo,.int .i64 v.delay.hi,.lit (v.keepers.map fH) false none,.lit (v.doors.map eF) false none,.int .i64 v.lots,.lit (v.looks.map bY) false none]
theorem aP(v:Voy):aB v=[.int .i64 v.hours,.int .i64 v.delay.lo,.int .i64 v.delay.hi,.lit (v.keepers.map fH) false none,.lit (v.doors.map eF) false none,.int .i64 v.lots,.lit (v.looks.map bY) false none]:=by simp only[aB]
def encVoy(v:Voy):AV:=.agg (aB v)
theorem cN(v:Voy):encVoy v = .agg (aB v):=by simp only[encVoy]
theorem zM(v:Voy):gV (encVoy v):=iD (aM (cE _ _) (aM (cE _ _) (aM (cE _ _) (aM (eY sF _) (aM (eY rY _) (aM (cE _ _) (aM (eY nK _) bM)))))))
instance (v:Voy):Dat (encVoy v):=⟨zM v⟩
theorem dO(σ:St)(m d:Nat)(l:List Kp):bW σ m d (l.map fH)=some (l.map fH):=iE (b9 sF l) σ m d
theorem bN(σ:St)(m d:Nat)(l:List Door):bW σ m d (l.map eF)=some (l.map eF):=iE (b9 rY l) σ m d
theorem bL(σ:St)(m d:Nat)(l:List Look):bW σ m d (l.map bY)=some (l.map bY):=iE (b9 nK l) σ m d
structure Fits (v:Voy):Prop where
 keepers:v.keepers.length<9223372036854775808
 doors:v.doors.length<9223372036854775808
 looks:v.looks.length<9223372036854775808
 names:∀ k∈v.keepers,k.name.size<9223372036854775808
def dV(v:Voy)(i:Nat):Int:=match v.keepers[i]? with|some k=>k.frm|none=>0
def pF(v:Voy)(i:Nat):Int:=if inR (dV v i) 0 v.hours=false then 7 else if (i=0/\dV v i≠0)\/(0<i/\dV v i<=dV v (i-1)) then 2 else 0
def nO(v:Voy)(i:Nat)(k:Kp):Int:=if fresh k.name ((v.keepers.take i).map Kp.name)=0 then pF v i else fresh k.name ((v.keepers.take i).map Kp.name)
def qM(v:Voy)(_:Nat)(d:Door):Int:=if inR d.hour 0 v.hours then 0 else 7
def pP(v:Voy)(_:Nat)(x:Look):Int:=if inR x.lot 0 (v.lots-1)=false then 4 else if inR x.hour 0 v.hours then 0 else 7
def n7(v:Voy):Int×Int×Int:=if 5<v.looks.length then (4,0,3) else match bC (pP v) v.looks 0 with|some (i,e)=>(4,i,e)|none=>(0,0,0)
def m7(v:Voy):Int×Int×Int:=if 4<v.doors.length then (3,0,3) else match bC (qM v) v.doors 0 with|some (i,e)=>(3,i,e)|none=>n7 v
def lN(v:Voy):Int×Int×Int:=if inR v.keepers.length 1 5=false then (2,0,3) else match bC (nO v) v.keepers 0 with|some (i,e)=>(2,i,e)|none=>m7 v
def dG(v:Voy):Int×Int×Int:=if inR v.hours 1 24=false\/pA v.delay 0 8=7\/inR v.lots 1 3=false then (1,0,7) else if pA v.delay 0 8=0 then lN v else (1,0,pA v.delay 0 8)
def sL(d:Door)(n:Nat)(l:List Int):List (List Int):=(if d.sure then [] else [l])++[l++[(n:Int)]]
def cM(v:Voy):Nat->List (List Int)
 |0=>[[]]
 |n+1=>match v.doors[n]? with|some d=>(cM v n).flatMap (sL d n)|none=>cM v n
def dM(v:Voy):List (List Int):=cM v v.doors.length
structure Tn where
 hour:Int
 door:Int
 deriving DecidableEq
def fO(t:Tn):AV:=.agg [.int .i64 t.hour,.int .i64 t.door]
theorem uV(t:Tn):fO t = .agg [.int .i64 t.hour,.int .i64 t.door]:=by simp only[fO]
theorem yK(t:Tn):gV (fO t):=iD (aM (cE _ _) (aM (cE _ _) bM))
instance (t:Tn):Dat (fO t):=⟨yK t⟩
instance (l:List Tn):Dats (l.map fO):=⟨b9 yK l⟩
theorem yE(σ:St)(m d:Nat)(l:List Tn):bW σ m d (l.map fO)=some (l.map fO):=iE (b9 yK l) σ m d
def tns(l:List Tn):AV:=.lit (l.map fO) false none
theorem lL(l:List Tn):tns l = .lit (l.map fO) false none:=by simp only[tns]
theorem nV(l:List Tn):gV (tns l):=eY yK l
instance (l:List Tn):Dat (tns l):=⟨nV l⟩
instance (l:List (List Tn)):Dats (l.map tns):=⟨b9 nV l⟩
theorem uI(σ:St)(m d:Nat)(l:List (List Tn)):bW σ m d (l.map tns)=some (l.map tns):=iE (b9 nV l) σ m d
def aT(v:Voy)(d:Int):Int:=match v.doors[d.toNat]? with|some x=>x.hour|none=>0
def mY(v:Voy)(d:Int):List Tn:=(aR v.delay.lo (v.delay.hi+1-v.delay.lo).toNat).filterMap fun n=>if inR (aT v d+n) 0 v.hours then some ⟨aT v d+n,d⟩ else none
def hI(v:Voy)(op:List Int):List Tn:=⟨-1,-1⟩::op.flatMap (mY v)
def v8(x:Look)(at_:Int):Bool:=x.turned==(decide (at_≠-1)&&decide (at_<=x.hour))
def gY(lot:Int)(but:List Int)(t:Tn)(k:Nat)(x:Look):Bool:=!decide (x.lot=lot)||but.contains (k:Int)||v8 x t.hour
def eT(v:Voy)(lot:Int)(but:List Int)(t:Tn):Bool:=(List.range v.looks.length).all fun k=>match v.looks[k]? with|some x=>gY lot but t k x|none=>true
def bZ(v:Voy)(lot:Int)(op but:List Int):List Tn:=(hI v op).filter (eT v lot but)
structure Truth where
 op:List Int
 turns:List (List Tn)
def nX(v:Voy)(but op:List Int):Option Truth :=
 let l:=(List.range v.lots.toNat).map fun (n:Nat)=>bZ v (n:Int) op but
 if l.all (fun x=>!x.isEmpty) then some ⟨op,l⟩ else none
def aI(v:Voy)(but:List Int):List Truth:=(dM v).filterMap (nX v but)
def eC(t:Truth):AV:=.agg [aK t.op,.lit (t.turns.map tns) false none]
theorem qZ(t:Truth):eC t = .agg [aK t.op,.lit (t.turns.map tns) false none]:=by simp only[eC]
theorem n8(t:Truth):gV (eC t):=iD (aM (k6 _) (aM (eY nV _) bM))
instance (t:Truth):Dat (eC t):=⟨n8 t⟩
def nG(l:List Truth):AV:=.lit (l.map eC) false none
theorem E7(l:List Truth):nG l = .lit (l.map eC) false none:=by simp only[nG]
theorem FR(l:List Truth):gV (nG l):=eY n8 l
instance (l:List Truth):Dat (nG l):=⟨FR l⟩
instance (l:List Truth):Dats (l.map eC):=⟨b9 n8 l⟩
theorem WI(σ:St)(m d:Nat)(l:List Truth):bW σ m d (l.map eC)=some (l.map eC):=iE (b9 n8 l) σ m d
def iB(v:Voy)(but:List Int):Bool:=!(aI v but).isEmpty
def mZ(v:Voy)(n:Int):Int:=if (dG v).2.2=0 then (if inR n 0 (v.lots-1) then 0 else 4) else (dG v).2.2
def fV(v:Voy)(e:Int):Int:=if e=0 then (if (aI v []).isEmpty then 8 else 0) else e
def gG(v:Voy):Int:=fV v (dG v).2.2
def cW(v:Voy)(n:Int):Int:=fV v (mZ v n)
def cP(l:List Truth)(n:Nat):List Tn:=l.flatMap fun t=>(t.turns[n]?).getD []
def gU(l:List Truth)(n:Nat):List Int:=((cP l n).map Tn.hour).filter fun h=>decide (h≠-1)
def jY(v:Voy)(n:Int):Span×Int×Int :=
 if cW v n=0 then (vE (gU (aI v []) n.toNat),iT (gU (aI v []) n.toNat).length (cP (aI v []) n.toNat).length,0) else (⟨0,0⟩,0,cW v n)
def D7(l:List Truth)(n:Nat)(d:Int):Bool:=(cP l n).any fun t=>decide (t.door=d)
def eA(v:Voy)(l:List Truth)(n:Nat):List Int:=(aR 0 v.doors.length).filter (D7 l n)
def lD(v:Voy)(n:Int):List Int×Int:=if cW v n=0 then (eA v (aI v []) n.toNat,0) else ([],cW v n)
def dH(v:Voy)(at_:Int):Nat->Int
 |0=>0
 |k+1=>if dV v k<=at_ then k else dH v at_ k
def eS(v:Voy)(at_:Int):Int:=dH v at_ v.keepers.length
def jU(v:Voy)(ds:List Int):List Int:=(aR 0 v.keepers.length).filter fun k=>ds.any fun d=>decide (eS v (aT v d)=k)
def jX(v:Voy)(n:Int):List Int×Int:=if cW v n=0 then (jU v (eA v (aI v []) n.toNat),0) else ([],cW v n)
def IG(l:List Truth)(d:Int):Bool:=l.all fun t=>t.op.contains d
def P6(l:List Truth)(d:Int):Bool:=l.any fun t=>t.op.contains d
def lU(v:Voy):List Int×List Int×Int :=
 if gG v=0 then ((aR 0 v.doors.length).filter (IG (aI v [])),(aR 0 v.doors.length).filter (P6 (aI v [])),0) else ([],[],gG v)
def m8(v:Voy)(d:Int):Bool:=match v.doors[d.toNat]? with|some x=>x.sure|none=>false
def wR(v:Voy)(ds:List Int):List Int:=ds.filter fun d=>!m8 v d
def aAL(a b:List Int):List Int:=if dD b a then b else a
def yD(v:Voy):List Truth->List Int
 |[]=>[]
 |t::l=>(l.map fun u=>wR v u.op).foldl aAL (wR v t.op)
def nM(v:Voy):List Int×Int:=if gG v=0 then (yD v (aI v []),0) else ([],gG v)
def R8(l:List Truth)(n:Nat)(at_:Int):Bool:=(cP l n).any fun t=>decide (t.hour=at_)
def sV(v:Voy)(l:List Truth)(n:Nat):List Int:=(aR (-1) (v.hours+2).toNat).filter (R8 l n)
def eU(hs:List Int)(at_:Int):Int:=max ((hs.filter fun h=>decide (h≠-1)&&decide (h<=at_)).length:Int) ((hs.length:Int)-((hs.filter fun h=>decide (h≠-1)&&decide (h<=at_)).length:Int))
def cJ(hs:List Int):Nat->Int
 |0=>0
 |k+1=>if eU hs ((k:Int)+1)<eU hs (cJ hs k) then (k:Int)+1 else cJ hs k
def sD(v:Voy)(hs:List Int):Int×Int×Int:=if hs.length=1 then (0,0,9) else (cJ hs v.hours.toNat,eU hs (cJ hs v.hours.toNat),0)
def nY(v:Voy)(n:Int):Int×Int×Int:=if cW v n=0 then sD v (sV v (aI v []) n.toNat) else (0,0,cW v n)
def AN(v:Voy):List Int:=(dA (iB v) v.looks.length v.looks.length 0).getD (((cR v.looks.length v.looks.length)[0]?).getD [])
def yH(v:Voy):List Int×Int:=if (dG v).2.2=0 then (AN v,0) else ([],(dG v).2.2)
def TC:ByteArray:=⟨#[116,114,97,109]⟩
def SA:ByteArray:=⟨#[115,104,105,112]⟩
def LL:ByteArray:=⟨#[116,114,97,105,110]⟩
def exV(l:List Look):Voy:=⟨12,⟨2,4⟩,[⟨TC,0⟩,⟨SA,4⟩,⟨LL,9⟩],[⟨2,true⟩,⟨5,false⟩,⟨9,true⟩],1,l⟩
def exL:Voy:=exV [⟨0,6,false⟩,⟨0,10,true⟩]
def exW:Voy:=exV [⟨0,6,false⟩,⟨0,10,true⟩,⟨0,3,true⟩]
def exN:Voy:=exV [⟨0,12,false⟩]
theorem x1:jY (exV []) 0=(⟨4,12⟩,0,0):=by decide +kernel
theorem x2:jY exL 0=(⟨7,9⟩,1,0):=by decide +kernel
theorem x3:lD exL 0=([1],0):=by decide +kernel
theorem x4:jX exL 0=([1],0):=by decide +kernel
theorem x5:lU (exV [])=([0,2],[0,1,2],0):=by decide +kernel
theorem x6:nM exL=([1],0):=by decide +kernel
theorem x7:nY (exV []) 0=(7,5,0):=by decide +kernel
theorem x8:yH exW=([2],0):=by decide +kernel
theorem x9:lD exW 0=([],8):=by decide +kernel
theorem x10:nY exN 0=(0,0,9):=by decide +kernel
theorem x11:jY exN 0=(⟨0,0⟩,2,0):=by decide +kernel
theorem y3:lU exL=([0,1,2],[0,1,2],0):=by decide +kernel
end Go.Am.Room.Do
namespace Go.Am.Room
def sN(sz:Nat)(σ:St)(xs:List AV):AV×St:=if xs.length=0 then (.lit [] true none,σ) else (.lit xs false (some σ.length),σ++[.tok sz xs.length true])
theorem KW{sz b:Nat}{σ:St}{xs:List AV}{f:Bool}{tk:Option Nat}(h:G6 sz b [] xs):bT sz b σ (.lit [] true none) (.lit xs f tk)=some ((sN sz σ xs).1,(sN sz σ xs).2):=by
 by_cases h0:xs.length=0
 ·have:xs=[]:=List.length_eq_zero_iff.1 h0;subst this;rw[YP];simp[sN]
 ·rw[FE h h0];simp[sN,h0]
theorem CI{sz b:Nat}{σ:St}{xs ys:List AV}{f:Bool}{tk:Option Nat}(h:G6 sz b xs ys)(hy:ys.length≠0):bT sz b (sN sz σ xs).2 (sN sz σ xs).1 (.lit ys f tk)=some (.lit (xs++ys) false (some σ.length),σ++[.tok sz (xs.length+ys.length) true]):=by
 by_cases h0:xs.length=0
 ·have:xs=[]:=List.length_eq_zero_iff.1 h0;subst this;simp only[sN,List.length_nil,if_true];rw[FE h hy];simp
 ·simp only[sN,h0,if_false];rw[tU (ex:=true) h hy (by simp)];simp
theorem sE{σ:St}{sz b:Nat}{xs ys:List AV}{ex f:Bool}{t:Nat}{tk:Option Nat}(h:G6 sz b xs ys)(h0:ys.length≠0)(n:Nat)(hn:n=xs.length)(ht:σ[t]? = some (.tok sz n ex)):
  bT sz b σ (.lit xs false (some t)) (.lit ys f tk)=some (.lit (xs++ys) false (some t),σ.set t (.tok sz (n+ys.length) true)):=by
 subst hn;exact tU h h0 ht
theorem oY{xs l:List AV}{f:Bool}{t:Option Nat}(h:aF 1 xs=true):aF 1 (xs++[.lit l f t])=true:=by
 unfold aF at *;rw[List.all_append,h];rfl
end Go.Am.Room
set_option maxRecDepth 8000
namespace Go.Am.Room.Do
def MI:=zz @bK (@List.length_append.{0})
theorem uP(a b:Int):aV T 160 [.int .i64 a,.int .i64 b] (oR ⟨a,b⟩):=by
 refine aS (af:=RN) rfl (by simp[RN]) dd ?_;try simp only[↓QA,QB,seval,MI,RN]
def u8s(l:List Int):AV:=.lit (l.map (.int .u8)) false none
theorem O8(l:List Int):gV (u8s l):=eY (cE .u8) l
instance (l:List Int):Dat (u8s l):=⟨O8 l⟩
theorem aMC(σ:St)(m d:Nat)(l:List Int):bW σ m d (l.map (.int .u8))=some (l.map (.int .u8)):=iE (b9 (cE .u8) l) σ m d
def aBB(l:List Int):Prop:=(∀ x∈l,0<=x/\x<256)/\l.length<9223372036854775808
theorem mX(p:Int->Bool)(below:Int):∀ (k:Nat) (a last:Int),last<a->a+k<=below->iI below last ((aR a k).filter p)=true
 |0,a,last,_,_=>rfl
 |k+1,a,last,h1,h2=>by
  simp only[aR,List.filter_cons];split
  ·simp only[iI,mX p below k (a+1) a (by omega) (by omega),Bool.and_true,Bool.and_eq_true,decide_eq_true_eq];omega
  ·exact mX p below k (a+1) last (by omega) (by omega)
open Go
variable {P:Program}
structure TysD (P:Program):Prop where
 int:P.underlying 3=some (.int .i64)
 bool:P.underlying 4=some .bool
 u8:P.underlying 5=some (.int .u8)
 str:P.underlying 9=some .string
 span:lF P 24 [3,3]
 keepers:P.underlying 110=some (.slice 109)
 doors:P.underlying 107=some (.slice 106)
 looks:P.underlying 111=some (.slice 116)
 voy:lF P 113 [3,24,110,107,3,111]
 look:lF P 116 [3,3,4]
 u8s:P.underlying 34=some (.slice 5)
 door:lF P 106 [3,4]
 kp:lF P 109 [9,3]
theorem aHK{n:Nat}{cs:List AV}(T:TysD P)(h:Typ P (n+2) 109 cs):∃ s:Kp,mkV P 109 cs=fH s/\s.name.size<9223372036854775808:=by
 obtain⟨e,a,b,rfl,h1,c,d,rfl,h2,rfl⟩:=A7 T.kp h;obtain⟨x,rfl,hx⟩:=XQ T.str h1;obtain⟨y,rfl,_⟩:=kL T.int h2;exact⟨⟨x,y⟩,e,by simp only[maxLen] at hx;simp only;omega⟩
theorem YI{n:Nat}{cs:List AV}(T:TysD P)(h:Typ P (n+2) 106 cs):∃ s:Door,mkV P 106 cs=eF s/\True:=by
 obtain⟨e,a,b,rfl,h1,c,d,rfl,h2,rfl⟩:=A7 T.door h;obtain⟨x,rfl,_⟩:=kL T.int h1;obtain⟨y,rfl⟩:=E6 T.bool h2;exact⟨⟨x,y⟩,e,trivial⟩
theorem Y9{n:Nat}{cs:List AV}(T:TysD P)(h:Typ P (n+2) 116 cs):∃ s:Look,mkV P 116 cs=bY s/\True:=by
 obtain⟨e,a,b,rfl,h1,c,d,rfl,h2,c2,d2,rfl,h3,rfl⟩:=A7 T.look h;obtain⟨x,rfl,_⟩:=kL T.int h1;obtain⟨y,rfl,_⟩:=kL T.int h2;obtain⟨z,rfl⟩:=E6 T.bool h3;exact⟨⟨x,y,z⟩,e,trivial⟩
theorem ty_u8{n:Nat}{cs:List AV}(T:TysD P)(h:Typ P (n+1) 5 cs):∃ x:Nat,mkV P 5 cs = .int .u8 x/\x<256:=by
 obtain⟨x,e,h⟩:=aBQ T.u8 h;obtain⟨k,rfl⟩:∃ k:Nat,x=k:=⟨x.toNat,by omega⟩;exact⟨k,e,by omega⟩
theorem ty_u8s{n:Nat}{cs:List AV}(T:TysD P)(h:Typ P (n+2) 34 cs):∃ l:List Int,mkV P 34 cs=u8s l/\aBB l:=by
 obtain⟨l,e,h1,h2⟩:=aFZ T.u8 T.u8s h;exact⟨l,e,h1,h2⟩
theorem ty_voy{n:Nat}{cs:List AV}(T:TysD P)(h:Typ P (n+4) 113 cs):∃ s:Voy,mkV P 113 cs=encVoy s/\Fits s:=by
 obtain⟨e,a1,b1,rfl,h1,a2,b2,rfl,h2,a3,b3,rfl,h3,a4,b4,rfl,h4,a5,b5,rfl,h5,a6,b6,rfl,h6,rfl⟩:=A7 T.voy h;obtain⟨x1,rfl,_⟩:=kL T.int h1;obtain⟨x2,rfl⟩:=XZ T.int T.span h2;obtain⟨x3,rfl,⟨l3,_⟩,q3⟩:=rO T.keepers h3 fun y hy=>aHK T hy
 obtain⟨x4,rfl,⟨l4,_⟩,_⟩:=rO T.doors h4 fun y hy=>YI T hy
 obtain⟨x5,rfl,_⟩:=kL T.int h5;obtain⟨x6,rfl,⟨l6,_⟩,_⟩:=rO T.looks h6 fun y hy=>Y9 T hy
 exact⟨⟨x1,x2,x3,x4,x5,x6⟩,e,⟨l3,l4,l6,q3⟩⟩
end Go.Am.Room.Do
namespace Go.Am.Room.Do
structure Vd (v:Voy):Prop where
 hours:1<=v.hours/\v.hours<=24
 delay:0<=v.delay.lo/\v.delay.lo<=v.delay.hi/\v.delay.hi<=8
 lots:1<=v.lots/\v.lots<=3
 nkp:1<=v.keepers.length/\v.keepers.length<=5
 kp:∀ i (h:i<v.keepers.length),nO v i v.keepers[i]=0
 ndr:v.doors.length<=4
 dr:∀ d∈v.doors,0<=d.hour/\d.hour<=v.hours
 nlk:v.looks.length<=5
 lk:∀ x∈v.looks,(0<=x.lot/\x.lot<v.lots)/\0<=x.hour/\x.hour<=v.hours
theorem gM{v:Voy}(h:(dG v).2.2=0):Vd v:=by
 unfold dG at h;split at h
 ·simp at h
 rename_i c1;split at h
 case isFalse hn=>exact absurd h hn
 rename_i c0;unfold lN at h;split at h
 ·simp at h
 rename_i c2;split at h
 ·rename_i i e he;exact absurd h (kD he)
 rename_i f1;unfold m7 at h;split at h
 ·simp at h
 rename_i c3;split at h
 ·rename_i i e he;exact absurd h (kD he)
 rename_i f2;unfold n7 at h;split at h
 ·simp at h
 rename_i c4;split at h
 ·rename_i i e he;exact absurd h (kD he)
 rename_i f3;simp only[not_or,Bool.not_eq_false] at c1 c2;obtain⟨d1,d2,d3⟩:=c1;rw[eI] at d1 d3 c2;refine⟨d1,MJ c0,d3,by omega,fun i hi=>by simpa using kY f1 i hi,by omega,?_,by omega,?_⟩
 ·intro x hx;obtain⟨k,hk,rfl⟩:=List.getElem_of_mem hx;have:=kY f2 k hk;unfold qM at this;split at this
  ·rename_i hi;exact eI.1 hi
  ·omega
 ·intro x hx;obtain⟨k,hk,rfl⟩:=List.getElem_of_mem hx;have:=kY f3 k hk;unfold pP at this;split at this
  ·omega
  rename_i hi;split at this
  ·rename_i hj;rw[Bool.not_eq_false,eI] at hi;rw[eI] at hj;omega
  ·omega
theorem vL{v:Voy}(h:Vd v){i:Nat}(hi:i<v.keepers.length):(0<=dV v i/\dV v i<=v.hours)/\(i=0->dV v i=0)/\(0<i->dV v (i-1)<dV v i):=by
 have:=h.kp i hi;unfold nO at this;split at this
 ·unfold pF at this;split at this
  ·omega
  ·rename_i h1;split at this
   ·omega
   ·rename_i h2;rw[Bool.not_eq_false,eI] at h1;refine⟨h1,fun e=>?_,fun e=>?_⟩
    ·by_cases h3:dV v i=0
     ·exact h3
     ·exact absurd (.inl ⟨e,h3⟩) h2
    ·by_cases h3:dV v i<=dV v (i-1)
     ·exact absurd (.inr ⟨e,h3⟩) h2
     ·omega
 ·rename_i h0;exact absurd this h0
end Go.Am.Room.Do
set_option maxRecDepth 4000
namespace Go.Am.Room.Do
def aJ:=zz @cN (zz @aP (zz @dB (zz @aY (zz @bA (zz @bK (zz @dO (zz @bN (@bL))))))))
def nH(x:Int×Int×Int):AV:=.tuple [.int .i64 x.1,.int .i64 x.2.1,.int .i64 x.2.2]
theorem lQ(v:Voy)(n:Int):aV T 206 [encVoy v,.int .i64 n] (.bool (inR n 0 v.hours)):=by
 refine aS (af:=RZ) rfl (by simp[RZ]) dd ?_;try simp only[↓QA,QB,seval,aJ,RZ]
 (refine aE (kK n 0 v.hours) rfl dd ?_;try simp only[↓QA,QB,seval,aJ])
theorem AO{v:Voy}{i:Nat}(hi:i<v.keepers.length):dV v i=v.keepers[i].frm:=by simp[dV,hi]
theorem zW(v:Voy)(i:Nat)(hf:Fits v)(hi:i<v.keepers.length):aV T 205 [encVoy v,.int .i64 i] (.int .i64 (pF v i)):=by
 refine aS (af:=Q8) rfl (by simp[Q8]) dd ?_;have hfk:=hf.keepers;have he:=AO hi;have hk:pF v i=if inR (dV v i) 0 v.hours=false then 7 else if (i=0/\dV v i≠0)\/(0<i/\dV v i<=dV v (i-1)) then 2 else 0:=rfl
 obtain⟨E,hE⟩:∃ E,pF v i=E:=⟨_,rfl⟩;rw[hE] at hk ⊢;obtain⟨F,hF⟩:∃ F,dV v i=F:=⟨_,rfl⟩;rw[hF] at hk he;try simp only[↓QA,QB,seval,aJ,Q8,hi,<-he]
 (refine aE (lQ v F) rfl dd ?_;try simp only[↓QA,QB,seval,aJ])
 cases h1:inR F 0 v.hours
 ·rw[h1] at hk;try simp only[↓QA,QB,seval,aJ]
  rw[hk];rfl
 ·rw[h1] at hk;simp only[Bool.true_eq_false,if_false] at hk;by_cases h0:i=0
  ·subst h0;cases h2:(F==0)
   ·have h2':F≠0:=by simpa using h2
    have:E=2:=by rw[hk,if_pos (.inl ⟨rfl,h2'⟩)]
    try simp only[↓QA,QB,seval,aJ,h2,show (((0:Nat):Int)==0)=true from rfl]
    rw[this]
   ·have h2':F=0:=by simpa using h2
    have:E=0:=by rw[hk,if_neg (by omega)]
    try simp only[↓QA,QB,seval,aJ,h2,show (((0:Nat):Int)==0)=true from rfl,show decide ((0:Int)<((0:Nat):Int))=false from rfl]
    rw[this]
  ·have g0:((i:Int)==0)=false:=by simp;omega
   have g1:decide ((0:Int)<(i:Int))=true:=by simp;omega
   have hw:IntKind.i64.wrap ((i:Int)-1)=((i-1:Nat):Int):=by rw[dL ⟨by omega,by omega⟩];omega
   have hi1:i-1<v.keepers.length:=by omega
   have he1:=AO hi1;obtain⟨G,hG⟩:∃ G,dV v (i-1)=G:=⟨_,rfl⟩;rw[hG] at hk he1;cases h2:decide (F<=G)
   ·have h2':¬F<=G:=by simpa using h2
    have:E=0:=by rw[hk,if_neg (by omega)]
    try simp only[↓QA,QB,seval,aJ,g0,g1,hw,hi1,<-he1,h2]
    rw[this]
   ·have h2':F<=G:=by simpa using h2
    have:E=2:=by rw[hk,if_pos (.inr ⟨by omega,h2'⟩)]
    try simp only[↓QA,QB,seval,aJ,g0,g1,hw,hi1,<-he1,h2]
    rw[this]
theorem JB{k:Nat}{ns:List ByteArray}{s:ByteArray}{b:ABlk}{ex:Bool}(hk:ns.length=k)(hn:k<16):bT 1 16 [b,.tok 1 k ex] (.lit (ns.map .str) false (some 1)) (.lit [.str s] true none)=some (.lit ((ns++[s]).map .str) false (some 1),[b,.tok 1 (k+1) true]):=by
 rw[tU (ex:=ex) ⟨n9 1 _ ns (fun x=>aB4 _),by simp[aF,AV.cells,AV.cell],by simp[room,hk];omega,by simp[room,hk];omega⟩ (by simp) (by simp[hk])];simp[hk]
theorem OI{v:Voy}{k:Nat}(h:k<v.keepers.length):(v.keepers.take (k+1)).map Kp.name=(v.keepers.take k).map Kp.name++[v.keepers[k].name]:=by
 rw[List.take_succ_eq_append_getElem h,List.map_append];rfl
theorem w7(v:Voy)(h:Fits v):aV T 60 [encVoy v] (nH (dG v)):=by
 refine aS (af:=a60) rfl (by simp[a60]) dd ?_;have hfk:=h.keepers;have hfd:=h.doors;have hfl:=h.looks
 (repeat (first|simp only[↓QA,QB,seval,aJ,a60]|refine rd0 rfl ?_))
 ((first|refine aE (LO v.delay 0 8) rfl dd ?_|refine aQ (LO v.delay 0 8) rfl dd ?_);(repeat (first|simp only[↓QA,QB,seval,aJ]|refine rd0 rfl ?_)))
 ((first|refine aE (kK v.hours 1 24) rfl dd ?_|refine aQ (kK v.hours 1 24) rfl dd ?_);(repeat (first|simp only[↓QA,QB,seval,aJ]|refine rd0 rfl ?_)))
 cases h1:inR v.hours 1 24
 ·(repeat (first|simp only[↓QA,QB,seval,aJ]|refine rd0 rfl ?_))
  simp[dG,h1,nH]
 ·(repeat (first|simp only[↓QA,QB,seval,aJ]|refine rd0 rfl ?_))
  cases h2:(pA v.delay 0 8==7)
  ·have h2':pA v.delay 0 8≠7:=by simpa using h2
   (repeat (first|simp only[↓QA,QB,seval,aJ,h2]|refine rd0 rfl ?_))
   ((first|refine aE (kK v.lots 1 3) rfl dd ?_|refine aQ (kK v.lots 1 3) rfl dd ?_);(repeat (first|simp only[↓QA,QB,seval,aJ]|refine rd0 rfl ?_)))
   cases h3:inR v.lots 1 3
   ·(repeat (first|simp only[↓QA,QB,seval,aJ]|refine rd0 rfl ?_))
    simp[dG,h3,nH]
   ·(repeat (first|simp only[↓QA,QB,seval,aJ]|refine rd0 rfl ?_))
    cases h4:(pA v.delay 0 8==0)
    ·have h4':pA v.delay 0 8≠0:=by simpa using h4
     (repeat (first|simp only[↓QA,QB,seval,aJ,h4]|refine rd0 rfl ?_))
     simp[dG,h1,h2',h3,h4',nH]
    ·have h4':pA v.delay 0 8=0:=by simpa using h4
     have hlo:=h3;rw[eI] at hlo;have hc:dG v=lN v:=by simp[dG,h1,h3,h4']
     rw[hc]
     (repeat (first|simp only[↓QA,QB,seval,aJ,h4]|refine rd0 rfl ?_))
     ((first|refine aE (kK v.keepers.length 1 5) rfl dd ?_|refine aQ (kK v.keepers.length 1 5) rfl dd ?_);(repeat (first|simp only[↓QA,QB,seval,aJ]|refine rd0 rfl ?_)))
     cases h5:inR v.keepers.length 1 5
     ·(repeat (first|simp only[↓QA,QB,seval,aJ]|refine rd0 rfl ?_))
      simp[lN,h5,nH]
     ·have h5':v.keepers.length<=5:=by simp[inR] at h5;omega
      have hc:lN v=match bC (nO v) v.keepers 0 with|some (i,e)=>(2,(i:Int),e)|none=>m7 v:=by simp only[lN,h5,Bool.true_eq_false,if_false]<;>rfl
      rw[hc]
      (repeat (first|simp only[↓QA,QB,seval,aJ]|refine rd0 rfl ?_))
      refine qO 6 1 [] rfl ?_;refine cY (S:=Nat×Bool) (0,false) (fun s=>s.1<=v.keepers.length/\bC (nO v) (v.keepers.drop s.1) s.1=bC (nO v) v.keepers 0) (fun s=>v.keepers.length-s.1)
       (fun s=>[(1,.ptr 0 0),(6,.lit (((v.keepers.take s.1).map Kp.name).map .str) false (some 1)),(7,.int .i64 s.1)]) (fun s=>[.cells (aB v),.tok 1 s.1 s.2]) ⟨Nat.zero_le _,by simp⟩ (by simp[aB,aK]) ?_ fun s hs=>?_
      ·try simp only[aD,QE,seval,aJ]
       try simp
      ·obtain⟨k,ex⟩:=s;obtain⟨hk,hb⟩:=hs;simp only at hk hb;have hlen:((v.keepers.take k).map Kp.name).length=k:=by simp[hk]
       (repeat (first|simp only[↓QA,QB,seval,aJ,aB8]|refine rd0 rfl ?_))
       refine aG (fun hd=>?_) fun hd=>?_
       ·have hk1:k<v.keepers.length:=by simpa using hd
        rw[fY hk1] at hb;have hw:=cB hk1 hfk;have hap:=JB (k:=k) (ns:=(v.keepers.take k).map Kp.name) (s:=v.keepers[k].name) (b:=.cells (aB v)) (ex:=ex) hlen (by omega);rw[aP] at hap;have hset:nO v k v.keepers[k]=if fresh v.keepers[k].name ((v.keepers.take k).map Kp.name)=0 then pF v k else fresh v.keepers[k].name ((v.keepers.take k).map Kp.name):=rfl
        (repeat (first|simp only[↓QA,QB,seval,aJ,hk1,hw]|refine rd0 rfl ?_))
        ((first|refine Z7 (GW v.keepers[k].name ((v.keepers.take k).map Kp.name) (h.names _ (List.getElem_mem hk1)) (by rw[hlen];omega)) (by try simp only[QS,QC,seval,aJ]) trivial ?_|refine YN (GW v.keepers[k].name ((v.keepers.take k).map Kp.name) (h.names _ (List.getElem_mem hk1)) (by rw[hlen];omega)) (by try simp only[QS,QC,seval,aJ]) trivial ?_);(repeat (first|simp only[↓QA,QB,seval,aJ,hk1,hw,hap]|refine rd0 rfl ?_)))
        cases hf:(fresh v.keepers[k].name ((v.keepers.take k).map Kp.name)==0)
        ·have hf':fresh v.keepers[k].name ((v.keepers.take k).map Kp.name)≠0:=by simpa using hf
         rw[hset,if_neg hf',if_neg hf'] at hb;rw[<-hb]
         (repeat (first|simp only[↓QA,QB,seval,aJ,hf]|refine rd0 rfl ?_))
         rfl
        ·have hf':fresh v.keepers[k].name ((v.keepers.take k).map Kp.name)=0:=by simpa using hf
         rw[hset,if_pos hf'] at hb
         (repeat (first|simp only[↓QA,QB,seval,aJ,hf,hk1]|refine rd0 rfl ?_))
         ((first|refine aE (zW v k h hk1) rfl dd ?_|refine aQ (zW v k h hk1) rfl dd ?_);(repeat (first|simp only[↓QA,QB,seval,aJ]|refine rd0 rfl ?_)))
         cases hg:(pF v k==0)
         ·have hg':pF v k≠0:=by simpa using hg
          rw[if_neg hg'] at hb;rw[<-hb]
          (repeat (first|simp only[↓QA,QB,seval,aJ,hg]|refine rd0 rfl ?_))
          rfl
         ·have hg':pF v k=0:=by simpa using hg
          (repeat (first|simp only[↓QA,QB,seval,aJ,hg,hw]|refine rd0 rfl ?_))
          refine⟨(k+1,true),⟨by simp only;omega,by rw[<-hb,if_pos hg']⟩,by simp only;omega,?_⟩;try simp only[aD,QE,seval,aJ,OI hk1,hw]
          try simp[aO]
       ·have hk1:k=v.keepers.length:=by simp at hd;omega
        rw[gT hk1] at hb;rw[<-hb,hk1]
        (repeat (first|simp only[↓QA,QB,seval,aJ]|refine rd0 rfl ?_))
        cases h6:decide ((4:Int)<(v.doors.length:Int))
        ·have h6':¬4<v.doors.length:=by first|(have:=of_decide_eq_false h6;omega)|(have:=of_decide_eq_true h6;omega)
         have hc:m7 v=match bC (qM v) v.doors 0 with|some (i,e)=>(3,(i:Int),e)|none=>n7 v:=by simp only[m7,h6',if_false]<;>rfl
         rw[hc]
         (repeat (first|simp only[↓QA,QB,seval,aJ]|refine rd0 rfl ?_))
         refine cY (S:=Nat) 0 (fun k=>k<=v.doors.length/\bC (qM v) (v.doors.drop k) k=bC (qM v) v.doors 0) (fun k=>v.doors.length-k)
          (fun k=>[(1,.ptr 0 0),(9,.int .i64 k)]) (fun _=>[.cells (aB v),.tok 1 v.keepers.length ex]) ⟨Nat.zero_le _,by simp⟩ (by simp[aB,aK]) ?_ fun j hj=>?_
         ·try simp only[aD,QE,seval,aJ]
          try simp
         ·obtain⟨hj,hbj⟩:=hj
          (repeat (first|simp only[↓QA,QB,seval,aJ,aA4]|refine rd0 rfl ?_))
          refine aG (fun hd2=>?_) fun hd2=>?_
          ·have hj1:j<v.doors.length:=by simpa using hd2
           rw[fY hj1] at hbj;have hw2:=cB hj1 hfd;have hde:qM v j v.doors[j]=if inR v.doors[j].hour 0 v.hours=true then 0 else 7:=rfl
           rw[hde] at hbj
           (repeat (first|simp only[↓QA,QB,seval,aJ,hj1]|refine rd0 rfl ?_))
           ((first|refine aE (lQ v v.doors[j].hour) rfl dd ?_|refine aQ (lQ v v.doors[j].hour) rfl dd ?_);(repeat (first|simp only[↓QA,QB,seval,aJ,hj1]|refine rd0 rfl ?_)))
           cases hi:inR v.doors[j].hour 0 v.hours
           ·rw[hi] at hbj;rw[<-hbj]
            (repeat (first|simp only[↓QA,QB,seval,aJ,hj1]|refine rd0 rfl ?_))
            rfl
           ·rw[hi] at hbj
            (repeat (first|simp only[↓QA,QB,seval,aJ,hj1,hw2]|refine rd0 rfl ?_))
            refine⟨j+1,⟨by omega,by rw[<-hbj];rfl⟩,by omega,?_⟩;try simp only[aD,QE,seval,aJ,hw2]
            try simp
          ·have hj1:j=v.doors.length:=by simp at hd2;omega
           rw[gT hj1] at hbj;rw[<-hbj]
           (repeat (first|simp only[↓QA,QB,seval,aJ]|refine rd0 rfl ?_))
           cases h7:decide ((5:Int)<(v.looks.length:Int))
           ·have h7':¬5<v.looks.length:=by first|(have:=of_decide_eq_false h7;omega)|(have:=of_decide_eq_true h7;omega)
            have hc:n7 v=match bC (pP v) v.looks 0 with|some (i,e)=>(4,(i:Int),e)|none=>(0,0,0):=by simp only[n7,h7',if_false]<;>rfl
            rw[hc];have hwl:IntKind.i64.wrap (v.lots-1)=v.lots-1:=dL ⟨by omega,by omega⟩
            (repeat (first|simp only[↓QA,QB,seval,aJ]|refine rd0 rfl ?_))
            refine cY (S:=Nat) 0 (fun k=>k<=v.looks.length/\bC (pP v) (v.looks.drop k) k=bC (pP v) v.looks 0) (fun k=>v.looks.length-k)
             (fun k=>[(1,.ptr 0 0),(10,.int .i64 k)]) (fun _=>[.cells (aB v),.tok 1 v.keepers.length ex]) ⟨Nat.zero_le _,by simp⟩ (by simp[aB,aK]) ?_ fun m hm=>?_
            ·try simp only[aD,QE,seval,aJ]
             try simp
            ·obtain⟨hm,hbm⟩:=hm
             (repeat (first|simp only[↓QA,QB,seval,aJ,aAX]|refine rd0 rfl ?_))
             refine aG (fun hd3=>?_) fun hd3=>?_
             ·have hm1:m<v.looks.length:=by simpa using hd3
              rw[fY hm1] at hbm;have hw3:=cB hm1 hfl;have hle:pP v m v.looks[m]=if inR v.looks[m].lot 0 (v.lots-1)=false then 4 else if inR v.looks[m].hour 0 v.hours=true then 0 else 7:=rfl
              rw[hle] at hbm
              (repeat (first|simp only[↓QA,QB,seval,aJ,hm1,hwl]|refine rd0 rfl ?_))
              ((first|refine aE (kK v.looks[m].lot 0 (v.lots-1)) rfl dd ?_|refine aQ (kK v.looks[m].lot 0 (v.lots-1)) rfl dd ?_);(repeat (first|simp only[↓QA,QB,seval,aJ,hm1]|refine rd0 rfl ?_)))
              cases hi:inR v.looks[m].lot 0 (v.lots-1)
              ·rw[hi] at hbm;rw[<-hbm]
               (repeat (first|simp only[↓QA,QB,seval,aJ,hm1]|refine rd0 rfl ?_))
               rfl
              ·rw[hi] at hbm
               (repeat (first|simp only[↓QA,QB,seval,aJ,hm1]|refine rd0 rfl ?_))
               ((first|refine aE (lQ v v.looks[m].hour) rfl dd ?_|refine aQ (lQ v v.looks[m].hour) rfl dd ?_);(repeat (first|simp only[↓QA,QB,seval,aJ,hm1]|refine rd0 rfl ?_)))
               cases hi2:inR v.looks[m].hour 0 v.hours
               ·rw[hi2] at hbm;rw[<-hbm]
                (repeat (first|simp only[↓QA,QB,seval,aJ,hm1]|refine rd0 rfl ?_))
                rfl
               ·rw[hi2] at hbm
                (repeat (first|simp only[↓QA,QB,seval,aJ,hm1,hw3]|refine rd0 rfl ?_))
                refine⟨m+1,⟨by omega,by rw[<-hbm];rfl⟩,by omega,?_⟩;try simp only[aD,QE,seval,aJ,hw3]
                try simp
             ·have hm1:m=v.looks.length:=by simp at hd3;omega
              rw[gT hm1] at hbm;rw[<-hbm]
              (repeat (first|simp only[↓QA,QB,seval,aJ]|refine rd0 rfl ?_))
              rfl
           ·have h7':5<v.looks.length:=by first|(have:=of_decide_eq_false h7;omega)|(have:=of_decide_eq_true h7;omega)
            (repeat (first|simp only[↓QA,QB,seval,aJ]|refine rd0 rfl ?_))
            simp[n7,h7',nH]
        ·have h6':4<v.doors.length:=by first|(have:=of_decide_eq_false h6;omega)|(have:=of_decide_eq_true h6;omega)
         (repeat (first|simp only[↓QA,QB,seval,aJ]|refine rd0 rfl ?_))
         simp[m7,h6',nH]
  ·have h2':pA v.delay 0 8=7:=by simpa using h2
   (repeat (first|simp only[↓QA,QB,seval,aJ,h2]|refine rd0 rfl ?_))
   simp[dG,h2',nH]
end Go.Am.Room.Do
namespace Go.Am.Room
theorem eW(m:Nat):∀ (σ a b c:St),EqS m (σ++a) (σ++b) (σ++c)=EqS m a b c
 |[],a,b,c=>rfl
 |x::σ,a,b,c=>by simp only[List.cons_append,EqS,eW m σ a b c,true_or,true_and,and_self]
theorem aPQ(a:Nat)(h:a<9223372036854775808):Go.Am.bits .and .i64 (a:Int) 1=((a%2:Nat):Int):=by
 have e1:(BitVec.ofInt 64 (a:Int) &&& BitVec.ofInt 64 1).toNat=a%2:=by
  rw[BitVec.toNat_and];have h1:(BitVec.ofInt 64 (a:Int)).toNat=a:=by
   rw[BitVec.toNat_ofInt];omega
  have h2:(BitVec.ofInt 64 1).toNat=1:=by decide
  rw[h1,h2,Nat.and_one_is_mod]
 show IntKind.i64.wrap (((BitVec.ofInt 64 (a:Int) &&& BitVec.ofInt 64 1).toNat:Nat):Int)=_
 rw[e1];exact dL ⟨by omega,by omega⟩
theorem U5(a:Nat)(h:a<9223372036854775808):cA .and (.int .i64 (a:Int)) (.int .i64 1)=some (.int .i64 ((a%2:Nat):Int)):=by
 simp[cA,eJ,aPQ a h]
theorem aAZ(a i:Nat)(h:i<=60):cA .shr (.int .i64 (a:Int)) (.int .i64 (i:Int))=some (.int .i64 ((a/2^i:Nat):Int)):=by
 have hm:Nat.min i 64=i:=Nat.min_eq_left (by omega);have h0:¬(i:Int)<0:=by omega
 simp only[cA,h0,if_false,IntKind.bits,Int.toNat_natCast,hm,Option.some.injEq,AV.int.injEq,true_and];rw[Int.fdiv_eq_ediv_of_nonneg _ (Int.pow_nonneg (by omega))];norm_cast
theorem kR(m:Nat)(σ b c:St):EqS m σ (σ++b) (σ++c)=EqS m [] b c:=by have:=eW m σ [] b c;rwa [List.append_nil] at this
def BH(T:FuncId->Option AFunc)(f:AV)(args:List AV)(σ:St)(v:AV)(σ':St):Prop:=Run T (.callv f args σ) fun o=>o.v=v/\o.σ=σ'
theorem dR{f:AV}{args:List AV}{v:AV}{σ σ':St}{K:AV->St->Prop}(h:BH T f args σ v σ')(k:K v σ'):cK (K:=⟨K⟩) T f args σ:=.mono h fun o ho=>by rw[ho.1,ho.2];exact k
theorem uC{f:AV}{args:List AV}{v:AV}{σ σ':St}{K:AV->St->Prop}(h:BH T f args σ v σ')(k:K v σ'):cD (K:=⟨K⟩) T f args σ:=⟨v,σ',h,k⟩
theorem LB(z v:AV):K5 true z (some (some v))=some (.tuple [v,.bool true]):=rfl
theorem LX(z:AV):K5 true z (some none)=some (.tuple [z,.bool false]):=rfl
theorem K6(k:Nat)(x:ABlk)(hx:aO k x):∀ (A a b c:St) (i:Nat),EqS k (A++a) (A.set i x++b) (A.set i x++c)=EqS k a b c
 |[],a,b,c,i=>by simp
 |y::A,a,b,c,0=>by
  simp only[List.set_cons_zero,List.cons_append,EqS,eW,hx,or_true,true_and,and_self]
 |y::A,a,b,c,i+1=>by
  have:=K6 k x hx A a b c i;simp only[List.set_cons_succ,List.cons_append,EqS,this,true_or,true_and,and_self]
theorem uZ(i:Nat):bD 1 (.yield i)=true:=by simp[bD,AV.cells,AV.cell]
theorem vK(i:Nat):(AV.yield i).cells=[.yield i]:=by simp[AV.cells]
theorem ES{f:AOpd}{g:FuncId}{first cap:List AV}{ps:List Nat}{a b:ACode}{e:Env}{σ:St}{K:KJ}{R:Out->Prop}(hf:f.ev e = .func g first cap)(h:Run T (.call g (first++[.yield σ.length]++cap) (σ++[.loop .ready none e ps a b])) R)(h1:∀ o,R o->∃ st pend env' ps' a' b',o.σ[σ.length]? = some (.loop st pend env' ps' a' b')/\st≠.busy/\K pend e (o.σ.set σ.length .dead)):rK (K:=⟨K⟩) T (.rangeFunc f ps a b) e σ:=.rangeFunc hf h h1
theorem F9{σ:St}{l:List Int}{a:Int}{ex:Bool}{t:Nat}(hn:l.length<100)(ht:σ[t]? = some (.tok 1 l.length ex)):bT 1 8 σ (.lit (l.map (.int .i64)) false (some t)) (.lit [.int .i64 a] true none)=some (.lit ((l++[a]).map (.int .i64)) false (some t),σ.set t (.tok 1 (l.length+1) true)):=by
 rw[tU (ex:=ex) ⟨n9 1 _ l (fun x=>PS _ _),by simp[aF,AV.cells,AV.cell],by simp[room];omega,by simp[room];omega⟩ (by simp) (by simpa using ht)];simp
theorem qF{vs:List AV}(h:kJ vs)(m:Nat):okVs m vs:=okVs_up _ h.1
theorem DL{v:AV}(h:gV v)(m:Nat):okV m v:=(qF (aM h bM) m).1
end Go.Am.Room
namespace Go.Am.Room.Do
def i4:=zz @cN (zz @aP (zz @dB (zz @aY (zz @bA (zz @bK (zz @dO (zz @bN (zz @bL (zz @uV (zz @yE (@uI)))))))))))
theorem Q7(x:Look)(n:Int):aV T 332 [bY x,.int .i64 n] (.bool (v8 x n)):=by
 refine aS (af:=OQ) rfl (by simp[OQ]) dd ?_;have hs:v8 x n=(x.turned==(!(n==-1)&&decide (n<=x.hour))):=by
  simp only[v8]
  congr 2
  rw[Bool.eq_iff_iff];simp
 rw[hs];cases h:(n==-1)
 ·try simp only[↓QA,QB,seval,i4,OQ,h]
 ·try simp only[↓QA,QB,seval,i4,OQ,h,Bool.false_and]
theorem xW{v:Voy}{k:Nat}(hk:k<v.keepers.length)(a:Int):dH v a (k+1)=if v.keepers[k].frm<=a then (k:Int) else dH v a k:=by
 simp only[dH,AO hk]
theorem uR(v:Voy)(n:Int)(hf:Fits v):aV T 63 [encVoy v,.int .i64 n] (.int .i64 (eS v n)):=by
 refine aS (af:=a63) rfl (by simp[a63]) dd ?_;have hfk:=hf.keepers;try simp only[↓QA,QB,seval,i4,a63]
 refine cY (S:=Nat) 0 (fun k=>k<=v.keepers.length) (fun k=>v.keepers.length-k) (fun k=>[(1,.int .i64 n),(2,.ptr 0 0),(5,.int .i64 (dH v n k)),(6,.int .i64 k)]) (fun _=>[.cells (aB v)]) (Nat.zero_le _) (by simp[aB,aK]) ?_ fun k hk=>?_
 ·try simp only[aD,QE,seval,i4]
  try simp[dH]
 ·try simp only[↓QA,QB,seval,i4,aBH]
  refine aG (fun h=>?_) fun h=>?_
  ·have hk1:k<v.keepers.length:=by simpa using h
   have hw:=cB hk1 hfk;have hs:=xW hk1 n;try simp only[↓QA,QB,seval,i4,hk1]
   cases hc:decide (v.keepers[k].frm<=n)
   ·have hc':¬v.keepers[k].frm<=n:=by simpa using hc
    rw[if_neg hc'] at hs;try simp only[↓QA,QB,seval,i4,hc,hw]
    refine⟨k+1,by omega,by omega,?_⟩;try simp only[aD,QE,seval,i4,hw,hs]
    try simp
   ·have hc':v.keepers[k].frm<=n:=by simpa using hc
    rw[if_pos hc'] at hs;try simp only[↓QA,QB,seval,i4,hc,hw]
    refine⟨k+1,by omega,by omega,?_⟩;try simp only[aD,QE,seval,i4,hw,hs]
    try simp
  ·have hk1:k=v.keepers.length:=by simp at h;omega
   subst hk1;try simp only[↓QA,QB,seval,i4,eS]
end Go.Am.Room.Do
namespace Go.Am.Room
theorem AJ:∀ (l:List Int) (s:Span),s.lo<=s.hi->(l.foldl mD s).lo<=s.lo/\s.hi<=(l.foldl mD s).hi/\(∀ x∈l,(l.foldl mD s).lo<=x/\x<=(l.foldl mD s).hi)/\((l.foldl mD s).lo=s.lo\/(l.foldl mD s).lo∈l)/\((l.foldl mD s).hi=s.hi\/(l.foldl mD s).hi∈l)
 |[],s,h=>⟨Int.le_refl _,Int.le_refl _,fun x hx=>by simp at hx,.inl rfl,.inl rfl⟩
 |y::l,s,h=>by
  have hj:(mD s y).lo<=(mD s y).hi:=by simp only[mD];omega
  obtain⟨a,b,c,d,e⟩:=AJ l (mD s y) hj;simp only[List.foldl_cons];have h1:(mD s y).lo<=s.lo/\(mD s y).lo<=y/\((mD s y).lo=s.lo\/(mD s y).lo=y):=by simp only[mD];omega
  have h2:s.hi<=(mD s y).hi/\y<=(mD s y).hi/\((mD s y).hi=s.hi\/(mD s y).hi=y):=by simp only[mD];omega
  refine⟨by omega,by omega,fun x hx=>?_,?_,?_⟩
  ·rcases List.mem_cons.1 hx with rfl|hx
   ·omega
   ·exact c x hx
  ·rcases d with d|d
   ·rcases h1.2.2 with h|h
    ·left;omega
    ·right;rw[d,h];simp
   ·right;simp[d]
  ·rcases e with e|e
   ·rcases h2.2.2 with h|h
    ·left;omega
    ·right;rw[e,h];simp
   ·right;simp[e]
theorem KA{l:List Int}(h:l≠[]):(vE l).lo∈l/\(vE l).hi∈l/\∀ x∈l,(vE l).lo<=x/\x<=(vE l).hi:=by
 cases l with
 |nil=>exact absurd rfl h
 |cons x l =>
  obtain⟨a,b,c,d,e⟩:=AJ l ⟨x,x⟩ (Int.le_refl _);simp only[vE];refine⟨?_,?_,fun y hy=>?_⟩
  ·rcases d with d|d
   ·rw[d];simp
   ·simp[d]
  ·rcases e with e|e
   ·rw[e];simp
   ·simp[e]
  ·rcases List.mem_cons.1 hy with rfl|hy
   ·exact⟨a,b⟩
   ·exact c y hy
theorem yW{α:Type}{p:α->Bool}{l:List α}:(l.filter p).length=l.length↔∀ x∈l,p x=true:=by
 rw[List.length_filter_eq_length_iff]
theorem F2{α:Type}{p:α->Bool}{l:List α}:iT (l.filter p).length l.length=1↔∀ x∈l,p x=true:=by
 rw[<-yW];unfold iT;split
 ·rename_i h;simp[h]
 ·rename_i h;split
  ·simp[h]
  ·simp[h]
theorem EQ{α:Type}{p:α->Bool}{l:List α}:iT (l.filter p).length l.length=2↔l≠[]/\∀ x∈l,p x=false:=by
 unfold iT;split
 ·rename_i h;simp only[show ¬(1:Int)=2 by omega,false_iff];rintro⟨h1,h2⟩;rw[yW] at h;cases l with
  |nil=>exact h1 rfl
  |cons x l =>
   have a:=h x (by simp);have b:=h2 x (by simp);rw[a] at b;cases b
 ·rename_i h;split
  ·rename_i h0;simp only[true_iff];refine⟨fun e=>?_,fun x hx=>?_⟩
   ·subst e;simp at h
   ·have:=List.eq_nil_of_length_eq_zero h0;rw[List.filter_eq_nil_iff] at this;simpa using this x hx
  ·rename_i h0;simp only[show ¬(0:Int)=2 by omega,false_iff];rintro⟨h1,h2⟩;apply h0;rw[List.length_eq_zero_iff,List.filter_eq_nil_iff];intro x hx;simp[h2 x hx]
theorem BC(a b:Nat):iT a b=0\/iT a b=1\/iT a b=2:=by
 unfold iT;split
 ·simp
 ·split<;>simp
end Go.Am.Room
namespace Go.Am.Room.Do
theorem fF{v:Voy}{but:List Int}{t:Truth}:t∈aI v but↔t.op∈dM v/\t.turns=(List.range v.lots.toNat).map (fun (n:Nat)=>bZ v (n:Int) t.op but)/\∀ n:Nat,n<v.lots.toNat->bZ v (n:Int) t.op but≠[]:=by
 simp only[aI,List.mem_filterMap,nX];constructor
 ·rintro⟨bl,hbl,h⟩;split at h
  ·rename_i ha;cases h;refine⟨hbl,rfl,fun n hn=>?_⟩;have:=List.all_eq_true.1 ha (bZ v (n:Int) bl but) (List.mem_map.2 ⟨n,List.mem_range.2 hn,rfl⟩);simpa using this
  ·cases h
 ·rintro⟨h1,h2,h3⟩;refine⟨t.op,h1,?_⟩;rw[if_pos]
  ·rw[<-h2]
  ·rw[List.all_eq_true];intro x hx;obtain⟨n,hn,rfl⟩:=List.mem_map.1 hx;have:=h3 n (List.mem_range.1 hn);simpa using this
theorem A0{v:Voy}{but:List Int}{t:Truth}(ht:t∈aI v but){n:Nat}(hn:n<v.lots.toNat):(t.turns[n]?).getD []=bZ v (n:Int) t.op but:=by
 rw[(fF.1 ht).2.1];simp[hn]
theorem fC{v:Voy}{but:List Int}{n:Nat}(hn:n<v.lots.toNat){w:Tn}:w∈cP (aI v but) n↔∃ t∈aI v but,w∈bZ v (n:Int) t.op but:=by
 simp only[cP,List.mem_flatMap];exact⟨fun ⟨t,ht,h⟩=>⟨t,ht,by rwa [A0 ht hn] at h⟩,fun ⟨t,ht,h⟩=>⟨t,ht,by rwa [A0 ht hn]⟩⟩
theorem rH{v:Voy}{but:List Int}:iB v but=true↔∃ t,t∈aI v but:=by
 simp only[iB,Bool.not_eq_true',List.isEmpty_eq_false_iff];exact⟨fun h=>List.exists_mem_of_ne_nil _ h,fun ⟨t,ht⟩=>List.ne_nil_of_mem ht⟩
theorem GK{v:Voy}{but:List Int}(h:iB v but=true){n:Nat}(hn:n<v.lots.toNat):cP (aI v but) n≠[]:=by
 obtain⟨t,ht⟩:=rH.1 h;obtain⟨w,hw⟩:=List.exists_mem_of_ne_nil _ ((fF.1 ht).2.2 n hn);exact List.ne_nil_of_mem ((fC hn).2 ⟨t,ht,hw⟩)
def K4(v:Voy)(n:Nat)(bl:List Int):Prop:=bl=(aR 0 n).filter (fun h=>bl.contains h)/\∀ h (hh:h<v.doors.length),h<n->v.doors[h].sure=true->(h:Int)∈bl
theorem vH{v:Voy}{n:Nat}{bl:List Int}(h:K4 v n bl){x:Int}(hx:x∈bl):0<=x/\x<n:=by
 rw[h.1] at hx;have hx:=(List.mem_filter.1 hx).1;have:=(aX _ _ _).1 hx;omega
theorem tE{v:Voy}:∀ {n:Nat} {bl:List Int},n<=v.doors.length->(bl∈cM v n↔K4 v n bl)
 |0,bl,_=>by
  simp only[cM,List.mem_singleton,K4,aR,List.filter_nil];exact⟨fun h=>⟨h,fun h _ hh=>absurd hh (by omega)⟩,fun h=>h.1⟩
 |n+1,bl,hn=>by
  have hlt:n<v.doors.length:=by omega
  simp only[cM,List.getElem?_eq_getElem hlt,List.mem_flatMap];constructor
  ·rintro⟨l,hl,hg⟩;have ih:=(tE (by omega)).1 hl;have hnl:¬(n:Int)∈l:=fun hx=>by have:=vH ih hx;omega
   simp only[sL,List.mem_append] at hg;rcases hg with hg|hg
   ·split at hg
    ·simp at hg
    ·rename_i hd;simp at hg;subst hg;refine⟨?_,fun h hh h1=>?_⟩
     ·rw[gW,List.filter_append];have:List.filter (fun h=>bl.contains h) [(0:Int)+n]=[]:=by simp;exact hnl
      rw[this,List.append_nil];exact ih.1
     ·by_cases he:h=n
      ·subst he;exact fun h2=>absurd h2 hd
      ·exact ih.2 h hh (by omega)
   ·simp at hg;subst hg;refine⟨?_,fun h hh h1=>?_⟩
    ·rw[gW,List.filter_append];have:List.filter (fun h=>(l++[(n:Int)]).contains h) [(0:Int)+n]=[(n:Int)]:=by simp
     rw[this,CW (l:=l) (fun x h1 h2=>by simp;omega),<-ih.1]
    ·by_cases he:h=n
     ·subst he;exact fun _=>by simp
     ·have:=ih.2 h hh (by omega);have hne:(h:Int)≠n:=by omega
      simpa[hne] using this
  ·intro h;have hd:=h.2 n hlt (by omega);refine⟨(aR 0 n).filter (fun x=>bl.contains x),(tE (by omega)).2 ⟨?_,fun k hk hkn h1=>?_⟩,?_⟩
   ·refine (CW fun x h1 h2=>?_).symm;simp only[List.mem_filter,aX,List.contains_iff_mem];exact⟨fun h=>h.2,fun h=>⟨by omega,h⟩⟩
   ·have:=h.2 k hk (by omega) h1;simp only[List.mem_filter,aX,List.contains_iff_mem];exact⟨by omega,this⟩
   ·have e:=h.1;rw[gW,List.filter_append] at e;simp only[sL,List.mem_append];by_cases hb:(n:Int)∈bl
    ·right;rw[List.mem_singleton];have:List.filter (fun h=>bl.contains h) [(0:Int)+n]=[(n:Int)]:=by simp[hb]
     rw[this] at e;exact e
    ·left;rw[if_neg (fun h0=>hb (hd h0)),List.mem_singleton];have:List.filter (fun h=>bl.contains h) [(0:Int)+n]=[]:=by simp[hb]
     rw[this,List.append_nil] at e;exact e
theorem uK{v:Voy}{bl:List Int}:bl∈dM v↔K4 v v.doors.length bl:=tE (Nat.le_refl _)
def A5(v:Voy):List Int:=(aR 0 v.doors.length).filter (m8 v)
theorem CZ{v:Voy}{h:Nat}(hh:h<v.doors.length):m8 v (h:Int)=v.doors[h].sure:=by simp[m8,hh]
theorem J4(v:Voy):A5 v∈dM v:=by
 refine uK.2 ⟨?_,fun h hh _ hs=>?_⟩
 ·unfold A5;refine List.filter_congr fun x hx=>?_
  rw[Bool.eq_iff_iff,List.contains_iff_mem,List.mem_filter];exact⟨fun h=>⟨hx,h⟩,fun h=>h.2⟩
 ·rw[A5,List.mem_filter,aX,CZ hh];exact⟨by omega,hs⟩
theorem qK{v:Voy}{d:Int}{w:Tn}:w∈mY v d↔w.door=d/\(v.delay.lo<=w.hour-aT v d/\w.hour-aT v d<=v.delay.hi)/\0<=w.hour/\w.hour<=v.hours:=by
 simp only[mY,List.mem_filterMap,aX];constructor
 ·rintro⟨n,hn,h⟩;split at h
  ·rename_i hr;rw[eI] at hr;cases h;refine⟨rfl,?_,hr⟩;simp only;omega
  ·cases h
 ·rintro⟨h1,h2,h3⟩;refine⟨w.hour-aT v d,by omega,?_⟩;rw[show aT v d+(w.hour-aT v d)=w.hour by omega,if_pos (eI.2 h3)];cases w;simp only at h1;rw[h1]
theorem uH{v:Voy}{op:List Int}{w:Tn}:w∈hI v op↔w=⟨-1,-1⟩\/∃ d∈op,w∈mY v d:=by
 simp only[hI,List.mem_cons,List.mem_flatMap]
theorem A9{v:Voy}{lot:Int}{but:List Int}{w:Tn}:eT v lot but w=true↔∀ k (hk:k<v.looks.length),gY lot but w k v.looks[k]=true:=by
 simp only[eT,List.all_eq_true,List.mem_range];constructor
 ·intro h1 i hi;have:=h1 i hi
  rwa [List.getElem?_eq_getElem hi] at this
 ·intro h1 i hi;rw[List.getElem?_eq_getElem hi];exact h1 i hi
theorem gN{v:Voy}{lot:Int}{op but:List Int}{w:Tn}:w∈bZ v lot op but↔w∈hI v op/\eT v lot but w=true:=List.mem_filter
theorem OE{v:Voy}{n:Nat}{but op:List Int}(hs:op∈dM v){w:Tn}(h:w∈bZ v (n:Int) op but):w=⟨-1,-1⟩\/(0<=w.hour/\w.hour<=v.hours/\0<=w.door/\w.door<v.doors.length/\w.door∈op):=by
 rcases uH.1 (gN.1 h).1 with e|⟨d,hd,hw⟩
 ·exact .inl e
 ·have a:=qK.1 hw;have b:=vH (uK.1 hs) hd;refine .inr ⟨a.2.2.1,a.2.2.2,by omega,by omega,by rw[a.1];exact hd⟩
theorem GF{v:Voy}{lot:Int}{op but:List Int}(h:eT v lot but ⟨-1,-1⟩=true):(⟨-1,-1⟩:Tn)∈bZ v lot op but:=gN.2 ⟨by simp[hI],h⟩
theorem MZ{v:Voy}{but:List Int}(hl:∀ (lot:Int),eT v lot but ⟨-1,-1⟩=true):iB v but=true:=by
 refine rH.2 ⟨⟨A5 v,(List.range v.lots.toNat).map fun (n:Nat)=>bZ v (n:Int) (A5 v) but⟩,fF.2 ⟨J4 v,rfl,fun n hn=>?_⟩⟩;exact List.ne_nil_of_mem (GF (hl n))
theorem M0{v:Voy}(hv:Vd v):∀ c∈cR v.looks.length v.looks.length,iB v c=true:=fun c hc=>by
 have hl:=hv.nlk;refine MZ fun lot=>A9.2 fun i hi=>?_
 have:=DC ⟨v.looks.length,by omega⟩ c hc ⟨i,by omega⟩ hi;simp only[gY];rw[this];simp
theorem rE(f:List Int->Bool)(n:Nat):∀ k m,dA f n (k+1) m=(dA f n k m).or ((cR n (m+k)).find? f)
 |0,m=>by simp only[dA,Nat.add_zero];cases (cR n m).find? f<;>rfl
 |k+1,m=>by
  rw[dA,rE f n k (m+1)];rw[show dA f n (k+1) m=(match (cR n m).find? f with|some l=>some l|none=>dA f n k (m+1)) from rfl];rw[show m+1+k=m+(k+1) by omega];cases (cR n m).find? f<;>rfl
theorem G8{v:Voy}(hv:Vd v):dA (iB v) v.looks.length (v.looks.length+1) 0=some (AN v):=by
 have hl:=hv.nlk;have h1:=EZ ⟨v.looks.length,by omega⟩;simp only at h1;obtain⟨w,hw⟩:=List.length_eq_one_iff.1 h1;have hs:=M0 hv w (by rw[hw];simp);rw[rE,AN,Nat.zero_add,hw];cases dA (iB v) v.looks.length v.looks.length 0 with
 |some l=>rfl
 |none=>simp[hs]
def mor(v:Voy)(x:Look):Voy:={ v with looks:=v.looks++[x] }
theorem WL(v:Voy)(x:Look):∀ n,cM (mor v x) n=cM v n
 |0=>rfl
 |n+1=>by simp only[cM,WL v x n]<;>rfl
theorem HI(v:Voy)(x:Look):dM (mor v x)=dM v:=WL v x _
theorem X7(v:Voy)(x:Look)(op:List Int):hI (mor v x) op=hI v op:=rfl
theorem aEM{v:Voy}{x:Look}{lot:Int}{w:Tn}:eT (mor v x) lot [] w=true↔eT v lot [] w=true/\(x.lot=lot->v8 x w.hour=true):=by
 rw[A9,A9];constructor
 ·intro h;refine⟨fun k hk=>?_,fun e=>?_⟩
  ·have h1:=h k (by simp[mor];omega);have e1:(mor v x).looks[k]'(by simp[mor];omega)=v.looks[k]:=by simp only[mor];exact List.getElem_append_left hk
   rw[e1] at h1;exact h1
  ·have h1:=h v.looks.length (by simp[mor]);have e1:(mor v x).looks[v.looks.length]'(by simp[mor])=x:=by simp[mor]
   rw[e1] at h1;simpa[gY,e] using h1
 ·rintro⟨h1,h2⟩ k hk;by_cases h:k<v.looks.length
  ·have e1:(mor v x).looks[k]=v.looks[k]:=by simp only[mor];exact List.getElem_append_left h
   rw[e1];exact h1 k h
  ·have e0:k=v.looks.length:=by simp[mor] at hk;omega
   subst e0;have e1:(mor v x).looks[v.looks.length]=x:=by simp[mor]
   rw[e1];simp only[gY];by_cases e:x.lot=lot
   ·simp[h2 e]
   ·simp[e]
theorem nF{v:Voy}{x:Look}{lot:Int}{op:List Int}{w:Tn}:w∈bZ (mor v x) lot op []↔w∈bZ v lot op []/\(x.lot=lot->v8 x w.hour=true):=by
 rw[gN,gN,aEM,X7,and_assoc]
theorem MR{v:Voy}{x:Look}{t:Truth}(h:t∈aI (mor v x) []):∃ u∈aI v [],u.op=t.op:=by
 obtain⟨h1,_,h3⟩:=fF.1 h;rw[HI] at h1;refine⟨⟨t.op,(List.range v.lots.toNat).map fun (n:Nat)=>bZ v (n:Int) t.op []⟩,fF.2 ⟨h1,rfl,fun n hn=>?_⟩,rfl⟩;obtain⟨w,hw⟩:=List.exists_mem_of_ne_nil _ (h3 n hn);exact List.ne_nil_of_mem (nF.1 hw).1
theorem U7{v:Voy}{x:Look}{n:Nat}(hn:n<v.lots.toNat)(hx:x.lot=(n:Int)){w:Tn}:w∈cP (aI (mor v x) []) n↔w∈cP (aI v []) n/\v8 x w.hour=true:=by
 rw[fC (v:=mor v x) hn,fC hn];constructor
 ·rintro⟨t,ht,hw⟩;obtain⟨u,hu,e⟩:=MR ht;have:=nF.1 hw;exact⟨⟨u,hu,by rw[e];exact this.1⟩,this.2 hx⟩
 ·rintro⟨⟨t,ht,hw⟩,hs⟩;obtain⟨h1,_,h3⟩:=fF.1 ht;have key:∀ m:Nat,m<v.lots.toNat->bZ (mor v x) (m:Int) t.op []≠[]:=fun m hm=>by
   by_cases e:m=n
   ·subst e;exact List.ne_nil_of_mem (nF.2 ⟨hw,fun _=>hs⟩)
   ·obtain⟨z,hz⟩:=List.exists_mem_of_ne_nil _ (h3 m hm);exact List.ne_nil_of_mem (nF.2 ⟨hz,fun e2=>absurd (hx.symm.trans e2) (by omega)⟩)
  exact⟨⟨t.op,(List.range v.lots.toNat).map fun (m:Nat)=>bZ (mor v x) (m:Int) t.op []⟩,fF.2 ⟨by rw[HI];exact h1,rfl,key⟩,nF.2 ⟨hw,fun _=>hs⟩⟩
theorem QN{v:Voy}{x:Look}{n:Nat}(hn:n<v.lots.toNat)(hx:x.lot=(n:Int)):iB (mor v x) []=true↔∃ w∈cP (aI v []) n,v8 x w.hour=true:=by
 constructor
 ·intro h;obtain⟨w,hw⟩:=List.exists_mem_of_ne_nil _ (GK (v:=mor v x) h (n:=n) hn);exact⟨w,(U7 hn hx).1 hw⟩
 ·rintro⟨w,hw,hs⟩;obtain⟨t,ht,_⟩:=(fC (v:=mor v x) hn).1 ((U7 hn hx).2 ⟨hw,hs⟩);exact rH.2 ⟨t,ht⟩
theorem zL{v:Voy}{but:List Int}{n:Nat}(hn:n<v.lots.toNat){w:Tn}(h:w∈cP (aI v but) n):w=⟨-1,-1⟩\/(0<=w.hour/\w.hour<=v.hours/\0<=w.door/\w.door<v.doors.length):=by
 obtain⟨t,ht,hw⟩:=(fC hn).1 h;rcases OE (fF.1 ht).1 hw with e|e
 ·exact .inl e
 ·exact .inr ⟨e.1,e.2.1,e.2.2.1,e.2.2.2.1⟩
theorem nB{l:List Truth}{n:Nat}{h:Int}:h∈gU l n↔h≠-1/\∃ w∈cP l n,w.hour=h:=by
 simp only[gU,List.mem_filter,List.mem_map,decide_eq_true_eq];exact⟨fun ⟨h1,h2⟩=>⟨h2,h1⟩,fun ⟨h1,h2⟩=>⟨h2,h1⟩⟩
def lG(l:List Truth)(n:Nat):Int:=iT (gU l n).length (cP l n).length
theorem P5(l:List Truth)(n:Nat):lG l n=iT (((cP l n).map Tn.hour).filter fun h=>decide (h≠-1)).length ((cP l n).map Tn.hour).length:=by simp only[lG,gU,List.length_map]
theorem K2{l:List Truth}{n:Nat}:lG l n=1↔∀ w∈cP l n,w.hour≠-1:=by
 rw[P5,F2];simp
theorem DB{l:List Truth}{n:Nat}:lG l n=2↔cP l n≠[]/\∀ w∈cP l n,w.hour = -1:=by
 rw[P5,EQ];simp
theorem ML(l:List Truth)(n:Nat):lG l n=0\/lG l n=1\/lG l n=2:=BC _ _
theorem AM{v:Voy}{l:List Truth}{n:Nat}{d:Int}:d∈eA v l n↔(0<=d/\d<v.doors.length)/\∃ w∈cP l n,w.door=d:=by
 simp only[eA,List.mem_filter,aX,D7,List.any_eq_true,decide_eq_true_eq];exact⟨fun ⟨h1,h2⟩=>⟨by omega,h2⟩,fun ⟨h1,h2⟩=>⟨by omega,h2⟩⟩
theorem O2{v:Voy}{ds:List Int}{k:Int}:k∈jU v ds↔(0<=k/\k<v.keepers.length)/\∃ d∈ds,eS v (aT v d)=k:=by
 simp only[jU,List.mem_filter,aX,List.any_eq_true,decide_eq_true_eq];exact⟨fun ⟨h1,h2⟩=>⟨by omega,h2⟩,fun ⟨h1,h2⟩=>⟨by omega,h2⟩⟩
theorem jS(v:Voy)(a:Int):∀ k,0<=dH v a k/\(0<k->dH v a k<k)
 |0=>⟨Int.le_refl _,fun h=>absurd h (by omega)⟩
 |k+1=>by
  have ih:=jS v a k;simp only[dH];split
  ·omega
  ·refine⟨ih.1,fun _=>?_⟩;by_cases h:0<k
   ·have:=ih.2 h;omega
   ·have:k=0:=by omega
    subst this;simp[dH]
theorem rR{v:Voy}(hv:Vd v)(a:Int):0<=eS v a/\eS v a<v.keepers.length:=by
 have:=jS v a v.keepers.length;have:=hv.nkp;exact⟨(jS v a _).1,(jS v a _).2 (by omega)⟩
theorem VV{v:Voy}(hv:Vd v){n:Nat}(hn:n<v.lots.toNat){w:Tn}(hw:w∈cP (aI v []) n)(h:w.hour≠-1):w.door∈eA v (aI v []) n/\eS v (aT v w.door)∈jU v (eA v (aI v []) n)/\(0<=w.door/\w.door<v.doors.length)/\w.hour∈gU (aI v []) n:=by
 rcases zL hn hw with e|e
 ·rw[e] at h;simp at h
 ·have hc:w.door∈eA v (aI v []) n:=AM.2 ⟨⟨e.2.2.1,e.2.2.2⟩,w,hw,rfl⟩;exact⟨hc,O2.2 ⟨rR hv _,w.door,hc,rfl⟩,e.2.2,nB.2 ⟨h,w,hw,rfl⟩⟩
theorem MQ{n h a:Int}:v8 ⟨n,h,true⟩ a=true↔a≠-1/\a<=h:=by simp[v8]
def vP(l:List Truth)(n:Nat):Span:=vE (gU l n)
theorem GT{v:Voy}{n:Nat}(hn:n<v.lots.toNat)(h:lG (aI v []) n=2)(a:Int):iB (mor v ⟨n,a,true⟩) []=false/\vP (aI v []) n=⟨0,0⟩:=by
 obtain⟨h1,h2⟩:=DB.1 h;constructor
 ·rw[Bool.eq_false_iff];intro hs;obtain⟨w,hw,h3⟩:=(QN hn rfl).1 hs;exact (MQ.1 h3).1 (h2 w hw)
 ·have:gU (aI v []) n=[]:=by
   rw[List.eq_nil_iff_forall_not_mem];intro x hx;obtain⟨h3,w,hw,e⟩:=nB.1 hx;exact h3 (by rw[<-e];exact h2 w hw)
  rw[vP,this];rfl
theorem DS{v:Voy}(hv:Vd v){n:Nat}(hn:n<v.lots.toNat){a:Int}:a∈sV v (aI v []) n↔∃ w∈cP (aI v []) n,w.hour=a:=by
 simp only[sV,List.mem_filter,aX,R8,List.any_eq_true,decide_eq_true_eq];constructor
 ·exact fun h=>h.2
 ·rintro⟨w,hw,rfl⟩;refine⟨?_,w,hw,rfl⟩;rcases zL hn hw with e|e
  ·have:=hv.hours;rw[e];simp only;omega
  ·omega
theorem t7(hs:List Int):∀ k:Nat,(0<=cJ hs k/\cJ hs k<=k)/\∀ j:Nat,j<=k->eU hs (cJ hs k)<=eU hs j/\(eU hs (cJ hs k)=eU hs j->cJ hs k<=j)
 |0=>⟨⟨Int.le_refl _,Int.le_refl _⟩,fun j hj=>by
   have:j=0:=by omega
   subst this;simp[cJ]⟩
 |k+1=>by
  obtain⟨h1,h2⟩:=t7 hs k;simp only[cJ];split
  ·rename_i hlt;refine⟨by omega,fun j hj=>?_⟩;by_cases e:j=k+1
   ·subst e;exact⟨by simp,fun _=>by simp⟩
   ·have:=h2 j (by omega);exact⟨by omega,fun h=>by omega⟩
  ·rename_i hlt;refine⟨by omega,fun j hj=>?_⟩;by_cases e:j=k+1
   ·subst e;rw[show (((k+1:Nat)):Int)=(k:Int)+1 by omega];exact⟨by omega,fun h=>by omega⟩
   ·exact h2 j (by omega)
end Go.Am.Room.Do
namespace Go.Am.Room
theorem k8{a:Nat}(h:a<9223372036854775808):(BitVec.ofInt 64 (a:Int)).toNat=a:=by
 rw[BitVec.toNat_ofInt];omega
theorem QJ(a b:Nat)(ha:a<9223372036854775808)(hb:b<9223372036854775808):cA .and (.int .i64 (a:Int)) (.int .i64 (b:Int))=some (.int .i64 ((a &&& b:Nat):Int)):=by
 have h1:(BitVec.ofInt 64 (a:Int) &&& BitVec.ofInt 64 (b:Int)).toNat=a &&& b:=by rw[BitVec.toNat_and,k8 ha,k8 hb]
 have h2:a &&& b<=a:=Nat.and_le_left;have h3:Go.Am.bits .and .i64 (a:Int) (b:Int)=((a &&& b:Nat):Int):=by
  show IntKind.i64.wrap (((BitVec.ofInt 64 (a:Int) &&& BitVec.ofInt 64 (b:Int)).toNat:Nat):Int)=_
  rw[h1];exact dL ⟨by omega,by omega⟩
 simp[cA,eJ,h3]
theorem JR(a b:Nat)(ha:a<4611686018427387904)(hb:b<4611686018427387904):cA .or (.int .i64 (a:Int)) (.int .i64 (b:Int))=some (.int .i64 ((a|||b:Nat):Int)):=by
 have h1:(BitVec.ofInt 64 (a:Int)|||BitVec.ofInt 64 (b:Int)).toNat=a|||b:=by rw[BitVec.toNat_or,k8 (by omega),k8 (by omega)]
 have h2:a|||b<2^62:=Nat.or_lt_two_pow (by omega) (by omega);have h3:Go.Am.bits .or .i64 (a:Int) (b:Int)=((a|||b:Nat):Int):=by
  show IntKind.i64.wrap (((BitVec.ofInt 64 (a:Int)|||BitVec.ofInt 64 (b:Int)).toNat:Nat):Int)=_
  rw[h1];exact dL ⟨by omega,by omega⟩
 simp[cA,eJ,h3]
def kG(a b:Nat):Nat:=a &&& (2^64-(b+1))
theorem R5{b:Nat}(hb:b<9223372036854775808)(a i:Nat)(ha:a<9223372036854775808):(kG a b).testBit i=(a.testBit i&&!b.testBit i):=by
 rw[kG,Nat.testBit_and,Nat.testBit_two_pow_sub_succ (by omega)];by_cases hi:i<64
 ·simp[hi]
 ·have:a.testBit i=false:=Nat.testBit_lt_two_pow (Nat.lt_of_lt_of_le (show a<2^63 by omega) (Nat.pow_le_pow_right (by omega) (by omega)));simp[this]
theorem LT(a b:Nat):kG a b<=a:=Nat.and_le_left
theorem VJ(a b:Nat)(ha:a<9223372036854775808)(hb:b<9223372036854775808):cA .andNot (.int .i64 (a:Int)) (.int .i64 (b:Int))=some (.int .i64 ((kG a b:Nat):Int)):=by
 have h1:(BitVec.ofInt 64 (a:Int) &&& ~~~BitVec.ofInt 64 (b:Int)).toNat=kG a b:=by
  rw[BitVec.toNat_and,BitVec.toNat_not,k8 ha,k8 hb,kG]
  congr 1
  omega
 have h2:=LT a b;have h3:Go.Am.bits .andNot .i64 (a:Int) (b:Int)=((kG a b:Nat):Int):=by
  show IntKind.i64.wrap (((BitVec.ofInt 64 (a:Int) &&& ~~~BitVec.ofInt 64 (b:Int)).toNat:Nat):Int)=_
  rw[h1];exact dL ⟨by omega,by omega⟩
 simp[cA,eJ,h3]
theorem B4{i:Nat}(h:i<=60):2^i<=1152921504606846976:=by
 calc 2^i<=2^60:=Nat.pow_le_pow_right (by omega) h
  _=1152921504606846976:=by decide
theorem v5(i:Nat)(h:i<=60):cA .shl (.int .i64 1) (.int .i64 (i:Int))=some (.int .i64 ((2^i:Nat):Int)):=by
 have hm:Nat.min i 64=i:=Nat.min_eq_left (by omega);have h0:¬(i:Int)<0:=by omega
 have hp:=B4 h;have hc:(1:Int)*2^i=((2^i:Nat):Int):=by rw[Int.one_mul];exact (Int.natCast_pow 2 i).symm
 simp only[cA,h0,if_false,IntKind.bits,Int.toNat_natCast,hm,hc];generalize 2^i=q at hp;rw[dL ⟨by omega,by omega⟩]
theorem i9(a i:Nat):a.testBit i=decide (a/2^i%2=1):=Nat.testBit_eq_decide_div_mod_eq
theorem u7{n s:Nat}{x:Int}:x∈lst n s↔(0<=x/\x<n)/\s.testBit x.toNat=true:=by
 simp only[lst,List.mem_filter,aX,i9];constructor
 ·rintro⟨h1,h2⟩;exact⟨by omega,h2⟩
 ·rintro⟨h1,h2⟩;exact⟨by omega,h2⟩
theorem D2{n s i:Nat}(h:i<n):(lst n s).contains (i:Int)=s.testBit i:=by
 rw[Bool.eq_iff_iff,List.contains_iff_mem,u7];simp only[Int.toNat_natCast];constructor
 ·rintro⟨_,h2⟩;exact h2
 ·intro h2;exact⟨⟨by omega,by omega⟩,h2⟩
theorem FV(n s:Nat):lst (n+1) s=lst n s++(if s.testBit n=true then [(n:Int)] else []):=by
 simp only[lst,gW,List.filter_append,Int.zero_add]
 congr 1
 simp only[List.filter_cons,List.filter_nil,Int.toNat_natCast,i9]
theorem Y0{n s t:Nat}(h:∀ i,i<n->s.testBit i=t.testBit i):lst n s=lst n t:=by
 simp only[lst];refine List.filter_congr fun x hx=>?_
 have:=(aX _ _ _).1 hx;rw[<-i9,<-i9,h x.toNat (by omega)]
theorem S7{n s:Nat}(h:s<2^n):lst (n+1) s=lst n s:=by
 rw[FV,Nat.testBit_lt_two_pow h];simp
theorem WG{n s:Nat}(h:s<2^n):lst (n+1) (s|||2^n)=lst n s++[(n:Int)]:=by
 rw[FV,Y0 (t:=s)]
 ·simp[Nat.testBit_or,Nat.testBit_two_pow_self]
 ·intro i hi;rw[Nat.testBit_or,Nat.testBit_two_pow_of_ne (by omega),Bool.or_false]
theorem KQ(a:Nat):((a:Int)==0)=decide (a=0):=by rw[Bool.eq_iff_iff];simp
structure ButIs (b:Nat) (bl:List Int):Prop where
 lt:b<9223372036854775808
 bit:∀ i:Nat,i<5->(((b/2^i%2:Nat):Int)==0) = !bl.contains (i:Int)
theorem JE:ButIs 0 []:=⟨by omega,fun i hi=>by simp⟩
theorem Z4{n set:Nat}(hn:n<=5)(hs:set<2^n):ButIs set (lst n set):=by
 have hp:2^n<=2^5:=Nat.pow_le_pow_right (by omega) hn;refine⟨by omega,fun i hi=>?_⟩;have e:(((set/2^i%2:Nat):Int)==0) = !set.testBit i:=by
  rw[i9,KQ,Bool.eq_iff_iff];simp
 rw[e];by_cases h:i<n
 ·rw[D2 h]
 ·have h1:set.testBit i=false:=Nat.testBit_lt_two_pow (Nat.lt_of_lt_of_le hs (Nat.pow_le_pow_right (by omega) (by omega)));have h2:(lst n set).contains (i:Int)=false:=by
   rw[Bool.eq_false_iff];intro hc;rw[List.contains_iff_mem,u7] at hc;omega
  rw[h1,h2]
end Go.Am.Room
namespace Go.Am.Room.Do
def fT:List Door->Nat->Nat->List Nat
 |[],_,set=>[set]
 |x::xs,h,set=>(if x.sure=true then [] else fT xs (h+1) set)++fT xs (h+1) (set|||2^h)
theorem AA:∀ (xs:List Door) (h set:Nat),set<2^h->∀ a∈fT xs h set,a<2^(h+xs.length)
 |[],h,set,hs,a,ha=>by simp[fT] at ha;subst ha;simpa using hs
 |x::xs,h,set,hs,a,ha=>by
  simp only[fT,List.mem_append] at ha;have e:h+(x::xs).length=(h+1)+xs.length:=by simp;omega
  have h1:set<2^(h+1):=by rw[Nat.pow_succ];omega
  have h2:set|||2^h<2^(h+1):=Nat.or_lt_two_pow h1 (by rw[Nat.pow_succ];have:=Nat.two_pow_pos h;omega);rw[e];rcases ha with ha|ha
  ·split at ha
   ·simp at ha
   ·exact AA xs (h+1) set h1 a ha
  ·exact AA xs (h+1) _ h2 a ha
theorem ZO{v:Voy}(hv:Vd v):∀ a∈fT v.doors 0 0,a<16/\a<2^v.doors.length:=by
 intro a ha;have:=AA v.doors 0 0 (by simp) a ha;rw[Nat.zero_add] at this;have hno:=hv.ndr;exact⟨Nat.lt_of_lt_of_le this (show 2^v.doors.length<=2^4 from Nat.pow_le_pow_right (by omega) hno),this⟩
def goL:List Door->Nat->List Int->List (List Int)
 |[],_,l=>[l]
 |x::xs,h,l=>(sL x h l).flatMap (goL xs (h+1))
theorem xF{v:Voy}{h:Nat}(hh:h<v.doors.length):cM v (h+1)=(cM v h).flatMap (sL v.doors[h] h):=by
 simp only[cM,List.getElem?_eq_getElem hh]
theorem GJ(v:Voy):∀ (k h:Nat),h+k=v.doors.length->(cM v h).flatMap (goL (v.doors.drop h) h)=dM v
 |0,h,hk=>by
  have hh:h=v.doors.length:=by omega
  rw[hh,List.drop_length];have:goL [] v.doors.length=fun l=>[l]:=by funext l;rfl
  rw[this];simp[dM]
 |k+1,h,hk=>by
  have hh:h<v.doors.length:=by omega
  rw[<-GJ v k (h+1) (by omega),xF hh,List.flatMap_assoc,List.drop_eq_getElem_cons hh];rfl
theorem zI:∀ (xs:List Door) (h set:Nat),set<2^h->goL xs h (lst h set)=(fT xs h set).map (lst (h+xs.length))
 |[],h,set,hs=>by simp[goL,fT]
 |x::xs,h,set,hs=>by
  have h1:set<2^(h+1):=by rw[Nat.pow_succ];omega
  have h2:set|||2^h<2^(h+1):=Nat.or_lt_two_pow h1 (by rw[Nat.pow_succ];have:=Nat.two_pow_pos h;omega);have i1:=zI xs (h+1) set h1;have i2:=zI xs (h+1) (set|||2^h) h2;rw[S7 hs] at i1;rw[WG hs] at i2;have e:h+(x::xs).length=h+1+xs.length:=by simp;omega
  rw[e];simp only[goL,sL,fT,List.flatMap_append,List.map_append]
  congr 1
  ·split
   ·rfl
   ·simp[i1]
  ·simp[i2]
theorem NS(v:Voy):dM v=(fT v.doors 0 0).map (lst v.doors.length):=by
 rw[<-GJ v v.doors.length 0 (by omega),List.drop_zero];have:=zI v.doors 0 0 (by simp);rw[Nat.zero_add] at this;rw[<-this];simp[cM,lst,aR]
def hAt(i:Nat):Int:=if i=25 then -1 else (i:Int)
def kS(v:Voy)(op d i:Nat):Bool:=op.testBit d&&inR ((i:Int)-aT v d) v.delay.lo v.delay.hi&&decide ((i:Int)<=v.hours)
def kF(v:Voy)(op:Nat):Nat->Nat->Nat
 |0,i=>if i=25 then 16 else 0
 |d+1,i=>kF v op d i|||(if kS v op d i=true then 2^d else 0)
theorem F6(v:Voy)(op i:Nat):∀ (k d:Nat),(kF v op k i).testBit d=((decide (d<k)&&kS v op d i)||(decide (i=25)&&decide (d=4)))
 |0,d=>by
  simp only[kF];by_cases h:i=25
  ·simp only[h,if_true];rw[show (16:Nat)=2^4 from rfl,Nat.testBit_two_pow];simp;exact eq_comm
  ·simp[h]
 |k+1,d=>by
  simp only[kF,Nat.testBit_or,F6 v op i k d];by_cases h1:d=k
  ·subst h1;cases h2:kS v op d i
   ·simp[h2]
   ·simp[h2,Nat.testBit_two_pow_self]
  ·have h3:(if kS v op k i=true then 2^k else 0).testBit d=false:=by
    split
    ·exact Nat.testBit_two_pow_of_ne (fun e=>h1 e.symm)
    ·simp
   have h4:decide (d<k+1)=decide (d<k):=by rw[decide_eq_decide];omega
   rw[h3,h4,Bool.or_false]
theorem DR(v:Voy)(op i:Nat):∀ k,k<=4->kF v op k i<32
 |0,_=>by simp only[kF];split<;>omega
 |k+1,hk=>by
  simp only[kF];have h1:=DR v op i k (by omega);refine Nat.or_lt_two_pow (n:=5) h1 ?_;split
  ·have:2^k<=2^3:=Nat.pow_le_pow_right (by omega) (by omega);omega
  ·omega
def okL(v:Voy)(bl:List Int)(n i:Nat):Bool:=eT v (n:Int) bl ⟨hAt i,0⟩
def tF(v:Voy)(bl:List Int)(n op i:Nat):Nat:=if okL v bl n i=true then kF v op v.doors.length i else 0
theorem DJ{v:Voy}{lot:Int}{but:List Int}{w u:Tn}(h:w.hour=u.hour):eT v lot but w=eT v lot but u:=by
 simp only[eT,gY,h]
theorem aBZ{v:Voy}(hv:Vd v)(bl:List Int)(n op i:Nat):tF v bl n op i<32:=by
 unfold tF;split
 ·exact DR v op i _ hv.ndr
 ·omega
theorem U2{v:Voy}(hv:Vd v)(op d:Nat):kS v op d 25=false:=by
 have:=hv.hours;have h:decide (((25:Nat):Int)<=v.hours)=false:=by simp;omega
 simp only[kS,h,Bool.and_false]
theorem H0{v:Voy}(hv:Vd v){bl:List Int}{n op i d:Nat}(hi:i<25):(tF v bl n op i).testBit d=true↔d<v.doors.length/\(⟨(i:Int),(d:Int)⟩:Tn)∈bZ v (n:Int) (lst v.doors.length op) bl:=by
 have h25:decide (i=25)=false:=by simp;omega
 have ha:hAt i=(i:Int):=by simp only[hAt];rw[if_neg (by omega)]
 have hok:okL v bl n i=eT v (n:Int) bl ⟨(i:Int),(d:Int)⟩:=by unfold okL;exact DJ (by simp[ha])
 rw[gN,uH];unfold tF;rw[hok];cases h:eT v (n:Int) bl ⟨(i:Int),(d:Int)⟩
 ·simp
 ·simp only[if_true,and_true,F6,h25,Bool.false_and,Bool.or_false,Bool.and_eq_true,decide_eq_true_eq];refine and_congr_right fun hd=>?_
  constructor
  ·intro ho;simp only[kS,Bool.and_eq_true,decide_eq_true_eq,eI] at ho;refine .inr ⟨(d:Int),u7.2 ⟨by omega,by simpa using ho.1.1⟩,qK.2 ⟨rfl,by simp only;omega,by simp only;omega⟩⟩
  ·rintro (e|⟨d',hd',hw⟩)
   ·simp only[Tn.mk.injEq] at e;omega
   ·obtain⟨e1,e2,e3⟩:=qK.1 hw;simp only at e1 e2 e3;subst e1;have:=u7.1 hd';simp only[kS,Bool.and_eq_true,decide_eq_true_eq,eI];exact⟨⟨by simpa using this.2,by omega⟩,by omega⟩
theorem E9{v:Voy}(hv:Vd v){bl:List Int}{n op:Nat}:tF v bl n op 25=(if eT v (n:Int) bl ⟨-1,-1⟩=true then 16 else 0):=by
 have hok:okL v bl n 25=eT v (n:Int) bl ⟨-1,-1⟩:=by unfold okL;exact DJ rfl
 have hr:∀ k,kF v op k 25=16:=by
  intro k
  induction k with
  |zero=>rfl
  |succ k ih=>simp[kF,ih,U2 hv]
 simp only[tF,hok,hr]
theorem M5{v:Voy}{n:Nat}{op bl:List Int}:(⟨-1,-1⟩:Tn)∈bZ v (n:Int) op bl↔eT v (n:Int) bl ⟨-1,-1⟩=true:=by
 rw[gN,uH];simp
theorem JJ{a:Nat}(h:a≠0):∃ d,a.testBit d=true:=Nat.exists_testBit_of_ne_zero h
theorem GY{v:Voy}(hv:Vd v){bl:List Int}{n op i:Nat}(hi:i<26):tF v bl n op i≠0↔∃ w∈bZ v (n:Int) (lst v.doors.length op) bl,w.hour=hAt i:=by
 by_cases h:i=25
 ·subst h;rw[E9 hv];constructor
  ·intro h1;refine⟨⟨-1,-1⟩,M5.2 ?_,rfl⟩;by_cases h2:eT v (n:Int) bl ⟨-1,-1⟩=true
   ·exact h2
   ·rw[if_neg h2] at h1;exact absurd rfl h1
  ·rintro⟨w,hw,e⟩;have h2:=(gN.1 hw).2;rw[DJ (u:=⟨-1,-1⟩) e] at h2;rw[if_pos h2];omega
 ·have hi2:i<25:=by omega
  have ha:hAt i=(i:Int):=by simp only[hAt];rw[if_neg h]
  rw[ha];constructor
  ·intro h1;obtain⟨d,hd⟩:=JJ h1;exact⟨_,((H0 hv hi2).1 hd).2,rfl⟩
  ·rintro⟨w,hw,e⟩ h0;rcases uH.1 (gN.1 hw).1 with e2|⟨d,hd,hww⟩
   ·rw[e2] at e;simp only at e;omega
   ·have hl:=u7.1 hd;have hdw:=(qK.1 hww).1
    have hb:(tF v bl n op i).testBit d.toNat=true:=(H0 hv hi2).2 ⟨by omega,by
     have:(⟨(i:Int),((d.toNat:Nat):Int)⟩:Tn)=w:=by
      cases w;simp only at e hdw;rw[e,hdw];congr 1;omega
     rw[this];exact hw⟩
    rw[h0] at hb;simp at hb
def u6(f:Nat->Nat):Bool:=(List.range 26).all fun i=>decide (f i=0)
theorem RX{v:Voy}(hv:Vd v){bl:List Int}{n op:Nat}:u6 (tF v bl n op)=(bZ v (n:Int) (lst v.doors.length op) bl).isEmpty:=by
 rw[Bool.eq_iff_iff,List.isEmpty_iff];simp only[u6,List.all_eq_true,List.mem_range,decide_eq_true_eq];constructor
 ·intro h;rw[List.eq_nil_iff_forall_not_mem];intro w hw;have hr:w.hour = -1\/(0<=w.hour/\w.hour<=24):=by
   rcases uH.1 (gN.1 hw).1 with e|⟨d,hd,hww⟩
   ·left;rw[e]
   ·have:=(qK.1 hww).2.2;have:=hv.hours;right;omega
  rcases hr with e|e
  ·exact (GY hv (by omega:25<26)).2 ⟨w,hw,e⟩ (h 25 (by omega))
  ·have ha:hAt w.hour.toNat=w.hour:=by simp only[hAt];rw[if_neg (by omega)];omega
   exact (GY hv (by omega:w.hour.toNat<26)).2 ⟨w,hw,ha.symm⟩ (h _ (by omega))
 ·intro h i hi;by_cases h0:tF v bl n op i=0
  ·exact h0
  ·obtain⟨w,hw,_⟩:=(GY hv hi).1 h0;rw[h] at hw;cases hw
def fL(v:Voy)(bl:List Int)(op:Nat):Bool:=(List.range v.lots.toNat).all fun n=>!u6 (tF v bl n op)
def TL(v:Voy)(bl:List Int):List Nat:=(fT v.doors 0 0).filter (fL v bl)
def yA(v:Voy)(bl:List Int)(op:Nat):Truth:=⟨lst v.doors.length op,(List.range v.lots.toNat).map fun (n:Nat)=>bZ v (n:Int) (lst v.doors.length op) bl⟩
theorem jQ{v:Voy}(hv:Vd v)(bl:List Int):aI v bl=(TL v bl).map (yA v bl):=by
 simp only[aI,TL,NS,List.filterMap_map]
 induction fT v.doors 0 0 with
 |nil=>rfl
 |cons op l ih =>
  have hl:fL v bl op=((List.range v.lots.toNat).map fun (n:Nat)=>bZ v (n:Int) (lst v.doors.length op) bl).all (fun x=>!x.isEmpty):=by
   rw[List.all_map];unfold fL
   congr 1
   funext n;simp only[Function.comp_apply,RX hv]
  simp only[List.filterMap_cons,Function.comp_apply,List.filter_cons];cases h:fL v bl op
  ·rw[h] at hl;simp only[nX,<-hl,Bool.false_eq_true,if_false];exact ih
  ·rw[h] at hl;simp only[nX,<-hl,if_true,List.map_cons];rw[ih];rfl
theorem EG{v:Voy}(hv:Vd v)(bl:List Int):(TL v bl).isEmpty=(aI v bl).isEmpty:=by
 rw[jQ hv];simp
theorem UZ{v:Voy}(hv:Vd v){bl:List Int}:∀ t∈TL v bl,t<16/\t<2^v.doors.length:=fun t ht=>ZO hv t (List.mem_filter.1 ht).1
def orF(f g:Nat->Nat)(i:Nat):Nat:=f i|||g i
def iA(v:Voy)(n:Nat):Nat->Nat:=(TL v []).foldl (fun f op=>orF f (tF v [] n op)) fun _=>0
theorem qU(v:Voy)(n i d:Nat):∀ (l:List Nat) (f:Nat->Nat),((l.foldl (fun f op=>orF f (tF v [] n op)) f) i).testBit d=((f i).testBit d||l.any fun op=>(tF v [] n op i).testBit d)
 |[],f=>by simp
 |op::l,f=>by
  rw[List.foldl_cons,qU v n i d l,List.any_cons];simp only[orF,Nat.testBit_or,Bool.or_assoc]
theorem LJ{v:Voy}(hv:Vd v){n i d:Nat}(hn:n<v.lots.toNat)(hi:i<25):(iA v n i).testBit d=true↔d<v.doors.length/\(⟨(i:Int),(d:Int)⟩:Tn)∈cP (aI v []) n:=by
 simp only[iA,qU,Nat.zero_testBit,Bool.false_or,List.any_eq_true,H0 hv hi];rw[fC hn,jQ hv];simp only[List.mem_map];constructor
 ·rintro⟨op,ho,hd,hw⟩;exact⟨hd,_,⟨op,ho,rfl⟩,hw⟩
 ·rintro⟨hd,_,⟨op,ho,rfl⟩,hw⟩;exact⟨op,ho,hd,hw⟩
theorem tJ{v:Voy}(hv:Vd v){n i:Nat}(hn:n<v.lots.toNat)(hi:i<26):iA v n i≠0↔∃ w∈cP (aI v []) n,w.hour=hAt i:=by
 constructor
 ·intro h;obtain⟨d,hd⟩:=JJ h;simp only[iA,qU,Nat.zero_testBit,Bool.false_or,List.any_eq_true] at hd;obtain⟨op,ho,hb⟩:=hd;obtain⟨w,hw,e⟩:=(GY hv (bl:=[]) (n:=n) (op:=op) hi).1 (fun h0=>by rw[h0] at hb;simp at hb);exact⟨w,(fC hn).2 ⟨yA v [] op,by rw[jQ hv];exact List.mem_map.2 ⟨op,ho,rfl⟩,hw⟩,e⟩
 ·rintro⟨w,hw,e⟩ h0;obtain⟨t,ht,hw2⟩:=(fC hn).1 hw;rw[jQ hv] at ht;obtain⟨op,ho,rfl⟩:=List.mem_map.1 ht;obtain⟨d,hd⟩:=JJ ((GY hv hi).2 ⟨w,hw2,e⟩);have:(iA v n i).testBit d=true:=by
   simp only[iA,qU,Nat.zero_testBit,Bool.false_or,List.any_eq_true];exact⟨op,ho,hd⟩
  rw[h0] at this;simp at this
end Go.Am.Room.Do
namespace Go.Am.Room.Do
def gS:=zz @cN (zz @aP (zz @dB (zz @aY (zz @bA (zz @bK (zz @dO (zz @bN (@bL))))))))
theorem RQ(x:Door)(n:Nat)(l:List Int):(sL x n l).length<=2:=by
 simp only[sL,List.length_append];split<;>simp
theorem oU(s:Voy):∀ n,(cM s n).length<=2^n
 |0=>by simp[cM]
 |n+1=>by
  have h1:=oU s n;simp only[cM];split
  ·rename_i x _;have h2:=EK (sL x n) 2 (cM s n) fun c _=>RQ x n c
   rw[Nat.pow_succ];exact Nat.le_trans h2 (Nat.mul_le_mul_right _ h1)
  ·rw[Nat.pow_succ];omega
theorem rP(s:Voy):∀ n,∀ c∈cM s n,c.length<=n
 |0=>by simp[cM]
 |n+1=>by
  intro c hc;simp only[cM] at hc;split at hc
  ·simp only[List.mem_flatMap,sL,List.mem_append] at hc;obtain⟨d,hd,h⟩:=hc;have:=rP s n d hd;rcases h with h|h
   ·split at h
    ·simp at h
    ·simp at h;subst h;omega
   ·simp at h;subst h;simp;omega
  ·have:=rP s n c hc;omega
theorem tH{s:Voy}(hv:Vd s):(dM s).length<=16/\∀ c∈dM s,c.length<=4:=by
 have h:=hv.ndr;refine⟨Nat.le_trans (oU s _) ?_,fun c hc=>Nat.le_trans (rP s _ c hc) h⟩
 calc 2^s.doors.length<=2^4:=Nat.pow_le_pow_right (by omega) h
  _=16:=by decide
theorem UX(s:Voy)(hv:Vd s):aV T 207 [encVoy s] (fA (dM s)):=by
 refine aS (af:=Q2) rfl (by simp[Q2]) dd ?_;have hno:=hv.ndr;rw[show dM s=cM s s.doors.length from rfl];try simp only[↓QA,QB,seval,gS,Q2]
 refine cY (S:=Nat) 0 (fun n=>n<=s.doors.length) (fun n=>s.doors.length-n) (fun n=>[(1,.ptr 0 0),(3,fA (cM s n)),(4,.int .i64 n)]) (fun _=>[.cells (aB s)]) (Nat.zero_le _) (by simp[aB,aK]) ?_ fun n hn=>?_
 ·try simp only[aD,QE,seval,gS]
  simp[fA,aK,cM,clr,clrs]
 ·try simp only[↓QA,QB,seval,gS,SF,fA]
  refine aG (fun h=>?_) fun h=>?_
  ·have hn1:n<s.doors.length:=by simpa using h
   have hwn:IntKind.i64.wrap ((n:Int)+1)=((n+1:Nat):Int):=cB hn1 (by omega)
   have hsl:(cM s n).length<=16:=Nat.le_trans (oU s n) (by
    calc 2^n<=2^4:=Nat.pow_le_pow_right (by omega) (by omega)
     _=16:=by decide)
   have hsl1:(cM s (n+1)).length<=16:=Nat.le_trans (oU s (n+1)) (by
    calc 2^(n+1)<=2^4:=Nat.pow_le_pow_right (by omega) (by omega)
     _=16:=by decide)
   obtain⟨x,hx⟩:∃ x,s.doors[n]=x:=⟨_,rfl⟩;obtain⟨R,hR⟩:∃ R,cM s (n+1)=R:=⟨_,rfl⟩;have hspec:=xF hn1;rw[hR,hx] at hspec;rw[hR] at hsl1;try simp only[↓QA,QB,seval,gS]
   refine qO 5 1 [] rfl ?_;refine cY (S:=Nat×List (List Int)×Bool) (0,[],false) (fun k=>k.1<=(cM s n).length/\k.2.1++((cM s n).drop k.1).flatMap (sL x n)=R) (fun k=>(cM s n).length-k.1)
    (fun k=>[(1,.ptr 0 0),(3,fA (cM s n)),(4,.int .i64 n),(5,.lit (k.2.1.map aK) false (some 1)),(6,.int .i64 k.1)]) (fun k=>[.cells (aB s),.tok 1 k.2.1.length k.2.2]) ⟨Nat.zero_le _,by simp[hspec]⟩ (by simp[aB,aK]) ?_ fun k hk=>?_
   ·try simp only[aD,QE,seval,gS,fA]
    try simp
   ·obtain⟨k,acc,ex⟩:=k;obtain⟨hk,hacc⟩:=hk;simp only at hk hacc;try simp only[↓QA,QB,seval,gS,R6,fA]
    refine aG (fun h2=>?_) fun h2=>?_
    ·have hk1:k<(cM s n).length:=by simpa using h2
     have hmem:=List.getElem_mem hk1;obtain⟨c,hc⟩:∃ c,(cM s n)[k]=c:=⟨_,rfl⟩;rw[hc] at hmem;have hlen:=rP s n c hmem;rw[List.drop_eq_getElem_cons hk1,hc,List.flatMap_cons] at hacc;have hacl:acc.length<=16:=by
      have:=congrArg List.length hacc;simp only[List.length_append] at this;omega
     have hwk:IntKind.i64.wrap ((k:Int)+1)=((k+1:Nat):Int):=cB hk1 (by omega);have a0:∀ (σ:St),bT 1 8 σ (.lit [] true none) (.lit (c.map (.int .i64)) false none)=some ((sN 1 σ (c.map (.int .i64))).1,(sN 1 σ (c.map (.int .i64))).2):=fun σ=>KW ⟨rfl,pD c,by simp[room];omega,by simp[room];omega⟩
     have a1:∀ (σ:St),bT 1 8 (sN 1 σ (c.map (.int .i64))).2 (sN 1 σ (c.map (.int .i64))).1 (.lit [.int .i64 n] true none)=some (.lit (c.map (.int .i64)++[.int .i64 n]) false (some σ.length),σ++[.tok 1 (c.length+1) true]):=fun σ=>by
      rw[CI ⟨pD c,by simp[aF,AV.cells,AV.cell],by simp[room];omega,by simp[room];omega⟩ (by simp)];simp
     have a2:∀ (b:ABlk) (τ:St) (ex:Bool) (xs:List AV) (m:Nat) (y:AV),xs.length=m->m<=20->aF 1 (xs++[y])=true->bT 1 24 (b::.tok 1 m ex::τ) (.lit xs false (some 1)) (.lit [y] true none)=some (.lit (xs++[y]) false (some 1),b::.tok 1 (m+1) true::τ):=fun b τ ex xs m y hm hm2 hal=>by
      simp only[aF,List.all_append,Bool.and_eq_true] at hal;rw[sE (t:=1) (ex:=ex) (sz:=1) ⟨hal.1,hal.2,by simp[room];omega,by simp[room];omega⟩ (by simp) m hm.symm rfl];simp
     have hca:aF 1 (acc.map aK)=true:=BK acc;have hap:=fun (b:ABlk) (τ:St) (ex:Bool) (l:List AV) (f:Bool) (t:Option Nat)=>a2 b τ ex (acc.map aK) acc.length (.lit l f t) (by simp) (by omega) (oY hca)
     have hap2:=fun (b:ABlk) (τ:St) (ex:Bool) (l l2:List AV) (f f2:Bool) (t t2:Option Nat)=>a2 b τ ex (acc.map aK++[.lit l f t]) (acc.length+1) (.lit l2 f2 t2) (by simp) (by omega) (oY (oY hca))
     cases d1:x.sure
     ·have hg:sL x n c=[c,c++[(n:Int)]]:=by simp[sL,d1]
      rw[hg] at hacc;try simp only[↓QA,QB,seval,gS,hk1,hn1,hx,d1,hc,aK,hap,a0,a1,hap2]
      refine⟨(k+1,acc++[c,c++[(n:Int)]],true),⟨by simp only;omega,by simpa using hacc⟩,by simp only;omega,?_⟩;try simp only[aD,QE,seval,gS,hwk,List.map_append,List.length_append,List.map_cons,List.map_nil,fA]
      try simp[aO]
     ·have hg:sL x n c=[c++[(n:Int)]]:=by simp[sL,d1]
      rw[hg] at hacc;try simp only[↓QA,QB,seval,gS,hk1,hn1,hx,d1,hc,aK,a0,a1,hap]
      refine⟨(k+1,acc++[c++[(n:Int)]],true),⟨by simp only;omega,by simpa using hacc⟩,by simp only;omega,?_⟩;try simp only[aD,QE,seval,gS,hwk,List.map_append,List.length_append,List.map_cons,List.map_nil,fA]
      try simp[aO]
    ·have hk1:k=(cM s n).length:=by simp at h2;omega
     have hfin:acc=R:=by rw[<-hacc,hk1,List.drop_length];simp
     try simp only[↓QA,QB,seval,gS]
     refine⟨n+1,by omega,by omega,?_⟩;try simp only[aD,QE,seval,gS,hwn,fA,hfin,hR]
  ·have hn1:n=s.doors.length:=by simp at h;omega
   subst hn1;try simp only[↓QA,QB,seval,gS,fA]
end Go.Am.Room.Do
namespace Go.Am.Room.Do
def bI:=zz @cN (zz @aP (zz @dB (zz @aY (zz @bA (zz @bK (zz @dO (zz @bN (zz @bL (zz @uV (zz @yE (zz @uI (zz @eW (@kR)))))))))))))
theorem w8(l:List Tn):aF 2 (l.map fO)=true:=n9 2 fO l fun y=>by simp[bD,fO,AV.cells,AV.cell]
theorem B7{σ:St}{l:List Tn}{t:Nat}{ex:Bool}(a b:Int)(hl:l.length<=100)(ht:σ[t]? = some (.tok 2 l.length ex)):
  bT 2 16 σ (.lit (l.map fO) false (some t)) (.lit [.agg [.int .i64 a,.int .i64 b]] true none)=some (.lit ((l++[(⟨a,b⟩:Tn)]).map fO) false (some t),σ.set t (.tok 2 (l.length+1) true)):=by
 have h1:aF 2 [fO ⟨a,b⟩]=true:=w8 [⟨a,b⟩];have:=tU (σ:=σ) (sz:=2) (b:=16) (xs:=l.map fO) (ys:=[fO ⟨a,b⟩]) (t:=t) (tk:=none) (f:=true) (ex:=ex) ⟨w8 l,h1,by simp[room];omega,by simp[room];omega⟩ (by simp) (by simpa using ht);simpa[fO] using this
def KN(v:Voy)(d n:Int):Option Tn:=if inR (aT v d+n) 0 v.hours then some ⟨aT v d+n,d⟩ else none
theorem LN(v:Voy)(d:Int):mY v d=(aR v.delay.lo (v.delay.hi+1-v.delay.lo).toNat).filterMap (KN v d):=rfl
theorem SY{v:Voy}(hv:Vd v)(d:Int):(mY v d).length<=9:=by
 have:=hv.delay;rw[LN];refine Nat.le_trans (List.length_filterMap_le _ _) ?_;rw[iK];omega
theorem KR{v:Voy}(hv:Vd v)(op:List Int)(ho:op.length<=4):(hI v op).length<=37:=by
 have:=EK (mY v) 9 op fun d _=>SY hv d
 simp only[hI,List.length_cons];omega
theorem B1{v:Voy}(hv:Vd v)(lot:Int)(op but:List Int)(ho:op.length<=4):(bZ v lot op but).length<=37:=Nat.le_trans (List.length_filter_le _ _) (KR hv op ho)
def lR(v:Voy)(lot:Int)(but:List Int)(t:Tn)(k:Nat):Bool:=(List.range k).all fun i=>match v.looks[i]? with|some x=>gY lot but t i x|none=>true
theorem BT{v:Voy}{k:Nat}(hk:k<v.looks.length)(lot:Int)(but:List Int)(t:Tn):lR v lot but t (k+1)=(lR v lot but t k&&gY lot but t k v.looks[k]):=by
 simp[lR,List.range_succ,List.all_append,hk]
set_option maxHeartbeats 1000000 in
theorem M4(v:Voy)(hv:Vd v)(lot:Int)(op but:List Int)(hop:∀ d∈op,0<=d/\d<v.doors.length)(ho:op.length<=4)(hbu:but.length<9223372036854775808):
  aV T 208 [encVoy v,.int .i64 lot,aK op,aK but] (tns (bZ v lot op but)):=by
 refine aS (af:=VW) rfl (by simp[VW]) dd ?_;have hde:=hv.delay;have hhr:=hv.hours;have hnl:=hv.nlk;have hal:=KR hv op ho;obtain⟨R1,hR1⟩:∃ R1,hI v op=R1:=⟨_,rfl⟩;obtain⟨R,hR⟩:∃ R,bZ v lot op but=R:=⟨_,rfl⟩;have hRf:R1.filter (eT v lot but)=R:=by rw[<-hR1];exact hR
 rw[hR1] at hal;rw[hR];have h0:[(⟨-1,-1⟩:Tn)]++(op.drop 0).flatMap (mY v)=R1:=hR1;obtain⟨K,hK⟩:∃ K,(v.delay.hi+1-v.delay.lo).toNat=K:=⟨_,rfl⟩
 (repeat (first|simp only[↓QA,QB,seval,bI,VW]|refine rd0 rfl ?_))
 refine qO 9 2 [.agg [.int .i64 (-1),.int .i64 (-1)]] rfl ?_;refine cY (S:=Nat×List Tn×Bool) (0,[⟨-1,-1⟩],false) (fun s=>s.1<=op.length/\s.2.1++(op.drop s.1).flatMap (mY v)=R1) (fun s=>op.length-s.1)
  (fun s=>[(1,.int .i64 lot),(2,aK op),(3,aK but),(4,.ptr 0 0),(9,.lit (s.2.1.map fO) false (some 1)),(10,.int .i64 s.1)]) (fun s=>[.cells (aB v),.tok 2 s.2.1.length s.2.2]) ⟨Nat.zero_le _,h0⟩ (by simp[aB,aK]) ?_ fun s hs=>?_
 ·try simp only[aD,QE,seval,bI,List.map_cons,List.map_nil]
  try simp
 ·obtain⟨i,acc,ex⟩:=s;obtain⟨hi,hacc⟩:=hs;simp only at hi hacc
  (repeat (first|simp only[↓QA,QB,seval,bI,Q0]|refine rd0 rfl ?_))
  refine aG (fun h=>?_) fun h=>?_
  ·have hi1:i<op.length:=by simpa using h
   have hwi:=cB hi1 (by omega);have hd:=hop _ (List.getElem_mem hi1);rw[List.drop_eq_getElem_cons hi1,List.flatMap_cons] at hacc;obtain⟨d,hde2⟩:∃ d,op[i]=d:=⟨_,rfl⟩;rw[hde2] at hd hacc;have hd0:0<=d:=hd.1;have hd1:d.toNat<v.doors.length:=by omega
   have hho:=hv.dr _ (List.getElem_mem hd1);have hdh:aT v d=v.doors[d.toNat].hour:=by simp[aT,hd1]
   obtain⟨H,hH⟩:∃ H,v.doors[d.toNat].hour=H:=⟨_,rfl⟩;rw[hH] at hho hdh;rw[LN,hK] at hacc;obtain⟨Z,hZ⟩:∃ Z,(op.drop (i+1)).flatMap (mY v)=Z:=⟨_,rfl⟩;rw[hZ] at hacc
   (repeat (first|simp only[↓QA,QB,seval,bI]|refine rd0 rfl ?_))
   refine cY (S:=Nat×List Tn×Bool) (0,acc,ex) (fun s=>s.1<=K/\s.2.1++((aR (v.delay.lo+(s.1:Int)) (K-s.1)).filterMap (KN v d)++Z)=R1) (fun s=>K-s.1)
    (fun s=>[(1,.int .i64 lot),(2,aK op),(3,aK but),(4,.ptr 0 0),(9,.lit (s.2.1.map fO) false (some 1)),(10,.int .i64 i),(11,.int .i64 (v.delay.lo+(s.1:Int)))]) (fun s=>[.cells (aB v),.tok 2 s.2.1.length s.2.2]) ⟨Nat.zero_le _,by simpa using hacc⟩ (by simp[aB,aK]) ?_ fun s hs=>?_
   ·try simp only[aD,QE,seval,bI]
    try simp
   ·obtain⟨j,acc,ex⟩:=s;obtain⟨hj,hacc⟩:=hs;simp only at hj hacc
    (repeat (first|simp only[↓QA,QB,seval,bI,TX]|refine rd0 rfl ?_))
    refine aG (fun h2=>?_) fun h2=>?_
    ·have hj1:j<K:=by have:=of_decide_eq_true h2;omega
     have hwj:IntKind.i64.wrap (v.delay.lo+(j:Int)+1)=v.delay.lo+((j+1:Nat):Int):=by rw[dL ⟨by omega,by omega⟩];omega
     have hwa:IntKind.i64.wrap (H+(v.delay.lo+(j:Int)))=H+(v.delay.lo+(j:Int)):=dL ⟨by omega,by omega⟩;rw[show K-j=(K-(j+1))+1 by omega] at hacc;simp only[aR,List.filterMap_cons] at hacc;rw[show v.delay.lo+(j:Int)+1=v.delay.lo+((j+1:Nat):Int) by omega] at hacc;have hac:acc.length<=37:=by
      have:=congrArg List.length hacc;simp only[List.length_append] at this;omega
     have hwy:KN v d (v.delay.lo+(j:Int))=if inR (H+(v.delay.lo+(j:Int))) 0 v.hours=true then some ⟨H+(v.delay.lo+(j:Int)),d⟩ else none:=by simp only[KN,hdh]
     rw[hwy] at hacc
     (repeat (first|simp only[↓QA,QB,seval,bI,hi1,hde2,zH,hd0,hd1,hH,hwa]|refine rd0 rfl ?_))
     ((first|refine aE (lQ v (H+(v.delay.lo+(j:Int)))) rfl dd ?_|refine aQ (lQ v (H+(v.delay.lo+(j:Int)))) rfl dd ?_);(repeat (first|simp only[↓QA,QB,seval,bI]|refine rd0 rfl ?_)))
     cases hin:inR (H+(v.delay.lo+(j:Int))) 0 v.hours
     ·rw[hin] at hacc;simp only[Bool.false_eq_true,if_false] at hacc
      (repeat (first|simp only[↓QA,QB,seval,bI,hwj]|refine rd0 rfl ?_))
      refine⟨(j+1,acc,ex),⟨by simp only;omega,hacc⟩,by simp only;omega,?_⟩;try simp only[aD,QE,seval,bI,hwj]
      try simp[aO]
     ·rw[hin] at hacc;simp only[if_true] at hacc;have hap:=fun (b0:ABlk) (τ:St)=>B7 (σ:=b0::.tok 2 acc.length ex::τ) (l:=acc) (t:=1) (ex:=ex) (H+(v.delay.lo+(j:Int))) d (by omega) rfl
      (repeat (first|simp only[↓QA,QB,seval,bI,hi1,hde2,hap,hwj]|refine rd0 rfl ?_))
      refine⟨(j+1,acc++[⟨H+(v.delay.lo+(j:Int)),d⟩],true),⟨by simp only;omega,by rw[<-hacc];simp⟩,by simp only;omega,?_⟩;try simp only[aD,QE,seval,bI,hwj,List.map_append,List.map_cons,List.map_nil]
      try simp[aO]
    ·have hj1:j=K:=by have:=of_decide_eq_false h2;omega
     rw[hj1,Nat.sub_self] at hacc;simp only[aR,List.filterMap_nil,List.nil_append] at hacc
     (repeat (first|simp only[↓QA,QB,seval,bI,hwi]|refine rd0 rfl ?_))
     refine⟨(i+1,acc,ex),⟨by simp only;omega,by simp only;rw[hZ];exact hacc⟩,by simp only;omega,?_⟩;try simp only[aD,QE,seval,bI,hwi]
     try simp[aO]
  ·have hi1:i=op.length:=by simp at h;omega
   rw[hi1,List.drop_length] at hacc;simp only[List.flatMap_nil,List.append_nil] at hacc;subst hacc;have hRf':[]++(acc.drop 0).filter (eT v lot but)=R:=hRf
   (repeat (first|simp only[↓QA,QB,seval,bI]|refine rd0 rfl ?_))
   refine qO 13 2 [] rfl ?_;refine cY (S:=Nat×List Tn×Bool) (0,[],false) (fun s=>s.1<=acc.length/\s.2.1.length<=s.1/\s.2.1++(acc.drop s.1).filter (eT v lot but)=R) (fun s=>acc.length-s.1)
    (fun s=>[(1,.int .i64 lot),(3,aK but),(4,.ptr 0 0),(9,.lit (acc.map fO) false (some 1)),(13,.lit (s.2.1.map fO) false (some 2)),(14,.int .i64 s.1)]) (fun s=>[.cells (aB v),.tok 2 acc.length ex,.tok 2 s.2.1.length s.2.2]) ⟨Nat.zero_le _,by simp,hRf'⟩ (by simp[aB,aK]) ?_ fun s hs=>?_
   ·try simp only[aD,QE,seval,bI]
    try simp
   ·obtain⟨i,out,ex2⟩:=s;obtain⟨hi,hol,hout⟩:=hs;simp only at hi hol hout
    (repeat (first|simp only[↓QA,QB,seval,bI,UQ]|refine rd0 rfl ?_))
    refine aG (fun h=>?_) fun h=>?_
    ·have hi1:i<acc.length:=by simpa using h
     have hwi:=cB hi1 (by omega);rw[List.drop_eq_getElem_cons hi1,List.filter_cons] at hout;obtain⟨w,hw⟩:∃ w,acc[i]=w:=⟨_,rfl⟩;rw[hw] at hout
     (repeat (first|simp only[↓QA,QB,seval,bI]|refine rd0 rfl ?_))
     refine cY (S:=Nat) 0 (fun k=>k<=v.looks.length) (fun k=>v.looks.length-k)
      (fun k=>[(1,.int .i64 lot),(3,aK but),(4,.ptr 0 0),(9,.lit (acc.map fO) false (some 1)),(13,.lit (out.map fO) false (some 2)),(14,.int .i64 i),(15,.bool (lR v lot but w k)),(16,.int .i64 k)]) (fun _=>[.cells (aB v),.tok 2 acc.length ex,.tok 2 out.length ex2]) (Nat.zero_le _) (by simp[aB,aK]) ?_ fun k hk=>?_
     ·try simp only[aD,QE,seval,bI]
      try simp[lR]
     ·(repeat (first|simp only[↓QA,QB,seval,bI,UA]|refine rd0 rfl ?_))
      refine aG (fun h2=>?_) fun h2=>?_
      ·have hk1:k<v.looks.length:=by simpa using h2
       have hwk:=cB hk1 (by omega);have hsu:=BT hk1 lot but w;obtain⟨x,hx⟩:∃ x,v.looks[k]=x:=⟨_,rfl⟩;rw[hx] at hsu;simp only[gY] at hsu;have hxl:decide (x.lot=lot)=(x.lot==lot):=by rw[Bool.eq_iff_iff];simp
       rw[hxl] at hsu;cases hc:lR v lot but w k
       ·rw[hc,Bool.false_and] at hsu
        (repeat (first|simp only[↓QA,QB,seval,bI,hk1,hx,hwk]|refine rd0 rfl ?_))
        refine⟨k+1,by omega,by omega,?_⟩;try simp only[aD,QE,seval,bI,hwk,hsu]
        try simp[aO]
       ·rw[hc,Bool.true_and] at hsu;cases hl:(x.lot==lot)
        ·rw[hl] at hsu;simp only[Bool.not_false,Bool.true_or] at hsu
         (repeat (first|simp only[↓QA,QB,seval,bI,hk1,hx,hl,hwk]|refine rd0 rfl ?_))
         refine⟨k+1,by omega,by omega,?_⟩;try simp only[aD,QE,seval,bI,hwk,hsu]
         try simp[aO]
        ·rw[hl] at hsu;simp only[Bool.not_true,Bool.false_or] at hsu
         (repeat (first|simp only[↓QA,QB,seval,bI,hk1,hx,hl]|refine rd0 rfl ?_))
         ((first|refine aE (EE but (k:Int) hbu) rfl dd ?_|refine aQ (EE but (k:Int) hbu) rfl dd ?_);(repeat (first|simp only[↓QA,QB,seval,bI]|refine rd0 rfl ?_)))
         cases hb:but.contains (k:Int)
         ·rw[hb,Bool.false_or] at hsu
          (repeat (first|simp only[↓QA,QB,seval,bI,hi1,hw]|refine rd0 rfl ?_))
          ((first|refine aE (Q7 x w.hour) rfl dd ?_|refine aQ (Q7 x w.hour) rfl dd ?_);(repeat (first|simp only[↓QA,QB,seval,bI,hi1,hw,hwk]|refine rd0 rfl ?_)))
          refine⟨k+1,by omega,by omega,?_⟩;try simp only[aD,QE,seval,bI,hwk,hsu]
          try simp[aO]
         ·rw[hb,Bool.true_or] at hsu
          (repeat (first|simp only[↓QA,QB,seval,bI,hwk]|refine rd0 rfl ?_))
          refine⟨k+1,by omega,by omega,?_⟩;try simp only[aD,QE,seval,bI,hwk,hsu]
          try simp[aO]
      ·have hk1:k=v.looks.length:=by simp at h2;omega
       subst hk1;have hto:lR v lot but w v.looks.length=eT v lot but w:=rfl;rw[hto];cases hc:eT v lot but w
       ·rw[hc] at hout;simp only[Bool.false_eq_true,if_false] at hout
        (repeat (first|simp only[↓QA,QB,seval,bI,hwi]|refine rd0 rfl ?_))
        refine⟨(i+1,out,ex2),⟨by simp only;omega,by simp only;omega,hout⟩,by simp only;omega,?_⟩;try simp only[aD,QE,seval,bI,hwi]
        try simp[aO]
       ·rw[hc] at hout;simp only[if_true] at hout;have hap:=fun (b0 b1:ABlk) (τ:St)=>B7 (σ:=b0::b1::.tok 2 out.length ex2::τ) (l:=out) (t:=2) (ex:=ex2) w.hour w.door (by omega) rfl
        (repeat (first|simp only[↓QA,QB,seval,bI,hi1,hw,hap,hwi]|refine rd0 rfl ?_))
        refine⟨(i+1,out++[w],true),⟨by simp only;omega,by simp only[List.length_append,List.length_cons,List.length_nil];omega,by rw[<-hout];simp⟩,by simp only;omega,?_⟩;try simp only[aD,QE,seval,bI,hwi,List.map_append,List.map_cons,List.map_nil]
        try simp[aO]
    ·have hi1:i=acc.length:=by simp at h;omega
     rw[hi1,List.drop_length] at hout;simp only[List.filter_nil,List.append_nil] at hout;subst hout
     (repeat (first|simp only[↓QA,QB,seval,bI,tns]|refine rd0 rfl ?_))
end Go.Am.Room.Do
