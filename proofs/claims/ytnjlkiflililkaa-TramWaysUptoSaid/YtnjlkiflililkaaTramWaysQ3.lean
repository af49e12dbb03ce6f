/- A part of the proof of TramWays: an abstract machine, or what functions come to on it. -/
import Derived.Test.YtnjlkiflililkaaTramWaysQ2
import Derived.WalkKit
import Derived.ChangeArms
import Derived.SizedLaws
import Derived.ChangeBears
import Derived.ChangeShapes
import Derived.WideShapes
import Derived.ProofKit
import Derived.OpenShut
import Derived.Lib.Strings
import Derived.Laws.RangeAny
set_option linter.unusedVariables false
set_option linter.unusedSimpArgs false
set_option linter.defProp false
namespace Go.Am
variable {P:Program} {hh:String→Bool} {G G0 G1 G2 G':Gh} {w w0 w1 w2 w':World} {σ σ' σ1 σ2:St} {env env':Env} {n m m':Nat} {v:AV} {a:Act} {Q R:Out→Prop}
theorem HG {c:ACode} (h:cH P hh (.code c env σ) R) (h1:∀ o,R o→Q o∨∃ env'' σ'',vP σ o.env o.σ env'' σ''∧Q ⟨o.j,env'',σ'',o.v⟩):cH P hh (.code c env σ) Q:=by
 intro F n cd G w a B f1 f2 f3 f4 f5 f6
 refine (h f1 f2 (f3.ghost (G':=G.shut σ) rfl rfl rfl rfl) f4.shut (f5.mono fun r e=>e) f6).mono fun e a' w' hp=>?_
 obtain ⟨o,G1,q1,q2,q3,q4,q5,q6⟩:=hp
 rcases h1 o q1 with hq|⟨env'',σ'',⟨t1,t2,t3,t4⟩,hq⟩
 ·refine ⟨o,{ G1 with res:=G.res },hq,q2,q3.ghost rfl rfl rfl rfl,q4.reserve _ fun id x e=>?_,?_,q6.mono fun r e=>e⟩
  ·exact q4.res id x (q5.res _ _ ((jJ f4).res _ _ e))
  ·have h2:=(jJ f4).trans q5
   exact ⟨h2.loc,h2.lim,h2.tok,h2.own,h2.defs,h2.B0,h2.h0,h2.os,h2.tape,h2.output,h2.size,fun _ _ e=>e⟩
 have hL:=lW (m:=σ''.length) q4 G.res
 refine ⟨_,G1.cut w' o.σ σ''.length G.res,hq,q2,⟨q3.1,fun t=>?_⟩,FH f4 q5 q4 q3 t1 t2 t4,tB f4 q5 q4 t1,q6.mono fun r e=>e⟩
 show RelV _ _ (Env.get env'' t) _
 rcases uV t3 t with hu|hu
 ·rw [hu];exact .undef _
 ·exact (q3.2 t).thin q4 hL hu
theorem GR {a0:ACode} {az:List ACode} {c:ACode} {S:Env→St→Prop} (h:cH P hh (.chain (a0::az) env σ) R) (h1:∀ o,R o→o.j≠none→Q o)
  (h2:∀ o,R o→o.j=none→∃ env1 σ1 env2 σ2,vP σ o.env o.σ env1 σ1∧((env2=env1∧σ2=σ1)∨JU σ.length env1 σ1 env2 σ2)∧S env2 σ2)
  (h3:∀ env2 σ2,S env2 σ2→cH P hh (.code c env2 σ2) Q):cH P hh (.code (GZ (a0::az) c) env σ) Q:=by
 intro F n cd G w a B f1 f2 f3 f4 f5 f6
 have hwp:∀ K,cd.wpIn F 0 P K a w→wpL F P cd K a w:=by
  intro K hk
  simp only [GZ] at f2
  obtain ⟨x,y,rfl,_⟩:=zF f2
  exact hk
 refine hwp _ (h f1 f2 (f3.ghost (G':=G.shut σ) rfl rfl rfl rfl) f4.shut (f5.mono fun r e=>e) f6 (fun d o G1 a' w' p1 p2 p3 p4 p5 p6 p7 p8=>?_) fun o G1 a' w' p1 p2 p3 p4 p5 p6=>?_)
 ·obtain ⟨env1,σ1,env2,σ2,⟨t1,t2,t3,t4⟩,ht,hs⟩:=h2 o p3 p4
  have hL:=lW (m:=σ1.length) p6 G.res
  have hE1:eE (G1.cut w' o.σ σ1.length G.res) w' n env1 a'.tmps:=by
   refine ⟨p5.1,fun t=>?_⟩
   rcases uV t3 t with hu|hu
   ·rw [hu];exact .undef _
   ·exact (p5.2 t).thin p6 hL hu
  have hS1:=FH f4 p7 p6 p5 t1 t2 t4
  have hV1:=tB f4 p7 p6 t1
  have hM1:n6 (G1.cut w' o.σ σ1.length G.res) B a'.defers:=p8.mono fun r e=>e
  rcases ht with ⟨rfl,rfl⟩|ht
  ·exact ((h3 _ _ hs p2 p1 hE1 hS1 hM1 (Nat.le_trans f6 p7.size)).mono fun e a w=>nN.lift hV1).wpIn
  ·obtain ⟨G3,s1,s2,s3,s4⟩:=HJ f4 hV1 hS1 hE1 (fun id r e=>e) ht
   exact ((h3 _ _ hs p2 p1 s2 s1 (hM1.mono fun r e=>by rw [s4];exact e) (Nat.le_trans f6 p7.size)).mono fun e a w=>nN.lift s3).wpIn
 ·refine ⟨o,{ G1 with res:=G.res },h1 o p1 p2,rfl,p3.ghost rfl rfl rfl rfl,p4.reserve _ fun id x e=>?_,?_,p6.mono fun r e=>e⟩
  ·exact p4.res id x (p5.res _ _ ((jJ f4).res _ _ e))
  ·have h2:=(jJ f4).trans p5
   exact ⟨h2.loc,h2.lim,h2.tok,h2.own,h2.defs,h2.B0,h2.h0,h2.os,h2.tape,h2.output,h2.size,fun _ _ e=>e⟩
theorem zW (h:Q ⟨none,env,σ,.undef⟩):cH P hh (.chain [] env σ) Q:=by
 intro F n c0 cd G w a B K f1 f2 f3 f4 f5 f6 f7 f8
 exact f7 cd _ G a w f2 f1 h rfl f3 f4 (.refl _ _) f5
theorem xG {x:ACode} {az:List ACode} (h:cH P hh (.code x env σ) R) (h1:∀ o,R o→o.j=none→cH P hh (.chain az o.env o.σ) Q) (h2:∀ o,R o→o.j≠none→Q o):cH P hh (.chain (x::az) env σ) Q:=by
 intro F n c0 cd G w a B K f1 f2 f3 f4 f5 f6 f7 f8
 simp only [GZ] at f2
 obtain ⟨c,d,rfl,c1,c2⟩:=zF f2
 refine wpIn_seq (wpIn_mono (h (oA f1 fun e=>by simp [mM] at e;exact e.1) c1 f3 f4 f5 f6).wpIn fun e a' w' hp=>?_)
 obtain ⟨o,G',q1,rfl,q3,q4,q5,q6⟩:=hp
 cases hj:o.j with
 |none =>
  refine (h1 o q1 hj) (oA f1 fun e=>by simp [mM] at e;exact e.2) c2 q3 q4 q6 (Nat.le_trans f6 q5.size) (fun d o2 G2 a2 w2 p1 p2 p3 p4 p5 p6 p7 p8=>f7 d o2 G2 a2 w2 p1 p2 p3 p4 p5 p6 (q5.trans p7) p8)
   fun o2 G2 a2 w2 p1 p2 p3 p4 p5 p6=>f8 o2 G2 a2 w2 p1 p2 p3 p4 (q5.trans p5) p6
 |some j =>
  have:=f8 o G' a' w' (h2 o q1 (by rw [hj];simp)) (by rw [hj];simp) q3 q4 q5 q6
  rw [hj] at this
  cases j<;>exact this
theorem RelV.free (hl:∀ b L,G.lim b=some L→(∀ t,G.own b≠some t)→∃ L',G'.lim b=some L'∧L≤L') (ho:∀ b L,G.lim b=some L→(∀ t,G.own b≠some t)→∀ t,G'.own b≠some t) {a:AV} {u:Value} (h:RelV G w a u) (hk:okV 0 a):RelV G' w a u:=by
 have htk:∀ {full tk n base cap},(∀ t,tk=some t→t<0)→kQ G full tk n base cap→kQ G' full tk n base cap:=fun q h=>⟨h.1,h.2.1,fun t e=>absurd (q t e) (by omega)⟩
 have hlit:∀ {xs tk b o sz},(∀ t,tk=some t→t<0)→LitAt G w xs tk b o sz→LitAt G' w xs tk b o sz:=by
  intro xs tk b o sz q ⟨⟨L,q1,q2⟩,q3,q4,q5⟩
  have hn:∀ t,G.own b≠some t:=fun t e=>absurd (q t (q3 t e)) (by omega)
  obtain ⟨L',r1,r2⟩:=hl b L q1 hn
  exact ⟨⟨L',r1,by omega⟩,fun t e=>absurd e (ho b L q1 hn t),q4,q5⟩
 induction h with
 |undef v=>exact .undef v
 |int k n=>exact .int k n
 |bool b=>exact .bool b
 |str s=>exact .str s
 |func e1 e2 _ _ e3 e4=>exact .func e1 e2 (fun i x u q1 q2=>e3 i x u q1 q2 (fN hk.1 q1)) (fun i x u q1 q2=>e4 i x u q1 q2 (fN hk.2 q1))
 |nilFunc=>exact .nilFunc
 |yield h=>exact absurd hk (by simp [okV])
 |ptr h=>exact absurd hk (by simp [okV])
 |nilPtr=>exact .nilPtr
 |lptr ht hi hl _ ih =>
  exact .lptr (fun t e=>absurd (hk.1 t e) (by omega)) hi (hlit hk.1 hl) fun i x j c u q1 q2 q3=>ih i x j c u q1 q2 q3 (uI (fN hk.2 q1) q2)
 |nil ht hb=>exact .nil (htk hk.1 ht) hb
 |lit ht hl _ ih=>exact .lit (htk hk.1 ht) (hlit hk.1 hl) fun i x j c u q1 q2 q3=>ih i x j c u q1 q2 q3 (uI (fN hk.2 q1) q2)
 |ref h hb hc hn=>exact absurd hk (by simp [okV])
 |map h=>exact absurd hk (by simp [okV])
 |nilMap=>exact .nilMap
 |agg h _ ih=>exact .agg h fun i x u q1 q2=>ih i x u q1 q2 (fN hk q1)
 |tuple h _ ih=>exact .tuple h fun i x u q1 q2=>ih i x u q1 q2 (fN hk q1)
theorem RelV.scal {a:AV} {u:Value} (h:RelV G w a u) (hk:Scal a):RelV G' w' a u:=by
 have hs:∀ {xs:List AV},Scals xs→∀ {i:Nat} {x:AV},xs[i]? = some x→Scal x:=by
  intro xs
  induction xs with
  |nil=>intro _ i x e;simp at e
  |cons y ys ih =>
   intro h (i:Nat) (x:AV) e
   cases i with
   |zero=>simp at e;subst e;exact h.1
   |succ i=>exact ih h.2 (by simpa using e)
 induction h with
 |undef v=>exact hk.elim
 |int k n=>exact .int k n
 |bool b=>exact .bool b
 |str s=>exact .str s
 |func e1 e2 _ _ e3 e4=>exact hk.elim
 |nilFunc=>exact hk.elim
 |yield h=>exact hk.elim
 |ptr h=>exact hk.elim
 |nilPtr=>exact hk.elim
 |lptr ht hi hl _ ih=>exact hk.elim
 |@nil full tk base cap ht hb =>
  cases tk with
  |none=>exact .nil ⟨ht.1,ht.2.1,fun t e=>by cases e⟩ hb
  |some t=>exact hk.elim
 |@lit xs full tk b o sz cap ht hl _ ih =>
  cases xs with
  |nil =>
   cases tk with
   |none=>exact .nil ⟨ht.1,ht.2.1,fun t e=>by cases e⟩ (fun e=>by cases e)
   |some t=>exact hk.elim
  |cons x xs=>cases tk<;>exact hk.elim
 |ref h hb hc hn=>exact hk.elim
 |map h=>exact hk.elim
 |nilMap=>exact hk.elim
 |agg h _ ih=>exact .agg h fun i x u q1 q2=>ih i x u q1 q2 (hs hk q1)
 |tuple h _ ih=>exact .tuple h fun i x u q1 q2=>ih i x u q1 q2 (hs hk q1)
open Classical in
noncomputable def Gh.fresh0 (G:Gh) (w:World) (lim:Nat→Option Nat) (old:Nat→Prop):Gh :=
  { loc:=fun _=>none,lim:=lim,tok:=fun _=>none,own:=fun _=>none,defs:=fun _=>False,B0:=w.heap.size
    h0:=w.heap++Array.ofFn (n:=w.heap.size) (fun i=>if old i then CB else .deferred (some [])),res:=fun _=>none }
theorem zK {lim:Nat→Option Nat} {old:Nat→Prop} {b:Nat} (hb:b<w.heap.size):(G.fresh0 w lim old).h0[w.heap.size+b]? = some CB↔old b:=by
 simp only [Gh.fresh0]
 rw [Array.getElem?_append_right (by omega)]
 simp only [Nat.add_sub_cancel_left,Array.getElem?_ofFn,hb,dite_true,Option.some.injEq]
 split
 ·rename_i h;simp [h]
 ·rename_i h;simp [h,CB]
theorem sO {lim:Nat→Option Nat} {old:Nat→Prop} (hl:∀ b L,lim b=some L→old b∧∃ vs T fr,w.heap[b]? = some (.cells vs T fr)∧L≤vs.size):RelS P hh (G.fresh0 w lim old) w [] :=
 ⟨fun _ _ e=>(by cases e),fun _ _ _ e=>(by cases e),fun _ _ _ e=>(by cases e),fun _ _ e=>(by cases e),fun b L e=>by
  obtain ⟨h1,vs,T,fr,h2,h3⟩:=hl b L e
  exact ⟨vs,T,fr,h2,h3,fun hb=>(zK hb).2 h1⟩,fun _ _ _ _ e=>(by cases e),fun _ _ e=>(by cases e),fun _ e=>e.elim,
  fun b hb=>by simp only [Gh.fresh0];rw [Array.getElem?_append_left hb],Nat.le_refl _,fun _ _ e=>(by cases e)⟩
theorem AO {lim:Nat→Option Nat} {old:Nat→Prop} (hS:RelS P hh G w σ) (h1:RelS P hh G1 w' []) (he:Evo (G.fresh0 w lim old) w G1 w') (nl:Nat→Option Nat)
  (hn:∀ b,b<w.heap.size→(nl b=G.lim b)∨(∃ L L',G.lim b=some L∧(∀ t,G.own b≠some t)∧nl b=some L'∧L≤L'∧G1.lim b=some L')) (hn2:∀ b,w.heap.size≤b→nl b=G1.lim b) :
  RelS P hh { G with lim:=nl } w' σ∧Evo G w { G with lim:=nl } w':=by
 have hB:G1.B0=w.heap.size:=he.B0
 have hh0:G1.h0=_:=he.h0
 have heap:∀ b,b<w.heap.size→w'.heap[b]? = w.heap[b]?:=by
  intro b hb
  rw [h1.base b (by omega),hh0]
  simp only [Gh.fresh0]
  rw [Array.getElem?_append_left hb]
 have hsz:w.heap.size≤w'.heap.size:=he.size
 have lt:∀ {b L},G.lim b=some L→b<w.heap.size:=fun e=>by
  obtain ⟨vs,T,fr,q,_⟩:=hS.lim _ _ e
  exact (Array.getElem?_eq_some_iff.1 q).1
 have nlnone:∀ {b},b<w.heap.size→G.lim b=none→nl b=none:=by
  intro b hb e
  rcases hn b hb with h|⟨L,L',q,_⟩
  ·rw [h,e]
  ·rw [q] at e;cases e
 have hev:Evo G w { G with lim:=nl } w':=by
  refine ⟨fun _ _ h=>h,fun b L e=>?_,fun t b n c e=>⟨b,n,c,e,Nat.le_refl _,fun _=>⟨rfl,rfl⟩⟩,fun _ _ _ _ e=>e,fun _ e=>e,rfl,rfl,he.os,he.tape,he.output,hsz,fun _ _ e=>e⟩
  have hb:=lt e
  have hc:∀ k,k<L→w'.cell? ⟨b,k,none⟩=w.cell? ⟨b,k,none⟩:=by
   intro k _
   obtain ⟨vs,T,fr,q,_⟩:=hS.lim _ _ e
   rw [cell_of_row w b k vs T fr q,cell_of_row w' b k vs T fr (by rw [heap b hb];exact q)]
  rcases hn b hb with h|⟨L1,L',q,_,q2,q3,_⟩
  ·exact ⟨L,by show nl b=some L;rw [h,e],Nat.le_refl _,hc⟩
  ·rw [e] at q;cases q;exact ⟨L',q2,q3,hc⟩
 refine ⟨⟨hS.lt,fun id b x e1 e2=>(hS.blk id b x e1 e2).mono hev (heap b (hS.fresh _ _ e1).2.1),hS.inj,fun id b e=>?_,fun b L e=>?_,fun t b n c e=>?_,fun b t e=>?_,fun r e=>?_,fun b hb=>?_,Nat.le_trans hS.size hsz,hS.res⟩,hev⟩
 ·obtain ⟨q1,q2,q3,q4⟩:=hS.fresh id b e
  exact ⟨q1,by omega,nlnone q2 q3,q4⟩
 ·have e:nl b=some L:=e
  by_cases hb:b<w.heap.size
  ·rcases hn b hb with h|⟨L1,L',q,_,q2,q3,q4⟩
   ·rw [h] at e
    obtain ⟨vs,T,fr,p1,p2,p3⟩:=hS.lim b L e
    exact ⟨vs,T,fr,by rw [heap b hb];exact p1,p2,p3⟩
   ·rw [q2] at e
    cases e
    obtain ⟨vs,T,fr,p1,p2,p3⟩:=h1.lim b _ q4
    obtain ⟨_,_,_,_,_,p6⟩:=hS.lim b _ q
    exact ⟨vs,T,fr,p1,p2,p6⟩
  ·rw [hn2 b (by omega)] at e
   obtain ⟨vs,T,fr,p1,p2,p3⟩:=h1.lim b L e
   exact ⟨vs,T,fr,p1,p2,fun hlt=>absurd (Nat.lt_of_lt_of_le hlt hS.size) hb⟩
 ·obtain ⟨sz,ex,q1,q2,q3,q4⟩:=hS.tok t b n c e
  refine ⟨sz,ex,q1,q2,q3,fun hx=>?_⟩
  obtain ⟨bb,vs,T,r1,r2,r3,r4,r5,r6⟩:=q4 hx
  have hb:=lt r3
  refine ⟨bb,vs,T,r1,r2,?_,r4,by rw [heap bb hb];exact r5,r6⟩
  rcases hn bb hb with h|⟨_,_,_,q,_⟩
  ·show nl bb=_;rw [h,r3]
  ·exact absurd r2 (q t)
 ·obtain ⟨q1,q2⟩:=hS.own b t e
  exact ⟨by omega,q2⟩
 ·obtain ⟨q1,q2,q3⟩:=hS.defs r e
  have hr:=(Array.getElem?_eq_some_iff.1 q1).1
  exact ⟨by rw [heap r hr];exact q1,q2,nlnone hr q3⟩
 ·rw [heap b (Nat.lt_of_lt_of_le hb hS.size)]
  exact hS.base b hb
theorem wG {args:List AV} {vs:Array Value} (f:AV→AV) (hf:∀ (i:Nat) (x:AV) (u:Value),args[i]? = some x→vs[i]? = some u→RelV G' w (f x) u) (h:vs.size=args.length):eP G' w (args.map f) vs:=by
 refine ⟨by simp [h],fun i x u e1 e2=>?_⟩
 rw [List.getElem?_map] at e1
 cases e:args[i]? with
 |none=>rw [e] at e1;cases e1
 |some y=>rw [e] at e1;cases e1;exact hf i y u e e2
theorem HU {f:FuncId} {args args0:List AV} (hf:okVs 0 args) (h0:args0=args∨args0=clrs args) (h:cH P hh (.call f args0 []) R) (h1:∀ o,R o→o.σ=[]∧Q ⟨none,[],σ,o.v⟩):cH P hh (.call f args σ) Q:=by
 refine ⟨h.1,fun {G w vs} ha hS=>?_⟩
 let old:Nat→Prop:=fun b=>(∃ L,G.lim b=some L)∧∀ t,G.own b≠some t
 let lim:Nat→Option Nat:=fun b=>match G.own b with|none=>G.lim b|some _=>none
 have hlim:∀ {b L},lim b=some L→G.lim b=some L∧∀ t,G.own b≠some t:=by
  intro b L e
  simp only [lim] at e
  split at e
  ·rename_i hn;exact ⟨e,fun t e'=>by rw [hn] at e';cases e'⟩
  ·cases e
 have hrel0:RelS P hh (G.fresh0 w lim old) w []:=sO fun b L e=>by
  obtain ⟨q1,q2⟩:=hlim e
  obtain ⟨vs,T,fr,p1,p2,_⟩:=hS.lim b L q1
  exact ⟨⟨⟨L,q1⟩,q2⟩,vs,T,fr,p1,p2⟩
 have hv:∀ (i:Nat) (x:AV) (u:Value),args[i]? = some x→vs[i]? = some u→RelV (G.fresh0 w lim old) w x u:=fun i x u e1 e2 =>
  (ha.2 i x u e1 e2).free (fun b L q1 q2=>⟨L,by
   show lim b=_
   simp only [lim]
   cases e:G.own b with
   |none=>exact q1
   |some t=>exact absurd e (q2 t),Nat.le_refl _⟩) (fun _ _ _ _ t e=>by cases e) (fN hf e1)
 have ha0:eP (G.fresh0 w lim old) w args0 vs:=by
  rcases h0 with rfl|rfl
  ·exact ⟨ha.1,hv⟩
  ·rw [fZ]
   exact wG clr (fun i x u e1 e2=>(hv i x u e1 e2).clr) ha.1
 refine (h.2 ha0 hrel0).mono fun e w' hr=>?_
 obtain ⟨r,G1,u,rfl,q1,q2,q3,q4⟩:=hr
 obtain ⟨hσ,hq⟩:=h1 r q1
 rw [hσ] at q3
 have hB:G1.B0=w.heap.size:=q4.B0
 have hold:∀ {b L},b<w.heap.size→G1.lim b=some L→old b:=by
  intro b L hb e
  obtain ⟨_,_,_,_,_,p⟩:=q3.lim b L e
  have:=p (by omega)
  rw [hB,show G1.h0=_ from q4.h0] at this
  exact (zK hb).1 this
 let nl:Nat→Option Nat:=fun b=>if b<w.heap.size then (match G.own b,G.lim b with|none,some _=>G1.lim b|_,l=>l) else G1.lim b
 have hg:=AO hS q3 q4 nl (fun b hb=>by
  simp only [nl,hb,if_true]
  cases e1:G.own b with
  |some t=>left;rfl
  |none =>
   cases e2:G.lim b with
   |none=>left;rfl
   |some L =>
    right
    obtain ⟨L',p1,p2,_⟩:=q4.lim b L (by show lim b=_;simp only [lim,e1,e2])
    exact ⟨L,L',rfl,(fun t e=>by cases e),p1,p2,p1⟩) (fun b hb=>by simp only [nl];rw [if_neg (by omega)])
 refine ⟨_,{ G with lim:=nl },u,rfl,hq,?_,hg.1,hg.2⟩
 refine q2.free (fun b L p1 p2=>⟨L,?_,Nat.le_refl _⟩) (fun b L p1 p2 t e=>?_) (q2.ok q3)
 ·show nl b=_
  simp only [nl]
  split
  ·rename_i hb
   obtain ⟨⟨L0,s1⟩,s2⟩:=hold hb p1
   cases e:G.own b with
   |some t=>exact absurd e (s2 t)
   |none=>rw [s1];exact p1
  ·exact p1
 ·have e:G.own b=some t:=e
  have hb:=(hS.own b t e).1
  exact (hold hb p1).2 t e
theorem D0 {f:FuncId} {args args0 as1:List AV} {d:Nat} (hf:snaps σ 0 d args=some as1) (h0:args0=as1∨args0=clrs as1) (h:cH P hh (.call f args0 []) R) (h1:∀ o,R o→o.σ=[]∧Scal o.v∧Q ⟨none,[],σ,o.v⟩) :
    cH P hh (.call f args σ) Q:=by
  refine ⟨h.1,fun {G w vs} ha hS=>?_⟩
  have hL:=lW (m:=0) hS G.res
  obtain ⟨lim,hlimeq⟩:∃ lim,lim=(G.cut w σ 0 G.res).lim:=⟨_,rfl⟩
  have hrel0:RelS P hh (G.fresh0 w lim fun _=>True) w []:=sO fun b L e=>by
    rw [hlimeq] at e
    refine ⟨trivial,?_⟩
    cases hn:G.lim b with
    |some L' =>
      have:(G.cut w σ 0 G.res).lim b=some L':=by simp [Gh.cut,hn]
      rw [this] at e
      cases e
      obtain ⟨vs,T,fr,p1,p2,_⟩:=hS.lim b _ hn
      exact ⟨vs,T,fr,p1,p2⟩
    |none =>
      obtain ⟨rfl,id,cs,p1,p2,p3⟩:=uN e hn
      obtain ⟨vs,T,q,l,_⟩:=hS.blk _ _ _ p2 p3
      exact ⟨vs,T,(0,0),q,by simp [oU,q]⟩
  have hL':Last σ G 0 (G.fresh0 w lim fun _=>True) :=
    { loc:=fun id b h _=>absurd h (by omega),lim:=fun b L e=>by obtain ⟨L',q⟩:=hL.lim b L e;exact ⟨L',by rw [hlimeq.symm] at q;exact q⟩,tok:=fun t p h _=>absurd h (by omega),own:=fun b t e=>(by cases e),
      frz:=fun id b cs h1 h2 h3=>by
        obtain ⟨⟨L,q1,q2⟩,_⟩:=hL.frz id b cs h1 h2 h3
        exact ⟨⟨L,by rw [hlimeq.symm] at q1;exact q1,q2⟩,fun t e=>by cases e⟩ }
  obtain ⟨hlen,hsp⟩:=dL hf
  have hv:∀ (i:Nat) (y:AV) (u:Value),as1[i]? = some y→vs[i]? = some u→RelV (G.fresh0 w lim fun _=>True) w y u:=fun i y u e1 e2=>by
    obtain ⟨x,p1,p2⟩:=n4 hf e1
    exact oR hS hL' d p2 (ha.2 i x u p1 e2)
  have ha0:eP (G.fresh0 w lim fun _=>True) w args0 vs:=by
    rcases h0 with rfl|rfl
    · exact ⟨by rw [hlen];exact ha.1,hv⟩
    · rw [fZ]
      exact wG clr (fun i x u e1 e2=>(hv i x u e1 e2).clr) (by rw [hlen];exact ha.1)
  refine (h.2 ha0 hrel0).mono fun e w' hr=>?_
  obtain ⟨r,G1,u,rfl,q1,q2,q3,q4⟩:=hr
  obtain ⟨hσ,hs,hq⟩:=h1 r q1
  rw [hσ] at q3
  have hg:=AO hS q3 q4 (fun b=>if b<w.heap.size then G.lim b else G1.lim b) (fun b hb=>by left;simp [hb]) (fun b hb=>by simp;omega)
  exact ⟨_,_,u,rfl,hq,q2.scal hs,hg.1,hg.2⟩
end Go.Am
namespace Go.Am
variable {P:Program} {hh:String→Bool} {G G0 G1 G':Gh} {w w0 w1 w':World} {σ σ' σ1:St} {env env':Env} {n m m':Nat} {v:AV} {a:Act} {Q R S:Out→Prop}
theorem R3 (env:Env) (t:Nat):Env.get env t = .undef∨∃ p∈env,p.1=t∧Env.get env t=p.2:=by
 induction env with
 |nil=>exact .inl rfl
 |cons p env ih =>
  obtain ⟨k,v⟩:=p
  by_cases hk:k=t
  ·exact .inr ⟨(k,v),by simp,hk,by simp [Env.get,hk]⟩
  ·rcases ih with h|⟨p,q1,q2,q3⟩
   ·exact .inl (by simp [Env.get,hk,h])
   ·exact .inr ⟨p,by simp [q1],q2,by simp [Env.get,hk,q3]⟩
theorem LQ {c:ACode} (h:cH P hh (.code c env σ) R) (h1:∀ o,R o→∃ env' m,WE σ o.env o.σ env' m∧Q ⟨o.j,env',o.σ.take m,o.v⟩):cH P hh (.code c env σ) Q:=by
 intro F n cd G w a B f1 f2 f3 f4 f5 f6
 have he0:=jJ f4
 refine (h f1 f2 (f3.ghost (G':=G.shut σ) rfl rfl rfl rfl) f4.shut (f5.mono fun r e=>e) f6).mono fun e a' w' hp=>?_
 obtain ⟨o,G1,q1,q2,q3,q4,q5,q6⟩:=hp
 obtain ⟨env',m,⟨t1,t2,t3,t4⟩,hq⟩:=h1 o q1
 have hkept:S4 σ o.σ m:=⟨t1,t2,t4⟩
 have hless:=(lW (m:=m) q4 G.res).toLess
 refine ⟨_,G1.cut w' o.σ m G.res,hq,q2,⟨q3.1,fun t=>?_⟩,DO f4 q5 q4 hkept,tB f4 q5 q4 t1,q6.mono fun r e=>e⟩
 rcases R3 env' t with hu|⟨p,p1,p2,p3⟩
 ·show RelV _ _ (Env.get env' t) _
  rw [hu]
  exact .undef _
 ·show RelV _ _ (Env.get env' t) _
  obtain ⟨g1,g2⟩:=t3 p p1
  rw [p3]
  have:=q3.2 t
  rw [←p2,←g1] at this
  rw [←p2]
  exact this.less hless g2
theorem GG {c:ACode} (t sz:Nat) (xs:List AV) (ht:Env.get env t = .lit xs true none) (h:cH P hh (.code c ((t,.lit xs false (some σ.length))::env) (σ++[.tok sz xs.length false])) Q):cH P hh (.code c env σ) Q:=by
 intro F n cd G w a B f1 f2 f3 f4 f5 f6
 have hr:=f3.2 t
 rw [ht] at hr
 generalize hu:a.tmps.getD t undef=u at hr
 obtain ⟨base,cap,rfl,htk,hbn⟩:=iR hr
 have hcap:=htk.2.1 rfl
 obtain ⟨G1,hG1⟩:∃ G1:Gh,G1={ G with tok:=fun i=>if i=σ.length then some (base,xs.length,xs.length) else G.tok i }:=⟨_,rfl⟩
 have hlt:∀ {t b n c},G.tok t=some (b,n,c)→t<σ.length:=fun e=>by
  obtain ⟨_,_,q,_⟩:=f4.tok _ _ _ _ e
  exact (List.getElem?_eq_some_iff.1 q).1
 have he:Evo G w G1 w:=by
  rw [hG1]
  refine ⟨fun _ _ h=>h,fun b L h=>⟨L,h,Nat.le_refl _,fun _ _=>rfl⟩,fun t b n c e=>⟨b,n,c,?_,Nat.le_refl _,fun _=>⟨rfl,rfl⟩⟩,fun _ _ _ _ h=>h,fun _ h=>h,rfl,rfl,rfl,rfl,rfl,Nat.le_refl _,fun _ _ h=>h⟩
  have:=hlt e
  simp only [show t≠σ.length by omega,if_false]
  exact e
 have hS1:RelS P hh G1 w (σ++[.tok sz xs.length false]):=by
  have hm:=f4.more [.tok sz xs.length false]
  rw [hG1] at he ⊢
  refine ⟨hm.lt,fun id b x e1 e2=>(hm.blk id b x e1 e2).mono he rfl,hm.inj,hm.fresh,hm.lim,fun t' b k c e=>?_,fun b t' e=>?_,hm.defs,hm.base,hm.size,hm.res⟩
  ·by_cases ht':t'=σ.length
   ·subst ht'
    simp only [if_true,Option.some.injEq,Prod.mk.injEq] at e
    obtain ⟨rfl,rfl,rfl⟩:=e
    exact ⟨sz,false,by simp,Nat.le_refl _,fun _=>rfl,fun h=>by cases h⟩
   ·simp only [ht',if_false] at e
    exact hm.tok _ _ _ _ e
  ·obtain ⟨q1,p,q2⟩:=hm.own b t' e
   refine ⟨q1,p,?_⟩
   obtain ⟨b',n',c'⟩:=p
   have:=hlt q2
   simp only [show t'≠σ.length by omega,if_false]
   exact q2
 have hv:RelV G1 w (.lit xs false (some σ.length)) (.slice base xs.length cap):=by
  have htk':kQ G1 false (some σ.length) xs.length base cap:=by
   refine ⟨htk.1,by simp,fun t' e=>?_⟩
   cases e
   exact ⟨base,xs.length,xs.length,by rw [hG1];simp,Nat.le_refl _,fun _ _=>⟨rfl,hcap.symm⟩⟩
  have hr1:=hr.mono he
  cases hr1 with
  |nil _ hb=>exact .nil htk' hb
  |lit _ hl hc =>
   refine .lit htk' ⟨hl.lim,fun t' e=>?_,hl.size,hl.cells⟩ hc
   have:=hl.own t' e
   cases this
 have hE1:eE G1 w n ((t,.lit xs false (some σ.length))::env) a.tmps:=by
  refine ⟨f3.1,fun t'=>?_⟩
  by_cases htt:t=t'
  ·subst htt
   rw [hu]
   simpa [Env.get] using hv
  ·simpa [Env.get,htt] using (f3.2 t').mono he
 exact (h f1 f2 hE1 hS1 (f5.mono he.defs) f6).mono fun e a w=>nN.lift he
theorem vU:∀ (args:List AV) (k t:Nat),Env.get (eX k args) t=if k≤t then (args[t-k]?).getD .undef else .undef
 |[],k,t=>by simp [eX,Env.get]
 |v::vs,k,t=>by
  simp only [eX,Env.get]
  by_cases hk:k=t
  ·subst hk;simp
  ·rw [if_neg hk,vU vs (k+1) t]
   by_cases hlt:k≤t
   ·rw [if_pos hlt,if_pos (by omega),show t-k=(t-(k+1))+1 by omega]
    rfl
   ·rw [if_neg hlt,if_neg (by omega)]
theorem QM {args:List AV} {vs:Array Value} (h:eP G w args vs) (hn:args.length≤n):eE G w n (eX 0 args) (vs++Array.replicate (n-vs.size) undef):=by
 refine ⟨by have:=h.1;simp;omega,fun t=>?_⟩
 rw [vU]
 simp only [Nat.zero_le,if_true,Nat.sub_zero]
 cases e:args[t]? with
 |none=>simpa using .undef _
 |some x =>
  have ht:t<vs.size:=by rw [h.1];exact (List.getElem?_eq_some_iff.1 e).1
  have:=h.2 t x vs[t] e (Array.getElem?_eq_getElem ht)
  simpa [Array.getD_eq_getD_getElem?,Array.getElem?_append_left ht,Array.getElem?_eq_getElem ht] using this
theorem zX {fn:Func} {af:AFunc} (h:aC P hh fn=some af) :
  ∃ c,fn.body=some c∧comp P hh fn.ntmps c=some af.body∧lK P fn.results.toList=some af.results∧(fn.name== "runtime.NumGoroutine")=false∧af.ntmps=fn.ntmps:=by
 unfold aC at h
 split at h
 ·cases h
 ·rename_i c hb
  split at h
  ·rename_i b rs h1 h2
   split at h
   ·cases h
   ·rename_i hname
    cases h
    exact ⟨c,hb,h1,h2,by simpa using hname,rfl⟩
  ·cases h
theorem J9 {T:FuncId→Option AFunc} (hT:∀ f af,T f=some af→∃ fn,P.funcs[f]? = some fn∧aC P hh fn=some af) {f:FuncId} {args:List AV} {af:AFunc} (hf:T f=some af) (hn:args.length≤af.ntmps)
  (h:cH P hh (.code af.body (eX 0 args) σ) R) (h1:∀ o,R o→(o.j=none∨o.j=some .ret)∧∃ v,fY af.results o.env o.σ=some v∧NF σ o.σ v Q):cH P hh (.call f args σ) Q:=by
 obtain ⟨fn,hfn,hcomp⟩:=hT f af hf
 obtain ⟨c,hb,hc,hres,hname,hnt⟩:=zX hcomp
 have hname':¬fn.name = "runtime.NumGoroutine":=by simpa using hname
 refine ⟨fun vs w=>by simp [callFunc,hfn,hname',hb],fun {G w vs} ha hS=>?_⟩
 refine callsIn_of_wp_marks hfn hb trivial (wpIn_mono (h (F:=Fence.wide) (cd:=c) (n:=fn.ntmps) (G:=G.shut σ) (w:=w) (a:={ tmps:=vs++Array.replicate (fn.ntmps-vs.size) undef,defers:=[] }) (B:=w.heap.size) (.inl rfl) hc ((QM ha (by omega)).ghost rfl rfl rfl rfl) hS.shut
  ⟨[],rfl,List.nodup_nil,fun r hr=>by cases hr⟩ (Nat.le_refl _)).wpIn fun e a' w' hp=>?_)
 obtain ⟨o,G1,q1,rfl,q3,q4,q5,rs,m1,m2,m3⟩:=hp
 obtain ⟨hj,v,hv,hl⟩:=h1 o q1
 have hleave:LeavesInM Fence.wide 0 P fn a'.tmps (fun e w'=>∃ r G' u,e = .returned u∧Q r∧RelV G' w' r.v u∧RelS P hh G' w' r.σ∧Evo G w G' w') a'.defers .returning w':=by
  rw [m1]
  refine v5 rs m2 (fun r hr=>⟨(m3 r hr).1,fun e=>?_⟩) q4 q3 q5 fun G2 w2 s1 s2 s3=>?_
  ·have:=(Array.getElem?_eq_some_iff.1 (hS.defs r e).1).1
   have:=(m3 r hr).2
   omega
  ·obtain ⟨u,r1,r2⟩:=zR s2 s1 hres hv
   obtain ⟨o2,G3,t1,t2,t3,t4⟩:=FR hS s3 s1 r2 hl
   exact ⟨u,r1,o2,G3,u,rfl,t1,t2,t3,t4⟩
 rcases hj with hj|hj<;>rw [hj]<;>exact hleave
theorem RelS.newDef (h:RelS P hh G w σ):RelS P hh { G with defs:=fun x=>G.defs x∨x=w.heap.size } (w.alloc (.deferred (some []))) σ ∧
  Evo G w { G with defs:=fun x=>G.defs x∨x=w.heap.size } (w.alloc (.deferred (some []))):=by
 have h1:=h.alloc (.deferred (some []))
 have he:=i6 h (.deferred (some []))
 refine ⟨⟨h1.lt,fun id b x e1 e2=>(h1.blk id b x e1 e2).ghost rfl rfl rfl rfl,h1.inj,fun id b e=>?_,h1.lim,h1.tok,h1.own,fun r e=>?_,h1.base,h1.size,h1.res⟩,
  ⟨he.loc,he.lim,he.tok,he.own,fun r e=>.inl e,he.B0,he.h0,he.os,he.tape,he.output,he.size,he.res⟩⟩
 ·obtain ⟨q1,q2,q3,q4⟩:=h1.fresh id b e
  refine ⟨q1,q2,q3,fun hd=>hd.elim q4 fun e'=>?_⟩
  have:=(h.fresh id b e).2.1
  omega
 ·rcases e with e|rfl
  ·exact h1.defs r e
  ·refine ⟨by rw [dM,if_pos rfl],h.size,?_⟩
   cases e:G.lim w.heap.size with
   |none=>rfl
   |some L=>have:=oE h e;omega
theorem pN (w:World) (g:Nat) (o:Obj):Part g w (w.putObj g o):=iU w g o
theorem yK {f:AOpd} {g:FuncId} {first cap:List AV} {ps:List Nat} {x y:ACode} (hf:f.ev env = .func g first cap)
  (h:cH P hh (.call g (first++[.yield σ.length]++cap) (σ++[.loop .ready none env ps x y])) R)
  (h1:∀ o,R o→∃ st pend env' ps' a' b',o.σ[σ.length]? = some (.loop st pend env' ps' a' b')∧st≠.busy∧Q ⟨pend,env,o.σ.set σ.length .dead,.undef⟩):cH P hh (.code (.rangeFunc f ps x y) env σ) Q:=by
 intro F n cd G w a B f1 f2 f3 f4 f5 f6
 obtain ⟨fo,pa,c,d,rfl,c1,c2,c3,rfl,c5,c6,c7⟩:=HB f2
 have hF:F=Fence.wide:=by
  rcases f1 with h|⟨l,_,h⟩
  ·exact h
  ·simp [mM] at h
 subst hF
 refine wpIn_rangeFunc fun fn _=>?_
 obtain ⟨hD,heD⟩:=f4.newDef
 obtain ⟨GD,hGD⟩:∃ GD:Gh,GD={ G with defs:=fun z=>G.defs z∨z=w.heap.size }:=⟨_,rfl⟩
 rw [←hGD] at hD heD
 obtain ⟨rec,hrec⟩:∃ rec:Loop,rec={ state:=.ready,pending:=none,fn,tmps:=a.tmps,params:=pa,assign:=c,body:=d,defers:=w.heap.size }:=⟨_,rfl⟩
 have hED:=f3.mono heD
 obtain ⟨hL,heL⟩:=rA (o:=.loop rec) hD (x:=.loop .ready none env pa.toList x y) fun G' he' =>
  ⟨rec,n,by rw [dM,if_pos rfl],by rw [hrec];rfl,by rw [hrec];rfl,by rw [hrec],by rw [hrec];exact c2,by rw [hrec];exact c3,c5,by rw [show rec.tmps=a.tmps by rw [hrec]];exact hED.mono he',by rw [hrec];exact ⟨c6,c7⟩⟩
 rw [show (w.alloc (.deferred (some []))).heap.size=w.heap.size+1 from by simp] at hL heL
 have hr:=bW (a:=a) c1 f3
 rw [hf] at hr
 have heGL:=heD.trans heL
 have hr2:=hr.mono heGL
 generalize hfu:a.eval fo=fu at hr2
 cases hr2 with
 |@func _ _ _ first' cap' e1 e2 e3 e4 =>
  refine ⟨w.heap.size+1,[xO w.heap.size],(w.alloc (.deferred (some []))).alloc (.loop rec),{ target:=.fn (.func g) cap',args:=first'++#[.func (.yield (w.heap.size+1)) #[] #[]] },(w.alloc (.deferred (some []))).alloc (.loop rec),g,
   first'++#[.func (.yield (w.heap.size+1)) #[] #[]]++cap',(w.alloc (.deferred (some []))).alloc (.loop rec),?_,?_,fun _ _=>trivial,?_,(fun h0=>by cases h0),?_⟩
  ·rw [hrec];exact run_enterLoop_outer _ _ _ _ _
  ·simp only [resolve,rangeCall]
   rw [hfu]
   simp [Deferred.ofValue,Act.eval]
  ·simp [invoke,h.1]
  ·have hargs:eP (GD.withLoc σ.length (w.heap.size+1)) ((w.alloc (.deferred (some []))).alloc (.loop rec)) (first++[.yield σ.length]++cap) (first'++#[.func (.yield (w.heap.size+1)) #[] #[]]++cap'):=by
    refine eP.append (eP.append ⟨e1,e3⟩ ⟨rfl,fun i z u q1 q2=>?_⟩) ⟨e2,e4⟩
    match i with
    |0=>simp at q1 q2;subst q1;subst q2;exact .yield dX
    |_+1=>simp at q1
   refine (h.2 hargs hL).mono fun e w3 hr3=>?_
   obtain ⟨o,G3,u,rfl,q1,q2,q3,q4⟩:=hr3
   obtain ⟨st,pend,env',ps',a',b',s1,s2,s3⟩:=h1 o q1
   have hloc:G3.loc σ.length=some (w.heap.size+1):=q4.loc _ _ dX
   obtain ⟨l,k,l1,l2,l3,l4⟩:=q3.blk _ _ _ hloc s1
   have hst:l.state≠.busy:=by
    rw [l2]
    cases st<;>simp [YA] at s2 ⊢
   have hend:=run_endLoop (P:=P) l1 hst
   have hw:=q3.write (y:=.dead) hloc (pN w3 (w.heap.size+1) (.loop { l with state:=.exhausted })) s1 (fun _ _ _ e=>by cases e) trivial
   refine ⟨_,_,hend,?_⟩
   have hevo:=(heGL.trans q4).trans hw.2
   have hmarks:n6 G3 B ({ a with defers:=[xO w.heap.size]++a.defers }:Act).defers:=by
    obtain ⟨rs,m1,m2,m3⟩:=f5
    refine ⟨w.heap.size::rs,by simp [m1],List.nodup_cons.2 ⟨fun hm=>?_,m2⟩,fun r hr=>?_⟩
    ·have:=(Array.getElem?_eq_some_iff.1 (f4.defs _ (m3 _ hm).1).1).1
     omega
    ·rcases List.mem_cons.1 hr with rfl|hr
     ·exact ⟨(heL.trans q4).defs _ (by rw [hGD];exact .inr rfl),f6⟩
     ·exact ⟨hevo.defs _ (m3 r hr).1,(m3 r hr).2⟩
   have hpost:nN P hh G w n B Q (K4 pend) { a with defers:=[xO w.heap.size]++a.defers } (w3.putObj (w.heap.size+1) (.loop { l with state:=.exhausted })) :=
    ⟨_,G3,s3,rfl,f3.mono hevo,hw.1,hevo,hmarks⟩
   rw [l3] at hpost ⊢
   cases pend with
   |none=>exact hpost
   |some j =>
    cases j with
    |ret=>exact wpIn_ret hpost
    |exit id=>exact wpIn_exit hpost
theorem y8:∀ {ps:List Nat} {args:List AV} {us:List Value} {env:Env} {tmps:Array Value},ps.length=args.length→us.length=args.length→(∀ p∈ps,p<n) →
  (∀ (i:Nat) (x:AV) (u:Value),args[i]? = some x→us[i]? = some u→RelV G w x u)→eE G w n env tmps →
  eE G w n (jN env ps args) ((ps.zip us).foldl (fun tmps (t,a)=>tmps.setIfInBounds t a) tmps)
 |[],[],us,env,tmps,_,_,_,_,hE=>by simpa [jN] using hE
 |[],_::_,us,env,tmps,h,_,_,_,_=>by simp at h
 |_::_,[],us,env,tmps,h,_,_,_,_=>by simp at h
 |p::ps,v::args,[],env,tmps,_,h,_,_,_=>by simp at h
 |p::ps,v::args,u::us,env,tmps,h1,h2,h3,h4,hE=>by
  simp only [jN,List.zip_cons_cons,List.foldl_cons]
  refine y8 (by simpa using h1) (by simpa using h2) (fun q hq=>h3 q (List.mem_cons_of_mem _ hq)) (fun i x u e1 e2=>h4 (i+1) x u (by simpa using e1) (by simpa using e2)) ?_
  exact hE.put (a:={ tmps:=tmps,defers:=[] }) (dst:=some p) (fun d e=>by cases e;exact h3 p (by simp)) (h4 0 v u rfl rfl)
theorem EL {r:Nat} {o o':Obj} (hb:w.heap[r]? = some o):(w.putObj r o').heap[r]? = some o':=qC hb
theorem HZ {id:Nat} {args:List AV} {ps:List Nat} {x y:ACode} (hl:σ[id]? = some (.loop .ready none env ps x y)) (hn:ps.length=args.length) (h:cH P hh (.code x (jN env ps args) σ) R)
  (h0:∀ o,R o→o.j=none∧o.σ[id]? = some (.loop .ready none env ps x y)) (h1:∀ o,R o→cH P hh (.code y o.env (o.σ.set id (.loop .busy none env ps x y))) S)
  (h2:∀ o,S o→o.σ[id]? = some (.loop .busy none env ps x y)∧Q ⟨none,[],o.σ.set id (.loop (if o.j=none then .ready else .done) o.j env ps x y),.bool (decide (o.j=none))⟩) :
  cH P hh (.callv (.yield id) args σ) Q:=by
 intro G w fv vs hf ha hS
 cases hf with
 |@yield _ b hloc =>
  obtain ⟨l,n,l1,l2,l3,l4,l5,l6,l7,l8,l9,l10⟩:=hS.blk _ _ _ hloc hl
  have hy:=run_yield (P:=P) (args:=#[]++vs) l1 (by have:=ha.1;rw [←l4] at hn;simp at hn ⊢;omega)
  refine ⟨{ target:=.fn (.yield b) #[],args:=#[]++vs },_,w,by simp [Deferred.ofValue],by simp only [invoke];exact hy,fun {F} o a next Qx hF hnext=>?_⟩
  rw [Oper.uponIn_round]
  refine ⟨fun e=>absurd e hF.depth,hF.round ?_⟩
  have htm:((l.params.zip (#[]++vs)).foldl (fun tmps (t,a)=>tmps.setIfInBounds t a) l.tmps)=((ps.zip vs.toList).foldl (fun tmps (t,a)=>tmps.setIfInBounds t a) l.tmps):=by
   rw [←Array.foldl_toList,Array.toList_zip,←l4]
   simp
  rw [htm]
  have hE:=y8 (G:=G) (w:=w) (env:=env) (tmps:=l.tmps) hn (us:=vs.toList) (by simpa using ha.1) l7 (fun i z u e1 e2=>ha.2 i z u e1 (by simpa using e2)) l8
  refine roundIn_of_wpIn trivial (wpIn_mono (h (F:=Fence.wide.inRound b) (cd:=l.assign) (n:=n) (G:=G) (w:=w) (a:={ tmps:=(ps.zip vs.toList).foldl (fun tmps (t,a)=>tmps.setIfInBounds t a) l.tmps,defers:=[] }) (B:=w.heap.size)
   (.inr ⟨b,rfl,l9⟩) l5 hE hS ⟨[],rfl,List.nodup_nil,fun r hr=>by cases hr⟩ (Nat.le_refl _)).wpIn fun e a1 w1 hp=>?_)
  obtain ⟨o1,G1,q1,rfl,q3,q4,q5,q6⟩:=hp
  obtain ⟨j0,s0⟩:=h0 o1 q1
  rw [j0]
  have hloc1:=q5.loc _ _ hloc
  obtain ⟨r,n1,r1,r2,r3,r4,r5,r6,r7,r8,r9,r10⟩:=q4.blk _ _ _ hloc1 s0
  refine ⟨_,run_beginRound r1 r2,?_⟩
  have hp1:=pN w1 b (.loop { r with state:=.busy })
  have hev1:Evo G1 w1 G1 (w1.putObj b (.loop { r with state:=.busy })):=mH hp1 (q4.fresh _ _ hloc1).2.2.1
  have hw1:=q4.write (y:=.loop .busy none env ps x y) hloc1 hp1 s0 (fun _ _ _ e=>by cases e)
   ⟨{ r with state:=.busy },n1,EL r1,rfl,r3,r4,r5,r6,r7,r8.mono hev1,r9,r10⟩
  -- the body is the record's,from the first look on
  have hbody:comp P hh n l.body=some y:=l6
  refine wpIn_mono (h1 o1 q1 (F:=Fence.wide.inRound b) (cd:=l.body) (n:=n) (G:=G1) (w:=w1.putObj b (.loop { r with state:=.busy })) (a:=a1) (B:=w.heap.size)
   (.inr ⟨b,rfl,l10⟩) hbody (q3.mono hev1) hw1.1 (q6.mono hev1.defs) (Nat.le_trans q5.size hev1.size)).wpIn fun e2 a2 w2 hp2=>?_
  obtain ⟨o2,G2,p1,rfl,p3,p4,p5,p6⟩:=hp2
  obtain ⟨t0,tq⟩:=h2 o2 p1
  have hev2:=(q5.trans hev1).trans p5
  have hloc2:=hev2.loc _ _ hloc
  obtain ⟨z,n2,z1,z2,z3,z4,z5,z6,z7,z8,z9,z10⟩:=p4.blk _ _ _ hloc2 t0
  have fin:∀ (jump:Option Code),jump=o2.j.map GM→∃ v w',(Instr.endRound b jump).run P w2 = .ok v w'∧∃ v',Ending.returned v = .returned v'∧next (a.put o.dst v') w':=by
   intro jump hj
   have hp2:=pN w2 b (.loop { z with state:=if jump.isNone then .ready else .done,pending:=jump })
   have hev3:Evo G2 w2 G2 (w2.putObj b (.loop { z with state:=if jump.isNone then .ready else .done,pending:=jump })):=mH hp2 (p4.fresh _ _ hloc2).2.2.1
   have hnone:jump.isNone=decide (o2.j=none):=by rw [hj];cases o2.j<;>rfl
   have hw2:=p4.write (y:=.loop (if o2.j=none then .ready else .done) o2.j env ps x y) hloc2 hp2 t0 (fun _ _ _ e=>by cases e)
    ⟨{ z with state:=if jump.isNone then .ready else .done,pending:=jump },n2,EL z1,by
     simp only [hnone]
     by_cases hq:o2.j=none<;>simp [hq,YA],hj,z4,z5,z6,z7,z8.mono hev3,z9,z10⟩
   refine ⟨_,_,run_endRound jump z1,_,rfl,?_⟩
   refine hnext _ G2 _ (.bool jump.isNone) tq ?_ hw2.1 (hev2.trans hev3)
   rw [hnone]
   exact .bool _
  cases hj:o2.j with
  |none =>
   obtain ⟨v,w3,g1,v',g2,g3⟩:=fin none (by rw [hj];rfl)
   cases g2
   exact ⟨v,w3,g1,g3⟩
  |some j =>
   cases j with
   |ret =>
    obtain ⟨v,w3,g1,v',g2,g3⟩:=fin (some .ret) (by rw [hj];rfl)
    cases g2
    exact ⟨v,w3,g1,g3⟩
   |exit id' =>
    obtain ⟨v,w3,g1,v',g2,g3⟩:=fin (some (.exit id')) (by rw [hj];rfl)
    cases g2
    exact ⟨v,w3,g1,g3⟩
theorem eE.same {tmps:Array Value} (h:eE G w n env' tmps) (he:∀ t,Env.get env t=Env.get env' t):eE G w n env tmps:=⟨h.1,fun t=>by rw [he];exact h.2 t⟩
theorem GT {c:ACode} (he:∀ t,Env.get env t=Env.get env' t) (h:cH P hh (.code c env' σ) Q):cH P hh (.code c env σ) Q:=by
 intro F n cd G w a B f1 f2 f3 f4 f5 f6
 exact h f1 f2 (f3.same fun t=>(he t).symm) f4 f5 f6
theorem GX {os:List AOper} (he:∀ t,Env.get env t=Env.get env' t) (h:cH P hh (.ops os env' σ) Q):cH P hh (.ops os env σ) Q:=by
 intro F n ops l G w a B R f1 f2 f3 f4 f5 f6
 exact h f1 f2 (f3.same fun t=>(he t).symm) f4 f5 f6
theorem KG {c:ACode} (he:∀ t,Env.get env' t = .undef∨Env.get env' t=Env.get env t∨Env.get env' t=clr (Env.get env t)) (h:cH P hh (.code c env' σ) Q):cH P hh (.code c env σ) Q:=by
 intro F n cd G w a B f1 f2 f3 f4 f5 f6
 refine h f1 f2 ⟨f3.1,fun t=>?_⟩ f4 f5 f6
 rcases he t with e|e|e
 ·rw [e];exact .undef _
 ·rw [e];exact f3.2 t
 ·rw [e];exact (f3.2 t).clr
theorem aAV {T:FuncId→Option AFunc} (hT:∀ f af,T f=some af→∃ fn,P.funcs[f]? = some fn∧aC P hh fn=some af) {t:Task} (h:Run T t Q):cH P hh t Q:=by
 induction h with
 |mono _ hq ih=>exact K0 ih hq
 |skip h=>exact KA h
 |jump h=>exact LX h
 |seq _ _ h2 ih ih1=>exact OT ih ih1 h2
 |cond b hc _ ih=>exact K6 b hc ih
 |block _ h1 ih=>exact H8 ih h1
 |loop _ _ h2 ih ih1=>exact LK ih ih1 h2
 |scope _ ih=>exact HS ih
 |reg _ ih=>exact QO ih fun _ _=>trivial
 |dreg _ ih=>exact LI ih
 |rangeFunc hf _ h1 ih=>exact yK hf ih h1
 |trim _ h1 ih=>exact LQ ih h1
 |trim2 _ h1 ih=>exact HG ih h1
 |frame hf h0 _ h1 ih=>exact HU hf h0 ih h1
 |frameS hf h0 _ h1 ih=>exact D0 hf h0 ih h1
 |chainNil h=>exact zW h
 |chainCons _ _ h2 ih ih1=>exact xG ih ih1 h2
 |chain _ h1 h2 _ ih ih1=>exact GR ih h1 h2 ih1
 |ghost t sz xs ht _ ih=>exact GG t sz xs ht ih
 |reenv he _ ih=>exact GT he ih
 |weak he _ ih=>exact KG he ih
 |reops he _ ih=>exact GX he ih
 |nil h=>exact ND h
 |off hw _ ih=>exact MD hw ih
 |step hw ha _ ih=>exact K7 hw ha ih
 |stepc hw ho _ _ ih ih1=>exact GO hw ho ih ih1
 |stepm hw ho hx hl he hn _ _ ih0 ih1=>exact HV hw ho hx hl he hn ih0 ih1
 |dnil hr h=>exact LT hr h
 |doff hw _ ih=>exact LM hw ih
 |dalloc hw ho _ ih=>exact FD hw ho ih
 |dpure hw hk ha _ ih=>exact G7 hw hk ha ih
 |dread hw hk ha _ ih=>exact HN hw hk ih
 |dact hw hk ha _ ih=>exact J5 hw hk ha ih
 |dcall hw ho _ _ ih ih1=>exact GS hw ho ih ih1
 |callf _ ih=>exact zS ih
 |round hl hn _ h0 _ h2 ih ih1=>exact HZ hl hn ih h0 ih1 h2
 |call hf hn _ h1 ih=>exact J9 hT hf hn ih h1
end Go.Am
namespace Go.Am
variable {P:Program} {hh:String→Bool}
def Gh.start (w:World):Gh:=⟨fun _=>none,fun _=>none,fun _=>none,fun _=>none,fun _=>False,w.heap.size,w.heap,fun _=>none⟩
end Go.Am
namespace Go.Am
open Go.ChangeShapes Go.WideShapes Go.ChangeAt Go.RowKit
variable {P:Program} {hh:String→Bool} {H:Type} {enc:TypeId×Value→H} {w:World} {sp:Nat→Bool} {held:Bool}
def mkV (P:Program) (t:TypeId) (cs:List AV):AV:=match P.underlying t with
 |some (.struct _)=>.agg cs
 |some (.array _ _)=>.agg cs
 |_=>cs.headD .undef
def Typ (P:Program):Nat→TypeId→List AV→Prop
 |0,_,_=>False
 |n+1,t,cs =>
  match P.underlying t with
  |some .bool=>∃ b,cs=[.bool b]
  |some (.int k)=>∃ m,cs=[.int k m]∧(Lit.int k m).wf=true
  |some .string=>∃ s:ByteArray,cs=[.str s]∧s.size≤maxLen
  |some (.slice e)=>∃ ys:List (List AV),cs=[.lit (ys.map (mkV P e)) false none]∧(ys.length≤maxLen∧ys.length*P.bytesOf e≤reachBytes)∧∀ y∈ys,Typ P n e y
  |some (.struct fs)=>∃ parts:List (List AV),cs=parts.flatten∧parts.length=fs.toList.length∧∀ (i:Nat) f p,fs.toList[i]? = some f→parts[i]? = some p→Typ P n f.type p
  |some (.array k e)=>∃ parts:List (List AV),cs=parts.flatten∧parts.length=k∧∀ p∈parts,Typ P n e p
  |_=>False
def HT (P:Program):Nat→TypeId→Bool
 |0,_=>false
 |n+1,t =>
  match P.underlying t with
  |some .bool|some (.int _)|some .string=>true
  |some (.slice e)=>decide (0<P.cellsOf e)&&HT P n e
  |some (.struct fs)=>fs.toList.all fun f=>HT P n f.type
  |some (.array _ e)=>HT P n e
  |_=>false
def O1 (w:World) (b:Nat):Option Nat:=match w.heap[b]? with
 |some (.cells vs _ _)=>some vs.size
 |_=>none
noncomputable def yR (w:World):Gh:=(Gh.start w).fresh0 w (O1 w) fun b=>∃ L,O1 w b=some L
theorem OW (w:World):RelS P hh (yR w) w []:=sO fun b L e=>by
 refine ⟨⟨L,e⟩,?_⟩
 unfold O1 at e
 split at e
 ·rename_i vs T fr h
  simp only [Option.some.injEq] at e
  exact ⟨vs,T,fr,h,by omega⟩
 ·cases e
def tI (G:Gh) (w:World) (az:List AV) (cs:List Value):Prop:=az.length=cs.length∧∀ (i:Nat) a v,az[i]? = some a→cs[i]? = some v→RelV G w a v
theorem tI.nil {G:Gh}:tI G w [] []:=⟨rfl,by simp⟩
theorem tI.app {G:Gh} {az bs:List AV} {cs ds:List Value} (h:tI G w az cs) (k:tI G w bs ds):tI G w (az++bs) (cs++ds):=by
 refine ⟨by simp [h.1,k.1],fun i a v e1 e2=>?_⟩
 by_cases hi:i<az.length
 ·rw [List.getElem?_append_left hi] at e1
  rw [List.getElem?_append_left (by rw [←h.1];exact hi)] at e2
  exact h.2 i a v e1 e2
 ·rw [List.getElem?_append_right (by omega)] at e1
  rw [List.getElem?_append_right (by rw [←h.1];omega),←h.1] at e2
  exact k.2 _ a v e1 e2
theorem tI.one {G:Gh} {a:AV} {v:Value} (h:RelV G w a v):tI G w [a] [v]:=⟨rfl,fun i x u e1 e2=>by
 cases i with
 |zero=>simp at e1 e2;subst e1;subst e2;exact h
 |succ i=>simp at e1⟩
theorem LO {n:Nat} {t:TypeId} {cs:List AV} (h:Typ P n t cs):(mkV P t cs).cells=cs:=by
 cases n with
 |zero=>exact h.elim
 |succ n =>
  simp only [Typ] at h
  unfold mkV
  split at h
  ·rename_i hu;rw [hu];obtain ⟨b,rfl⟩:=h;rfl
  ·rename_i hu;rw [hu];obtain ⟨b,rfl,_⟩:=h;rfl
  ·rename_i hu;rw [hu];obtain ⟨b,rfl,_⟩:=h;rfl
  ·rename_i hu;rw [hu];obtain ⟨b,rfl,_⟩:=h;rfl
  ·rename_i hu;rw [hu];rfl
  ·rename_i hu;rw [hu];rfl
  ·exact h.elim
theorem NO {a:Addr} {v:Value} (h:w.cell? a=some v) (n:Nat):a.add n=⟨a.block,a.off+n,none⟩:=by
 have hs:a.spot=none:=by
  unfold World.cell? at h
  split at h
  ·split at h
   ·cases h
   ·rename_i hs;simpa using hs
  ·cases h
 obtain ⟨b,o,s⟩:=a
 simp only at hs
 subst hs
 unfold Addr.add
 split
 ·rename_i h0;simp [h0]
 ·rfl
theorem SX {b o:Nat} {v:Value} (h:w.cell? ⟨b,o,none⟩=some v):∃ L,O1 w b=some L∧o<L:=by
 unfold World.cell? at h
 split at h
 ·rename_i c T fr hb
  refine ⟨c.size,by simp only at hb;simp [O1,hb],?_⟩
  simp at h
  exact (Array.getElem?_eq_some_iff.1 h).1
 ·cases h
theorem P2 {G:Gh} {n:Nat} {cs:List Value}:∀ (fl:List Field) (o:Nat),(∀ (j:Nat) f,fl[j]? = some f→f.offset=o+((fl.take j).map fun f=>P.cellsOf f.type).sum)→cs.length=o+(fl.map fun f=>P.cellsOf f.type).sum →
  (∀ f∈fl,∃ az,Typ P n f.type az∧tI G w az ((cs.drop f.offset).take (P.cellsOf f.type))) →
  ∃ parts:List (List AV),parts.length=fl.length∧(∀ (i:Nat) f p,fl[i]? = some f→parts[i]? = some p→Typ P n f.type p)∧tI G w parts.flatten (cs.drop o)
 |[],o,_,hl,_=>⟨[],rfl,by simp,by
   have:cs.drop o=[]:=List.drop_of_length_le (by simp at hl;omega)
   rw [this];exact .nil⟩
 |f::fl,o,ho,hl,ht=>by
  have h0:=ho 0 f rfl
  simp only [List.take_zero,List.map_nil,List.sum_nil,Nat.add_zero] at h0
  simp only [List.map_cons,List.sum_cons] at hl
  obtain ⟨az,h1,h2⟩:=ht f (by simp)
  obtain ⟨parts,q1,q2,q3⟩:=P2 fl (o+P.cellsOf f.type) (fun j g hj=>by
   have:=ho (j+1) g (by simpa using hj)
   simp only [List.take_succ_cons,List.map_cons,List.sum_cons] at this
   omega) (by omega) fun g hg=>ht g (List.mem_cons_of_mem _ hg)
  refine ⟨az::parts,by simp [q1],fun i g p e1 e2=>?_,?_⟩
  ·cases i with
   |zero=>simp at e1 e2;subst e1;subst e2;exact h1
   |succ i=>exact q2 i g p (by simpa using e1) (by simpa using e2)
  ·rw [List.flatten_cons]
   have e:cs.drop o=(cs.drop o).take (P.cellsOf f.type)++cs.drop (o+P.cellsOf f.type):=by
    rw [←List.drop_drop,List.take_append_drop]
   rw [e]
   rw [h0] at h2
   exact h2.app q3
theorem VR {G:Gh} {m:Nat} {e:TypeId} {cs:List Value}:∀ (n o:Nat),cs.length=o+n*P.cellsOf e →
  (∀ i,i<n→∃ az,Typ P m e az∧tI G w az ((cs.drop (o+i*P.cellsOf e)).take (P.cellsOf e)))→∃ parts:List (List AV),parts.length=n∧(∀ p∈parts,Typ P m e p)∧tI G w parts.flatten (cs.drop o)
 |0,o,hl,_=>⟨[],rfl,by simp,by
   have:cs.drop o=[]:=List.drop_of_length_le (by simp at hl;omega)
   rw [this];exact .nil⟩
 |n+1,o,hl,ht=>by
  obtain ⟨az,h1,h2⟩:=ht 0 (by omega)
  rw [Nat.zero_mul,Nat.add_zero] at h2
  rw [Nat.add_mul,Nat.one_mul] at hl
  obtain ⟨parts,q1,q2,q3⟩:=VR (e:=e) (cs:=cs) (m:=m) n (o+P.cellsOf e) (by omega) fun i hi=>by
   obtain ⟨az,k1,k2⟩:=ht (i+1) (by omega)
   rw [Nat.add_mul,Nat.one_mul,Nat.add_comm (i*_),←Nat.add_assoc] at k2
   exact ⟨az,k1,k2⟩
  refine ⟨az::parts,by simp [q1],fun p hp=>?_,?_⟩
  ·rcases List.mem_cons.1 hp with rfl|hp
   ·exact h1
   ·exact q2 p hp
  ·rw [List.flatten_cons]
   have e1:cs.drop o=(cs.drop o).take (P.cellsOf e)++cs.drop (o+P.cellsOf e):=by
    rw [←List.drop_drop,List.take_append_drop]
   rw [e1]
   exact h2.app q3
theorem v8 {α:Type} {Q:Nat→α→Prop}:∀ n,(∀ i,i<n→∃ x,Q i x)→∃ l:List α,l.length=n∧∀ (i:Nat) x,l[i]? = some x→Q i x
 |0,_=>⟨[],rfl,by simp⟩
 |n+1,h=>by
  obtain ⟨l,h1,h2⟩:=v8 n fun i hi=>h i (by omega)
  obtain ⟨x,hx⟩:=h n (by omega)
  refine ⟨l++[x],by simp [h1],fun i y e=>?_⟩
  by_cases hi:i<l.length
  ·rw [List.getElem?_append_left hi] at e;exact h2 i y e
  ·rw [List.getElem?_append_right (by omega)] at e
   have:i-l.length=0:=by
    by_cases h0:i-l.length=0
    ·exact h0
    ·rw [List.getElem?_eq_none (by simp;omega)] at e;cases e
   rw [this] at e
   simp at e
   subst e
   rw [show i=n by omega];exact hx
theorem m4 (hl:laidOutB P=true):∀ (n m:Nat) (t:TypeId) (cs:List Value) (x:DataW H×List MemPlace),t<P.types.size→HT P n t=true→DataW.trod enc P w 0 sp held m t cs=some x→(∀ k∈x.1.weights P t,k≤reachBytes) →
  ∃ az,Typ P n t az∧tI (yR w) w az cs
 |0,m,t,cs,x,_,ho,_,_=>by simp [HT] at ho
 |n+1,m,t,cs,x,ht,ho,h,hwt=>by
  simp only [HT] at ho
  split at ho
  ·rename_i hu
   obtain ⟨b,rfl,_⟩:=DataW.trod_bool hu h
   exact ⟨[.bool b],by simp only [Typ,hu];exact ⟨b,rfl⟩,.one (.bool b)⟩
  ·rename_i k hu
   obtain ⟨b,rfl,_,hw⟩:=DataW.trod_int hu h
   exact ⟨[.int k b],by simp only [Typ,hu];exact ⟨b,rfl,hw⟩,.one (.int k b)⟩
  ·rename_i hu
   obtain ⟨s,rfl,_,hs⟩:=DataW.trod_string hu h
   exact ⟨[.str s],by simp only [Typ,hu];exact ⟨s,rfl,hs⟩,.one (.str s)⟩
  ·rename_i e hu
   simp only [Bool.and_eq_true,decide_eq_true_eq] at ho
   rcases DataW.trod_slice hu h with ⟨rfl,_⟩|⟨a,len,cap,elems,rest,m',_,rfl,hxe,_,hlc,hcm,hel,hei,_,_⟩
   ·refine ⟨[.lit [] false none],by simp only [Typ,hu];exact ⟨[],rfl,⟨by simp,by simp⟩,by simp⟩,.one (.nil ⟨Nat.le_refl _,(fun e=>by cases e),(fun t e=>by cases e)⟩ fun _=>rfl)⟩
   ·
    have hws:∀ k∈x.1.weights P t,k≤reachBytes:=hwt
    rw [hxe] at hws
    simp only [DataW.weights,hu,List.mem_cons,List.mem_append,List.length_map] at hws
    have hwl:len*P.bytesOf e≤reachBytes:=by
     have h1:=hws _ (.inl rfl)
     rw [hel] at h1
     exact Nat.le_trans (Nat.mul_le_mul_right _ (Nat.le_add_right _ _)) h1
    have hwe:∀ (d:DataW H),d∈elems.map (·.1)→∀ k∈d.weights P e,k≤reachBytes:=by
     have key:∀ (l:List (DataW H)) (d:DataW H),d∈l→∀ k∈d.weights P e,k∈DataW.weightsAll P e l:=by
      intro l
      induction l with
      |nil=>intro d hd;cases hd
      |cons a l ih =>
       intro d hd k hk
       simp only [DataW.weightsAll,List.mem_append]
       rcases List.mem_cons.1 hd with rfl|hd
       ·exact .inl hk
       ·exact .inr (ih d hd k hk)
     exact fun d hd k hk=>hws k (.inr (.inl (key _ d hd k hk)))
    have hel2:∀ i,i<len→∃ y,Typ P n e y∧∃ vs,w.cells? 0 (a.add (i*P.cellsOf e)) (P.cellsOf e)=some vs∧tI (yR w) w y vs:=by
     intro i hi
     have h1:=hei i hi
     rw [List.getElem?_eq_getElem (by omega),Option.bind_eq_some_iff] at h1
     obtain ⟨vs,q1,q2⟩:=h1
     obtain ⟨y,q3,q4⟩:=m4 hl n m' e vs _ (kid_slice hl ht hu) ho.2 q2 (hwe _ (List.mem_map.2 ⟨_,List.getElem_mem (by omega),rfl⟩))
     exact ⟨y,q3,vs,q1,q4⟩
    obtain ⟨ys,hyl,hys⟩:=v8 len hel2
    refine ⟨[.lit (ys.map (mkV P e)) false none],by
     simp only [Typ,hu]
     refine ⟨ys,rfl,⟨by omega,by rw [hyl];exact hwl⟩,fun y hy=>?_⟩
     obtain ⟨i,hi⟩:=List.getElem?_of_mem hy
     exact (hys i y hi).1,.one ?_⟩
    by_cases h0:len=0
    ·subst h0
     obtain rfl:ys=[]:=List.eq_nil_of_length_eq_zero hyl
     exact .nil ⟨Nat.zero_le _,(fun e=>by cases e),(fun t e=>by cases e)⟩ fun e=>by cases e
    ·
     have hcell:∀ i j,i<len→j<P.cellsOf e→∃ v,w.cell? ((a.add (i*P.cellsOf e)).add j)=some v:=by
      intro i j hi hj
      obtain ⟨y,_,vs,q1,_⟩:=hel2 i hi
      simp only [World.cells?,Nat.zero_le,if_true] at q1
      have hlen:=mapM_some_length q1
      have:=mapM_some_get q1 j j (by simp [hj])
      rw [List.length_range] at hlen
      rw [List.getElem?_eq_getElem (by omega)] at this
      exact ⟨_,this⟩
     obtain ⟨v0,hv0⟩:=hcell 0 0 (by omega) ho.1
     rw [Nat.zero_mul] at hv0
     have ha0:a.add 0=a:=by simp [Addr.add]
     rw [ha0,ha0] at hv0
     have hplain:∀ i,a.add i=⟨a.block,a.off+i,none⟩:=NO hv0
     have hae:a=⟨a.block,a.off,none⟩:=by have:=hplain 0;rw [ha0] at this;simpa using this
     have hplain2:∀ i j,(a.add i).add j=⟨a.block,a.off+(i+j),none⟩:=by
      intro i j
      rw [hplain]
      unfold Addr.add
      split
      ·rename_i h;simp [h]
      ·simp [Nat.add_assoc]
     have hcell2:∀ i j,i<len→j<P.cellsOf e→∃ v,w.cell? ⟨a.block,a.off+(i*P.cellsOf e+j),none⟩=some v:=by
      intro i j hi hj
      have:=hcell i j hi hj
      rw [hplain2] at this
      exact this
     rw [hae,show len=(ys.map (mkV P e)).length by simp [hyl]]
     have hsz:∀ (i:Nat) (x:AV),(ys.map (mkV P e))[i]? = some x→∃ y,ys[i]? = some y∧x=mkV P e y∧x.cells=y:=by
      intro i x hx
      rw [List.getElem?_map] at hx
      cases hy:ys[i]? with
      |none=>rw [hy] at hx;cases hx
      |some y =>
       rw [hy] at hx
       simp at hx
       exact ⟨y,rfl,hx.symm,by rw [←hx,LO (hys i y hy).1]⟩
     have hvl:∀ (i:Nat) y,ys[i]? = some y→y.length=P.cellsOf e:=by
      intro i y hy
      obtain ⟨_,vs,q1,q2⟩:=hys i y hy
      rw [q2.1]
      simp only [World.cells?,Nat.zero_le,if_true] at q1
      rw [mapM_some_length q1,List.length_range]
     refine .lit (sz:=P.cellsOf e) ⟨by simp;omega,(fun e=>by cases e),(fun t e=>by cases e)⟩ ⟨?_,(fun t e=>by cases e),fun i x hx=>?_,fun k hk=>?_⟩ fun i x j c u hx hc hu2=>?_
     ·obtain ⟨v,hv⟩:=hcell2 (len-1) (P.cellsOf e-1) (by omega) (by omega)
      obtain ⟨L,q1,q2⟩:=SX hv
      refine ⟨L,q1,?_⟩
      rw [List.length_map,hyl]
      have:(len-1)*P.cellsOf e+P.cellsOf e=len*P.cellsOf e:=by
       rw [←Nat.succ_mul];congr 1;omega
      omega
     ·obtain ⟨y,q1,q2,q3⟩:=hsz i x hx
      rw [q3];exact hvl i y q1
     ·rw [List.length_map,hyl] at hk
      have hd:k/P.cellsOf e<len:=Nat.div_lt_of_lt_mul (by rw [Nat.mul_comm];exact hk)
      have hm:k%P.cellsOf e<P.cellsOf e:=Nat.mod_lt _ ho.1
      obtain ⟨v,hv⟩:=hcell2 _ _ hd hm
      have:k/P.cellsOf e*P.cellsOf e+k%P.cellsOf e=k:=by rw [Nat.mul_comm];exact Nat.div_add_mod _ _
      rw [this] at hv
      rw [hv];rfl
     ·obtain ⟨y,q1,q2,q3⟩:=hsz i x hx
      rw [q3] at hc
      obtain ⟨_,vs,p1,p2⟩:=hys i y q1
      have hjl:j<P.cellsOf e:=by
       rw [←hvl i y q1]
       exact (List.getElem?_eq_some_iff.1 hc).1
      simp only [World.cells?,Nat.zero_le,if_true] at p1
      have hg:=mapM_some_get p1 j j (by simp [hjl])
      rw [hplain2] at hg
      rw [hu2] at hg
      exact p2.2 j c u hc hg.symm
  ·rename_i fs hu
   rw [List.all_eq_true] at ho
   obtain ⟨xs,m',_,hxe,hcl,hxl,hf⟩:=DataW.trod_struct hu h
   obtain ⟨k1,k2,k3⟩:=kid_struct hl ht hu
   obtain ⟨parts,q1,q2,q3⟩:=P2 (P:=P) (G:=yR w) (w:=w) (n:=n) (cs:=cs) fs.toList 0 (fun j f hj=>by rw [k3 j f hj];omega) (by rw [hcl,k2];omega) fun f hfm=>by
    obtain ⟨i,hi⟩:=List.getElem?_of_mem hfm
    have h1:=hf i f (by simpa using hi)
    have hil:i<xs.length:=by rw [hxl];have:=(List.getElem?_eq_some_iff.1 hi).1;simpa using this
    rw [List.getElem?_eq_getElem hil] at h1
    have hd:(xs.map (·.1))[i]? = some xs[i].1:=by rw [List.getElem?_map,List.getElem?_eq_getElem hil];rfl
    have hty:(fs.toList.map (·.type))[i]? = some f.type:=by rw [List.getElem?_map,hi];rfl
    refine m4 hl n m' f.type _ _ (k1 f hfm) (ho f hfm) h1 fun k hk=>hwt k ?_
    rw [hxe]
    simp only [DataW.weights,hu]
    exact DataW.weights_mem_each hty hd k hk
   rw [List.drop_zero] at q3
   exact ⟨parts.flatten,by simp only [Typ,hu];exact ⟨parts,rfl,q1,q2⟩,q3⟩
  ·rename_i k e hu
   obtain ⟨xs,m',_,hxe,hcl,hxl,hf⟩:=DataW.trod_array hu h
   obtain ⟨k1,k2⟩:=kid_array hl ht hu
   have hwe:∀ (d:DataW H),d∈xs.map (·.1)→∀ q∈d.weights P e,q≤reachBytes:=by
    have key:∀ (l:List (DataW H)) (d:DataW H),d∈l→∀ q∈d.weights P e,q∈DataW.weightsAll P e l:=by
     intro l
     induction l with
     |nil=>intro d hd;cases hd
     |cons a l ih =>
      intro d hd q hq
      simp only [DataW.weightsAll,List.mem_append]
      rcases List.mem_cons.1 hd with rfl|hd
      ·exact .inl hq
      ·exact .inr (ih d hd q hq)
    intro d hd q hq
    refine hwt q ?_
    rw [hxe]
    simp only [DataW.weights,hu]
    exact key _ d hd q hq
   obtain ⟨parts,q1,q2,q3⟩:=VR (P:=P) (G:=yR w) (w:=w) (m:=n) (e:=e) (cs:=cs) k 0 (by rw [hcl,k2];omega) fun i hi=>by
    have h1:=hf i hi
    have hil:i<xs.length:=by omega
    rw [List.getElem?_eq_getElem hil] at h1
    rw [Nat.zero_add]
    exact m4 hl n m' e _ _ k1 ho h1 (hwe _ (List.mem_map.2 ⟨_,List.getElem_mem hil,rfl⟩))
   rw [List.drop_zero] at q3
   exact ⟨parts.flatten,by simp only [Typ,hu];exact ⟨parts,rfl,q1,q2⟩,q3⟩
  ·cases ho
theorem qH (hl:laidOutB P=true) (n:Nat) {t:TypeId} {v:Value} {d:DataW H} {ps:List MemPlace} (ht:t<P.types.size) (ho:HT P n t=true) (hv:Value.okWide P w .any 0 t v) (h:DataW.Trod enc P w 0 sp held t v d ps) (hwt:∀ k∈d.weights P t,k≤reachBytes) :
  ∃ az,Typ P n t az∧RelV (yR w) w (mkV P t az) v:=by
 obtain ⟨m,hm⟩:=h
 obtain ⟨az,h1,h2⟩:=m4 hl n m t _ _ ht ho hm hwt
 refine ⟨az,h1,?_⟩
 have hone:∀ {a:AV},az=[a]→(∀ cs,v≠.agg cs)→RelV (yR w) w a v:=by
  rintro a rfl hx
  have hc:v.cells.toList=[v]:=by cases v<;>first|rfl|exact absurd rfl (hx _)
  rw [hc] at h2
  exact h2.2 0 a v rfl rfl
 cases n with
 |zero=>exact h1.elim
 |succ n =>
  unfold mkV
  simp only [Typ] at h1
  split at h1<;>rename_i hu
  ·obtain ⟨b,rfl⟩:=h1
   rw [hu]
   obtain ⟨c,hc⟩:=okWide_bool hu hv
   exact hone rfl (by rw [hc];intro cs e;cases e)
  ·obtain ⟨b,rfl,_⟩:=h1
   rw [hu]
   obtain ⟨c,hc⟩:=okWide_int hu hv
   exact hone rfl (by rw [hc];intro cs e;cases e)
  ·obtain ⟨b,rfl,_⟩:=h1
   rw [hu]
   obtain ⟨c,hc⟩:=okWide_string hu hv
   exact hone rfl (by rw [hc];intro cs e;cases e)
  ·obtain ⟨b,rfl,_⟩:=h1
   rw [hu]
   obtain ⟨_,_,_,hc⟩:=okWide_slice hu hv
   exact hone rfl (by rw [hc];intro cs e;cases e)
  ·rw [hu]
   unfold Value.okWide at hv
   rw [hu] at hv
   obtain ⟨cs,rfl,_,_⟩:=hv
   refine .agg ?_ fun i a u e1 e2=>?_
   ·have:=h2.1;simpa [Value.cells] using this.symm
   ·exact h2.2 i a u e1 (by simpa [Value.cells] using e2)
  ·rw [hu]
   unfold Value.okWide at hv
   rw [hu] at hv
   obtain ⟨cs,rfl,_,_⟩:=hv
   refine .agg ?_ fun i a u e1 e2=>?_
   ·have:=h2.1;simpa [Value.cells] using this.symm
   ·exact h2.2 i a u e1 (by simpa [Value.cells] using e2)
  ·exact h1.elim
theorem zU {T:FuncId→Option AFunc} (hT:∀ f af,T f=some af→∃ fn,P.funcs[f]? = some fn∧aC P hh fn=some af) {f:FuncId} {az:List AV} {vs:Array Value} {w:World} (ha:eP (yR w) w az vs) (h:Run T (.call f az []) fun o=>o.v = .bool true) :
  Calls P f vs w fun e w'=>e = .returned (.bool true)∧RowKit.Below w.heap.size w w':=by
 have hs:=aAV hT h
 refine (callsIn_wide.1 (hs.2 (G:=yR w) (w:=w) (vs:=vs) ha (OW w))).mono fun e w' hr=>?_
 obtain ⟨r,G',u,rfl,q1,q2,q3,q4⟩:=hr
 rw [q1] at q2
 cases q2
 refine ⟨rfl,q4.os,q4.tape,q4.output,q4.size,fun k hk=>?_⟩
 have hB:G'.B0=w.heap.size:=q4.B0
 have hh0:G'.h0=(yR w).h0:=q4.h0
 rw [q3.base k (by rw [hB];exact hk),hh0]
 simp only [yR,Gh.fresh0]
 rw [Array.getElem?_append_left hk]
theorem EO {G:Gh}:eP G w [] #[]:=⟨rfl,by simp⟩
theorem oK {G:Gh} {a:AV} {v:Value} {az:List AV} {vs:List Value} (h:RelV G w a v) (hs:eP G w az vs.toArray):eP G w (a::az) (v::vs).toArray:=by
 refine ⟨by have:=hs.1;simp at this;simp [this],fun i x u e1 e2=>?_⟩
 cases i with
 |zero=>simp at e1 e2;subst e1;subst e2;exact h
 |succ i=>exact hs.2 i x u (by simpa using e1) (by simpa using e2)
def I1 (P:Program) (n:Nat):List TypeId→List AV→Prop
 |[],cs=>cs=[]
 |t::ts,cs=>∃ a b,cs=a++b∧Typ P n t a∧I1 P n ts b
theorem EK {n:Nat}:∀ (fl:List Field) (parts:List (List AV)),parts.length=fl.length→(∀ (i:Nat) f p,fl[i]? = some f→parts[i]? = some p→Typ P n f.type p)→I1 P n (fl.map Field.type) parts.flatten
 |[],parts,hl,_=>by rw [List.length_eq_zero_iff.1 hl];rfl
 |f::fl,[],hl,_=>by simp at hl
 |f::fl,p::parts,hl,h=>⟨p,parts.flatten,rfl,h 0 f p rfl rfl,EK fl parts (by simpa using hl) fun i g q e1 e2=>h (i+1) g q (by simpa using e1) (by simpa using e2)⟩
theorem HE {n:Nat} {t:TypeId} {fs:Array Field} {cs:List AV} (hu:P.underlying t=some (.struct fs)) (h:Typ P (n+1) t cs):I1 P n (fs.toList.map Field.type) cs:=by
 simp only [Typ,hu] at h
 obtain ⟨parts,rfl,h1,h2⟩:=h
 exact EK fs.toList parts h1 h2
theorem hH {n:Nat} {t:TypeId} {k:IntKind} {cs:List AV} (hu:P.underlying t=some (.int k)) (h:Typ P (n+1) t cs):∃ m,cs=[.int k m]∧(Lit.int k m).wf=true:=by
 simp only [Typ,hu] at h;exact h
theorem R5 {n:Nat} {t:TypeId} {cs:List AV} (hu:P.underlying t=some .string) (h:Typ P (n+1) t cs):∃ s:ByteArray,cs=[.str s]∧s.size≤maxLen:=by
 simp only [Typ,hu] at h;exact h
theorem nU {n:Nat} {t e:TypeId} {cs:List AV} {α:Type} {f:α→AV} {Q:α→Prop} (hu:P.underlying t=some (.slice e)) (h:Typ P (n+1) t cs) (hq:∀ y,Typ P n e y→∃ x,mkV P e y=f x∧Q x):∃ l:List α,cs=[.lit (l.map f) false none]∧(l.length<9223372036854775808∧l.length*P.bytesOf e≤reachBytes)∧∀ x∈l,Q x:=by
 simp only [Typ,hu] at h
 obtain ⟨ys,rfl,⟨h1,h1b⟩,h2⟩:=h
 have key:∀ ys:List (List AV),(∀ y∈ys,Typ P n e y)→∃ l:List α,ys.map (mkV P e)=l.map f∧l.length=ys.length∧∀ x∈l,Q x:=by
  intro ys
  induction ys with
  |nil=>intro _;exact ⟨[],rfl,rfl,by simp⟩
  |cons y ys ih =>
   intro hy
   obtain ⟨x,q1,q2⟩:=hq y (hy y (by simp))
   obtain ⟨l,q3,q4,q5⟩:=ih fun z hz=>hy z (List.mem_cons_of_mem _ hz)
   exact ⟨x::l,by simp [q1,q3],by simp [q4],fun z hz=>by
    rcases List.mem_cons.1 hz with rfl|hz
    ·exact q2
    ·exact q5 z hz⟩
 obtain ⟨l,q1,q2,q3⟩:=key ys h2
 exact ⟨l,by rw [q1],⟨by simp only [maxLen] at h1;omega,by rw [q2];exact h1b⟩,q3⟩
theorem GN {t:TypeId} {fs:Array Field} {cs:List AV} (hu:P.underlying t=some (.struct fs)):mkV P t cs = .agg cs:=by simp [mkV,hu]
theorem Q3 {t:TypeId} {a:AV} (hu:∀ fs,P.underlying t≠some (.struct fs)) (hu2:∀ k e,P.underlying t≠some (.array k e)):mkV P t [a]=a:=by
 unfold mkV
 split
 ·rename_i fs h;exact absurd h (hu fs)
 ·rename_i k e h;exact absurd h (hu2 k e)
 ·rfl
theorem aCY {m:Int} (h:(Lit.int .u8 m).wf=true):0≤m∧m<256:=by
 simp [Lit.wf,IntKind.min,IntKind.max,IntKind.signed,IntKind.bits] at h
 omega
end Go.Am
namespace Go.Am
variable {T:FuncId→Option AFunc}
def k7 (r:Option (AV×St)) (K:AV→St→Prop):Prop :=
 match r with
 |some (v,σ)=>K v σ
 |none=>False
@[congr] theorem V1 {r r':Option (AV×St)} {K:AV→St→Prop} (h:r=r'):k7 r K=k7 r' K:=by rw [h]
@[simp] theorem Z2 (v:AV) (σ:St) (K:AV→St→Prop):k7 (some (v,σ)) K=K v σ:=rfl
@[simp] theorem ZK (K:AV→St→Prop):k7 none K=False:=rfl
@[simp] theorem Z4 (c:Prop) [Decidable c] (r q:Option (AV×St)) (K:AV→St→Prop):k7 (if c then r else q) K=if c then k7 r K else k7 q K:=by split<;>rfl
def y4 (v:AV) (A B:Unit→Prop):Prop :=
 match v with
 |.bool true=>A ()
 |.bool false=>B ()
 |_=>False
@[congr] theorem VW {v v':AV} {A B:Unit→Prop} (h:v=v'):y4 v A B=y4 v' A B:=by rw [h]
@[simp] theorem YM (b:Bool) (A B:Unit→Prop):y4 (.bool b) A B=if b=true then A () else B ():=by cases b<;>rfl
def l0 (v:AV) (want:Bool) (A B:Unit→Prop):Prop :=
 match v with
 |.bool b=>if b=want then A () else B ()
 |.tuple []=>B ()
 |_=>False
@[congr] theorem WG {v v':AV} {want:Bool} {A B:Unit→Prop} (h:v=v'):l0 v want A B=l0 v' want A B:=by rw [h]
@[simp] theorem Y7 (b want:Bool) (A B:Unit→Prop):l0 (.bool b) want A B=if b=want then A () else B ():=rfl
@[simp] theorem Z3 (want:Bool) (A B:Unit→Prop):l0 (.tuple []) want A B=B ():=rfl
def IM (T:FuncId→Option AFunc) (f:AV) (args:List AV) (σ:St) (K:AV→St→Prop):Prop:=Run T (.callv f args σ) fun r=>K r.v r.σ
@[congr] theorem VE {f f':AV} {args args':List AV} {σ σ':St} {K:AV→St→Prop} (h1:f=f') (h2:args=args') (h3:σ=σ'):IM T f args σ K=IM T f' args' σ' K:=by rw [h1,h2,h3]
def fS (T:FuncId→Option AFunc) (q:AOp) (e:Env) (σ:St) (K:AV→St→Prop):Prop :=
 match q with
 |.call f args=>IM T (f.ev e) (args.map (·.ev e)) σ K
 |q=>k7 (aop q e σ) K
@[congr] theorem YZ {q:AOp} {e e':Env} {σ σ':St} {K:AV→St→Prop} (h2:e=e') (h3:σ=σ'):fS T q e σ K=fS T q e' σ' K:=by rw [h2,h3]
def aJ (T:FuncId→Option AFunc):List AOper→Env→St→(Env→St→Prop)→Prop
 |[],e,σ,K=>K e σ
 |⟨dst,q,none⟩::os,e,σ,K=>fS T q e σ fun v σ'=>aJ T os (Env.put e dst v) σ' K
 |⟨dst,q,some (t,want)⟩::os,e,σ,K =>
  l0 (Env.get e t) want (fun _=>fS T q e σ fun v σ'=>aJ T os (Env.put e dst v) σ' K) (fun _=>aJ T os (Env.put e dst (.tuple [])) σ K)
@[congr] theorem VF {os:List AOper} {e e':Env} {σ σ':St} {K:Env→St→Prop} (h2:e=e') (h3:σ=σ'):aJ T os e σ K=aJ T os e' σ' K:=by rw [h2,h3]
theorem nY {Q:Out→Prop}:∀ {os:List AOper} {e:Env} {σ:St} {K:Env→St→Prop},aJ T os e σ K→(∀ e σ,K e σ→Q ⟨none,e,σ,.undef⟩)→Run T (.ops os e σ) Q
 |[],e,σ,K,h,hq=>.nil (hq _ _ h)
 |o::os,e,σ,K,h,hq=>by
  have key:o.wanted e=some true→fS T o.op e σ (fun v σ'=>aJ T os (Env.put e o.dst v) σ' K)→Run T (.ops (o::os) e σ) Q:=by
   intro hw h
   by_cases hc:∃ f args,o.op = .call f args
   ·obtain ⟨f,args,ho⟩:=hc
    rw [ho] at h
    exact .stepc hw ho h fun r hr=>nY hr hq
   ·have:∃ v σ',aop o.op e σ=some (v,σ')∧aJ T os (Env.put e o.dst v) σ' K:=by
     unfold fS at h
     split at h
     ·rename_i f args ho;exact absurd ⟨f,args,ho⟩ hc
     ·unfold k7 at h
      split at h
      ·rename_i v σ' hv;exact ⟨v,σ',hv,h⟩
      ·exact h.elim
    obtain ⟨v,σ',h1,h2⟩:=this
    exact .step hw h1 (nY h2 hq)
  obtain ⟨dst,q,g⟩:=o
  cases g with
  |none=>exact key rfl h
  |some g =>
   obtain ⟨t,want⟩:=g
   simp only [aJ,l0] at h
   split at h
   ·rename_i b h1
    split at h
    ·rename_i hb
     exact key (by simp [AOper.wanted,h1,hb]) h
    ·rename_i hb
     exact .off (by simp [AOper.wanted,h1];simpa using hb) (nY h hq)
   ·rename_i h1
    exact .off (by simp [AOper.wanted,h1]) (nY h hq)
   ·exact h.elim
abbrev KJ:=Option AJump→Env→St→Prop
def mR (A K:KJ):KJ:=fun j e σ=>match j with|none=>A none e σ|some j=>K (some j) e σ
@[simp] theorem W4 (A K:KJ) (e:Env) (σ:St):mR A K none e σ=A none e σ:=rfl
@[simp] theorem YV (A K:KJ) (j:AJump) (e:Env) (σ:St):mR A K (some j) e σ=K (some j) e σ:=rfl
def jE (id:Nat) (K:KJ):KJ:=fun j e σ=>match j with|some (.exit i)=>if i=id then K none e σ else K (some (.exit i)) e σ|j=>K j e σ
@[simp] theorem VL (id:Nat) (K:KJ) (e:Env) (σ:St):jE id K none e σ=K none e σ:=rfl
@[simp] theorem XL (id:Nat) (K:KJ) (e:Env) (σ:St):jE id K (some .ret) e σ=K (some .ret) e σ:=rfl
@[simp] theorem VU (id i:Nat) (K:KJ) (e:Env) (σ:St):jE id K (some (.exit i)) e σ=if i=id then K none e σ else K (some (.exit i)) e σ:=rfl
def J2 (T:FuncId→Option AFunc) (c:ACode) (e:Env) (σ:St) (K:KJ):Prop:=Run T (.code c e σ) fun o=>K o.j o.env o.σ
@[congr] theorem ZS {c:ACode} {e e':Env} {σ σ':St} {K:KJ} (h2:e=e') (h3:σ=σ'):J2 T c e σ K=J2 T c e' σ' K:=by rw [h2,h3]
def wp (T:FuncId→Option AFunc):ACode→Env→St→KJ→Prop
 |.skip,e,σ,K=>K none e σ
 |.reg os,e,σ,K=>aJ T os e σ fun e σ=>K none e σ
 |.seq a b,e,σ,K=>wp T a e σ (mR (fun _ e σ=>wp T b e σ K) K)
 |.cond c a b,e,σ,K=>y4 (c.ev e) (fun _=>wp T a e σ K) (fun _=>wp T b e σ K)
 |.block id b,e,σ,K=>wp T b e σ (jE id K)
 |.jump j,e,σ,K=>K (some j) e σ
 |.scope b,e,σ,K=>wp T b e σ K
 |c,e,σ,K=>J2 T c e σ K
@[congr] theorem Z8 {c:ACode} {e e':Env} {σ σ':St} {K:KJ} (h2:e=e') (h3:σ=σ'):wp T c e σ K=wp T c e' σ' K:=by rw [h2,h3]
theorem fR {Q:Out→Prop}:∀ {c:ACode} {e:Env} {σ:St} {K:KJ},wp T c e σ K→(∀ o,K o.j o.env o.σ→Q o)→Run T (.code c e σ) Q:=by
 intro c
 induction c generalizing Q with
 |skip=>intro e σ K h hq;exact .skip (hq ⟨none,e,σ,.undef⟩ h)
 |reg os=>intro e σ K h hq;exact .reg (nY h fun e σ hk=>hq ⟨none,e,σ,.undef⟩ hk)
 |dreg ds=>intro e σ K h hq;exact .mono h hq
 |seq a b iha ihb =>
  intro e σ K h hq
  refine .seq (iha h fun o ho=>ho) (fun o ho hj=>?_) fun o ho hj=>?_
  ·simp only [hj,mR] at ho
   exact ihb ho hq
  ·refine hq o ?_
   cases hj':o.j with
   |none=>exact absurd hj' hj
   |some j=>simp only [hj',mR] at ho;exact ho
 |cond c a b iha ihb =>
  intro e σ K h hq
  simp only [wp,y4] at h
  split at h
  ·rename_i h1;exact .cond true h1 (iha h hq)
  ·rename_i h1;exact .cond false h1 (ihb h hq)
  ·exact h.elim
 |block id b ih =>
  intro e σ K h hq
  refine .block (ih h fun o ho=>ho) fun o ho=>hq _ ?_
  unfold jE at ho
  split at ho
  ·rename_i i hj
   split at ho
   ·rename_i hi;subst hi;rw [if_pos hj];exact ho
   ·rename_i hi;rw [if_neg (by rw [hj];simpa using hi),hj];exact ho
  ·rename_i hj
   rw [if_neg (fun e=>hj _ e)]
   exact ho
 |loop b ih=>intro e σ K h hq;exact .mono h hq
 |rangeFunc f ps a b _ _=>intro e σ K h hq;exact .mono h hq
 |jump j=>intro e σ K h hq;exact .jump (hq ⟨some j,e,σ,.undef⟩ h)
 |scope b ih=>intro e σ K h hq;exact .scope (ih h hq)
def d6 (T:FuncId→Option AFunc) (f:FuncId) (args:List AV) (v:AV):Prop:=∀ σ,Run T (.call f args σ) fun o=>o.v=v∧o.σ=σ
theorem qD (σ τ:St) (k:Nat):(σ++τ)[σ.length+k]? = τ[k]?:=by rw [List.getElem?_append_right (by omega)];congr 1;omega
theorem m6 (σ τ:St) (k:Nat) (x:ABlk):(σ++τ).set (σ.length+k) x=σ++τ.set k x:=by rw [List.set_append_right _ _ (by omega)];congr 2;omega
theorem IF (σ τ:St) (x:ABlk):(σ++τ).set σ.length x=σ++τ.set 0 x:=m6 σ τ 0 x
end Go.Am
namespace Go.Am
variable {T:FuncId→Option AFunc}
theorem aCV (e:Env) (d:Nat) (v:AV):Env.put e (some d) v=(d,v)::e:=by simp only [Env.put]
theorem WQ (e:Env) (v:AV):Env.put e none v=e:=by simp only [Env.put]
theorem N1 (k:Nat) (v:AV) (e:Env) (t:Nat):Env.get ((k,v)::e) t=if k=t then v else Env.get e t:=by simp only [Env.get]
theorem O6 (e:Env) (t:Nat):AOpd.ev e (.t t)=Env.get e t:=by simp only [AOpd.ev]
theorem aA4 (e:Env) (v:AV):AOpd.ev e (.c v)=v:=by simp only [AOpd.ev]
theorem aAD (os:List AOper) (e:Env) (σ:St) (K:KJ):wp T (.reg os) e σ K=aJ T os e σ fun e σ=>K none e σ:=by simp only [wp]
theorem aCA (a b:ACode) (e:Env) (σ:St) (K:KJ):wp T (.seq a b) e σ K=wp T a e σ (mR (fun _ e σ=>wp T b e σ K) K):=by simp only [wp]
theorem XR (j:AJump) (e:Env) (σ:St) (K:KJ):wp T (.jump j) e σ K=K (some j) e σ:=by simp only [wp]
theorem XH (A K:KJ) (e:Env) (σ:St):mR A K none e σ=A none e σ:=by simp only [mR]
theorem aA3 (e:Env) (σ:St) (K:Env→St→Prop):aJ T [] e σ K=K e σ:=by simp only [aJ]
def aA1 (r:Option AV) (σ:St) (K:AV→St→Prop):Prop:=match r with|some v=>K v σ|none=>False
@[congr] theorem WT {r r':Option AV} {σ σ':St} {K:AV→St→Prop} (h:r=r') (h2:σ=σ'):aA1 r σ K=aA1 r' σ' K:=by rw [h,h2]
def aA5 (r:Option (List AV)) (σ:St) (K:AV→St→Prop):Prop:=match r with|some cs=>K (.agg cs) σ|none=>False
@[congr] theorem YP {r r':Option (List AV)} {σ σ':St} {K:AV→St→Prop} (h:r=r') (h2:σ=σ'):aA5 r σ K=aA5 r' σ' K:=by rw [h,h2]
def aAM (r:Option St) (K:AV→St→Prop):Prop:=match r with|some σ=>K (.tuple []) σ|none=>False
@[congr] theorem YJ {r r':Option St} {K:AV→St→Prop} (h:r=r'):aAM r K=aAM r' K:=by rw [h]
def oI (n:Nat) (v:AV):Option (List AV):=if (v.cells.length==n&&v.cells.all (·.cell))=true then some v.cells else none
def u7 (off:Nat):AV→Option AV
 |.ptr id o=>some (.ptr id (o+off))
 |.lptr xs i o t=>some (.lptr xs i (o+off) t)
 |_=>none
theorem PY (off id o:Nat):u7 off (.ptr id o)=some (.ptr id (o+off)):=by simp [u7]
theorem N5 (off:Nat) (xs:List AV) (i o:Nat) (t:Option Nat):u7 off (.lptr xs i o t)=some (.lptr xs i (o+off) t):=by simp [u7]
def aBQ (r:Option (List AV)) (σ:St) (K:AV→St→Prop):Prop:=match r with|some cs=>K (.ptr σ.length 0) (σ++[.cells cs])|none=>False
@[congr] theorem YF {r r':Option (List AV)} {σ σ':St} {K:AV→St→Prop} (h:r=r') (h2:σ=σ'):aBQ r σ K=aBQ r' σ' K:=by rw [h,h2]
def RO (i:Nat):AV→Option AV
 |.tuple vs=>vs[i]?
 |_=>none
theorem YC (i:Nat) (vs:List AV):RO i (.tuple vs)=vs[i]?:=by simp [RO]
def RC:AV→Option AV
 |.bool b=>some (.bool !b)
 |_=>none
theorem ZM (b:Bool):RC (.bool b)=some (.bool !b):=by simp [RC]
def zQ (sh:EqTy) (neg:Bool) (x y:AV):Option AV:=(iN sh x y).map fun b=>.bool (if neg then !b else b)
theorem ZT (e:Env) (σ:St) (K:KJ):wp T .skip e σ K=K none e σ:=by simp only [wp]
theorem Q9 (id:Nat) (b:ACode) (e:Env) (σ:St) (K:KJ):wp T (.block id b) e σ K=wp T b e σ (jE id K):=by simp only [wp]
theorem S5 (b:ACode) (e:Env) (σ:St) (K:KJ):wp T (.scope b) e σ K=wp T b e σ K:=by simp only [wp]
theorem RS (A K:KJ) (j:AJump) (e:Env) (σ:St):mR A K (some j) e σ=K (some j) e σ:=by simp only [mR]
theorem YL (k:Nat):eX k []=[]:=by simp only [eX]
theorem aBU (k:Nat) (v:AV) (vs:List AV):eX k (v::vs)=(k,v)::eX (k+1) vs:=by simp only [eX]
theorem aCR (e:Env) (cs:List AV) (off n:Nat) (x:AOpd) (rest:List (Nat×Nat×AOpd)) :
  bV e cs ((off,n,x)::rest)=((oI n (x.ev e)).bind fun us=>fJ cs off us).bind fun cs=>bV e cs rest:=by
 simp only [bV,oI];split
 ·simp only [Option.bind_some];cases fJ cs off (x.ev e).cells<;>simp
 ·simp
end Go.Am
namespace Go.Am
variable {T:FuncId→Option AFunc}
def DD (I:Nat→Env→St→Prop) (k:Nat) (K:KJ):KJ:=fun j e σ=>match j with|none=>∃ k',k'<k∧I k' e σ|some j=>K (some j) e σ
theorem yI (I:Nat→Env→St→Prop) (k:Nat) (K:KJ) (e:Env) (σ:St):DD I k K none e σ = ∃ k',k'<k∧I k' e σ:=by simp only [DD]
theorem xA (I:Nat→Env→St→Prop) (k:Nat) (K:KJ) (j:AJump) (e:Env) (σ:St):DD I k K (some j) e σ=K (some j) e σ:=by simp only [DD]
theorem aC0 {b:ACode} {K:KJ} (I:Nat→Env→St→Prop) (step:∀ k e σ,I k e σ→wp T b e σ (DD I k K)):∀ n e σ,I n e σ→J2 T (.loop b) e σ K:=by
 intro n
 induction n using Nat.strongRecOn with
 |_ n ih =>
  intro e σ h
  refine .loop (fR (step n e σ h) fun o ho=>ho) (fun o ho hj=>?_) fun o ho hj=>?_
  ·simp only [hj,yI] at ho
   obtain ⟨k',hk,hI⟩:=ho
   exact ih k' hk o.env o.σ hI
  ·cases hj':o.j with
   |none=>exact absurd hj' hj
   |some j=>simp only [hj',xA] at ho;exact ho
end Go.Am
namespace Go.Am
variable {T:FuncId→Option AFunc}
def AW (r:ARead):List St→Nat→Prop
 |[],_=>True
 |s::ss,j=>(if r.lo≤j∧j≤r.hi then aop r.op r.env s=some (r.v,s) else True)∧AW r ss (j+1)
theorem FF {r:ARead}:∀ {hist:List St} {k:Nat},AW r hist k→∀ j s,r.lo≤k+j→k+j≤r.hi→hist[j]? = some s→aop r.op r.env s=some (r.v,s)
 |[],k,_,j,s,_,_,h=>by simp at h
 |t::ss,k,h,j,s,h1,h2,h3=>by
  obtain ⟨q1,q2⟩:=h
  cases j with
  |zero=>simp at h3;subst h3;rw [if_pos ⟨by omega,by omega⟩] at q1;exact q1
  |succ j=>exact FF q2 j s (by omega) (by omega) (by simpa using h3)
def oZ:List ARead→List St→Prop
 |[],_=>True
 |r::rs,hist=>AW r hist 0∧oZ rs hist
theorem A8:∀ {rs:List ARead} {hist:List St},oZ rs hist→∀ r∈rs,ARead.ok r hist
 |[],_,_,r,h=>by cases h
 |r::rs,hist,h,q,hq=>by
  rcases List.mem_cons.1 hq with rfl|hq
  ·intro j s h1 h2 h3
   exact FF h.1 j s (by omega) (by omega) h3
  ·exact A8 h.2 q hq
def BU (T:FuncId→Option AFunc) (f:AV) (args:List AV) (σ:St) (K:AV→St→Prop):Prop:=∃ v σ',Run T (.callv f args σ) (fun r=>r.v=v∧r.σ=σ')∧K v σ'
@[congr] theorem U9 {f f':AV} {args args':List AV} {σ σ':St} {K:AV→St→Prop} (h1:f=f') (h2:args=args') (h3:σ=σ'):BU T f args σ K=BU T f' args' σ' K:=by rw [h1,h2,h3]
def wpD (T:FuncId→Option AFunc):List ADOper→Env→St→Nat→List St→List ARead→(Env→St→Prop)→Prop
 |[],e,σ,_,hist,reads,K=>oZ reads hist∧K e σ
 |⟨⟨dst,.call f args,none⟩,_,_⟩::ds,e,σ,next,hist,reads,K=>BU T (f.ev e) (args.map (·.ev e)) σ fun v σ'=>wpD T ds (Env.put e dst v) σ' next (hist++[σ']) reads K
 |⟨⟨dst,.alloc _,none⟩,_,_⟩::ds,e,σ,next,hist,reads,K=>wpD T ds (Env.put e dst (.ptr next 0)) σ (next+1) hist reads K
 |⟨⟨dst,q,none⟩,lo,hi⟩::ds,e,σ,next,hist,reads,K =>
  k7 (aop q e σ) fun v σ' =>
   if q.acts=true then wpD T ds (Env.put e dst v) σ' next (hist++[σ']) reads K
   else σ'=σ∧if q.reads=true then wpD T ds (Env.put e dst v) σ next hist (⟨lo,hi,q,e,v⟩::reads) K else wpD T ds (Env.put e dst v) σ next hist reads K
 |⟨⟨dst,.call f args,some (t,want)⟩,_,_⟩::ds,e,σ,next,hist,reads,K =>
  l0 (Env.get e t) want (fun _=>BU T (f.ev e) (args.map (·.ev e)) σ fun v σ'=>wpD T ds (Env.put e dst v) σ' next (hist++[σ']) reads K)
   (fun _=>wpD T ds (Env.put e dst (.tuple [])) σ next (hist++[σ]) reads K)
 |⟨⟨dst,q,some (t,want)⟩,lo,hi⟩::ds,e,σ,next,hist,reads,K =>
  l0 (Env.get e t) want
   (fun _=>q.allocs=false∧k7 (aop q e σ) fun v σ' =>
    if q.acts=true then wpD T ds (Env.put e dst v) σ' next (hist++[σ']) reads K
    else σ'=σ∧if q.reads=true then wpD T ds (Env.put e dst v) σ next hist (⟨lo,hi,q,e,v⟩::reads) K else wpD T ds (Env.put e dst v) σ next hist reads K)
   (fun _=>wpD T ds (Env.put e dst (.tuple [])) σ (if q.allocs then next+1 else next) (if q.acts then hist++[σ] else hist) reads K)
theorem i9 {Q:Out→Prop}:∀ {ds:List ADOper} {e:Env} {σ:St} {next:Nat} {hist:List St} {reads:List ARead} {K:Env→St→Prop},wpD T ds e σ next hist reads K →
  (∀ e σ,K e σ→Q ⟨none,e,σ,.undef⟩)→Run T (.dops ds e σ next hist reads) Q
 |[],e,σ,next,hist,reads,K,h,hq=>.dnil (A8 h.1) (hq _ _ h.2)
 |⟨⟨dst,q,g⟩,lo,hi⟩::ds,e,σ,next,hist,reads,K,h,hq=>by
  -- an operation that is neither a call nor a new variable
  have key:AOper.wanted ⟨dst,q,g⟩ e=some true→q.allocs=false→(k7 (aop q e σ) fun v σ' =>
    if q.acts=true then wpD T ds (Env.put e dst v) σ' next (hist++[σ']) reads K
    else σ'=σ∧if q.reads=true then wpD T ds (Env.put e dst v) σ next hist (⟨lo,hi,q,e,v⟩::reads) K else wpD T ds (Env.put e dst v) σ next hist reads K) →
    Run T (.dops (⟨⟨dst,q,g⟩,lo,hi⟩::ds) e σ next hist reads) Q:=by
   intro hw hal h
   unfold k7 at h
   split at h
   ·rename_i v σ' hv
    split at h
    ·rename_i ha;exact .dact hw ha hv (i9 h hq)
    ·rename_i ha
     obtain ⟨rfl,h⟩:=h
     split at h
     ·rename_i hr;exact .dread hw hr hv (i9 h hq)
     ·rename_i hr;exact .dpure hw (by simp [hal];exact ⟨by simpa using ha,by simpa using hr⟩) hv (i9 h hq)
   ·exact h.elim
  by_cases hc:∃ f args,q = .call f args
  ·obtain ⟨f,args,rfl⟩:=hc
   cases g with
   |none =>
    simp only [wpD,BU] at h
    obtain ⟨v,σ',h1,h2⟩:=h
    exact .dcall rfl rfl h1 (i9 h2 hq)
   |some g =>
    obtain ⟨t,want⟩:=g
    simp only [wpD,l0] at h
    split at h
    ·rename_i b h1
     split at h
     ·rename_i hb
      obtain ⟨v,σ',h3,h4⟩:=h
      exact .dcall (by simp [AOper.wanted,h1,hb]) rfl h3 (i9 h4 hq)
     ·rename_i hb
      exact .doff (by simp [AOper.wanted,h1];simpa using hb) (by simpa [AOp.allocs,AOp.acts] using i9 h hq)
    ·rename_i h1
     exact .doff (by simp [AOper.wanted,h1]) (by simpa [AOp.allocs,AOp.acts] using i9 h hq)
    ·exact h.elim
  ·cases g with
   |none =>
    by_cases hal:∃ z,q = .alloc z
    ·obtain ⟨z,rfl⟩:=hal
     simp only [wpD] at h
     exact .dalloc rfl rfl (i9 h hq)
    ·refine key rfl ?_ ?_
     ·cases q<;>first|rfl|exact absurd ⟨_,rfl⟩ hal
     ·cases q<;>first|exact h|exact absurd ⟨_,_,rfl⟩ hc|exact absurd ⟨_,rfl⟩ hal
   |some g =>
    obtain ⟨t,want⟩:=g
    have h:l0 (Env.get e t) want (fun _=>q.allocs=false∧k7 (aop q e σ) fun v σ' =>
      if q.acts=true then wpD T ds (Env.put e dst v) σ' next (hist++[σ']) reads K
      else σ'=σ∧if q.reads=true then wpD T ds (Env.put e dst v) σ next hist (⟨lo,hi,q,e,v⟩::reads) K else wpD T ds (Env.put e dst v) σ next hist reads K)
      (fun _=>wpD T ds (Env.put e dst (.tuple [])) σ (if q.allocs then next+1 else next) (if q.acts then hist++[σ] else hist) reads K):=by
     cases q<;>first|exact h|exact absurd ⟨_,_,rfl⟩ hc
    simp only [l0] at h
    split at h
    ·rename_i b h1
     split at h
     ·rename_i hb
      exact key (by simp [AOper.wanted,h1,hb]) h.1 h.2
     ·rename_i hb
      exact .doff (by simp [AOper.wanted,h1];simpa using hb) (i9 h hq)
    ·rename_i h1
     exact .doff (by simp [AOper.wanted,h1]) (i9 h hq)
    ·exact h.elim
end Go.Am
namespace Go.Am
variable {T:FuncId→Option AFunc}
class HP (α:Type) where
 out:α
def bO (r:Option (AV×St)) [K:HP (AV→St→Prop)]:Prop:=k7 r K.out
theorem ZV (v:AV) (σ:St) (K:AV→St→Prop):bO (K:=⟨K⟩) (some (v,σ))=K v σ:=by simp only [bO,k7]
def cK (T:FuncId→Option AFunc) (f:AV) (args:List AV) (σ:St) [K:HP (AV→St→Prop)]:Prop:=IM T f args σ K.out
def cD (T:FuncId→Option AFunc) (f:AV) (args:List AV) (σ:St) [K:HP (AV→St→Prop)]:Prop:=BU T f args σ K.out
def rK (T:FuncId→Option AFunc) (c:ACode) (e:Env) (σ:St) [K:HP KJ]:Prop:=J2 T c e σ K.out
def wM (b:Bool) [A:HP Prop] [B:HP Prop]:Prop:=if b=true then A.out else B.out
theorem qX (A:Prop) (B:HP Prop):wM (A:=⟨A⟩) true=A:=by simp [wM]
theorem oJ (A:HP Prop) (B:Prop):wM (B:=⟨B⟩) false=B:=by simp [wM]
theorem aI {b:Bool} {A B:Prop} (h1:b=true→A) (h2:b=false→B):wM (A:=⟨A⟩) (B:=⟨B⟩) b:=by cases b<;>simp [wM]<;>first|exact h1 rfl|exact h2 rfl
def bB (v:AV) [A:HP Prop] [B:HP Prop]:Prop:=y4 v (fun _=>A.out) (fun _=>B.out)
def bG (v:AV) (want:Bool) [A:HP Prop] [B:HP Prop]:Prop:=l0 v want (fun _=>A.out) (fun _=>B.out)
theorem XG (b:ACode) (e:Env) (σ:St) (K:KJ):wp T (.loop b) e σ K=rK (K:=⟨K⟩) T (.loop b) e σ:=by simp only [wp,rK]
theorem R9 (f:AOpd) (ps:List Nat) (a b:ACode) (e:Env) (σ:St) (K:KJ):wp T (.rangeFunc f ps a b) e σ K=rK (K:=⟨K⟩) T (.rangeFunc f ps a b) e σ:=by simp only [wp,rK]
theorem YE (c:AOpd) (a b:ACode) (e:Env) (σ:St) (K:KJ):wp T (.cond c a b) e σ K=bB (A:=⟨wp T a e σ K⟩) (B:=⟨wp T b e σ K⟩) (c.ev e):=by simp only [wp,bB]
def evs (e:Env):List AOpd→List AV
 |[]=>[]
 |x::xs=>x.ev e::evs e xs
theorem lD (e:Env):∀ xs:List AOpd,xs.map (·.ev e)=evs e xs
 |[]=>rfl
 |x::xs=>by simp [evs,lD e xs]
def ovs (e:Env):Option AOpd→Option AV
 |none=>none
 |some x=>some (x.ev e)
def A6:AV→AV→AV→Option AV
 |.bool true,x,_=>some x
 |.bool false,_,y=>some y
 |_,_,_=>none
def LB (n:Nat) (xs:List AV):Option AV:=if aM n xs=true then some (.lit xs true none) else none
def EC:AV→Option AV
 |.ptr i o=>some (.ptr i o)
 |.lptr xs i o t=>some (.lptr xs i o t)
 |.func f a b=>some (.func f a b)
 |.yield i=>some (.yield i)
 |_=>none
def UE:AV→Option AV
 |.int k n=>some (.int k (k.wrap (0-n)))
 |_=>none
def IG (k:IntKind):AV→Option AV
 |.int _ n=>some (.int k (k.wrap n))
 |_=>none
def TX:AV→Option ByteArray
 |.str s=>some s
 |_=>none
def vC (σ:St):AV→Option (AV×St)
 |.ptr id 0 =>
  match σ[id]? with
  |some (.siter s pos) =>
   if pos<s.size then some (.tuple [.bool true,.int .i64 pos,.int .i32 (Utf8.decode s pos).1],σ.set id (.siter s (pos+(Utf8.decode s pos).2)))
   else some (.tuple [.bool false],σ)
  |_=>none
 |_=>none
def n5 (bytes:Nat) (l c:AV):Option Nat :=
 match l,c with
 |.int _ n,.int _ m=>if 0≤n∧n=m∧n*bytes≤room∧n≤room then some n.toNat else none
 |_,_=>none
def nB (d:Nat):Option AV→Option Int
 |none=>some d
 |some x=>fB x
def wY (sz:Nat) (σ:St) (x:AV) (lo hi mx:Option AV):Option AV :=
 match iD 1 σ x with
 |none=>none
 |some n =>
  match nB 0 lo,nB n hi,mx.map fB with
  |some l,some h,none=>lJ sz x l h false
  |some l,some h,some (some m)=>if m=h∧hi.isSome=true then lJ sz x l h true else none
  |_,_,_=>none
def IP (n sz:Nat) (x:AV) (lo hi:Option AV):Option AV :=
 match x,nB 0 lo,nB n hi with
 |.ptr id off,some l,some h=>if 0≤l∧l≤h∧h≤n then some (.ref id (off+l.toNat*sz) (h.toNat-l.toNat) sz) else none
 |_,_,_=>none
def CO (off:Nat) (sh:Option Nat):AV→Option AV
 |.agg cs=>eY sh cs off
 |_=>none
def nC (arr:Option Nat) (sz:Nat) (x i:AV):Option AV :=
 match fB i,arr,x with
 |some j,some n,.ptr id off=>if 0≤j∧j<n then some (.ptr id (off+j.toNat*sz)) else none
 |some j,some n,.lptr xs q off t=>if 0≤j∧j<n then some (.lptr xs q (off+j.toNat*sz) t) else none
 |some j,none,.lit xs _ t =>
  match xs[j.toNat]? with
  |some y=>if 0≤j∧y.cells.length=sz then some (.lptr xs j.toNat 0 t) else none
  |none=>none
 |some j,none,.ref id off len sz'=>if 0≤j∧j<len∧sz'=sz then some (.ptr id (off+j.toNat*sz)) else none
 |_,_,_=>none
def P6 (n sz:Nat) (sh:Option Nat) (x i:AV):Option AV :=
 match fB i,x with
 |some j,.agg cs=>if 0≤j∧j<n then eY sh cs (j.toNat*sz) else none
 |_,_=>none
def w4 (x i:AV):Option AV :=
 match fB i,x with
 |some j,.str s=>if 0≤j then (s[j.toNat]?).map fun b=>.int .u8 b.toNat else none
 |_,_=>none
def JJ (ok:Bool) (zero:AV):Option (Option AV)→Option AV
 |some (some v)=>some (if ok then .tuple [v,.bool true] else v)
 |some none=>some (if ok then .tuple [zero,.bool false] else zero)
 |none=>none
def wN (sh:EqTy) (σ:St) (m k v:AV):Option St :=
 match m with
 |.map id =>
  if (iN sh k k).isSome=false then none else
  match σ[id]? with
  |some (.map es)=>(mJ sh k v es).map fun es'=>σ.set id (.map es')
  |_=>none
 |_=>none
theorem aA7 (x:AOpd) (e:Env) (σ:St):aop (.mov x) e σ=some (x.ev e,σ):=by
 simp only [aop]
theorem UC (z:List AV) (e:Env) (σ:St):aop (.alloc z) e σ=some (.ptr σ.length 0,σ++[.cells z]):=by
 simp only [aop]
theorem YW (c x y:AOpd) (e:Env) (σ:St):aop (.pick c x y) e σ=(A6 (c.ev e) (x.ev e) (y.ev e)).map (·,σ):=by
 simp only [aop,A6];repeat' split
 all_goals simp_all
theorem aBF (n:Nat) (x:AOpd) (e:Env) (σ:St):aop (.box n x) e σ=(oI n (x.ev e)).map fun cs=>(.ptr σ.length 0,σ++[.cells cs]):=by
 simp only [aop,oI];split<;>simp_all
theorem SB (z:List AV) (ps:List (Nat×Nat×AOpd)) (e:Env) (σ:St):aop (.build z ps) e σ=(bV e z ps).map fun cs=>(.agg cs,σ):=by
 simp only [aop];cases bV e z ps<;>simp
theorem SV (n:Nat) (xs:List AOpd) (e:Env) (σ:St):aop (.mklit n xs) e σ=(LB n (evs e xs)).map (·,σ):=by
 simp only [aop,LB,lD];split<;>simp_all
theorem T0 (n:Nat) (xs:List AOpd) (e:Env) (σ:St):aop (.mkref n xs) e σ=(LB n (evs e xs)).map fun _=>(.ref σ.length 0 (evs e xs).length n,σ++[.cells ((evs e xs).flatMap AV.cells)]):=by
 simp only [aop,LB,lD];have:=congrArg List.length (lD e xs);split<;>simp_all
theorem X3 (sh:Option Nat) (x:AOpd) (e:Env) (σ:St):aop (.load sh x) e σ=(jL sh σ (x.ev e)).map (·,σ):=by
 simp only [aop];cases jL sh σ (x.ev e)<;>simp
theorem R1 (n:Nat) (x y:AOpd) (e:Env) (σ:St):aop (.store n x y) e σ=(mW n σ (x.ev e) (y.ev e)).map (.tuple [],·):=by
 simp only [aop];cases mW n σ (x.ev e) (y.ev e)<;>simp
theorem H0 (x:AOpd) (e:Env) (σ:St):aop (.nilCheck x) e σ=(EC (x.ev e)).map (·,σ):=by
 simp only [aop,EC];cases x.ev e<;>simp
theorem aCM (op:BinOp) (x y:AOpd) (e:Env) (σ:St):aop (.bin op x y) e σ=(fC op (x.ev e) (y.ev e)).map (·,σ):=by
 simp only [aop];cases fC op (x.ev e) (y.ev e)<;>simp
theorem aCI (sh:EqTy) (n:Bool) (x y:AOpd) (e:Env) (σ:St):aop (.eql sh n x y) e σ=(zQ sh n (x.ev e) (y.ev e)).map (·,σ):=by
 simp only [aop,zQ];cases iN sh (x.ev e) (y.ev e)<;>simp
theorem aCC (x:AOpd) (e:Env) (σ:St):aop (.not x) e σ=(RC (x.ev e)).map (·,σ):=by
 simp only [aop,RC];cases x.ev e<;>simp
theorem aBE (x:AOpd) (e:Env) (σ:St):aop (.neg x) e σ=(UE (x.ev e)).map (·,σ):=by
 simp only [aop,UE];cases x.ev e<;>simp
theorem XO (k:IntKind) (x:AOpd) (e:Env) (σ:St):aop (.conv k x) e σ=(IG k (x.ev e)).map (·,σ):=by
 simp only [aop,IG];cases x.ev e<;>simp
theorem SZ (f:FuncId) (xs ys:List AOpd) (e:Env) (σ:St):aop (.mkfun f xs ys) e σ=some (.func f (evs e xs) (evs e ys),σ):=by
 simp only [aop,lD]
theorem RP  (e:Env) (σ:St):aop (.mkmap) e σ=some (.map σ.length,σ++[.map []]):=by
 simp only [aop]
theorem LU (z:List AV) (b:Nat) (x y:AOpd) (e:Env) (σ:St):aop (.mkslice z b x y) e σ=(n5 b (x.ev e) (y.ev e)).map fun n=>(.ref σ.length 0 n z.length,σ++[.cells (List.replicate n z).flatten]):=by
 simp only [aop,n5];generalize x.ev e=u;generalize y.ev e=v;cases u<;>cases v<;>first|rfl|(dsimp only;split<;>first|rfl|simp_all|(split<;>simp_all))
theorem NU (n:Nat) (x:AOpd) (lo hi mx:Option AOpd) (e:Env) (σ:St):aop (.slicev n x lo hi mx) e σ=(wY n σ (x.ev e) (ovs e lo) (ovs e hi) (ovs e mx)).map (·,σ):=by
 simp only [aop,wY];cases iD 1 σ (x.ev e)<;>cases lo<;>cases hi<;>cases mx<;>simp only [bQ,nB,ovs,Option.map_none,Option.map_some]<;>repeat' split
 all_goals simp_all
theorem N4 (n s:Nat) (x:AOpd) (lo hi:Option AOpd) (e:Env) (σ:St):aop (.slicea n s x lo hi) e σ=(IP n s (x.ev e) (ovs e lo) (ovs e hi)).map (·,σ):=by
 simp only [aop,IP];generalize x.ev e=u;cases lo with
 |none=>cases hi with
  |none=>simp only [bQ,nB,ovs];cases u<;>first|rfl|(dsimp only;split<;>first|rfl|simp_all|(split<;>simp_all))
  |some h=>simp only [bQ,nB,ovs];generalize fB (h.ev e)=p;cases u<;>cases p<;>first|rfl|(dsimp only;split<;>first|rfl|simp_all|(split<;>simp_all))
 |some l=>cases hi with
  |none=>simp only [bQ,nB,ovs];generalize fB (l.ev e)=p;cases u<;>cases p<;>first|rfl|(dsimp only;split<;>first|rfl|simp_all|(split<;>simp_all))
  |some h=>simp only [bQ,nB,ovs];generalize fB (l.ev e)=p;generalize fB (h.ev e)=q;cases u<;>cases p<;>cases q<;>first|rfl|(dsimp only;split<;>first|rfl|simp_all|(split<;>simp_all))
theorem UK (x:AOpd) (o:Nat) (e:Env) (σ:St):aop (.faddr x o) e σ=(u7 o (x.ev e)).map (·,σ):=by
 simp only [aop,u7];cases x.ev e<;>simp
theorem RE (x:AOpd) (o:Nat) (sh:Option Nat) (e:Env) (σ:St):aop (.field x o sh) e σ=(CO o sh (x.ev e)).map (·,σ):=by
 simp only [aop,CO];cases x.ev e<;>simp<;>(rename_i cs;cases eY sh cs o<;>simp)
theorem SM (a:Option Nat) (s:Nat) (x i:AOpd) (e:Env) (σ:St):aop (.iaddr a s x i) e σ=(nC a s (x.ev e) (i.ev e)).map (·,σ):=by
 simp only [aop,nC];generalize fB (i.ev e)=q;generalize x.ev e=u;cases q<;>cases a<;>cases u<;>first|rfl|(dsimp only;split<;>first|rfl|simp_all|(split<;>simp_all))
theorem RB (n s:Nat) (sh:Option Nat) (x i:AOpd) (e:Env) (σ:St):aop (.index n s sh x i) e σ=(P6 n s sh (x.ev e) (i.ev e)).map (·,σ):=by
 simp only [aop,P6];generalize fB (i.ev e)=q;generalize x.ev e=u;cases q<;>cases u<;>first|rfl|(dsimp only;split<;>first|rfl|simp_all|(split<;>simp_all))
theorem NS (x i:AOpd) (e:Env) (σ:St):aop (.sindex x i) e σ=(w4 (x.ev e) (i.ev e)).map (·,σ):=by
 simp only [aop,w4];generalize fB (i.ev e)=q;generalize x.ev e=u;cases q<;>cases u<;>first|rfl|(dsimp only;split<;>first|rfl|(rename_i k b h;cases b[k.toNat]?<;>rfl))
theorem NZ (sh:EqTy) (ok:Bool) (z:AV) (m k:AOpd) (e:Env) (σ:St):aop (.lookup sh ok z m k) e σ=(JJ ok z (sZ sh σ (m.ev e) (k.ev e))).map (·,σ):=by
 simp only [aop,JJ];cases sZ sh σ (m.ev e) (k.ev e) with
 |none=>rfl
 |some o=>cases o<;>rfl
theorem QK (sh:EqTy) (m k v:AOpd) (e:Env) (σ:St):aop (.mapset sh m k v) e σ=(wN sh σ (m.ev e) (k.ev e) (v.ev e)).map (.tuple [],·):=by
 simp only [aop,wN];repeat' split
 all_goals simp_all
theorem aAE (x:AOpd) (i:Nat) (e:Env) (σ:St):aop (.ext x i) e σ=(RO i (x.ev e)).map (·,σ):=by
 simp only [aop,RO];cases x.ev e<;>simp<;>(rename_i vs;cases vs[i]?<;>simp)
theorem aAB (k:Nat) (x:AOpd) (e:Env) (σ:St):aop (.len k x) e σ=(iD k σ (x.ev e)).map fun n=>(.int .i64 n,σ):=by
 simp only [aop];cases iD k σ (x.ev e)<;>simp
theorem NE (n b:Nat) (x y:AOpd) (e:Env) (σ:St):aop (.append n b x y) e σ=fV n b σ (x.ev e) (y.ev e):=by
 simp only [aop]
theorem RH (n b:Nat) (x y:AOpd) (e:Env) (σ:St):aop (.apref n b x y) e σ=rM n b σ (x.ev e) (y.ev e):=by
 simp only [aop]
theorem Y0 (n:Nat) (x y:AOpd) (e:Env) (σ:St):aop (.copy n x y) e σ=pV n σ (x.ev e) (y.ev e):=by
 simp only [aop]
theorem aAN (xs:List AOpd) (e:Env) (σ:St):aop (.min xs) e σ=(v3 (evs e xs)).map (·,σ):=by
 simp only [aop,lD];cases v3 (evs e xs)<;>simp
theorem aCK (xs:List AOpd) (e:Env) (σ:St):aop (.max xs) e σ=(wD (evs e xs)).map (·,σ):=by
 simp only [aop,lD];cases wD (evs e xs)<;>simp
theorem PZ (x:AOpd) (e:Env) (σ:St):aop (.srange x) e σ=(TX (x.ev e)).map fun s=>(.ptr σ.length 0,σ++[.siter s 0]):=by
 simp only [aop,TX];cases x.ev e<;>simp
theorem TJ (x:AOpd) (e:Env) (σ:St):aop (.snext x) e σ=vC σ (x.ev e):=by
 simp only [aop,vC];cases x.ev e<;>rfl
theorem Z6 (x:AOpd) (d:Option Nat) (os:List AOper) (e:Env) (σ:St) (K:Env→St→Prop):aJ T (⟨d,.mov x,none⟩::os) e σ K=bO (K:=⟨fun v σ'=>aJ T os (Env.put e d v) σ' K⟩) (aop (.mov x) e σ):=by simp only [aJ,fS,bO]
theorem SL (z:List AV) (d:Option Nat) (os:List AOper) (e:Env) (σ:St) (K:Env→St→Prop):aJ T (⟨d,.alloc z,none⟩::os) e σ K=bO (K:=⟨fun v σ'=>aJ T os (Env.put e d v) σ' K⟩) (aop (.alloc z) e σ):=by simp only [aJ,fS,bO]
theorem YO (c x y:AOpd) (d:Option Nat) (os:List AOper) (e:Env) (σ:St) (K:Env→St→Prop):aJ T (⟨d,.pick c x y,none⟩::os) e σ K=bO (K:=⟨fun v σ'=>aJ T os (Env.put e d v) σ' K⟩) (aop (.pick c x y) e σ):=by simp only [aJ,fS,bO]
theorem aAP (n:Nat) (x:AOpd) (d:Option Nat) (os:List AOper) (e:Env) (σ:St) (K:Env→St→Prop):aJ T (⟨d,.box n x,none⟩::os) e σ K=bO (K:=⟨fun v σ'=>aJ T os (Env.put e d v) σ' K⟩) (aop (.box n x) e σ):=by simp only [aJ,fS,bO]
theorem RV (z:List AV) (ps:List (Nat×Nat×AOpd)) (d:Option Nat) (os:List AOper) (e:Env) (σ:St) (K:Env→St→Prop):aJ T (⟨d,.build z ps,none⟩::os) e σ K=bO (K:=⟨fun v σ'=>aJ T os (Env.put e d v) σ' K⟩) (aop (.build z ps) e σ):=by simp only [aJ,fS,bO]
theorem RL (n:Nat) (xs:List AOpd) (d:Option Nat) (os:List AOper) (e:Env) (σ:St) (K:Env→St→Prop):aJ T (⟨d,.mklit n xs,none⟩::os) e σ K=bO (K:=⟨fun v σ'=>aJ T os (Env.put e d v) σ' K⟩) (aop (.mklit n xs) e σ):=by simp only [aJ,fS,bO]
theorem S3 (n:Nat) (xs:List AOpd) (d:Option Nat) (os:List AOper) (e:Env) (σ:St) (K:Env→St→Prop):aJ T (⟨d,.mkref n xs,none⟩::os) e σ K=bO (K:=⟨fun v σ'=>aJ T os (Env.put e d v) σ' K⟩) (aop (.mkref n xs) e σ):=by simp only [aJ,fS,bO]
theorem XZ (sh:Option Nat) (x:AOpd) (d:Option Nat) (os:List AOper) (e:Env) (σ:St) (K:Env→St→Prop):aJ T (⟨d,.load sh x,none⟩::os) e σ K=bO (K:=⟨fun v σ'=>aJ T os (Env.put e d v) σ' K⟩) (aop (.load sh x) e σ):=by simp only [aJ,fS,bO]
theorem RU (n:Nat) (x y:AOpd) (d:Option Nat) (os:List AOper) (e:Env) (σ:St) (K:Env→St→Prop):aJ T (⟨d,.store n x y,none⟩::os) e σ K=bO (K:=⟨fun v σ'=>aJ T os (Env.put e d v) σ' K⟩) (aop (.store n x y) e σ):=by simp only [aJ,fS,bO]
theorem F8 (x:AOpd) (d:Option Nat) (os:List AOper) (e:Env) (σ:St) (K:Env→St→Prop):aJ T (⟨d,.nilCheck x,none⟩::os) e σ K=bO (K:=⟨fun v σ'=>aJ T os (Env.put e d v) σ' K⟩) (aop (.nilCheck x) e σ):=by simp only [aJ,fS,bO]
theorem aCT (op:BinOp) (x y:AOpd) (d:Option Nat) (os:List AOper) (e:Env) (σ:St) (K:Env→St→Prop):aJ T (⟨d,.bin op x y,none⟩::os) e σ K=bO (K:=⟨fun v σ'=>aJ T os (Env.put e d v) σ' K⟩) (aop (.bin op x y) e σ):=by simp only [aJ,fS,bO]
theorem aDB (sh:EqTy) (n:Bool) (x y:AOpd) (d:Option Nat) (os:List AOper) (e:Env) (σ:St) (K:Env→St→Prop):aJ T (⟨d,.eql sh n x y,none⟩::os) e σ K=bO (K:=⟨fun v σ'=>aJ T os (Env.put e d v) σ' K⟩) (aop (.eql sh n x y) e σ):=by simp only [aJ,fS,bO]
theorem aC9 (x:AOpd) (d:Option Nat) (os:List AOper) (e:Env) (σ:St) (K:Env→St→Prop):aJ T (⟨d,.not x,none⟩::os) e σ K=bO (K:=⟨fun v σ'=>aJ T os (Env.put e d v) σ' K⟩) (aop (.not x) e σ):=by simp only [aJ,fS,bO]
theorem aBR (x:AOpd) (d:Option Nat) (os:List AOper) (e:Env) (σ:St) (K:Env→St→Prop):aJ T (⟨d,.neg x,none⟩::os) e σ K=bO (K:=⟨fun v σ'=>aJ T os (Env.put e d v) σ' K⟩) (aop (.neg x) e σ):=by simp only [aJ,fS,bO]
theorem XK (k:IntKind) (x:AOpd) (d:Option Nat) (os:List AOper) (e:Env) (σ:St) (K:Env→St→Prop):aJ T (⟨d,.conv k x,none⟩::os) e σ K=bO (K:=⟨fun v σ'=>aJ T os (Env.put e d v) σ' K⟩) (aop (.conv k x) e σ):=by simp only [aJ,fS,bO]
theorem RT (f:FuncId) (xs ys:List AOpd) (d:Option Nat) (os:List AOper) (e:Env) (σ:St) (K:Env→St→Prop):aJ T (⟨d,.mkfun f xs ys,none⟩::os) e σ K=bO (K:=⟨fun v σ'=>aJ T os (Env.put e d v) σ' K⟩) (aop (.mkfun f xs ys) e σ):=by simp only [aJ,fS,bO]
theorem SI  (d:Option Nat) (os:List AOper) (e:Env) (σ:St) (K:Env→St→Prop):aJ T (⟨d,.mkmap,none⟩::os) e σ K=bO (K:=⟨fun v σ'=>aJ T os (Env.put e d v) σ' K⟩) (aop (.mkmap) e σ):=by simp only [aJ,fS,bO]
theorem LE (z:List AV) (b:Nat) (x y:AOpd) (d:Option Nat) (os:List AOper) (e:Env) (σ:St) (K:Env→St→Prop):aJ T (⟨d,.mkslice z b x y,none⟩::os) e σ K=bO (K:=⟨fun v σ'=>aJ T os (Env.put e d v) σ' K⟩) (aop (.mkslice z b x y) e σ):=by simp only [aJ,fS,bO]
theorem MC (n:Nat) (x:AOpd) (lo hi mx:Option AOpd) (d:Option Nat) (os:List AOper) (e:Env) (σ:St) (K:Env→St→Prop):aJ T (⟨d,.slicev n x lo hi mx,none⟩::os) e σ K=bO (K:=⟨fun v σ'=>aJ T os (Env.put e d v) σ' K⟩) (aop (.slicev n x lo hi mx) e σ):=by simp only [aJ,fS,bO]
theorem ON (n s:Nat) (x:AOpd) (lo hi:Option AOpd) (d:Option Nat) (os:List AOper) (e:Env) (σ:St) (K:Env→St→Prop):aJ T (⟨d,.slicea n s x lo hi,none⟩::os) e σ K=bO (K:=⟨fun v σ'=>aJ T os (Env.put e d v) σ' K⟩) (aop (.slicea n s x lo hi) e σ):=by simp only [aJ,fS,bO]
theorem RZ (x:AOpd) (o:Nat) (d:Option Nat) (os:List AOper) (e:Env) (σ:St) (K:Env→St→Prop):aJ T (⟨d,.faddr x o,none⟩::os) e σ K=bO (K:=⟨fun v σ'=>aJ T os (Env.put e d v) σ' K⟩) (aop (.faddr x o) e σ):=by simp only [aJ,fS,bO]
theorem T7 (x:AOpd) (o:Nat) (sh:Option Nat) (d:Option Nat) (os:List AOper) (e:Env) (σ:St) (K:Env→St→Prop):aJ T (⟨d,.field x o sh,none⟩::os) e σ K=bO (K:=⟨fun v σ'=>aJ T os (Env.put e d v) σ' K⟩) (aop (.field x o sh) e σ):=by simp only [aJ,fS,bO]
theorem R2 (a:Option Nat) (s:Nat) (x i:AOpd) (d:Option Nat) (os:List AOper) (e:Env) (σ:St) (K:Env→St→Prop):aJ T (⟨d,.iaddr a s x i,none⟩::os) e σ K=bO (K:=⟨fun v σ'=>aJ T os (Env.put e d v) σ' K⟩) (aop (.iaddr a s x i) e σ):=by simp only [aJ,fS,bO]
theorem SJ (n s:Nat) (sh:Option Nat) (x i:AOpd) (d:Option Nat) (os:List AOper) (e:Env) (σ:St) (K:Env→St→Prop):aJ T (⟨d,.index n s sh x i,none⟩::os) e σ K=bO (K:=⟨fun v σ'=>aJ T os (Env.put e d v) σ' K⟩) (aop (.index n s sh x i) e σ):=by simp only [aJ,fS,bO]
theorem P4 (x i:AOpd) (d:Option Nat) (os:List AOper) (e:Env) (σ:St) (K:Env→St→Prop):aJ T (⟨d,.sindex x i,none⟩::os) e σ K=bO (K:=⟨fun v σ'=>aJ T os (Env.put e d v) σ' K⟩) (aop (.sindex x i) e σ):=by simp only [aJ,fS,bO]
theorem MX (sh:EqTy) (ok:Bool) (z:AV) (m k:AOpd) (d:Option Nat) (os:List AOper) (e:Env) (σ:St) (K:Env→St→Prop):aJ T (⟨d,.lookup sh ok z m k,none⟩::os) e σ K=bO (K:=⟨fun v σ'=>aJ T os (Env.put e d v) σ' K⟩) (aop (.lookup sh ok z m k) e σ):=by simp only [aJ,fS,bO]
theorem M9 (sh:EqTy) (m k v:AOpd) (d:Option Nat) (os:List AOper) (e:Env) (σ:St) (K:Env→St→Prop):aJ T (⟨d,.mapset sh m k v,none⟩::os) e σ K=bO (K:=⟨fun v σ'=>aJ T os (Env.put e d v) σ' K⟩) (aop (.mapset sh m k v) e σ):=by simp only [aJ,fS,bO]
theorem aAT (x:AOpd) (i:Nat) (d:Option Nat) (os:List AOper) (e:Env) (σ:St) (K:Env→St→Prop):aJ T (⟨d,.ext x i,none⟩::os) e σ K=bO (K:=⟨fun v σ'=>aJ T os (Env.put e d v) σ' K⟩) (aop (.ext x i) e σ):=by simp only [aJ,fS,bO]
theorem aA0 (k:Nat) (x:AOpd) (d:Option Nat) (os:List AOper) (e:Env) (σ:St) (K:Env→St→Prop):aJ T (⟨d,.len k x,none⟩::os) e σ K=bO (K:=⟨fun v σ'=>aJ T os (Env.put e d v) σ' K⟩) (aop (.len k x) e σ):=by simp only [aJ,fS,bO]
theorem NP (n b:Nat) (x y:AOpd) (d:Option Nat) (os:List AOper) (e:Env) (σ:St) (K:Env→St→Prop):aJ T (⟨d,.append n b x y,none⟩::os) e σ K=bO (K:=⟨fun v σ'=>aJ T os (Env.put e d v) σ' K⟩) (aop (.append n b x y) e σ):=by simp only [aJ,fS,bO]
theorem TA (n b:Nat) (x y:AOpd) (d:Option Nat) (os:List AOper) (e:Env) (σ:St) (K:Env→St→Prop):aJ T (⟨d,.apref n b x y,none⟩::os) e σ K=bO (K:=⟨fun v σ'=>aJ T os (Env.put e d v) σ' K⟩) (aop (.apref n b x y) e σ):=by simp only [aJ,fS,bO]
theorem ZO (n:Nat) (x y:AOpd) (d:Option Nat) (os:List AOper) (e:Env) (σ:St) (K:Env→St→Prop):aJ T (⟨d,.copy n x y,none⟩::os) e σ K=bO (K:=⟨fun v σ'=>aJ T os (Env.put e d v) σ' K⟩) (aop (.copy n x y) e σ):=by simp only [aJ,fS,bO]
theorem aCN (xs:List AOpd) (d:Option Nat) (os:List AOper) (e:Env) (σ:St) (K:Env→St→Prop):aJ T (⟨d,.min xs,none⟩::os) e σ K=bO (K:=⟨fun v σ'=>aJ T os (Env.put e d v) σ' K⟩) (aop (.min xs) e σ):=by simp only [aJ,fS,bO]
theorem aBM (xs:List AOpd) (d:Option Nat) (os:List AOper) (e:Env) (σ:St) (K:Env→St→Prop):aJ T (⟨d,.max xs,none⟩::os) e σ K=bO (K:=⟨fun v σ'=>aJ T os (Env.put e d v) σ' K⟩) (aop (.max xs) e σ):=by simp only [aJ,fS,bO]
theorem O5 (x:AOpd) (d:Option Nat) (os:List AOper) (e:Env) (σ:St) (K:Env→St→Prop):aJ T (⟨d,.srange x,none⟩::os) e σ K=bO (K:=⟨fun v σ'=>aJ T os (Env.put e d v) σ' K⟩) (aop (.srange x) e σ):=by simp only [aJ,fS,bO]
theorem SO (x:AOpd) (d:Option Nat) (os:List AOper) (e:Env) (σ:St) (K:Env→St→Prop):aJ T (⟨d,.snext x,none⟩::os) e σ K=bO (K:=⟨fun v σ'=>aJ T os (Env.put e d v) σ' K⟩) (aop (.snext x) e σ):=by simp only [aJ,fS,bO]
theorem X9 (f:AOpd) (xs:List AOpd) (d:Option Nat) (os:List AOper) (e:Env) (σ:St) (K:Env→St→Prop):aJ T (⟨d,.call f xs,none⟩::os) e σ K=cK (K:=⟨fun v σ'=>aJ T os (Env.put e d v) σ' K⟩) T (f.ev e) (evs e xs) σ:=by simp only [aJ,fS,lD,cK]
theorem UB (b:Bool) (A B:HP Prop):bB (.bool b) (A:=A) (B:=B)=wM (A:=A) (B:=B) b:=by cases b<;>simp [bB,y4,wM]
theorem P9 (b:Bool) (A B:HP Prop):bG (.bool b) true (A:=A) (B:=B)=wM (A:=A) (B:=B) b:=by cases b<;>simp [bG,l0,wM]
theorem MH (b:Bool) (A B:HP Prop):bG (.bool b) false (A:=A) (B:=B)=wM (A:=B) (B:=A) b:=by cases b<;>simp [bG,l0,wM]
theorem MF (w:Bool) (A:HP Prop) (B:Prop):bG (.tuple []) w (A:=A) (B:=⟨B⟩)=B:=by simp [bG,l0]
theorem RX (d:Option Nat) (q:AOp) (t:Nat) (want:Bool) (os:List AOper) (e:Env) (σ:St) (K:Env→St→Prop):aJ T (⟨d,q,some (t,want)⟩::os) e σ K =
  bG (A:=⟨aJ T (⟨d,q,none⟩::os) e σ K⟩) (B:=⟨aJ T os (Env.put e d (.tuple [])) σ K⟩) (Env.get e t) want:=by simp only [aJ,bG]
theorem aBL (ds:List ADOper) (e:Env) (σ:St) (K:KJ):wp T (.dreg ds) e σ K=rK (K:=⟨K⟩) T (.dreg ds) e σ:=by simp only [wp,rK]
theorem IN {ds:List ADOper} {e:Env} {σ:St} {K:KJ} (h:wpD T ds e (σ++dI ds) σ.length [σ++dI ds] [] fun e σ=>K none e σ):rK (K:=⟨K⟩) T (.dreg ds) e σ:=.dreg (i9 h fun e σ hk=>hk)
theorem aAR (e:Env) (σ:St) (next:Nat) (hist:List St) (reads:List ARead) (K:Env→St→Prop):wpD T [] e σ next hist reads K=(oZ reads hist∧K e σ):=by simp only [wpD]
theorem ZP (f:AOpd) (xs:List AOpd) (d:Option Nat) (lo hi:Nat) (ds:List ADOper) (e:Env) (σ:St) (next:Nat) (hist:List St) (reads:List ARead) (K:Env→St→Prop) :
  wpD T (⟨⟨d,.call f xs,none⟩,lo,hi⟩::ds) e σ next hist reads K=cD (K:=⟨fun v σ'=>wpD T ds (Env.put e d v) σ' next (hist++[σ']) reads K⟩) T (f.ev e) (evs e xs) σ:=by simp only [wpD,lD,cD]
theorem UR (z:List AV) (d:Option Nat) (lo hi:Nat) (ds:List ADOper) (e:Env) (σ:St) (next:Nat) (hist:List St) (reads:List ARead) (K:Env→St→Prop) :
  wpD T (⟨⟨d,.alloc z,none⟩,lo,hi⟩::ds) e σ next hist reads K=wpD T ds (Env.put e d (.ptr next 0)) σ (next+1) hist reads K:=by simp only [wpD]
def rZ (lo hi:Nat) (q:AOp) (e:Env) (v:AV):List St→Nat→Prop
 |[],_=>True
 |s::ss,j=>(if lo≤j∧j≤hi then aop q e s=some (v,s) else True)∧rZ lo hi q e v ss (j+1)
theorem EY (r:ARead):∀ (ss:List St) (j:Nat),rZ r.lo r.hi r.op r.env r.v ss j=AW r ss j
 |[],j=>by simp only [rZ,AW]
 |s::ss,j=>by simp only [rZ,AW,EY r ss (j+1)]
theorem MJ (hist:List St):oZ [] hist=True:=by simp only [oZ]
theorem N3 (lo hi:Nat) (q:AOp) (e:Env) (v:AV) (rs:List ARead) (hist:List St):oZ (⟨lo,hi,q,e,v⟩::rs) hist=(rZ lo hi q e v hist 0∧oZ rs hist):=by
 simp only [oZ];rw [←EY]
theorem Q8 (lo hi:Nat) (q:AOp) (e:Env) (v:AV) (j:Nat):rZ lo hi q e v [] j=True:=by simp only [rZ]
theorem SF (lo hi:Nat) (q:AOp) (e:Env) (v:AV) (s:St) (ss:List St) (j:Nat):rZ lo hi q e v (s::ss) j=((if lo≤j∧j≤hi then aop q e s=some (v,s) else True)∧rZ lo hi q e v ss (j+1)):=by simp only [rZ]
theorem aCG (x:AOpd) (d:Option Nat) (wl wh:Nat) (ds:List ADOper) (e:Env) (σ:St) (next:Nat) (hist:List St) (reads:List ARead) (K:Env→St→Prop):wpD T (⟨⟨d,.mov x,none⟩,wl,wh⟩::ds) e σ next hist reads K=bO (K:=⟨fun v σ'=>σ'=σ∧wpD T ds (Env.put e d v) σ next hist reads K⟩) (aop (.mov x) e σ):=by
 simp only [wpD,bO,AOp.acts,AOp.reads,if_true,Bool.false_eq_true,if_false]
theorem YB (c x y:AOpd) (d:Option Nat) (wl wh:Nat) (ds:List ADOper) (e:Env) (σ:St) (next:Nat) (hist:List St) (reads:List ARead) (K:Env→St→Prop):wpD T (⟨⟨d,.pick c x y,none⟩,wl,wh⟩::ds) e σ next hist reads K=bO (K:=⟨fun v σ'=>σ'=σ∧wpD T ds (Env.put e d v) σ next hist reads K⟩) (aop (.pick c x y) e σ):=by
 simp only [wpD,bO,AOp.acts,AOp.reads,if_true,Bool.false_eq_true,if_false]
theorem Z7 (n:Nat) (x:AOpd) (d:Option Nat) (wl wh:Nat) (ds:List ADOper) (e:Env) (σ:St) (next:Nat) (hist:List St) (reads:List ARead) (K:Env→St→Prop):wpD T (⟨⟨d,.box n x,none⟩,wl,wh⟩::ds) e σ next hist reads K=bO (K:=⟨fun v σ'=>wpD T ds (Env.put e d v) σ' next (hist++[σ']) reads K⟩) (aop (.box n x) e σ):=by
 simp only [wpD,bO,AOp.acts,AOp.reads,if_true,Bool.false_eq_true,if_false]
theorem TN (z:List AV) (ps:List (Nat×Nat×AOpd)) (d:Option Nat) (wl wh:Nat) (ds:List ADOper) (e:Env) (σ:St) (next:Nat) (hist:List St) (reads:List ARead) (K:Env→St→Prop):wpD T (⟨⟨d,.build z ps,none⟩,wl,wh⟩::ds) e σ next hist reads K=bO (K:=⟨fun v σ'=>σ'=σ∧wpD T ds (Env.put e d v) σ next hist reads K⟩) (aop (.build z ps) e σ):=by
 simp only [wpD,bO,AOp.acts,AOp.reads,if_true,Bool.false_eq_true,if_false]
theorem TW (n:Nat) (xs:List AOpd) (d:Option Nat) (wl wh:Nat) (ds:List ADOper) (e:Env) (σ:St) (next:Nat) (hist:List St) (reads:List ARead) (K:Env→St→Prop):wpD T (⟨⟨d,.mklit n xs,none⟩,wl,wh⟩::ds) e σ next hist reads K=bO (K:=⟨fun v σ'=>σ'=σ∧wpD T ds (Env.put e d v) σ next hist reads K⟩) (aop (.mklit n xs) e σ):=by
 simp only [wpD,bO,AOp.acts,AOp.reads,if_true,Bool.false_eq_true,if_false]
theorem RJ (n:Nat) (xs:List AOpd) (d:Option Nat) (wl wh:Nat) (ds:List ADOper) (e:Env) (σ:St) (next:Nat) (hist:List St) (reads:List ARead) (K:Env→St→Prop):wpD T (⟨⟨d,.mkref n xs,none⟩,wl,wh⟩::ds) e σ next hist reads K=bO (K:=⟨fun v σ'=>wpD T ds (Env.put e d v) σ' next (hist++[σ']) reads K⟩) (aop (.mkref n xs) e σ):=by
 simp only [wpD,bO,AOp.acts,AOp.reads,if_true,Bool.false_eq_true,if_false]
theorem W0 (sh:Option Nat) (x:AOpd) (d:Option Nat) (wl wh:Nat) (ds:List ADOper) (e:Env) (σ:St) (next:Nat) (hist:List St) (reads:List ARead) (K:Env→St→Prop):wpD T (⟨⟨d,.load sh x,none⟩,wl,wh⟩::ds) e σ next hist reads K=bO (K:=⟨fun v σ'=>σ'=σ∧wpD T ds (Env.put e d v) σ next hist (⟨wl,wh,.load sh x,e,v⟩::reads) K⟩) (aop (.load sh x) e σ):=by
 simp only [wpD,bO,AOp.acts,AOp.reads,if_true,Bool.false_eq_true,if_false]
theorem T4 (n:Nat) (x y:AOpd) (d:Option Nat) (wl wh:Nat) (ds:List ADOper) (e:Env) (σ:St) (next:Nat) (hist:List St) (reads:List ARead) (K:Env→St→Prop):wpD T (⟨⟨d,.store n x y,none⟩,wl,wh⟩::ds) e σ next hist reads K=bO (K:=⟨fun v σ'=>wpD T ds (Env.put e d v) σ' next (hist++[σ']) reads K⟩) (aop (.store n x y) e σ):=by
 simp only [wpD,bO,AOp.acts,AOp.reads,if_true,Bool.false_eq_true,if_false]
theorem HD (x:AOpd) (d:Option Nat) (wl wh:Nat) (ds:List ADOper) (e:Env) (σ:St) (next:Nat) (hist:List St) (reads:List ARead) (K:Env→St→Prop):wpD T (⟨⟨d,.nilCheck x,none⟩,wl,wh⟩::ds) e σ next hist reads K=bO (K:=⟨fun v σ'=>σ'=σ∧wpD T ds (Env.put e d v) σ next hist reads K⟩) (aop (.nilCheck x) e σ):=by
 simp only [wpD,bO,AOp.acts,AOp.reads,if_true,Bool.false_eq_true,if_false]
theorem aB9 (op:BinOp) (x y:AOpd) (d:Option Nat) (wl wh:Nat) (ds:List ADOper) (e:Env) (σ:St) (next:Nat) (hist:List St) (reads:List ARead) (K:Env→St→Prop):wpD T (⟨⟨d,.bin op x y,none⟩,wl,wh⟩::ds) e σ next hist reads K=bO (K:=⟨fun v σ'=>σ'=σ∧wpD T ds (Env.put e d v) σ next hist reads K⟩) (aop (.bin op x y) e σ):=by
 simp only [wpD,bO,AOp.acts,AOp.reads,if_true,Bool.false_eq_true,if_false]
theorem aAY (sh:EqTy) (n:Bool) (x y:AOpd) (d:Option Nat) (wl wh:Nat) (ds:List ADOper) (e:Env) (σ:St) (next:Nat) (hist:List St) (reads:List ARead) (K:Env→St→Prop):wpD T (⟨⟨d,.eql sh n x y,none⟩,wl,wh⟩::ds) e σ next hist reads K=bO (K:=⟨fun v σ'=>σ'=σ∧wpD T ds (Env.put e d v) σ next hist reads K⟩) (aop (.eql sh n x y) e σ):=by
 simp only [wpD,bO,AOp.acts,AOp.reads,if_true,Bool.false_eq_true,if_false]
theorem aA8 (x:AOpd) (d:Option Nat) (wl wh:Nat) (ds:List ADOper) (e:Env) (σ:St) (next:Nat) (hist:List St) (reads:List ARead) (K:Env→St→Prop):wpD T (⟨⟨d,.not x,none⟩,wl,wh⟩::ds) e σ next hist reads K=bO (K:=⟨fun v σ'=>σ'=σ∧wpD T ds (Env.put e d v) σ next hist reads K⟩) (aop (.not x) e σ):=by
 simp only [wpD,bO,AOp.acts,AOp.reads,if_true,Bool.false_eq_true,if_false]
theorem aB8 (x:AOpd) (d:Option Nat) (wl wh:Nat) (ds:List ADOper) (e:Env) (σ:St) (next:Nat) (hist:List St) (reads:List ARead) (K:Env→St→Prop):wpD T (⟨⟨d,.neg x,none⟩,wl,wh⟩::ds) e σ next hist reads K=bO (K:=⟨fun v σ'=>σ'=σ∧wpD T ds (Env.put e d v) σ next hist reads K⟩) (aop (.neg x) e σ):=by
 simp only [wpD,bO,AOp.acts,AOp.reads,if_true,Bool.false_eq_true,if_false]
theorem WW (k:IntKind) (x:AOpd) (d:Option Nat) (wl wh:Nat) (ds:List ADOper) (e:Env) (σ:St) (next:Nat) (hist:List St) (reads:List ARead) (K:Env→St→Prop):wpD T (⟨⟨d,.conv k x,none⟩,wl,wh⟩::ds) e σ next hist reads K=bO (K:=⟨fun v σ'=>σ'=σ∧wpD T ds (Env.put e d v) σ next hist reads K⟩) (aop (.conv k x) e σ):=by
 simp only [wpD,bO,AOp.acts,AOp.reads,if_true,Bool.false_eq_true,if_false]
theorem Q4 (f:FuncId) (xs ys:List AOpd) (d:Option Nat) (wl wh:Nat) (ds:List ADOper) (e:Env) (σ:St) (next:Nat) (hist:List St) (reads:List ARead) (K:Env→St→Prop):wpD T (⟨⟨d,.mkfun f xs ys,none⟩,wl,wh⟩::ds) e σ next hist reads K=bO (K:=⟨fun v σ'=>σ'=σ∧wpD T ds (Env.put e d v) σ next hist reads K⟩) (aop (.mkfun f xs ys) e σ):=by
 simp only [wpD,bO,AOp.acts,AOp.reads,if_true,Bool.false_eq_true,if_false]
theorem S2  (d:Option Nat) (wl wh:Nat) (ds:List ADOper) (e:Env) (σ:St) (next:Nat) (hist:List St) (reads:List ARead) (K:Env→St→Prop):wpD T (⟨⟨d,.mkmap,none⟩,wl,wh⟩::ds) e σ next hist reads K=bO (K:=⟨fun v σ'=>wpD T ds (Env.put e d v) σ' next (hist++[σ']) reads K⟩) (aop (.mkmap) e σ):=by
 simp only [wpD,bO,AOp.acts,AOp.reads,if_true,Bool.false_eq_true,if_false]
theorem J3 (z:List AV) (b:Nat) (x y:AOpd) (d:Option Nat) (wl wh:Nat) (ds:List ADOper) (e:Env) (σ:St) (next:Nat) (hist:List St) (reads:List ARead) (K:Env→St→Prop):wpD T (⟨⟨d,.mkslice z b x y,none⟩,wl,wh⟩::ds) e σ next hist reads K=bO (K:=⟨fun v σ'=>wpD T ds (Env.put e d v) σ' next (hist++[σ']) reads K⟩) (aop (.mkslice z b x y) e σ):=by
 simp only [wpD,bO,AOp.acts,AOp.reads,if_true,Bool.false_eq_true,if_false]
theorem O8 (n:Nat) (x:AOpd) (lo hi mx:Option AOpd) (d:Option Nat) (wl wh:Nat) (ds:List ADOper) (e:Env) (σ:St) (next:Nat) (hist:List St) (reads:List ARead) (K:Env→St→Prop):wpD T (⟨⟨d,.slicev n x lo hi mx,none⟩,wl,wh⟩::ds) e σ next hist reads K=bO (K:=⟨fun v σ'=>σ'=σ∧wpD T ds (Env.put e d v) σ next hist (⟨wl,wh,.slicev n x lo hi mx,e,v⟩::reads) K⟩) (aop (.slicev n x lo hi mx) e σ):=by
 simp only [wpD,bO,AOp.acts,AOp.reads,if_true,Bool.false_eq_true,if_false]
theorem MA (n s:Nat) (x:AOpd) (lo hi:Option AOpd) (d:Option Nat) (wl wh:Nat) (ds:List ADOper) (e:Env) (σ:St) (next:Nat) (hist:List St) (reads:List ARead) (K:Env→St→Prop):wpD T (⟨⟨d,.slicea n s x lo hi,none⟩,wl,wh⟩::ds) e σ next hist reads K=bO (K:=⟨fun v σ'=>σ'=σ∧wpD T ds (Env.put e d v) σ next hist reads K⟩) (aop (.slicea n s x lo hi) e σ):=by
 simp only [wpD,bO,AOp.acts,AOp.reads,if_true,Bool.false_eq_true,if_false]
theorem TP (x:AOpd) (o:Nat) (d:Option Nat) (wl wh:Nat) (ds:List ADOper) (e:Env) (σ:St) (next:Nat) (hist:List St) (reads:List ARead) (K:Env→St→Prop):wpD T (⟨⟨d,.faddr x o,none⟩,wl,wh⟩::ds) e σ next hist reads K=bO (K:=⟨fun v σ'=>σ'=σ∧wpD T ds (Env.put e d v) σ next hist reads K⟩) (aop (.faddr x o) e σ):=by
 simp only [wpD,bO,AOp.acts,AOp.reads,if_true,Bool.false_eq_true,if_false]
theorem TQ (x:AOpd) (o:Nat) (sh:Option Nat) (d:Option Nat) (wl wh:Nat) (ds:List ADOper) (e:Env) (σ:St) (next:Nat) (hist:List St) (reads:List ARead) (K:Env→St→Prop):wpD T (⟨⟨d,.field x o sh,none⟩,wl,wh⟩::ds) e σ next hist reads K=bO (K:=⟨fun v σ'=>σ'=σ∧wpD T ds (Env.put e d v) σ next hist reads K⟩) (aop (.field x o sh) e σ):=by
 simp only [wpD,bO,AOp.acts,AOp.reads,if_true,Bool.false_eq_true,if_false]
theorem UP (a:Option Nat) (s:Nat) (x i:AOpd) (d:Option Nat) (wl wh:Nat) (ds:List ADOper) (e:Env) (σ:St) (next:Nat) (hist:List St) (reads:List ARead) (K:Env→St→Prop):wpD T (⟨⟨d,.iaddr a s x i,none⟩,wl,wh⟩::ds) e σ next hist reads K=bO (K:=⟨fun v σ'=>σ'=σ∧wpD T ds (Env.put e d v) σ next hist reads K⟩) (aop (.iaddr a s x i) e σ):=by
 simp only [wpD,bO,AOp.acts,AOp.reads,if_true,Bool.false_eq_true,if_false]
theorem UG (n s:Nat) (sh:Option Nat) (x i:AOpd) (d:Option Nat) (wl wh:Nat) (ds:List ADOper) (e:Env) (σ:St) (next:Nat) (hist:List St) (reads:List ARead) (K:Env→St→Prop):wpD T (⟨⟨d,.index n s sh x i,none⟩,wl,wh⟩::ds) e σ next hist reads K=bO (K:=⟨fun v σ'=>σ'=σ∧wpD T ds (Env.put e d v) σ next hist reads K⟩) (aop (.index n s sh x i) e σ):=by
 simp only [wpD,bO,AOp.acts,AOp.reads,if_true,Bool.false_eq_true,if_false]
theorem OQ (x i:AOpd) (d:Option Nat) (wl wh:Nat) (ds:List ADOper) (e:Env) (σ:St) (next:Nat) (hist:List St) (reads:List ARead) (K:Env→St→Prop):wpD T (⟨⟨d,.sindex x i,none⟩,wl,wh⟩::ds) e σ next hist reads K=bO (K:=⟨fun v σ'=>σ'=σ∧wpD T ds (Env.put e d v) σ next hist reads K⟩) (aop (.sindex x i) e σ):=by
 simp only [wpD,bO,AOp.acts,AOp.reads,if_true,Bool.false_eq_true,if_false]
theorem PA (sh:EqTy) (ok:Bool) (z:AV) (m k:AOpd) (d:Option Nat) (wl wh:Nat) (ds:List ADOper) (e:Env) (σ:St) (next:Nat) (hist:List St) (reads:List ARead) (K:Env→St→Prop):wpD T (⟨⟨d,.lookup sh ok z m k,none⟩,wl,wh⟩::ds) e σ next hist reads K=bO (K:=⟨fun v σ'=>σ'=σ∧wpD T ds (Env.put e d v) σ next hist (⟨wl,wh,.lookup sh ok z m k,e,v⟩::reads) K⟩) (aop (.lookup sh ok z m k) e σ):=by
 simp only [wpD,bO,AOp.acts,AOp.reads,if_true,Bool.false_eq_true,if_false]
theorem MN (sh:EqTy) (m k v:AOpd) (d:Option Nat) (wl wh:Nat) (ds:List ADOper) (e:Env) (σ:St) (next:Nat) (hist:List St) (reads:List ARead) (K:Env→St→Prop):wpD T (⟨⟨d,.mapset sh m k v,none⟩,wl,wh⟩::ds) e σ next hist reads K=bO (K:=⟨fun v σ'=>wpD T ds (Env.put e d v) σ' next (hist++[σ']) reads K⟩) (aop (.mapset sh m k v) e σ):=by
 simp only [wpD,bO,AOp.acts,AOp.reads,if_true,Bool.false_eq_true,if_false]
theorem aAA (x:AOpd) (i:Nat) (d:Option Nat) (wl wh:Nat) (ds:List ADOper) (e:Env) (σ:St) (next:Nat) (hist:List St) (reads:List ARead) (K:Env→St→Prop):wpD T (⟨⟨d,.ext x i,none⟩,wl,wh⟩::ds) e σ next hist reads K=bO (K:=⟨fun v σ'=>σ'=σ∧wpD T ds (Env.put e d v) σ next hist reads K⟩) (aop (.ext x i) e σ):=by
 simp only [wpD,bO,AOp.acts,AOp.reads,if_true,Bool.false_eq_true,if_false]
theorem aCO (k:Nat) (x:AOpd) (d:Option Nat) (wl wh:Nat) (ds:List ADOper) (e:Env) (σ:St) (next:Nat) (hist:List St) (reads:List ARead) (K:Env→St→Prop):wpD T (⟨⟨d,.len k x,none⟩,wl,wh⟩::ds) e σ next hist reads K=bO (K:=⟨fun v σ'=>σ'=σ∧wpD T ds (Env.put e d v) σ next hist (⟨wl,wh,.len k x,e,v⟩::reads) K⟩) (aop (.len k x) e σ):=by
 simp only [wpD,bO,AOp.acts,AOp.reads,if_true,Bool.false_eq_true,if_false]
theorem OD (n b:Nat) (x y:AOpd) (d:Option Nat) (wl wh:Nat) (ds:List ADOper) (e:Env) (σ:St) (next:Nat) (hist:List St) (reads:List ARead) (K:Env→St→Prop):wpD T (⟨⟨d,.append n b x y,none⟩,wl,wh⟩::ds) e σ next hist reads K=bO (K:=⟨fun v σ'=>wpD T ds (Env.put e d v) σ' next (hist++[σ']) reads K⟩) (aop (.append n b x y) e σ):=by
 simp only [wpD,bO,AOp.acts,AOp.reads,if_true,Bool.false_eq_true,if_false]
theorem RR (n b:Nat) (x y:AOpd) (d:Option Nat) (wl wh:Nat) (ds:List ADOper) (e:Env) (σ:St) (next:Nat) (hist:List St) (reads:List ARead) (K:Env→St→Prop):wpD T (⟨⟨d,.apref n b x y,none⟩,wl,wh⟩::ds) e σ next hist reads K=bO (K:=⟨fun v σ'=>wpD T ds (Env.put e d v) σ' next (hist++[σ']) reads K⟩) (aop (.apref n b x y) e σ):=by
 simp only [wpD,bO,AOp.acts,AOp.reads,if_true,Bool.false_eq_true,if_false]
theorem X1 (n:Nat) (x y:AOpd) (d:Option Nat) (wl wh:Nat) (ds:List ADOper) (e:Env) (σ:St) (next:Nat) (hist:List St) (reads:List ARead) (K:Env→St→Prop):wpD T (⟨⟨d,.copy n x y,none⟩,wl,wh⟩::ds) e σ next hist reads K=bO (K:=⟨fun v σ'=>wpD T ds (Env.put e d v) σ' next (hist++[σ']) reads K⟩) (aop (.copy n x y) e σ):=by
 simp only [wpD,bO,AOp.acts,AOp.reads,if_true,Bool.false_eq_true,if_false]
theorem aBY (xs:List AOpd) (d:Option Nat) (wl wh:Nat) (ds:List ADOper) (e:Env) (σ:St) (next:Nat) (hist:List St) (reads:List ARead) (K:Env→St→Prop):wpD T (⟨⟨d,.min xs,none⟩,wl,wh⟩::ds) e σ next hist reads K=bO (K:=⟨fun v σ'=>σ'=σ∧wpD T ds (Env.put e d v) σ next hist reads K⟩) (aop (.min xs) e σ):=by
 simp only [wpD,bO,AOp.acts,AOp.reads,if_true,Bool.false_eq_true,if_false]
theorem aBH (xs:List AOpd) (d:Option Nat) (wl wh:Nat) (ds:List ADOper) (e:Env) (σ:St) (next:Nat) (hist:List St) (reads:List ARead) (K:Env→St→Prop):wpD T (⟨⟨d,.max xs,none⟩,wl,wh⟩::ds) e σ next hist reads K=bO (K:=⟨fun v σ'=>σ'=σ∧wpD T ds (Env.put e d v) σ next hist reads K⟩) (aop (.max xs) e σ):=by
 simp only [wpD,bO,AOp.acts,AOp.reads,if_true,Bool.false_eq_true,if_false]
theorem NC (x:AOpd) (d:Option Nat) (wl wh:Nat) (ds:List ADOper) (e:Env) (σ:St) (next:Nat) (hist:List St) (reads:List ARead) (K:Env→St→Prop):wpD T (⟨⟨d,.srange x,none⟩,wl,wh⟩::ds) e σ next hist reads K=bO (K:=⟨fun v σ'=>wpD T ds (Env.put e d v) σ' next (hist++[σ']) reads K⟩) (aop (.srange x) e σ):=by
 simp only [wpD,bO,AOp.acts,AOp.reads,if_true,Bool.false_eq_true,if_false]
theorem SQ (x:AOpd) (d:Option Nat) (wl wh:Nat) (ds:List ADOper) (e:Env) (σ:St) (next:Nat) (hist:List St) (reads:List ARead) (K:Env→St→Prop):wpD T (⟨⟨d,.snext x,none⟩,wl,wh⟩::ds) e σ next hist reads K=bO (K:=⟨fun v σ'=>wpD T ds (Env.put e d v) σ' next (hist++[σ']) reads K⟩) (aop (.snext x) e σ):=by
 simp only [wpD,bO,AOp.acts,AOp.reads,if_true,Bool.false_eq_true,if_false]
theorem NB (f:AOpd) (xs:List AOpd) (t:Nat) (want:Bool) (d:Option Nat) (wl wh:Nat) (ds:List ADOper) (e:Env) (σ:St) (next:Nat) (hist:List St) (reads:List ARead) (K:Env→St→Prop):wpD T (⟨⟨d,.call f xs,some (t,want)⟩,wl,wh⟩::ds) e σ next hist reads K =
  bG (A:=⟨wpD T (⟨⟨d,.call f xs,none⟩,wl,wh⟩::ds) e σ next hist reads K⟩) (B:=⟨wpD T ds (Env.put e d (.tuple [])) σ next (hist++[σ]) reads K⟩) (Env.get e t) want:=by simp only [wpD,bG]
theorem aB4 (x:AOpd) (t:Nat) (want:Bool) (d:Option Nat) (wl wh:Nat) (ds:List ADOper) (e:Env) (σ:St) (next:Nat) (hist:List St) (reads:List ARead) (K:Env→St→Prop):wpD T (⟨⟨d,.mov x,some (t,want)⟩,wl,wh⟩::ds) e σ next hist reads K =
  bG (A:=⟨wpD T (⟨⟨d,.mov x,none⟩,wl,wh⟩::ds) e σ next hist reads K⟩) (B:=⟨wpD T ds (Env.put e d (.tuple [])) σ next hist reads K⟩) (Env.get e t) want:=by
 simp only [wpD,bG,AOp.allocs,AOp.acts,true_and,if_true,Bool.false_eq_true,if_false]
theorem WP (c x y:AOpd) (t:Nat) (want:Bool) (d:Option Nat) (wl wh:Nat) (ds:List ADOper) (e:Env) (σ:St) (next:Nat) (hist:List St) (reads:List ARead) (K:Env→St→Prop):wpD T (⟨⟨d,.pick c x y,some (t,want)⟩,wl,wh⟩::ds) e σ next hist reads K =
  bG (A:=⟨wpD T (⟨⟨d,.pick c x y,none⟩,wl,wh⟩::ds) e σ next hist reads K⟩) (B:=⟨wpD T ds (Env.put e d (.tuple [])) σ next hist reads K⟩) (Env.get e t) want:=by
 simp only [wpD,bG,AOp.allocs,AOp.acts,true_and,if_true,Bool.false_eq_true,if_false]
theorem aBT (n:Nat) (x:AOpd) (t:Nat) (want:Bool) (d:Option Nat) (wl wh:Nat) (ds:List ADOper) (e:Env) (σ:St) (next:Nat) (hist:List St) (reads:List ARead) (K:Env→St→Prop):wpD T (⟨⟨d,.box n x,some (t,want)⟩,wl,wh⟩::ds) e σ next hist reads K =
  bG (A:=⟨wpD T (⟨⟨d,.box n x,none⟩,wl,wh⟩::ds) e σ next hist reads K⟩) (B:=⟨wpD T ds (Env.put e d (.tuple [])) σ next (hist++[σ]) reads K⟩) (Env.get e t) want:=by
 simp only [wpD,bG,AOp.allocs,AOp.acts,true_and,if_true,Bool.false_eq_true,if_false]
theorem TM (z:List AV) (ps:List (Nat×Nat×AOpd)) (t:Nat) (want:Bool) (d:Option Nat) (wl wh:Nat) (ds:List ADOper) (e:Env) (σ:St) (next:Nat) (hist:List St) (reads:List ARead) (K:Env→St→Prop):wpD T (⟨⟨d,.build z ps,some (t,want)⟩,wl,wh⟩::ds) e σ next hist reads K =
  bG (A:=⟨wpD T (⟨⟨d,.build z ps,none⟩,wl,wh⟩::ds) e σ next hist reads K⟩) (B:=⟨wpD T ds (Env.put e d (.tuple [])) σ next hist reads K⟩) (Env.get e t) want:=by
 simp only [wpD,bG,AOp.allocs,AOp.acts,true_and,if_true,Bool.false_eq_true,if_false]
theorem TT (n:Nat) (xs:List AOpd) (t:Nat) (want:Bool) (d:Option Nat) (wl wh:Nat) (ds:List ADOper) (e:Env) (σ:St) (next:Nat) (hist:List St) (reads:List ARead) (K:Env→St→Prop):wpD T (⟨⟨d,.mklit n xs,some (t,want)⟩,wl,wh⟩::ds) e σ next hist reads K =
  bG (A:=⟨wpD T (⟨⟨d,.mklit n xs,none⟩,wl,wh⟩::ds) e σ next hist reads K⟩) (B:=⟨wpD T ds (Env.put e d (.tuple [])) σ next hist reads K⟩) (Env.get e t) want:=by
 simp only [wpD,bG,AOp.allocs,AOp.acts,true_and,if_true,Bool.false_eq_true,if_false]
theorem SU (n:Nat) (xs:List AOpd) (t:Nat) (want:Bool) (d:Option Nat) (wl wh:Nat) (ds:List ADOper) (e:Env) (σ:St) (next:Nat) (hist:List St) (reads:List ARead) (K:Env→St→Prop):wpD T (⟨⟨d,.mkref n xs,some (t,want)⟩,wl,wh⟩::ds) e σ next hist reads K =
  bG (A:=⟨wpD T (⟨⟨d,.mkref n xs,none⟩,wl,wh⟩::ds) e σ next hist reads K⟩) (B:=⟨wpD T ds (Env.put e d (.tuple [])) σ next (hist++[σ]) reads K⟩) (Env.get e t) want:=by
 simp only [wpD,bG,AOp.allocs,AOp.acts,true_and,if_true,Bool.false_eq_true,if_false]
theorem X2 (sh:Option Nat) (x:AOpd) (t:Nat) (want:Bool) (d:Option Nat) (wl wh:Nat) (ds:List ADOper) (e:Env) (σ:St) (next:Nat) (hist:List St) (reads:List ARead) (K:Env→St→Prop):wpD T (⟨⟨d,.load sh x,some (t,want)⟩,wl,wh⟩::ds) e σ next hist reads K =
  bG (A:=⟨wpD T (⟨⟨d,.load sh x,none⟩,wl,wh⟩::ds) e σ next hist reads K⟩) (B:=⟨wpD T ds (Env.put e d (.tuple [])) σ next hist reads K⟩) (Env.get e t) want:=by
 simp only [wpD,bG,AOp.allocs,AOp.acts,true_and,if_true,Bool.false_eq_true,if_false]
theorem S1 (n:Nat) (x y:AOpd) (t:Nat) (want:Bool) (d:Option Nat) (wl wh:Nat) (ds:List ADOper) (e:Env) (σ:St) (next:Nat) (hist:List St) (reads:List ARead) (K:Env→St→Prop):wpD T (⟨⟨d,.store n x y,some (t,want)⟩,wl,wh⟩::ds) e σ next hist reads K =
  bG (A:=⟨wpD T (⟨⟨d,.store n x y,none⟩,wl,wh⟩::ds) e σ next hist reads K⟩) (B:=⟨wpD T ds (Env.put e d (.tuple [])) σ next (hist++[σ]) reads K⟩) (Env.get e t) want:=by
 simp only [wpD,bG,AOp.allocs,AOp.acts,true_and,if_true,Bool.false_eq_true,if_false]
theorem F9 (x:AOpd) (t:Nat) (want:Bool) (d:Option Nat) (wl wh:Nat) (ds:List ADOper) (e:Env) (σ:St) (next:Nat) (hist:List St) (reads:List ARead) (K:Env→St→Prop):wpD T (⟨⟨d,.nilCheck x,some (t,want)⟩,wl,wh⟩::ds) e σ next hist reads K =
  bG (A:=⟨wpD T (⟨⟨d,.nilCheck x,none⟩,wl,wh⟩::ds) e σ next hist reads K⟩) (B:=⟨wpD T ds (Env.put e d (.tuple [])) σ next hist reads K⟩) (Env.get e t) want:=by
 simp only [wpD,bG,AOp.allocs,AOp.acts,true_and,if_true,Bool.false_eq_true,if_false]
theorem aC2 (op:BinOp) (x y:AOpd) (t:Nat) (want:Bool) (d:Option Nat) (wl wh:Nat) (ds:List ADOper) (e:Env) (σ:St) (next:Nat) (hist:List St) (reads:List ARead) (K:Env→St→Prop):wpD T (⟨⟨d,.bin op x y,some (t,want)⟩,wl,wh⟩::ds) e σ next hist reads K =
  bG (A:=⟨wpD T (⟨⟨d,.bin op x y,none⟩,wl,wh⟩::ds) e σ next hist reads K⟩) (B:=⟨wpD T ds (Env.put e d (.tuple [])) σ next hist reads K⟩) (Env.get e t) want:=by
 simp only [wpD,bG,AOp.allocs,AOp.acts,true_and,if_true,Bool.false_eq_true,if_false]
theorem aA2 (sh:EqTy) (n:Bool) (x y:AOpd) (t:Nat) (want:Bool) (d:Option Nat) (wl wh:Nat) (ds:List ADOper) (e:Env) (σ:St) (next:Nat) (hist:List St) (reads:List ARead) (K:Env→St→Prop):wpD T (⟨⟨d,.eql sh n x y,some (t,want)⟩,wl,wh⟩::ds) e σ next hist reads K =
  bG (A:=⟨wpD T (⟨⟨d,.eql sh n x y,none⟩,wl,wh⟩::ds) e σ next hist reads K⟩) (B:=⟨wpD T ds (Env.put e d (.tuple [])) σ next hist reads K⟩) (Env.get e t) want:=by
 simp only [wpD,bG,AOp.allocs,AOp.acts,true_and,if_true,Bool.false_eq_true,if_false]
theorem aBK (x:AOpd) (t:Nat) (want:Bool) (d:Option Nat) (wl wh:Nat) (ds:List ADOper) (e:Env) (σ:St) (next:Nat) (hist:List St) (reads:List ARead) (K:Env→St→Prop):wpD T (⟨⟨d,.not x,some (t,want)⟩,wl,wh⟩::ds) e σ next hist reads K =
  bG (A:=⟨wpD T (⟨⟨d,.not x,none⟩,wl,wh⟩::ds) e σ next hist reads K⟩) (B:=⟨wpD T ds (Env.put e d (.tuple [])) σ next hist reads K⟩) (Env.get e t) want:=by
 simp only [wpD,bG,AOp.allocs,AOp.acts,true_and,if_true,Bool.false_eq_true,if_false]
theorem aAL (x:AOpd) (t:Nat) (want:Bool) (d:Option Nat) (wl wh:Nat) (ds:List ADOper) (e:Env) (σ:St) (next:Nat) (hist:List St) (reads:List ARead) (K:Env→St→Prop):wpD T (⟨⟨d,.neg x,some (t,want)⟩,wl,wh⟩::ds) e σ next hist reads K =
  bG (A:=⟨wpD T (⟨⟨d,.neg x,none⟩,wl,wh⟩::ds) e σ next hist reads K⟩) (B:=⟨wpD T ds (Env.put e d (.tuple [])) σ next hist reads K⟩) (Env.get e t) want:=by
 simp only [wpD,bG,AOp.allocs,AOp.acts,true_and,if_true,Bool.false_eq_true,if_false]
theorem W8 (k:IntKind) (x:AOpd) (t:Nat) (want:Bool) (d:Option Nat) (wl wh:Nat) (ds:List ADOper) (e:Env) (σ:St) (next:Nat) (hist:List St) (reads:List ARead) (K:Env→St→Prop):wpD T (⟨⟨d,.conv k x,some (t,want)⟩,wl,wh⟩::ds) e σ next hist reads K =
  bG (A:=⟨wpD T (⟨⟨d,.conv k x,none⟩,wl,wh⟩::ds) e σ next hist reads K⟩) (B:=⟨wpD T ds (Env.put e d (.tuple [])) σ next hist reads K⟩) (Env.get e t) want:=by
 simp only [wpD,bG,AOp.allocs,AOp.acts,true_and,if_true,Bool.false_eq_true,if_false]
theorem Q2 (f:FuncId) (xs ys:List AOpd) (t:Nat) (want:Bool) (d:Option Nat) (wl wh:Nat) (ds:List ADOper) (e:Env) (σ:St) (next:Nat) (hist:List St) (reads:List ARead) (K:Env→St→Prop):wpD T (⟨⟨d,.mkfun f xs ys,some (t,want)⟩,wl,wh⟩::ds) e σ next hist reads K =
  bG (A:=⟨wpD T (⟨⟨d,.mkfun f xs ys,none⟩,wl,wh⟩::ds) e σ next hist reads K⟩) (B:=⟨wpD T ds (Env.put e d (.tuple [])) σ next hist reads K⟩) (Env.get e t) want:=by
 simp only [wpD,bG,AOp.allocs,AOp.acts,true_and,if_true,Bool.false_eq_true,if_false]
theorem T9  (t:Nat) (want:Bool) (d:Option Nat) (wl wh:Nat) (ds:List ADOper) (e:Env) (σ:St) (next:Nat) (hist:List St) (reads:List ARead) (K:Env→St→Prop):wpD T (⟨⟨d,.mkmap,some (t,want)⟩,wl,wh⟩::ds) e σ next hist reads K =
  bG (A:=⟨wpD T (⟨⟨d,.mkmap,none⟩,wl,wh⟩::ds) e σ next hist reads K⟩) (B:=⟨wpD T ds (Env.put e d (.tuple [])) σ next (hist++[σ]) reads K⟩) (Env.get e t) want:=by
 simp only [wpD,bG,AOp.allocs,AOp.acts,true_and,if_true,Bool.false_eq_true,if_false]
theorem K3 (z:List AV) (b:Nat) (x y:AOpd) (t:Nat) (want:Bool) (d:Option Nat) (wl wh:Nat) (ds:List ADOper) (e:Env) (σ:St) (next:Nat) (hist:List St) (reads:List ARead) (K:Env→St→Prop):wpD T (⟨⟨d,.mkslice z b x y,some (t,want)⟩,wl,wh⟩::ds) e σ next hist reads K =
  bG (A:=⟨wpD T (⟨⟨d,.mkslice z b x y,none⟩,wl,wh⟩::ds) e σ next hist reads K⟩) (B:=⟨wpD T ds (Env.put e d (.tuple [])) σ next (hist++[σ]) reads K⟩) (Env.get e t) want:=by
 simp only [wpD,bG,AOp.allocs,AOp.acts,true_and,if_true,Bool.false_eq_true,if_false]
theorem OE (n:Nat) (x:AOpd) (lo hi mx:Option AOpd) (t:Nat) (want:Bool) (d:Option Nat) (wl wh:Nat) (ds:List ADOper) (e:Env) (σ:St) (next:Nat) (hist:List St) (reads:List ARead) (K:Env→St→Prop):wpD T (⟨⟨d,.slicev n x lo hi mx,some (t,want)⟩,wl,wh⟩::ds) e σ next hist reads K =
  bG (A:=⟨wpD T (⟨⟨d,.slicev n x lo hi mx,none⟩,wl,wh⟩::ds) e σ next hist reads K⟩) (B:=⟨wpD T ds (Env.put e d (.tuple [])) σ next hist reads K⟩) (Env.get e t) want:=by
 simp only [wpD,bG,AOp.allocs,AOp.acts,true_and,if_true,Bool.false_eq_true,if_false]
theorem PC (n s:Nat) (x:AOpd) (lo hi:Option AOpd) (t:Nat) (want:Bool) (d:Option Nat) (wl wh:Nat) (ds:List ADOper) (e:Env) (σ:St) (next:Nat) (hist:List St) (reads:List ARead) (K:Env→St→Prop):wpD T (⟨⟨d,.slicea n s x lo hi,some (t,want)⟩,wl,wh⟩::ds) e σ next hist reads K =
  bG (A:=⟨wpD T (⟨⟨d,.slicea n s x lo hi,none⟩,wl,wh⟩::ds) e σ next hist reads K⟩) (B:=⟨wpD T ds (Env.put e d (.tuple [])) σ next hist reads K⟩) (Env.get e t) want:=by
 simp only [wpD,bG,AOp.allocs,AOp.acts,true_and,if_true,Bool.false_eq_true,if_false]
theorem S6 (x:AOpd) (o:Nat) (t:Nat) (want:Bool) (d:Option Nat) (wl wh:Nat) (ds:List ADOper) (e:Env) (σ:St) (next:Nat) (hist:List St) (reads:List ARead) (K:Env→St→Prop):wpD T (⟨⟨d,.faddr x o,some (t,want)⟩,wl,wh⟩::ds) e σ next hist reads K =
  bG (A:=⟨wpD T (⟨⟨d,.faddr x o,none⟩,wl,wh⟩::ds) e σ next hist reads K⟩) (B:=⟨wpD T ds (Env.put e d (.tuple [])) σ next hist reads K⟩) (Env.get e t) want:=by
 simp only [wpD,bG,AOp.allocs,AOp.acts,true_and,if_true,Bool.false_eq_true,if_false]
theorem S0 (x:AOpd) (o:Nat) (sh:Option Nat) (t:Nat) (want:Bool) (d:Option Nat) (wl wh:Nat) (ds:List ADOper) (e:Env) (σ:St) (next:Nat) (hist:List St) (reads:List ARead) (K:Env→St→Prop):wpD T (⟨⟨d,.field x o sh,some (t,want)⟩,wl,wh⟩::ds) e σ next hist reads K =
  bG (A:=⟨wpD T (⟨⟨d,.field x o sh,none⟩,wl,wh⟩::ds) e σ next hist reads K⟩) (B:=⟨wpD T ds (Env.put e d (.tuple [])) σ next hist reads K⟩) (Env.get e t) want:=by
 simp only [wpD,bG,AOp.allocs,AOp.acts,true_and,if_true,Bool.false_eq_true,if_false]
theorem RD (a:Option Nat) (s:Nat) (x i:AOpd) (t:Nat) (want:Bool) (d:Option Nat) (wl wh:Nat) (ds:List ADOper) (e:Env) (σ:St) (next:Nat) (hist:List St) (reads:List ARead) (K:Env→St→Prop):wpD T (⟨⟨d,.iaddr a s x i,some (t,want)⟩,wl,wh⟩::ds) e σ next hist reads K =
  bG (A:=⟨wpD T (⟨⟨d,.iaddr a s x i,none⟩,wl,wh⟩::ds) e σ next hist reads K⟩) (B:=⟨wpD T ds (Env.put e d (.tuple [])) σ next hist reads K⟩) (Env.get e t) want:=by
 simp only [wpD,bG,AOp.allocs,AOp.acts,true_and,if_true,Bool.false_eq_true,if_false]
theorem SC (n s:Nat) (sh:Option Nat) (x i:AOpd) (t:Nat) (want:Bool) (d:Option Nat) (wl wh:Nat) (ds:List ADOper) (e:Env) (σ:St) (next:Nat) (hist:List St) (reads:List ARead) (K:Env→St→Prop):wpD T (⟨⟨d,.index n s sh x i,some (t,want)⟩,wl,wh⟩::ds) e σ next hist reads K =
  bG (A:=⟨wpD T (⟨⟨d,.index n s sh x i,none⟩,wl,wh⟩::ds) e σ next hist reads K⟩) (B:=⟨wpD T ds (Env.put e d (.tuple [])) σ next hist reads K⟩) (Env.get e t) want:=by
 simp only [wpD,bG,AOp.allocs,AOp.acts,true_and,if_true,Bool.false_eq_true,if_false]
theorem M8 (x i:AOpd) (t:Nat) (want:Bool) (d:Option Nat) (wl wh:Nat) (ds:List ADOper) (e:Env) (σ:St) (next:Nat) (hist:List St) (reads:List ARead) (K:Env→St→Prop):wpD T (⟨⟨d,.sindex x i,some (t,want)⟩,wl,wh⟩::ds) e σ next hist reads K =
  bG (A:=⟨wpD T (⟨⟨d,.sindex x i,none⟩,wl,wh⟩::ds) e σ next hist reads K⟩) (B:=⟨wpD T ds (Env.put e d (.tuple [])) σ next hist reads K⟩) (Env.get e t) want:=by
 simp only [wpD,bG,AOp.allocs,AOp.acts,true_and,if_true,Bool.false_eq_true,if_false]
theorem PD (sh:EqTy) (ok:Bool) (z:AV) (m k:AOpd) (t:Nat) (want:Bool) (d:Option Nat) (wl wh:Nat) (ds:List ADOper) (e:Env) (σ:St) (next:Nat) (hist:List St) (reads:List ARead) (K:Env→St→Prop):wpD T (⟨⟨d,.lookup sh ok z m k,some (t,want)⟩,wl,wh⟩::ds) e σ next hist reads K =
  bG (A:=⟨wpD T (⟨⟨d,.lookup sh ok z m k,none⟩,wl,wh⟩::ds) e σ next hist reads K⟩) (B:=⟨wpD T ds (Env.put e d (.tuple [])) σ next hist reads K⟩) (Env.get e t) want:=by
 simp only [wpD,bG,AOp.allocs,AOp.acts,true_and,if_true,Bool.false_eq_true,if_false]
theorem N8 (sh:EqTy) (m k v:AOpd) (t:Nat) (want:Bool) (d:Option Nat) (wl wh:Nat) (ds:List ADOper) (e:Env) (σ:St) (next:Nat) (hist:List St) (reads:List ARead) (K:Env→St→Prop):wpD T (⟨⟨d,.mapset sh m k v,some (t,want)⟩,wl,wh⟩::ds) e σ next hist reads K =
  bG (A:=⟨wpD T (⟨⟨d,.mapset sh m k v,none⟩,wl,wh⟩::ds) e σ next hist reads K⟩) (B:=⟨wpD T ds (Env.put e d (.tuple [])) σ next (hist++[σ]) reads K⟩) (Env.get e t) want:=by
 simp only [wpD,bG,AOp.allocs,AOp.acts,true_and,if_true,Bool.false_eq_true,if_false]
theorem aB1 (x:AOpd) (i:Nat) (t:Nat) (want:Bool) (d:Option Nat) (wl wh:Nat) (ds:List ADOper) (e:Env) (σ:St) (next:Nat) (hist:List St) (reads:List ARead) (K:Env→St→Prop):wpD T (⟨⟨d,.ext x i,some (t,want)⟩,wl,wh⟩::ds) e σ next hist reads K =
  bG (A:=⟨wpD T (⟨⟨d,.ext x i,none⟩,wl,wh⟩::ds) e σ next hist reads K⟩) (B:=⟨wpD T ds (Env.put e d (.tuple [])) σ next hist reads K⟩) (Env.get e t) want:=by
 simp only [wpD,bG,AOp.allocs,AOp.acts,true_and,if_true,Bool.false_eq_true,if_false]
theorem aDH (k:Nat) (x:AOpd) (t:Nat) (want:Bool) (d:Option Nat) (wl wh:Nat) (ds:List ADOper) (e:Env) (σ:St) (next:Nat) (hist:List St) (reads:List ARead) (K:Env→St→Prop):wpD T (⟨⟨d,.len k x,some (t,want)⟩,wl,wh⟩::ds) e σ next hist reads K =
  bG (A:=⟨wpD T (⟨⟨d,.len k x,none⟩,wl,wh⟩::ds) e σ next hist reads K⟩) (B:=⟨wpD T ds (Env.put e d (.tuple [])) σ next hist reads K⟩) (Env.get e t) want:=by
 simp only [wpD,bG,AOp.allocs,AOp.acts,true_and,if_true,Bool.false_eq_true,if_false]
theorem PK (n b:Nat) (x y:AOpd) (t:Nat) (want:Bool) (d:Option Nat) (wl wh:Nat) (ds:List ADOper) (e:Env) (σ:St) (next:Nat) (hist:List St) (reads:List ARead) (K:Env→St→Prop):wpD T (⟨⟨d,.append n b x y,some (t,want)⟩,wl,wh⟩::ds) e σ next hist reads K =
  bG (A:=⟨wpD T (⟨⟨d,.append n b x y,none⟩,wl,wh⟩::ds) e σ next hist reads K⟩) (B:=⟨wpD T ds (Env.put e d (.tuple [])) σ next (hist++[σ]) reads K⟩) (Env.get e t) want:=by
 simp only [wpD,bG,AOp.allocs,AOp.acts,true_and,if_true,Bool.false_eq_true,if_false]
theorem RF (n b:Nat) (x y:AOpd) (t:Nat) (want:Bool) (d:Option Nat) (wl wh:Nat) (ds:List ADOper) (e:Env) (σ:St) (next:Nat) (hist:List St) (reads:List ARead) (K:Env→St→Prop):wpD T (⟨⟨d,.apref n b x y,some (t,want)⟩,wl,wh⟩::ds) e σ next hist reads K =
  bG (A:=⟨wpD T (⟨⟨d,.apref n b x y,none⟩,wl,wh⟩::ds) e σ next hist reads K⟩) (B:=⟨wpD T ds (Env.put e d (.tuple [])) σ next (hist++[σ]) reads K⟩) (Env.get e t) want:=by
 simp only [wpD,bG,AOp.allocs,AOp.acts,true_and,if_true,Bool.false_eq_true,if_false]
theorem ZY (n:Nat) (x y:AOpd) (t:Nat) (want:Bool) (d:Option Nat) (wl wh:Nat) (ds:List ADOper) (e:Env) (σ:St) (next:Nat) (hist:List St) (reads:List ARead) (K:Env→St→Prop):wpD T (⟨⟨d,.copy n x y,some (t,want)⟩,wl,wh⟩::ds) e σ next hist reads K =
  bG (A:=⟨wpD T (⟨⟨d,.copy n x y,none⟩,wl,wh⟩::ds) e σ next hist reads K⟩) (B:=⟨wpD T ds (Env.put e d (.tuple [])) σ next (hist++[σ]) reads K⟩) (Env.get e t) want:=by
 simp only [wpD,bG,AOp.allocs,AOp.acts,true_and,if_true,Bool.false_eq_true,if_false]
theorem aAX (xs:List AOpd) (t:Nat) (want:Bool) (d:Option Nat) (wl wh:Nat) (ds:List ADOper) (e:Env) (σ:St) (next:Nat) (hist:List St) (reads:List ARead) (K:Env→St→Prop):wpD T (⟨⟨d,.min xs,some (t,want)⟩,wl,wh⟩::ds) e σ next hist reads K =
  bG (A:=⟨wpD T (⟨⟨d,.min xs,none⟩,wl,wh⟩::ds) e σ next hist reads K⟩) (B:=⟨wpD T ds (Env.put e d (.tuple [])) σ next hist reads K⟩) (Env.get e t) want:=by
 simp only [wpD,bG,AOp.allocs,AOp.acts,true_and,if_true,Bool.false_eq_true,if_false]
theorem aC1 (xs:List AOpd) (t:Nat) (want:Bool) (d:Option Nat) (wl wh:Nat) (ds:List ADOper) (e:Env) (σ:St) (next:Nat) (hist:List St) (reads:List ARead) (K:Env→St→Prop):wpD T (⟨⟨d,.max xs,some (t,want)⟩,wl,wh⟩::ds) e σ next hist reads K =
  bG (A:=⟨wpD T (⟨⟨d,.max xs,none⟩,wl,wh⟩::ds) e σ next hist reads K⟩) (B:=⟨wpD T ds (Env.put e d (.tuple [])) σ next hist reads K⟩) (Env.get e t) want:=by
 simp only [wpD,bG,AOp.allocs,AOp.acts,true_and,if_true,Bool.false_eq_true,if_false]
theorem MT (x:AOpd) (t:Nat) (want:Bool) (d:Option Nat) (wl wh:Nat) (ds:List ADOper) (e:Env) (σ:St) (next:Nat) (hist:List St) (reads:List ARead) (K:Env→St→Prop):wpD T (⟨⟨d,.srange x,some (t,want)⟩,wl,wh⟩::ds) e σ next hist reads K =
  bG (A:=⟨wpD T (⟨⟨d,.srange x,none⟩,wl,wh⟩::ds) e σ next hist reads K⟩) (B:=⟨wpD T ds (Env.put e d (.tuple [])) σ next (hist++[σ]) reads K⟩) (Env.get e t) want:=by
 simp only [wpD,bG,AOp.allocs,AOp.acts,true_and,if_true,Bool.false_eq_true,if_false]
theorem T5 (x:AOpd) (t:Nat) (want:Bool) (d:Option Nat) (wl wh:Nat) (ds:List ADOper) (e:Env) (σ:St) (next:Nat) (hist:List St) (reads:List ARead) (K:Env→St→Prop):wpD T (⟨⟨d,.snext x,some (t,want)⟩,wl,wh⟩::ds) e σ next hist reads K =
  bG (A:=⟨wpD T (⟨⟨d,.snext x,none⟩,wl,wh⟩::ds) e σ next hist reads K⟩) (B:=⟨wpD T ds (Env.put e d (.tuple [])) σ next (hist++[σ]) reads K⟩) (Env.get e t) want:=by
 simp only [wpD,bG,AOp.allocs,AOp.acts,true_and,if_true,Bool.false_eq_true,if_false]
end Go.Am
namespace Go.Am
variable {T:FuncId→Option AFunc}
structure KeepS (σ σ':St) (lo:Nat):Prop where
 len:σ.length≤σ'.length
 low:∀ i,i<lo→i<σ.length→σ'[i]? = σ[i]?
 loops:∀ (i:Nat) (st:LS) (pe:Option AJump) (env:Env) (ps:List Nat) (a b:ACode),i<σ.length→σ'[i]? = some (.loop st pe env ps a b)→∃ st' pe',σ[i]? = some (.loop st' pe' env ps a b)
theorem KeepS.refl (σ:St) (lo:Nat):KeepS σ σ lo:=⟨Nat.le_refl _,fun _ _ _=>rfl,fun i st pe env ps a b _ h=>⟨st,pe,h⟩⟩
theorem KeepS.weak {σ σ':St} {lo l:Nat} (h:KeepS σ σ' lo) (hl:l≤lo):KeepS σ σ' l:=⟨h.len,fun i hi=>h.low i (by omega),h.loops⟩
theorem KeepS.trans {σ σ1 σ2:St} {l1 l2:Nat} (h:KeepS σ σ1 l1) (k:KeepS σ1 σ2 l2):KeepS σ σ2 (Nat.min l1 l2) where
 len:=Nat.le_trans h.len k.len
 low i hi hlt:=by
  have h1:i<l1:=Nat.lt_of_lt_of_le hi (Nat.min_le_left _ _)
  have h2:i<l2:=Nat.lt_of_lt_of_le hi (Nat.min_le_right _ _)
  rw [k.low i h2 (Nat.lt_of_lt_of_le hlt h.len),h.low i h1 hlt]
 loops i st pe env ps a b hlt e:=by
  obtain ⟨st1,pe1,e1⟩:=k.loops i st pe env ps a b (Nat.lt_of_lt_of_le hlt h.len) e
  exact h.loops i st1 pe1 env ps a b hlt e1
theorem KeepS.app (σ:St) (τ:St) (lo:Nat):KeepS σ (σ++τ) lo :=
 ⟨by simp,fun i _ hi=>List.getElem?_append_left hi,fun i st pe env ps a b hi e=>⟨st,pe,by rw [←List.getElem?_append_left (l₂:=τ) hi];exact e⟩⟩
theorem KeepS.set {σ:St} {i:Nat} {x:ABlk} (hx:∀ st pe env ps a b,x≠.loop st pe env ps a b):KeepS σ (σ.set i x) i where
 len:=by simp
 low j hj _:=List.getElem?_set_ne (by omega)
 loops j st pe env ps a b hj e:=by
  by_cases h:i=j
  ·subst h
   rw [List.getElem?_set_self hj] at e
   cases e
   exact absurd rfl (hx _ _ _ _ _ _)
  ·rw [List.getElem?_set_ne h] at e
   exact ⟨st,pe,e⟩
end Go.Am
namespace Go.Am
variable {T:FuncId→Option AFunc}
theorem KeepS.step {σ σ1 σ2:St} {l lo lo':Nat} (h:KeepS σ σ1 l) (k:lo'≤Nat.min lo l∧KeepS σ1 σ2 lo'):lo'≤lo∧KeepS σ σ2 lo':=by
 have h1:lo'≤l:=Nat.le_trans k.1 (Nat.min_le_right _ _)
 refine ⟨Nat.le_trans k.1 (Nat.min_le_left _ _),(h.trans k.2).weak ?_⟩
 exact Nat.le_min.2 ⟨h1,Nat.le_refl _⟩
end Go.Am
namespace Go.Am
variable {T:FuncId→Option AFunc}
theorem YQ (e:Env):evs e []=[]:=by simp only [evs]
theorem X5 (e:Env) (x:AOpd) (xs:List AOpd):evs e (x::xs)=x.ev e::evs e xs:=by simp only [evs]
theorem YS (e:Env):ovs e none=none:=by simp only [ovs]
theorem YX (e:Env) (x:AOpd):ovs e (some x)=some (x.ev e):=by simp only [ovs]
theorem VG {α β:Type} (f:α→β) (a:α):Option.map f (some a)=some (f a):=by simp
theorem PU {α β:Type} (f:α→Option β) (a:α):(some a).bind f=f a:=by simp
theorem ZW (i o:Nat):EC (.ptr i o)=some (.ptr i o):=by simp only [EC]
theorem X6 (xs:List AV) (i o:Nat) (t:Option Nat):EC (.lptr xs i o t)=some (.lptr xs i o t):=by simp only [EC]
theorem ZR (f:FuncId) (a b:List AV):EC (.func f a b)=some (.func f a b):=by simp only [EC]
theorem SN (o:Nat) (sh:Option Nat) (cs:List AV):CO o sh (.agg cs)=eY sh cs o:=by simp only [CO]
theorem W9 (k k':IntKind) (n:Int):IG k (.int k' n)=some (.int k (k.wrap n)):=by simp only [IG]
theorem aCF (k:IntKind) (n:Int):UE (.int k n)=some (.int k (k.wrap (0-n))):=by simp only [UE]
theorem SA (x y:AV):A6 (.bool true) x y=some x:=by simp only [A6]
theorem TU (x y:AV):A6 (.bool false) x y=some y:=by simp only [A6]
theorem aBJ (s:ByteArray):TX (.str s)=some s:=by simp only [TX]
theorem V6 (k:IntKind) (a b:Int):fQ .i (.int k a) (.int k b)=some (a==b):=by simp [fQ]
theorem aDD (a b:Bool):fQ .b (.bool a) (.bool b)=some (a==b):=by simp [fQ]
theorem aAO (a b:ByteArray):fQ .s (.str a) (.str b)=some (a.toList==b.toList):=by simp [fQ]
def TI:Option Bool→Option Bool→Option Bool
 |some p,some q=>some (p&&q)
 |_,_=>none
theorem L8 (p q:Bool):TI (some p) (some q)=some (p&&q):=by simp only [TI]
theorem ZL:bC [] [] []=some true:=by simp [bC]
theorem PQ (k:SK) (ks:List SK) (a b:AV) (x y:List AV):bC (k::ks) (a::x) (b::y)=TI (fQ k a b) (bC ks x y):=by
 simp only [bC,TI];cases fQ k a b<;>cases bC ks x y<;>rfl
theorem aBD (k:SK) (x y:AV):zQ (.one k) false x y=(fQ k x y).map .bool:=by
 simp only [zQ,iN];cases fQ k x y<;>simp
theorem aBX (k:SK) (x y:AV):zQ (.one k) true x y=(fQ k x y).map fun b=>.bool !b:=by
 simp only [zQ,iN];cases fQ k x y<;>simp
theorem aAG (ks:List SK) (x y:List AV):zQ (.agg ks) false (.agg x) (.agg y)=(bC ks x y).map .bool:=by
 simp only [zQ,iN];cases bC ks x y<;>simp
theorem Z9 (ks:List SK) (x y:List AV):zQ (.agg ks) true (.agg x) (.agg y)=(bC ks x y).map fun b=>.bool !b:=by
 simp only [zQ,iN];cases bC ks x y<;>simp
theorem aB0 (k:IntKind) (a b:Int):fC .add (.int k a) (.int k b)=some (.int k (k.wrap (a+b))):=by simp [fC,jW]
theorem aBA (k:IntKind) (a b:Int):fC .sub (.int k a) (.int k b)=some (.int k (k.wrap (a-b))):=by simp [fC,jW]
theorem aC8 (k:IntKind) (a b:Int):fC .mul (.int k a) (.int k b)=some (.int k (k.wrap (a*b))):=by simp [fC,jW]
theorem OR (k:IntKind) (a b:Int) (h:b≠0):fC .rem (.int k a) (.int k b)=some (.int k (a.tmod b)):=by simp [fC,jW,h]
theorem aCU (k:IntKind) (a b:Int):fC .lss (.int k a) (.int k b)=some (.bool (decide (a<b))):=by simp [fC,jW]
theorem aBO (k:IntKind) (a b:Int):fC .leq (.int k a) (.int k b)=some (.bool (decide (a≤b))):=by simp [fC,jW]
theorem aDE (k:IntKind) (a b:Int):fC .gtr (.int k a) (.int k b)=some (.bool (decide (b<a))):=by simp [fC,jW]
theorem aCQ (k:IntKind) (a b:Int):fC .geq (.int k a) (.int k b)=some (.bool (decide (b≤a))):=by simp [fC,jW]
theorem dU {x:Int} (h:-9223372036854775808≤x∧x≤9223372036854775807):IntKind.i64.wrap x=x:=by
 simp only [IntKind.wrap,IntKind.signed,IntKind.bits]
 first
  |(rw [Int.bmod_eq_of_le]<;>omega)
  |(simp;omega)
theorem aBI (σ:St) (xs:List AV) (f:Bool) (t:Option Nat):iD 1 σ (.lit xs f t)=some xs.length:=by simp only [iD]
theorem W5 (σ:St) (s:ByteArray):iD 0 σ (.str s)=some s.size:=by simp only [iD]
theorem XB (σ:St) (id off len sz:Nat):iD 1 σ (.ref id off len sz)=some len:=by simp only [iD]
theorem aAH (sh:Option Nat) (σ:St) (id off:Nat):jL sh σ (.ptr id off)=(aH σ id).bind fun cs=>eY sh cs off:=by
 simp only [jL];cases aH σ id<;>simp
theorem Z1 (sh:Option Nat) (σ:St) (xs:List AV) (i off:Nat) (t:Option Nat):jL sh σ (.lptr xs i off t)=(xs[i]?).bind fun x=>eY sh x.cells off:=by
 simp only [jL];cases xs[i]?<;>simp
theorem NY (b:List AV) (τ:St):aH (.cells b::τ) 0=some b:=by simp [aH]
theorem o0 (b:ABlk) (τ:St) (k:Nat):aH (b::τ) (k+1)=aH τ k:=by simp [aH]
theorem qV (σ τ:St) (k:Nat):aH (σ++τ) (σ.length+k)=aH τ k:=by simp only [aH,qD]
theorem iB (σ τ:St):aH (σ++τ) σ.length=aH τ 0:=qV σ τ 0
theorem aB5 (cs:List AV) (off:Nat):eY none cs off=cs[off]?:=by simp [eY]
theorem aA9 (n:Nat) (cs:List AV) (off:Nat):eY (some n) cs off=if off+n≤cs.length then some (.agg ((cs.drop off).take n)) else none:=by simp [eY]
theorem Q0 (n:Nat) (σ:St) (id off:Nat) (v:AV):mW n σ (.ptr id off) v=(oI n v).bind fun us=>(aH σ id).bind fun cs=>(fJ cs off us).map fun cs'=>σ.set id (.cells cs'):=by
 simp only [mW,oI]
 split
 ·simp only [Option.bind_some]
  cases aH σ id with
  |none=>simp
  |some cs=>simp only [Option.bind_some];cases fJ cs off v.cells<;>simp
 ·simp
theorem aBW (cs us:List AV) (off:Nat):fJ cs off us=if off+us.length≤cs.length then some (cs.take off++us++cs.drop (off+us.length)) else none:=by simp only [fJ]
def cI (n:Nat) (v:AV):Bool:=v.cells.length==n&&v.cells.all (·.cell)
theorem RQ (n:Nat) (v:AV):oI n v=if cI n v=true then some v.cells else none:=by unfold oI cI;rfl
theorem IL (k:IntKind) (n:Int):cI 1 (.int k n)=true:=by simp [cI,AV.cells,AV.cell]
theorem XE (b:Bool):cI 1 (.bool b)=true:=by simp [cI,AV.cells,AV.cell]
theorem VA (b:ByteArray):cI 1 (.str b)=true:=by simp [cI,AV.cells,AV.cell]
theorem V5 (xs:List AV) (f:Bool) (t:Option Nat):cI 1 (.lit xs f t)=true:=by simp [cI,AV.cells,AV.cell]
theorem aAU (a b c d:Nat):cI 1 (.ref a b c d)=true:=by simp [cI,AV.cells,AV.cell]
theorem aAK (a b:Nat):cI 1 (.ptr a b)=true:=by simp [cI,AV.cells,AV.cell]
theorem WO (f:FuncId) (a b:List AV):cI 1 (.func f a b)=true:=by simp [cI,AV.cells,AV.cell]
theorem aBG (i:Nat):cI 1 (.map i)=true:=by simp [cI,AV.cells,AV.cell]
theorem MR:cI 1 .nilPtr=true:=by simp [cI,AV.cells,AV.cell]
theorem KI:cI 1 .nilFunc=true:=by simp [cI,AV.cells,AV.cell]
def bK:List AV→Bool
 |[]=>true
 |v::vs=>v.cell&&bK vs
theorem aAQ (n:Nat) (cs:List AV):cI n (.agg cs)=(cs.length==n&&bK cs):=by
 simp only [cI,AV.cells]
 congr 1
 induction cs with
 |nil=>rfl
 |cons c cs ih=>simp only [List.all_cons,bK,ih]
theorem C_0:bK []=true:=by simp only [bK]
theorem YT (k:IntKind) (n:Int) (cs:List AV):bK (.int k n::cs)=bK cs:=by simp [bK,AV.cell]
theorem SD (b:Bool) (cs:List AV):bK (.bool b::cs)=bK cs:=by simp [bK,AV.cell]
theorem WX (b:ByteArray) (cs:List AV):bK (.str b::cs)=bK cs:=by simp [bK,AV.cell]
theorem ZF (xs:List AV) (f:Bool) (t:Option Nat) (cs:List AV):bK (.lit xs f t::cs)=bK cs:=by simp [bK,AV.cell]
theorem XF (a b c d:Nat) (cs:List AV):bK (.ref a b c d::cs)=bK cs:=by simp [bK,AV.cell]
theorem Y9 (a b:Nat) (cs:List AV):bK (.ptr a b::cs)=bK cs:=by simp [bK,AV.cell]
theorem Q5 (f:FuncId) (a b:List AV) (cs:List AV):bK (.func f a b::cs)=bK cs:=by simp [bK,AV.cell]
theorem W1 (i:Nat) (cs:List AV):bK (.map i::cs)=bK cs:=by simp [bK,AV.cell]
theorem J7  (cs:List AV):bK (.nilPtr::cs)=bK cs:=by simp [bK,AV.cell]
theorem H9  (cs:List AV):bK (.nilFunc::cs)=bK cs:=by simp [bK,AV.cell]
theorem YU {α:Type} (enc:α→AV) (l:List α) (h:∀ x,(enc x).cell=true):bK (l.map enc)=true:=by
 induction l with
 |nil=>rfl
 |cons x l ih=>simp [bK,h,ih]
theorem aDG (k:IntKind) (n:Int):(AV.int k n).cells=[.int k n]:=by simp [AV.cells]
theorem WY (b:Bool):(AV.bool b).cells=[.bool b]:=by simp [AV.cells]
theorem aDF (b:ByteArray):(AV.str b).cells=[.str b]:=by simp [AV.cells]
theorem aC4 (xs:List AV) (f:Bool) (t:Option Nat):(AV.lit xs f t).cells=[.lit xs f t]:=by simp [AV.cells]
theorem aCW (a b c d:Nat):(AV.ref a b c d).cells=[.ref a b c d]:=by simp [AV.cells]
theorem aBZ (a b:Nat):(AV.ptr a b).cells=[.ptr a b]:=by simp [AV.cells]
theorem WV (f:FuncId) (a b:List AV):(AV.func f a b).cells=[.func f a b]:=by simp [AV.cells]
theorem aAW (i:Nat):(AV.map i).cells=[.map i]:=by simp [AV.cells]
theorem aB7 (cs:List AV):(AV.agg cs).cells=cs:=by simp [AV.cells]
theorem OB:AV.nilPtr.cells=[.nilPtr]:=by simp [AV.cells]
theorem KK:AV.nilFunc.cells=[.nilFunc]:=by simp [AV.cells]
theorem aA6 (e:Env) (cs:List AV):bV e cs []=some cs:=by simp only [bV]
theorem aBB (e:Env) (cs:List AV) (off n:Nat) (x:AOpd) (rest:List (Nat×Nat×AOpd)) :
  bV e cs ((off,n,x)::rest)=((oI n (x.ev e)).bind fun us=>fJ cs off us).bind fun cs=>bV e cs rest:=aCR e cs off n x rest
theorem MQ (n:Nat):aM n []=true:=by simp [aM]
theorem NL (n:Nat) (x:AV) (xs:List AV):aM n (x::xs)=(cI n x&&aM n xs):=by simp [aM,cI]
theorem vQ {α:Type} (n:Nat) (enc:α→AV) (l:List α) (h:∀ x,cI n (enc x)=true):aM n (l.map enc)=true:=by
 induction l with
 |nil=>exact MQ n
 |cons x l ih=>rw [List.map_cons,NL,h,ih];rfl
theorem aCP (n:Nat) (xs:List AV):LB n xs=if aM n xs=true then some (.lit xs true none) else none:=by simp only [LB]
def EF (sz:Nat) (xs:List AV) (j:Int) (t:Option Nat):Option AV:=(xs[j.toNat]?).bind fun y=>if 0≤j∧y.cells.length=sz then some (.lptr xs j.toNat 0 t) else none
theorem aCH (sz:Nat) (xs:List AV) (f:Bool) (t:Option Nat) (k:IntKind) (j:Int):nC none sz (.lit xs f t) (.int k j)=EF sz xs j t:=by
 simp only [nC,fB,EF];cases xs[j.toNat]?<;>simp
theorem aB2 (n sz id off:Nat) (k:IntKind) (j:Int):nC (some n) sz (.ptr id off) (.int k j)=if 0≤j∧j<n then some (.ptr id (off+j.toNat*sz)) else none:=by simp only [nC,fB]
theorem YD (n sz q off:Nat) (xs:List AV) (t:Option Nat) (k:IntKind) (j:Int):nC (some n) sz (.lptr xs q off t) (.int k j)=if 0≤j∧j<n then some (.lptr xs q (off+j.toNat*sz) t) else none:=by simp only [nC,fB]
theorem aAC (sz id off len sz':Nat) (k:IntKind) (j:Int):nC none sz (.ref id off len sz') (.int k j)=if 0≤j∧j<len∧sz'=sz then some (.ptr id (off+j.toNat*sz)) else none:=by simp only [nC,fB]
def VK (sz b:Nat) (xs ys:List AV):Prop:=aM sz xs=true∧aM sz ys=true∧(xs.length+ys.length)*b≤room∧xs.length+ys.length≤room
theorem wW {sz b:Nat} {σ:St} {xs ys:List AV} {t:Nat} {tk:Option Nat} {f ex:Bool} (h:VK sz b xs ys) (h0:ys.length≠0) (ht:σ[t]? = some (.tok sz xs.length ex)) :
  fV sz b σ (.lit xs false (some t)) (.lit ys f tk)=some (.lit (xs++ys) false (some t),σ.set t (.tok sz (xs.length+ys.length) true)):=by
 obtain ⟨h1,h2,h3,h4⟩:=h
 simp [fV,jV,yS,h0,h1,h2,h3,h4,ht]
def bT (σ:St) (m d:Nat) (v:AV):Option AV:=(snap σ m d v).map clr
def cM (σ:St) (m d:Nat) (vs:List AV):Option (List AV):=(snaps σ m d vs).map clrs
theorem NW (σ:St) (m d:Nat) (k:IntKind) (n:Int):bT σ m d (.int k n)=some (.int k n):=by simp [bT,snap,clr]
theorem CI (σ:St) (m d:Nat) (b:Bool):bT σ m d (.bool b)=some (.bool b):=by simp [bT,snap,clr]
theorem QU (σ:St) (m d:Nat) (b:ByteArray):bT σ m d (.str b)=some (.str b):=by simp [bT,snap,clr]
theorem O4 (σ:St) (m d:Nat):bT σ m d .nilPtr=some .nilPtr:=by simp [bT,snap,clr]
theorem LA (σ:St) (m d:Nat):bT σ m d .nilFunc=some .nilFunc:=by simp [bT,snap,clr]
theorem WM (σ:St) (m d id off:Nat):bT σ m d (.ptr id off)=if id<m then some (.ptr id off) else none:=by
 simp only [bT,snap];split<;>simp [clr]
theorem aAZ (σ:St) (m d id:Nat):bT σ m d (.map id)=if id<m then some (.map id) else none:=by
 simp only [bT,snap];split<;>simp [clr]
theorem IK (σ:St) (m d:Nat):cM σ m d []=some []:=by simp [cM,snaps,clrs]
theorem w9 (σ:St) (m d:Nat) (v:AV) (vs:List AV):cM σ m d (v::vs)=(bT σ m d v).bind fun a=>(cM σ m d vs).map (a::·):=by
 simp only [cM,bT,snaps];cases snap σ m d v<;>cases snaps σ m d vs<;>simp [clrs]
theorem R4 (σ:St) (m d:Nat) (vs:List AV):bT σ m d (.tuple vs)=(cM σ m d vs).map .tuple:=by
 simp only [cM,bT,snap];cases snaps σ m d vs<;>simp [clr]
theorem MS (σ:St) (m d:Nat) (vs:List AV):bT σ m d (.agg vs)=(cM σ m d vs).map .agg:=by
 simp only [cM,bT,snap];cases snaps σ m d vs<;>simp [clr]
theorem GI (σ:St) (m d:Nat) (vs:List AV) (f:Bool):bT σ m d (.lit vs f none)=(cM σ m d vs).map fun ys=>.lit ys false none:=by
 simp only [cM,bT,snap];cases snaps σ m d vs<;>simp [clr]
theorem XW (σ:St) (m d t:Nat) (vs:List AV) (f:Bool):bT σ m d (.lit vs f (some t))=(cM σ m d vs).map fun ys=>if t<m then .lit ys f (some t) else .lit ys false none:=by
 simp only [cM,bT,snap];cases snaps σ m d vs<;>by_cases h:t<m<;>simp [clr,h,Option.filter]
theorem CN (σ:St) (m d:Nat) (f:FuncId) (a b:List AV):bT σ m d (.func f a b)=(cM σ m d a).bind fun x=>(cM σ m d b).map fun y=>.func f x y:=by
 simp only [cM,bT,snap];cases snaps σ m d a<;>cases snaps σ m d b<;>simp [clr]
theorem I4 (σ:St) (m d id off len sz:Nat):bT σ m (d+1) (.ref id off len sz) =
  if id<m then some (.ref id off len sz) else (jV σ (.ref id off len sz)).bind fun xs=>if (decide (0<sz)&&aM sz xs)=true then (cM σ m d xs).map fun ys=>.lit ys false none else none:=by
 simp only [bT,snap]
 split
 ·simp [clr]
 ·cases jV σ (.ref id off len sz) with
  |none=>simp
  |some xs =>
   simp only [Option.bind_some]
   split
   ·simp only [cM];cases snaps σ m d xs<;>simp [clr]
   ·simp
def kU (v:AV):Prop:=okV 0 v∧clr v=v
def kY (vs:List AV):Prop:=okVs 0 vs∧clrs vs=vs
mutual
theorem snap_ok0 (σ:St) (m d:Nat):∀ (v:AV),okV 0 v→snap σ m d v=some v
 |.func f first cap,h=>by simp only [okV] at h;simp only [snap,snaps_ok0 σ m d first h.1,snaps_ok0 σ m d cap h.2]
 |.yield _,h|.ptr _ _,h|.ref _ _ _ _,h|.map _,h=>by simp [okV] at h
 |.lptr xs i o tk,h=>by
  simp only [okV] at h
  cases tk with
  |none=>simp [snap,snaps_ok0 σ m d xs h.2]
  |some t=>exact absurd (h.1 t rfl) (by omega)
 |.lit xs f tk,h=>by
  simp only [okV] at h
  cases tk with
  |none=>simp [snap,snaps_ok0 σ m d xs h.2]
  |some t=>exact absurd (h.1 t rfl) (by omega)
 |.agg cs,h=>by simp only [okV] at h;simp [snap,snaps_ok0 σ m d cs h]
 |.tuple cs,h=>by simp only [okV] at h;simp [snap,snaps_ok0 σ m d cs h]
 |.undef,_|.int _ _,_|.bool _,_|.str _,_|.nilFunc,_|.nilPtr,_|.nilMap,_=>by simp [snap]
theorem snaps_ok0 (σ:St) (m d:Nat):∀ (vs:List AV),okVs 0 vs→snaps σ m d vs=some vs
 |[],_=>by simp [snaps]
 |v::vs,h=>by simp only [okVs] at h;simp [snaps,snap_ok0 σ m d v h.1,snaps_ok0 σ m d vs h.2]
end
theorem XM {v:AV} (h:kU v) (σ:St) (m d:Nat):bT σ m d v=some v:=by simp [bT,snap_ok0 σ m d v h.1,h.2]
theorem lH {vs:List AV} (h:kY vs) (σ:St) (m d:Nat):cM σ m d vs=some vs:=by simp [cM,snaps_ok0 σ m d vs h.1,h.2]
theorem cN (k:IntKind) (n:Int):kU (.int k n):=⟨trivial,rfl⟩
theorem BM (b:Bool):kU (.bool b):=⟨trivial,rfl⟩
theorem tD (b:ByteArray):kU (.str b):=⟨trivial,rfl⟩
theorem eQ:kY []:=⟨trivial,rfl⟩
theorem bA {v:AV} {vs:List AV} (h:kU v) (hs:kY vs):kY (v::vs):=⟨⟨h.1,hs.1⟩,by simp [clrs,h.2,hs.2]⟩
theorem i7 {vs:List AV} (h:kY vs):kU (.agg vs):=⟨h.1,by simp [clr,h.2]⟩
theorem HL {vs:List AV} (h:kY vs):kU (.tuple vs):=⟨h.1,by simp [clr,h.2]⟩
theorem EJ {vs:List AV} (h:kY vs):kU (.lit vs false none):=⟨⟨(fun t e=>by cases e),h.1⟩,by simp [clr,h.2]⟩
theorem dB {α:Type} {enc:α→AV} (h:∀ x,kU (enc x)) (l:List α):kY (l.map enc):=by
 induction l with
 |nil=>exact eQ
 |cons x l ih=>exact bA (h x) ih
theorem j7 {α:Type} {enc:α→AV} (h:∀ x,kU (enc x)) (l:List α):kU (.lit (l.map enc) false none):=EJ (dB h l)
def HY (o:Option AV) (σ:St) (v:AV):Prop:=∃ v0,o=some v0∧bT σ 0 20 v0=some v
@[congr] theorem WZ {o o':Option AV} {σ σ':St} {v:AV} (h:o=o') (h2:σ=σ'):HY o σ v=HY o' σ' v:=by rw [h,h2]
theorem X0 (v0:AV) (σ:St) (v:AV):HY (some v0) σ v=(bT σ 0 20 v0=some v):=by simp [HY]
def KL (rs:List ARes) (v:AV):KJ:=fun j e σ=>(j=none∨j=some .ret)∧HY (fY rs e σ) σ v
theorem W3 (rs:List ARes) (v:AV) (e:Env) (σ:St):KL rs v none e σ=HY (fY rs e σ) σ v:=by simp [KL]
theorem aC5 (rs:List ARes) (v:AV) (e:Env) (σ:St):KL rs v (some .ret) e σ=HY (fY rs e σ) σ v:=by simp [KL]
theorem aZ {f:FuncId} {args:List AV} {v:AV} {af:AFunc} (hf:T f=some af) (hn:args.length≤af.ntmps) (hk:kY args) (h:wp T af.body (eX 0 args) [] (KL af.results v)):d6 T f args v:=by
 intro σ
 refine .frame hk.1 (.inl rfl) (R:=fun o=>o.v=v∧o.σ=[]) (.call hf hn (fR h fun o ho=>ho) fun o ho=>?_) fun o ho=>⟨ho.2,ho.1,rfl⟩
 obtain ⟨h1,v0,h2,h3⟩:=ho
 refine ⟨h1,v0,h2,?_⟩
 unfold bT at h3
 cases hs:snap o.σ 0 20 v0 with
 |none=>rw [hs] at h3;cases h3
 |some v1 =>
  rw [hs] at h3
  simp at h3
  exact .inr ⟨20,v1,v,hs,.inr h3.symm,fun i hi=>absurd hi (by simp),by simp,rfl,by simp⟩
theorem JA {f:FuncId} {args args0:List AV} {v:AV} (h:d6 T f args0 v) (ha:clrs args=args0) (hk:okVs 0 args) (σ:St):Run T (.call f args σ) fun o=>o.v=v∧o.σ=σ :=
 .frame hk (.inr ha.symm) (h []) fun o ho=>⟨ho.2,ho.1,rfl⟩
theorem FN {f:FuncId} {first cap args args0:List AV} {v:AV} {σ:St} {K:AV→St→Prop} (h:d6 T f args0 v) (ha:clrs (first++args++cap)=args0) (hk:okVs 0 (first++args++cap)) (k:K v σ):cK (K:=⟨K⟩) T (.func f first cap) args σ :=
 .callf (.mono (JA h ha hk σ) fun o ho=>by rw [ho.1,ho.2];exact k)
theorem FK {f:FuncId} {first cap args args0:List AV} {v:AV} {σ:St} {K:AV→St→Prop} (h:d6 T f args0 v) (ha:clrs (first++args++cap)=args0) (hk:okVs 0 (first++args++cap)) (k:K v σ):cD (K:=⟨K⟩) T (.func f first cap) args σ :=
 ⟨v,σ,.callf (JA h ha hk σ),k⟩
theorem aF {f:FuncId} {args args0:List AV} {v:AV} {σ:St} {K:AV→St→Prop} (h:d6 T f args0 v) (ha:args=args0) (hk:kY args0) (k:K v σ):cK (K:=⟨K⟩) T (.func f [] []) args σ:=by
 subst ha;exact FN h (by simpa using hk.2) (by simpa using hk.1) k
theorem aG {f:FuncId} {args args0:List AV} {v:AV} {σ:St} {K:AV→St→Prop} (h:d6 T f args0 v) (ha:args=args0) (hk:kY args0) (k:K v σ):cD (K:=⟨K⟩) T (.func f [] []) args σ:=by
 subst ha;exact FK h (by simpa using hk.2) (by simpa using hk.1) k
theorem FX {f:FuncId} {args args0:List AV} {v:AV} {σ:St} (h:d6 T f args0 v) (ha:cM σ 0 20 args=some args0) (hv:Scal v):Run T (.call f args σ) fun o=>o.v=v∧o.σ=σ:=by
 unfold cM at ha
 cases hs:snaps σ 0 20 args with
 |none=>rw [hs] at ha;cases ha
 |some as1 =>
  rw [hs] at ha
  simp at ha
  exact .frameS hs (.inr ha.symm) (h []) fun o ho=>⟨ho.2,by rw [ho.1];exact hv,ho.1,rfl⟩
theorem w8 {f:FuncId} {first cap args args0:List AV} {v:AV} {σ:St} {K:AV→St→Prop} (h:d6 T f args0 v) (ha:cM σ 0 20 (first++args++cap)=some args0) (hv:Scal v) (k:K v σ):cK (K:=⟨K⟩) T (.func f first cap) args σ :=
 .callf (.mono (FX h ha hv) fun o ho=>by rw [ho.1,ho.2];exact k)
theorem B8 {f:FuncId} {first cap args args0:List AV} {v:AV} {σ:St} {K:AV→St→Prop} (h:d6 T f args0 v) (ha:cM σ 0 20 (first++args++cap)=some args0) (hv:Scal v) (k:K v σ):cD (K:=⟨K⟩) T (.func f first cap) args σ :=
 ⟨v,σ,.callf (FX h ha hv),k⟩
def InK (rs:List ARes) (K:AV→St→Prop):KJ:=fun j e σ=>(j=none∨j=some .ret)∧∃ v,fY rs e σ=some v∧K v σ
def InR (o:Option AV) (σ:St) (K:AV→St→Prop):Prop:=∃ v,o=some v∧K v σ
@[congr] theorem Z5 {o o':Option AV} {σ σ':St} {K:AV→St→Prop} (h:o=o') (h2:σ=σ'):InR o σ K=InR o' σ' K:=by rw [h,h2]
theorem ZG (v:AV) (σ:St) (K:AV→St→Prop):InR (some v) σ K=K v σ:=by simp [InR]
theorem ZH (rs:List ARes) (K:AV→St→Prop) (e:Env) (σ:St):InK rs K none e σ=InR (fY rs e σ) σ K:=by simp [InK,InR]
theorem aDC (rs:List ARes) (K:AV→St→Prop) (e:Env) (σ:St):InK rs K (some .ret) e σ=InR (fY rs e σ) σ K:=by simp [InK,InR]
theorem qW {f:FuncId} {first cap args:List AV} {af:AFunc} {σ:St} {K:AV→St→Prop} (hf:T f=some af) (hn:(first++args++cap).length≤af.ntmps) (h:wp T af.body (eX 0 (first++args++cap)) σ (InK af.results K)) :
  cK (K:=⟨K⟩) T (.func f first cap) args σ :=
 .callf (.call hf hn (fR h fun o ho=>ho) fun o ho=>⟨ho.1,ho.2.choose,ho.2.choose_spec.1,.inl ho.2.choose_spec.2⟩)
def EqE (σ:St) (m:Nat) (e:Env):Env→Prop
 |[]=>True
 |(t,v)::e'=>bT σ m 20 (Env.get e t)=some v∧EqE σ m e e'
theorem aDO (σ:St) (m:Nat) (e:Env):EqE σ m e []=True:=by simp only [EqE]
theorem aEK (σ:St) (m:Nat) (e:Env) (t:Nat) (v:AV) (e':Env):EqE σ m e ((t,v)::e')=(bT σ m 20 (Env.get e t)=some v∧EqE σ m e e'):=by simp only [EqE]
theorem DK {σ:St} {m:Nat} {e:Env}:∀ {e':Env},EqE σ m e e'→JC σ m e e'
 |[],_=>trivial
 |(t,v)::e',h=>by
  refine ⟨.inr ?_,DK h.2⟩
  have h1:=h.1
  unfold bT at h1
  cases hs:snap σ m 20 (Env.get e t) with
  |none=>rw [hs] at h1;cases h1
  |some v1=>rw [hs] at h1;simp at h1;exact ⟨20,v1,hs,.inr h1.symm⟩
def EqS (m:Nat):St→St→St→Prop
 |_,_,[]=>True
 |s::ss,b::bs,c::cs=>(c=b∧(b=s∨aN m b))∧EqS m ss bs cs
 |[],b::bs,c::cs=>(c=b∧aN m b)∧EqS m [] bs cs
 |_,[],_::_=>False
theorem aEJ (m:Nat) (a b:St):EqS m a b []=True:=by cases a<;>cases b<;>simp only [EqS]
theorem aDV (m:Nat) (s b c:ABlk) (ss bs cs:St):EqS m (s::ss) (b::bs) (c::cs)=((c=b∧(b=s∨aN m b))∧EqS m ss bs cs):=by simp only [EqS]
theorem aEN (m:Nat) (b c:ABlk) (bs cs:St):EqS m [] (b::bs) (c::cs)=((c=b∧aN m b)∧EqS m [] bs cs):=by simp only [EqS]
theorem xV {m:Nat}:∀ {σ σ' σ'':St},EqS m σ σ' σ''→∀ i c,σ''[i]? = some c→σ'[i]? = some c∧((i<σ.length∧σ'[i]? = σ[i]?)∨aN m c)
 |_,_,[],_,i,c,h=>by simp at h
 |s::ss,b::bs,x::cs,h,i,c,hc=>by
  obtain ⟨⟨h1,h2⟩,h3⟩:=h
  cases i with
  |zero =>
   simp at hc
   subst hc
   subst h1
   refine ⟨rfl,?_⟩
   rcases h2 with h2|h2
   ·left;simp [h2]
   ·right;exact h2
  |succ i =>
   obtain ⟨q1,q2⟩:=xV h3 i c (by simpa using hc)
   refine ⟨by simpa using q1,?_⟩
   rcases q2 with ⟨q2,q3⟩|q2
   ·left;exact ⟨by simp;omega,by simpa using q3⟩
   ·right;exact q2
 |[],b::bs,x::cs,h,i,c,hc=>by
  obtain ⟨⟨h1,h2⟩,h3⟩:=h
  cases i with
  |zero =>
   simp at hc
   subst hc
   subst h1
   exact ⟨rfl,.inr h2⟩
  |succ i =>
   obtain ⟨q1,q2⟩:=xV h3 i c (by simpa using hc)
   refine ⟨by simpa using q1,?_⟩
   rcases q2 with ⟨q2,q3⟩|q2
   ·simp at q2
   ·right;exact q2
def aD (σ:St) (e':Env) (σ':St) (e'':Env) (σ'':St):Prop:=σ.length≤σ''.length∧σ''.length≤σ'.length∧EqE σ' σ''.length e' e''∧EqS σ''.length σ σ' σ''
@[congr] theorem U6 {σ σ1:St} {e' e1:Env} {σ' σ1':St} {e'':Env} {σ'':St} (h1:σ=σ1) (h2:e'=e1) (h3:σ'=σ1'):aD σ e' σ' e'' σ''=aD σ1 e1 σ1' e'' σ'':=by rw [h1,h2,h3]
theorem ME {σ:St} {e':Env} {σ':St} {e'':Env} {σ'':St} (h:aD σ e' σ' e'' σ''):vP σ e' σ' e'' σ'':=by
 obtain ⟨h1,h2,h3,h4⟩:=h
 refine ⟨h1,h2,DK h3,fun i hi=>?_⟩
 obtain ⟨c,hc⟩:∃ c,σ''[i]? = some c:=⟨_,List.getElem?_eq_getElem hi⟩
 obtain ⟨q1,q2⟩:=xV h4 i c hc
 refine ⟨c,hc,?_⟩
 rcases q2 with ⟨q2,q3⟩|q2
 ·left;exact ⟨q2,.inl q3,q1⟩
 ·right;left;exact ⟨q1,q2⟩
def BI {S:Type} (P:S→Prop) (μ:S→Nat) (IE:S→Env) (IS:S→St) (s:S) (K:KJ):KJ:=fun j e σ =>
 match j with
 |none=>∃ s',P s'∧μ s'<μ s∧aD (IS s) e σ (IE s') (IS s')
 |some j=>K (some j) e σ
theorem OH {S:Type} (P:S→Prop) (μ:S→Nat) (IE:S→Env) (IS:S→St) (s:S) (K:KJ) (e:Env) (σ:St):BI P μ IE IS s K none e σ = ∃ s',P s'∧μ s'<μ s∧aD (IS s) e σ (IE s') (IS s'):=by simp only [BI]
theorem U0 {S:Type} (P:S→Prop) (μ:S→Nat) (IE:S→Env) (IS:S→St) (s:S) (K:KJ) (j:AJump) (e:Env) (σ:St):BI P μ IE IS s K (some j) e σ=K (some j) e σ:=by simp only [BI]
def EqW (e:Env):Env→Prop
 |[]=>True
 |(t,v)::e'=>(Env.get e t=v∨clr (Env.get e t)=v)∧EqW e e'
theorem aED (e:Env):EqW e []=True:=by simp only [EqW]
theorem aDJ (e:Env) (t:Nat) (v:AV) (e':Env):EqW e ((t,v)::e')=((Env.get e t=v∨clr (Env.get e t)=v)∧EqW e e'):=by simp only [EqW]
theorem DV {e:Env}:∀ {e':Env},EqW e e'→∀ t,Env.get e' t = .undef∨Env.get e' t=Env.get e t∨Env.get e' t=clr (Env.get e t)
 |[],_,t=>.inl rfl
 |(k,v)::e',h,t=>by
  by_cases hk:k=t
  ·subst hk
   right
   rcases h.1 with h|h
   ·left;simp [Env.get,h]
   ·right;simp [Env.get,h]
  ·simpa [Env.get,hk] using DV h.2 t
theorem aCJ {S:Type} (P:S→Prop) (μ:S→Nat) (IE:S→Env) (IS:S→St) {b:ACode} {K:KJ} (step:∀ s,P s→wp T b (IE s) (IS s) (BI P μ IE IS s K)):∀ n s,μ s=n→P s→J2 T (.loop b) (IE s) (IS s) K:=by
 intro n
 induction n using Nat.strongRecOn with
 |_ n ih =>
  intro s hs hp
  have h1:Run T (.code b (IE s) (IS s)) fun o=>(o.j=none∧∃ s',P s'∧μ s'<μ s∧o.env=IE s'∧o.σ=IS s')∨(o.j≠none∧K o.j o.env o.σ):=by
   refine .trim2 (fR (step s hp) fun o ho=>ho) fun o ho=>?_
   cases hj:o.j with
   |none =>
    rw [hj,OH] at ho
    obtain ⟨s',h1,h2,h3⟩:=ho
    exact .inr ⟨_,_,ME h3,.inl ⟨rfl,s',h1,h2,rfl,rfl⟩⟩
   |some j =>
    rw [hj,U0] at ho
    exact .inl (.inr ⟨by simp,ho⟩)
  refine .loop h1 (fun o ho hj=>?_) fun o ho hj=>?_
  ·rcases ho with ⟨_,s',q1,q2,q3,q4⟩|⟨q1,_⟩
   ·rw [q3,q4];exact ih _ (by omega) s' rfl q1
   ·exact absurd hj q1
  ·rcases ho with ⟨q,_⟩|⟨_,q⟩
   ·exact absurd q hj
   ·exact q
theorem dF {S:Type} (s0:S) (P:S→Prop) (μ:S→Nat) (IE:S→Env) (IS:S→St) {b:ACode} {e:Env} {σ:St} {K:KJ} (hP:P s0) (hσ:σ=IS s0) (hE:EqW e (IE s0))
  (step:∀ s,P s→wp T b (IE s) (IS s) (BI P μ IE IS s K)):rK (K:=⟨K⟩) T (.loop b) e σ:=by
 subst hσ
 exact .weak (DV hE) (aCJ P μ IE IS step _ s0 rfl hP)
theorem pU {c:ACode} {e:Env} {σ:St} {K:KJ} (t sz:Nat) (xs:List AV) (ht:Env.get e t = .lit xs true none) (h:rK (K:=⟨K⟩) T c ((t,.lit xs false (some σ.length))::e) (σ++[.tok sz xs.length false])):rK (K:=⟨K⟩) T c e σ :=
 .ghost t sz xs ht h
end Go.Am
namespace Go.Am
variable {T:FuncId→Option AFunc}
def wL (e:Env) (σ:St):ARes→Option AV
 |.tmp t=>some (Env.get e t)
 |.cell t sh=>jL sh σ (Env.get e t)
def mQ (e:Env) (σ:St):List ARes→Option (List AV)
 |[]=>some []
 |r::rs=>(wL e σ r).bind fun v=>(mQ e σ rs).map (v::·)
theorem uL (e:Env) (σ:St):∀ rs,lU e σ rs=mQ e σ rs
 |[]=>rfl
 |.tmp t::rs=>by simp [lU,mQ,wL,uL e σ rs]
 |.cell t sh::rs=>by
  simp only [lU,mQ,wL,uL e σ rs]
  cases jL sh σ (Env.get e t)<;>cases mQ e σ rs<;>simp
theorem WS (e:Env) (σ:St):fY [] e σ=some (.tuple []):=by simp [fY,lU]
theorem Z0 (r:ARes) (e:Env) (σ:St):fY [r] e σ=wL e σ r:=by
 simp only [fY,uL,mQ];cases wL e σ r<;>simp
theorem Y6 (r s:ARes) (rs:List ARes) (e:Env) (σ:St):fY (r::s::rs) e σ=(mQ e σ (r::s::rs)).map .tuple:=by
 simp only [fY,uL,mQ];cases wL e σ r<;>cases wL e σ s<;>cases mQ e σ rs<;>simp
theorem aC6 (e:Env) (σ:St):mQ e σ []=some []:=by simp only [mQ]
theorem aBN (r:ARes) (rs:List ARes) (e:Env) (σ:St):mQ e σ (r::rs)=(wL e σ r).bind fun v=>(mQ e σ rs).map (v::·):=by simp only [mQ]
theorem aEP (t:Nat) (e:Env) (σ:St):wL e σ (.tmp t)=some (Env.get e t):=by simp only [wL]
theorem aEF (t:Nat) (sh:Option Nat) (e:Env) (σ:St):wL e σ (.cell t sh)=jL sh σ (Env.get e t):=by simp only [wL]
theorem aEG (id:Nat) (K:KJ) (e:Env) (σ:St):jE id K none e σ=K none e σ:=by simp only [jE]
theorem aDM (id:Nat) (K:KJ) (e:Env) (σ:St):jE id K (some .ret) e σ=K (some .ret) e σ:=by simp only [jE]
theorem aAJ (id:Nat) (K:KJ) (e:Env) (σ:St):jE id K (some (.exit id)) e σ=K none e σ:=by simp [jE]
theorem aCD (id i:Nat) (K:KJ) (e:Env) (σ:St) (h:i≠id):jE id K (some (.exit i)) e σ=K (some (.exit i)) e σ:=by simp [jE,h]
theorem XV {α:Type} {sz:Nat} {enc:α→AV} {l:List α} {k:Nat} {t:Option Nat} (h:k<l.length) (hs:∀ x,(enc x).cells.length=sz):EF sz (l.map enc) (k:Int) t=some (.lptr (l.map enc) k 0 t):=by
 simp [EF,List.getElem?_map,h,hs]
theorem X8 {α:Type} {enc:α→AV} {l:List α} {k:Nat} (h:k<l.length):(l.map enc)[k]? = some (enc l[k]):=by simp [List.getElem?_map,h]
theorem rd0 {ds:List ADOper} {e:Env} {σ:St} {K:KJ} (hz:dI ds=[]) (h:wpD T ds e σ σ.length [σ] [] fun e σ=>K none e σ):rK (K:=⟨K⟩) T (.dreg ds) e σ:=by
 refine IN ?_
 rw [hz,List.append_nil]
 exact h
theorem tE {ds:List ADOper} {e:Env} {σ:St} {K:KJ} (zs:St) (hz:dI ds=zs) (h:wpD T ds e (σ++zs) σ.length [σ++zs] [] fun e σ=>K none e σ):rK (K:=⟨K⟩) T (.dreg ds) e σ:=by
 subst hz
 exact IN h
theorem cR {k n:Nat} (h:k<n) (hn:n<9223372036854775808):IntKind.i64.wrap ((k:Int)+1)=((k+1:Nat):Int):=by rw [dU ⟨by omega,by omega⟩];omega
def ints (l:List Int):AV:=.lit (l.map (.int .i64)) false none
theorem jZ (l:List Int):kU (ints l):=j7 (cN .i64) l
theorem nE (σ:St) (m d:Nat) (k:IntKind) (l:List Int):cM σ m d (l.map (.int k))=some (l.map (.int k)):=lH (dB (cN k) l) σ m d
theorem ZX (σ:St) (m d:Nat) (l:List ByteArray):cM σ m d (l.map .str)=some (l.map .str):=lH (dB tD l) σ m d
theorem U1 (σ:St) (m d:Nat):∀ xs ys:List AV,cM σ m d (xs++ys)=(cM σ m d xs).bind fun a=>(cM σ m d ys).map (a++·)
 |[],ys=>by rw [IK];simp
 |x::xs,ys=>by
  rw [List.cons_append,w9,w9,U1 σ m d xs ys]
  cases bT σ m d x<;>simp
  cases cM σ m d xs<;>simp
  cases cM σ m d ys<;>simp
def cL (l:List (List Int)):AV:=.lit (l.map ints) false none
theorem oT (l:List (List Int)):kU (cL l):=j7 jZ l
theorem XY (σ:St) (m d:Nat) (l:List Int):bT σ m d (ints l)=some (ints l):=XM (jZ l) σ m d
theorem NR (σ:St) (m d:Nat) (l:List (List Int)):cM σ m d (l.map ints)=some (l.map ints):=lH (dB jZ l) σ m d
theorem YN (k:IntKind) (a b:Int):v3 [.int k a,.int k b]=some (.int k (min a b)):=by
 simp only [v3,rF,if_true,Option.some.injEq,AV.int.injEq,true_and];split<;>omega
theorem X4 (k:IntKind) (a b:Int):wD [.int k a,.int k b]=some (.int k (max a b)):=by
 simp only [wD,rT,if_true,Option.some.injEq,AV.int.injEq,true_and];split<;>omega
def dZ (s:ByteArray) (k:Nat):Int:=(((s[k]?).getD 0).toNat:Int)
theorem BP (s:ByteArray) (k:Nat):0≤dZ s k∧dZ s k<256:=by
 have:=((s[k]?).getD 0).toNat_lt
 unfold dZ
 omega
theorem YR {s:ByteArray} {k:Nat} (h:k<s.size):w4 (.str s) (.int .i64 (k:Int))=some (.int .u8 (dZ s k)):=by
 simp [w4,fB,dZ,h]
structure Span where
 lo:Int
 hi:Int
 deriving DecidableEq
def oL (s:Span):AV:=.agg [.int .i64 s.lo,.int .i64 s.hi]
theorem aR (s:Span):oL s = .agg [.int .i64 s.lo,.int .i64 s.hi]:=by simp only [oL]
theorem KN (s:Span):kU (oL s):=i7 (bA (cN _ _) (bA (cN _ _) eQ))
def GQ (l:List ByteArray):AV:=.lit (l.map .str) false none
theorem LH (l:List ByteArray):kU (GQ l):=j7 tD l
end Go.Am
namespace Go.Am
variable {T:FuncId→Option AFunc}
def iC (T:FuncId→Option AFunc) (f:AV) (args:List AV) (σ:St) (v:AV):Prop:=Run T (.callv f args σ) fun o=>o.v=v∧o.σ=σ
def yA (o:Option AV) (σ0 σ:St) (v:AV):Prop:=∃ v0 τ,o=some v0∧σ=σ0++τ∧bT σ σ0.length 20 v0=some v
@[congr] theorem VH {o o':Option AV} {σ0 σ σ':St} {v:AV} (h:o=o') (h2:σ=σ'):yA o σ0 σ v=yA o' σ0 σ' v:=by rw [h,h2]
def DG (rs:List ARes) (σ0:St) (v:AV):KJ:=fun j e σ=>(j=none∨j=some .ret)∧yA (fY rs e σ) σ0 σ v
theorem W2 (rs:List ARes) (σ0:St) (v:AV) (e:Env) (σ:St):DG rs σ0 v none e σ=yA (fY rs e σ) σ0 σ v:=by simp [DG]
theorem aBC (rs:List ARes) (σ0:St) (v:AV) (e:Env) (σ:St):DG rs σ0 v (some .ret) e σ=yA (fY rs e σ) σ0 σ v:=by simp [DG]
theorem eI {v0:AV} {σ0 σ:St} {v:AV} (τ:St) (h1:σ=σ0++τ) (h2:bT σ σ0.length 20 v0=some v):yA (some v0) σ0 σ v:=⟨v0,τ,rfl,h1,h2⟩
theorem dY {f:FuncId} {first cap args:List AV} {σ:St} {af:AFunc} {v:AV} (hf:T f=some af) (hn:(first++args++cap).length≤af.ntmps) (h:wp T af.body (eX 0 (first++args++cap)) σ (DG af.results σ v)):iC T (.func f first cap) args σ v:=by
 refine .callf (.call hf hn (fR h fun o ho=>ho) fun o ho=>?_)
 obtain ⟨h1,v0,τ,h2,h3,h4⟩:=ho
 refine ⟨h1,v0,h2,?_⟩
 unfold bT at h4
 cases hs:snap o.σ σ.length 20 v0 with
 |none=>rw [hs] at h4;cases h4
 |some v1 =>
  rw [hs] at h4
  simp at h4
  exact .inr ⟨20,v1,v,hs,.inr h4.symm,fun i hi=>.inl (by rw [h3];exact List.getElem?_append_left hi),by rw [h3];simp,rfl,by rw [h3];simp⟩
theorem bM {f:AV} {args:List AV} {v:AV} {σ:St} {K:AV→St→Prop} (h:iC T f args σ v) (k:K v σ):cK (K:=⟨K⟩) T f args σ:=.mono h fun o ho=>by rw [ho.1,ho.2];exact k
theorem y9 {f:AV} {args:List AV} {v:AV} {σ:St} {K:AV→St→Prop} (h:iC T f args σ v) (k:K v σ):cD (K:=⟨K⟩) T f args σ:=⟨v,σ,h,k⟩
def rY (σ:St) (v:AV):Prop:=∀ τ,bT (σ++τ) σ.length 20 v=some v
theorem rY.nil {σ:St} {v:AV} (h:rY σ v):bT σ σ.length 20 v=some v:=by simpa using h []
theorem XS (m:Nat):∀ (σ τ:St),EqS m σ (σ++τ) σ=True
 |[],τ=>by cases τ<;>simp [EqS]
 |b::σ,τ=>by simp [EqS,XS m σ τ]
theorem aCX (m:Nat) (σ:St):EqS m σ σ σ=True:=by simpa using XS m σ []
theorem X7 (σ τ υ:St):σ++τ++υ=σ++(τ++υ):=List.append_assoc _ _ _
theorem OV {s:ByteArray} {k:Nat} (h:k<s.size):vC [.siter s k] (.ptr 0 0)=some (.tuple [.bool true,.int .i64 k,.int .i32 (Utf8.decode s k).1],[.siter s (k+(Utf8.decode s k).2)]):=by
 simp [vC,h]
theorem QG {s:ByteArray} {k:Nat} (h:¬k<s.size):vC [.siter s k] (.ptr 0 0)=some (.tuple [.bool false],[.siter s k]):=by
 simp [vC,h]
theorem uD {s:ByteArray} {k:Nat} (h:k<s.size) (hb:dZ s k<128):Utf8.decode s k=((dZ s k).toNat,1):=by
 have e:dZ s k=((s[k]'h).toNat:Int):=by simp [dZ,h]
 rw [decode_ascii s k h (by omega),e]
 simp
theorem DT {s:ByteArray} {k:Nat} (h:k<s.size) (hb:128≤dZ s k):128≤(Utf8.decode s k).1:=by
 have e:dZ s k=((s[k]'h).toNat:Int):=by simp [dZ,h]
 exact (decode_high s k h (by omega)).1
theorem XU {α:Type} {sz:Nat} {enc:α→AV} {l:List α} {i:Nat} {σ:St} {t:Option Nat} (hi:i≤l.length) (hs:∀ x,(enc x).cells.length=sz):wY sz σ (.lit (l.map enc) false t) none (some (.int .i64 (i:Int))) none=some (.lit ((l.take i).map enc) false t):=by
 have hc:wT sz (l.map enc) 0 (i:Int)=true:=by
  unfold wT
  by_cases h0:i=0
  ·subst h0;simp
  ·cases l with
   |nil=>simp at hi;omega
   |cons x l=>simp [hs]
 simp only [wY,iD,nB,Option.map_none,fB,lJ]
 rw [if_pos ⟨by omega,by omega,by simp;omega,hc⟩]
 simp [List.map_take]
theorem d8 {f:FuncId} {args args0:List AV} {v:AV} {σ:St} {K:AV→St→Prop} (h:d6 T f args0 v) (ha:clrs args=args0) (hk:okVs 0 args) (k:K v σ):cK (K:=⟨K⟩) T (.func f [] []) args σ :=
 FN h (by simpa using ha) (by simpa using hk) k
theorem eS {f:FuncId} {args args0:List AV} {v:AV} {σ:St} {K:AV→St→Prop} (h:d6 T f args0 v) (ha:clrs args=args0) (hk:okVs 0 args) (k:K v σ):cD (K:=⟨K⟩) T (.func f [] []) args σ :=
 FK h (by simpa using ha) (by simpa using hk) k
end Go.Am
namespace Go.Am
def QV:=And.intro @aBJ (And.intro @m6 (And.intro @IF (And.intro @X7 (And.intro @YR (And.intro @YN (And.intro @X4 (And.intro @aCV (And.intro @WQ (And.intro @N1 (And.intro @O6 (And.intro @aA4 (And.intro @aBU (And.intro @YL (And.intro @UB (And.intro @P9 (And.intro @MH (And.intro @MF (And.intro @qX (And.intro @oJ (And.intro @YQ (And.intro @X5 (And.intro @YS (And.intro @YX (And.intro @ZV (And.intro @VG (And.intro @PU (And.intro @ZW (And.intro @X6 (And.intro @ZR (And.intro @SN (And.intro @W9 (And.intro @aCF (And.intro @SA (And.intro @TU (And.intro @V6 (And.intro @aDD (And.intro @aAO (And.intro @L8 (And.intro @ZL (And.intro @PQ (And.intro @aBD (And.intro @aBX (And.intro @aAG (And.intro @Z9 (And.intro @aB0 (And.intro @aBA (And.intro @aC8 (And.intro @aCU (And.intro @aBO (And.intro @aDE (And.intro @aCQ (And.intro @aBI (And.intro @W5 (And.intro @XB (And.intro @PY (And.intro @N5 (And.intro @YC (And.intro @ZM (And.intro @aAH (And.intro @Z1 (And.intro @NY (And.intro @o0 (And.intro @qV (And.intro @iB (And.intro @aB5 (And.intro @aA9 (And.intro @Q0 (And.intro @aBW (And.intro @RQ (And.intro @IL (And.intro @XE (And.intro @VA (And.intro @V5 (And.intro @aAU (And.intro @aAK (And.intro @WO (And.intro @aBG (And.intro @MR (And.intro @KI (And.intro @aAQ (And.intro @C_0 (And.intro @YT (And.intro @SD (And.intro @WX (And.intro @ZF (And.intro @XF (And.intro @Y9 (And.intro @Q5 (And.intro @W1 (And.intro @J7 (And.intro @H9 (And.intro @aDG (And.intro @WY (And.intro @aDF (And.intro @aC4 (And.intro @aCW (And.intro @aBZ (And.intro @WV (And.intro @aAW (And.intro @aB7 (And.intro @OB (And.intro @KK (And.intro @aA6 (And.intro @aBB (And.intro @MQ (And.intro @NL (And.intro @aCP (And.intro @aCH (And.intro @aB2 (And.intro @YD (And.intro @aAC (And.intro @WS (And.intro @Z0 (And.intro @Y6 (And.intro @aC6 (And.intro @aBN (And.intro @aEP (And.intro @aEF (And.intro @X0 (And.intro @ZG (And.intro @aA7 (And.intro @YW (And.intro @UC (And.intro @aBF (And.intro @SB (And.intro @SV (And.intro @T0 (And.intro @X3 (And.intro @R1 (And.intro @H0 (And.intro @aCM (And.intro @aCI (And.intro @aCC (And.intro @aBE (And.intro @XO (And.intro @SZ (And.intro @RP (And.intro @LU (And.intro @NU (And.intro @N4 (And.intro @UK (And.intro @RE (And.intro @SM (And.intro @RB (And.intro @NS (And.intro @NZ (And.intro @QK (And.intro @aAE (And.intro @aAB (And.intro @NE (And.intro @RH (And.intro @Y0 (And.intro @aAN (And.intro @aCK (And.intro @PZ (@TJ))))))))))))))))))))))))))))))))))))))))))))))))))))))))))))))))))))))))))))))))))))))))))))))))))))))))))))))))))))))))))))))))))))))))))))))))))))))))))))
def QP:=And.intro @W2 (And.intro @aBC (And.intro @aAD (And.intro @aCA (And.intro @XR (And.intro @XH (And.intro @RS (And.intro @ZT (And.intro @Q9 (And.intro @S5 (And.intro @aA3 (And.intro @aEG (And.intro @aDM (And.intro @aAJ (And.intro @aCD (And.intro @XV (And.intro @X8 (And.intro @X9 (And.intro @RX (And.intro @YE (And.intro @XG (And.intro @R9 (And.intro @aBL (And.intro @W3 (And.intro @aC5 (And.intro @ZH (And.intro @aDC (And.intro @OH (And.intro @U0 (And.intro @Z6 (And.intro @YO (And.intro @SL (And.intro @aAP (And.intro @RV (And.intro @RL (And.intro @S3 (And.intro @XZ (And.intro @RU (And.intro @F8 (And.intro @aCT (And.intro @aDB (And.intro @aC9 (And.intro @aBR (And.intro @XK (And.intro @RT (And.intro @SI (And.intro @LE (And.intro @MC (And.intro @ON (And.intro @RZ (And.intro @T7 (And.intro @R2 (And.intro @SJ (And.intro @P4 (And.intro @MX (And.intro @M9 (And.intro @aAT (And.intro @aA0 (And.intro @NP (And.intro @TA (And.intro @ZO (And.intro @aCN (And.intro @aBM (And.intro @O5 (@SO))))))))))))))))))))))))))))))))))))))))))))))))))))))))))))))))
def QD:=And.intro @aAR (And.intro @ZP (And.intro @UR (And.intro @NB (And.intro @aCG (And.intro @YB (And.intro @Z7 (And.intro @TN (And.intro @TW (And.intro @RJ (And.intro @W0 (And.intro @T4 (And.intro @HD (And.intro @aB9 (And.intro @aAY (And.intro @aA8 (And.intro @aB8 (And.intro @WW (And.intro @Q4 (And.intro @S2 (And.intro @J3 (And.intro @O8 (And.intro @MA (And.intro @TP (And.intro @TQ (And.intro @UP (And.intro @UG (And.intro @OQ (And.intro @PA (And.intro @MN (And.intro @aAA (And.intro @aCO (And.intro @OD (And.intro @RR (And.intro @X1 (And.intro @aBY (And.intro @aBH (And.intro @NC (And.intro @SQ (And.intro @aB4 (And.intro @WP (And.intro @aBT (And.intro @TM (And.intro @TT (And.intro @SU (And.intro @X2 (And.intro @S1 (And.intro @F9 (And.intro @aC2 (And.intro @aA2 (And.intro @aBK (And.intro @aAL (And.intro @W8 (And.intro @Q2 (And.intro @T9 (And.intro @K3 (And.intro @OE (And.intro @PC (And.intro @S6 (And.intro @S0 (And.intro @RD (And.intro @SC (And.intro @M8 (And.intro @PD (And.intro @N8 (And.intro @aB1 (And.intro @aDH (And.intro @PK (And.intro @RF (And.intro @ZY (And.intro @aAX (And.intro @aC1 (And.intro @MT (@T5)))))))))))))))))))))))))))))))))))))))))))))))))))))))))))))))))))))))))
def QS:=And.intro @NR (And.intro @XY (And.intro @U1 (And.intro @nE (And.intro @ZX (And.intro @NW (And.intro @CI (And.intro @QU (And.intro @O4 (And.intro @LA (And.intro @WM (And.intro @aAZ (And.intro @IK (And.intro @w9 (And.intro @R4 (And.intro @MS (And.intro @GI (And.intro @XW (And.intro @CN (And.intro @VG (@PU))))))))))))))))))))
def QR:=And.intro @MJ (And.intro @N3 (And.intro @Q8 (@SF)))
def QT:=And.intro @XS (And.intro @aCX (And.intro @aDO (And.intro @aEK (And.intro @aEJ (And.intro @aDV (And.intro @aEN (And.intro @aED (And.intro @aDJ (@N1)))))))))
variable {T:FuncId→Option AFunc}
mutual
theorem okV_up {m:Nat}:∀ v,okV 0 v→okV m v
 |.func _ first cap,h=>⟨okVs_up first h.1,okVs_up cap h.2⟩
 |.lptr xs _ _ tk,h=>⟨fun t e=>absurd (h.1 t e) (by omega),okVs_up xs h.2⟩
 |.lit xs _ tk,h=>⟨fun t e=>absurd (h.1 t e) (by omega),okVs_up xs h.2⟩
 |.agg cs,h=>okVs_up cs h
 |.tuple vs,h=>okVs_up vs h
 |.yield _,h|.ptr _ _,h|.ref _ _ _ _,h|.map _,h=>absurd h (by simp [okV])
 |.undef,_|.int _ _,_|.bool _,_|.str _,_|.nilFunc,_|.nilPtr,_|.nilMap,_=>trivial
theorem okVs_up {m:Nat}:∀ vs,okVs 0 vs→okVs m vs
 |[],_=>trivial
 |v::vs,h=>⟨okV_up v h.1,okVs_up vs h.2⟩
end
theorem G4 {σ:St} {m d id off len sz:Nat} (h:id<m):bT σ m d (.ref id off len sz)=some (.ref id off len sz):=by
 cases d<;>simp [bT,snap,h,clr]
theorem P7 {f:FuncId} {args:List AV} {v:AV} {af:AFunc} (hf:T f=some af) (hn:args.length≤af.ntmps) (hk:kY args) (h:Run T (.code af.body (eX 0 args) []) fun o=>KL af.results v o.j o.env o.σ):d6 T f args v:=by
 intro σ
 refine .frame hk.1 (.inl rfl) (R:=fun o=>o.v=v∧o.σ=[]) (.call hf hn h fun o ho=>?_) fun o ho=>⟨ho.2,ho.1,rfl⟩
 obtain ⟨h1,v0,h2,h3⟩:=ho
 refine ⟨h1,v0,h2,?_⟩
 unfold bT at h3
 cases hs:snap o.σ 0 20 v0 with
 |none=>rw [hs] at h3;cases h3
 |some v1 =>
  rw [hs] at h3
  simp at h3
  exact .inr ⟨20,v1,v,hs,.inr h3.symm,fun i hi=>absurd hi (by simp),by simp,rfl,by simp⟩
theorem I8 {a b:ACode} {e:Env} {σ:St} {Q:Out→Prop} (R:Env→St→Prop) (h:wp T a e σ fun j e' σ'=>j=none∧R e' σ') (h2:∀ e' σ',R e' σ'→Run T (.code b e' σ') Q):Run T (.code (.seq a b) e σ) Q :=
 .seq (fR h fun o ho=>ho) (fun o ho _=>h2 _ _ ho.2) fun o ho hj=>absurd ho.1 hj
theorem PM {a:ACode} {e:Env} {σ:St} {K:KJ} (h:wp T a e σ K):Run T (.code a e σ) fun o=>K o.j o.env o.σ:=fR h fun o ho=>ho
end Go.Am
namespace Go.Am
theorem nP (l:List Int):ints l = .lit (l.map (.int .i64)) false none:=by simp only [ints]
theorem MZ (l:List ByteArray):GQ l = .lit (l.map .str) false none:=by simp only [GQ]
def QC:=And.intro @and_self (And.intro @and_true (And.intro @true_and (And.intro @true_or (And.intro @or_true (And.intro @nP (And.intro @MZ (And.intro @decide_true (And.intro @decide_false (And.intro @Nat.lt_irrefl (And.intro @Nat.le_refl (And.intro @List.length_cons.{0} (And.intro @List.length_nil.{0} (And.intro @List.cons_append.{0} (And.intro @List.nil_append.{0} (And.intro @List.append_nil.{0} (And.intro @List.getElem?_cons_zero.{0} (And.intro @List.getElem?_cons_succ.{0} (And.intro @List.take_zero.{0} (And.intro @List.drop_zero.{0} (And.intro @List.take_succ_cons.{0} (And.intro @List.drop_succ_cons.{0} (And.intro @List.take_nil.{0} (And.intro @List.drop_nil.{0} (And.intro @List.set_cons_zero.{0} (And.intro @List.set_cons_succ.{0} (And.intro @List.length_map.{0,0} (And.intro @Bool.and_true (And.intro @Bool.true_and (And.intro @Bool.and_self (And.intro @Bool.not_true (And.intro @Bool.not_false (And.intro @beq_self_eq_true.{0} (And.intro @Nat.zero_add (And.intro @implies_true.{0} (And.intro @implies_true.{1} (And.intro @forall_const.{0} (And.intro @forall_const.{1} (And.intro @ne_eq.{1} (And.intro @not_false_eq_true (@not_true_eq_false))))))))))))))))))))))))))))))))))))))))
def QA:=And.intro QP QD
def QB:=And.intro QR (And.intro QV (And.intro QS QC))
def QE:=And.intro QT (And.intro QS (And.intro @N1 (And.intro @List.length_append.{0} (And.intro @Nat.le_add_right QC))))
class Dat (v:AV):Prop where
 h:kU v
class Dats (vs:List AV):Prop where
 h:kY vs
theorem dd {vs:List AV} [k:Dats vs]:kY vs:=k.h
instance:Dats []:=⟨eQ⟩
instance {v:AV} {vs:List AV} [a:Dat v] [b:Dats vs]:Dats (v::vs):=⟨bA a.h b.h⟩
instance (k:IntKind) (n:Int):Dat (.int k n):=⟨cN k n⟩
instance (b:Bool):Dat (.bool b):=⟨BM b⟩
instance (s:ByteArray):Dat (.str s):=⟨tD s⟩
instance (l:List Int):Dat (ints l):=⟨jZ l⟩
instance (l:List (List Int)):Dat (cL l):=⟨oT l⟩
instance (l:List ByteArray):Dat (GQ l):=⟨LH l⟩
instance (s:Span):Dat (oL s):=⟨KN s⟩
instance {cs:List AV} [a:Dats cs]:Dat (.agg cs):=⟨i7 a.h⟩
instance {cs:List AV} [a:Dats cs]:Dat (.tuple cs):=⟨HL a.h⟩
instance {cs:List AV} [a:Dats cs]:Dat (.lit cs false none):=⟨EJ a.h⟩
instance (k:IntKind) (l:List Int):Dats (l.map (.int k)):=⟨dB (cN k) l⟩
end Go.Am
namespace Go.Am.Room
def inR (n lo hi:Int):Bool:=decide (lo≤n)&&decide (n≤hi)
theorem eV (n lo hi:Int):d6 T 62 [.int .i64 n,.int .i64 lo,.int .i64 hi] (.bool (inR n lo hi)):=by
 refine aZ (af:=a62) rfl (by simp [a62]) dd ?_
 (repeat (first|simp only [↓QA,QB,Nat.reduceLT,reduceIte,Nat.reduceEqDiff,Nat.reduceAdd,Nat.reduceLeDiff,Nat.reduceMul,Nat.reduceBEq,a62]|refine rd0 rfl ?_))
 refine aI (fun h=>?_) fun h=>?_
 all_goals
  (repeat (first|simp only [↓QA,QB,Nat.reduceLT,reduceIte,Nat.reduceEqDiff,Nat.reduceAdd,Nat.reduceLeDiff,Nat.reduceMul,Nat.reduceBEq,h]|refine rd0 rfl ?_))
  simp [inR,h]
def mN (s:Span) (lo hi:Int):Int:=if !inR s.lo lo hi||!inR s.hi lo hi then 7 else if s.hi<s.lo then 2 else 0
theorem IX (s:Span) (lo hi:Int):d6 T 103 [oL s,.int .i64 lo,.int .i64 hi] (.int .i64 (mN s lo hi)):=by
 refine aZ (af:=a103) rfl (by simp [a103]) dd ?_
 (repeat (first|simp only [↓QA,QB,Nat.reduceLT,reduceIte,Nat.reduceEqDiff,Nat.reduceAdd,Nat.reduceLeDiff,Nat.reduceMul,Nat.reduceBEq,a103,aR]|refine rd0 rfl ?_))
 refine aF (eV _ _ _) rfl dd ?_
 (repeat (first|simp only [↓QA,QB,Nat.reduceLT,reduceIte,Nat.reduceEqDiff,Nat.reduceAdd,Nat.reduceLeDiff,Nat.reduceMul,Nat.reduceBEq]|refine rd0 rfl ?_))
 cases h1:inR s.lo lo hi
 ·(repeat (first|simp only [↓QA,QB,Nat.reduceLT,reduceIte,Nat.reduceEqDiff,Nat.reduceAdd,Nat.reduceLeDiff,Nat.reduceMul,Nat.reduceBEq]|refine rd0 rfl ?_))
  simp [mN,h1]
 ·(repeat (first|simp only [↓QA,QB,Nat.reduceLT,reduceIte,Nat.reduceEqDiff,Nat.reduceAdd,Nat.reduceLeDiff,Nat.reduceMul,Nat.reduceBEq]|refine rd0 rfl ?_))
  refine aF (eV _ _ _) rfl dd ?_
  (repeat (first|simp only [↓QA,QB,Nat.reduceLT,reduceIte,Nat.reduceEqDiff,Nat.reduceAdd,Nat.reduceLeDiff,Nat.reduceMul,Nat.reduceBEq]|refine rd0 rfl ?_))
  cases h2:inR s.hi lo hi
  ·(repeat (first|simp only [↓QA,QB,Nat.reduceLT,reduceIte,Nat.reduceEqDiff,Nat.reduceAdd,Nat.reduceLeDiff,Nat.reduceMul,Nat.reduceBEq]|refine rd0 rfl ?_))
   simp [mN,h1,h2]
  ·(repeat (first|simp only [↓QA,QB,Nat.reduceLT,reduceIte,Nat.reduceEqDiff,Nat.reduceAdd,Nat.reduceLeDiff,Nat.reduceMul,Nat.reduceBEq]|refine rd0 rfl ?_))
   refine aI (fun h=>?_) fun h=>?_
   all_goals
    (repeat (first|simp only [↓QA,QB,Nat.reduceLT,reduceIte,Nat.reduceEqDiff,Nat.reduceAdd,Nat.reduceLeDiff,Nat.reduceMul,Nat.reduceBEq,h]|refine rd0 rfl ?_))
    simp [mN,h1,h2]
    simpa using h
def j6 (s:Span) (n:Int):Span:=⟨min s.lo n,max s.hi n⟩
theorem MV (l:List Int) (n:Int) (hl:l.length<9223372036854775808):d6 T 43 [ints l,.int .i64 n] (.bool (l.contains n)):=by
 refine aZ (af:=a43) rfl (by simp [a43]) dd ?_
 (repeat (first|simp only [↓QA,QB,Nat.reduceLT,reduceIte,Nat.reduceEqDiff,Nat.reduceAdd,Nat.reduceLeDiff,Nat.reduceMul,Nat.reduceBEq,a43]|refine rd0 rfl ?_))
 refine dF (S:=Nat) 0 (·≤l.length) (fun k=>l.length-k) (fun k=>[(0,ints l),(1,.int .i64 n),(5,.bool ((l.take k).contains n)),(6,.int .i64 k)]) (fun _=>[]) (Nat.zero_le _) rfl ?_ fun k hk=>?_
 ·try simp only [aD,QE,Nat.reduceLT,reduceIte,Nat.reduceEqDiff,Nat.reduceAdd,Nat.reduceLeDiff,Nat.reduceMul,Nat.reduceBEq]
  try simp
 ·(repeat (first|simp only [↓QA,QB,Nat.reduceLT,reduceIte,Nat.reduceEqDiff,Nat.reduceAdd,Nat.reduceLeDiff,Nat.reduceMul,Nat.reduceBEq,U2]|refine rd0 rfl ?_))
  refine aI (fun h=>?_) fun h=>?_
  ·have hk1:k<l.length:=by simpa using h
   (repeat (first|simp only [↓QA,QB,Nat.reduceLT,reduceIte,Nat.reduceEqDiff,Nat.reduceAdd,Nat.reduceLeDiff,Nat.reduceMul,Nat.reduceBEq]|refine rd0 rfl ?_))
   refine aI (fun h2=>?_) fun h2=>?_
   all_goals
    (repeat (first|simp only [↓QA,QB,Nat.reduceLT,reduceIte,Nat.reduceEqDiff,Nat.reduceAdd,Nat.reduceLeDiff,Nat.reduceMul,Nat.reduceBEq,h2,hk1]|refine rd0 rfl ?_))
    refine ⟨k+1,by omega,by omega,?_⟩
    try simp only [aD,QE,Nat.reduceLT,reduceIte,Nat.reduceEqDiff,Nat.reduceAdd,Nat.reduceLeDiff,Nat.reduceMul,Nat.reduceBEq,cR hk1 hl]
    simp only [List.take_succ_eq_append_getElem hk1,List.contains_append,h2]
    simp
    try (rw [Bool.eq_iff_iff];simp;exact eq_comm)
  ·have:k=l.length:=by simp at h;omega
   (repeat (first|simp only [↓QA,QB,Nat.reduceLT,reduceIte,Nat.reduceEqDiff,Nat.reduceAdd,Nat.reduceLeDiff,Nat.reduceMul,Nat.reduceBEq]|refine rd0 rfl ?_))
   simp [this]
def less:List Int→List Int→Bool
 |_,[]=>false
 |[],_::_=>true
 |a::az,b::bs=>if a=b then less az bs else decide (a<b)
theorem LN {a b:List Int} {k:Nat} (ha:k<a.length) (hb:k<b.length) (h:a[k]=b[k]):less (a.drop (k+1)) (b.drop (k+1))=less (a.drop k) (b.drop k):=by
 rw [List.drop_eq_getElem_cons ha,List.drop_eq_getElem_cons hb];simp [less,h]
theorem CX (a b:List Int) (ha:a.length<9223372036854775808) (hb:b.length<9223372036854775808):d6 T 56 [ints a,ints b] (.bool (less a b)):=by
 refine aZ (af:=a56) rfl (by simp [a56]) dd ?_
 (repeat (first|simp only [↓QA,QB,Nat.reduceLT,reduceIte,Nat.reduceEqDiff,Nat.reduceAdd,Nat.reduceLeDiff,Nat.reduceMul,Nat.reduceBEq,a56]|refine rd0 rfl ?_))
 refine dF (S:=Nat) 0 (fun k=>k≤a.length∧k≤b.length∧less (a.drop k) (b.drop k)=less a b) (fun k=>a.length-k) (fun k=>[(0,ints a),(1,ints b),(5,.int .i64 k)]) (fun _=>[]) ⟨Nat.zero_le _,Nat.zero_le _,rfl⟩ rfl ?_ fun k hk=>?_
 ·try simp only [aD,QE,Nat.reduceLT,reduceIte,Nat.reduceEqDiff,Nat.reduceAdd,Nat.reduceLeDiff,Nat.reduceMul,Nat.reduceBEq]
  try simp
 ·obtain ⟨hka,hkb,hl⟩:=hk
  (repeat (first|simp only [↓QA,QB,Nat.reduceLT,reduceIte,Nat.reduceEqDiff,Nat.reduceAdd,Nat.reduceLeDiff,Nat.reduceMul,Nat.reduceBEq,WF]|refine rd0 rfl ?_))
  by_cases h1:k<a.length
  ·have g1:decide ((k:Int)<a.length)=true:=by simpa using h1
   by_cases h2:k<b.length
   ·have g2:decide ((k:Int)<b.length)=true:=by simpa using h2
    (repeat (first|simp only [↓QA,QB,Nat.reduceLT,reduceIte,Nat.reduceEqDiff,Nat.reduceAdd,Nat.reduceLeDiff,Nat.reduceMul,Nat.reduceBEq,g1,g2,h1,h2]|refine rd0 rfl ?_))
    refine aI (fun h3=>?_) fun h3=>?_
    ·have h3':a[k]=b[k]:=by simpa using h3
     (repeat (first|simp only [↓QA,QB,Nat.reduceLT,reduceIte,Nat.reduceEqDiff,Nat.reduceAdd,Nat.reduceLeDiff,Nat.reduceMul,Nat.reduceBEq,h3]|refine rd0 rfl ?_))
     refine ⟨k+1,⟨by omega,by omega,(LN h1 h2 h3').trans hl⟩,by omega,?_⟩
     try simp only [aD,QE,Nat.reduceLT,reduceIte,Nat.reduceEqDiff,Nat.reduceAdd,Nat.reduceLeDiff,Nat.reduceMul,Nat.reduceBEq,cR h1 ha]
    ·have h3':a[k]≠b[k]:=by simpa using h3
     have e1:((k:Int)==b.length)=false:=by simp;omega
     have e2:((k:Int)==a.length)=false:=by simp;omega
     (repeat (first|simp only [↓QA,QB,Nat.reduceLT,reduceIte,Nat.reduceEqDiff,Nat.reduceAdd,Nat.reduceLeDiff,Nat.reduceMul,Nat.reduceBEq,h3,e1,e2,h1,h2]|refine rd0 rfl ?_))
     rw [←hl,List.drop_eq_getElem_cons h1,List.drop_eq_getElem_cons h2]
     simp [less,h3']
   ·have hkb':k=b.length:=by omega
    have g2:decide ((k:Int)<b.length)=false:=by simp;omega
    have e1:((k:Int)==b.length)=true:=by simp;omega
    (repeat (first|simp only [↓QA,QB,Nat.reduceLT,reduceIte,Nat.reduceEqDiff,Nat.reduceAdd,Nat.reduceLeDiff,Nat.reduceMul,Nat.reduceBEq,g1,g2,e1]|refine rd0 rfl ?_))
    rw [←hl,hkb',List.drop_length]
    cases List.drop b.length a<;>simp [less]
  ·have g1:decide ((k:Int)<a.length)=false:=by simp;omega
   have e2:((k:Int)==a.length)=true:=by simp;omega
   have hka':k=a.length:=by omega
   (repeat (first|simp only [↓QA,QB,Nat.reduceLT,reduceIte,Nat.reduceEqDiff,Nat.reduceAdd,Nat.reduceLeDiff,Nat.reduceMul,Nat.reduceBEq,g1]|refine rd0 rfl ?_))
   refine aI (fun h3=>?_) fun h3=>?_
   ·have h3':k=b.length:=by simp at h3;omega
    (repeat (first|simp only [↓QA,QB,Nat.reduceLT,reduceIte,Nat.reduceEqDiff,Nat.reduceAdd,Nat.reduceLeDiff,Nat.reduceMul,Nat.reduceBEq]|refine rd0 rfl ?_))
    rw [←hl,h3',List.drop_length]
    cases List.drop b.length a<;>simp [less]
   ·have h3':k<b.length:=by simp at h3;omega
    (repeat (first|simp only [↓QA,QB,Nat.reduceLT,reduceIte,Nat.reduceEqDiff,Nat.reduceAdd,Nat.reduceLeDiff,Nat.reduceMul,Nat.reduceBEq,h3,e2]|refine rd0 rfl ?_))
    rw [←hl,hka',List.drop_length,List.drop_eq_getElem_cons (by omega)]
    simp [less]
theorem lS:∀ a,less a a=false
 |[]=>rfl
 |a::az=>by simp [less,lS az]
theorem yN:∀ a b,less a b=false→less b a=false→a=b
 |[],[],_,_=>rfl
 |[],b::bs,h,_=>by simp [less] at h
 |a::az,[],_,h=>by simp [less] at h
 |a::az,b::bs,h1,h2=>by
  by_cases hab:a=b
  ·subst hab
   simp [less] at h1 h2
   rw [yN az bs h1 h2]
  ·simp [less,hab,Ne.symm hab] at h1 h2
   omega
theorem TG (a b:Nat):((a:Int)==(b:Int))=decide (a=b):=by rw [Bool.eq_iff_iff];simp;omega
theorem kB (a b:List Int) (ha:a.length<9223372036854775808) (hb:b.length<9223372036854775808):d6 T 27 [ints a,ints b] (.bool (decide (a=b))):=by
 refine aZ (af:=a27) rfl (by simp [a27]) dd ?_
 (repeat (first|simp only [↓QA,QB,Nat.reduceLT,reduceIte,Nat.reduceEqDiff,Nat.reduceAdd,Nat.reduceLeDiff,Nat.reduceMul,Nat.reduceBEq,a27]|refine rd0 rfl ?_))
 refine aI (fun h=>?_) fun h=>?_
 ·(repeat (first|simp only [↓QA,QB,Nat.reduceLT,reduceIte,Nat.reduceEqDiff,Nat.reduceAdd,Nat.reduceLeDiff,Nat.reduceMul,Nat.reduceBEq,h]|refine rd0 rfl ?_))
  refine aF (CX a b ha hb) rfl dd ?_
  (repeat (first|simp only [↓QA,QB,Nat.reduceLT,reduceIte,Nat.reduceEqDiff,Nat.reduceAdd,Nat.reduceLeDiff,Nat.reduceMul,Nat.reduceBEq,h]|refine rd0 rfl ?_))
  cases h1:less a b
  ·(repeat (first|simp only [↓QA,QB,Nat.reduceLT,reduceIte,Nat.reduceEqDiff,Nat.reduceAdd,Nat.reduceLeDiff,Nat.reduceMul,Nat.reduceBEq,h]|refine rd0 rfl ?_))
   refine aF (CX b a hb ha) rfl dd ?_
   (repeat (first|simp only [↓QA,QB,Nat.reduceLT,reduceIte,Nat.reduceEqDiff,Nat.reduceAdd,Nat.reduceLeDiff,Nat.reduceMul,Nat.reduceBEq,h]|refine rd0 rfl ?_))
   cases h2:less b a
   ·rw [yN a b h1 h2];simp
   ·have:a≠b:=by rintro rfl;rw [lS] at h2;cases h2
    simp [this]
  ·have:a≠b:=by rintro rfl;rw [lS] at h1;cases h1
   (repeat (first|simp only [↓QA,QB,Nat.reduceLT,reduceIte,Nat.reduceEqDiff,Nat.reduceAdd,Nat.reduceLeDiff,Nat.reduceMul,Nat.reduceBEq,h]|refine rd0 rfl ?_))
   simp [this]
 ·have:a≠b:=by rintro rfl;simp at h
  (repeat (first|simp only [↓QA,QB,Nat.reduceLT,reduceIte,Nat.reduceEqDiff,Nat.reduceAdd,Nat.reduceLeDiff,Nat.reduceMul,Nat.reduceBEq,h]|refine rd0 rfl ?_))
  simp [this]
def fM (a b:List Int):Bool:=if a.length=b.length then less a b else decide (a.length<b.length)
theorem CL (a b:ByteArray):(a.toList==b.toList)=decide (a=b):=by
 rw [Bool.eq_iff_iff];simp
 constructor
 ·intro h;rw [Go.Lib.toList_data,Go.Lib.toList_data] at h;exact ByteArray.ext (Array.toList_inj.1 h)
 ·rintro rfl;rfl
def iO (s:ByteArray):List ByteArray→Nat
 |[]=>0
 |x::xs=>if x=s then 0 else iO s xs+1
def zG (s:ByteArray) (l:List ByteArray):Int:=if iO s l=l.length then -1 else iO s l
theorem HO {s:ByteArray} {l:List ByteArray} {k:Nat} (h:k<l.length) (hx:l[k]≠s):k+iO s (l.drop k)=k+1+iO s (l.drop (k+1)):=by
 rw [List.drop_eq_getElem_cons h];simp [iO,hx];omega
theorem D1 (l:List ByteArray) (s:ByteArray) (hl:l.length<9223372036854775808):d6 T 104 [GQ l,.str s] (.int .i64 (zG s l)):=by
 refine aZ (af:=a104) rfl (by simp [a104]) dd ?_
 (repeat (first|simp only [↓QA,QB,Nat.reduceLT,reduceIte,Nat.reduceEqDiff,Nat.reduceAdd,Nat.reduceLeDiff,Nat.reduceMul,Nat.reduceBEq,a104]|refine rd0 rfl ?_))
 refine dF (S:=Nat) 0 (fun k=>k≤l.length∧k+iO s (l.drop k)=iO s l) (fun k=>l.length-k) (fun k=>[(0,GQ l),(1,.str s),(5,.int .i64 k)]) (fun _=>[]) ⟨Nat.zero_le _,by simp⟩ rfl ?_ fun k hk=>?_
 ·try simp only [aD,QE,Nat.reduceLT,reduceIte,Nat.reduceEqDiff,Nat.reduceAdd,Nat.reduceLeDiff,Nat.reduceMul,Nat.reduceBEq]
  try simp
 ·obtain ⟨hkl,ha⟩:=hk
  (repeat (first|simp only [↓QA,QB,Nat.reduceLT,reduceIte,Nat.reduceEqDiff,Nat.reduceAdd,Nat.reduceLeDiff,Nat.reduceMul,Nat.reduceBEq,PT,CL]|refine rd0 rfl ?_))
  refine aI (fun h=>?_) fun h=>?_
  ·have hk1:k<l.length:=by simpa using h
   have e2:((k:Int)==l.length)=false:=by simp;omega
   (repeat (first|simp only [↓QA,QB,Nat.reduceLT,reduceIte,Nat.reduceEqDiff,Nat.reduceAdd,Nat.reduceLeDiff,Nat.reduceMul,Nat.reduceBEq,h,hk1,CL]|refine rd0 rfl ?_))
   refine aI (fun h3=>?_) fun h3=>?_
   ·have h3':l[k]≠s:=by simpa using h3
    (repeat (first|simp only [↓QA,QB,Nat.reduceLT,reduceIte,Nat.reduceEqDiff,Nat.reduceAdd,Nat.reduceLeDiff,Nat.reduceMul,Nat.reduceBEq,h3]|refine rd0 rfl ?_))
    refine ⟨k+1,⟨by omega,by rw [←HO hk1 h3'];exact ha⟩,by omega,?_⟩
    try simp only [aD,QE,Nat.reduceLT,reduceIte,Nat.reduceEqDiff,Nat.reduceAdd,Nat.reduceLeDiff,Nat.reduceMul,Nat.reduceBEq,cR hk1 hl]
   ·have h3':l[k]=s:=by simpa using h3
    have h4:iO s (l.drop k)=0:=by rw [List.drop_eq_getElem_cons hk1];simp [iO,h3']
    (repeat (first|simp only [↓QA,QB,Nat.reduceLT,reduceIte,Nat.reduceEqDiff,Nat.reduceAdd,Nat.reduceLeDiff,Nat.reduceMul,Nat.reduceBEq,h3,e2]|refine rd0 rfl ?_))
    simp only [zG]
    rw [if_neg (by omega)]
    simp;omega
  ·have hk1:k=l.length:=by simp at h;omega
   have e2:((k:Int)==l.length)=true:=by simp;omega
   have h4:iO s (l.drop k)=0:=by rw [hk1,List.drop_length];rfl
   (repeat (first|simp only [↓QA,QB,Nat.reduceLT,reduceIte,Nat.reduceEqDiff,Nat.reduceAdd,Nat.reduceLeDiff,Nat.reduceMul,Nat.reduceBEq,h,e2]|refine rd0 rfl ?_))
   simp only [zG]
   rw [if_pos (by omega)]
def yC (i:Nat) (b:Int):Bool:=inR b 97 122||(decide (0<i)&&(b==46||inR b 48 57))
def fX (s:ByteArray):Nat→Bool
 |0=>true
 |k+1=>fX s k&&yC k (dZ s k)
def nF (s:ByteArray):Bool:=inR s.size 1 16&&fX s s.size
theorem wX (s:ByteArray) (hs:s.size<9223372036854775808):d6 T 105 [.str s] (.bool (nF s)):=by
 refine aZ (af:=a105) rfl (by simp [a105]) dd ?_
 (repeat (first|simp only [↓QA,QB,Nat.reduceLT,reduceIte,Nat.reduceEqDiff,Nat.reduceAdd,Nat.reduceLeDiff,Nat.reduceMul,Nat.reduceBEq,a105]|refine rd0 rfl ?_))
 ((first|refine aF (eV _ _ _) rfl dd ?_|refine aG (eV _ _ _) rfl dd ?_);(repeat (first|simp only [↓QA,QB,Nat.reduceLT,reduceIte,Nat.reduceEqDiff,Nat.reduceAdd,Nat.reduceLeDiff,Nat.reduceMul,Nat.reduceBEq]|refine rd0 rfl ?_)))
 refine dF (S:=Nat) 0 (fun k=>k≤s.size) (fun k=>s.size-k) (fun k=>[(0,.str s),(3,.bool (inR s.size 1 16&&fX s k)),(4,.int .i64 k)]) (fun _=>[]) (Nat.zero_le _) rfl ?_ fun k hk=>?_
 ·try simp only [aD,QE,Nat.reduceLT,reduceIte,Nat.reduceEqDiff,Nat.reduceAdd,Nat.reduceLeDiff,Nat.reduceMul,Nat.reduceBEq,fX]
  try simp
 ·(repeat (first|simp only [↓QA,QB,Nat.reduceLT,reduceIte,Nat.reduceEqDiff,Nat.reduceAdd,Nat.reduceLeDiff,Nat.reduceMul,Nat.reduceBEq,NQ]|refine rd0 rfl ?_))
  refine aI (fun h=>?_) fun h=>?_
  ·have hk1:k<s.size:=by simpa using h
   have hb:=BP s k
   have hw:IntKind.i64.wrap (dZ s k)=dZ s k:=dU ⟨by omega,by omega⟩
   have fin:∀ (later:Bool),later=(decide (0<k)&&(dZ s k==46||inR (dZ s k) 48 57))→(inR s.size 1 16&&fX s k&&(inR (dZ s k) 97 122||later))=(inR s.size 1 16&&fX s (k+1)):=by
    rintro _ rfl
    simp only [fX,yC,Bool.and_assoc]
   have tail:∀ (later:Bool) (e:Env),later=(decide (0<k)&&(dZ s k==46||inR (dZ s k) 48 57))→True:=fun _ _ _=>trivial
   (repeat (first|simp only [↓QA,QB,Nat.reduceLT,reduceIte,Nat.reduceEqDiff,Nat.reduceAdd,Nat.reduceLeDiff,Nat.reduceMul,Nat.reduceBEq,hk1,hw]|refine rd0 rfl ?_))
   cases h0:decide ((0:Int)<k)
   ·have h0':decide (0<k)=false:=by simpa using h0
    (repeat (first|simp only [↓QA,QB,Nat.reduceLT,reduceIte,Nat.reduceEqDiff,Nat.reduceAdd,Nat.reduceLeDiff,Nat.reduceMul,Nat.reduceBEq,hk1,hw]|refine rd0 rfl ?_))
    cases hf:(inR s.size 1 16&&fX s k)
    ·(repeat (first|simp only [↓QA,QB,Nat.reduceLT,reduceIte,Nat.reduceEqDiff,Nat.reduceAdd,Nat.reduceLeDiff,Nat.reduceMul,Nat.reduceBEq,hk1,hw,hf]|refine rd0 rfl ?_))
     refine ⟨k+1,by omega,by omega,?_⟩
     try simp only [aD,QE,Nat.reduceLT,reduceIte,Nat.reduceEqDiff,Nat.reduceAdd,Nat.reduceLeDiff,Nat.reduceMul,Nat.reduceBEq,cR hk1 hs,←fin false (by simp [h0']),hf]
     try simp
    ·(repeat (first|simp only [↓QA,QB,Nat.reduceLT,reduceIte,Nat.reduceEqDiff,Nat.reduceAdd,Nat.reduceLeDiff,Nat.reduceMul,Nat.reduceBEq,hk1,hw,hf]|refine rd0 rfl ?_))
     ((first|refine aF (eV _ _ _) rfl dd ?_|refine aG (eV _ _ _) rfl dd ?_);(repeat (first|simp only [↓QA,QB,Nat.reduceLT,reduceIte,Nat.reduceEqDiff,Nat.reduceAdd,Nat.reduceLeDiff,Nat.reduceMul,Nat.reduceBEq]|refine rd0 rfl ?_)))
     cases h2:inR (dZ s k) 97 122
     all_goals
      (repeat (first|simp only [↓QA,QB,Nat.reduceLT,reduceIte,Nat.reduceEqDiff,Nat.reduceAdd,Nat.reduceLeDiff,Nat.reduceMul,Nat.reduceBEq,hk1,hw,hf]|refine rd0 rfl ?_))
      refine ⟨k+1,by omega,by omega,?_⟩
      try simp only [aD,QE,Nat.reduceLT,reduceIte,Nat.reduceEqDiff,Nat.reduceAdd,Nat.reduceLeDiff,Nat.reduceMul,Nat.reduceBEq,cR hk1 hs,←fin false (by simp [h0']),hf,h2]
      try simp
   ·have h0':decide (0<k)=true:=by simpa using h0
    (repeat (first|simp only [↓QA,QB,Nat.reduceLT,reduceIte,Nat.reduceEqDiff,Nat.reduceAdd,Nat.reduceLeDiff,Nat.reduceMul,Nat.reduceBEq,hk1,hw]|refine rd0 rfl ?_))
    cases h1:(dZ s k==46)
    ·(repeat (first|simp only [↓QA,QB,Nat.reduceLT,reduceIte,Nat.reduceEqDiff,Nat.reduceAdd,Nat.reduceLeDiff,Nat.reduceMul,Nat.reduceBEq,hk1,hw]|refine rd0 rfl ?_))
     ((first|refine aF (eV _ _ _) rfl dd ?_|refine aG (eV _ _ _) rfl dd ?_);(repeat (first|simp only [↓QA,QB,Nat.reduceLT,reduceIte,Nat.reduceEqDiff,Nat.reduceAdd,Nat.reduceLeDiff,Nat.reduceMul,Nat.reduceBEq]|refine rd0 rfl ?_)))
     cases hf:(inR s.size 1 16&&fX s k)
     ·(repeat (first|simp only [↓QA,QB,Nat.reduceLT,reduceIte,Nat.reduceEqDiff,Nat.reduceAdd,Nat.reduceLeDiff,Nat.reduceMul,Nat.reduceBEq,hk1,hw,hf]|refine rd0 rfl ?_))
      refine ⟨k+1,by omega,by omega,?_⟩
      try simp only [aD,QE,Nat.reduceLT,reduceIte,Nat.reduceEqDiff,Nat.reduceAdd,Nat.reduceLeDiff,Nat.reduceMul,Nat.reduceBEq,cR hk1 hs,←fin _ rfl,hf]
      try simp
     ·(repeat (first|simp only [↓QA,QB,Nat.reduceLT,reduceIte,Nat.reduceEqDiff,Nat.reduceAdd,Nat.reduceLeDiff,Nat.reduceMul,Nat.reduceBEq,hk1,hw,hf]|refine rd0 rfl ?_))
      ((first|refine aF (eV _ _ _) rfl dd ?_|refine aG (eV _ _ _) rfl dd ?_);(repeat (first|simp only [↓QA,QB,Nat.reduceLT,reduceIte,Nat.reduceEqDiff,Nat.reduceAdd,Nat.reduceLeDiff,Nat.reduceMul,Nat.reduceBEq]|refine rd0 rfl ?_)))
      cases h2:inR (dZ s k) 97 122
      all_goals
       (repeat (first|simp only [↓QA,QB,Nat.reduceLT,reduceIte,Nat.reduceEqDiff,Nat.reduceAdd,Nat.reduceLeDiff,Nat.reduceMul,Nat.reduceBEq,hk1,hw,hf]|refine rd0 rfl ?_))
       refine ⟨k+1,by omega,by omega,?_⟩
       try simp only [aD,QE,Nat.reduceLT,reduceIte,Nat.reduceEqDiff,Nat.reduceAdd,Nat.reduceLeDiff,Nat.reduceMul,Nat.reduceBEq,cR hk1 hs,←fin _ rfl,hf,h2,h0',h1]
       try simp
    ·(repeat (first|simp only [↓QA,QB,Nat.reduceLT,reduceIte,Nat.reduceEqDiff,Nat.reduceAdd,Nat.reduceLeDiff,Nat.reduceMul,Nat.reduceBEq,hk1,hw]|refine rd0 rfl ?_))
     cases hf:(inR s.size 1 16&&fX s k)
     ·(repeat (first|simp only [↓QA,QB,Nat.reduceLT,reduceIte,Nat.reduceEqDiff,Nat.reduceAdd,Nat.reduceLeDiff,Nat.reduceMul,Nat.reduceBEq,hk1,hw,hf]|refine rd0 rfl ?_))
      refine ⟨k+1,by omega,by omega,?_⟩
      try simp only [aD,QE,Nat.reduceLT,reduceIte,Nat.reduceEqDiff,Nat.reduceAdd,Nat.reduceLeDiff,Nat.reduceMul,Nat.reduceBEq,cR hk1 hs,←fin _ rfl,hf]
      try simp
     ·(repeat (first|simp only [↓QA,QB,Nat.reduceLT,reduceIte,Nat.reduceEqDiff,Nat.reduceAdd,Nat.reduceLeDiff,Nat.reduceMul,Nat.reduceBEq,hk1,hw,hf]|refine rd0 rfl ?_))
      ((first|refine aF (eV _ _ _) rfl dd ?_|refine aG (eV _ _ _) rfl dd ?_);(repeat (first|simp only [↓QA,QB,Nat.reduceLT,reduceIte,Nat.reduceEqDiff,Nat.reduceAdd,Nat.reduceLeDiff,Nat.reduceMul,Nat.reduceBEq]|refine rd0 rfl ?_)))
      cases h2:inR (dZ s k) 97 122
      all_goals
       (repeat (first|simp only [↓QA,QB,Nat.reduceLT,reduceIte,Nat.reduceEqDiff,Nat.reduceAdd,Nat.reduceLeDiff,Nat.reduceMul,Nat.reduceBEq,hk1,hw,hf]|refine rd0 rfl ?_))
       refine ⟨k+1,by omega,by omega,?_⟩
       try simp only [aD,QE,Nat.reduceLT,reduceIte,Nat.reduceEqDiff,Nat.reduceAdd,Nat.reduceLeDiff,Nat.reduceMul,Nat.reduceBEq,cR hk1 hs,←fin _ rfl,hf,h2,h0',h1]
       try simp
  ·have hk1:k=s.size:=by simp at h;omega
   (repeat (first|simp only [↓QA,QB,Nat.reduceLT,reduceIte,Nat.reduceEqDiff,Nat.reduceAdd,Nat.reduceLeDiff,Nat.reduceMul,Nat.reduceBEq]|refine rd0 rfl ?_))
   simp [nF,hk1]
def fresh (s:ByteArray) (before:List ByteArray):Int:=if nF s=false then 6 else if iO s before=before.length then 0 else 5
theorem OP (s:ByteArray) (l:List ByteArray) (hs:s.size<9223372036854775808) (hl:l.length<9223372036854775808):d6 T 75 [.str s,GQ l] (.int .i64 (fresh s l)):=by
 refine aZ (af:=a75) rfl (by simp [a75]) dd ?_
 (repeat (first|simp only [↓QA,QB,Nat.reduceLT,reduceIte,Nat.reduceEqDiff,Nat.reduceAdd,Nat.reduceLeDiff,Nat.reduceMul,Nat.reduceBEq,a75]|refine rd0 rfl ?_))
 ((first|refine aF (D1 l s hl) rfl dd ?_|refine aG (D1 l s hl) rfl dd ?_);(repeat (first|simp only [↓QA,QB,Nat.reduceLT,reduceIte,Nat.reduceEqDiff,Nat.reduceAdd,Nat.reduceLeDiff,Nat.reduceMul,Nat.reduceBEq]|refine rd0 rfl ?_)))
 refine aI (fun h=>?_) fun h=>?_
 ·have hin:iO s l≠l.length:=by
   intro e
   simp [zG,e] at h
  (repeat (first|simp only [↓QA,QB,Nat.reduceLT,reduceIte,Nat.reduceEqDiff,Nat.reduceAdd,Nat.reduceLeDiff,Nat.reduceMul,Nat.reduceBEq]|refine rd0 rfl ?_))
  ((first|refine aF (wX s hs) rfl dd ?_|refine aG (wX s hs) rfl dd ?_);(repeat (first|simp only [↓QA,QB,Nat.reduceLT,reduceIte,Nat.reduceEqDiff,Nat.reduceAdd,Nat.reduceLeDiff,Nat.reduceMul,Nat.reduceBEq]|refine rd0 rfl ?_)))
  cases hn:nF s
  all_goals
   (repeat (first|simp only [↓QA,QB,Nat.reduceLT,reduceIte,Nat.reduceEqDiff,Nat.reduceAdd,Nat.reduceLeDiff,Nat.reduceMul,Nat.reduceBEq]|refine rd0 rfl ?_))
   simp [fresh,hn,hin]
 ·have hin:iO s l=l.length:=by
   simp only [zG] at h
   split at h
   ·assumption
   ·simp at h
  (repeat (first|simp only [↓QA,QB,Nat.reduceLT,reduceIte,Nat.reduceEqDiff,Nat.reduceAdd,Nat.reduceLeDiff,Nat.reduceMul,Nat.reduceBEq]|refine rd0 rfl ?_))
  ((first|refine aF (wX s hs) rfl dd ?_|refine aG (wX s hs) rfl dd ?_);(repeat (first|simp only [↓QA,QB,Nat.reduceLT,reduceIte,Nat.reduceEqDiff,Nat.reduceAdd,Nat.reduceLeDiff,Nat.reduceMul,Nat.reduceBEq]|refine rd0 rfl ?_)))
  cases hn:nF s
  all_goals
   (repeat (first|simp only [↓QA,QB,Nat.reduceLT,reduceIte,Nat.reduceEqDiff,Nat.reduceAdd,Nat.reduceLeDiff,Nat.reduceMul,Nat.reduceBEq]|refine rd0 rfl ?_))
   simp [fresh,hn,hin]
def aO (a:Int):Nat→List Int
 |0=>[]
 |n+1=>a::aO (a+1) n
theorem mZ:∀ n a,(aO a n).length=n
 |0,_=>rfl
 |n+1,a=>by simp [aO,mZ n]
theorem bU:∀ n a x,x∈aO a n↔a≤x∧x<a+n
 |0,a,x=>by simp [aO]
 |n+1,a,x=>by simp [aO,bU n];omega
def yJ (i:Nat) (c:List Int):Int:=if 0<i then (c[i-1]?).getD 0+1 else 0
def JO (below i:Nat) (c:List Int):List (List Int):=(aO (yJ i c) ((below:Int)-yJ i c).toNat).map fun n=>c++[n]
def dJ (below:Nat):Nat→List (List Int)
 |0=>[[]]
 |i+1=>(dJ below i).flatMap (JO below i)
theorem lB (below:Nat):∀ i c,c∈dJ below i→c.length=i∧∀ x∈c,0≤x∧x<below
 |0,c,h=>by simp [dJ] at h;subst h;simp
 |i+1,c,h=>by
  simp only [dJ,List.mem_flatMap] at h
  obtain ⟨d,h1,h2⟩:=h
  obtain ⟨q1,q2⟩:=lB below i d h1
  simp only [JO,List.mem_map,bU] at h2
  obtain ⟨n,h3,rfl⟩:=h2
  refine ⟨by simp [q1],fun x hx=>?_⟩
  rcases List.mem_append.1 hx with hx|hx
  ·exact q2 x hx
  ·simp at hx
   subst hx
   have:0≤yJ i d:=by
    unfold yJ
    split
    ·rename_i hi
     have hlt:i-1<d.length:=by omega
     have:=q2 d[i-1] (List.getElem_mem hlt)
     simp [hlt]
     omega
    ·omega
   omega
theorem IV {α β:Type} (f:α→List β) (b:Nat):∀ l:List α,(∀ x∈l,(f x).length≤b)→(l.flatMap f).length≤l.length*b
 |[],_=>by simp
 |x::l,h=>by
  have h1:=h x (by simp)
  have h2:=IV f b l fun y hy=>h y (List.mem_cons_of_mem _ hy)
  simp only [List.flatMap_cons,List.length_append,List.length_cons,Nat.add_mul]
  omega
theorem m8 (l:List (List Int)):aM 1 (l.map ints)=true:=vQ 1 ints l fun x=>V5 _ _ _
theorem tV (l:List Int):aM 1 (l.map (.int .i64))=true:=vQ 1 _ l fun x=>IL _ _
theorem oW {a:Int} {below:Nat} (h:a<below):aO a ((below:Int)-a).toNat=a::aO (a+1) ((below:Int)-(a+1)).toNat:=by
 rw [show ((below:Int)-a).toNat=((below:Int)-(a+1)).toNat+1 by omega];rfl
theorem n8 {a:Int} {below:Nat} (h:¬a<below):aO a ((below:Int)-a).toNat=[]:=by
 rw [show ((below:Int)-a).toNat=0 by omega];rfl
theorem sR:∀ {a b c:List Int},less a b=true→less b c=true→less a c=true
 |a,b,[],h1,h2=>by cases b<;>simp [less] at h2
 |a,[],c::cs,h1,h2=>by cases a<;>simp [less] at h1
 |[],b::bs,c::cs,h1,h2=>by simp [less]
 |a::az,b::bs,c::cs,h1,h2=>by
  simp only [less] at *
  by_cases hab:a=b
  ·subst hab
   by_cases hac:a=c
   ·subst hac
    simp only [if_true] at *
    exact sR h1 h2
   ·simp only [hac,if_false,if_true] at *
    exact h2
  ·by_cases hbc:b=c
   ·subst hbc
    simp only [hab,if_false,if_true,decide_eq_true_eq] at *
    exact h1
   ·simp only [hab,hbc,if_false,decide_eq_true_eq] at *
    rw [if_neg (by omega)]
    simp;omega
theorem vR (a:List Int):fM a a=false:=by simp [fM,lS]
theorem wH {a b c:List Int} (h1:fM a b=true) (h2:fM b c=true):fM a c=true:=by
 simp only [fM] at *
 by_cases e1:a.length=b.length<;>by_cases e2:b.length=c.length
 ·simp only [e1,e2,if_true] at *;exact sR h1 h2
 ·simp only [e1,e2,if_true,if_false,decide_eq_true_eq] at *;exact h2
 ·rw [if_neg e1] at h1;rw [if_neg (by omega)];simp at h1 ⊢;omega
 ·simp only [e1,e2,if_false,decide_eq_true_eq] at *
  rw [if_neg (by omega)];simp;omega
theorem AN {a b:List Int} (h1:fM a b=false) (h2:fM b a=false):a=b:=by
 simp only [fM] at *
 by_cases e1:a.length=b.length
 ·simp only [e1,if_true] at *
  exact yN a b h1 h2
 ·rw [if_neg e1] at h1;rw [if_neg (Ne.symm e1)] at h2
  simp at h1 h2;omega
theorem CG {a b c:List Int} (h1:fM b a=false) (h2:fM c b=false):fM c a=false:=by
 rw [Bool.eq_false_iff]
 intro h
 by_cases hab:fM a b=true
 ·rw [wH h hab] at h2;cases h2
 ·have:=AN (by simpa using hab) h1
  subst this
  rw [h] at h2;cases h2
def lst (n s:Nat):List Int:=(aO 0 n).filter fun i=>decide (s/2^i.toNat%2=1)
theorem ZQ:∀ n:Fin 7,∀ s:Fin 64,s.val<2^n.val→lst n s∈dJ n (lst n s).length:=by decide +kernel
theorem PP:∀ n m:Fin 7,∀ c∈dJ n m,∃ s:Fin 64,s.val<2^n.val∧lst n s=c:=by decide +kernel
theorem xF:∀ n m:Fin 7,(dJ n m).Pairwise fun a b=>less a b=true:=by decide +kernel
theorem E9:∀ n:Fin 7,(dJ n n).length=1:=by decide +kernel
theorem IT (n s:Nat):(lst n s).length≤n:=by
 have:=List.length_filter_le (fun i:Int=>decide (s/2^i.toNat%2=1)) (aO 0 n)
 rw [mZ] at this
 exact this
def dN (f:List Int→Bool) (n:Nat):Nat→Nat→Option (List Int)
 |0,_=>none
 |k+1,m=>match (dJ n m).find? f with
  |some l=>some l
  |none=>dN f n k (m+1)
theorem C3:∀ n:Fin 7,∀ c∈dJ n n,∀ j:Fin 7,j.val<n.val→c.contains ((j.val:Nat):Int)=true:=by decide +kernel
def hJ (f:List Int→Bool) (o:Option (List Int)) (l:List Int):Option (List Int):=match o with
 |none=>if f l=true then some l else none
 |some b=>if fM b l=true then some b else if f l=true then some l else some b
def k9 (f:List Int→Bool) (n:Nat):Nat→Nat→Option (List Int)→Option (List Int)
 |0,_,o=>o
 |k+1,s,o=>k9 f n k (s+1) (hJ f o (lst n s))
theorem uS (f:List Int→Bool) (n:Nat):∀ k s o,(∀ w,o=some w→f w=true∧∃ t,t<s∧w=lst n t∧∀ t',t'<s→f (lst n t')=true→fM (lst n t') w=false)→(o=none→∀ t,t<s→f (lst n t)=false) →
  (∀ w,k9 f n k s o=some w→f w=true∧∃ t,t<s+k∧w=lst n t∧∀ t',t'<s+k→f (lst n t')=true→fM (lst n t') w=false)∧(k9 f n k s o=none→∀ t,t<s+k→f (lst n t)=false)
 |0,s,o,h1,h2=>⟨h1,h2⟩
 |k+1,s,o,h1,h2=>by
  have ih:=uS f n k (s+1) (hJ f o (lst n s))
  rw [show s+1+k=s+(k+1) by omega] at ih
  simp only [k9]
  have last:∀ (w:List Int) t',t'<s+1→(∀ t'',t''<s→f (lst n t'')=true→fM (lst n t'') w=false)→(f (lst n s)=true→fM (lst n s) w=false)→f (lst n t')=true→fM (lst n t') w=false:=by
   intro w t' ht h3 h4 hs
   by_cases he:t'=s
   ·subst he;exact h4 hs
   ·exact h3 t' (by omega) hs
  refine ih (fun w hw=>?_) fun hn t ht=>?_
  ·cases o with
   |none =>
    simp only [hJ] at hw
    split at hw
    ·rename_i hs
     simp only [Option.some.injEq] at hw
     subst hw
     refine ⟨hs,s,by omega,rfl,fun t' ht hst=>last _ t' ht (fun t'' h4 h5=>by rw [h2 rfl t'' h4] at h5;cases h5) (fun _=>vR _) hst⟩
    ·cases hw
   |some b =>
    obtain ⟨q1,t,q2,q3,q4⟩:=h1 b rfl
    simp only [hJ] at hw
    split at hw
    ·rename_i hf
     simp only [Option.some.injEq] at hw
     subst hw
     refine ⟨q1,t,by omega,q3,fun t' ht hst=>last _ t' ht q4 (fun _=>?_) hst⟩
     rw [Bool.eq_false_iff]
     intro h5
     have:=wH hf h5
     rw [vR] at this;cases this
    ·rename_i hf
     split at hw
     ·rename_i hs
      simp only [Option.some.injEq] at hw
      subst hw
      refine ⟨hs,s,by omega,rfl,fun t' ht hst=>last _ t' ht (fun t'' h4 h5=>?_) (fun _=>vR _) hst⟩
      exact CG (by simpa using hf) (q4 t'' h4 h5)
     ·rename_i hs
      simp only [Option.some.injEq] at hw
      subst hw
      exact ⟨q1,t,by omega,q3,fun t' ht hst=>last _ t' ht q4 (fun h5=>absurd h5 hs) hst⟩
  ·cases o with
   |none =>
    simp only [hJ] at hn
    split at hn
    ·cases hn
    ·rename_i hs
     by_cases he:t=s
     ·subst he;simpa using hs
     ·exact h2 rfl t (by omega)
   |some b =>
    simp only [hJ] at hn
    split at hn
    ·cases hn
    ·split at hn<;>cases hn
theorem sP:∀ {n i:Nat} {c:List Int},c∈dJ n i→i≤n:=by
 intro n i
 cases i with
 |zero=>intros;omega
 |succ i =>
  intro c hc
  simp only [dJ,List.mem_flatMap,JO,List.mem_map,bU] at hc
  obtain ⟨d,hd,x,hx,rfl⟩:=hc
  have key:∀ j (d:List Int),d∈dJ n j→(j:Int)≤yJ j d:=by
   intro j
   induction j with
   |zero=>intro d _;simp [yJ]
   |succ j ih =>
    intro d hd
    simp only [dJ,List.mem_flatMap,JO,List.mem_map,bU] at hd
    obtain ⟨d',hd',y,hy,rfl⟩:=hd
    have h5:=ih d' hd'
    have h6:=(lB n j d' hd').1
    simp only [yJ,Nat.succ_pos,if_true,Nat.add_sub_cancel]
    rw [List.getElem?_append_right (by omega),h6,Nat.sub_self]
    simp only [List.getElem?_cons_zero,Option.getD_some]
    omega
  have:=key i d hd
  omega
theorem qU (f:List Int→Bool) (n:Nat) (hN:n≤6):∀ k m,(∀ m',m'<m→∀ c∈dJ n m',f c=false) →
  (∀ l,dN f n k m=some l→l∈dJ n l.length∧f l=true∧∀ m',∀ c∈dJ n m',f c=true→fM c l=false)∧(dN f n k m=none→∀ m',m'<m+k→∀ c∈dJ n m',f c=false)
 |0,m,hlow=>⟨fun l h=>by simp [dN] at h,fun _ m' h c hc=>hlow m' (by omega) c hc⟩
 |k+1,m,hlow=>by
  simp only [dN]
  cases hf:(dJ n m).find? f with
  |none =>
   simp only
   have ih:=qU f n hN k (m+1) fun m' hm' c hc=>by
    by_cases he:m'=m
    ·subst he
     rw [List.find?_eq_none] at hf
     simpa using hf c hc
    ·exact hlow m' (by omega) c hc
   exact ⟨ih.1,fun h m' hm'=>ih.2 h m' (by omega)⟩
  |some l =>
   simp only
   refine ⟨fun l' h=>?_,fun h=>by cases h⟩
   cases h
   have hmem:=List.mem_of_find?_eq_some hf
   have hs:=List.find?_some hf
   have hlen:=(lB _ _ _ hmem).1
   rw [hlen]
   refine ⟨hmem,hs,fun m' c hc hsc=>?_⟩
   have hcl:=(lB _ _ _ hc).1
   by_cases h1:m'<m
   ·rw [hlow m' h1 c hc] at hsc;cases hsc
   ·by_cases he:m'=m
    ·subst he
     rw [Bool.eq_false_iff]
     intro hlt
     simp only [fM,hcl,hlen,if_true] at hlt
     obtain ⟨pre,post,e1,e2⟩:=(List.find?_eq_some_iff_append.1 hf).2
     have hmn:=sP hmem
     have hpw:=xF ⟨n,by omega⟩ ⟨m',by omega⟩
     simp only at hpw
     rw [e1] at hc hpw
     rcases List.mem_append.1 hc with hc|hc
     ·have:=e2 c hc
      rw [hsc] at this;cases this
     ·rcases List.mem_cons.1 hc with rfl|hc
      ·rw [lS] at hlt;cases hlt
      ·have:=(List.pairwise_append.1 hpw).2.1
       have:=(List.pairwise_cons.1 this).1 c hc
       have h3:=sR hlt this
       rw [lS] at h3;cases h3
    ·simp only [fM];rw [if_neg (by omega)];simp;omega
theorem ZE (f:List Int→Bool) (n:Nat) (hN:n≤6):k9 f n (2^n) 0 none=dN f n (n+1) 0:=by
 have hp:2^n≤2^6:=Nat.pow_le_pow_right (by omega) hN
 obtain ⟨w1,w2⟩:=qU f n hN (n+1) 0 (fun m' h=>by omega)
 obtain ⟨s1,s2⟩:=uS f n (2^n) 0 none (fun w h=>by cases h) (fun _ t h=>by omega)
 rw [Nat.zero_add] at s1 s2
 cases hf:k9 f n (2^n) 0 none with
 |none =>
  cases hg:dN f n (n+1) 0 with
  |none=>rfl
  |some l =>
   obtain ⟨a,b,c⟩:=w1 l hg
   have hle:=sP a
   obtain ⟨t,ht,hlt⟩:=PP ⟨n,by omega⟩ ⟨l.length,by omega⟩ l a
   have:=s2 hf t.val ht
   rw [show lst n t.val=l from hlt,b] at this;cases this
 |some w =>
  obtain ⟨q1,t',q2,q3,q4⟩:=s1 w hf
  have hin:=ZQ ⟨n,by omega⟩ ⟨t',by omega⟩ q2
  simp only at hin
  rw [←q3] at hin
  have hle:w.length≤n:=by rw [q3];exact IT _ _
  cases hg:dN f n (n+1) 0 with
  |none =>
   have:=w2 hg w.length (by omega) w hin
   rw [q1] at this;cases this
  |some l =>
   obtain ⟨a,b,c⟩:=w1 l hg
   have hll:=sP a
   obtain ⟨t,ht,hlt⟩:=PP ⟨n,by omega⟩ ⟨l.length,by omega⟩ l a
   have a1:=q4 t.val ht (by rw [show lst n t.val=l from hlt];exact b)
   rw [show lst n t.val=l from hlt] at a1
   have a2:=c w.length w hin q1
   rw [AN a1 a2]
open Go
variable {P:Program}
def lY (P:Program) (t:TypeId) (ts:List TypeId):Prop:=∃ fs,P.underlying t=some (.struct fs)∧fs.toList.map Field.type=ts
theorem yO {n:Nat} {t:TypeId} {ts:List TypeId} {cs:List AV} (hu:lY P t ts) (h:Typ P (n+1) t cs):mkV P t cs = .agg cs∧I1 P n ts cs:=by
 obtain ⟨fs,h1,h2⟩:=hu
 have:=HE h1 h
 rw [h2] at this
 exact ⟨GN h1,this⟩
theorem CP {t:TypeId} {a:AV} {d:TypeDesc} (hu:P.underlying t=some d) (hd:∀ fs,d≠.struct fs:=by intro fs h;cases h) (hd2:∀ k e,d≠.array k e:=by intro k e h;cases h):mkV P t [a]=a:=Q3 (by rw [hu];intro fs e;cases e;exact hd _ rfl) (by rw [hu];intro k e h;cases h;exact hd2 _ _ rfl)
theorem UF {n:Nat} {i t:TypeId} {cs:List AV} (hi:P.underlying i=some (.int .i64)) (hs:lY P t [i,i]) (h:Typ P (n+2) t cs):∃ s:Span,cs=[.int .i64 s.lo,.int .i64 s.hi]:=by
 obtain ⟨_,a,b,rfl,h1,c,d,rfl,h2,rfl⟩:=yO hs h
 obtain ⟨x,rfl,_⟩:=hH hi h1
 obtain ⟨y,rfl,_⟩:=hH hi h2
 exact ⟨⟨x,y⟩,rfl⟩
theorem XQ {n:Nat} {t:TypeId} {cs:List AV} (hi:P.underlying t=some (.int .i64)) (h:Typ P (n+1) t cs):∃ x:Int,mkV P t cs = .int .i64 x∧True:=by
 obtain ⟨x,rfl,_⟩:=hH hi h
 exact ⟨x,CP hi,trivial⟩
theorem VN {n:Nat} {t:TypeId} {cs:List AV} (hi:P.underlying t=some (.int .u8)) (h:Typ P (n+1) t cs):∃ x:Int,mkV P t cs = .int .u8 x∧(0≤x∧x<256):=by
 obtain ⟨x,rfl,hw⟩:=hH hi h
 exact ⟨x,CP hi,aCY hw⟩
theorem T8 {n:Nat} {t i:TypeId} {cs:List AV} (hi:P.underlying i=some (.int .i64)) (hs:P.underlying t=some (.slice i)) (h:Typ P (n+2) t cs):∃ l:List Int,mkV P t cs=Go.Am.ints l∧cs=[Go.Am.ints l]∧l.length<9223372036854775808:=by
 obtain ⟨l,rfl,⟨h1,_⟩,_⟩:=nU (f:=fun x:Int=>AV.int .i64 x) hs h fun y hy=>XQ hi hy
 exact ⟨l,CP hs,rfl,h1⟩
theorem XX {n:Nat} {t i:TypeId} {cs:List AV} (hi:P.underlying i=some (.int .u8)) (hs:P.underlying t=some (.slice i)) (h:Typ P (n+2) t cs):∃ l:List Int,mkV P t cs = .lit (l.map (.int .u8)) false none∧(∀ x∈l,0≤x∧x<256)∧l.length<9223372036854775808:=by
 obtain ⟨l,rfl,⟨h1,_⟩,h2⟩:=nU (f:=fun x:Int=>AV.int .u8 x) hs h fun y hy=>VN hi hy
 exact ⟨l,CP hs,h2,h1⟩
end Go.Am.Room
namespace Go.Am.Room
def aS {α:Type} (f:Nat→α→Int):List α→Nat→Option (Nat×Int)
 |[],_=>none
 |x::xs,i=>if f i x=0 then aS f xs (i+1) else some (i,f i x)
theorem gL {α:Type} {f:Nat→α→Int} {l:List α} {k:Nat} (h:k<l.length):aS f (l.drop k) k=if f k l[k]=0 then aS f (l.drop (k+1)) (k+1) else some (k,f k l[k]):=by
 rw [List.drop_eq_getElem_cons h];rfl
theorem g9 {α:Type} {f:Nat→α→Int} {l:List α} {k:Nat} (h:k=l.length):aS f (l.drop k) k=none:=by
 rw [h,List.drop_length];rfl
def fL:List Int→Span
 |[]=>⟨0,0⟩
 |x::xs=>xs.foldl j6 ⟨x,x⟩
def eA (yes all:Nat):Int:=if yes=all then 1 else if yes=0 then 2 else 0
theorem cW {n lo hi:Int}:inR n lo hi=true↔lo≤n∧n≤hi:=by simp [inR]
theorem BT {s:Span} {lo hi:Int} (h:mN s lo hi=0):lo≤s.lo∧s.lo≤s.hi∧s.hi≤hi:=by
 unfold mN at h
 split at h
 ·omega
 ·rename_i h1
  split at h
  ·omega
  ·simp [inR] at h1;omega
theorem R0 {s:Span} {lo hi:Int} (h:lo≤s.lo∧s.lo≤s.hi∧s.hi≤hi):mN s lo hi=0:=by
 unfold mN
 rw [cW.2 ⟨h.1,by omega⟩,cW.2 ⟨by omega,h.2.2⟩]
 simp
 omega
theorem jQ {α:Type} {f:Nat→α→Int}:∀ {l:List α} {i:Nat},aS f l i=none→∀ k (h:k<l.length),f (i+k) l[k]=0
 |[],_,_,k,h=>by simp at h
 |x::xs,i,h,k,hk=>by
  simp only [aS] at h
  split at h
  ·rename_i h0
   cases k with
   |zero=>exact h0
   |succ k =>
    have:=jQ h k (by simpa using hk)
    simpa [Nat.add_assoc,Nat.add_comm 1 k] using this
  ·cases h
theorem pD {α:Type} {f:Nat→α→Int}:∀ {l:List α} {i:Nat},(∀ x∈l,∀ k,f k x=0)→aS f l i=none
 |[],_,_=>rfl
 |x::xs,i,h=>by
  simp only [aS]
  rw [if_pos (h x (by simp) i)]
  exact pD fun y hy=>h y (by simp [hy])
theorem gX {α:Type} {f:Nat→α→Int}:∀ {l:List α} {i j:Nat} {e:Int},aS f l i=some (j,e)→e≠0
 |[],_,_,_,h=>by cases h
 |x::xs,i,j,e,h=>by
  simp only [aS] at h
  split at h
  ·exact gX h
  ·rename_i hn
   simp at h
   rw [←h.2]
   exact hn
theorem tL {α:Type} {f:Nat→α→Int}:∀ {l:List α} {i:Nat},(∀ k (h:k<l.length),f (i+k) l[k]=0)→aS f l i=none
 |[],_,_=>rfl
 |x::xs,i,h=>by
  simp only [aS]
  rw [if_pos (show f i x=0 from h 0 (by simp))]
  exact tL fun k hk=>by have:=h (k+1) (by simpa using hk);simpa [Nat.add_assoc,Nat.add_comm 1 k] using this
theorem tR:∀ (n:Nat) (a:Int),aO a (n+1)=aO a n++[a+n]
 |0,a=>by simp [aO]
 |n+1,a=>by
  rw [aO,tR n (a+1)]
  simp only [aO,List.cons_append]
  congr 3
  omega
structure Rail where
 a:Int
 b:Int
 mins:Span
 shut:Int
structure Tram where
 name:ByteArray
 frm:Int
 leaves:Int
 due:Int
 path:List Int
structure Seen where
 tram:Int
 minute:Int
structure Net where
 stations:Int
 rails:List Rail
 trams:List Tram
 seen:List Seen
def dD (r:Rail):AV:=.agg [.int .i64 r.a,.int .i64 r.b,.int .i64 r.mins.lo,.int .i64 r.mins.hi,.int .i64 r.shut]
theorem aU (r:Rail):dD r = .agg [.int .i64 r.a,.int .i64 r.b,.int .i64 r.mins.lo,.int .i64 r.mins.hi,.int .i64 r.shut]:=by simp only [dD]
theorem qZ (r:Rail):kU (dD r):=i7 (bA (cN _ _) (bA (cN _ _) (bA (cN _ _) (bA (cN _ _) (bA (cN _ _) eQ)))))
instance (r:Rail):Dat (dD r):=⟨qZ r⟩
instance (l:List Rail):Dats (l.map dD):=⟨dB qZ l⟩
theorem a9 (σ:St) (m d:Nat) (l:List Rail):cM σ m d (l.map dD)=some (l.map dD):=lH (dB qZ l) σ m d
def cE (t:Tram):AV:=.agg [.str t.name,.int .i64 t.frm,.int .i64 t.leaves,.int .i64 t.due,ints t.path]
theorem aV (t:Tram):cE t = .agg [.str t.name,.int .i64 t.frm,.int .i64 t.leaves,.int .i64 t.due,ints t.path]:=by simp only [cE]
theorem rU (t:Tram):kU (cE t):=i7 (bA (tD _) (bA (cN _ _) (bA (cN _ _) (bA (cN _ _) (bA (jZ _) eQ)))))
instance (t:Tram):Dat (cE t):=⟨rU t⟩
instance (l:List Tram):Dats (l.map cE):=⟨dB rU l⟩
theorem aY (σ:St) (m d:Nat) (l:List Tram):cM σ m d (l.map cE)=some (l.map cE):=lH (dB rU l) σ m d
def dQ (x:Seen):AV:=.agg [.int .i64 x.tram,.int .i64 x.minute]
theorem aT (x:Seen):dQ x = .agg [.int .i64 x.tram,.int .i64 x.minute]:=by simp only [dQ]
theorem rL (x:Seen):kU (dQ x):=i7 (bA (cN _ _) (bA (cN _ _) eQ))
instance (x:Seen):Dat (dQ x):=⟨rL x⟩
instance (l:List Seen):Dats (l.map dQ):=⟨dB rL l⟩
theorem aW (σ:St) (m d:Nat) (l:List Seen):cM σ m d (l.map dQ)=some (l.map dQ):=lH (dB rL l) σ m d
def aB (v:Net):List AV:=[.int .i64 v.stations,.lit (v.rails.map dD) false none,.lit (v.trams.map cE) false none,.lit (v.seen.map dQ) false none]
theorem aK (v:Net):aB v=[.int .i64 v.stations,.lit (v.rails.map dD) false none,.lit (v.trams.map cE) false none,.lit (v.seen.map dQ) false none]:=by simp only [aB]
def dK (v:Net):AV:=.agg (aB v)
theorem bD (v:Net):dK v = .agg (aB v):=by simp only [dK]
theorem OL (v:Net):kU (dK v):=i7 (bA (cN _ _) (bA (j7 qZ _) (bA (j7 rU _) (bA (j7 rL _) eQ))))
instance (v:Net):Dat (dK v):=⟨OL v⟩
structure Fits (v:Net):Prop where
 rails:v.rails.length<9223372036854775808
 trams:v.trams.length<9223372036854775808
 seen:v.seen.length<9223372036854775808
 names:∀ t∈v.trams,t.name.size<9223372036854775808
 paths:∀ t∈v.trams,t.path.length<9223372036854775808
def kS (v:Net) (s:Int):Bool:=inR s 0 (v.stations-1)
def bX (v:Net) (r:Rail):Int :=
 if kS v r.a=false∨kS v r.b=false then 4 else if r.a=r.b then 2
 else if mN r.mins 1 20=7∨inR r.shut 0 2=false then 7 else if mN r.mins 1 20≠0∨r.mins.lo+1<r.mins.hi then 2 else 0
def cA (r:Rail) (s:Int):Int:=if s=r.a then r.b else if s=r.b then r.a else -1
def cB (v:Net) (r:Int):Rail:=(v.rails[r.toNat]?).getD ⟨0,0,⟨0,0⟩,0⟩
def iM (v:Net):List Int→Int→List Int→Bool
 |[],s,_=>s==0
 |r::l,s,met =>
  if cA (cB v r) s<0∨met.contains (cA (cB v r) s)=true∨(cA (cB v r) s=0∧l≠[]) then false
  else iM v l (cA (cB v r) s) (met++[cA (cB v r) s])
def d7 (v:Net) (s:Int) (path:List Int):Bool:=if inR path.length 1 4=false∨s=0 then false else iM v path s [s]
def fF (v:Net) (t:Tram):Int :=
 if kS v t.frm=false then 4 else if inR t.leaves 0 60=false∨inR t.due 0 400=false then 7
 else if inR t.path.length 1 4=false then 3 else if t.path.all (fun r=>inR r 0 ((v.rails.length:Int)-1))=false then 4
 else if d7 v t.frm t.path=false then 2 else 0
def gQ (v:Net) (i:Nat) (t:Tram):Int:=if fresh t.name ((v.trams.take i).map Tram.name)=0 then fF v t else fresh t.name ((v.trams.take i).map Tram.name)
def gO (v:Net) (_:Nat) (x:Seen):Int:=if inR x.tram 0 ((v.trams.length:Int)-1)=false then 4 else if inR x.minute (-1) 400=false then 7 else 0
def kV (v:Net):Int×Int×Int:=if 3<v.seen.length then (4,0,3) else match aS (gO v) v.seen 0 with|some (i,e)=>(4,i,e)|none=>(0,0,0)
def kW (v:Net):Int×Int×Int:=if 3<v.trams.length then (3,0,3) else match aS (gQ v) v.trams 0 with|some (i,e)=>(3,i,e)|none=>kV v
def kR (v:Net):Int×Int×Int:=if 5<v.rails.length then (2,0,3) else match aS (fun _ r=>bX v r) v.rails 0 with|some (i,e)=>(2,i,e)|none=>kW v
def cG (v:Net):Int×Int×Int:=if inR v.stations 2 5=false then (1,0,7) else kR v
def CM (v:Net) (but l:List Int) (r:Int):Bool:=!decide ((cB v r).shut=1)&&!but.contains r&&!l.contains r
def s7 (v:Net) (but l:List Int):List (List Int):=((aO 0 v.rails.length).filter (CM v but l)).map fun r=>l++[r]
def d4 (v:Net) (but:List Int):Nat→List (List Int)
 |0=>[[]]
 |k+1=>(d4 v but k).flatMap (s7 v but)
def d5 (v:Net) (s:Int) (but:List Int):Nat→List (List Int)
 |0=>[]
 |k+1=>d5 v s but k++(d4 v but (k+1)).filter (d7 v s)
def cF (v:Net) (s:Int) (but:List Int):List (List Int):=d5 v s but 4
def jM (v:Net) (s:Int):List (List Int)×Int:=if (cG v).2.2=0 then (if kS v s=true then (cF v s [],0) else ([],4)) else ([],(cG v).2.2)
structure State where
 closed:List Bool
 mins:List Int
def yF (s:Span):List Int:=aO s.lo (s.hi+1-s.lo).toNat
def C2 (shut:Int) (c:Bool):Bool:=!(c&&decide (shut=0)||!c&&decide (shut=1))
def P3 (r:Rail) (s:State):List State:=(yF r.mins).flatMap fun m=>([false,true].filter (C2 r.shut)).map fun c=>⟨s.closed++[c],s.mins++[m]⟩
def yB (rs:List Rail):Nat→List State
 |0=>[⟨[],[]⟩]
 |k+1=>match rs[k]? with|some r=>(yB rs k).flatMap (P3 r)|none=>yB rs k
def t8 (v:Net):List State:=yB v.rails v.rails.length
def eff (s:State) (r:Int):Int:=if (s.closed[r.toNat]?).getD false=true then 0 else (s.mins[r.toNat]?).getD 0
structure Stay where
 tram:Int
 rail:Int
 frm:Int
 til:Int
def iG (rail ready m:Int) (x:Stay):Bool:=decide (x.rail=rail)&&decide (x.frm<ready+m)&&decide (ready<x.til)
def sW (ss:List Stay) (rail m:Int):Nat→Int→Int
 |0,s=>s
 |k+1,s=>if ss.any (iG rail s m)=true then sW ss rail m k (s+1) else s
def jT (ss:List Stay) (rail ready m:Int):Int:=sW ss rail m 1000 ready
def pA (m:Int→Int) (i:Int):List Int→Int→List Stay→List Stay×Int
 |[],at_,ss=>(ss,at_)
 |r::l,at_,ss=>pA m i l (jT ss r at_ (m r)+m r) (ss++[⟨i,r,jT ss r at_ (m r),jT ss r at_ (m r)+m r⟩])
def m7 (m:Int→Int) (i:Int) (leaves:Int) (path:List Int) (ss:List Stay):List Stay×Int :=
 if path.any (fun r=>m r==0)=true then (ss,-1) else pA m i path leaves ss
def mD (v:Net) (i:Nat):Int:=match v.trams[i]? with|some t=>t.leaves|none=>0
def eH (ps:List (List Int)) (i:Nat):List Int:=(ps[i]?).getD []
def fG (v:Net) (m:Int→Int) (ps:List (List Int)):Nat→List Stay×List Int
 |0=>([],[])
 |k+1=>((m7 m k (mD v k) (eH ps k) (fG v m ps k).1).1,(fG v m ps k).2++[(m7 m k (mD v k) (eH ps k) (fG v m ps k).1).2])
def iJ (v:Net) (ps:List (List Int)) (m:Int→Int):List Int:=(fG v m ps v.trams.length).2
def lR (v:Net):List (List Int):=v.trams.map Tram.path
def uO (v:Net) (s:State):List Int:=iJ v (lR v) (eff s)
def fI (cs:List Int) (t:Int):Int:=(cs[t.toNat]?).getD 0
def mL (v:Net) (but cs:List Int):Bool:=(List.range v.seen.length).all fun k=>match v.seen[k]? with|some x=>but.contains (k:Int)||fI cs x.tram==x.minute|none=>true
def bY (v:Net) (but:List Int):List State:=(t8 v).filter fun s=>mL v but (uO v s)
def zC (v:Net) (but:List Int):Bool:=!(bY v but).isEmpty
def g0 (v:Net) (e:Int):Int:=if e=0 then (if (bY v []).isEmpty then 8 else 0) else e
def fE (v:Net):Int:=g0 v (cG v).2.2
def lC (v:Net) (t:Int):Int:=g0 v (if (cG v).2.2=0 then (if inR t 0 ((v.trams.length:Int)-1) then 0 else 4) else (cG v).2.2)
def JS (v:Net) (l:List State) (t:Nat):List Int:=l.map fun s=>fI (uO v s) t
def eG (ats:List Int):List Int:=ats.filter fun c=>!decide (c = -1)
def oB (ats:List Int):Span×Int:=(fL (eG ats),eA (eG ats).length ats.length)
def qJ (v:Net) (t:Int):Span×Int×Int:=if lC v t=0 then ((oB (JS v (bY v []) t.toNat)).1,(oB (JS v (bY v []) t.toNat)).2,0) else (⟨0,0⟩,0,lC v t)
def vY (v:Net) (t:Nat):Int:=match v.trams[t]? with|some x=>x.due|none=>0
def jI (v:Net) (t:Nat) (c:Int):Bool:=!decide (c = -1)&&decide (c≤vY v t)
def B9 (v:Net) (t:Int) (s:State):Bool:=!jI v t.toNat (fI (uO v s) t)
def FO (v:Net) (l:List State) (t:Int):Bool:=l.all (B9 v t)
def CQ (v:Net) (l:List State) (t:Int):Bool:=l.any (B9 v t)
def M3 (v:Net) (l:List State):List Int:=(aO 0 v.trams.length).filter (FO v l)
def DY (v:Net) (l:List State):List Int:=(aO 0 v.trams.length).filter (CQ v l)
def vJ (v:Net):List Int×List Int×Int:=if fE v=0 then (M3 v (bY v []),DY v (bY v []),0) else ([],[],fE v)
def iL (v:Net):List Int→Int→Int
 |[],b=>b
 |t::l,b=>iL v l (if b<0∨vY v t.toNat<vY v b.toNat then t else b)
def lG (v:Net):Int×Int:=if fE v=0 then (if DY v (bY v [])=[] then (0,9) else (iL v (DY v (bY v [])) (-1),0)) else (0,fE v)
def PV (v:Net) (ps:List (List Int)) (s:State):Bool:=(List.range v.trams.length).all fun t=>jI v t (fI (iJ v ps (eff s)) t)
def QY (v:Net) (l:List State) (ps:List (List Int)):Bool:=l.all (PV v ps)
def lA (v:Net) (ps:List (List Int)):List Int:=(aO 0 ps.length).filter fun t=>!decide (eH ps t.toNat=eH (lR v) t.toNat)
def fH (v:Net) (t:Nat):Int:=match v.trams[t]? with|some x=>x.frm|none=>0
def lF (v:Net):Nat→List (List (List Int))
 |0=>[[]]
 |k+1=>(lF v k).flatMap fun p=>(cF v (fH v k) []).map fun w=>p++[w]
def t7 (v:Net):List (List (List Int)):=lF v v.trams.length
def GA (v:Net) (l:List State) (many:Nat) (p:List (List Int)):Bool:=(lA v p).length==many&&QY v l p
def tT (v:Net) (l:List State):Nat→Nat→Option (List (List Int))
 |0,_=>none
 |k+1,m=>match (t7 v).find? (GA v l m) with|some p=>some p|none=>tT v l k (m+1)
def pQ (v:Net) (l:List State):Option (List (List Int)):=tT v l (v.trams.length+1) 0
def oH (v:Net):List (List Int)×List Int×Int:=if fE v=0 then (match pQ v (bY v []) with|some p=>(p,lA v p,0)|none=>([],[],9)) else ([],[],fE v)
def uR (r:Int) (s:State):Bool:=(s.closed[r.toNat]?).getD false
def L7 (v:Net) (l:List State):List Int:=(aO 0 v.rails.length).filter fun r=>l.all (uR r)
def YK (v:Net) (l:List State):List Int:=(aO 0 v.rails.length).filter fun r=>l.any (uR r)
def uT (v:Net):List Int×List Int×Int:=if fE v=0 then (L7 v (bY v []),YK v (bY v []),0) else ([],[],fE v)
def xM (v:Net) (r:Int):Int:=(((List.range v.trams.length).filter fun t=>(cF v (fH v t) [r]).isEmpty).length:Int)
def qK (v:Net):List Int→Int×Int→Int×Int
 |[],b=>b
 |r::l,b=>qK v l (if (cB v r).shut=1 then b else if b.1<0∨b.2<xM v r then (r,xM v r) else b)
def uQ (v:Net):Int×Int:=qK v (aO 0 v.rails.length) (-1,0)
def rG (v:Net):Int×Int×Int:=if (cG v).2.2=0 then (if (uQ v).1<0 then (0,0,9) else ((uQ v).1,(uQ v).2,0)) else (0,0,(cG v).2.2)
def zE (v:Net):List Int:=(dN (zC v) v.seen.length v.seen.length 0).getD (((dJ v.seen.length v.seen.length)[0]?).getD [])
def wS (v:Net):List Int×Int:=if (cG v).2.2=0 then (zE v,0) else ([],(cG v).2.2)
def QN:ByteArray:=⟨#[114,101,100]⟩
def IA:ByteArray:=⟨#[98,108,117,101]⟩
def exN (o:Bool) (l:List Seen):Net:=⟨4,[⟨1,0,⟨5,6⟩,if o then 2 else 0⟩,⟨2,1,⟨4,4⟩,0⟩,⟨2,0,⟨12,12⟩,if o then 0 else 2⟩,⟨3,2,⟨3,3⟩,0⟩],[⟨QN,2,0,12,[1,0]⟩,⟨IA,3,0,24,[3,1,0]⟩],l⟩
def exH:Net:=exN false []
def exK:Net:=exN true []
def exS:Net:=exN true [⟨0,-1⟩,⟨1,15⟩]
def exT:Net:=exN true [⟨0,-1⟩]
theorem x1:jM exH 3=([[3,2],[3,1,0]],0):=by decide +kernel
theorem x2:qJ exH 1=(⟨14,16⟩,1,0):=by decide +kernel
theorem x3:(qJ exK 1).2=(0,0):=by decide +kernel
theorem x4:(qJ exT 0).2=(2,0):=by decide +kernel
theorem x5:vJ exK=([],[0,1],0):=by decide +kernel
theorem x6:lG exK=(0,0):=by decide +kernel
theorem x7:lG exH=(0,9):=by decide +kernel
theorem x8:oH exK=([[2],[3,2]],[0,1],0):=by decide +kernel
theorem x9:uT exH=([],[2],0):=by decide +kernel
theorem x10:rG exH=(3,1,0):=by decide +kernel
theorem x11:wS exS=([1],0):=by decide +kernel
theorem x12:lG exS=(0,8):=by decide +kernel
open Go
variable {P:Program}
structure Tys (P:Program):Prop where
 int:P.underlying 3=some (.int .i64)
 u8:P.underlying 5=some (.int .u8)
 str:P.underlying 9=some .string
 rails:P.underlying 22=some (.slice 87)
 trams:P.underlying 23=some (.slice 65)
 seens:P.underlying 24=some (.slice 53)
 net:lY P 26 [3,22,23,24]
 span:lY P 37 [3,3]
 ints:P.underlying 40=some (.slice 3)
 seen:lY P 53 [3,3]
 u16:P.underlying 56=some (.int .u16)
 tram:lY P 65 [9,3,3,3,40]
 u8s:P.underlying 74=some (.slice 5)
 rail:lY P 87 [3,3,37,3]
 a2:P.underlying 91=some (.array 2 5)
 seenB:P.bytesOf 53=16
 tramB:P.bytesOf 65=64
theorem TH {n:Nat} {cs:List AV} (T:Tys P) (h:Typ P (n+3) 87 cs):∃ s:Rail,mkV P 87 cs=dD s∧True:=by
 obtain ⟨e,a1,b1,rfl,h1,a2,b2,rfl,h2,a3,b3,rfl,h3,a4,b4,rfl,h4,rfl⟩:=yO T.rail h
 obtain ⟨x1,rfl,_⟩:=hH T.int h1
 obtain ⟨x2,rfl,_⟩:=hH T.int h2
 obtain ⟨x3,rfl⟩:=UF T.int T.span h3
 obtain ⟨x4,rfl,_⟩:=hH T.int h4
 exact ⟨⟨x1,x2,x3,x4⟩,e,trivial⟩
theorem T3 {n:Nat} {cs:List AV} (T:Tys P) (h:Typ P (n+3) 65 cs):∃ s:Tram,mkV P 65 cs=cE s∧(s.name.size<9223372036854775808∧s.path.length<9223372036854775808):=by
 obtain ⟨e,a1,b1,rfl,h1,a2,b2,rfl,h2,a3,b3,rfl,h3,a4,b4,rfl,h4,a5,b5,rfl,h5,rfl⟩:=yO T.tram h
 obtain ⟨x1,rfl,hx⟩:=R5 T.str h1
 obtain ⟨x2,rfl,_⟩:=hH T.int h2
 obtain ⟨x3,rfl,_⟩:=hH T.int h3
 obtain ⟨x4,rfl,_⟩:=hH T.int h4
 obtain ⟨x5,_,rfl,l5⟩:=T8 T.int T.ints h5
 exact ⟨⟨x1,x2,x3,x4,x5⟩,e,by simp only [maxLen] at hx;simp only;omega,l5⟩
theorem UT {n:Nat} {cs:List AV} (T:Tys P) (h:Typ P (n+2) 53 cs):∃ s:Seen,mkV P 53 cs=dQ s∧True:=by
 obtain ⟨e,a,b,rfl,h1,c,d,rfl,h2,rfl⟩:=yO T.seen h
 obtain ⟨x,rfl,_⟩:=hH T.int h1
 obtain ⟨y,rfl,_⟩:=hH T.int h2
 exact ⟨⟨x,y⟩,e,trivial⟩
theorem aCZ {n:Nat} {cs:List AV} (T:Tys P) (h:Typ P (n+1) 5 cs):∃ x:Int,mkV P 5 cs = .int .u8 x∧(0≤x∧x<256):=VN T.u8 h
theorem Y4 {n:Nat} {cs:List AV} (T:Tys P) (h:Typ P (n+2) 74 cs):∃ l:List Int,mkV P 74 cs = .lit (l.map (.int .u8)) false none∧(∀ x∈l,0≤x∧x<256)∧l.length<9223372036854775808:=XX T.u8 T.u8s h
theorem RM {n:Nat} {cs:List AV} (T:Tys P) (h:Typ P (n+5) 26 cs):∃ s:Net,mkV P 26 cs=dK s∧Fits s∧s.seen.length*16≤140737488351232∧s.trams.length*64≤140737488351232:=by
 obtain ⟨e,a1,b1,rfl,h1,a2,b2,rfl,h2,a3,b3,rfl,h3,a4,b4,rfl,h4,rfl⟩:=yO T.net h
 obtain ⟨x1,rfl,_⟩:=hH T.int h1
 obtain ⟨x2,rfl,⟨l2,_⟩,_⟩:=nU T.rails h2 fun y hy=>TH T hy
 obtain ⟨x3,rfl,⟨l3,b3⟩,q3⟩:=nU T.trams h3 fun y hy=>T3 T hy
 obtain ⟨x4,rfl,⟨l4,b4⟩,_⟩:=nU T.seens h4 fun y hy=>UT T hy
 exact ⟨⟨x1,x2,x3,x4⟩,e,⟨l2,l3,l4,fun t ht=>(q3 t ht).1,fun t ht=>(q3 t ht).2⟩,by rw [T.seenB] at b4;simpa [reachBytes] using b4,by rw [T.tramB] at b3;simpa [reachBytes] using b3⟩
theorem YY {n:Nat} {cs:List AV} (T:Tys P) (h:Typ P (n+5) 26 cs):∃ s:Net,mkV P 26 cs=dK s∧Fits s:=by
 obtain ⟨r,h1,h2,_⟩:=RM T h
 exact ⟨r,h1,h2⟩
end Go.Am.Room
namespace Go.Am.Room
structure RailOk (v:Net) (r:Rail):Prop where
 a:0≤r.a∧r.a<v.stations
 b:0≤r.b∧r.b<v.stations
 ne:r.a≠r.b
 mins:1≤r.mins.lo∧r.mins.lo≤r.mins.hi∧r.mins.hi≤20∧r.mins.hi≤r.mins.lo+1
 shut:0≤r.shut∧r.shut≤2
structure Vd (v:Net):Prop where
 st:2≤v.stations∧v.stations≤5
 nra:v.rails.length≤5
 ra:∀ r∈v.rails,RailOk v r
 ntr:v.trams.length≤3
 tr:∀ i (h:i<v.trams.length),gQ v i v.trams[i]=0
 nse:v.seen.length≤3
 se:∀ x∈v.seen,(0≤x.tram∧x.tram<v.trams.length)∧-1≤x.minute∧x.minute≤400
theorem kL {v:Net} {s:Int}:kS v s=true↔0≤s∧s<v.stations:=by
 rw [kS,cW];omega
theorem vS {v:Net} {r:Rail}:bX v r=0↔RailOk v r:=by
 constructor
 ·intro h
  unfold bX at h
  split at h
  ·omega
  rename_i h1
  split at h
  ·omega
  rename_i h2
  split at h
  ·omega
  rename_i h3
  split at h
  ·omega
  rename_i h4
  rw [not_or,Bool.not_eq_false,Bool.not_eq_false,kL,kL] at h1
  rw [not_or,Bool.not_eq_false,cW] at h3
  rw [not_or,Decidable.not_not] at h4
  have:=BT h4.1
  exact ⟨h1.1,h1.2,h2,by omega,h3.2⟩
 ·intro h
  have h1:=h.mins
  have e:=R0 (show 1≤r.mins.lo∧r.mins.lo≤r.mins.hi∧r.mins.hi≤20 by omega)
  rw [bX,if_neg (by simp [kL.2 h.a,kL.2 h.b]),if_neg h.ne,if_neg (by simp [e,cW.2 h.shut]),if_neg (by simp [e];omega)]
theorem gS {v:Net} (h:(cG v).2.2=0):Vd v:=by
 unfold cG at h
 split at h
 ·simp at h
 rename_i c1
 unfold kR at h
 split at h
 ·simp at h
 rename_i c2
 split at h
 ·rename_i i e he;exact absurd h (gX he)
 rename_i f2
 unfold kW at h
 split at h
 ·simp at h
 rename_i c3
 split at h
 ·rename_i i e he;exact absurd h (gX he)
 rename_i f3
 unfold kV at h
 split at h
 ·simp at h
 rename_i c4
 split at h
 ·rename_i i e he;exact absurd h (gX he)
 rename_i f4
 rw [Bool.not_eq_false,cW] at c1
 refine ⟨c1,by omega,?_,by omega,fun i hi=>by simpa using jQ f3 i hi,by omega,?_⟩
 ·intro x hx
  obtain ⟨k,hk,rfl⟩:=List.getElem_of_mem hx
  exact vS.1 (jQ f2 k hk)
 ·intro x hx
  obtain ⟨k,hk,rfl⟩:=List.getElem_of_mem hx
  have:=jQ f4 k hk
  unfold gO at this
  split at this
  ·omega
  rename_i hi
  split at this
  ·omega
  rename_i hj
  rw [Bool.not_eq_false,cW] at hi hj
  omega
theorem EI {v:Net} (h:Vd v):cG v=(0,0,0):=by
 have h1:=h.st
 have h2:=h.nra
 have h3:=h.ntr
 have h4:=h.nse
 have g2:aS (fun _ r=>bX v r) v.rails 0=none:=pD fun r hr k=>vS.2 (h.ra r hr)
 have g3:aS (gQ v) v.trams 0=none:=tL fun k hk=>by simpa using h.tr k hk
 have g4:aS (gO v) v.seen 0=none:=pD fun x hx k=>by
  have:=h.se x hx
  have a:inR x.tram 0 ((v.trams.length:Int)-1)=true:=cW.2 (by omega)
  have b:inR x.minute (-1) 400=true:=cW.2 (by omega)
  simp [gO,a,b]
 have e4:kV v=(0,0,0):=by rw [kV,if_neg (by omega),g4]
 have e3:kW v=(0,0,0):=by rw [kW,if_neg (by omega),g3];exact e4
 have e2:kR v=(0,0,0):=by rw [kR,if_neg (by omega),g2];exact e3
 rw [cG,if_neg (by rw [Bool.not_eq_false];exact cW.2 h1)]
 exact e2
structure TramOk (v:Net) (t:Tram):Prop where
 frm:0≤t.frm∧t.frm<v.stations
 leaves:0≤t.leaves∧t.leaves≤60
 due:0≤t.due∧t.due≤400
 len:1≤t.path.length∧t.path.length≤4
 path:∀ r∈t.path,0≤r∧r<v.rails.length
 leads:d7 v t.frm t.path=true
theorem O9 {v:Net} {t:Tram} (h:fF v t=0):TramOk v t:=by
 unfold fF at h
 split at h
 ·omega
 rename_i h1
 split at h
 ·omega
 rename_i h2
 split at h
 ·omega
 rename_i h3
 split at h
 ·omega
 rename_i h4
 split at h
 ·omega
 rename_i h5
 rw [Bool.not_eq_false] at h1 h3 h4 h5
 rw [not_or,Bool.not_eq_false,Bool.not_eq_false,cW,cW] at h2
 rw [kL] at h1
 rw [cW] at h3
 rw [List.all_eq_true] at h4
 exact ⟨h1,h2.1,h2.2,by omega,fun r hr=>by have:=cW.1 (h4 r hr);omega,h5⟩
theorem xC {v:Net} (h:Vd v) {i:Nat} (hi:i<v.trams.length):TramOk v v.trams[i]:=by
 have:=h.tr i hi
 unfold gQ at this
 split at this
 ·exact O9 this
 ·rename_i h0;exact absurd this h0
theorem wQ {v:Net} {r:Nat} (h:r<v.rails.length):cB v (r:Int)=v.rails[r]:=by simp [cB,h]
theorem u3 {σ:St} {sz b:Nat} {xs ys:List AV} {ex f:Bool} {t:Nat} {tk:Option Nat} (h:VK sz b xs ys) (h0:ys.length≠0) (n:Nat) (hn:n=xs.length) (ht:σ[t]? = some (.tok sz n ex)) :
  fV sz b σ (.lit xs false (some t)) (.lit ys f tk)=some (.lit (xs++ys) false (some t),σ.set t (.tok sz (n+ys.length) true)):=by
 subst hn
 exact wW h h0 ht
theorem dV (m:Nat):∀ (σ a b c:St),EqS m (σ++a) (σ++b) (σ++c)=EqS m a b c
 |[],a,b,c=>rfl
 |x::σ,a,b,c=>by simp only [List.cons_append,EqS,dV m σ a b c,true_or,true_and,and_self]
theorem aEY (a:Nat) (h:a<9223372036854775808):Go.Am.bits .and .i64 (a:Int) 1=((a%2:Nat):Int):=by
 have e1:(BitVec.ofInt 64 (a:Int) &&& BitVec.ofInt 64 1).toNat=a%2:=by
  rw [BitVec.toNat_and]
  have h1:(BitVec.ofInt 64 (a:Int)).toNat=a:=by
   rw [BitVec.toNat_ofInt]
   omega
  have h2:(BitVec.ofInt 64 1).toNat=1:=by decide
  rw [h1,h2,Nat.and_one_is_mod]
 show IntKind.i64.wrap (((BitVec.ofInt 64 (a:Int) &&& BitVec.ofInt 64 1).toNat:Nat):Int)=_
 rw [e1]
 exact dU ⟨by omega,by omega⟩
theorem HA (a:Nat) (h:a<9223372036854775808):fC .and (.int .i64 (a:Int)) (.int .i64 1)=some (.int .i64 ((a%2:Nat):Int)):=by
 simp [fC,jW,aEY a h]
theorem NG (a i:Nat) (h:i≤60):fC .shr (.int .i64 (a:Int)) (.int .i64 (i:Int))=some (.int .i64 ((a/2^i:Nat):Int)):=by
 have hm:Nat.min i 64=i:=Nat.min_eq_left (by omega)
 have h0:¬(i:Int)<0:=by omega
 simp only [fC,h0,if_false,IntKind.bits,Int.toNat_natCast,hm,Option.some.injEq,AV.int.injEq,true_and]
 rw [Int.fdiv_eq_ediv_of_nonneg _ (Int.pow_nonneg (by omega))]
 norm_cast
theorem dR (m:Nat) (σ b c:St):EqS m σ (σ++b) (σ++c)=EqS m [] b c:=by have:=dV m σ [] b c;rwa [List.append_nil] at this
def yV (T:FuncId→Option AFunc) (f:AV) (args:List AV) (σ:St) (v:AV) (σ':St):Prop:=Run T (.callv f args σ) fun o=>o.v=v∧o.σ=σ'
theorem cT {f:AV} {args:List AV} {v:AV} {σ σ':St} {K:AV→St→Prop} (h:yV T f args σ v σ') (k:K v σ'):cK (K:=⟨K⟩) T f args σ:=.mono h fun o ho=>by rw [ho.1,ho.2];exact k
theorem HH (n:Nat):(List.replicate n [AV.int .i64 0]).flatten=List.replicate n (.int .i64 0):=by
 induction n with
 |zero=>rfl
 |succ n ih=>simp [List.replicate_succ,ih]
theorem ID (l:List Int):(l.map (AV.int .i64)).flatMap AV.cells=l.map (.int .i64):=by
 induction l with
 |nil=>rfl
 |cons x l ih=>simp only [List.map_cons,List.flatMap_cons,ih,AV.cells];rfl
theorem wV (z v:AV):JJ true z (some (some v))=some (.tuple [v,.bool true]):=rfl
theorem w5 (z:AV):JJ true z (some none)=some (.tuple [z,.bool false]):=rfl
theorem I0 (k:Nat) (x:ABlk) (hx:aN k x):∀ (A a b c:St) (i:Nat),EqS k (A++a) (A.set i x++b) (A.set i x++c)=EqS k a b c
 |[],a,b,c,i=>by simp
 |y::A,a,b,c,0=>by
  simp only [List.set_cons_zero,List.cons_append,EqS,dV,hx,or_true,true_and,and_self]
 |y::A,a,b,c,i+1=>by
  have:=I0 k x hx A a b c i
  simp only [List.set_cons_succ,List.cons_append,EqS,this,true_or,true_and,and_self]
theorem mY (i:Nat):cI 1 (.yield i)=true:=by simp [cI,AV.cells,AV.cell]
theorem m5 (i:Nat):(AV.yield i).cells=[.yield i]:=by simp [AV.cells]
theorem D2 {f:AOpd} {g:FuncId} {first cap:List AV} {ps:List Nat} {a b:ACode} {e:Env} {σ:St} {K:KJ} {R:Out→Prop} (hf:f.ev e = .func g first cap)
  (h:Run T (.call g (first++[.yield σ.length]++cap) (σ++[.loop .ready none e ps a b])) R)
  (h1:∀ o,R o→∃ st pend env' ps' a' b',o.σ[σ.length]? = some (.loop st pend env' ps' a' b')∧st≠.busy∧K pend e (o.σ.set σ.length .dead)):rK (K:=⟨K⟩) T (.rangeFunc f ps a b) e σ:=.rangeFunc hf h h1
theorem pM {σ:St} {l:List Int} {a:Int} {ex:Bool} {t:Nat} (hn:l.length<100) (ht:σ[t]? = some (.tok 1 l.length ex)):fV 1 8 σ (.lit (l.map (.int .i64)) false (some t)) (.lit [.int .i64 a] true none)=some (.lit ((l++[a]).map (.int .i64)) false (some t),σ.set t (.tok 1 (l.length+1) true)):=by
 rw [wW (ex:=ex) ⟨vQ 1 _ l (fun x=>IL _ _),by simp [aM,AV.cells,AV.cell],by simp [room];omega,by simp [room];omega⟩ (by simp) (by simpa using ht)]
 simp
theorem EZ {vs:List AV} (h:kY vs) (m:Nat):okVs m vs:=okVs_up _ h.1
theorem w6 {v:AV} (h:kU v) (m:Nat):okV m v:=(EZ (bA h eQ) m).1
end Go.Am.Room
set_option maxRecDepth 4000
namespace Go.Am.Room
def aX:=And.intro @bD (And.intro @aK (And.intro @aU (And.intro @aV (And.intro @aT (And.intro @aR (And.intro @a9 (And.intro @aY (@aW))))))))
theorem iQ (v:Net) (s:Int) (hst:2≤v.stations∧v.stations≤5):d6 T 78 [dK v,.int .i64 s] (.bool (kS v s)):=by
 refine aZ (af:=a78) rfl (by simp [a78]) dd ?_
 have hw:IntKind.i64.wrap (v.stations-1)=v.stations-1:=dU ⟨by omega,by omega⟩
 (repeat (first|simp only [↓QA,QB,Nat.reduceLT,reduceIte,Nat.reduceEqDiff,Nat.reduceAdd,Nat.reduceLeDiff,Nat.reduceMul,Nat.reduceBEq,aX,a78,hw]|refine rd0 rfl ?_))
 ((first|refine aF (eV s 0 (v.stations-1)) rfl dd ?_|refine aG (eV s 0 (v.stations-1)) rfl dd ?_);(repeat (first|simp only [↓QA,QB,Nat.reduceLT,reduceIte,Nat.reduceEqDiff,Nat.reduceAdd,Nat.reduceLeDiff,Nat.reduceMul,Nat.reduceBEq,aX,kS]|refine rd0 rfl ?_)))
theorem OF (r:Rail) (s:Int):d6 T 97 [dD r,.int .i64 s] (.int .i64 (cA r s)):=by
 refine aZ (af:=a97) rfl (by simp [a97]) dd ?_
 (repeat (first|simp only [↓QA,QB,Nat.reduceLT,reduceIte,Nat.reduceEqDiff,Nat.reduceAdd,Nat.reduceLeDiff,Nat.reduceMul,Nat.reduceBEq,aX,a97]|refine rd0 rfl ?_))
 cases h1:(s==r.a)
 ·have h1':s≠r.a:=by simpa using h1
  (repeat (first|simp only [↓QA,QB,Nat.reduceLT,reduceIte,Nat.reduceEqDiff,Nat.reduceAdd,Nat.reduceLeDiff,Nat.reduceMul,Nat.reduceBEq,aX,h1]|refine rd0 rfl ?_))
  cases h2:(s==r.b)
  ·have h2':s≠r.b:=by simpa using h2
   (repeat (first|simp only [↓QA,QB,Nat.reduceLT,reduceIte,Nat.reduceEqDiff,Nat.reduceAdd,Nat.reduceLeDiff,Nat.reduceMul,Nat.reduceBEq,aX,h2]|refine rd0 rfl ?_))
   simp [cA,h1',h2']
  ·have h2':s=r.b:=by simpa using h2
   (repeat (first|simp only [↓QA,QB,Nat.reduceLT,reduceIte,Nat.reduceEqDiff,Nat.reduceAdd,Nat.reduceLeDiff,Nat.reduceMul,Nat.reduceBEq,aX,h2]|refine rd0 rfl ?_))
   simp only [cA,if_neg h1',if_pos h2']
 ·have h1':s=r.a:=by simpa using h1
  (repeat (first|simp only [↓QA,QB,Nat.reduceLT,reduceIte,Nat.reduceEqDiff,Nat.reduceAdd,Nat.reduceLeDiff,Nat.reduceMul,Nat.reduceBEq,aX,h1]|refine rd0 rfl ?_))
  simp only [cA,if_pos h1']
theorem OJ (v:Net) (r:Rail) (hst:2≤v.stations∧v.stations≤5):d6 T 74 [dK v,dD r] (.int .i64 (bX v r)):=by
 refine aZ (af:=a74) rfl (by simp [a74]) dd ?_
 (repeat (first|simp only [↓QA,QB,Nat.reduceLT,reduceIte,Nat.reduceEqDiff,Nat.reduceAdd,Nat.reduceLeDiff,Nat.reduceMul,Nat.reduceBEq,aX,a74]|refine rd0 rfl ?_))
 ((first|refine aF (iQ v r.a hst) rfl dd ?_|refine aG (iQ v r.a hst) rfl dd ?_);(repeat (first|simp only [↓QA,QB,Nat.reduceLT,reduceIte,Nat.reduceEqDiff,Nat.reduceAdd,Nat.reduceLeDiff,Nat.reduceMul,Nat.reduceBEq,aX]|refine rd0 rfl ?_)))
 cases h1:kS v r.a
 ·(repeat (first|simp only [↓QA,QB,Nat.reduceLT,reduceIte,Nat.reduceEqDiff,Nat.reduceAdd,Nat.reduceLeDiff,Nat.reduceMul,Nat.reduceBEq,aX]|refine rd0 rfl ?_))
  simp [bX,h1]
 ·(repeat (first|simp only [↓QA,QB,Nat.reduceLT,reduceIte,Nat.reduceEqDiff,Nat.reduceAdd,Nat.reduceLeDiff,Nat.reduceMul,Nat.reduceBEq,aX]|refine rd0 rfl ?_))
  ((first|refine aF (iQ v r.b hst) rfl dd ?_|refine aG (iQ v r.b hst) rfl dd ?_);(repeat (first|simp only [↓QA,QB,Nat.reduceLT,reduceIte,Nat.reduceEqDiff,Nat.reduceAdd,Nat.reduceLeDiff,Nat.reduceMul,Nat.reduceBEq,aX]|refine rd0 rfl ?_)))
  cases h2:kS v r.b
  ·(repeat (first|simp only [↓QA,QB,Nat.reduceLT,reduceIte,Nat.reduceEqDiff,Nat.reduceAdd,Nat.reduceLeDiff,Nat.reduceMul,Nat.reduceBEq,aX]|refine rd0 rfl ?_))
   simp [bX,h2]
  ·(repeat (first|simp only [↓QA,QB,Nat.reduceLT,reduceIte,Nat.reduceEqDiff,Nat.reduceAdd,Nat.reduceLeDiff,Nat.reduceMul,Nat.reduceBEq,aX]|refine rd0 rfl ?_))
   cases h3:(r.a==r.b)
   ·have h3':r.a≠r.b:=by simpa using h3
    (repeat (first|simp only [↓QA,QB,Nat.reduceLT,reduceIte,Nat.reduceEqDiff,Nat.reduceAdd,Nat.reduceLeDiff,Nat.reduceMul,Nat.reduceBEq,aX,h3]|refine rd0 rfl ?_))
    ((first|refine aF (IX r.mins 1 20) rfl dd ?_|refine aG (IX r.mins 1 20) rfl dd ?_);(repeat (first|simp only [↓QA,QB,Nat.reduceLT,reduceIte,Nat.reduceEqDiff,Nat.reduceAdd,Nat.reduceLeDiff,Nat.reduceMul,Nat.reduceBEq,aX]|refine rd0 rfl ?_)))
    cases h4:(mN r.mins 1 20==7)
    ·have h4':mN r.mins 1 20≠7:=by simpa using h4
     (repeat (first|simp only [↓QA,QB,Nat.reduceLT,reduceIte,Nat.reduceEqDiff,Nat.reduceAdd,Nat.reduceLeDiff,Nat.reduceMul,Nat.reduceBEq,aX,h4]|refine rd0 rfl ?_))
     ((first|refine aF (eV r.shut 0 2) rfl dd ?_|refine aG (eV r.shut 0 2) rfl dd ?_);(repeat (first|simp only [↓QA,QB,Nat.reduceLT,reduceIte,Nat.reduceEqDiff,Nat.reduceAdd,Nat.reduceLeDiff,Nat.reduceMul,Nat.reduceBEq,aX]|refine rd0 rfl ?_)))
     cases h5:inR r.shut 0 2
     ·(repeat (first|simp only [↓QA,QB,Nat.reduceLT,reduceIte,Nat.reduceEqDiff,Nat.reduceAdd,Nat.reduceLeDiff,Nat.reduceMul,Nat.reduceBEq,aX]|refine rd0 rfl ?_))
      simp [bX,h1,h2,h3',h5]
     ·cases h6:(mN r.mins 1 20==0)
      ·have h6':mN r.mins 1 20≠0:=by simpa using h6
       (repeat (first|simp only [↓QA,QB,Nat.reduceLT,reduceIte,Nat.reduceEqDiff,Nat.reduceAdd,Nat.reduceLeDiff,Nat.reduceMul,Nat.reduceBEq,aX,h6]|refine rd0 rfl ?_))
       simp [bX,h1,h2,h3',h4',h5,h6']
      ·have h6':mN r.mins 1 20=0:=by simpa using h6
       have hb:=BT h6'
       have hw:IntKind.i64.wrap (r.mins.lo+1)=r.mins.lo+1:=dU ⟨by omega,by omega⟩
       cases h7:decide (r.mins.lo+1<r.mins.hi)
       ·have h7':¬r.mins.lo+1<r.mins.hi:=by simpa using h7
        (repeat (first|simp only [↓QA,QB,Nat.reduceLT,reduceIte,Nat.reduceEqDiff,Nat.reduceAdd,Nat.reduceLeDiff,Nat.reduceMul,Nat.reduceBEq,aX,h6,hw,h7]|refine rd0 rfl ?_))
        simp [bX,h1,h2,h3',h5,h6',h7']
       ·have h7':r.mins.lo+1<r.mins.hi:=by simpa using h7
        (repeat (first|simp only [↓QA,QB,Nat.reduceLT,reduceIte,Nat.reduceEqDiff,Nat.reduceAdd,Nat.reduceLeDiff,Nat.reduceMul,Nat.reduceBEq,aX,h6,hw,h7]|refine rd0 rfl ?_))
        simp [bX,h1,h2,h3',h5,h6',h7']
    ·have h4':mN r.mins 1 20=7:=by simpa using h4
     (repeat (first|simp only [↓QA,QB,Nat.reduceLT,reduceIte,Nat.reduceEqDiff,Nat.reduceAdd,Nat.reduceLeDiff,Nat.reduceMul,Nat.reduceBEq,aX,h4]|refine rd0 rfl ?_))
     simp [bX,h1,h2,h3',h4']
   ·have h3':r.a=r.b:=by simpa using h3
    (repeat (first|simp only [↓QA,QB,Nat.reduceLT,reduceIte,Nat.reduceEqDiff,Nat.reduceAdd,Nat.reduceLeDiff,Nat.reduceMul,Nat.reduceBEq,aX,h3]|refine rd0 rfl ?_))
    rw [bX,if_neg (by simp [h1,h2]),if_pos h3']
theorem G8 {v:Net} {p:List Int} {k:Nat} (hk:k<p.length) (s:Int) (met:List Int):iM v (p.drop k) s met=if cA (cB v p[k]) s<0∨met.contains (cA (cB v p[k]) s)=true∨(cA (cB v p[k]) s=0∧k+1<p.length) then false
  else iM v (p.drop (k+1)) (cA (cB v p[k]) s) (met++[cA (cB v p[k]) s]):=by
 rw [List.drop_eq_getElem_cons hk,iM]
 have:p.drop (k+1)≠[]↔k+1<p.length:=by
  rw [Ne,List.drop_eq_nil_iff];omega
 simp only [this]
theorem rI (v:Net) (s:Int) (p:List Int) (hp:∀ r∈p,0≤r∧r<v.rails.length) (hl:p.length<9223372036854775808):d6 T 61 [dK v,.int .i64 s,ints p] (.bool (d7 v s p)):=by
 refine aZ (af:=a61) rfl (by simp [a61]) dd ?_
 (repeat (first|simp only [↓QA,QB,Nat.reduceLT,reduceIte,Nat.reduceEqDiff,Nat.reduceAdd,Nat.reduceLeDiff,Nat.reduceMul,Nat.reduceBEq,aX,a61]|refine rd0 rfl ?_))
 ((first|refine aF (eV p.length 1 4) rfl dd ?_|refine aG (eV p.length 1 4) rfl dd ?_);(repeat (first|simp only [↓QA,QB,Nat.reduceLT,reduceIte,Nat.reduceEqDiff,Nat.reduceAdd,Nat.reduceLeDiff,Nat.reduceMul,Nat.reduceBEq,aX]|refine rd0 rfl ?_)))
 cases h1:inR p.length 1 4
 ·(repeat (first|simp only [↓QA,QB,Nat.reduceLT,reduceIte,Nat.reduceEqDiff,Nat.reduceAdd,Nat.reduceLeDiff,Nat.reduceMul,Nat.reduceBEq,aX]|refine rd0 rfl ?_))
  simp [d7,h1]
 ·have hpl:=cW.1 h1
  cases h2:(s==0)
  case' true =>
   have h2':s=0:=by simpa using h2
   (repeat (first|simp only [↓QA,QB,Nat.reduceLT,reduceIte,Nat.reduceEqDiff,Nat.reduceAdd,Nat.reduceLeDiff,Nat.reduceMul,Nat.reduceBEq,aX,h2]|refine rd0 rfl ?_))
   simp [d7,h1,h2']
  have h2':s≠0:=by simpa using h2
  obtain ⟨B,hB⟩:∃ B,d7 v s p=B:=⟨_,rfl⟩
  have hB2:iM v p s [s]=B:=by rw [←hB,d7,if_neg (by simp [h1,h2'])]
  rw [hB]
  (repeat (first|simp only [↓QA,QB,Nat.reduceLT,reduceIte,Nat.reduceEqDiff,Nat.reduceAdd,Nat.reduceLeDiff,Nat.reduceMul,Nat.reduceBEq,aX,h2]|refine rd0 rfl ?_))
  refine pU 7 1 [.int .i64 s] rfl ?_
  refine dF (S:=Nat×Int×List Int×Bool) (0,s,[s],false) (fun a=>a.1≤p.length∧a.2.2.1.length=a.1+1∧iM v (p.drop a.1) a.2.1 a.2.2.1=B) (fun a=>p.length-a.1)
   (fun a=>[(1,.int .i64 a.2.1),(2,ints p),(3,.ptr 0 0),(7,.lit (a.2.2.1.map (.int .i64)) false (some 1)),(8,.int .i64 a.1)]) (fun a=>[.cells (aB v),.tok 1 (a.1+1) a.2.2.2]) ⟨by simp,by simp,by simpa using hB2⟩ (by simp [aB,ints]) ?_ fun a ha=>?_
  ·try simp only [aD,QE,Nat.reduceLT,reduceIte,Nat.reduceEqDiff,Nat.reduceAdd,Nat.reduceLeDiff,Nat.reduceMul,Nat.reduceBEq,aX]
   try simp
  ·obtain ⟨k,c,met,ex⟩:=a
   obtain ⟨hk,hm,hgo⟩:=ha
   simp only at hk hm hgo
   (repeat (first|simp only [↓QA,QB,Nat.reduceLT,reduceIte,Nat.reduceEqDiff,Nat.reduceAdd,Nat.reduceLeDiff,Nat.reduceMul,Nat.reduceBEq,aX,UX]|refine rd0 rfl ?_))
   refine aI (fun h=>?_) fun h=>?_
   ·have hk1:k<p.length:=by simpa using h
    have hw:=cR hk1 (by omega)
    rw [G8 hk1] at hgo
    have hpr:=hp _ (List.getElem_mem hk1)
    obtain ⟨R,hR⟩:∃ R:Nat,p[k]=(R:Int):=⟨p[k].toNat,by omega⟩
    rw [hR] at hpr hgo
    have hRl:R<v.rails.length:=by omega
    rw [wQ hRl] at hgo
    obtain ⟨z,hz⟩:∃ z,v.rails[R]=z:=⟨_,rfl⟩
    rw [hz] at hgo
    have hov:=OF z c
    obtain ⟨o,ho⟩:∃ o,cA z c=o:=⟨_,rfl⟩
    rw [ho] at hgo hov
    have hap:=fun (b0:ABlk) (τ:St)=>pM (σ:=b0::.tok 1 (k+1) ex::τ) (l:=met) (a:=o) (ex:=ex) (t:=1) (by omega) (by rw [hm];rfl)
    rw [hm] at hap
    (repeat (first|simp only [↓QA,QB,Nat.reduceLT,reduceIte,Nat.reduceEqDiff,Nat.reduceAdd,Nat.reduceLeDiff,Nat.reduceMul,Nat.reduceBEq,aX,hk1,hR,hRl,hz]|refine rd0 rfl ?_))
    ((first|refine aF (hov) rfl dd ?_|refine aG (hov) rfl dd ?_);(repeat (first|simp only [↓QA,QB,Nat.reduceLT,reduceIte,Nat.reduceEqDiff,Nat.reduceAdd,Nat.reduceLeDiff,Nat.reduceMul,Nat.reduceBEq,aX,hk1,hR,hRl,hz]|refine rd0 rfl ?_)))
    cases q1:decide (o<0)
    ·have q1':¬o<0:=by simpa using q1
     (repeat (first|simp only [↓QA,QB,Nat.reduceLT,reduceIte,Nat.reduceEqDiff,Nat.reduceAdd,Nat.reduceLeDiff,Nat.reduceMul,Nat.reduceBEq,aX,q1]|refine rd0 rfl ?_))
     ((first|refine w8 (MV met o (by omega)) (by try simp only [QS,QC,Nat.reduceLT,reduceIte,Nat.reduceEqDiff,Nat.reduceAdd,Nat.reduceLeDiff,Nat.reduceMul,Nat.reduceBEq,aX]) trivial ?_|refine B8 (MV met o (by omega)) (by try simp only [QS,QC,Nat.reduceLT,reduceIte,Nat.reduceEqDiff,Nat.reduceAdd,Nat.reduceLeDiff,Nat.reduceMul,Nat.reduceBEq,aX]) trivial ?_);(repeat (first|simp only [↓QA,QB,Nat.reduceLT,reduceIte,Nat.reduceEqDiff,Nat.reduceAdd,Nat.reduceLeDiff,Nat.reduceMul,Nat.reduceBEq,aX,q1]|refine rd0 rfl ?_)))
     cases q2:met.contains o
     ·cases q3:(o==0)
      ·have q3':o≠0:=by simpa using q3
       rw [if_neg (by rw [q2];simp [q1',q3'])] at hgo
       (repeat (first|simp only [↓QA,QB,Nat.reduceLT,reduceIte,Nat.reduceEqDiff,Nat.reduceAdd,Nat.reduceLeDiff,Nat.reduceMul,Nat.reduceBEq,aX,q3,hap,hw]|refine rd0 rfl ?_))
       refine ⟨(k+1,o,met++[o],true),⟨by simp only;omega,by simp [hm],hgo⟩,by simp only;omega,?_⟩
       try simp only [aD,QE,Nat.reduceLT,reduceIte,Nat.reduceEqDiff,Nat.reduceAdd,Nat.reduceLeDiff,Nat.reduceMul,Nat.reduceBEq,aX,hw,nE,List.map_append,List.map_cons,List.map_nil]
       try simp [aN]
      ·have q3':o=0:=by simpa using q3
       cases q4:decide (((k+1:Nat):Int)<(p.length:Int))
       ·have q4':¬k+1<p.length:=by have:=of_decide_eq_false q4;omega
        rw [if_neg (by rw [q2];simp [q1',q4'])] at hgo
        (repeat (first|simp only [↓QA,QB,Nat.reduceLT,reduceIte,Nat.reduceEqDiff,Nat.reduceAdd,Nat.reduceLeDiff,Nat.reduceMul,Nat.reduceBEq,aX,q3,hap,hw,q4]|refine rd0 rfl ?_))
        refine ⟨(k+1,o,met++[o],true),⟨by simp only;omega,by simp [hm],hgo⟩,by simp only;omega,?_⟩
        try simp only [aD,QE,Nat.reduceLT,reduceIte,Nat.reduceEqDiff,Nat.reduceAdd,Nat.reduceLeDiff,Nat.reduceMul,Nat.reduceBEq,aX,hw,nE,List.map_append,List.map_cons,List.map_nil]
        try simp [aN]
       ·have q4':k+1<p.length:=by
         have:=of_decide_eq_true q4
         omega
        rw [if_pos (.inr (.inr ⟨q3',q4'⟩))] at hgo
        (repeat (first|simp only [↓QA,QB,Nat.reduceLT,reduceIte,Nat.reduceEqDiff,Nat.reduceAdd,Nat.reduceLeDiff,Nat.reduceMul,Nat.reduceBEq,aX,q3,hw,q4,←hgo]|refine rd0 rfl ?_))
     ·rw [if_pos (.inr (.inl q2))] at hgo
      (repeat (first|simp only [↓QA,QB,Nat.reduceLT,reduceIte,Nat.reduceEqDiff,Nat.reduceAdd,Nat.reduceLeDiff,Nat.reduceMul,Nat.reduceBEq,aX,←hgo]|refine rd0 rfl ?_))
    ·have q1':o<0:=by simpa using q1
     rw [if_pos (.inl q1')] at hgo
     (repeat (first|simp only [↓QA,QB,Nat.reduceLT,reduceIte,Nat.reduceEqDiff,Nat.reduceAdd,Nat.reduceLeDiff,Nat.reduceMul,Nat.reduceBEq,aX,q1,←hgo]|refine rd0 rfl ?_))
   ·have hk1:k=p.length:=by simp at h;omega
    rw [hk1,List.drop_length,iM] at hgo
    (repeat (first|simp only [↓QA,QB,Nat.reduceLT,reduceIte,Nat.reduceEqDiff,Nat.reduceAdd,Nat.reduceLeDiff,Nat.reduceMul,Nat.reduceBEq,aX,hgo]|refine rd0 rfl ?_))
end Go.Am.Room
set_option maxRecDepth 4000
namespace Go.Am.Room
def aL:=And.intro @bD (And.intro @aK (And.intro @aU (And.intro @aV (And.intro @aT (And.intro @aR (And.intro @a9 (And.intro @aY (@aW))))))))
def n7 (x:Int×Int×Int):AV:=.tuple [.int .i64 x.1,.int .i64 x.2.1,.int .i64 x.2.2]
theorem OI (v:Net) (t:Tram) (hst:2≤v.stations∧v.stations≤5) (hnr:v.rails.length≤5):d6 T 76 [dK v,cE t] (.int .i64 (fF v t)):=by
 refine aZ (af:=a76) rfl (by simp [a76]) dd ?_
 (repeat (first|simp only [↓QA,QB,Nat.reduceLT,reduceIte,Nat.reduceEqDiff,Nat.reduceAdd,Nat.reduceLeDiff,Nat.reduceMul,Nat.reduceBEq,aL,a76]|refine rd0 rfl ?_))
 ((first|refine aF (iQ v t.frm hst) rfl dd ?_|refine aG (iQ v t.frm hst) rfl dd ?_);(repeat (first|simp only [↓QA,QB,Nat.reduceLT,reduceIte,Nat.reduceEqDiff,Nat.reduceAdd,Nat.reduceLeDiff,Nat.reduceMul,Nat.reduceBEq,aL]|refine rd0 rfl ?_)))
 cases h1:kS v t.frm
 ·(repeat (first|simp only [↓QA,QB,Nat.reduceLT,reduceIte,Nat.reduceEqDiff,Nat.reduceAdd,Nat.reduceLeDiff,Nat.reduceMul,Nat.reduceBEq,aL]|refine rd0 rfl ?_))
  simp [fF,h1]
 ·(repeat (first|simp only [↓QA,QB,Nat.reduceLT,reduceIte,Nat.reduceEqDiff,Nat.reduceAdd,Nat.reduceLeDiff,Nat.reduceMul,Nat.reduceBEq,aL]|refine rd0 rfl ?_))
  ((first|refine aF (eV t.leaves 0 60) rfl dd ?_|refine aG (eV t.leaves 0 60) rfl dd ?_);(repeat (first|simp only [↓QA,QB,Nat.reduceLT,reduceIte,Nat.reduceEqDiff,Nat.reduceAdd,Nat.reduceLeDiff,Nat.reduceMul,Nat.reduceBEq,aL]|refine rd0 rfl ?_)))
  cases h2:inR t.leaves 0 60
  ·(repeat (first|simp only [↓QA,QB,Nat.reduceLT,reduceIte,Nat.reduceEqDiff,Nat.reduceAdd,Nat.reduceLeDiff,Nat.reduceMul,Nat.reduceBEq,aL]|refine rd0 rfl ?_))
   simp [fF,h1,h2]
  ·(repeat (first|simp only [↓QA,QB,Nat.reduceLT,reduceIte,Nat.reduceEqDiff,Nat.reduceAdd,Nat.reduceLeDiff,Nat.reduceMul,Nat.reduceBEq,aL]|refine rd0 rfl ?_))
   ((first|refine aF (eV t.due 0 400) rfl dd ?_|refine aG (eV t.due 0 400) rfl dd ?_);(repeat (first|simp only [↓QA,QB,Nat.reduceLT,reduceIte,Nat.reduceEqDiff,Nat.reduceAdd,Nat.reduceLeDiff,Nat.reduceMul,Nat.reduceBEq,aL]|refine rd0 rfl ?_)))
   cases h3:inR t.due 0 400
   ·(repeat (first|simp only [↓QA,QB,Nat.reduceLT,reduceIte,Nat.reduceEqDiff,Nat.reduceAdd,Nat.reduceLeDiff,Nat.reduceMul,Nat.reduceBEq,aL]|refine rd0 rfl ?_))
    simp [fF,h1,h2,h3]
   ·(repeat (first|simp only [↓QA,QB,Nat.reduceLT,reduceIte,Nat.reduceEqDiff,Nat.reduceAdd,Nat.reduceLeDiff,Nat.reduceMul,Nat.reduceBEq,aL]|refine rd0 rfl ?_))
    ((first|refine aF (eV t.path.length 1 4) rfl dd ?_|refine aG (eV t.path.length 1 4) rfl dd ?_);(repeat (first|simp only [↓QA,QB,Nat.reduceLT,reduceIte,Nat.reduceEqDiff,Nat.reduceAdd,Nat.reduceLeDiff,Nat.reduceMul,Nat.reduceBEq,aL]|refine rd0 rfl ?_)))
    cases h4:inR t.path.length 1 4
    ·(repeat (first|simp only [↓QA,QB,Nat.reduceLT,reduceIte,Nat.reduceEqDiff,Nat.reduceAdd,Nat.reduceLeDiff,Nat.reduceMul,Nat.reduceBEq,aL]|refine rd0 rfl ?_))
     simp [fF,h1,h2,h3,h4]
    ·have hpl:=cW.1 h4
     have hwl:IntKind.i64.wrap ((v.rails.length:Int)-1)=(v.rails.length:Int)-1:=dU ⟨by omega,by omega⟩
     obtain ⟨q,hq⟩:∃ q:Int→Bool,(fun r=>inR r 0 ((v.rails.length:Int)-1))=q:=⟨_,rfl⟩
     have hqr:∀ r,inR r 0 ((v.rails.length:Int)-1)=q r:=fun r=>by rw [←hq]
     have hE:fF v t=if t.path.all q=false then 4 else if d7 v t.frm t.path=false then 2 else 0:=by
      rw [fF,if_neg (by simp [h1]),if_neg (by simp [h2,h3]),if_neg (by simp [h4]),hq]
     rw [hE]
     (repeat (first|simp only [↓QA,QB,Nat.reduceLT,reduceIte,Nat.reduceEqDiff,Nat.reduceAdd,Nat.reduceLeDiff,Nat.reduceMul,Nat.reduceBEq,aL]|refine rd0 rfl ?_))
     refine dF (S:=Nat) 0 (fun k=>k≤t.path.length∧(t.path.drop k).all q=t.path.all q) (fun k=>t.path.length-k)
      (fun k=>[(2,.ptr 0 0),(3,.ptr 1 0),(5,.int .i64 k)]) (fun _=>[.cells (aB v),.cells [.str t.name,.int .i64 t.frm,.int .i64 t.leaves,.int .i64 t.due,ints t.path]]) ⟨by simp,by simp⟩ (by simp [aB,ints]) ?_ fun k hk=>?_
     ·try simp only [aD,QE,Nat.reduceLT,reduceIte,Nat.reduceEqDiff,Nat.reduceAdd,Nat.reduceLeDiff,Nat.reduceMul,Nat.reduceBEq,aL]
      try simp
     ·obtain ⟨hk,hb⟩:=hk
      (repeat (first|simp only [↓QA,QB,Nat.reduceLT,reduceIte,Nat.reduceEqDiff,Nat.reduceAdd,Nat.reduceLeDiff,Nat.reduceMul,Nat.reduceBEq,aL,WH]|refine rd0 rfl ?_))
      refine aI (fun h=>?_) fun h=>?_
      ·have hk1:k<t.path.length:=by simpa using h
       have hw:=cR hk1 (by omega)
       rw [List.drop_eq_getElem_cons hk1,List.all_cons] at hb
       obtain ⟨r,hr⟩:∃ r,t.path[k]=r:=⟨_,rfl⟩
       rw [hr] at hb
       have hin:=eV r 0 ((v.rails.length:Int)-1)
       rw [hqr r] at hin
       (repeat (first|simp only [↓QA,QB,Nat.reduceLT,reduceIte,Nat.reduceEqDiff,Nat.reduceAdd,Nat.reduceLeDiff,Nat.reduceMul,Nat.reduceBEq,aL,hk1,hr,hwl]|refine rd0 rfl ?_))
       ((first|refine aF (hin) rfl dd ?_|refine aG (hin) rfl dd ?_);(repeat (first|simp only [↓QA,QB,Nat.reduceLT,reduceIte,Nat.reduceEqDiff,Nat.reduceAdd,Nat.reduceLeDiff,Nat.reduceMul,Nat.reduceBEq,aL,hk1,hr,hwl]|refine rd0 rfl ?_)))
       cases h5:q r
       ·rw [h5,Bool.false_and] at hb
        (repeat (first|simp only [↓QA,QB,Nat.reduceLT,reduceIte,Nat.reduceEqDiff,Nat.reduceAdd,Nat.reduceLeDiff,Nat.reduceMul,Nat.reduceBEq,aL,←hb]|refine rd0 rfl ?_))
       ·rw [h5,Bool.true_and] at hb
        (repeat (first|simp only [↓QA,QB,Nat.reduceLT,reduceIte,Nat.reduceEqDiff,Nat.reduceAdd,Nat.reduceLeDiff,Nat.reduceMul,Nat.reduceBEq,aL,hw]|refine rd0 rfl ?_))
        refine ⟨k+1,⟨by omega,hb⟩,by omega,?_⟩
        try simp only [aD,QE,Nat.reduceLT,reduceIte,Nat.reduceEqDiff,Nat.reduceAdd,Nat.reduceLeDiff,Nat.reduceMul,Nat.reduceBEq,aL,hw]
        try simp [aN]
      ·have hk1:k=t.path.length:=by simp at h;omega
       rw [hk1,List.drop_length,List.all_nil] at hb
       have hp:∀ r∈t.path,0≤r∧r<v.rails.length:=fun r hr=>by
        have:=List.all_eq_true.1 hb.symm r hr
        rw [←hqr,cW] at this
        omega
       (repeat (first|simp only [↓QA,QB,Nat.reduceLT,reduceIte,Nat.reduceEqDiff,Nat.reduceAdd,Nat.reduceLeDiff,Nat.reduceMul,Nat.reduceBEq,aL]|refine rd0 rfl ?_))
       ((first|refine aF (rI v t.frm t.path hp (by omega)) rfl dd ?_|refine aG (rI v t.frm t.path hp (by omega)) rfl dd ?_);(repeat (first|simp only [↓QA,QB,Nat.reduceLT,reduceIte,Nat.reduceEqDiff,Nat.reduceAdd,Nat.reduceLeDiff,Nat.reduceMul,Nat.reduceBEq,aL]|refine rd0 rfl ?_)))
       cases h6:d7 v t.frm t.path
       ·(repeat (first|simp only [↓QA,QB,Nat.reduceLT,reduceIte,Nat.reduceEqDiff,Nat.reduceAdd,Nat.reduceLeDiff,Nat.reduceMul,Nat.reduceBEq,aL,←hb]|refine rd0 rfl ?_))
        rfl
       ·(repeat (first|simp only [↓QA,QB,Nat.reduceLT,reduceIte,Nat.reduceEqDiff,Nat.reduceAdd,Nat.reduceLeDiff,Nat.reduceMul,Nat.reduceBEq,aL,←hb]|refine rd0 rfl ?_))
        rfl
theorem H7 {k:Nat} {ns:List ByteArray} {s:ByteArray} {b:ABlk} {ex:Bool} {τ:St} (hk:ns.length=k) (hn:k<16):fV 1 16 (b::.tok 1 k ex::τ) (.lit (ns.map .str) false (some 1)) (.lit [.str s] true none)=some (.lit ((ns++[s]).map .str) false (some 1),b::.tok 1 (k+1) true::τ):=by
 rw [wW (ex:=ex) ⟨vQ 1 _ ns (fun x=>VA _),by simp [aM,AV.cells,AV.cell],by simp [room,hk];omega,by simp [room,hk];omega⟩ (by simp) (by simp [hk])]
 simp [hk]
theorem J4 {v:Net} {k:Nat} (h:k<v.trams.length):(v.trams.take (k+1)).map Tram.name=(v.trams.take k).map Tram.name++[v.trams[k].name]:=by
 rw [List.take_succ_eq_append_getElem h,List.map_append];rfl
theorem v4 (v:Net) (h:Fits v):d6 T 18 [dK v] (n7 (cG v)):=by
 refine aZ (af:=a18) rfl (by simp [a18]) dd ?_
 have hfr:=h.rails
 have hft:=h.trams
 have hfs:=h.seen
 (repeat (first|simp only [↓QA,QB,Nat.reduceLT,reduceIte,Nat.reduceEqDiff,Nat.reduceAdd,Nat.reduceLeDiff,Nat.reduceMul,Nat.reduceBEq,aL,a18]|refine rd0 rfl ?_))
 ((first|refine aF (eV v.stations 2 5) rfl dd ?_|refine aG (eV v.stations 2 5) rfl dd ?_);(repeat (first|simp only [↓QA,QB,Nat.reduceLT,reduceIte,Nat.reduceEqDiff,Nat.reduceAdd,Nat.reduceLeDiff,Nat.reduceMul,Nat.reduceBEq,aL]|refine rd0 rfl ?_)))
 cases h1:inR v.stations 2 5
 ·(repeat (first|simp only [↓QA,QB,Nat.reduceLT,reduceIte,Nat.reduceEqDiff,Nat.reduceAdd,Nat.reduceLeDiff,Nat.reduceMul,Nat.reduceBEq,aL]|refine rd0 rfl ?_))
  simp [cG,h1,n7]
 ·have hst:=cW.1 h1
  have hc:cG v=kR v:=by simp only [cG,h1,Bool.true_eq_false,if_false]
  rw [hc]
  (repeat (first|simp only [↓QA,QB,Nat.reduceLT,reduceIte,Nat.reduceEqDiff,Nat.reduceAdd,Nat.reduceLeDiff,Nat.reduceMul,Nat.reduceBEq,aL]|refine rd0 rfl ?_))
  cases h2:decide ((5:Int)<(v.rails.length:Int))
  case' true =>
   have h2':5<v.rails.length:=by first|(have:=of_decide_eq_false h2;omega)|(have:=of_decide_eq_true h2;omega)
   (repeat (first|simp only [↓QA,QB,Nat.reduceLT,reduceIte,Nat.reduceEqDiff,Nat.reduceAdd,Nat.reduceLeDiff,Nat.reduceMul,Nat.reduceBEq,aL]|refine rd0 rfl ?_))
   simp [kR,h2',n7]
  have h2':¬5<v.rails.length:=by first|(have:=of_decide_eq_false h2;omega)|(have:=of_decide_eq_true h2;omega)
  have hc:kR v=match aS (fun _ r=>bX v r) v.rails 0 with|some (i,e)=>(2,(i:Int),e)|none=>kW v:=by simp only [kR,h2',if_false];try rfl
  rw [hc]
  (repeat (first|simp only [↓QA,QB,Nat.reduceLT,reduceIte,Nat.reduceEqDiff,Nat.reduceAdd,Nat.reduceLeDiff,Nat.reduceMul,Nat.reduceBEq,aL]|refine rd0 rfl ?_))
  refine dF (S:=Nat) 0 (fun k=>k≤v.rails.length∧aS (fun _ r=>bX v r) (v.rails.drop k) k=aS (fun _ r=>bX v r) v.rails 0) (fun k=>v.rails.length-k)
   (fun k=>[(1,.ptr 0 0),(5,.int .i64 k)]) (fun _=>[.cells (aB v)]) ⟨Nat.zero_le _,by simp⟩ (by simp [aB,ints]) ?_ fun k hs=>?_
  ·try simp only [aD,QE,Nat.reduceLT,reduceIte,Nat.reduceEqDiff,Nat.reduceAdd,Nat.reduceLeDiff,Nat.reduceMul,Nat.reduceBEq,aL]
   try simp
  ·obtain ⟨hk,hb⟩:=hs
   (repeat (first|simp only [↓QA,QB,Nat.reduceLT,reduceIte,Nat.reduceEqDiff,Nat.reduceAdd,Nat.reduceLeDiff,Nat.reduceMul,Nat.reduceBEq,aL,VO]|refine rd0 rfl ?_))
   refine aI (fun hd=>?_) fun hd=>?_
   ·have hk1:k<v.rails.length:=by simpa using hd
    rw [gL hk1] at hb
    have hw:=cR hk1 hfr
    obtain ⟨z,hz⟩:∃ z,v.rails[k]=z:=⟨_,rfl⟩
    rw [hz] at hb
    have hra:=OJ v z hst
    obtain ⟨E,hE⟩:∃ E,bX v z=E:=⟨_,rfl⟩
    rw [hE] at hb hra
    (repeat (first|simp only [↓QA,QB,Nat.reduceLT,reduceIte,Nat.reduceEqDiff,Nat.reduceAdd,Nat.reduceLeDiff,Nat.reduceMul,Nat.reduceBEq,aL,hk1,hz]|refine rd0 rfl ?_))
    ((first|refine aF (hra) rfl dd ?_|refine aG (hra) rfl dd ?_);(repeat (first|simp only [↓QA,QB,Nat.reduceLT,reduceIte,Nat.reduceEqDiff,Nat.reduceAdd,Nat.reduceLeDiff,Nat.reduceMul,Nat.reduceBEq,aL,hk1,hz]|refine rd0 rfl ?_)))
    cases hf:(E==0)
    ·have hf':E≠0:=by simpa using hf
     rw [if_neg hf'] at hb
     rw [←hb]
     (repeat (first|simp only [↓QA,QB,Nat.reduceLT,reduceIte,Nat.reduceEqDiff,Nat.reduceAdd,Nat.reduceLeDiff,Nat.reduceMul,Nat.reduceBEq,aL,hf]|refine rd0 rfl ?_))
     rfl
    ·have hf':E=0:=by simpa using hf
     rw [if_pos hf'] at hb
     (repeat (first|simp only [↓QA,QB,Nat.reduceLT,reduceIte,Nat.reduceEqDiff,Nat.reduceAdd,Nat.reduceLeDiff,Nat.reduceMul,Nat.reduceBEq,aL,hf,hw]|refine rd0 rfl ?_))
     refine ⟨k+1,⟨by omega,hb⟩,by omega,?_⟩
     try simp only [aD,QE,Nat.reduceLT,reduceIte,Nat.reduceEqDiff,Nat.reduceAdd,Nat.reduceLeDiff,Nat.reduceMul,Nat.reduceBEq,aL,hw]
     try simp [aN]
   ·have hk1:k=v.rails.length:=by simp at hd;omega
    rw [g9 hk1] at hb
    rw [←hb]
    (repeat (first|simp only [↓QA,QB,Nat.reduceLT,reduceIte,Nat.reduceEqDiff,Nat.reduceAdd,Nat.reduceLeDiff,Nat.reduceMul,Nat.reduceBEq,aL]|refine rd0 rfl ?_))
    cases h6:decide ((3:Int)<(v.trams.length:Int))
    case' true =>
     have h6':3<v.trams.length:=by first|(have:=of_decide_eq_false h6;omega)|(have:=of_decide_eq_true h6;omega)
     (repeat (first|simp only [↓QA,QB,Nat.reduceLT,reduceIte,Nat.reduceEqDiff,Nat.reduceAdd,Nat.reduceLeDiff,Nat.reduceMul,Nat.reduceBEq,aL]|refine rd0 rfl ?_))
     simp [kW,h6',n7]
    have h6':¬3<v.trams.length:=by first|(have:=of_decide_eq_false h6;omega)|(have:=of_decide_eq_true h6;omega)
    have hc:kW v=match aS (gQ v) v.trams 0 with|some (i,e)=>(3,(i:Int),e)|none=>kV v:=by simp only [kW,h6',if_false];try rfl
    rw [hc]
    (repeat (first|simp only [↓QA,QB,Nat.reduceLT,reduceIte,Nat.reduceEqDiff,Nat.reduceAdd,Nat.reduceLeDiff,Nat.reduceMul,Nat.reduceBEq,aL]|refine rd0 rfl ?_))
    refine pU 7 1 [] rfl ?_
    refine dF (S:=Nat×Bool) (0,false) (fun s=>s.1≤v.trams.length∧aS (gQ v) (v.trams.drop s.1) s.1=aS (gQ v) v.trams 0) (fun s=>v.trams.length-s.1)
     (fun s=>[(1,.ptr 0 0),(7,.lit (((v.trams.take s.1).map Tram.name).map .str) false (some 1)),(8,.int .i64 s.1)]) (fun s=>[.cells (aB v),.tok 1 s.1 s.2]) ⟨Nat.zero_le _,by simp⟩ (by simp [aB,ints]) ?_ fun s hs=>?_
    ·try simp only [aD,QE,Nat.reduceLT,reduceIte,Nat.reduceEqDiff,Nat.reduceAdd,Nat.reduceLeDiff,Nat.reduceMul,Nat.reduceBEq,aL]
     try simp
    ·obtain ⟨k,ex⟩:=s
     obtain ⟨hk,hb⟩:=hs
     simp only at hk hb
     have hlen:((v.trams.take k).map Tram.name).length=k:=by simp [hk]
     (repeat (first|simp only [↓QA,QB,Nat.reduceLT,reduceIte,Nat.reduceEqDiff,Nat.reduceAdd,Nat.reduceLeDiff,Nat.reduceMul,Nat.reduceBEq,aL,UW]|refine rd0 rfl ?_))
     refine aI (fun hd=>?_) fun hd=>?_
     ·have hk1:k<v.trams.length:=by simpa using hd
      rw [gL hk1] at hb
      have hw:=cR hk1 hft
      have hap:=fun (τ:St)=>H7 (k:=k) (ns:=(v.trams.take k).map Tram.name) (s:=v.trams[k].name) (b:=.cells (aB v)) (ex:=ex) (τ:=τ) hlen (by omega)
      simp only [aK] at hap
      have hset:gQ v k v.trams[k]=if fresh v.trams[k].name ((v.trams.take k).map Tram.name)=0 then fF v v.trams[k] else fresh v.trams[k].name ((v.trams.take k).map Tram.name):=rfl
      have hfre:=OP v.trams[k].name ((v.trams.take k).map Tram.name) (h.names _ (List.getElem_mem hk1)) (by rw [hlen];omega)
      have htn:=J4 hk1
      obtain ⟨p,hpe⟩:∃ p,v.trams[k]=p:=⟨_,rfl⟩
      rw [hpe] at hset hap hb htn hfre
      obtain ⟨F,hF⟩:∃ F,fresh p.name ((v.trams.take k).map Tram.name)=F:=⟨_,rfl⟩
      rw [hF] at hset hfre
      have htr:=OI v p hst (by omega)
      obtain ⟨E,hE⟩:∃ E,fF v p=E:=⟨_,rfl⟩
      rw [hE] at htr hset
      (repeat (first|simp only [↓QA,QB,Nat.reduceLT,reduceIte,Nat.reduceEqDiff,Nat.reduceAdd,Nat.reduceLeDiff,Nat.reduceMul,Nat.reduceBEq,aL,hk1,hpe]|refine rd0 rfl ?_))
      ((first|refine w8 (hfre) (by try simp only [QS,QC,Nat.reduceLT,reduceIte,Nat.reduceEqDiff,Nat.reduceAdd,Nat.reduceLeDiff,Nat.reduceMul,Nat.reduceBEq,aL]) trivial ?_|refine B8 (hfre) (by try simp only [QS,QC,Nat.reduceLT,reduceIte,Nat.reduceEqDiff,Nat.reduceAdd,Nat.reduceLeDiff,Nat.reduceMul,Nat.reduceBEq,aL]) trivial ?_);(repeat (first|simp only [↓QA,QB,Nat.reduceLT,reduceIte,Nat.reduceEqDiff,Nat.reduceAdd,Nat.reduceLeDiff,Nat.reduceMul,Nat.reduceBEq,aL,hk1,hpe,hap]|refine rd0 rfl ?_)))
      cases hf:(F==0)
      ·have hf':F≠0:=by simpa using hf
       rw [if_neg hf'] at hset
       rw [hset,if_neg hf'] at hb
       rw [←hb]
       (repeat (first|simp only [↓QA,QB,Nat.reduceLT,reduceIte,Nat.reduceEqDiff,Nat.reduceAdd,Nat.reduceLeDiff,Nat.reduceMul,Nat.reduceBEq,aL,hf]|refine rd0 rfl ?_))
       rfl
      ·have hf':F=0:=by simpa using hf
       rw [if_pos hf'] at hset
       rw [hset] at hb
       (repeat (first|simp only [↓QA,QB,Nat.reduceLT,reduceIte,Nat.reduceEqDiff,Nat.reduceAdd,Nat.reduceLeDiff,Nat.reduceMul,Nat.reduceBEq,aL,hf,hk1,hpe]|refine rd0 rfl ?_))
       ((first|refine aF (htr) rfl dd ?_|refine aG (htr) rfl dd ?_);(repeat (first|simp only [↓QA,QB,Nat.reduceLT,reduceIte,Nat.reduceEqDiff,Nat.reduceAdd,Nat.reduceLeDiff,Nat.reduceMul,Nat.reduceBEq,aL,hk1,hpe]|refine rd0 rfl ?_)))
       cases h9:(E==0)
       ·have h9':E≠0:=by simpa using h9
        rw [if_neg h9'] at hb
        (repeat (first|simp only [↓QA,QB,Nat.reduceLT,reduceIte,Nat.reduceEqDiff,Nat.reduceAdd,Nat.reduceLeDiff,Nat.reduceMul,Nat.reduceBEq,aL,h9]|refine rd0 rfl ?_))
        rw [←hb]
        rfl
       ·have h9':E=0:=by simpa using h9
        rw [if_pos h9'] at hb
        (repeat (first|simp only [↓QA,QB,Nat.reduceLT,reduceIte,Nat.reduceEqDiff,Nat.reduceAdd,Nat.reduceLeDiff,Nat.reduceMul,Nat.reduceBEq,aL,h9,hw]|refine rd0 rfl ?_))
        refine ⟨(k+1,true),⟨by simp only;omega,hb⟩,by simp only;omega,?_⟩
        try simp only [aD,QE,Nat.reduceLT,reduceIte,Nat.reduceEqDiff,Nat.reduceAdd,Nat.reduceLeDiff,Nat.reduceMul,Nat.reduceBEq,aL,htn,hw]
        try simp [aN]
     ·have hk1:k=v.trams.length:=by simp at hd;omega
      rw [g9 hk1] at hb
      rw [←hb,hk1]
      (repeat (first|simp only [↓QA,QB,Nat.reduceLT,reduceIte,Nat.reduceEqDiff,Nat.reduceAdd,Nat.reduceLeDiff,Nat.reduceMul,Nat.reduceBEq,aL]|refine rd0 rfl ?_))
      cases h7:decide ((3:Int)<(v.seen.length:Int))
      case' true =>
       have h7':3<v.seen.length:=by first|(have:=of_decide_eq_false h7;omega)|(have:=of_decide_eq_true h7;omega)
       (repeat (first|simp only [↓QA,QB,Nat.reduceLT,reduceIte,Nat.reduceEqDiff,Nat.reduceAdd,Nat.reduceLeDiff,Nat.reduceMul,Nat.reduceBEq,aL]|refine rd0 rfl ?_))
       simp [kV,h7',n7]
      have h7':¬3<v.seen.length:=by first|(have:=of_decide_eq_false h7;omega)|(have:=of_decide_eq_true h7;omega)
      have hc:kV v=match aS (gO v) v.seen 0 with|some (i,e)=>(4,(i:Int),e)|none=>(0,0,0):=by simp only [kV,h7',if_false];try rfl
      rw [hc]
      have hwl:IntKind.i64.wrap ((v.trams.length:Int)-1)=(v.trams.length:Int)-1:=dU ⟨by omega,by omega⟩
      (repeat (first|simp only [↓QA,QB,Nat.reduceLT,reduceIte,Nat.reduceEqDiff,Nat.reduceAdd,Nat.reduceLeDiff,Nat.reduceMul,Nat.reduceBEq,aL]|refine rd0 rfl ?_))
      refine dF (S:=Nat) 0 (fun k=>k≤v.seen.length∧aS (gO v) (v.seen.drop k) k=aS (gO v) v.seen 0) (fun k=>v.seen.length-k)
       (fun k=>[(1,.ptr 0 0),(10,.int .i64 k)]) (fun _=>[.cells (aB v),.tok 1 v.trams.length ex]) ⟨Nat.zero_le _,by simp⟩ (by simp [aB,ints]) ?_ fun m hm=>?_
      ·try simp only [aD,QE,Nat.reduceLT,reduceIte,Nat.reduceEqDiff,Nat.reduceAdd,Nat.reduceLeDiff,Nat.reduceMul,Nat.reduceBEq,aL]
       try simp
      ·obtain ⟨hm,hbm⟩:=hm
       (repeat (first|simp only [↓QA,QB,Nat.reduceLT,reduceIte,Nat.reduceEqDiff,Nat.reduceAdd,Nat.reduceLeDiff,Nat.reduceMul,Nat.reduceBEq,aL,V7]|refine rd0 rfl ?_))
       refine aI (fun hd3=>?_) fun hd3=>?_
       ·have hm1:m<v.seen.length:=by simpa using hd3
        rw [gL hm1] at hbm
        have hw3:=cR hm1 hfs
        obtain ⟨x,hx⟩:∃ x,v.seen[m]=x:=⟨_,rfl⟩
        rw [hx] at hbm
        have hle:gO v m x=if inR x.tram 0 ((v.trams.length:Int)-1)=false then 4 else if inR x.minute (-1) 400=false then 7 else 0:=rfl
        rw [hle] at hbm
        (repeat (first|simp only [↓QA,QB,Nat.reduceLT,reduceIte,Nat.reduceEqDiff,Nat.reduceAdd,Nat.reduceLeDiff,Nat.reduceMul,Nat.reduceBEq,aL,hm1,hx,hwl]|refine rd0 rfl ?_))
        ((first|refine aF (eV x.tram 0 ((v.trams.length:Int)-1)) rfl dd ?_|refine aG (eV x.tram 0 ((v.trams.length:Int)-1)) rfl dd ?_);(repeat (first|simp only [↓QA,QB,Nat.reduceLT,reduceIte,Nat.reduceEqDiff,Nat.reduceAdd,Nat.reduceLeDiff,Nat.reduceMul,Nat.reduceBEq,aL,hm1,hx,hwl]|refine rd0 rfl ?_)))
        cases hi:inR x.tram 0 ((v.trams.length:Int)-1)
        ·rw [hi] at hbm
         (repeat (first|simp only [↓QA,QB,Nat.reduceLT,reduceIte,Nat.reduceEqDiff,Nat.reduceAdd,Nat.reduceLeDiff,Nat.reduceMul,Nat.reduceBEq,aL,hm1]|refine rd0 rfl ?_))
         rw [←hbm]
         rfl
        ·rw [hi] at hbm
         simp only [Bool.true_eq_false,if_false] at hbm
         (repeat (first|simp only [↓QA,QB,Nat.reduceLT,reduceIte,Nat.reduceEqDiff,Nat.reduceAdd,Nat.reduceLeDiff,Nat.reduceMul,Nat.reduceBEq,aL,hm1,hx]|refine rd0 rfl ?_))
         ((first|refine aF (eV x.minute (-1) 400) rfl dd ?_|refine aG (eV x.minute (-1) 400) rfl dd ?_);(repeat (first|simp only [↓QA,QB,Nat.reduceLT,reduceIte,Nat.reduceEqDiff,Nat.reduceAdd,Nat.reduceLeDiff,Nat.reduceMul,Nat.reduceBEq,aL,hm1,hx]|refine rd0 rfl ?_)))
         cases hi2:inR x.minute (-1) 400
         ·rw [hi2] at hbm
          (repeat (first|simp only [↓QA,QB,Nat.reduceLT,reduceIte,Nat.reduceEqDiff,Nat.reduceAdd,Nat.reduceLeDiff,Nat.reduceMul,Nat.reduceBEq,aL,hm1]|refine rd0 rfl ?_))
          rw [←hbm]
          simp [n7]
         ·rw [hi2] at hbm
          (repeat (first|simp only [↓QA,QB,Nat.reduceLT,reduceIte,Nat.reduceEqDiff,Nat.reduceAdd,Nat.reduceLeDiff,Nat.reduceMul,Nat.reduceBEq,aL,hm1,hw3]|refine rd0 rfl ?_))
          refine ⟨m+1,⟨by omega,by rw [←hbm];rfl⟩,by omega,?_⟩
          try simp only [aD,QE,Nat.reduceLT,reduceIte,Nat.reduceEqDiff,Nat.reduceAdd,Nat.reduceLeDiff,Nat.reduceMul,Nat.reduceBEq,aL,hw3]
          try simp
       ·have hm1:m=v.seen.length:=by simp at hd3;omega
        rw [g9 hm1] at hbm
        rw [←hbm]
        (repeat (first|simp only [↓QA,QB,Nat.reduceLT,reduceIte,Nat.reduceEqDiff,Nat.reduceAdd,Nat.reduceLeDiff,Nat.reduceMul,Nat.reduceBEq,aL]|refine rd0 rfl ?_))
        rfl
def eM (v:Net):List Int→Int→List Int→Option Int
 |[],s,_=>some s
 |r::l,s,met=>if s=0∨cA (cB v r) s<0∨met.contains (cA (cB v r) s)=true then none else eM v l (cA (cB v r) s) (met++[cA (cB v r) s])
def gN (v:Net) (s:Int) (p:List Int):Bool:=match eM v p s [s] with|some o=>o==0&&!p.isEmpty|none=>false
def eD (v:Net) (s:Int) (p:List Int):Bool:=match eM v p s [s] with|some o=>!(o==0)|none=>false
theorem oS (v:Net):∀ (l:List Int) (s:Int) (met:List Int),s≠0→iM v l s met=(match eM v l s met with|some o=>o==0|none=>false)
 |[],s,met,h=>by simp [iM,eM]
 |r::l,s,met,h=>by
  simp only [iM,eM]
  obtain ⟨o,ho⟩:∃ o,cA (cB v r) s=o:=⟨_,rfl⟩
  rw [ho]
  by_cases h1:o<0
  ·simp [h1]
  ·by_cases h2:met.contains o=true
   ·rw [if_pos (.inr (.inl h2)),if_pos (.inr (.inr h2))]
   ·by_cases h3:o=0
    ·subst h3
     rw [if_neg (show ¬(s=0∨(0:Int)<0∨met.contains 0=true) from fun q=>by rcases q with q|q|q;exact h q;omega;exact h2 q)]
     cases l with
     |nil=>rw [if_neg (by simp only [ne_eq,not_true_eq_false,and_false,or_false];exact fun q=>by rcases q with q|q;omega;exact h2 q)];simp [iM,eM]
     |cons x l=>rw [if_pos (.inr (.inr ⟨rfl,by simp⟩))];simp [eM]
    ·rw [if_neg (fun q=>by rcases q with q|q|q;exact h1 q;exact h2 q;exact h3 q.1),if_neg (fun q=>by rcases q with q|q|q;exact h q;exact h1 q;exact h2 q)]
     exact oS v l o _ h3
theorem vV {v:Net} {s:Int} {p:List Int} (h:1≤p.length∧p.length≤4):d7 v s p=gN v s p:=by
 have h1:inR p.length 1 4=true:=cW.2 (by omega)
 have he:p.isEmpty=false:=by cases p<;>simp at h ⊢
 rw [d7,gN,he]
 by_cases hs:s=0
 ·rw [if_pos (.inr hs),hs]
  cases p with
  |nil=>simp at he
  |cons x l=>simp [eM]
 ·rw [if_neg (by simp [h1,hs]),oS v p s [s] hs]
  cases eM v p s [s]<;>simp
theorem zJ (v:Net) (r:Int) (t:List Int):∀ (l:List Int) (s:Int) (met:List Int) (x:Int),eM v (l++r::t) s met=some x→∃ o,eM v l s met=some o∧o≠0
 |[],s,met,x,h=>by
  simp only [List.nil_append,eM] at h
  split at h
  ·cases h
  ·rename_i hn
   exact ⟨s,rfl,fun e=>hn (.inl e)⟩
 |y::l,s,met,x,h=>by
  simp only [List.cons_append,eM] at h ⊢
  split at h
  ·cases h
  ·rename_i hn
   rw [if_neg hn]
   exact zJ v r t l _ _ x h
theorem FV {r:Rail} {s:Int} (h:¬cA r s<0):(s=r.a∧cA r s=r.b)∨(s=r.b∧cA r s=r.a):=by
 unfold cA at h ⊢
 split
 ·rename_i h1;exact .inl ⟨h1,rfl⟩
 ·rename_i h1
  rw [if_neg h1] at h
  split
  ·rename_i h2;exact .inr ⟨h2,rfl⟩
  ·rename_i h2
   rw [if_neg h2] at h
   omega
theorem EG (v:Net) (r:Int):∀ (l:List Int) (s:Int) (met:List Int),(cB v r).a∈met→(cB v r).b∈met→r∈l→eM v l s met=none
 |[],s,met,_,_,h=>by cases h
 |y::l,s,met,ha,hb,h=>by
  simp only [eM]
  split
  ·rfl
  ·rename_i hn
   rcases List.mem_cons.1 h with rfl|h
   ·exfalso
    rw [not_or,not_or] at hn
    obtain ⟨h1,h2,h3⟩:=hn
    apply h3
    rw [List.contains_iff_mem]
    rcases FV h2 with ⟨_,e⟩|⟨_,e⟩<;>rw [e]<;>assumption
   ·exact EG v r l _ _ (List.mem_append_left _ ha) (List.mem_append_left _ hb) h
theorem oV (v:Net):∀ (l:List Int) (s:Int) (met:List Int) (x:Int),s∈met→eM v l s met=some x→l.Nodup
 |[],s,met,x,_,_=>List.nodup_nil
 |y::l,s,met,x,hs,h=>by
  simp only [eM] at h
  split at h
  ·cases h
  ·rename_i hn
   rw [not_or,not_or] at hn
   obtain ⟨h1,h2,h3⟩:=hn
   have hm:cA (cB v y) s∈met++[cA (cB v y) s]:=by simp
   have hs':s∈met++[cA (cB v y) s]:=List.mem_append_left _ hs
   refine List.nodup_cons.2 ⟨fun hy=>?_,oV v l _ _ x hm h⟩
   have hab:(cB v y).a∈met++[cA (cB v y) s]∧(cB v y).b∈met++[cA (cB v y) s]:=by
    rcases FV h2 with ⟨e1,e2⟩|⟨e1,e2⟩
    ·rw [←e1,←e2];exact ⟨hs',hm⟩
    ·rw [←e1,←e2];exact ⟨hm,hs'⟩
   rw [EG v y l _ _ hab.1 hab.2 hy] at h
   cases h
def nO (b:Int):List Int:=if b<0 then [] else [b]
def uK (v:Net) (b r:Int):Bool:=!(r==b)&&!decide ((cB v r).shut=1)
def E0 (v:Net) (b:Int) (l:List Int):List (List Int):=((aO 0 v.rails.length).filter (uK v b)).map fun r=>l++[r]
def rW (v:Net) (s b:Int):Nat→List (List Int)
 |0=>[[]]
 |k+1=>(rW v s b k).flatMap fun l=>(E0 v b l).filter (eD v s)
def CV (v:Net) (s b:Int):Nat→List (List Int)
 |0=>[]
 |k+1=>CV v s b k++(rW v s b k).flatMap fun l=>(E0 v b l).filter (gN v s)
theorem vT (v:Net) (but:List Int):∀ k,∀ l∈d4 v but k,l.length=k
 |0,l,h=>by simp [d4] at h;simp [h]
 |k+1,l,h=>by
  simp only [d4,List.mem_flatMap,s7,List.mem_map] at h
  obtain ⟨a,ha,r,_,rfl⟩:=h
  simp [vT v but k a ha]
theorem kP {α β:Type} (p:β→Bool) (f:α→List β):∀ l:List α,(l.flatMap f).filter p=l.flatMap fun x=>(f x).filter p
 |[]=>rfl
 |x::l=>by rw [List.flatMap_cons,List.filter_append,kP p f l,List.flatMap_cons]
theorem kO {α β:Type} (p:α→Bool) (f:α→List β):∀ l:List α,(l.filter p).flatMap f=l.flatMap fun x=>if p x=true then f x else []
 |[]=>rfl
 |x::l=>by
  rw [List.flatMap_cons,List.filter_cons,←kO p f l]
  split<;>simp
theorem zL {v:Net} {s b:Int} {q:List Int→Bool} {l:List Int} (h:∀ r,q (l++[r])=true→eD v s l=true∧r∉l):(s7 v (nO b) l).filter q=if eD v s l=true then (E0 v b l).filter q else []:=by
 have e:(s7 v (nO b) l).filter q=(E0 v b l).filter q:=by
  simp only [s7,E0,List.filter_map,List.filter_filter]
  congr 1
  refine List.filter_congr fun r hr=>?_
  have hr0:=(bU _ _ _).1 hr
  simp only [Function.comp_def]
  cases hq:q (l++[r]) with
  |false=>simp
  |true =>
   have hc:l.contains r=false:=by rw [Bool.eq_false_iff,Ne,List.contains_iff_mem];exact (h r hq).2
   have hb:(nO b).contains r=(r==b):=by
    unfold nO
    split
    ·rw [Bool.eq_iff_iff];simp;omega
    ·rw [Bool.eq_iff_iff];simp
   simp only [CM,uK,hc,hb,Bool.true_and,Bool.not_false,Bool.and_true]
   rw [Bool.and_comm]
 rw [e]
 split
 ·rfl
 ·rename_i hb
  rw [List.filter_eq_nil_iff]
  intro x hx
  simp only [E0,List.mem_map] at hx
  obtain ⟨r,_,rfl⟩:=hx
  intro hq
  exact hb (h r hq).1
theorem G9 {v:Net} {s:Int} {l:List Int} {r:Int} (h:eD v s (l++[r])=true):eD v s l=true∧r∉l:=by
 unfold eD at h
 split at h
 ·rename_i o ho
  obtain ⟨x,hx,h0⟩:=zJ v r [] l s [s] o ho
  refine ⟨by simp [eD,hx,h0],?_⟩
  have:=oV v _ s [s] o (by simp) ho
  rw [List.nodup_append] at this
  intro hm
  exact this.2.2 r hm r (by simp) rfl
 ·cases h
theorem K9 {v:Net} {s:Int} {l:List Int} {r:Int} (h:gN v s (l++[r])=true):eD v s l=true∧r∉l:=by
 unfold gN at h
 split at h
 ·rename_i o ho
  obtain ⟨x,hx,h0⟩:=zJ v r [] l s [s] o ho
  refine ⟨by simp [eD,hx,h0],?_⟩
  have:=oV v _ s [s] o (by simp) ho
  rw [List.nodup_append] at this
  intro hm
  exact this.2.2 r hm r (by simp) rfl
 ·cases h
theorem tC {v:Net} {s b:Int} (hs:s≠0):∀ k,rW v s b k=(d4 v (nO b) k).filter (eD v s)
 |0=>by
  have h:eD v s []=true:=by simp [eD,eM,hs]
  simp only [rW,d4,List.filter_cons,h,if_true,List.filter_nil]
 |k+1=>by
  simp only [rW,d4]
  rw [tC hs k,kP,kO]
  congr 1
  funext l
  exact (zL fun r=>G9).symm
theorem C6 {v:Net} {s b:Int} (hs:s≠0):∀ k,k≤4→CV v s b k=d5 v s (nO b) k
 |0,_=>rfl
 |k+1,hk=>by
  simp only [CV,d5,d4]
  rw [C6 hs k (by omega),tC hs k,kO]
  congr 1
  have e:((d4 v (nO b) k).flatMap (s7 v (nO b))).filter (d7 v s)=((d4 v (nO b) k).flatMap (s7 v (nO b))).filter (gN v s):=by
   refine List.filter_congr fun l hl=>?_
   have:=vT v (nO b) (k+1) l hl
   exact vV (by omega)
  rw [e,kP]
  congr 1
  funext l
  exact (zL fun r=>K9).symm
theorem JZ (v:Net) (but:List Int):cF v 0 but=[]:=by
 have key:∀ k,d5 v 0 but k=[]:=by
  intro k
  induction k with
  |zero=>rfl
  |succ k ih =>
   rw [d5,ih,List.nil_append,List.filter_eq_nil_iff]
   intro l _
   simp [d7]
 exact key 4
theorem aDA (v:Net) {s b:Int} (hs:s≠0):CV v s b 4=cF v s (nO b):=C6 hs 4 (Nat.le_refl _)
def sH (ss:List Stay) (rail m s t:Int):Prop:=s≤t∧ss.any (iG rail t m)=false∧∀ y,s≤y→y<t→ss.any (iG rail y m)=true
theorem LW {ss:List Stay} {rail m s t u:Int} (h:sH ss rail m s t) (k:sH ss rail m s u):t=u:=by
 obtain ⟨h1,h2,h3⟩:=h
 obtain ⟨k1,k2,k3⟩:=k
 by_cases a:t<u
 ·rw [k3 t h1 a] at h2;cases h2
 ·by_cases b:u<t
  ·rw [h3 u k1 b] at k2;cases k2
  ·omega
theorem vF {ss:List Stay} {rail m s B:Int} (hB:∀ x∈ss,x.til≤B) (h:ss.any (iG rail s m)=true):s<B:=by
 rw [List.any_eq_true] at h
 obtain ⟨x,hx,hc⟩:=h
 have:=hB x hx
 simp [iG] at hc
 omega
theorem BK {ss:List Stay} {rail m B:Int} (hB:∀ x∈ss,x.til≤B):∀ (k:Nat) (s:Int),B≤s+k→sH ss rail m s (sW ss rail m k s)
 |0,s,h=>⟨by simp [sW],by
   rw [sW,Bool.eq_false_iff]
   intro hc
   have:=vF hB hc
   omega,fun y h1 h2=>by simp [sW] at h2;omega⟩
 |k+1,s,h=>by
  rw [sW]
  split
  ·rename_i hc
   obtain ⟨h1,h2,h3⟩:=BK hB k (s+1) (by omega)
   refine ⟨by omega,h2,fun y q1 q2=>?_⟩
   by_cases e:y=s
   ·subst e;exact hc
   ·exact h3 y (by omega) q2
  ·rename_i hc
   exact ⟨Int.le_refl _,by simpa using hc,fun y q1 q2=>by omega⟩
theorem AM {ss:List Stay} {rail m B s:Int} (hB:∀ x∈ss,x.til≤B) (h:B≤s+1000):sH ss rail m s (jT ss rail s m):=BK hB 1000 s h
theorem TE {ss:List Stay} {rail m B s t:Int} (hB:∀ x∈ss,x.til≤B) (h:sH ss rail m s t) (hs:s≤B):t≤B:=by
 by_cases e:s=t
 ·omega
 ·have h1:=h.1
  have:=vF hB (h.2.2 (t-1) (by omega) (by omega))
  omega
theorem GJ {rail m s:Int} {x:Stay} (h:iG rail s m x=true) {y:Int} (h1:s≤y) (h2:y<x.til):iG rail y m x=true:=by
 simp [iG] at h ⊢
 omega
theorem zB {rail m s:Int} {x:Stay} (h:iG rail s m x=true):s<x.til:=by
 simp [iG] at h
 omega
def qQ (ss:List Stay) (rail m s t:Int):Prop:=s≤t∧∀ y,s≤y→y<t→ss.any (iG rail y m)=true
theorem LC (ss:List Stay) (rail m s:Int):qQ ss rail m s s:=⟨Int.le_refl _,fun y h1 h2=>by omega⟩
theorem L4 {ss:List Stay} {rail m s t u:Int} {x:Stay} (h:qQ ss rail m s t) (hx:x∈ss) (ht:t≤u) (hc:iG rail u m x=true) (hm:∀ y,t≤y→y<u→ss.any (iG rail y m)=true):qQ ss rail m s x.til:=by
 have:=zB hc
 refine ⟨by have:=h.1;omega,fun y h1 h2=>?_⟩
 by_cases a:y<t
 ·exact h.2 y h1 a
 ·by_cases b:y<u
  ·exact hm y (by omega) b
  ·rw [List.any_eq_true]
   exact ⟨x,hx,GJ hc (by omega) h2⟩
theorem LV {ss:List Stay} {rail m s t:Int} (h:qQ ss rail m s t) (hf:ss.any (iG rail t m)=false):sH ss rail m s t:=⟨h.1,hf,h.2⟩
theorem IR {ss:List Stay} {rail m B s t:Int} (hB:∀ x∈ss,x.til≤B) (h:qQ ss rail m s t) (hs:s≤B):t≤B:=by
 by_cases e:s=t
 ·omega
 ·have h1:=h.1
  have:=vF hB (h.2 (t-1) (by omega) (by omega))
  omega
structure RunOk (v:Net) (ps:List (List Int)):Prop where
 len:ps.length=v.trams.length
 few:∀ p∈ps,p.length≤4
 rails:∀ p∈ps,∀ r∈p,0≤r∧r<v.rails.length
def C7 (v:Net) (m:Int→Int):Prop:=∀ r:Int,0≤r→r<v.rails.length→0≤m r∧m r≤20
structure StaysOk (ss:List Stay) (n:Nat):Prop where
 len:ss.length≤n
 til:∀ x∈ss,x.til≤60+20*n
 frm:∀ x∈ss,0≤x.frm
theorem D6 {ss:List Stay} {n k:Nat} (h:StaysOk ss n) (hk:n≤k):StaysOk ss k:=⟨by have:=h.len;omega,fun x hx=>by have:=h.til x hx;omega,h.frm⟩
theorem JF {ss:List Stay} {n:Nat} (h:StaysOk ss n) (hn:n≤40) {rail m s:Int} (h0:0≤s) (hs:s≤60+20*n):sH ss rail m s (jT ss rail s m)∧s≤jT ss rail s m∧jT ss rail s m≤60+20*n:=by
 have h1:=AM (rail:=rail) (m:=m) h.til (show (60:Int)+20*n≤s+1000 by omega)
 exact ⟨h1,h1.1,TE h.til h1 hs⟩
theorem NI {m:Int→Int} {i:Int}:∀ (l:List Int) (a:Int) (ss:List Stay) (n:Nat),StaysOk ss n→n+l.length≤40→0≤a→a≤60+20*n→(∀ r∈l,0≤m r∧m r≤20) →
  StaysOk (pA m i l a ss).1 (n+l.length)∧a≤(pA m i l a ss).2∧(pA m i l a ss).2≤60+20*(n+l.length:Nat)
 |[],a,ss,n,h,hn,h0,h1,hm=>by simp only [pA,List.length_nil,Nat.add_zero];exact ⟨h,Int.le_refl _,h1⟩
 |r::l,a,ss,n,h,hn,h0,h1,hm=>by
  simp only [List.length_cons] at hn ⊢
  obtain ⟨f1,f2,f3⟩:=JF (rail:=r) (m:=m r) h (by omega) h0 h1
  have hmr:=hm r (by simp)
  simp only [pA]
  obtain ⟨q1,q2,q3⟩:=NI (m:=m) (i:=i) l (jT ss r a (m r)+m r) (ss++[⟨i,r,jT ss r a (m r),jT ss r a (m r)+m r⟩]) (n+1) ⟨by have:=h.len;simp;omega,fun x hx=>by
   rcases List.mem_append.1 hx with hx|hx
   ·have:=h.til x hx;omega
   ·simp only [List.mem_singleton] at hx;subst hx;simp only;omega,fun x hx=>by
   rcases List.mem_append.1 hx with hx|hx
   ·exact h.frm x hx
   ·simp only [List.mem_singleton] at hx;subst hx;simp only;omega⟩ (by omega) (by omega) (by omega) (fun x hx=>hm x (by simp [hx]))
  rw [show n+(l.length+1)=n+1+l.length by omega]
  exact ⟨q1,by omega,q3⟩
theorem BD {v:Net} {i:Nat} (h:i<v.trams.length):mD v i=v.trams[i].leaves:=by simp [mD,h]
theorem Q6 {m:Int→Int} {i a:Int} {l:List Int} {ss:List Stay} {n:Nat} (h:StaysOk ss n) (hn:n+l.length≤40) (h0:0≤a) (h1:a≤60) (hm:∀ r∈l,0≤m r∧m r≤20) :
  StaysOk (m7 m i a l ss).1 (n+l.length)∧-1≤(m7 m i a l ss).2∧(m7 m i a l ss).2≤60+20*(n+l.length:Nat):=by
 unfold m7
 split
 ·exact ⟨D6 h (by omega),by simp only;omega,by simp only;omega⟩
 ·obtain ⟨q1,q2,q3⟩:=NI (i:=i) l a ss n h hn h0 (by omega) hm
  exact ⟨q1,by omega,q3⟩
theorem wR (v:Net) (m:Int→Int) (ps:List (List Int)):∀ k,(fG v m ps k).2.length=k
 |0=>rfl
 |k+1=>by simp [fG,wR v m ps k]
theorem E4 {v:Net} {ps:List (List Int)} (h:RunOk v ps) {i:Nat} (hi:i<v.trams.length):eH ps i∈ps:=by
 have:i<ps.length:=by rw [h.len];exact hi
 simp [eH,this]
theorem O2 {v:Net} (hv:Vd v) {m:Int→Int} (hm:C7 v m) {ps:List (List Int)} (hp:RunOk v ps):∀ k,k≤v.trams.length→StaysOk (fG v m ps k).1 (4*k)∧∀ c∈(fG v m ps k).2,-1≤c∧c≤300
 |0,_=>⟨⟨by simp [fG],by simp [fG],by simp [fG]⟩,by simp [fG]⟩
 |k+1,hk=>by
  have hn:=hv.ntr
  obtain ⟨h1,h2⟩:=O2 hv hm hp k (by omega)
  have ht:=xC hv (show k<v.trams.length by omega)
  have hpm:=E4 hp (show k<v.trams.length by omega)
  have hpl:=hp.few _ hpm
  have h60:=ht.leaves
  rw [←BD (show k<v.trams.length by omega)] at h60
  obtain ⟨q1,q2,q3⟩:=Q6 (m:=m) (i:=k) (a:=mD v k) (l:=eH ps k) h1 (by omega) h60.1 h60.2 (fun r hr=>by
   have:=hp.rails _ hpm r hr
   exact hm r this.1 this.2)
  simp only [fG]
  refine ⟨D6 q1 (by omega),fun c hc=>?_⟩
  rcases List.mem_append.1 hc with hc|hc
  ·exact h2 c hc
  ·simp only [List.mem_singleton] at hc
   subst hc
   omega
theorem W6 {v:Net} (hv:Vd v):RunOk v (lR v):=by
 have key:∀ p∈lR v,p.length≤4∧∀ r∈p,0≤r∧r<v.rails.length:=by
  intro p hp
  simp only [lR,List.mem_map] at hp
  obtain ⟨t,ht,rfl⟩:=hp
  obtain ⟨i,hi,rfl⟩:=List.getElem_of_mem ht
  have:=xC hv hi
  exact ⟨this.len.2,this.path⟩
 exact ⟨by simp [lR],fun p hp=>(key p hp).1,fun p hp=>(key p hp).2⟩
end Go.Am.Room
