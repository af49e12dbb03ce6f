/- A part of the proof of TramHurts: an abstract machine, or what functions come to on it. -/
import Derived.Test.YtnjlkiflililkaaTramHurtsQ2
import Derived.WalkKit
import Derived.ChangeArms
import Derived.SizedLaws
import Derived.ChangeBears
import Derived.ChangeShapes
import Derived.WideShapes
import Derived.ProofKit
import Derived.OpenShut
import Derived.Lib.Strings
import Derived.Laws.RangeAny
set_option linter.unusedVariables false
set_option linter.unusedSimpArgs false
set_option linter.defProp false
namespace Go.Am
variable {P:Program} {hh:String→Bool} {G G0 G1 G2 G':Gh} {w w0 w1 w2 w':World} {σ σ' σ1 σ2:St} {env env':Env} {n m m':Nat} {v:AV} {a:Act} {Q R:Out→Prop}
theorem IC {c:ACode} (h:cG P hh (.code c env σ) R) (h1:∀ o,R o→Q o∨∃ env'' σ'',vI σ o.env o.σ env'' σ''∧Q ⟨o.j,env'',σ'',o.v⟩):cG P hh (.code c env σ) Q:=by
 intro F n cd G w a B f1 f2 f3 f4 f5 f6
 refine (h f1 f2 (f3.ghost (G':=G.shut σ) rfl rfl rfl rfl) f4.shut (f5.mono fun r e=>e) f6).mono fun e a' w' hp=>?_
 obtain ⟨o,G1,q1,q2,q3,q4,q5,q6⟩:=hp
 rcases h1 o q1 with hq|⟨env'',σ'',⟨t1,t2,t3,t4⟩,hq⟩
 ·refine ⟨o,{ G1 with res:=G.res },hq,q2,q3.ghost rfl rfl rfl rfl,q4.reserve _ fun id x e=>?_,?_,q6.mono fun r e=>e⟩
  ·exact q4.res id x (q5.res _ _ ((jK f4).res _ _ e))
  ·have h2:=(jK f4).trans q5
   exact ⟨h2.loc,h2.lim,h2.tok,h2.own,h2.defs,h2.B0,h2.h0,h2.os,h2.tape,h2.output,h2.size,fun _ _ e=>e⟩
 have hL:=mN (m:=σ''.length) q4 G.res
 refine ⟨_,G1.cut w' o.σ σ''.length G.res,hq,q2,⟨q3.1,fun t=>?_⟩,DX f4 q5 q4 q3 t1 t2 t4,tI f4 q5 q4 t1,q6.mono fun r e=>e⟩
 show RelV _ _ (Env.get env'' t) _
 rcases u9 t3 t with hu|hu
 ·rw [hu];exact .undef _
 ·exact (q3.2 t).thin q4 hL hu
theorem GP {a0:ACode} {az:List ACode} {c:ACode} {S:Env→St→Prop} (h:cG P hh (.chain (a0::az) env σ) R) (h1:∀ o,R o→o.j≠none→Q o)
  (h2:∀ o,R o→o.j=none→∃ env1 σ1 env2 σ2,vI σ o.env o.σ env1 σ1∧((env2=env1∧σ2=σ1)∨I6 σ.length env1 σ1 env2 σ2)∧S env2 σ2)
  (h3:∀ env2 σ2,S env2 σ2→cG P hh (.code c env2 σ2) Q):cG P hh (.code (HQ (a0::az) c) env σ) Q:=by
 intro F n cd G w a B f1 f2 f3 f4 f5 f6
 have hwp:∀ K,cd.wpIn F 0 P K a w→wpL F P cd K a w:=by
  intro K hk
  simp only [HQ] at f2
  obtain ⟨x,y,rfl,_⟩:=yQ f2
  exact hk
 refine hwp _ (h f1 f2 (f3.ghost (G':=G.shut σ) rfl rfl rfl rfl) f4.shut (f5.mono fun r e=>e) f6 (fun d o G1 a' w' p1 p2 p3 p4 p5 p6 p7 p8=>?_) fun o G1 a' w' p1 p2 p3 p4 p5 p6=>?_)
 ·obtain ⟨env1,σ1,env2,σ2,⟨t1,t2,t3,t4⟩,ht,hs⟩:=h2 o p3 p4
  have hL:=mN (m:=σ1.length) p6 G.res
  have hE1:eB (G1.cut w' o.σ σ1.length G.res) w' n env1 a'.tmps:=by
   refine ⟨p5.1,fun t=>?_⟩
   rcases u9 t3 t with hu|hu
   ·rw [hu];exact .undef _
   ·exact (p5.2 t).thin p6 hL hu
  have hS1:=DX f4 p7 p6 p5 t1 t2 t4
  have hV1:=tI f4 p7 p6 t1
  have hM1:nZ (G1.cut w' o.σ σ1.length G.res) B a'.defers:=p8.mono fun r e=>e
  rcases ht with ⟨rfl,rfl⟩|ht
  ·exact ((h3 _ _ hs p2 p1 hE1 hS1 hM1 (Nat.le_trans f6 p7.size)).mono fun e a w=>n5.lift hV1).wpIn
  ·obtain ⟨G3,s1,s2,s3,s4⟩:=IG f4 hV1 hS1 hE1 (fun id r e=>e) ht
   exact ((h3 _ _ hs p2 p1 s2 s1 (hM1.mono fun r e=>by rw [s4];exact e) (Nat.le_trans f6 p7.size)).mono fun e a w=>n5.lift s3).wpIn
 ·refine ⟨o,{ G1 with res:=G.res },h1 o p1 p2,rfl,p3.ghost rfl rfl rfl rfl,p4.reserve _ fun id x e=>?_,?_,p6.mono fun r e=>e⟩
  ·exact p4.res id x (p5.res _ _ ((jK f4).res _ _ e))
  ·have h2:=(jK f4).trans p5
   exact ⟨h2.loc,h2.lim,h2.tok,h2.own,h2.defs,h2.B0,h2.h0,h2.os,h2.tape,h2.output,h2.size,fun _ _ e=>e⟩
theorem AG (h:Q ⟨none,env,σ,.undef⟩):cG P hh (.chain [] env σ) Q:=by
 intro F n c0 cd G w a B K f1 f2 f3 f4 f5 f6 f7 f8
 exact f7 cd _ G a w f2 f1 h rfl f3 f4 (.refl _ _) f5
theorem zK {x:ACode} {az:List ACode} (h:cG P hh (.code x env σ) R) (h1:∀ o,R o→o.j=none→cG P hh (.chain az o.env o.σ) Q) (h2:∀ o,R o→o.j≠none→Q o):cG P hh (.chain (x::az) env σ) Q:=by
 intro F n c0 cd G w a B K f1 f2 f3 f4 f5 f6 f7 f8
 simp only [HQ] at f2
 obtain ⟨c,d,rfl,c1,c2⟩:=yQ f2
 refine wpIn_seq (wpIn_mono (h (oH f1 fun e=>by simp [mR] at e;exact e.1) c1 f3 f4 f5 f6).wpIn fun e a' w' hp=>?_)
 obtain ⟨o,G',q1,rfl,q3,q4,q5,q6⟩:=hp
 cases hj:o.j with
 |none =>
  refine (h1 o q1 hj) (oH f1 fun e=>by simp [mR] at e;exact e.2) c2 q3 q4 q6 (Nat.le_trans f6 q5.size) (fun d o2 G2 a2 w2 p1 p2 p3 p4 p5 p6 p7 p8=>f7 d o2 G2 a2 w2 p1 p2 p3 p4 p5 p6 (q5.trans p7) p8)
   fun o2 G2 a2 w2 p1 p2 p3 p4 p5 p6=>f8 o2 G2 a2 w2 p1 p2 p3 p4 (q5.trans p5) p6
 |some j =>
  have:=f8 o G' a' w' (h2 o q1 (by rw [hj];simp)) (by rw [hj];simp) q3 q4 q5 q6
  rw [hj] at this
  cases j<;>exact this
theorem RelV.free (hl:∀ b L,G.lim b=some L→(∀ t,G.own b≠some t)→∃ L',G'.lim b=some L'∧L≤L') (ho:∀ b L,G.lim b=some L→(∀ t,G.own b≠some t)→∀ t,G'.own b≠some t) {a:AV} {u:Value} (h:RelV G w a u) (hk:okV 0 a):RelV G' w a u:=by
 have htk:∀ {full tk n base cap},(∀ t,tk=some t→t<0)→kZ G full tk n base cap→kZ G' full tk n base cap:=fun q h=>⟨h.1,h.2.1,fun t e=>absurd (q t e) (by omega)⟩
 have hlit:∀ {xs tk b o sz},(∀ t,tk=some t→t<0)→LitAt G w xs tk b o sz→LitAt G' w xs tk b o sz:=by
  intro xs tk b o sz q ⟨⟨L,q1,q2⟩,q3,q4,q5⟩
  have hn:∀ t,G.own b≠some t:=fun t e=>absurd (q t (q3 t e)) (by omega)
  obtain ⟨L',r1,r2⟩:=hl b L q1 hn
  exact ⟨⟨L',r1,by omega⟩,fun t e=>absurd e (ho b L q1 hn t),q4,q5⟩
 induction h with
 |undef v=>exact .undef v
 |int k n=>exact .int k n
 |bool b=>exact .bool b
 |str s=>exact .str s
 |func e1 e2 _ _ e3 e4=>exact .func e1 e2 (fun i x u q1 q2=>e3 i x u q1 q2 (fR hk.1 q1)) (fun i x u q1 q2=>e4 i x u q1 q2 (fR hk.2 q1))
 |nilFunc=>exact .nilFunc
 |yield h=>exact absurd hk (by simp [okV])
 |ptr h=>exact absurd hk (by simp [okV])
 |nilPtr=>exact .nilPtr
 |lptr ht hi hl _ ih =>
  exact .lptr (fun t e=>absurd (hk.1 t e) (by omega)) hi (hlit hk.1 hl) fun i x j c u q1 q2 q3=>ih i x j c u q1 q2 q3 (tM (fR hk.2 q1) q2)
 |nil ht hb=>exact .nil (htk hk.1 ht) hb
 |lit ht hl _ ih=>exact .lit (htk hk.1 ht) (hlit hk.1 hl) fun i x j c u q1 q2 q3=>ih i x j c u q1 q2 q3 (tM (fR hk.2 q1) q2)
 |ref h hb hc hn=>exact absurd hk (by simp [okV])
 |map h=>exact absurd hk (by simp [okV])
 |nilMap=>exact .nilMap
 |agg h _ ih=>exact .agg h fun i x u q1 q2=>ih i x u q1 q2 (fR hk q1)
 |tuple h _ ih=>exact .tuple h fun i x u q1 q2=>ih i x u q1 q2 (fR hk q1)
theorem RelV.scal {a:AV} {u:Value} (h:RelV G w a u) (hk:Scal a):RelV G' w' a u:=by
 have hs:∀ {xs:List AV},Scals xs→∀ {i:Nat} {x:AV},xs[i]? = some x→Scal x:=by
  intro xs
  induction xs with
  |nil=>intro _ i x e;simp at e
  |cons y ys ih =>
   intro h (i:Nat) (x:AV) e
   cases i with
   |zero=>simp at e;subst e;exact h.1
   |succ i=>exact ih h.2 (by simpa using e)
 induction h with
 |undef v=>exact hk.elim
 |int k n=>exact .int k n
 |bool b=>exact .bool b
 |str s=>exact .str s
 |func e1 e2 _ _ e3 e4=>exact hk.elim
 |nilFunc=>exact hk.elim
 |yield h=>exact hk.elim
 |ptr h=>exact hk.elim
 |nilPtr=>exact hk.elim
 |lptr ht hi hl _ ih=>exact hk.elim
 |@nil full tk base cap ht hb =>
  cases tk with
  |none=>exact .nil ⟨ht.1,ht.2.1,fun t e=>by cases e⟩ hb
  |some t=>exact hk.elim
 |@lit xs full tk b o sz cap ht hl _ ih =>
  cases xs with
  |nil =>
   cases tk with
   |none=>exact .nil ⟨ht.1,ht.2.1,fun t e=>by cases e⟩ (fun e=>by cases e)
   |some t=>exact hk.elim
  |cons x xs=>cases tk<;>exact hk.elim
 |ref h hb hc hn=>exact hk.elim
 |map h=>exact hk.elim
 |nilMap=>exact hk.elim
 |agg h _ ih=>exact .agg h fun i x u q1 q2=>ih i x u q1 q2 (hs hk q1)
 |tuple h _ ih=>exact .tuple h fun i x u q1 q2=>ih i x u q1 q2 (hs hk q1)
open Classical in
noncomputable def Gh.fresh0 (G:Gh) (w:World) (lim:Nat→Option Nat) (old:Nat→Prop):Gh :=
  { loc:=fun _=>none,lim:=lim,tok:=fun _=>none,own:=fun _=>none,defs:=fun _=>False,B0:=w.heap.size
    h0:=w.heap++Array.ofFn (n:=w.heap.size) (fun i=>if old i then C2 else .deferred (some [])),res:=fun _=>none }
theorem zC {lim:Nat→Option Nat} {old:Nat→Prop} {b:Nat} (hb:b<w.heap.size):(G.fresh0 w lim old).h0[w.heap.size+b]? = some C2↔old b:=by
 simp only [Gh.fresh0]
 rw [Array.getElem?_append_right (by omega)]
 simp only [Nat.add_sub_cancel_left,Array.getElem?_ofFn,hb,dite_true,Option.some.injEq]
 split
 ·rename_i h;simp [h]
 ·rename_i h;simp [h,C2]
theorem sM {lim:Nat→Option Nat} {old:Nat→Prop} (hl:∀ b L,lim b=some L→old b∧∃ vs T fr,w.heap[b]? = some (.cells vs T fr)∧L≤vs.size):RelS P hh (G.fresh0 w lim old) w [] :=
 ⟨fun _ _ e=>(by cases e),fun _ _ _ e=>(by cases e),fun _ _ _ e=>(by cases e),fun _ _ e=>(by cases e),fun b L e=>by
  obtain ⟨h1,vs,T,fr,h2,h3⟩:=hl b L e
  exact ⟨vs,T,fr,h2,h3,fun hb=>(zC hb).2 h1⟩,fun _ _ _ _ e=>(by cases e),fun _ _ e=>(by cases e),fun _ e=>e.elim,
  fun b hb=>by simp only [Gh.fresh0];rw [Array.getElem?_append_left hb],Nat.le_refl _,fun _ _ e=>(by cases e)⟩
theorem BP {lim:Nat→Option Nat} {old:Nat→Prop} (hS:RelS P hh G w σ) (h1:RelS P hh G1 w' []) (he:Evo (G.fresh0 w lim old) w G1 w') (nl:Nat→Option Nat)
  (hn:∀ b,b<w.heap.size→(nl b=G.lim b)∨(∃ L L',G.lim b=some L∧(∀ t,G.own b≠some t)∧nl b=some L'∧L≤L'∧G1.lim b=some L')) (hn2:∀ b,w.heap.size≤b→nl b=G1.lim b) :
  RelS P hh { G with lim:=nl } w' σ∧Evo G w { G with lim:=nl } w':=by
 have hB:G1.B0=w.heap.size:=he.B0
 have hh0:G1.h0=_:=he.h0
 have heap:∀ b,b<w.heap.size→w'.heap[b]? = w.heap[b]?:=by
  intro b hb
  rw [h1.base b (by omega),hh0]
  simp only [Gh.fresh0]
  rw [Array.getElem?_append_left hb]
 have hsz:w.heap.size≤w'.heap.size:=he.size
 have lt:∀ {b L},G.lim b=some L→b<w.heap.size:=fun e=>by
  obtain ⟨vs,T,fr,q,_⟩:=hS.lim _ _ e
  exact (Array.getElem?_eq_some_iff.1 q).1
 have nlnone:∀ {b},b<w.heap.size→G.lim b=none→nl b=none:=by
  intro b hb e
  rcases hn b hb with h|⟨L,L',q,_⟩
  ·rw [h,e]
  ·rw [q] at e;cases e
 have hev:Evo G w { G with lim:=nl } w':=by
  refine ⟨fun _ _ h=>h,fun b L e=>?_,fun t b n c e=>⟨b,n,c,e,Nat.le_refl _,fun _=>⟨rfl,rfl⟩⟩,fun _ _ _ _ e=>e,fun _ e=>e,rfl,rfl,he.os,he.tape,he.output,hsz,fun _ _ e=>e⟩
  have hb:=lt e
  have hc:∀ k,k<L→w'.cell? ⟨b,k,none⟩=w.cell? ⟨b,k,none⟩:=by
   intro k _
   obtain ⟨vs,T,fr,q,_⟩:=hS.lim _ _ e
   rw [cell_of_row w b k vs T fr q,cell_of_row w' b k vs T fr (by rw [heap b hb];exact q)]
  rcases hn b hb with h|⟨L1,L',q,_,q2,q3,_⟩
  ·exact ⟨L,by show nl b=some L;rw [h,e],Nat.le_refl _,hc⟩
  ·rw [e] at q;cases q;exact ⟨L',q2,q3,hc⟩
 refine ⟨⟨hS.lt,fun id b x e1 e2=>(hS.blk id b x e1 e2).mono hev (heap b (hS.fresh _ _ e1).2.1),hS.inj,fun id b e=>?_,fun b L e=>?_,fun t b n c e=>?_,fun b t e=>?_,fun r e=>?_,fun b hb=>?_,Nat.le_trans hS.size hsz,hS.res⟩,hev⟩
 ·obtain ⟨q1,q2,q3,q4⟩:=hS.fresh id b e
  exact ⟨q1,by omega,nlnone q2 q3,q4⟩
 ·have e:nl b=some L:=e
  by_cases hb:b<w.heap.size
  ·rcases hn b hb with h|⟨L1,L',q,_,q2,q3,q4⟩
   ·rw [h] at e
    obtain ⟨vs,T,fr,p1,p2,p3⟩:=hS.lim b L e
    exact ⟨vs,T,fr,by rw [heap b hb];exact p1,p2,p3⟩
   ·rw [q2] at e
    cases e
    obtain ⟨vs,T,fr,p1,p2,p3⟩:=h1.lim b _ q4
    obtain ⟨_,_,_,_,_,p6⟩:=hS.lim b _ q
    exact ⟨vs,T,fr,p1,p2,p6⟩
  ·rw [hn2 b (by omega)] at e
   obtain ⟨vs,T,fr,p1,p2,p3⟩:=h1.lim b L e
   exact ⟨vs,T,fr,p1,p2,fun hlt=>absurd (Nat.lt_of_lt_of_le hlt hS.size) hb⟩
 ·obtain ⟨sz,ex,q1,q2,q3,q4⟩:=hS.tok t b n c e
  refine ⟨sz,ex,q1,q2,q3,fun hx=>?_⟩
  obtain ⟨bb,vs,T,r1,r2,r3,r4,r5,r6⟩:=q4 hx
  have hb:=lt r3
  refine ⟨bb,vs,T,r1,r2,?_,r4,by rw [heap bb hb];exact r5,r6⟩
  rcases hn bb hb with h|⟨_,_,_,q,_⟩
  ·show nl bb=_;rw [h,r3]
  ·exact absurd r2 (q t)
 ·obtain ⟨q1,q2⟩:=hS.own b t e
  exact ⟨by omega,q2⟩
 ·obtain ⟨q1,q2,q3⟩:=hS.defs r e
  have hr:=(Array.getElem?_eq_some_iff.1 q1).1
  exact ⟨by rw [heap r hr];exact q1,q2,nlnone hr q3⟩
 ·rw [heap b (Nat.lt_of_lt_of_le hb hS.size)]
  exact hS.base b hb
theorem v7 {args:List AV} {vs:Array Value} (f:AV→AV) (hf:∀ (i:Nat) (x:AV) (u:Value),args[i]? = some x→vs[i]? = some u→RelV G' w (f x) u) (h:vs.size=args.length):eS G' w (args.map f) vs:=by
 refine ⟨by simp [h],fun i x u e1 e2=>?_⟩
 rw [List.getElem?_map] at e1
 cases e:args[i]? with
 |none=>rw [e] at e1;cases e1
 |some y=>rw [e] at e1;cases e1;exact hf i y u e e2
theorem H1 {f:FuncId} {args args0:List AV} (hf:okVs 0 args) (h0:args0=args∨args0=clrs args) (h:cG P hh (.call f args0 []) R) (h1:∀ o,R o→o.σ=[]∧Q ⟨none,[],σ,o.v⟩):cG P hh (.call f args σ) Q:=by
 refine ⟨h.1,fun {G w vs} ha hS=>?_⟩
 let old:Nat→Prop:=fun b=>(∃ L,G.lim b=some L)∧∀ t,G.own b≠some t
 let lim:Nat→Option Nat:=fun b=>match G.own b with|none=>G.lim b|some _=>none
 have hlim:∀ {b L},lim b=some L→G.lim b=some L∧∀ t,G.own b≠some t:=by
  intro b L e
  simp only [lim] at e
  split at e
  ·rename_i hn;exact ⟨e,fun t e'=>by rw [hn] at e';cases e'⟩
  ·cases e
 have hrel0:RelS P hh (G.fresh0 w lim old) w []:=sM fun b L e=>by
  obtain ⟨q1,q2⟩:=hlim e
  obtain ⟨vs,T,fr,p1,p2,_⟩:=hS.lim b L q1
  exact ⟨⟨⟨L,q1⟩,q2⟩,vs,T,fr,p1,p2⟩
 have hv:∀ (i:Nat) (x:AV) (u:Value),args[i]? = some x→vs[i]? = some u→RelV (G.fresh0 w lim old) w x u:=fun i x u e1 e2 =>
  (ha.2 i x u e1 e2).free (fun b L q1 q2=>⟨L,by
   show lim b=_
   simp only [lim]
   cases e:G.own b with
   |none=>exact q1
   |some t=>exact absurd e (q2 t),Nat.le_refl _⟩) (fun _ _ _ _ t e=>by cases e) (fR hf e1)
 have ha0:eS (G.fresh0 w lim old) w args0 vs:=by
  rcases h0 with rfl|rfl
  ·exact ⟨ha.1,hv⟩
  ·rw [fZ]
   exact v7 clr (fun i x u e1 e2=>(hv i x u e1 e2).clr) ha.1
 refine (h.2 ha0 hrel0).mono fun e w' hr=>?_
 obtain ⟨r,G1,u,rfl,q1,q2,q3,q4⟩:=hr
 obtain ⟨hσ,hq⟩:=h1 r q1
 rw [hσ] at q3
 have hB:G1.B0=w.heap.size:=q4.B0
 have hold:∀ {b L},b<w.heap.size→G1.lim b=some L→old b:=by
  intro b L hb e
  obtain ⟨_,_,_,_,_,p⟩:=q3.lim b L e
  have:=p (by omega)
  rw [hB,show G1.h0=_ from q4.h0] at this
  exact (zC hb).1 this
 let nl:Nat→Option Nat:=fun b=>if b<w.heap.size then (match G.own b,G.lim b with|none,some _=>G1.lim b|_,l=>l) else G1.lim b
 have hg:=BP hS q3 q4 nl (fun b hb=>by
  simp only [nl,hb,if_true]
  cases e1:G.own b with
  |some t=>left;rfl
  |none =>
   cases e2:G.lim b with
   |none=>left;rfl
   |some L =>
    right
    obtain ⟨L',p1,p2,_⟩:=q4.lim b L (by show lim b=_;simp only [lim,e1,e2])
    exact ⟨L,L',rfl,(fun t e=>by cases e),p1,p2,p1⟩) (fun b hb=>by simp only [nl];rw [if_neg (by omega)])
 refine ⟨_,{ G with lim:=nl },u,rfl,hq,?_,hg.1,hg.2⟩
 refine q2.free (fun b L p1 p2=>⟨L,?_,Nat.le_refl _⟩) (fun b L p1 p2 t e=>?_) (q2.ok q3)
 ·show nl b=_
  simp only [nl]
  split
  ·rename_i hb
   obtain ⟨⟨L0,s1⟩,s2⟩:=hold hb p1
   cases e:G.own b with
   |some t=>exact absurd e (s2 t)
   |none=>rw [s1];exact p1
  ·exact p1
 ·have e:G.own b=some t:=e
  have hb:=(hS.own b t e).1
  exact (hold hb p1).2 t e
theorem DS {f:FuncId} {args args0 as1:List AV} {d:Nat} (hf:snaps σ 0 d args=some as1) (h0:args0=as1∨args0=clrs as1) (h:cG P hh (.call f args0 []) R) (h1:∀ o,R o→o.σ=[]∧Scal o.v∧Q ⟨none,[],σ,o.v⟩) :
    cG P hh (.call f args σ) Q:=by
  refine ⟨h.1,fun {G w vs} ha hS=>?_⟩
  have hL:=mN (m:=0) hS G.res
  obtain ⟨lim,hlimeq⟩:∃ lim,lim=(G.cut w σ 0 G.res).lim:=⟨_,rfl⟩
  have hrel0:RelS P hh (G.fresh0 w lim fun _=>True) w []:=sM fun b L e=>by
    rw [hlimeq] at e
    refine ⟨trivial,?_⟩
    cases hn:G.lim b with
    |some L' =>
      have:(G.cut w σ 0 G.res).lim b=some L':=by simp [Gh.cut,hn]
      rw [this] at e
      cases e
      obtain ⟨vs,T,fr,p1,p2,_⟩:=hS.lim b _ hn
      exact ⟨vs,T,fr,p1,p2⟩
    |none =>
      obtain ⟨rfl,id,cs,p1,p2,p3⟩:=uM e hn
      obtain ⟨vs,T,q,l,_⟩:=hS.blk _ _ _ p2 p3
      exact ⟨vs,T,(0,0),q,by simp [o7,q]⟩
  have hL':Last σ G 0 (G.fresh0 w lim fun _=>True) :=
    { loc:=fun id b h _=>absurd h (by omega),lim:=fun b L e=>by obtain ⟨L',q⟩:=hL.lim b L e;exact ⟨L',by rw [hlimeq.symm] at q;exact q⟩,tok:=fun t p h _=>absurd h (by omega),own:=fun b t e=>(by cases e),
      frz:=fun id b cs h1 h2 h3=>by
        obtain ⟨⟨L,q1,q2⟩,_⟩:=hL.frz id b cs h1 h2 h3
        exact ⟨⟨L,by rw [hlimeq.symm] at q1;exact q1,q2⟩,fun t e=>by cases e⟩ }
  obtain ⟨hlen,hsp⟩:=dN hf
  have hv:∀ (i:Nat) (y:AV) (u:Value),as1[i]? = some y→vs[i]? = some u→RelV (G.fresh0 w lim fun _=>True) w y u:=fun i y u e1 e2=>by
    obtain ⟨x,p1,p2⟩:=n6 hf e1
    exact oL hS hL' d p2 (ha.2 i x u p1 e2)
  have ha0:eS (G.fresh0 w lim fun _=>True) w args0 vs:=by
    rcases h0 with rfl|rfl
    · exact ⟨by rw [hlen];exact ha.1,hv⟩
    · rw [fZ]
      exact v7 clr (fun i x u e1 e2=>(hv i x u e1 e2).clr) (by rw [hlen];exact ha.1)
  refine (h.2 ha0 hrel0).mono fun e w' hr=>?_
  obtain ⟨r,G1,u,rfl,q1,q2,q3,q4⟩:=hr
  obtain ⟨hσ,hs,hq⟩:=h1 r q1
  rw [hσ] at q3
  have hg:=BP hS q3 q4 (fun b=>if b<w.heap.size then G.lim b else G1.lim b) (fun b hb=>by left;simp [hb]) (fun b hb=>by simp;omega)
  exact ⟨_,_,u,rfl,hq,q2.scal hs,hg.1,hg.2⟩
end Go.Am
namespace Go.Am
variable {P:Program} {hh:String→Bool} {G G0 G1 G':Gh} {w w0 w1 w':World} {σ σ' σ1:St} {env env':Env} {n m m':Nat} {v:AV} {a:Act} {Q R S:Out→Prop}
theorem T8 (env:Env) (t:Nat):Env.get env t = .undef∨∃ p∈env,p.1=t∧Env.get env t=p.2:=by
 induction env with
 |nil=>exact .inl rfl
 |cons p env ih =>
  obtain ⟨k,v⟩:=p
  by_cases hk:k=t
  ·exact .inr ⟨(k,v),by simp,hk,by simp [Env.get,hk]⟩
  ·rcases ih with h|⟨p,q1,q2,q3⟩
   ·exact .inl (by simp [Env.get,hk,h])
   ·exact .inr ⟨p,by simp [q1],q2,by simp [Env.get,hk,q3]⟩
theorem KD {c:ACode} (h:cG P hh (.code c env σ) R) (h1:∀ o,R o→∃ env' m,VL σ o.env o.σ env' m∧Q ⟨o.j,env',o.σ.take m,o.v⟩):cG P hh (.code c env σ) Q:=by
 intro F n cd G w a B f1 f2 f3 f4 f5 f6
 have he0:=jK f4
 refine (h f1 f2 (f3.ghost (G':=G.shut σ) rfl rfl rfl rfl) f4.shut (f5.mono fun r e=>e) f6).mono fun e a' w' hp=>?_
 obtain ⟨o,G1,q1,q2,q3,q4,q5,q6⟩:=hp
 obtain ⟨env',m,⟨t1,t2,t3,t4⟩,hq⟩:=h1 o q1
 have hkept:TF σ o.σ m:=⟨t1,t2,t4⟩
 have hless:=(mN (m:=m) q4 G.res).toLess
 refine ⟨_,G1.cut w' o.σ m G.res,hq,q2,⟨q3.1,fun t=>?_⟩,EB f4 q5 q4 hkept,tI f4 q5 q4 t1,q6.mono fun r e=>e⟩
 rcases T8 env' t with hu|⟨p,p1,p2,p3⟩
 ·show RelV _ _ (Env.get env' t) _
  rw [hu]
  exact .undef _
 ·show RelV _ _ (Env.get env' t) _
  obtain ⟨g1,g2⟩:=t3 p p1
  rw [p3]
  have:=q3.2 t
  rw [←p2,←g1] at this
  rw [←p2]
  exact this.less hless g2
theorem HV {c:ACode} (t sz:Nat) (xs:List AV) (ht:Env.get env t = .lit xs true none) (h:cG P hh (.code c ((t,.lit xs false (some σ.length))::env) (σ++[.tok sz xs.length false])) Q):cG P hh (.code c env σ) Q:=by
 intro F n cd G w a B f1 f2 f3 f4 f5 f6
 have hr:=f3.2 t
 rw [ht] at hr
 generalize hu:a.tmps.getD t undef=u at hr
 obtain ⟨base,cap,rfl,htk,hbn⟩:=iX hr
 have hcap:=htk.2.1 rfl
 obtain ⟨G1,hG1⟩:∃ G1:Gh,G1={ G with tok:=fun i=>if i=σ.length then some (base,xs.length,xs.length) else G.tok i }:=⟨_,rfl⟩
 have hlt:∀ {t b n c},G.tok t=some (b,n,c)→t<σ.length:=fun e=>by
  obtain ⟨_,_,q,_⟩:=f4.tok _ _ _ _ e
  exact (List.getElem?_eq_some_iff.1 q).1
 have he:Evo G w G1 w:=by
  rw [hG1]
  refine ⟨fun _ _ h=>h,fun b L h=>⟨L,h,Nat.le_refl _,fun _ _=>rfl⟩,fun t b n c e=>⟨b,n,c,?_,Nat.le_refl _,fun _=>⟨rfl,rfl⟩⟩,fun _ _ _ _ h=>h,fun _ h=>h,rfl,rfl,rfl,rfl,rfl,Nat.le_refl _,fun _ _ h=>h⟩
  have:=hlt e
  simp only [show t≠σ.length by omega,if_false]
  exact e
 have hS1:RelS P hh G1 w (σ++[.tok sz xs.length false]):=by
  have hm:=f4.more [.tok sz xs.length false]
  rw [hG1] at he ⊢
  refine ⟨hm.lt,fun id b x e1 e2=>(hm.blk id b x e1 e2).mono he rfl,hm.inj,hm.fresh,hm.lim,fun t' b k c e=>?_,fun b t' e=>?_,hm.defs,hm.base,hm.size,hm.res⟩
  ·by_cases ht':t'=σ.length
   ·subst ht'
    simp only [if_true,Option.some.injEq,Prod.mk.injEq] at e
    obtain ⟨rfl,rfl,rfl⟩:=e
    exact ⟨sz,false,by simp,Nat.le_refl _,fun _=>rfl,fun h=>by cases h⟩
   ·simp only [ht',if_false] at e
    exact hm.tok _ _ _ _ e
  ·obtain ⟨q1,p,q2⟩:=hm.own b t' e
   refine ⟨q1,p,?_⟩
   obtain ⟨b',n',c'⟩:=p
   have:=hlt q2
   simp only [show t'≠σ.length by omega,if_false]
   exact q2
 have hv:RelV G1 w (.lit xs false (some σ.length)) (.slice base xs.length cap):=by
  have htk':kZ G1 false (some σ.length) xs.length base cap:=by
   refine ⟨htk.1,by simp,fun t' e=>?_⟩
   cases e
   exact ⟨base,xs.length,xs.length,by rw [hG1];simp,Nat.le_refl _,fun _ _=>⟨rfl,hcap.symm⟩⟩
  have hr1:=hr.mono he
  cases hr1 with
  |nil _ hb=>exact .nil htk' hb
  |lit _ hl hc =>
   refine .lit htk' ⟨hl.lim,fun t' e=>?_,hl.size,hl.cells⟩ hc
   have:=hl.own t' e
   cases this
 have hE1:eB G1 w n ((t,.lit xs false (some σ.length))::env) a.tmps:=by
  refine ⟨f3.1,fun t'=>?_⟩
  by_cases htt:t=t'
  ·subst htt
   rw [hu]
   simpa [Env.get] using hv
  ·simpa [Env.get,htt] using (f3.2 t').mono he
 exact (h f1 f2 hE1 hS1 (f5.mono he.defs) f6).mono fun e a w=>n5.lift he
theorem wS:∀ (args:List AV) (k t:Nat),Env.get (fI k args) t=if k≤t then (args[t-k]?).getD .undef else .undef
 |[],k,t=>by simp [fI,Env.get]
 |v::vs,k,t=>by
  simp only [fI,Env.get]
  by_cases hk:k=t
  ·subst hk;simp
  ·rw [if_neg hk,wS vs (k+1) t]
   by_cases hlt:k≤t
   ·rw [if_pos hlt,if_pos (by omega),show t-k=(t-(k+1))+1 by omega]
    rfl
   ·rw [if_neg hlt,if_neg (by omega)]
theorem MZ {args:List AV} {vs:Array Value} (h:eS G w args vs) (hn:args.length≤n):eB G w n (fI 0 args) (vs++Array.replicate (n-vs.size) undef):=by
 refine ⟨by have:=h.1;simp;omega,fun t=>?_⟩
 rw [wS]
 simp only [Nat.zero_le,if_true,Nat.sub_zero]
 cases e:args[t]? with
 |none=>simpa using .undef _
 |some x =>
  have ht:t<vs.size:=by rw [h.1];exact (List.getElem?_eq_some_iff.1 e).1
  have:=h.2 t x vs[t] e (Array.getElem?_eq_getElem ht)
  simpa [Array.getD_eq_getD_getElem?,Array.getElem?_append_left ht,Array.getElem?_eq_getElem ht] using this
theorem AA {fn:Func} {af:AFunc} (h:aC P hh fn=some af) :
  ∃ c,fn.body=some c∧comp P hh fn.ntmps c=some af.body∧lO P fn.results.toList=some af.results∧(fn.name== "runtime.NumGoroutine")=false∧af.ntmps=fn.ntmps:=by
 unfold aC at h
 split at h
 ·cases h
 ·rename_i c hb
  split at h
  ·rename_i b rs h1 h2
   split at h
   ·cases h
   ·rename_i hname
    cases h
    exact ⟨c,hb,h1,h2,by simpa using hname,rfl⟩
  ·cases h
theorem K2 {T:FuncId→Option AFunc} (hT:∀ f af,T f=some af→∃ fn,P.funcs[f]? = some fn∧aC P hh fn=some af) {f:FuncId} {args:List AV} {af:AFunc} (hf:T f=some af) (hn:args.length≤af.ntmps)
  (h:cG P hh (.code af.body (fI 0 args) σ) R) (h1:∀ o,R o→(o.j=none∨o.j=some .ret)∧∃ v,f9 af.results o.env o.σ=some v∧MJ σ o.σ v Q):cG P hh (.call f args σ) Q:=by
 obtain ⟨fn,hfn,hcomp⟩:=hT f af hf
 obtain ⟨c,hb,hc,hres,hname,hnt⟩:=AA hcomp
 have hname':¬fn.name = "runtime.NumGoroutine":=by simpa using hname
 refine ⟨fun vs w=>by simp [callFunc,hfn,hname',hb],fun {G w vs} ha hS=>?_⟩
 refine callsIn_of_wp_marks hfn hb trivial (wpIn_mono (h (F:=Fence.wide) (cd:=c) (n:=fn.ntmps) (G:=G.shut σ) (w:=w) (a:={ tmps:=vs++Array.replicate (fn.ntmps-vs.size) undef,defers:=[] }) (B:=w.heap.size) (.inl rfl) hc ((MZ ha (by omega)).ghost rfl rfl rfl rfl) hS.shut
  ⟨[],rfl,List.nodup_nil,fun r hr=>by cases hr⟩ (Nat.le_refl _)).wpIn fun e a' w' hp=>?_)
 obtain ⟨o,G1,q1,rfl,q3,q4,q5,rs,m1,m2,m3⟩:=hp
 obtain ⟨hj,v,hv,hl⟩:=h1 o q1
 have hleave:LeavesInM Fence.wide 0 P fn a'.tmps (fun e w'=>∃ r G' u,e = .returned u∧Q r∧RelV G' w' r.v u∧RelS P hh G' w' r.σ∧Evo G w G' w') a'.defers .returning w':=by
  rw [m1]
  refine wR rs m2 (fun r hr=>⟨(m3 r hr).1,fun e=>?_⟩) q4 q3 q5 fun G2 w2 s1 s2 s3=>?_
  ·have:=(Array.getElem?_eq_some_iff.1 (hS.defs r e).1).1
   have:=(m3 r hr).2
   omega
  ·obtain ⟨u,r1,r2⟩:=zV s2 s1 hres hv
   obtain ⟨o2,G3,t1,t2,t3,t4⟩:=FM hS s3 s1 r2 hl
   exact ⟨u,r1,o2,G3,u,rfl,t1,t2,t3,t4⟩
 rcases hj with hj|hj<;>rw [hj]<;>exact hleave
theorem RelS.newDef (h:RelS P hh G w σ):RelS P hh { G with defs:=fun x=>G.defs x∨x=w.heap.size } (w.alloc (.deferred (some []))) σ ∧
  Evo G w { G with defs:=fun x=>G.defs x∨x=w.heap.size } (w.alloc (.deferred (some []))):=by
 have h1:=h.alloc (.deferred (some []))
 have he:=jC h (.deferred (some []))
 refine ⟨⟨h1.lt,fun id b x e1 e2=>(h1.blk id b x e1 e2).ghost rfl rfl rfl rfl,h1.inj,fun id b e=>?_,h1.lim,h1.tok,h1.own,fun r e=>?_,h1.base,h1.size,h1.res⟩,
  ⟨he.loc,he.lim,he.tok,he.own,fun r e=>.inl e,he.B0,he.h0,he.os,he.tape,he.output,he.size,he.res⟩⟩
 ·obtain ⟨q1,q2,q3,q4⟩:=h1.fresh id b e
  refine ⟨q1,q2,q3,fun hd=>hd.elim q4 fun e'=>?_⟩
  have:=(h.fresh id b e).2.1
  omega
 ·rcases e with e|rfl
  ·exact h1.defs r e
  ·refine ⟨by rw [dM,if_pos rfl],h.size,?_⟩
   cases e:G.lim w.heap.size with
   |none=>rfl
   |some L=>have:=oT h e;omega
theorem pT (w:World) (g:Nat) (o:Obj):Part g w (w.putObj g o):=jB w g o
theorem yR {f:AOpd} {g:FuncId} {first cap:List AV} {ps:List Nat} {x y:ACode} (hf:f.ev env = .func g first cap)
  (h:cG P hh (.call g (first++[.yield σ.length]++cap) (σ++[.loop .ready none env ps x y])) R)
  (h1:∀ o,R o→∃ st pend env' ps' a' b',o.σ[σ.length]? = some (.loop st pend env' ps' a' b')∧st≠.busy∧Q ⟨pend,env,o.σ.set σ.length .dead,.undef⟩):cG P hh (.code (.rangeFunc f ps x y) env σ) Q:=by
 intro F n cd G w a B f1 f2 f3 f4 f5 f6
 obtain ⟨fo,pa,c,d,rfl,c1,c2,c3,rfl,c5,c6,c7⟩:=HY f2
 have hF:F=Fence.wide:=by
  rcases f1 with h|⟨l,_,h⟩
  ·exact h
  ·simp [mR] at h
 subst hF
 refine wpIn_rangeFunc fun fn _=>?_
 obtain ⟨hD,heD⟩:=f4.newDef
 obtain ⟨GD,hGD⟩:∃ GD:Gh,GD={ G with defs:=fun z=>G.defs z∨z=w.heap.size }:=⟨_,rfl⟩
 rw [←hGD] at hD heD
 obtain ⟨rec,hrec⟩:∃ rec:Loop,rec={ state:=.ready,pending:=none,fn,tmps:=a.tmps,params:=pa,assign:=c,body:=d,defers:=w.heap.size }:=⟨_,rfl⟩
 have hED:=f3.mono heD
 obtain ⟨hL,heL⟩:=rT (o:=.loop rec) hD (x:=.loop .ready none env pa.toList x y) fun G' he' =>
  ⟨rec,n,by rw [dM,if_pos rfl],by rw [hrec];rfl,by rw [hrec];rfl,by rw [hrec],by rw [hrec];exact c2,by rw [hrec];exact c3,c5,by rw [show rec.tmps=a.tmps by rw [hrec]];exact hED.mono he',by rw [hrec];exact ⟨c6,c7⟩⟩
 rw [show (w.alloc (.deferred (some []))).heap.size=w.heap.size+1 from by simp] at hL heL
 have hr:=bT (a:=a) c1 f3
 rw [hf] at hr
 have heGL:=heD.trans heL
 have hr2:=hr.mono heGL
 generalize hfu:a.eval fo=fu at hr2
 cases hr2 with
 |@func _ _ _ first' cap' e1 e2 e3 e4 =>
  refine ⟨w.heap.size+1,[yB w.heap.size],(w.alloc (.deferred (some []))).alloc (.loop rec),{ target:=.fn (.func g) cap',args:=first'++#[.func (.yield (w.heap.size+1)) #[] #[]] },(w.alloc (.deferred (some []))).alloc (.loop rec),g,
   first'++#[.func (.yield (w.heap.size+1)) #[] #[]]++cap',(w.alloc (.deferred (some []))).alloc (.loop rec),?_,?_,fun _ _=>trivial,?_,(fun h0=>by cases h0),?_⟩
  ·rw [hrec];exact run_enterLoop_outer _ _ _ _ _
  ·simp only [resolve,rangeCall]
   rw [hfu]
   simp [Deferred.ofValue,Act.eval]
  ·simp [invoke,h.1]
  ·have hargs:eS (GD.withLoc σ.length (w.heap.size+1)) ((w.alloc (.deferred (some []))).alloc (.loop rec)) (first++[.yield σ.length]++cap) (first'++#[.func (.yield (w.heap.size+1)) #[] #[]]++cap'):=by
    refine eS.append (eS.append ⟨e1,e3⟩ ⟨rfl,fun i z u q1 q2=>?_⟩) ⟨e2,e4⟩
    match i with
    |0=>simp at q1 q2;subst q1;subst q2;exact .yield dV
    |_+1=>simp at q1
   refine (h.2 hargs hL).mono fun e w3 hr3=>?_
   obtain ⟨o,G3,u,rfl,q1,q2,q3,q4⟩:=hr3
   obtain ⟨st,pend,env',ps',a',b',s1,s2,s3⟩:=h1 o q1
   have hloc:G3.loc σ.length=some (w.heap.size+1):=q4.loc _ _ dV
   obtain ⟨l,k,l1,l2,l3,l4⟩:=q3.blk _ _ _ hloc s1
   have hst:l.state≠.busy:=by
    rw [l2]
    cases st<;>simp [YG] at s2 ⊢
   have hend:=run_endLoop (P:=P) l1 hst
   have hw:=q3.write (y:=.dead) hloc (pT w3 (w.heap.size+1) (.loop { l with state:=.exhausted })) s1 (fun _ _ _ e=>by cases e) trivial
   refine ⟨_,_,hend,?_⟩
   have hevo:=(heGL.trans q4).trans hw.2
   have hmarks:nZ G3 B ({ a with defers:=[yB w.heap.size]++a.defers }:Act).defers:=by
    obtain ⟨rs,m1,m2,m3⟩:=f5
    refine ⟨w.heap.size::rs,by simp [m1],List.nodup_cons.2 ⟨fun hm=>?_,m2⟩,fun r hr=>?_⟩
    ·have:=(Array.getElem?_eq_some_iff.1 (f4.defs _ (m3 _ hm).1).1).1
     omega
    ·rcases List.mem_cons.1 hr with rfl|hr
     ·exact ⟨(heL.trans q4).defs _ (by rw [hGD];exact .inr rfl),f6⟩
     ·exact ⟨hevo.defs _ (m3 r hr).1,(m3 r hr).2⟩
   have hpost:n5 P hh G w n B Q (KL pend) { a with defers:=[yB w.heap.size]++a.defers } (w3.putObj (w.heap.size+1) (.loop { l with state:=.exhausted })) :=
    ⟨_,G3,s3,rfl,f3.mono hevo,hw.1,hevo,hmarks⟩
   rw [l3] at hpost ⊢
   cases pend with
   |none=>exact hpost
   |some j =>
    cases j with
    |ret=>exact wpIn_ret hpost
    |exit id=>exact wpIn_exit hpost
theorem zA:∀ {ps:List Nat} {args:List AV} {us:List Value} {env:Env} {tmps:Array Value},ps.length=args.length→us.length=args.length→(∀ p∈ps,p<n) →
  (∀ (i:Nat) (x:AV) (u:Value),args[i]? = some x→us[i]? = some u→RelV G w x u)→eB G w n env tmps →
  eB G w n (jV env ps args) ((ps.zip us).foldl (fun tmps (t,a)=>tmps.setIfInBounds t a) tmps)
 |[],[],us,env,tmps,_,_,_,_,hE=>by simpa [jV] using hE
 |[],_::_,us,env,tmps,h,_,_,_,_=>by simp at h
 |_::_,[],us,env,tmps,h,_,_,_,_=>by simp at h
 |p::ps,v::args,[],env,tmps,_,h,_,_,_=>by simp at h
 |p::ps,v::args,u::us,env,tmps,h1,h2,h3,h4,hE=>by
  simp only [jV,List.zip_cons_cons,List.foldl_cons]
  refine zA (by simpa using h1) (by simpa using h2) (fun q hq=>h3 q (List.mem_cons_of_mem _ hq)) (fun i x u e1 e2=>h4 (i+1) x u (by simpa using e1) (by simpa using e2)) ?_
  exact hE.put (a:={ tmps:=tmps,defers:=[] }) (dst:=some p) (fun d e=>by cases e;exact h3 p (by simp)) (h4 0 v u rfl rfl)
theorem F1 {r:Nat} {o o':Obj} (hb:w.heap[r]? = some o):(w.putObj r o').heap[r]? = some o':=qX hb
theorem HF {id:Nat} {args:List AV} {ps:List Nat} {x y:ACode} (hl:σ[id]? = some (.loop .ready none env ps x y)) (hn:ps.length=args.length) (h:cG P hh (.code x (jV env ps args) σ) R)
  (h0:∀ o,R o→o.j=none∧o.σ[id]? = some (.loop .ready none env ps x y)) (h1:∀ o,R o→cG P hh (.code y o.env (o.σ.set id (.loop .busy none env ps x y))) S)
  (h2:∀ o,S o→o.σ[id]? = some (.loop .busy none env ps x y)∧Q ⟨none,[],o.σ.set id (.loop (if o.j=none then .ready else .done) o.j env ps x y),.bool (decide (o.j=none))⟩) :
  cG P hh (.callv (.yield id) args σ) Q:=by
 intro G w fv vs hf ha hS
 cases hf with
 |@yield _ b hloc =>
  obtain ⟨l,n,l1,l2,l3,l4,l5,l6,l7,l8,l9,l10⟩:=hS.blk _ _ _ hloc hl
  have hy:=run_yield (P:=P) (args:=#[]++vs) l1 (by have:=ha.1;rw [←l4] at hn;simp at hn ⊢;omega)
  refine ⟨{ target:=.fn (.yield b) #[],args:=#[]++vs },_,w,by simp [Deferred.ofValue],by simp only [invoke];exact hy,fun {F} o a next Qx hF hnext=>?_⟩
  rw [Oper.uponIn_round]
  refine ⟨fun e=>absurd e hF.depth,hF.round ?_⟩
  have htm:((l.params.zip (#[]++vs)).foldl (fun tmps (t,a)=>tmps.setIfInBounds t a) l.tmps)=((ps.zip vs.toList).foldl (fun tmps (t,a)=>tmps.setIfInBounds t a) l.tmps):=by
   rw [←Array.foldl_toList,Array.toList_zip,←l4]
   simp
  rw [htm]
  have hE:=zA (G:=G) (w:=w) (env:=env) (tmps:=l.tmps) hn (us:=vs.toList) (by simpa using ha.1) l7 (fun i z u e1 e2=>ha.2 i z u e1 (by simpa using e2)) l8
  refine roundIn_of_wpIn trivial (wpIn_mono (h (F:=Fence.wide.inRound b) (cd:=l.assign) (n:=n) (G:=G) (w:=w) (a:={ tmps:=(ps.zip vs.toList).foldl (fun tmps (t,a)=>tmps.setIfInBounds t a) l.tmps,defers:=[] }) (B:=w.heap.size)
   (.inr ⟨b,rfl,l9⟩) l5 hE hS ⟨[],rfl,List.nodup_nil,fun r hr=>by cases hr⟩ (Nat.le_refl _)).wpIn fun e a1 w1 hp=>?_)
  obtain ⟨o1,G1,q1,rfl,q3,q4,q5,q6⟩:=hp
  obtain ⟨j0,s0⟩:=h0 o1 q1
  rw [j0]
  have hloc1:=q5.loc _ _ hloc
  obtain ⟨r,n1,r1,r2,r3,r4,r5,r6,r7,r8,r9,r10⟩:=q4.blk _ _ _ hloc1 s0
  refine ⟨_,run_beginRound r1 r2,?_⟩
  have hp1:=pT w1 b (.loop { r with state:=.busy })
  have hev1:Evo G1 w1 G1 (w1.putObj b (.loop { r with state:=.busy })):=mA hp1 (q4.fresh _ _ hloc1).2.2.1
  have hw1:=q4.write (y:=.loop .busy none env ps x y) hloc1 hp1 s0 (fun _ _ _ e=>by cases e)
   ⟨{ r with state:=.busy },n1,F1 r1,rfl,r3,r4,r5,r6,r7,r8.mono hev1,r9,r10⟩
  -- the body is the record's,from the first look on
  have hbody:comp P hh n l.body=some y:=l6
  refine wpIn_mono (h1 o1 q1 (F:=Fence.wide.inRound b) (cd:=l.body) (n:=n) (G:=G1) (w:=w1.putObj b (.loop { r with state:=.busy })) (a:=a1) (B:=w.heap.size)
   (.inr ⟨b,rfl,l10⟩) hbody (q3.mono hev1) hw1.1 (q6.mono hev1.defs) (Nat.le_trans q5.size hev1.size)).wpIn fun e2 a2 w2 hp2=>?_
  obtain ⟨o2,G2,p1,rfl,p3,p4,p5,p6⟩:=hp2
  obtain ⟨t0,tq⟩:=h2 o2 p1
  have hev2:=(q5.trans hev1).trans p5
  have hloc2:=hev2.loc _ _ hloc
  obtain ⟨z,n2,z1,z2,z3,z4,z5,z6,z7,z8,z9,z10⟩:=p4.blk _ _ _ hloc2 t0
  have fin:∀ (jump:Option Code),jump=o2.j.map HU→∃ v w',(Instr.endRound b jump).run P w2 = .ok v w'∧∃ v',Ending.returned v = .returned v'∧next (a.put o.dst v') w':=by
   intro jump hj
   have hp2:=pT w2 b (.loop { z with state:=if jump.isNone then .ready else .done,pending:=jump })
   have hev3:Evo G2 w2 G2 (w2.putObj b (.loop { z with state:=if jump.isNone then .ready else .done,pending:=jump })):=mA hp2 (p4.fresh _ _ hloc2).2.2.1
   have hnone:jump.isNone=decide (o2.j=none):=by rw [hj];cases o2.j<;>rfl
   have hw2:=p4.write (y:=.loop (if o2.j=none then .ready else .done) o2.j env ps x y) hloc2 hp2 t0 (fun _ _ _ e=>by cases e)
    ⟨{ z with state:=if jump.isNone then .ready else .done,pending:=jump },n2,F1 z1,by
     simp only [hnone]
     by_cases hq:o2.j=none<;>simp [hq,YG],hj,z4,z5,z6,z7,z8.mono hev3,z9,z10⟩
   refine ⟨_,_,run_endRound jump z1,_,rfl,?_⟩
   refine hnext _ G2 _ (.bool jump.isNone) tq ?_ hw2.1 (hev2.trans hev3)
   rw [hnone]
   exact .bool _
  cases hj:o2.j with
  |none =>
   obtain ⟨v,w3,g1,v',g2,g3⟩:=fin none (by rw [hj];rfl)
   cases g2
   exact ⟨v,w3,g1,g3⟩
  |some j =>
   cases j with
   |ret =>
    obtain ⟨v,w3,g1,v',g2,g3⟩:=fin (some .ret) (by rw [hj];rfl)
    cases g2
    exact ⟨v,w3,g1,g3⟩
   |exit id' =>
    obtain ⟨v,w3,g1,v',g2,g3⟩:=fin (some (.exit id')) (by rw [hj];rfl)
    cases g2
    exact ⟨v,w3,g1,g3⟩
theorem eB.same {tmps:Array Value} (h:eB G w n env' tmps) (he:∀ t,Env.get env t=Env.get env' t):eB G w n env tmps:=⟨h.1,fun t=>by rw [he];exact h.2 t⟩
theorem HK {c:ACode} (he:∀ t,Env.get env t=Env.get env' t) (h:cG P hh (.code c env' σ) Q):cG P hh (.code c env σ) Q:=by
 intro F n cd G w a B f1 f2 f3 f4 f5 f6
 exact h f1 f2 (f3.same fun t=>(he t).symm) f4 f5 f6
theorem G6 {os:List AOper} (he:∀ t,Env.get env t=Env.get env' t) (h:cG P hh (.ops os env' σ) Q):cG P hh (.ops os env σ) Q:=by
 intro F n ops l G w a B R f1 f2 f3 f4 f5 f6
 exact h f1 f2 (f3.same fun t=>(he t).symm) f4 f5 f6
theorem K6 {c:ACode} (he:∀ t,Env.get env' t = .undef∨Env.get env' t=Env.get env t∨Env.get env' t=clr (Env.get env t)) (h:cG P hh (.code c env' σ) Q):cG P hh (.code c env σ) Q:=by
 intro F n cd G w a B f1 f2 f3 f4 f5 f6
 refine h f1 f2 ⟨f3.1,fun t=>?_⟩ f4 f5 f6
 rcases he t with e|e|e
 ·rw [e];exact .undef _
 ·rw [e];exact f3.2 t
 ·rw [e];exact (f3.2 t).clr
theorem aCY {T:FuncId→Option AFunc} (hT:∀ f af,T f=some af→∃ fn,P.funcs[f]? = some fn∧aC P hh fn=some af) {t:Task} (h:Run T t Q):cG P hh t Q:=by
 induction h with
 |mono _ hq ih=>exact LL ih hq
 |skip h=>exact K1 h
 |jump h=>exact K3 h
 |seq _ _ h2 ih ih1=>exact NH ih ih1 h2
 |cond b hc _ ih=>exact LV b hc ih
 |block _ h1 ih=>exact HX ih h1
 |loop _ _ h2 ih ih1=>exact J4 ih ih1 h2
 |scope _ ih=>exact GJ ih
 |reg _ ih=>exact NQ ih fun _ _=>trivial
 |dreg _ ih=>exact LO ih
 |rangeFunc hf _ h1 ih=>exact yR hf ih h1
 |trim _ h1 ih=>exact KD ih h1
 |trim2 _ h1 ih=>exact IC ih h1
 |frame hf h0 _ h1 ih=>exact H1 hf h0 ih h1
 |frameS hf h0 _ h1 ih=>exact DS hf h0 ih h1
 |chainNil h=>exact AG h
 |chainCons _ _ h2 ih ih1=>exact zK ih ih1 h2
 |chain _ h1 h2 _ ih ih1=>exact GP ih h1 h2 ih1
 |ghost t sz xs ht _ ih=>exact HV t sz xs ht ih
 |reenv he _ ih=>exact HK he ih
 |weak he _ ih=>exact K6 he ih
 |reops he _ ih=>exact G6 he ih
 |nil h=>exact PB h
 |off hw _ ih=>exact P4 hw ih
 |step hw ha _ ih=>exact KG hw ha ih
 |stepc hw ho _ _ ih ih1=>exact GN hw ho ih ih1
 |stepm hw ho hx hl he hn _ _ ih0 ih1=>exact G4 hw ho hx hl he hn ih0 ih1
 |dnil hr h=>exact KZ hr h
 |doff hw _ ih=>exact ME hw ih
 |dalloc hw ho _ ih=>exact EY hw ho ih
 |dpure hw hk ha _ ih=>exact GY hw hk ha ih
 |dread hw hk ha _ ih=>exact H6 hw hk ih
 |dact hw hk ha _ ih=>exact KY hw hk ha ih
 |dcall hw ho _ _ ih ih1=>exact H0 hw ho ih ih1
 |callf _ ih=>exact AC ih
 |round hl hn _ h0 _ h2 ih ih1=>exact HF hl hn ih h0 ih1 h2
 |call hf hn _ h1 ih=>exact K2 hT hf hn ih h1
end Go.Am
namespace Go.Am
variable {P:Program} {hh:String→Bool}
def Gh.start (w:World):Gh:=⟨fun _=>none,fun _=>none,fun _=>none,fun _=>none,fun _=>False,w.heap.size,w.heap,fun _=>none⟩
end Go.Am
namespace Go.Am
open Go.ChangeShapes Go.WideShapes Go.ChangeAt Go.RowKit
variable {P:Program} {hh:String→Bool} {H:Type} {enc:TypeId×Value→H} {w:World} {sp:Nat→Bool} {held:Bool}
def mkV (P:Program) (t:TypeId) (cs:List AV):AV:=match P.underlying t with
 |some (.struct _)=>.agg cs
 |some (.array _ _)=>.agg cs
 |_=>cs.headD .undef
def Typ (P:Program):Nat→TypeId→List AV→Prop
 |0,_,_=>False
 |n+1,t,cs =>
  match P.underlying t with
  |some .bool=>∃ b,cs=[.bool b]
  |some (.int k)=>∃ m,cs=[.int k m]∧(Lit.int k m).wf=true
  |some .string=>∃ s:ByteArray,cs=[.str s]∧s.size≤maxLen
  |some (.slice e)=>∃ ys:List (List AV),cs=[.lit (ys.map (mkV P e)) false none]∧(ys.length≤maxLen∧ys.length*P.bytesOf e≤reachBytes)∧∀ y∈ys,Typ P n e y
  |some (.struct fs)=>∃ parts:List (List AV),cs=parts.flatten∧parts.length=fs.toList.length∧∀ (i:Nat) f p,fs.toList[i]? = some f→parts[i]? = some p→Typ P n f.type p
  |some (.array k e)=>∃ parts:List (List AV),cs=parts.flatten∧parts.length=k∧∀ p∈parts,Typ P n e p
  |_=>False
def IH (P:Program):Nat→TypeId→Bool
 |0,_=>false
 |n+1,t =>
  match P.underlying t with
  |some .bool|some (.int _)|some .string=>true
  |some (.slice e)=>decide (0<P.cellsOf e)&&IH P n e
  |some (.struct fs)=>fs.toList.all fun f=>IH P n f.type
  |some (.array _ e)=>IH P n e
  |_=>false
def OS (w:World) (b:Nat):Option Nat:=match w.heap[b]? with
 |some (.cells vs _ _)=>some vs.size
 |_=>none
noncomputable def xV (w:World):Gh:=(Gh.start w).fresh0 w (OS w) fun b=>∃ L,OS w b=some L
theorem PY (w:World):RelS P hh (xV w) w []:=sM fun b L e=>by
 refine ⟨⟨L,e⟩,?_⟩
 unfold OS at e
 split at e
 ·rename_i vs T fr h
  simp only [Option.some.injEq] at e
  exact ⟨vs,T,fr,h,by omega⟩
 ·cases e
def uE (G:Gh) (w:World) (az:List AV) (cs:List Value):Prop:=az.length=cs.length∧∀ (i:Nat) a v,az[i]? = some a→cs[i]? = some v→RelV G w a v
theorem uE.nil {G:Gh}:uE G w [] []:=⟨rfl,by simp⟩
theorem uE.app {G:Gh} {az bs:List AV} {cs ds:List Value} (h:uE G w az cs) (k:uE G w bs ds):uE G w (az++bs) (cs++ds):=by
 refine ⟨by simp [h.1,k.1],fun i a v e1 e2=>?_⟩
 by_cases hi:i<az.length
 ·rw [List.getElem?_append_left hi] at e1
  rw [List.getElem?_append_left (by rw [←h.1];exact hi)] at e2
  exact h.2 i a v e1 e2
 ·rw [List.getElem?_append_right (by omega)] at e1
  rw [List.getElem?_append_right (by rw [←h.1];omega),←h.1] at e2
  exact k.2 _ a v e1 e2
theorem uE.one {G:Gh} {a:AV} {v:Value} (h:RelV G w a v):uE G w [a] [v]:=⟨rfl,fun i x u e1 e2=>by
 cases i with
 |zero=>simp at e1 e2;subst e1;subst e2;exact h
 |succ i=>simp at e1⟩
theorem LW {n:Nat} {t:TypeId} {cs:List AV} (h:Typ P n t cs):(mkV P t cs).cells=cs:=by
 cases n with
 |zero=>exact h.elim
 |succ n =>
  simp only [Typ] at h
  unfold mkV
  split at h
  ·rename_i hu;rw [hu];obtain ⟨b,rfl⟩:=h;rfl
  ·rename_i hu;rw [hu];obtain ⟨b,rfl,_⟩:=h;rfl
  ·rename_i hu;rw [hu];obtain ⟨b,rfl,_⟩:=h;rfl
  ·rename_i hu;rw [hu];obtain ⟨b,rfl,_⟩:=h;rfl
  ·rename_i hu;rw [hu];rfl
  ·rename_i hu;rw [hu];rfl
  ·exact h.elim
theorem MQ {a:Addr} {v:Value} (h:w.cell? a=some v) (n:Nat):a.add n=⟨a.block,a.off+n,none⟩:=by
 have hs:a.spot=none:=by
  unfold World.cell? at h
  split at h
  ·split at h
   ·cases h
   ·rename_i hs;simpa using hs
  ·cases h
 obtain ⟨b,o,s⟩:=a
 simp only at hs
 subst hs
 unfold Addr.add
 split
 ·rename_i h0;simp [h0]
 ·rfl
theorem RG {b o:Nat} {v:Value} (h:w.cell? ⟨b,o,none⟩=some v):∃ L,OS w b=some L∧o<L:=by
 unfold World.cell? at h
 split at h
 ·rename_i c T fr hb
  refine ⟨c.size,by simp only at hb;simp [OS,hb],?_⟩
  simp at h
  exact (Array.getElem?_eq_some_iff.1 h).1
 ·cases h
theorem OV {G:Gh} {n:Nat} {cs:List Value}:∀ (fl:List Field) (o:Nat),(∀ (j:Nat) f,fl[j]? = some f→f.offset=o+((fl.take j).map fun f=>P.cellsOf f.type).sum)→cs.length=o+(fl.map fun f=>P.cellsOf f.type).sum →
  (∀ f∈fl,∃ az,Typ P n f.type az∧uE G w az ((cs.drop f.offset).take (P.cellsOf f.type))) →
  ∃ parts:List (List AV),parts.length=fl.length∧(∀ (i:Nat) f p,fl[i]? = some f→parts[i]? = some p→Typ P n f.type p)∧uE G w parts.flatten (cs.drop o)
 |[],o,_,hl,_=>⟨[],rfl,by simp,by
   have:cs.drop o=[]:=List.drop_of_length_le (by simp at hl;omega)
   rw [this];exact .nil⟩
 |f::fl,o,ho,hl,ht=>by
  have h0:=ho 0 f rfl
  simp only [List.take_zero,List.map_nil,List.sum_nil,Nat.add_zero] at h0
  simp only [List.map_cons,List.sum_cons] at hl
  obtain ⟨az,h1,h2⟩:=ht f (by simp)
  obtain ⟨parts,q1,q2,q3⟩:=OV fl (o+P.cellsOf f.type) (fun j g hj=>by
   have:=ho (j+1) g (by simpa using hj)
   simp only [List.take_succ_cons,List.map_cons,List.sum_cons] at this
   omega) (by omega) fun g hg=>ht g (List.mem_cons_of_mem _ hg)
  refine ⟨az::parts,by simp [q1],fun i g p e1 e2=>?_,?_⟩
  ·cases i with
   |zero=>simp at e1 e2;subst e1;subst e2;exact h1
   |succ i=>exact q2 i g p (by simpa using e1) (by simpa using e2)
  ·rw [List.flatten_cons]
   have e:cs.drop o=(cs.drop o).take (P.cellsOf f.type)++cs.drop (o+P.cellsOf f.type):=by
    rw [←List.drop_drop,List.take_append_drop]
   rw [e]
   rw [h0] at h2
   exact h2.app q3
theorem VK {G:Gh} {m:Nat} {e:TypeId} {cs:List Value}:∀ (n o:Nat),cs.length=o+n*P.cellsOf e →
  (∀ i,i<n→∃ az,Typ P m e az∧uE G w az ((cs.drop (o+i*P.cellsOf e)).take (P.cellsOf e)))→∃ parts:List (List AV),parts.length=n∧(∀ p∈parts,Typ P m e p)∧uE G w parts.flatten (cs.drop o)
 |0,o,hl,_=>⟨[],rfl,by simp,by
   have:cs.drop o=[]:=List.drop_of_length_le (by simp at hl;omega)
   rw [this];exact .nil⟩
 |n+1,o,hl,ht=>by
  obtain ⟨az,h1,h2⟩:=ht 0 (by omega)
  rw [Nat.zero_mul,Nat.add_zero] at h2
  rw [Nat.add_mul,Nat.one_mul] at hl
  obtain ⟨parts,q1,q2,q3⟩:=VK (e:=e) (cs:=cs) (m:=m) n (o+P.cellsOf e) (by omega) fun i hi=>by
   obtain ⟨az,k1,k2⟩:=ht (i+1) (by omega)
   rw [Nat.add_mul,Nat.one_mul,Nat.add_comm (i*_),←Nat.add_assoc] at k2
   exact ⟨az,k1,k2⟩
  refine ⟨az::parts,by simp [q1],fun p hp=>?_,?_⟩
  ·rcases List.mem_cons.1 hp with rfl|hp
   ·exact h1
   ·exact q2 p hp
  ·rw [List.flatten_cons]
   have e1:cs.drop o=(cs.drop o).take (P.cellsOf e)++cs.drop (o+P.cellsOf e):=by
    rw [←List.drop_drop,List.take_append_drop]
   rw [e1]
   exact h2.app q3
theorem wE {α:Type} {Q:Nat→α→Prop}:∀ n,(∀ i,i<n→∃ x,Q i x)→∃ l:List α,l.length=n∧∀ (i:Nat) x,l[i]? = some x→Q i x
 |0,_=>⟨[],rfl,by simp⟩
 |n+1,h=>by
  obtain ⟨l,h1,h2⟩:=wE n fun i hi=>h i (by omega)
  obtain ⟨x,hx⟩:=h n (by omega)
  refine ⟨l++[x],by simp [h1],fun i y e=>?_⟩
  by_cases hi:i<l.length
  ·rw [List.getElem?_append_left hi] at e;exact h2 i y e
  ·rw [List.getElem?_append_right (by omega)] at e
   have:i-l.length=0:=by
    by_cases h0:i-l.length=0
    ·exact h0
    ·rw [List.getElem?_eq_none (by simp;omega)] at e;cases e
   rw [this] at e
   simp at e
   subst e
   rw [show i=n by omega];exact hx
theorem nB (hl:laidOutB P=true):∀ (n m:Nat) (t:TypeId) (cs:List Value) (x:DataW H×List MemPlace),t<P.types.size→IH P n t=true→DataW.trod enc P w 0 sp held m t cs=some x→(∀ k∈x.1.weights P t,k≤reachBytes) →
  ∃ az,Typ P n t az∧uE (xV w) w az cs
 |0,m,t,cs,x,_,ho,_,_=>by simp [IH] at ho
 |n+1,m,t,cs,x,ht,ho,h,hwt=>by
  simp only [IH] at ho
  split at ho
  ·rename_i hu
   obtain ⟨b,rfl,_⟩:=DataW.trod_bool hu h
   exact ⟨[.bool b],by simp only [Typ,hu];exact ⟨b,rfl⟩,.one (.bool b)⟩
  ·rename_i k hu
   obtain ⟨b,rfl,_,hw⟩:=DataW.trod_int hu h
   exact ⟨[.int k b],by simp only [Typ,hu];exact ⟨b,rfl,hw⟩,.one (.int k b)⟩
  ·rename_i hu
   obtain ⟨s,rfl,_,hs⟩:=DataW.trod_string hu h
   exact ⟨[.str s],by simp only [Typ,hu];exact ⟨s,rfl,hs⟩,.one (.str s)⟩
  ·rename_i e hu
   simp only [Bool.and_eq_true,decide_eq_true_eq] at ho
   rcases DataW.trod_slice hu h with ⟨rfl,_⟩|⟨a,len,cap,elems,rest,m',_,rfl,hxe,_,hlc,hcm,hel,hei,_,_⟩
   ·refine ⟨[.lit [] false none],by simp only [Typ,hu];exact ⟨[],rfl,⟨by simp,by simp⟩,by simp⟩,.one (.nil ⟨Nat.le_refl _,(fun e=>by cases e),(fun t e=>by cases e)⟩ fun _=>rfl)⟩
   ·
    have hws:∀ k∈x.1.weights P t,k≤reachBytes:=hwt
    rw [hxe] at hws
    simp only [DataW.weights,hu,List.mem_cons,List.mem_append,List.length_map] at hws
    have hwl:len*P.bytesOf e≤reachBytes:=by
     have h1:=hws _ (.inl rfl)
     rw [hel] at h1
     exact Nat.le_trans (Nat.mul_le_mul_right _ (Nat.le_add_right _ _)) h1
    have hwe:∀ (d:DataW H),d∈elems.map (·.1)→∀ k∈d.weights P e,k≤reachBytes:=by
     have key:∀ (l:List (DataW H)) (d:DataW H),d∈l→∀ k∈d.weights P e,k∈DataW.weightsAll P e l:=by
      intro l
      induction l with
      |nil=>intro d hd;cases hd
      |cons a l ih =>
       intro d hd k hk
       simp only [DataW.weightsAll,List.mem_append]
       rcases List.mem_cons.1 hd with rfl|hd
       ·exact .inl hk
       ·exact .inr (ih d hd k hk)
     exact fun d hd k hk=>hws k (.inr (.inl (key _ d hd k hk)))
    have hel2:∀ i,i<len→∃ y,Typ P n e y∧∃ vs,w.cells? 0 (a.add (i*P.cellsOf e)) (P.cellsOf e)=some vs∧uE (xV w) w y vs:=by
     intro i hi
     have h1:=hei i hi
     rw [List.getElem?_eq_getElem (by omega),Option.bind_eq_some_iff] at h1
     obtain ⟨vs,q1,q2⟩:=h1
     obtain ⟨y,q3,q4⟩:=nB hl n m' e vs _ (kid_slice hl ht hu) ho.2 q2 (hwe _ (List.mem_map.2 ⟨_,List.getElem_mem (by omega),rfl⟩))
     exact ⟨y,q3,vs,q1,q4⟩
    obtain ⟨ys,hyl,hys⟩:=wE len hel2
    refine ⟨[.lit (ys.map (mkV P e)) false none],by
     simp only [Typ,hu]
     refine ⟨ys,rfl,⟨by omega,by rw [hyl];exact hwl⟩,fun y hy=>?_⟩
     obtain ⟨i,hi⟩:=List.getElem?_of_mem hy
     exact (hys i y hi).1,.one ?_⟩
    by_cases h0:len=0
    ·subst h0
     obtain rfl:ys=[]:=List.eq_nil_of_length_eq_zero hyl
     exact .nil ⟨Nat.zero_le _,(fun e=>by cases e),(fun t e=>by cases e)⟩ fun e=>by cases e
    ·
     have hcell:∀ i j,i<len→j<P.cellsOf e→∃ v,w.cell? ((a.add (i*P.cellsOf e)).add j)=some v:=by
      intro i j hi hj
      obtain ⟨y,_,vs,q1,_⟩:=hel2 i hi
      simp only [World.cells?,Nat.zero_le,if_true] at q1
      have hlen:=mapM_some_length q1
      have:=mapM_some_get q1 j j (by simp [hj])
      rw [List.length_range] at hlen
      rw [List.getElem?_eq_getElem (by omega)] at this
      exact ⟨_,this⟩
     obtain ⟨v0,hv0⟩:=hcell 0 0 (by omega) ho.1
     rw [Nat.zero_mul] at hv0
     have ha0:a.add 0=a:=by simp [Addr.add]
     rw [ha0,ha0] at hv0
     have hplain:∀ i,a.add i=⟨a.block,a.off+i,none⟩:=MQ hv0
     have hae:a=⟨a.block,a.off,none⟩:=by have:=hplain 0;rw [ha0] at this;simpa using this
     have hplain2:∀ i j,(a.add i).add j=⟨a.block,a.off+(i+j),none⟩:=by
      intro i j
      rw [hplain]
      unfold Addr.add
      split
      ·rename_i h;simp [h]
      ·simp [Nat.add_assoc]
     have hcell2:∀ i j,i<len→j<P.cellsOf e→∃ v,w.cell? ⟨a.block,a.off+(i*P.cellsOf e+j),none⟩=some v:=by
      intro i j hi hj
      have:=hcell i j hi hj
      rw [hplain2] at this
      exact this
     rw [hae,show len=(ys.map (mkV P e)).length by simp [hyl]]
     have hsz:∀ (i:Nat) (x:AV),(ys.map (mkV P e))[i]? = some x→∃ y,ys[i]? = some y∧x=mkV P e y∧x.cells=y:=by
      intro i x hx
      rw [List.getElem?_map] at hx
      cases hy:ys[i]? with
      |none=>rw [hy] at hx;cases hx
      |some y =>
       rw [hy] at hx
       simp at hx
       exact ⟨y,rfl,hx.symm,by rw [←hx,LW (hys i y hy).1]⟩
     have hvl:∀ (i:Nat) y,ys[i]? = some y→y.length=P.cellsOf e:=by
      intro i y hy
      obtain ⟨_,vs,q1,q2⟩:=hys i y hy
      rw [q2.1]
      simp only [World.cells?,Nat.zero_le,if_true] at q1
      rw [mapM_some_length q1,List.length_range]
     refine .lit (sz:=P.cellsOf e) ⟨by simp;omega,(fun e=>by cases e),(fun t e=>by cases e)⟩ ⟨?_,(fun t e=>by cases e),fun i x hx=>?_,fun k hk=>?_⟩ fun i x j c u hx hc hu2=>?_
     ·obtain ⟨v,hv⟩:=hcell2 (len-1) (P.cellsOf e-1) (by omega) (by omega)
      obtain ⟨L,q1,q2⟩:=RG hv
      refine ⟨L,q1,?_⟩
      rw [List.length_map,hyl]
      have:(len-1)*P.cellsOf e+P.cellsOf e=len*P.cellsOf e:=by
       rw [←Nat.succ_mul];congr 1;omega
      omega
     ·obtain ⟨y,q1,q2,q3⟩:=hsz i x hx
      rw [q3];exact hvl i y q1
     ·rw [List.length_map,hyl] at hk
      have hd:k/P.cellsOf e<len:=Nat.div_lt_of_lt_mul (by rw [Nat.mul_comm];exact hk)
      have hm:k%P.cellsOf e<P.cellsOf e:=Nat.mod_lt _ ho.1
      obtain ⟨v,hv⟩:=hcell2 _ _ hd hm
      have:k/P.cellsOf e*P.cellsOf e+k%P.cellsOf e=k:=by rw [Nat.mul_comm];exact Nat.div_add_mod _ _
      rw [this] at hv
      rw [hv];rfl
     ·obtain ⟨y,q1,q2,q3⟩:=hsz i x hx
      rw [q3] at hc
      obtain ⟨_,vs,p1,p2⟩:=hys i y q1
      have hjl:j<P.cellsOf e:=by
       rw [←hvl i y q1]
       exact (List.getElem?_eq_some_iff.1 hc).1
      simp only [World.cells?,Nat.zero_le,if_true] at p1
      have hg:=mapM_some_get p1 j j (by simp [hjl])
      rw [hplain2] at hg
      rw [hu2] at hg
      exact p2.2 j c u hc hg.symm
  ·rename_i fs hu
   rw [List.all_eq_true] at ho
   obtain ⟨xs,m',_,hxe,hcl,hxl,hf⟩:=DataW.trod_struct hu h
   obtain ⟨k1,k2,k3⟩:=kid_struct hl ht hu
   obtain ⟨parts,q1,q2,q3⟩:=OV (P:=P) (G:=xV w) (w:=w) (n:=n) (cs:=cs) fs.toList 0 (fun j f hj=>by rw [k3 j f hj];omega) (by rw [hcl,k2];omega) fun f hfm=>by
    obtain ⟨i,hi⟩:=List.getElem?_of_mem hfm
    have h1:=hf i f (by simpa using hi)
    have hil:i<xs.length:=by rw [hxl];have:=(List.getElem?_eq_some_iff.1 hi).1;simpa using this
    rw [List.getElem?_eq_getElem hil] at h1
    have hd:(xs.map (·.1))[i]? = some xs[i].1:=by rw [List.getElem?_map,List.getElem?_eq_getElem hil];rfl
    have hty:(fs.toList.map (·.type))[i]? = some f.type:=by rw [List.getElem?_map,hi];rfl
    refine nB hl n m' f.type _ _ (k1 f hfm) (ho f hfm) h1 fun k hk=>hwt k ?_
    rw [hxe]
    simp only [DataW.weights,hu]
    exact DataW.weights_mem_each hty hd k hk
   rw [List.drop_zero] at q3
   exact ⟨parts.flatten,by simp only [Typ,hu];exact ⟨parts,rfl,q1,q2⟩,q3⟩
  ·rename_i k e hu
   obtain ⟨xs,m',_,hxe,hcl,hxl,hf⟩:=DataW.trod_array hu h
   obtain ⟨k1,k2⟩:=kid_array hl ht hu
   have hwe:∀ (d:DataW H),d∈xs.map (·.1)→∀ q∈d.weights P e,q≤reachBytes:=by
    have key:∀ (l:List (DataW H)) (d:DataW H),d∈l→∀ q∈d.weights P e,q∈DataW.weightsAll P e l:=by
     intro l
     induction l with
     |nil=>intro d hd;cases hd
     |cons a l ih =>
      intro d hd q hq
      simp only [DataW.weightsAll,List.mem_append]
      rcases List.mem_cons.1 hd with rfl|hd
      ·exact .inl hq
      ·exact .inr (ih d hd q hq)
    intro d hd q hq
    refine hwt q ?_
    rw [hxe]
    simp only [DataW.weights,hu]
    exact key _ d hd q hq
   obtain ⟨parts,q1,q2,q3⟩:=VK (P:=P) (G:=xV w) (w:=w) (m:=n) (e:=e) (cs:=cs) k 0 (by rw [hcl,k2];omega) fun i hi=>by
    have h1:=hf i hi
    have hil:i<xs.length:=by omega
    rw [List.getElem?_eq_getElem hil] at h1
    rw [Nat.zero_add]
    exact nB hl n m' e _ _ k1 ho h1 (hwe _ (List.mem_map.2 ⟨_,List.getElem_mem hil,rfl⟩))
   rw [List.drop_zero] at q3
   exact ⟨parts.flatten,by simp only [Typ,hu];exact ⟨parts,rfl,q1,q2⟩,q3⟩
  ·cases ho
theorem wQ (hl:laidOutB P=true) (n:Nat) {t:TypeId} {v:Value} {d:DataW H} {ps:List MemPlace} (ht:t<P.types.size) (ho:IH P n t=true) (hv:Value.okWide P w .any 0 t v) (h:DataW.Trod enc P w 0 sp held t v d ps) (hwt:∀ k∈d.weights P t,k≤reachBytes) :
  ∃ az,Typ P n t az∧RelV (xV w) w (mkV P t az) v:=by
 obtain ⟨m,hm⟩:=h
 obtain ⟨az,h1,h2⟩:=nB hl n m t _ _ ht ho hm hwt
 refine ⟨az,h1,?_⟩
 have hone:∀ {a:AV},az=[a]→(∀ cs,v≠.agg cs)→RelV (xV w) w a v:=by
  rintro a rfl hx
  have hc:v.cells.toList=[v]:=by cases v<;>first|rfl|exact absurd rfl (hx _)
  rw [hc] at h2
  exact h2.2 0 a v rfl rfl
 cases n with
 |zero=>exact h1.elim
 |succ n =>
  unfold mkV
  simp only [Typ] at h1
  split at h1<;>rename_i hu
  ·obtain ⟨b,rfl⟩:=h1
   rw [hu]
   obtain ⟨c,hc⟩:=okWide_bool hu hv
   exact hone rfl (by rw [hc];intro cs e;cases e)
  ·obtain ⟨b,rfl,_⟩:=h1
   rw [hu]
   obtain ⟨c,hc⟩:=okWide_int hu hv
   exact hone rfl (by rw [hc];intro cs e;cases e)
  ·obtain ⟨b,rfl,_⟩:=h1
   rw [hu]
   obtain ⟨c,hc⟩:=okWide_string hu hv
   exact hone rfl (by rw [hc];intro cs e;cases e)
  ·obtain ⟨b,rfl,_⟩:=h1
   rw [hu]
   obtain ⟨_,_,_,hc⟩:=okWide_slice hu hv
   exact hone rfl (by rw [hc];intro cs e;cases e)
  ·rw [hu]
   unfold Value.okWide at hv
   rw [hu] at hv
   obtain ⟨cs,rfl,_,_⟩:=hv
   refine .agg ?_ fun i a u e1 e2=>?_
   ·have:=h2.1;simpa [Value.cells] using this.symm
   ·exact h2.2 i a u e1 (by simpa [Value.cells] using e2)
  ·rw [hu]
   unfold Value.okWide at hv
   rw [hu] at hv
   obtain ⟨cs,rfl,_,_⟩:=hv
   refine .agg ?_ fun i a u e1 e2=>?_
   ·have:=h2.1;simpa [Value.cells] using this.symm
   ·exact h2.2 i a u e1 (by simpa [Value.cells] using e2)
  ·exact h1.elim
theorem zX {T:FuncId→Option AFunc} (hT:∀ f af,T f=some af→∃ fn,P.funcs[f]? = some fn∧aC P hh fn=some af) {f:FuncId} {az:List AV} {vs:Array Value} {w:World} (ha:eS (xV w) w az vs) (h:Run T (.call f az []) fun o=>o.v = .bool true) :
  Calls P f vs w fun e w'=>e = .returned (.bool true)∧RowKit.Below w.heap.size w w':=by
 have hs:=aCY hT h
 refine (callsIn_wide.1 (hs.2 (G:=xV w) (w:=w) (vs:=vs) ha (PY w))).mono fun e w' hr=>?_
 obtain ⟨r,G',u,rfl,q1,q2,q3,q4⟩:=hr
 rw [q1] at q2
 cases q2
 refine ⟨rfl,q4.os,q4.tape,q4.output,q4.size,fun k hk=>?_⟩
 have hB:G'.B0=w.heap.size:=q4.B0
 have hh0:G'.h0=(xV w).h0:=q4.h0
 rw [q3.base k (by rw [hB];exact hk),hh0]
 simp only [xV,Gh.fresh0]
 rw [Array.getElem?_append_left hk]
theorem E9 {G:Gh}:eS G w [] #[]:=⟨rfl,by simp⟩
theorem tT {G:Gh} {a:AV} {v:Value} {az:List AV} {vs:List Value} (h:RelV G w a v) (hs:eS G w az vs.toArray):eS G w (a::az) (v::vs).toArray:=by
 refine ⟨by have:=hs.1;simp at this;simp [this],fun i x u e1 e2=>?_⟩
 cases i with
 |zero=>simp at e1 e2;subst e1;subst e2;exact h
 |succ i=>exact hs.2 i x u (by simpa using e1) (by simpa using e2)
def BZ (P:Program) (n:Nat):List TypeId→List AV→Prop
 |[],cs=>cs=[]
 |t::ts,cs=>∃ a b,cs=a++b∧Typ P n t a∧BZ P n ts b
theorem FF {n:Nat}:∀ (fl:List Field) (parts:List (List AV)),parts.length=fl.length→(∀ (i:Nat) f p,fl[i]? = some f→parts[i]? = some p→Typ P n f.type p)→BZ P n (fl.map Field.type) parts.flatten
 |[],parts,hl,_=>by rw [List.length_eq_zero_iff.1 hl];rfl
 |f::fl,[],hl,_=>by simp at hl
 |f::fl,p::parts,hl,h=>⟨p,parts.flatten,rfl,h 0 f p rfl rfl,FF fl parts (by simpa using hl) fun i g q e1 e2=>h (i+1) g q (by simpa using e1) (by simpa using e2)⟩
theorem HA {n:Nat} {t:TypeId} {fs:Array Field} {cs:List AV} (hu:P.underlying t=some (.struct fs)) (h:Typ P (n+1) t cs):BZ P n (fs.toList.map Field.type) cs:=by
 simp only [Typ,hu] at h
 obtain ⟨parts,rfl,h1,h2⟩:=h
 exact FF fs.toList parts h1 h2
theorem gX {n:Nat} {t:TypeId} {k:IntKind} {cs:List AV} (hu:P.underlying t=some (.int k)) (h:Typ P (n+1) t cs):∃ m,cs=[.int k m]∧(Lit.int k m).wf=true:=by
 simp only [Typ,hu] at h;exact h
theorem RW {n:Nat} {t:TypeId} {cs:List AV} (hu:P.underlying t=some .string) (h:Typ P (n+1) t cs):∃ s:ByteArray,cs=[.str s]∧s.size≤maxLen:=by
 simp only [Typ,hu] at h;exact h
theorem rY {n:Nat} {t e:TypeId} {cs:List AV} {α:Type} {f:α→AV} {Q:α→Prop} (hu:P.underlying t=some (.slice e)) (h:Typ P (n+1) t cs) (hq:∀ y,Typ P n e y→∃ x,mkV P e y=f x∧Q x):∃ l:List α,cs=[.lit (l.map f) false none]∧(l.length<9223372036854775808∧l.length*P.bytesOf e≤reachBytes)∧∀ x∈l,Q x:=by
 simp only [Typ,hu] at h
 obtain ⟨ys,rfl,⟨h1,h1b⟩,h2⟩:=h
 have key:∀ ys:List (List AV),(∀ y∈ys,Typ P n e y)→∃ l:List α,ys.map (mkV P e)=l.map f∧l.length=ys.length∧∀ x∈l,Q x:=by
  intro ys
  induction ys with
  |nil=>intro _;exact ⟨[],rfl,rfl,by simp⟩
  |cons y ys ih =>
   intro hy
   obtain ⟨x,q1,q2⟩:=hq y (hy y (by simp))
   obtain ⟨l,q3,q4,q5⟩:=ih fun z hz=>hy z (List.mem_cons_of_mem _ hz)
   exact ⟨x::l,by simp [q1,q3],by simp [q4],fun z hz=>by
    rcases List.mem_cons.1 hz with rfl|hz
    ·exact q2
    ·exact q5 z hz⟩
 obtain ⟨l,q1,q2,q3⟩:=key ys h2
 exact ⟨l,by rw [q1],⟨by simp only [maxLen] at h1;omega,by rw [q2];exact h1b⟩,q3⟩
theorem LE {n k:Nat} {t e:TypeId} {cs:List AV} (hu:P.underlying t=some (.array k e)) (h:Typ P (n+1) t cs):BZ P n (List.replicate k e) cs:=by
 simp only [Typ,hu] at h
 obtain ⟨parts,rfl,rfl,h2⟩:=h
 have key:∀ parts:List (List AV),(∀ p∈parts,Typ P n e p)→BZ P n (List.replicate parts.length e) parts.flatten:=by
  intro parts
  induction parts with
  |nil=>intro _;rfl
  |cons p parts ih=>intro hp;exact ⟨p,parts.flatten,rfl,hp p (by simp),ih fun q hq=>hp q (List.mem_cons_of_mem _ hq)⟩
 exact key parts h2
theorem KO {k:Nat} {t e:TypeId} {cs:List AV} (hu:P.underlying t=some (.array k e)):mkV P t cs = .agg cs:=by simp [mkV,hu]
theorem GI {t:TypeId} {fs:Array Field} {cs:List AV} (hu:P.underlying t=some (.struct fs)):mkV P t cs = .agg cs:=by simp [mkV,hu]
theorem SF {t:TypeId} {a:AV} (hu:∀ fs,P.underlying t≠some (.struct fs)) (hu2:∀ k e,P.underlying t≠some (.array k e)):mkV P t [a]=a:=by
 unfold mkV
 split
 ·rename_i fs h;exact absurd h (hu fs)
 ·rename_i k e h;exact absurd h (hu2 k e)
 ·rfl
theorem V6 {m:Int} (h:(Lit.int .u8 m).wf=true):0≤m∧m<256:=by
 simp [Lit.wf,IntKind.min,IntKind.max,IntKind.signed,IntKind.bits] at h
 omega
end Go.Am
namespace Go.Am
variable {T:FuncId→Option AFunc}
def lA (r:Option (AV×St)) (K:AV→St→Prop):Prop :=
 match r with
 |some (v,σ)=>K v σ
 |none=>False
@[congr] theorem WJ {r r':Option (AV×St)} {K:AV→St→Prop} (h:r=r'):lA r K=lA r' K:=by rw [h]
@[simp] theorem WO (v:AV) (σ:St) (K:AV→St→Prop):lA (some (v,σ)) K=K v σ:=rfl
@[simp] theorem W5 (K:AV→St→Prop):lA none K=False:=rfl
@[simp] theorem Z7 (c:Prop) [Decidable c] (r q:Option (AV×St)) (K:AV→St→Prop):lA (if c then r else q) K=if c then lA r K else lA q K:=by split<;>rfl
def xN (v:AV) (A B:Unit→Prop):Prop :=
 match v with
 |.bool true=>A ()
 |.bool false=>B ()
 |_=>False
@[congr] theorem VP {v v':AV} {A B:Unit→Prop} (h:v=v'):xN v A B=xN v' A B:=by rw [h]
@[simp] theorem X4 (b:Bool) (A B:Unit→Prop):xN (.bool b) A B=if b=true then A () else B ():=by cases b<;>rfl
def mQ (v:AV) (want:Bool) (A B:Unit→Prop):Prop :=
 match v with
 |.bool b=>if b=want then A () else B ()
 |.tuple []=>B ()
 |_=>False
@[congr] theorem UZ {v v':AV} {want:Bool} {A B:Unit→Prop} (h:v=v'):mQ v want A B=mQ v' want A B:=by rw [h]
@[simp] theorem Z2 (b want:Bool) (A B:Unit→Prop):mQ (.bool b) want A B=if b=want then A () else B ():=rfl
@[simp] theorem Z5 (want:Bool) (A B:Unit→Prop):mQ (.tuple []) want A B=B ():=rfl
def IM (T:FuncId→Option AFunc) (f:AV) (args:List AV) (σ:St) (K:AV→St→Prop):Prop:=Run T (.callv f args σ) fun r=>K r.v r.σ
@[congr] theorem WD {f f':AV} {args args':List AV} {σ σ':St} {K:AV→St→Prop} (h1:f=f') (h2:args=args') (h3:σ=σ'):IM T f args σ K=IM T f' args' σ' K:=by rw [h1,h2,h3]
def fS (T:FuncId→Option AFunc) (q:AOp) (e:Env) (σ:St) (K:AV→St→Prop):Prop :=
 match q with
 |.call f args=>IM T (f.ev e) (args.map (·.ev e)) σ K
 |q=>lA (aop q e σ) K
@[congr] theorem XP {q:AOp} {e e':Env} {σ σ':St} {K:AV→St→Prop} (h2:e=e') (h3:σ=σ'):fS T q e σ K=fS T q e' σ' K:=by rw [h2,h3]
def aJ (T:FuncId→Option AFunc):List AOper→Env→St→(Env→St→Prop)→Prop
 |[],e,σ,K=>K e σ
 |⟨dst,q,none⟩::os,e,σ,K=>fS T q e σ fun v σ'=>aJ T os (Env.put e dst v) σ' K
 |⟨dst,q,some (t,want)⟩::os,e,σ,K =>
  mQ (Env.get e t) want (fun _=>fS T q e σ fun v σ'=>aJ T os (Env.put e dst v) σ' K) (fun _=>aJ T os (Env.put e dst (.tuple [])) σ K)
@[congr] theorem VT {os:List AOper} {e e':Env} {σ σ':St} {K:Env→St→Prop} (h2:e=e') (h3:σ=σ'):aJ T os e σ K=aJ T os e' σ' K:=by rw [h2,h3]
theorem oC {Q:Out→Prop}:∀ {os:List AOper} {e:Env} {σ:St} {K:Env→St→Prop},aJ T os e σ K→(∀ e σ,K e σ→Q ⟨none,e,σ,.undef⟩)→Run T (.ops os e σ) Q
 |[],e,σ,K,h,hq=>.nil (hq _ _ h)
 |o::os,e,σ,K,h,hq=>by
  have key:o.wanted e=some true→fS T o.op e σ (fun v σ'=>aJ T os (Env.put e o.dst v) σ' K)→Run T (.ops (o::os) e σ) Q:=by
   intro hw h
   by_cases hc:∃ f args,o.op = .call f args
   ·obtain ⟨f,args,ho⟩:=hc
    rw [ho] at h
    exact .stepc hw ho h fun r hr=>oC hr hq
   ·have:∃ v σ',aop o.op e σ=some (v,σ')∧aJ T os (Env.put e o.dst v) σ' K:=by
     unfold fS at h
     split at h
     ·rename_i f args ho;exact absurd ⟨f,args,ho⟩ hc
     ·unfold lA at h
      split at h
      ·rename_i v σ' hv;exact ⟨v,σ',hv,h⟩
      ·exact h.elim
    obtain ⟨v,σ',h1,h2⟩:=this
    exact .step hw h1 (oC h2 hq)
  obtain ⟨dst,q,g⟩:=o
  cases g with
  |none=>exact key rfl h
  |some g =>
   obtain ⟨t,want⟩:=g
   simp only [aJ,mQ] at h
   split at h
   ·rename_i b h1
    split at h
    ·rename_i hb
     exact key (by simp [AOper.wanted,h1,hb]) h
    ·rename_i hb
     exact .off (by simp [AOper.wanted,h1];simpa using hb) (oC h hq)
   ·rename_i h1
    exact .off (by simp [AOper.wanted,h1]) (oC h hq)
   ·exact h.elim
abbrev KJ:=Option AJump→Env→St→Prop
def pI (A K:KJ):KJ:=fun j e σ=>match j with|none=>A none e σ|some j=>K (some j) e σ
@[simp] theorem W6 (A K:KJ) (e:Env) (σ:St):pI A K none e σ=A none e σ:=rfl
@[simp] theorem ZM (A K:KJ) (j:AJump) (e:Env) (σ:St):pI A K (some j) e σ=K (some j) e σ:=rfl
def jJ (id:Nat) (K:KJ):KJ:=fun j e σ=>match j with|some (.exit i)=>if i=id then K none e σ else K (some (.exit i)) e σ|j=>K j e σ
@[simp] theorem V3 (id:Nat) (K:KJ) (e:Env) (σ:St):jJ id K none e σ=K none e σ:=rfl
@[simp] theorem Y8 (id:Nat) (K:KJ) (e:Env) (σ:St):jJ id K (some .ret) e σ=K (some .ret) e σ:=rfl
@[simp] theorem V4 (id i:Nat) (K:KJ) (e:Env) (σ:St):jJ id K (some (.exit i)) e σ=if i=id then K none e σ else K (some (.exit i)) e σ:=rfl
def HD (T:FuncId→Option AFunc) (c:ACode) (e:Env) (σ:St) (K:KJ):Prop:=Run T (.code c e σ) fun o=>K o.j o.env o.σ
@[congr] theorem XB {c:ACode} {e e':Env} {σ σ':St} {K:KJ} (h2:e=e') (h3:σ=σ'):HD T c e σ K=HD T c e' σ' K:=by rw [h2,h3]
def wp (T:FuncId→Option AFunc):ACode→Env→St→KJ→Prop
 |.skip,e,σ,K=>K none e σ
 |.reg os,e,σ,K=>aJ T os e σ fun e σ=>K none e σ
 |.seq a b,e,σ,K=>wp T a e σ (pI (fun _ e σ=>wp T b e σ K) K)
 |.cond c a b,e,σ,K=>xN (c.ev e) (fun _=>wp T a e σ K) (fun _=>wp T b e σ K)
 |.block id b,e,σ,K=>wp T b e σ (jJ id K)
 |.jump j,e,σ,K=>K (some j) e σ
 |.scope b,e,σ,K=>wp T b e σ K
 |c,e,σ,K=>HD T c e σ K
@[congr] theorem aCN {c:ACode} {e e':Env} {σ σ':St} {K:KJ} (h2:e=e') (h3:σ=σ'):wp T c e σ K=wp T c e' σ' K:=by rw [h2,h3]
theorem gK {Q:Out→Prop}:∀ {c:ACode} {e:Env} {σ:St} {K:KJ},wp T c e σ K→(∀ o,K o.j o.env o.σ→Q o)→Run T (.code c e σ) Q:=by
 intro c
 induction c generalizing Q with
 |skip=>intro e σ K h hq;exact .skip (hq ⟨none,e,σ,.undef⟩ h)
 |reg os=>intro e σ K h hq;exact .reg (oC h fun e σ hk=>hq ⟨none,e,σ,.undef⟩ hk)
 |dreg ds=>intro e σ K h hq;exact .mono h hq
 |seq a b iha ihb =>
  intro e σ K h hq
  refine .seq (iha h fun o ho=>ho) (fun o ho hj=>?_) fun o ho hj=>?_
  ·simp only [hj,pI] at ho
   exact ihb ho hq
  ·refine hq o ?_
   cases hj':o.j with
   |none=>exact absurd hj' hj
   |some j=>simp only [hj',pI] at ho;exact ho
 |cond c a b iha ihb =>
  intro e σ K h hq
  simp only [wp,xN] at h
  split at h
  ·rename_i h1;exact .cond true h1 (iha h hq)
  ·rename_i h1;exact .cond false h1 (ihb h hq)
  ·exact h.elim
 |block id b ih =>
  intro e σ K h hq
  refine .block (ih h fun o ho=>ho) fun o ho=>hq _ ?_
  unfold jJ at ho
  split at ho
  ·rename_i i hj
   split at ho
   ·rename_i hi;subst hi;rw [if_pos hj];exact ho
   ·rename_i hi;rw [if_neg (by rw [hj];simpa using hi),hj];exact ho
  ·rename_i hj
   rw [if_neg (fun e=>hj _ e)]
   exact ho
 |loop b ih=>intro e σ K h hq;exact .mono h hq
 |rangeFunc f ps a b _ _=>intro e σ K h hq;exact .mono h hq
 |jump j=>intro e σ K h hq;exact .jump (hq ⟨some j,e,σ,.undef⟩ h)
 |scope b ih=>intro e σ K h hq;exact .scope (ih h hq)
def eC (T:FuncId→Option AFunc) (f:FuncId) (args:List AV) (v:AV):Prop:=∀ σ,Run T (.call f args σ) fun o=>o.v=v∧o.σ=σ
theorem qG (σ τ:St) (k:Nat):(σ++τ)[σ.length+k]? = τ[k]?:=by rw [List.getElem?_append_right (by omega)];congr 1;omega
theorem nL (σ τ:St) (k:Nat) (x:ABlk):(σ++τ).set (σ.length+k) x=σ++τ.set k x:=by rw [List.set_append_right _ _ (by omega)];congr 2;omega
theorem IL (σ τ:St) (x:ABlk):(σ++τ).set σ.length x=σ++τ.set 0 x:=nL σ τ 0 x
end Go.Am
namespace Go.Am
variable {T:FuncId→Option AFunc}
theorem aBJ (e:Env) (d:Nat) (v:AV):Env.put e (some d) v=(d,v)::e:=by simp only [Env.put]
theorem XJ (e:Env) (v:AV):Env.put e none v=e:=by simp only [Env.put]
theorem OM (k:Nat) (v:AV) (e:Env) (t:Nat):Env.get ((k,v)::e) t=if k=t then v else Env.get e t:=by simp only [Env.get]
theorem QL (e:Env) (t:Nat):AOpd.ev e (.t t)=Env.get e t:=by simp only [AOpd.ev]
theorem aA3 (e:Env) (v:AV):AOpd.ev e (.c v)=v:=by simp only [AOpd.ev]
theorem aDH (os:List AOper) (e:Env) (σ:St) (K:KJ):wp T (.reg os) e σ K=aJ T os e σ fun e σ=>K none e σ:=by simp only [wp]
theorem aAH (a b:ACode) (e:Env) (σ:St) (K:KJ):wp T (.seq a b) e σ K=wp T a e σ (pI (fun _ e σ=>wp T b e σ K) K):=by simp only [wp]
theorem XI (j:AJump) (e:Env) (σ:St) (K:KJ):wp T (.jump j) e σ K=K (some j) e σ:=by simp only [wp]
theorem XX (A K:KJ) (e:Env) (σ:St):pI A K none e σ=A none e σ:=by simp only [pI]
theorem aCB (e:Env) (σ:St) (K:Env→St→Prop):aJ T [] e σ K=K e σ:=by simp only [aJ]
def aBK (r:Option AV) (σ:St) (K:AV→St→Prop):Prop:=match r with|some v=>K v σ|none=>False
@[congr] theorem XL {r r':Option AV} {σ σ':St} {K:AV→St→Prop} (h:r=r') (h2:σ=σ'):aBK r σ K=aBK r' σ' K:=by rw [h,h2]
def aCV (r:Option (List AV)) (σ:St) (K:AV→St→Prop):Prop:=match r with|some cs=>K (.agg cs) σ|none=>False
@[congr] theorem XK {r r':Option (List AV)} {σ σ':St} {K:AV→St→Prop} (h:r=r') (h2:σ=σ'):aCV r σ K=aCV r' σ' K:=by rw [h,h2]
def aBT (r:Option St) (K:AV→St→Prop):Prop:=match r with|some σ=>K (.tuple []) σ|none=>False
@[congr] theorem YA {r r':Option St} {K:AV→St→Prop} (h:r=r'):aBT r K=aBT r' K:=by rw [h]
def oI (n:Nat) (v:AV):Option (List AV):=if (v.cells.length==n&&v.cells.all (·.cell))=true then some v.cells else none
def vF (off:Nat):AV→Option AV
 |.ptr id o=>some (.ptr id (o+off))
 |.lptr xs i o t=>some (.lptr xs i (o+off) t)
 |_=>none
theorem ND (off id o:Nat):vF off (.ptr id o)=some (.ptr id (o+off)):=by simp [vF]
theorem N9 (off:Nat) (xs:List AV) (i o:Nat) (t:Option Nat):vF off (.lptr xs i o t)=some (.lptr xs i (o+off) t):=by simp [vF]
def aBG (r:Option (List AV)) (σ:St) (K:AV→St→Prop):Prop:=match r with|some cs=>K (.ptr σ.length 0) (σ++[.cells cs])|none=>False
@[congr] theorem X6 {r r':Option (List AV)} {σ σ':St} {K:AV→St→Prop} (h:r=r') (h2:σ=σ'):aBG r σ K=aBG r' σ' K:=by rw [h,h2]
def TS (i:Nat):AV→Option AV
 |.tuple vs=>vs[i]?
 |_=>none
theorem ZJ (i:Nat) (vs:List AV):TS i (.tuple vs)=vs[i]?:=by simp [TS]
def UU:AV→Option AV
 |.bool b=>some (.bool !b)
 |_=>none
theorem XY (b:Bool):UU (.bool b)=some (.bool !b):=by simp [UU]
def AF (sh:EqTy) (neg:Bool) (x y:AV):Option AV:=(iU sh x y).map fun b=>.bool (if neg then !b else b)
theorem YK (e:Env) (σ:St) (K:KJ):wp T .skip e σ K=K none e σ:=by simp only [wp]
theorem UM (id:Nat) (b:ACode) (e:Env) (σ:St) (K:KJ):wp T (.block id b) e σ K=wp T b e σ (jJ id K):=by simp only [wp]
theorem UL (b:ACode) (e:Env) (σ:St) (K:KJ):wp T (.scope b) e σ K=wp T b e σ K:=by simp only [wp]
theorem RI (A K:KJ) (j:AJump) (e:Env) (σ:St):pI A K (some j) e σ=K (some j) e σ:=by simp only [pI]
theorem X5 (k:Nat):fI k []=[]:=by simp only [fI]
theorem aBQ (k:Nat) (v:AV) (vs:List AV):fI k (v::vs)=(k,v)::fI (k+1) vs:=by simp only [fI]
theorem Z9 (e:Env) (cs:List AV) (off n:Nat) (x:AOpd) (rest:List (Nat×Nat×AOpd)) :
  bV e cs ((off,n,x)::rest)=((oI n (x.ev e)).bind fun us=>fN cs off us).bind fun cs=>bV e cs rest:=by
 simp only [bV,oI];split
 ·simp only [Option.bind_some];cases fN cs off (x.ev e).cells<;>simp
 ·simp
end Go.Am
namespace Go.Am
variable {T:FuncId→Option AFunc}
def D2 (I:Nat→Env→St→Prop) (k:Nat) (K:KJ):KJ:=fun j e σ=>match j with|none=>∃ k',k'<k∧I k' e σ|some j=>K (some j) e σ
theorem xT (I:Nat→Env→St→Prop) (k:Nat) (K:KJ) (e:Env) (σ:St):D2 I k K none e σ = ∃ k',k'<k∧I k' e σ:=by simp only [D2]
theorem zE (I:Nat→Env→St→Prop) (k:Nat) (K:KJ) (j:AJump) (e:Env) (σ:St):D2 I k K (some j) e σ=K (some j) e σ:=by simp only [D2]
theorem aAQ {b:ACode} {K:KJ} (I:Nat→Env→St→Prop) (step:∀ k e σ,I k e σ→wp T b e σ (D2 I k K)):∀ n e σ,I n e σ→HD T (.loop b) e σ K:=by
 intro n
 induction n using Nat.strongRecOn with
 |_ n ih =>
  intro e σ h
  refine .loop (gK (step n e σ h) fun o ho=>ho) (fun o ho hj=>?_) fun o ho hj=>?_
  ·simp only [hj,xT] at ho
   obtain ⟨k',hk,hI⟩:=ho
   exact ih k' hk o.env o.σ hI
  ·cases hj':o.j with
   |none=>exact absurd hj' hj
   |some j=>simp only [hj',zE] at ho;exact ho
end Go.Am
namespace Go.Am
variable {T:FuncId→Option AFunc}
def AR (r:ARead):List St→Nat→Prop
 |[],_=>True
 |s::ss,j=>(if r.lo≤j∧j≤r.hi then aop r.op r.env s=some (r.v,s) else True)∧AR r ss (j+1)
theorem EJ {r:ARead}:∀ {hist:List St} {k:Nat},AR r hist k→∀ j s,r.lo≤k+j→k+j≤r.hi→hist[j]? = some s→aop r.op r.env s=some (r.v,s)
 |[],k,_,j,s,_,_,h=>by simp at h
 |t::ss,k,h,j,s,h1,h2,h3=>by
  obtain ⟨q1,q2⟩:=h
  cases j with
  |zero=>simp at h3;subst h3;rw [if_pos ⟨by omega,by omega⟩] at q1;exact q1
  |succ j=>exact EJ q2 j s (by omega) (by omega) (by simpa using h3)
def o8:List ARead→List St→Prop
 |[],_=>True
 |r::rs,hist=>AR r hist 0∧o8 rs hist
theorem B1:∀ {rs:List ARead} {hist:List St},o8 rs hist→∀ r∈rs,ARead.ok r hist
 |[],_,_,r,h=>by cases h
 |r::rs,hist,h,q,hq=>by
  rcases List.mem_cons.1 hq with rfl|hq
  ·intro j s h1 h2 h3
   exact EJ h.1 j s (by omega) (by omega) h3
  ·exact B1 h.2 q hq
def B5 (T:FuncId→Option AFunc) (f:AV) (args:List AV) (σ:St) (K:AV→St→Prop):Prop:=∃ v σ',Run T (.callv f args σ) (fun r=>r.v=v∧r.σ=σ')∧K v σ'
@[congr] theorem U7 {f f':AV} {args args':List AV} {σ σ':St} {K:AV→St→Prop} (h1:f=f') (h2:args=args') (h3:σ=σ'):B5 T f args σ K=B5 T f' args' σ' K:=by rw [h1,h2,h3]
def wpD (T:FuncId→Option AFunc):List ADOper→Env→St→Nat→List St→List ARead→(Env→St→Prop)→Prop
 |[],e,σ,_,hist,reads,K=>o8 reads hist∧K e σ
 |⟨⟨dst,.call f args,none⟩,_,_⟩::ds,e,σ,next,hist,reads,K=>B5 T (f.ev e) (args.map (·.ev e)) σ fun v σ'=>wpD T ds (Env.put e dst v) σ' next (hist++[σ']) reads K
 |⟨⟨dst,.alloc _,none⟩,_,_⟩::ds,e,σ,next,hist,reads,K=>wpD T ds (Env.put e dst (.ptr next 0)) σ (next+1) hist reads K
 |⟨⟨dst,q,none⟩,lo,hi⟩::ds,e,σ,next,hist,reads,K =>
  lA (aop q e σ) fun v σ' =>
   if q.acts=true then wpD T ds (Env.put e dst v) σ' next (hist++[σ']) reads K
   else σ'=σ∧if q.reads=true then wpD T ds (Env.put e dst v) σ next hist (⟨lo,hi,q,e,v⟩::reads) K else wpD T ds (Env.put e dst v) σ next hist reads K
 |⟨⟨dst,.call f args,some (t,want)⟩,_,_⟩::ds,e,σ,next,hist,reads,K =>
  mQ (Env.get e t) want (fun _=>B5 T (f.ev e) (args.map (·.ev e)) σ fun v σ'=>wpD T ds (Env.put e dst v) σ' next (hist++[σ']) reads K)
   (fun _=>wpD T ds (Env.put e dst (.tuple [])) σ next (hist++[σ]) reads K)
 |⟨⟨dst,q,some (t,want)⟩,lo,hi⟩::ds,e,σ,next,hist,reads,K =>
  mQ (Env.get e t) want
   (fun _=>q.allocs=false∧lA (aop q e σ) fun v σ' =>
    if q.acts=true then wpD T ds (Env.put e dst v) σ' next (hist++[σ']) reads K
    else σ'=σ∧if q.reads=true then wpD T ds (Env.put e dst v) σ next hist (⟨lo,hi,q,e,v⟩::reads) K else wpD T ds (Env.put e dst v) σ next hist reads K)
   (fun _=>wpD T ds (Env.put e dst (.tuple [])) σ (if q.allocs then next+1 else next) (if q.acts then hist++[σ] else hist) reads K)
theorem jN {Q:Out→Prop}:∀ {ds:List ADOper} {e:Env} {σ:St} {next:Nat} {hist:List St} {reads:List ARead} {K:Env→St→Prop},wpD T ds e σ next hist reads K →
  (∀ e σ,K e σ→Q ⟨none,e,σ,.undef⟩)→Run T (.dops ds e σ next hist reads) Q
 |[],e,σ,next,hist,reads,K,h,hq=>.dnil (B1 h.1) (hq _ _ h.2)
 |⟨⟨dst,q,g⟩,lo,hi⟩::ds,e,σ,next,hist,reads,K,h,hq=>by
  -- an operation that is neither a call nor a new variable
  have key:AOper.wanted ⟨dst,q,g⟩ e=some true→q.allocs=false→(lA (aop q e σ) fun v σ' =>
    if q.acts=true then wpD T ds (Env.put e dst v) σ' next (hist++[σ']) reads K
    else σ'=σ∧if q.reads=true then wpD T ds (Env.put e dst v) σ next hist (⟨lo,hi,q,e,v⟩::reads) K else wpD T ds (Env.put e dst v) σ next hist reads K) →
    Run T (.dops (⟨⟨dst,q,g⟩,lo,hi⟩::ds) e σ next hist reads) Q:=by
   intro hw hal h
   unfold lA at h
   split at h
   ·rename_i v σ' hv
    split at h
    ·rename_i ha;exact .dact hw ha hv (jN h hq)
    ·rename_i ha
     obtain ⟨rfl,h⟩:=h
     split at h
     ·rename_i hr;exact .dread hw hr hv (jN h hq)
     ·rename_i hr;exact .dpure hw (by simp [hal];exact ⟨by simpa using ha,by simpa using hr⟩) hv (jN h hq)
   ·exact h.elim
  by_cases hc:∃ f args,q = .call f args
  ·obtain ⟨f,args,rfl⟩:=hc
   cases g with
   |none =>
    simp only [wpD,B5] at h
    obtain ⟨v,σ',h1,h2⟩:=h
    exact .dcall rfl rfl h1 (jN h2 hq)
   |some g =>
    obtain ⟨t,want⟩:=g
    simp only [wpD,mQ] at h
    split at h
    ·rename_i b h1
     split at h
     ·rename_i hb
      obtain ⟨v,σ',h3,h4⟩:=h
      exact .dcall (by simp [AOper.wanted,h1,hb]) rfl h3 (jN h4 hq)
     ·rename_i hb
      exact .doff (by simp [AOper.wanted,h1];simpa using hb) (by simpa [AOp.allocs,AOp.acts] using jN h hq)
    ·rename_i h1
     exact .doff (by simp [AOper.wanted,h1]) (by simpa [AOp.allocs,AOp.acts] using jN h hq)
    ·exact h.elim
  ·cases g with
   |none =>
    by_cases hal:∃ z,q = .alloc z
    ·obtain ⟨z,rfl⟩:=hal
     simp only [wpD] at h
     exact .dalloc rfl rfl (jN h hq)
    ·refine key rfl ?_ ?_
     ·cases q<;>first|rfl|exact absurd ⟨_,rfl⟩ hal
     ·cases q<;>first|exact h|exact absurd ⟨_,_,rfl⟩ hc|exact absurd ⟨_,rfl⟩ hal
   |some g =>
    obtain ⟨t,want⟩:=g
    have h:mQ (Env.get e t) want (fun _=>q.allocs=false∧lA (aop q e σ) fun v σ' =>
      if q.acts=true then wpD T ds (Env.put e dst v) σ' next (hist++[σ']) reads K
      else σ'=σ∧if q.reads=true then wpD T ds (Env.put e dst v) σ next hist (⟨lo,hi,q,e,v⟩::reads) K else wpD T ds (Env.put e dst v) σ next hist reads K)
      (fun _=>wpD T ds (Env.put e dst (.tuple [])) σ (if q.allocs then next+1 else next) (if q.acts then hist++[σ] else hist) reads K):=by
     cases q<;>first|exact h|exact absurd ⟨_,_,rfl⟩ hc
    simp only [mQ] at h
    split at h
    ·rename_i b h1
     split at h
     ·rename_i hb
      exact key (by simp [AOper.wanted,h1,hb]) h.1 h.2
     ·rename_i hb
      exact .doff (by simp [AOper.wanted,h1];simpa using hb) (jN h hq)
    ·rename_i h1
     exact .doff (by simp [AOper.wanted,h1]) (jN h hq)
    ·exact h.elim
end Go.Am
namespace Go.Am
variable {T:FuncId→Option AFunc}
class HP (α:Type) where
 out:α
def bO (r:Option (AV×St)) [K:HP (AV→St→Prop)]:Prop:=lA r K.out
theorem X9 (v:AV) (σ:St) (K:AV→St→Prop):bO (K:=⟨K⟩) (some (v,σ))=K v σ:=by simp only [bO,lA]
def cK (T:FuncId→Option AFunc) (f:AV) (args:List AV) (σ:St) [K:HP (AV→St→Prop)]:Prop:=IM T f args σ K.out
def cD (T:FuncId→Option AFunc) (f:AV) (args:List AV) (σ:St) [K:HP (AV→St→Prop)]:Prop:=B5 T f args σ K.out
def rK (T:FuncId→Option AFunc) (c:ACode) (e:Env) (σ:St) [K:HP KJ]:Prop:=HD T c e σ K.out
def wU (b:Bool) [A:HP Prop] [B:HP Prop]:Prop:=if b=true then A.out else B.out
theorem rI (A:Prop) (B:HP Prop):wU (A:=⟨A⟩) true=A:=by simp [wU]
theorem o0 (A:HP Prop) (B:Prop):wU (B:=⟨B⟩) false=B:=by simp [wU]
theorem aI {b:Bool} {A B:Prop} (h1:b=true→A) (h2:b=false→B):wU (A:=⟨A⟩) (B:=⟨B⟩) b:=by cases b<;>simp [wU]<;>first|exact h1 rfl|exact h2 rfl
def bB (v:AV) [A:HP Prop] [B:HP Prop]:Prop:=xN v (fun _=>A.out) (fun _=>B.out)
def bG (v:AV) (want:Bool) [A:HP Prop] [B:HP Prop]:Prop:=mQ v want (fun _=>A.out) (fun _=>B.out)
theorem YC (b:ACode) (e:Env) (σ:St) (K:KJ):wp T (.loop b) e σ K=rK (K:=⟨K⟩) T (.loop b) e σ:=by simp only [wp,rK]
theorem RZ (f:AOpd) (ps:List Nat) (a b:ACode) (e:Env) (σ:St) (K:KJ):wp T (.rangeFunc f ps a b) e σ K=rK (K:=⟨K⟩) T (.rangeFunc f ps a b) e σ:=by simp only [wp,rK]
theorem ZH (c:AOpd) (a b:ACode) (e:Env) (σ:St) (K:KJ):wp T (.cond c a b) e σ K=bB (A:=⟨wp T a e σ K⟩) (B:=⟨wp T b e σ K⟩) (c.ev e):=by simp only [wp,bB]
def evs (e:Env):List AOpd→List AV
 |[]=>[]
 |x::xs=>x.ev e::evs e xs
theorem lN (e:Env):∀ xs:List AOpd,xs.map (·.ev e)=evs e xs
 |[]=>rfl
 |x::xs=>by simp [evs,lN e xs]
def ovs (e:Env):Option AOpd→Option AV
 |none=>none
 |some x=>some (x.ev e)
def CA:AV→AV→AV→Option AV
 |.bool true,x,_=>some x
 |.bool false,_,y=>some y
 |_,_,_=>none
def LK (n:Nat) (xs:List AV):Option AV:=if aM n xs=true then some (.lit xs true none) else none
def FA:AV→Option AV
 |.ptr i o=>some (.ptr i o)
 |.lptr xs i o t=>some (.lptr xs i o t)
 |.func f a b=>some (.func f a b)
 |.yield i=>some (.yield i)
 |_=>none
def TV:AV→Option AV
 |.int k n=>some (.int k (k.wrap (0-n)))
 |_=>none
def I1 (k:IntKind):AV→Option AV
 |.int _ n=>some (.int k (k.wrap n))
 |_=>none
def UG:AV→Option ByteArray
 |.str s=>some s
 |_=>none
def vE (σ:St):AV→Option (AV×St)
 |.ptr id 0 =>
  match σ[id]? with
  |some (.siter s pos) =>
   if pos<s.size then some (.tuple [.bool true,.int .i64 pos,.int .i32 (Utf8.decode s pos).1],σ.set id (.siter s (pos+(Utf8.decode s pos).2)))
   else some (.tuple [.bool false],σ)
  |_=>none
 |_=>none
def oF (bytes:Nat) (l c:AV):Option Nat :=
 match l,c with
 |.int _ n,.int _ m=>if 0≤n∧n=m∧n*bytes≤room∧n≤room then some n.toNat else none
 |_,_=>none
def nE (d:Nat):Option AV→Option Int
 |none=>some d
 |some x=>fC x
def w5 (sz:Nat) (σ:St) (x:AV) (lo hi mx:Option AV):Option AV :=
 match iK 1 σ x with
 |none=>none
 |some n =>
  match nE 0 lo,nE n hi,mx.map fC with
  |some l,some h,none=>lG sz x l h false
  |some l,some h,some (some m)=>if m=h∧hi.isSome=true then lG sz x l h true else none
  |_,_,_=>none
def IZ (n sz:Nat) (x:AV) (lo hi:Option AV):Option AV :=
 match x,nE 0 lo,nE n hi with
 |.ptr id off,some l,some h=>if 0≤l∧l≤h∧h≤n then some (.ref id (off+l.toNat*sz) (h.toNat-l.toNat) sz) else none
 |_,_,_=>none
def CN (off:Nat) (sh:Option Nat):AV→Option AV
 |.agg cs=>fB sh cs off
 |_=>none
def nH (arr:Option Nat) (sz:Nat) (x i:AV):Option AV :=
 match fC i,arr,x with
 |some j,some n,.ptr id off=>if 0≤j∧j<n then some (.ptr id (off+j.toNat*sz)) else none
 |some j,some n,.lptr xs q off t=>if 0≤j∧j<n then some (.lptr xs q (off+j.toNat*sz) t) else none
 |some j,none,.lit xs _ t =>
  match xs[j.toNat]? with
  |some y=>if 0≤j∧y.cells.length=sz then some (.lptr xs j.toNat 0 t) else none
  |none=>none
 |some j,none,.ref id off len sz'=>if 0≤j∧j<len∧sz'=sz then some (.ptr id (off+j.toNat*sz)) else none
 |_,_,_=>none
def PQ (n sz:Nat) (sh:Option Nat) (x i:AV):Option AV :=
 match fC i,x with
 |some j,.agg cs=>if 0≤j∧j<n then fB sh cs (j.toNat*sz) else none
 |_,_=>none
def xD (x i:AV):Option AV :=
 match fC i,x with
 |some j,.str s=>if 0≤j then (s[j.toNat]?).map fun b=>.int .u8 b.toNat else none
 |_,_=>none
def IX (ok:Bool) (zero:AV):Option (Option AV)→Option AV
 |some (some v)=>some (if ok then .tuple [v,.bool true] else v)
 |some none=>some (if ok then .tuple [zero,.bool false] else zero)
 |none=>none
def w4 (sh:EqTy) (σ:St) (m k v:AV):Option St :=
 match m with
 |.map id =>
  if (iU sh k k).isSome=false then none else
  match σ[id]? with
  |some (.map es)=>(mE sh k v es).map fun es'=>σ.set id (.map es')
  |_=>none
 |_=>none
theorem aCZ (x:AOpd) (e:Env) (σ:St):aop (.mov x) e σ=some (x.ev e,σ):=by
 simp only [aop]
theorem S8 (z:List AV) (e:Env) (σ:St):aop (.alloc z) e σ=some (.ptr σ.length 0,σ++[.cells z]):=by
 simp only [aop]
theorem X7 (c x y:AOpd) (e:Env) (σ:St):aop (.pick c x y) e σ=(CA (c.ev e) (x.ev e) (y.ev e)).map (·,σ):=by
 simp only [aop,CA];repeat' split
 all_goals simp_all
theorem aCU (n:Nat) (x:AOpd) (e:Env) (σ:St):aop (.box n x) e σ=(oI n (x.ev e)).map fun cs=>(.ptr σ.length 0,σ++[.cells cs]):=by
 simp only [aop,oI];split<;>simp_all
theorem S1 (z:List AV) (ps:List (Nat×Nat×AOpd)) (e:Env) (σ:St):aop (.build z ps) e σ=(bV e z ps).map fun cs=>(.agg cs,σ):=by
 simp only [aop];cases bV e z ps<;>simp
theorem TP (n:Nat) (xs:List AOpd) (e:Env) (σ:St):aop (.mklit n xs) e σ=(LK n (evs e xs)).map (·,σ):=by
 simp only [aop,LK,lN];split<;>simp_all
theorem S2 (n:Nat) (xs:List AOpd) (e:Env) (σ:St):aop (.mkref n xs) e σ=(LK n (evs e xs)).map fun _=>(.ref σ.length 0 (evs e xs).length n,σ++[.cells ((evs e xs).flatMap AV.cells)]):=by
 simp only [aop,LK,lN];have:=congrArg List.length (lN e xs);split<;>simp_all
theorem YQ (sh:Option Nat) (x:AOpd) (e:Env) (σ:St):aop (.load sh x) e σ=(jO sh σ (x.ev e)).map (·,σ):=by
 simp only [aop];cases jO sh σ (x.ev e)<;>simp
theorem UE (n:Nat) (x y:AOpd) (e:Env) (σ:St):aop (.store n x y) e σ=(mT n σ (x.ev e) (y.ev e)).map (.tuple [],·):=by
 simp only [aop];cases mT n σ (x.ev e) (y.ev e)<;>simp
theorem GO (x:AOpd) (e:Env) (σ:St):aop (.nilCheck x) e σ=(FA (x.ev e)).map (·,σ):=by
 simp only [aop,FA];cases x.ev e<;>simp
theorem aDG (op:BinOp) (x y:AOpd) (e:Env) (σ:St):aop (.bin op x y) e σ=(fD op (x.ev e) (y.ev e)).map (·,σ):=by
 simp only [aop];cases fD op (x.ev e) (y.ev e)<;>simp
theorem aB8 (sh:EqTy) (n:Bool) (x y:AOpd) (e:Env) (σ:St):aop (.eql sh n x y) e σ=(AF sh n (x.ev e) (y.ev e)).map (·,σ):=by
 simp only [aop,AF];cases iU sh (x.ev e) (y.ev e)<;>simp
theorem aBW (x:AOpd) (e:Env) (σ:St):aop (.not x) e σ=(UU (x.ev e)).map (·,σ):=by
 simp only [aop,UU];cases x.ev e<;>simp
theorem aBU (x:AOpd) (e:Env) (σ:St):aop (.neg x) e σ=(TV (x.ev e)).map (·,σ):=by
 simp only [aop,TV];cases x.ev e<;>simp
theorem Z0 (k:IntKind) (x:AOpd) (e:Env) (σ:St):aop (.conv k x) e σ=(I1 k (x.ev e)).map (·,σ):=by
 simp only [aop,I1];cases x.ev e<;>simp
theorem T0 (f:FuncId) (xs ys:List AOpd) (e:Env) (σ:St):aop (.mkfun f xs ys) e σ=some (.func f (evs e xs) (evs e ys),σ):=by
 simp only [aop,lN]
theorem R3  (e:Env) (σ:St):aop (.mkmap) e σ=some (.map σ.length,σ++[.map []]):=by
 simp only [aop]
theorem LX (z:List AV) (b:Nat) (x y:AOpd) (e:Env) (σ:St):aop (.mkslice z b x y) e σ=(oF b (x.ev e) (y.ev e)).map fun n=>(.ref σ.length 0 n z.length,σ++[.cells (List.replicate n z).flatten]):=by
 simp only [aop,oF];generalize x.ev e=u;generalize y.ev e=v;cases u<;>cases v<;>first|rfl|(dsimp only;split<;>first|rfl|simp_all|(split<;>simp_all))
theorem O2 (n:Nat) (x:AOpd) (lo hi mx:Option AOpd) (e:Env) (σ:St):aop (.slicev n x lo hi mx) e σ=(w5 n σ (x.ev e) (ovs e lo) (ovs e hi) (ovs e mx)).map (·,σ):=by
 simp only [aop,w5];cases iK 1 σ (x.ev e)<;>cases lo<;>cases hi<;>cases mx<;>simp only [bN,nE,ovs,Option.map_none,Option.map_some]<;>repeat' split
 all_goals simp_all
theorem NJ (n s:Nat) (x:AOpd) (lo hi:Option AOpd) (e:Env) (σ:St):aop (.slicea n s x lo hi) e σ=(IZ n s (x.ev e) (ovs e lo) (ovs e hi)).map (·,σ):=by
 simp only [aop,IZ];generalize x.ev e=u;cases lo with
 |none=>cases hi with
  |none=>simp only [bN,nE,ovs];cases u<;>first|rfl|(dsimp only;split<;>first|rfl|simp_all|(split<;>simp_all))
  |some h=>simp only [bN,nE,ovs];generalize fC (h.ev e)=p;cases u<;>cases p<;>first|rfl|(dsimp only;split<;>first|rfl|simp_all|(split<;>simp_all))
 |some l=>cases hi with
  |none=>simp only [bN,nE,ovs];generalize fC (l.ev e)=p;cases u<;>cases p<;>first|rfl|(dsimp only;split<;>first|rfl|simp_all|(split<;>simp_all))
  |some h=>simp only [bN,nE,ovs];generalize fC (l.ev e)=p;generalize fC (h.ev e)=q;cases u<;>cases p<;>cases q<;>first|rfl|(dsimp only;split<;>first|rfl|simp_all|(split<;>simp_all))
theorem S3 (x:AOpd) (o:Nat) (e:Env) (σ:St):aop (.faddr x o) e σ=(vF o (x.ev e)).map (·,σ):=by
 simp only [aop,vF];cases x.ev e<;>simp
theorem R9 (x:AOpd) (o:Nat) (sh:Option Nat) (e:Env) (σ:St):aop (.field x o sh) e σ=(CN o sh (x.ev e)).map (·,σ):=by
 simp only [aop,CN];cases x.ev e<;>simp<;>(rename_i cs;cases fB sh cs o<;>simp)
theorem UV (a:Option Nat) (s:Nat) (x i:AOpd) (e:Env) (σ:St):aop (.iaddr a s x i) e σ=(nH a s (x.ev e) (i.ev e)).map (·,σ):=by
 simp only [aop,nH];generalize fC (i.ev e)=q;generalize x.ev e=u;cases q<;>cases a<;>cases u<;>first|rfl|(dsimp only;split<;>first|rfl|simp_all|(split<;>simp_all))
theorem RS (n s:Nat) (sh:Option Nat) (x i:AOpd) (e:Env) (σ:St):aop (.index n s sh x i) e σ=(PQ n s sh (x.ev e) (i.ev e)).map (·,σ):=by
 simp only [aop,PQ];generalize fC (i.ev e)=q;generalize x.ev e=u;cases q<;>cases u<;>first|rfl|(dsimp only;split<;>first|rfl|simp_all|(split<;>simp_all))
theorem MH (x i:AOpd) (e:Env) (σ:St):aop (.sindex x i) e σ=(xD (x.ev e) (i.ev e)).map (·,σ):=by
 simp only [aop,xD];generalize fC (i.ev e)=q;generalize x.ev e=u;cases q<;>cases u<;>first|rfl|(dsimp only;split<;>first|rfl|(rename_i k b h;cases b[k.toNat]?<;>rfl))
theorem PT (sh:EqTy) (ok:Bool) (z:AV) (m k:AOpd) (e:Env) (σ:St):aop (.lookup sh ok z m k) e σ=(IX ok z (sY sh σ (m.ev e) (k.ev e))).map (·,σ):=by
 simp only [aop,IX];cases sY sh σ (m.ev e) (k.ev e) with
 |none=>rfl
 |some o=>cases o<;>rfl
theorem OF (sh:EqTy) (m k v:AOpd) (e:Env) (σ:St):aop (.mapset sh m k v) e σ=(w4 sh σ (m.ev e) (k.ev e) (v.ev e)).map (.tuple [],·):=by
 simp only [aop,w4];repeat' split
 all_goals simp_all
theorem aAA (x:AOpd) (i:Nat) (e:Env) (σ:St):aop (.ext x i) e σ=(TS i (x.ev e)).map (·,σ):=by
 simp only [aop,TS];cases x.ev e<;>simp<;>(rename_i vs;cases vs[i]?<;>simp)
theorem aB4 (k:Nat) (x:AOpd) (e:Env) (σ:St):aop (.len k x) e σ=(iK k σ (x.ev e)).map fun n=>(.int .i64 n,σ):=by
 simp only [aop];cases iK k σ (x.ev e)<;>simp
theorem M7 (n b:Nat) (x y:AOpd) (e:Env) (σ:St):aop (.append n b x y) e σ=gO n b σ (x.ev e) (y.ev e):=by
 simp only [aop]
theorem TD (n b:Nat) (x y:AOpd) (e:Env) (σ:St):aop (.apref n b x y) e σ=m6 n b σ (x.ev e) (y.ev e):=by
 simp only [aop]
theorem YF (n:Nat) (x y:AOpd) (e:Env) (σ:St):aop (.copy n x y) e σ=qV n σ (x.ev e) (y.ev e):=by
 simp only [aop]
theorem aAS (xs:List AOpd) (e:Env) (σ:St):aop (.min xs) e σ=(wJ (evs e xs)).map (·,σ):=by
 simp only [aop,lN];cases wJ (evs e xs)<;>simp
theorem aBD (xs:List AOpd) (e:Env) (σ:St):aop (.max xs) e σ=(wO (evs e xs)).map (·,σ):=by
 simp only [aop,lN];cases wO (evs e xs)<;>simp
theorem PF (x:AOpd) (e:Env) (σ:St):aop (.srange x) e σ=(UG (x.ev e)).map fun s=>(.ptr σ.length 0,σ++[.siter s 0]):=by
 simp only [aop,UG];cases x.ev e<;>simp
theorem TT (x:AOpd) (e:Env) (σ:St):aop (.snext x) e σ=vE σ (x.ev e):=by
 simp only [aop,vE];cases x.ev e<;>rfl
theorem aA2 (x:AOpd) (d:Option Nat) (os:List AOper) (e:Env) (σ:St) (K:Env→St→Prop):aJ T (⟨d,.mov x,none⟩::os) e σ K=bO (K:=⟨fun v σ'=>aJ T os (Env.put e d v) σ' K⟩) (aop (.mov x) e σ):=by simp only [aJ,fS,bO]
theorem SA (z:List AV) (d:Option Nat) (os:List AOper) (e:Env) (σ:St) (K:Env→St→Prop):aJ T (⟨d,.alloc z,none⟩::os) e σ K=bO (K:=⟨fun v σ'=>aJ T os (Env.put e d v) σ' K⟩) (aop (.alloc z) e σ):=by simp only [aJ,fS,bO]
theorem YV (c x y:AOpd) (d:Option Nat) (os:List AOper) (e:Env) (σ:St) (K:Env→St→Prop):aJ T (⟨d,.pick c x y,none⟩::os) e σ K=bO (K:=⟨fun v σ'=>aJ T os (Env.put e d v) σ' K⟩) (aop (.pick c x y) e σ):=by simp only [aJ,fS,bO]
theorem aC6 (n:Nat) (x:AOpd) (d:Option Nat) (os:List AOper) (e:Env) (σ:St) (K:Env→St→Prop):aJ T (⟨d,.box n x,none⟩::os) e σ K=bO (K:=⟨fun v σ'=>aJ T os (Env.put e d v) σ' K⟩) (aop (.box n x) e σ):=by simp only [aJ,fS,bO]
theorem Q5 (z:List AV) (ps:List (Nat×Nat×AOpd)) (d:Option Nat) (os:List AOper) (e:Env) (σ:St) (K:Env→St→Prop):aJ T (⟨d,.build z ps,none⟩::os) e σ K=bO (K:=⟨fun v σ'=>aJ T os (Env.put e d v) σ' K⟩) (aop (.build z ps) e σ):=by simp only [aJ,fS,bO]
theorem RY (n:Nat) (xs:List AOpd) (d:Option Nat) (os:List AOper) (e:Env) (σ:St) (K:Env→St→Prop):aJ T (⟨d,.mklit n xs,none⟩::os) e σ K=bO (K:=⟨fun v σ'=>aJ T os (Env.put e d v) σ' K⟩) (aop (.mklit n xs) e σ):=by simp only [aJ,fS,bO]
theorem TU (n:Nat) (xs:List AOpd) (d:Option Nat) (os:List AOper) (e:Env) (σ:St) (K:Env→St→Prop):aJ T (⟨d,.mkref n xs,none⟩::os) e σ K=bO (K:=⟨fun v σ'=>aJ T os (Env.put e d v) σ' K⟩) (aop (.mkref n xs) e σ):=by simp only [aJ,fS,bO]
theorem XU (sh:Option Nat) (x:AOpd) (d:Option Nat) (os:List AOper) (e:Env) (σ:St) (K:Env→St→Prop):aJ T (⟨d,.load sh x,none⟩::os) e σ K=bO (K:=⟨fun v σ'=>aJ T os (Env.put e d v) σ' K⟩) (aop (.load sh x) e σ):=by simp only [aJ,fS,bO]
theorem S7 (n:Nat) (x y:AOpd) (d:Option Nat) (os:List AOper) (e:Env) (σ:St) (K:Env→St→Prop):aJ T (⟨d,.store n x y,none⟩::os) e σ K=bO (K:=⟨fun v σ'=>aJ T os (Env.put e d v) σ' K⟩) (aop (.store n x y) e σ):=by simp only [aJ,fS,bO]
theorem G9 (x:AOpd) (d:Option Nat) (os:List AOper) (e:Env) (σ:St) (K:Env→St→Prop):aJ T (⟨d,.nilCheck x,none⟩::os) e σ K=bO (K:=⟨fun v σ'=>aJ T os (Env.put e d v) σ' K⟩) (aop (.nilCheck x) e σ):=by simp only [aJ,fS,bO]
theorem aCG (op:BinOp) (x y:AOpd) (d:Option Nat) (os:List AOper) (e:Env) (σ:St) (K:Env→St→Prop):aJ T (⟨d,.bin op x y,none⟩::os) e σ K=bO (K:=⟨fun v σ'=>aJ T os (Env.put e d v) σ' K⟩) (aop (.bin op x y) e σ):=by simp only [aJ,fS,bO]
theorem aC7 (sh:EqTy) (n:Bool) (x y:AOpd) (d:Option Nat) (os:List AOper) (e:Env) (σ:St) (K:Env→St→Prop):aJ T (⟨d,.eql sh n x y,none⟩::os) e σ K=bO (K:=⟨fun v σ'=>aJ T os (Env.put e d v) σ' K⟩) (aop (.eql sh n x y) e σ):=by simp only [aJ,fS,bO]
theorem aA0 (x:AOpd) (d:Option Nat) (os:List AOper) (e:Env) (σ:St) (K:Env→St→Prop):aJ T (⟨d,.not x,none⟩::os) e σ K=bO (K:=⟨fun v σ'=>aJ T os (Env.put e d v) σ' K⟩) (aop (.not x) e σ):=by simp only [aJ,fS,bO]
theorem aAT (x:AOpd) (d:Option Nat) (os:List AOper) (e:Env) (σ:St) (K:Env→St→Prop):aJ T (⟨d,.neg x,none⟩::os) e σ K=bO (K:=⟨fun v σ'=>aJ T os (Env.put e d v) σ' K⟩) (aop (.neg x) e σ):=by simp only [aJ,fS,bO]
theorem ZL (k:IntKind) (x:AOpd) (d:Option Nat) (os:List AOper) (e:Env) (σ:St) (K:Env→St→Prop):aJ T (⟨d,.conv k x,none⟩::os) e σ K=bO (K:=⟨fun v σ'=>aJ T os (Env.put e d v) σ' K⟩) (aop (.conv k x) e σ):=by simp only [aJ,fS,bO]
theorem RF (f:FuncId) (xs ys:List AOpd) (d:Option Nat) (os:List AOper) (e:Env) (σ:St) (K:Env→St→Prop):aJ T (⟨d,.mkfun f xs ys,none⟩::os) e σ K=bO (K:=⟨fun v σ'=>aJ T os (Env.put e d v) σ' K⟩) (aop (.mkfun f xs ys) e σ):=by simp only [aJ,fS,bO]
theorem RT  (d:Option Nat) (os:List AOper) (e:Env) (σ:St) (K:Env→St→Prop):aJ T (⟨d,.mkmap,none⟩::os) e σ K=bO (K:=⟨fun v σ'=>aJ T os (Env.put e d v) σ' K⟩) (aop (.mkmap) e σ):=by simp only [aJ,fS,bO]
theorem LJ (z:List AV) (b:Nat) (x y:AOpd) (d:Option Nat) (os:List AOper) (e:Env) (σ:St) (K:Env→St→Prop):aJ T (⟨d,.mkslice z b x y,none⟩::os) e σ K=bO (K:=⟨fun v σ'=>aJ T os (Env.put e d v) σ' K⟩) (aop (.mkslice z b x y) e σ):=by simp only [aJ,fS,bO]
theorem O9 (n:Nat) (x:AOpd) (lo hi mx:Option AOpd) (d:Option Nat) (os:List AOper) (e:Env) (σ:St) (K:Env→St→Prop):aJ T (⟨d,.slicev n x lo hi mx,none⟩::os) e σ K=bO (K:=⟨fun v σ'=>aJ T os (Env.put e d v) σ' K⟩) (aop (.slicev n x lo hi mx) e σ):=by simp only [aJ,fS,bO]
theorem PA (n s:Nat) (x:AOpd) (lo hi:Option AOpd) (d:Option Nat) (os:List AOper) (e:Env) (σ:St) (K:Env→St→Prop):aJ T (⟨d,.slicea n s x lo hi,none⟩::os) e σ K=bO (K:=⟨fun v σ'=>aJ T os (Env.put e d v) σ' K⟩) (aop (.slicea n s x lo hi) e σ):=by simp only [aJ,fS,bO]
theorem SC (x:AOpd) (o:Nat) (d:Option Nat) (os:List AOper) (e:Env) (σ:St) (K:Env→St→Prop):aJ T (⟨d,.faddr x o,none⟩::os) e σ K=bO (K:=⟨fun v σ'=>aJ T os (Env.put e d v) σ' K⟩) (aop (.faddr x o) e σ):=by simp only [aJ,fS,bO]
theorem SJ (x:AOpd) (o:Nat) (sh:Option Nat) (d:Option Nat) (os:List AOper) (e:Env) (σ:St) (K:Env→St→Prop):aJ T (⟨d,.field x o sh,none⟩::os) e σ K=bO (K:=⟨fun v σ'=>aJ T os (Env.put e d v) σ' K⟩) (aop (.field x o sh) e σ):=by simp only [aJ,fS,bO]
theorem S5 (a:Option Nat) (s:Nat) (x i:AOpd) (d:Option Nat) (os:List AOper) (e:Env) (σ:St) (K:Env→St→Prop):aJ T (⟨d,.iaddr a s x i,none⟩::os) e σ K=bO (K:=⟨fun v σ'=>aJ T os (Env.put e d v) σ' K⟩) (aop (.iaddr a s x i) e σ):=by simp only [aJ,fS,bO]
theorem RP (n s:Nat) (sh:Option Nat) (x i:AOpd) (d:Option Nat) (os:List AOper) (e:Env) (σ:St) (K:Env→St→Prop):aJ T (⟨d,.index n s sh x i,none⟩::os) e σ K=bO (K:=⟨fun v σ'=>aJ T os (Env.put e d v) σ' K⟩) (aop (.index n s sh x i) e σ):=by simp only [aJ,fS,bO]
theorem PI (x i:AOpd) (d:Option Nat) (os:List AOper) (e:Env) (σ:St) (K:Env→St→Prop):aJ T (⟨d,.sindex x i,none⟩::os) e σ K=bO (K:=⟨fun v σ'=>aJ T os (Env.put e d v) σ' K⟩) (aop (.sindex x i) e σ):=by simp only [aJ,fS,bO]
theorem MS (sh:EqTy) (ok:Bool) (z:AV) (m k:AOpd) (d:Option Nat) (os:List AOper) (e:Env) (σ:St) (K:Env→St→Prop):aJ T (⟨d,.lookup sh ok z m k,none⟩::os) e σ K=bO (K:=⟨fun v σ'=>aJ T os (Env.put e d v) σ' K⟩) (aop (.lookup sh ok z m k) e σ):=by simp only [aJ,fS,bO]
theorem O0 (sh:EqTy) (m k v:AOpd) (d:Option Nat) (os:List AOper) (e:Env) (σ:St) (K:Env→St→Prop):aJ T (⟨d,.mapset sh m k v,none⟩::os) e σ K=bO (K:=⟨fun v σ'=>aJ T os (Env.put e d v) σ' K⟩) (aop (.mapset sh m k v) e σ):=by simp only [aJ,fS,bO]
theorem aA9 (x:AOpd) (i:Nat) (d:Option Nat) (os:List AOper) (e:Env) (σ:St) (K:Env→St→Prop):aJ T (⟨d,.ext x i,none⟩::os) e σ K=bO (K:=⟨fun v σ'=>aJ T os (Env.put e d v) σ' K⟩) (aop (.ext x i) e σ):=by simp only [aJ,fS,bO]
theorem aAD (k:Nat) (x:AOpd) (d:Option Nat) (os:List AOper) (e:Env) (σ:St) (K:Env→St→Prop):aJ T (⟨d,.len k x,none⟩::os) e σ K=bO (K:=⟨fun v σ'=>aJ T os (Env.put e d v) σ' K⟩) (aop (.len k x) e σ):=by simp only [aJ,fS,bO]
theorem O1 (n b:Nat) (x y:AOpd) (d:Option Nat) (os:List AOper) (e:Env) (σ:St) (K:Env→St→Prop):aJ T (⟨d,.append n b x y,none⟩::os) e σ K=bO (K:=⟨fun v σ'=>aJ T os (Env.put e d v) σ' K⟩) (aop (.append n b x y) e σ):=by simp only [aJ,fS,bO]
theorem T6 (n b:Nat) (x y:AOpd) (d:Option Nat) (os:List AOper) (e:Env) (σ:St) (K:Env→St→Prop):aJ T (⟨d,.apref n b x y,none⟩::os) e σ K=bO (K:=⟨fun v σ'=>aJ T os (Env.put e d v) σ' K⟩) (aop (.apref n b x y) e σ):=by simp only [aJ,fS,bO]
theorem X8 (n:Nat) (x y:AOpd) (d:Option Nat) (os:List AOper) (e:Env) (σ:St) (K:Env→St→Prop):aJ T (⟨d,.copy n x y,none⟩::os) e σ K=bO (K:=⟨fun v σ'=>aJ T os (Env.put e d v) σ' K⟩) (aop (.copy n x y) e σ):=by simp only [aJ,fS,bO]
theorem aCL (xs:List AOpd) (d:Option Nat) (os:List AOper) (e:Env) (σ:St) (K:Env→St→Prop):aJ T (⟨d,.min xs,none⟩::os) e σ K=bO (K:=⟨fun v σ'=>aJ T os (Env.put e d v) σ' K⟩) (aop (.min xs) e σ):=by simp only [aJ,fS,bO]
theorem aAX (xs:List AOpd) (d:Option Nat) (os:List AOper) (e:Env) (σ:St) (K:Env→St→Prop):aJ T (⟨d,.max xs,none⟩::os) e σ K=bO (K:=⟨fun v σ'=>aJ T os (Env.put e d v) σ' K⟩) (aop (.max xs) e σ):=by simp only [aJ,fS,bO]
theorem NW (x:AOpd) (d:Option Nat) (os:List AOper) (e:Env) (σ:St) (K:Env→St→Prop):aJ T (⟨d,.srange x,none⟩::os) e σ K=bO (K:=⟨fun v σ'=>aJ T os (Env.put e d v) σ' K⟩) (aop (.srange x) e σ):=by simp only [aJ,fS,bO]
theorem RM (x:AOpd) (d:Option Nat) (os:List AOper) (e:Env) (σ:St) (K:Env→St→Prop):aJ T (⟨d,.snext x,none⟩::os) e σ K=bO (K:=⟨fun v σ'=>aJ T os (Env.put e d v) σ' K⟩) (aop (.snext x) e σ):=by simp only [aJ,fS,bO]
theorem YP (f:AOpd) (xs:List AOpd) (d:Option Nat) (os:List AOper) (e:Env) (σ:St) (K:Env→St→Prop):aJ T (⟨d,.call f xs,none⟩::os) e σ K=cK (K:=⟨fun v σ'=>aJ T os (Env.put e d v) σ' K⟩) T (f.ev e) (evs e xs) σ:=by simp only [aJ,fS,lN,cK]
theorem UP (b:Bool) (A B:HP Prop):bB (.bool b) (A:=A) (B:=B)=wU (A:=A) (B:=B) b:=by cases b<;>simp [bB,xN,wU]
theorem MV (b:Bool) (A B:HP Prop):bG (.bool b) true (A:=A) (B:=B)=wU (A:=A) (B:=B) b:=by cases b<;>simp [bG,mQ,wU]
theorem MI (b:Bool) (A B:HP Prop):bG (.bool b) false (A:=A) (B:=B)=wU (A:=B) (B:=A) b:=by cases b<;>simp [bG,mQ,wU]
theorem MK (w:Bool) (A:HP Prop) (B:Prop):bG (.tuple []) w (A:=A) (B:=⟨B⟩)=B:=by simp [bG,mQ]
theorem SL (d:Option Nat) (q:AOp) (t:Nat) (want:Bool) (os:List AOper) (e:Env) (σ:St) (K:Env→St→Prop):aJ T (⟨d,q,some (t,want)⟩::os) e σ K =
  bG (A:=⟨aJ T (⟨d,q,none⟩::os) e σ K⟩) (B:=⟨aJ T os (Env.put e d (.tuple [])) σ K⟩) (Env.get e t) want:=by simp only [aJ,bG]
theorem aBO (ds:List ADOper) (e:Env) (σ:St) (K:KJ):wp T (.dreg ds) e σ K=rK (K:=⟨K⟩) T (.dreg ds) e σ:=by simp only [wp,rK]
theorem JT {ds:List ADOper} {e:Env} {σ:St} {K:KJ} (h:wpD T ds e (σ++dI ds) σ.length [σ++dI ds] [] fun e σ=>K none e σ):rK (K:=⟨K⟩) T (.dreg ds) e σ:=.dreg (jN h fun e σ hk=>hk)
theorem aBI (e:Env) (σ:St) (next:Nat) (hist:List St) (reads:List ARead) (K:Env→St→Prop):wpD T [] e σ next hist reads K=(o8 reads hist∧K e σ):=by simp only [wpD]
theorem WW (f:AOpd) (xs:List AOpd) (d:Option Nat) (lo hi:Nat) (ds:List ADOper) (e:Env) (σ:St) (next:Nat) (hist:List St) (reads:List ARead) (K:Env→St→Prop) :
  wpD T (⟨⟨d,.call f xs,none⟩,lo,hi⟩::ds) e σ next hist reads K=cD (K:=⟨fun v σ'=>wpD T ds (Env.put e d v) σ' next (hist++[σ']) reads K⟩) T (f.ev e) (evs e xs) σ:=by simp only [wpD,lN,cD]
theorem SD (z:List AV) (d:Option Nat) (lo hi:Nat) (ds:List ADOper) (e:Env) (σ:St) (next:Nat) (hist:List St) (reads:List ARead) (K:Env→St→Prop) :
  wpD T (⟨⟨d,.alloc z,none⟩,lo,hi⟩::ds) e σ next hist reads K=wpD T ds (Env.put e d (.ptr next 0)) σ (next+1) hist reads K:=by simp only [wpD]
def sG (lo hi:Nat) (q:AOp) (e:Env) (v:AV):List St→Nat→Prop
 |[],_=>True
 |s::ss,j=>(if lo≤j∧j≤hi then aop q e s=some (v,s) else True)∧sG lo hi q e v ss (j+1)
theorem FH (r:ARead):∀ (ss:List St) (j:Nat),sG r.lo r.hi r.op r.env r.v ss j=AR r ss j
 |[],j=>by simp only [sG,AR]
 |s::ss,j=>by simp only [sG,AR,FH r ss (j+1)]
theorem QZ (hist:List St):o8 [] hist=True:=by simp only [o8]
theorem QM (lo hi:Nat) (q:AOp) (e:Env) (v:AV) (rs:List ARead) (hist:List St):o8 (⟨lo,hi,q,e,v⟩::rs) hist=(sG lo hi q e v hist 0∧o8 rs hist):=by
 simp only [o8];rw [←FH]
theorem Q7 (lo hi:Nat) (q:AOp) (e:Env) (v:AV) (j:Nat):sG lo hi q e v [] j=True:=by simp only [sG]
theorem UQ (lo hi:Nat) (q:AOp) (e:Env) (v:AV) (s:St) (ss:List St) (j:Nat):sG lo hi q e v (s::ss) j=((if lo≤j∧j≤hi then aop q e s=some (v,s) else True)∧sG lo hi q e v ss (j+1)):=by simp only [sG]
theorem Z8 (x:AOpd) (d:Option Nat) (wl wh:Nat) (ds:List ADOper) (e:Env) (σ:St) (next:Nat) (hist:List St) (reads:List ARead) (K:Env→St→Prop):wpD T (⟨⟨d,.mov x,none⟩,wl,wh⟩::ds) e σ next hist reads K=bO (K:=⟨fun v σ'=>σ'=σ∧wpD T ds (Env.put e d v) σ next hist reads K⟩) (aop (.mov x) e σ):=by
 simp only [wpD,bO,AOp.acts,AOp.reads,if_true,Bool.false_eq_true,if_false]
theorem ZV (c x y:AOpd) (d:Option Nat) (wl wh:Nat) (ds:List ADOper) (e:Env) (σ:St) (next:Nat) (hist:List St) (reads:List ARead) (K:Env→St→Prop):wpD T (⟨⟨d,.pick c x y,none⟩,wl,wh⟩::ds) e σ next hist reads K=bO (K:=⟨fun v σ'=>σ'=σ∧wpD T ds (Env.put e d v) σ next hist reads K⟩) (aop (.pick c x y) e σ):=by
 simp only [wpD,bO,AOp.acts,AOp.reads,if_true,Bool.false_eq_true,if_false]
theorem aAR (n:Nat) (x:AOpd) (d:Option Nat) (wl wh:Nat) (ds:List ADOper) (e:Env) (σ:St) (next:Nat) (hist:List St) (reads:List ARead) (K:Env→St→Prop):wpD T (⟨⟨d,.box n x,none⟩,wl,wh⟩::ds) e σ next hist reads K=bO (K:=⟨fun v σ'=>wpD T ds (Env.put e d v) σ' next (hist++[σ']) reads K⟩) (aop (.box n x) e σ):=by
 simp only [wpD,bO,AOp.acts,AOp.reads,if_true,Bool.false_eq_true,if_false]
theorem TK (z:List AV) (ps:List (Nat×Nat×AOpd)) (d:Option Nat) (wl wh:Nat) (ds:List ADOper) (e:Env) (σ:St) (next:Nat) (hist:List St) (reads:List ARead) (K:Env→St→Prop):wpD T (⟨⟨d,.build z ps,none⟩,wl,wh⟩::ds) e σ next hist reads K=bO (K:=⟨fun v σ'=>σ'=σ∧wpD T ds (Env.put e d v) σ next hist reads K⟩) (aop (.build z ps) e σ):=by
 simp only [wpD,bO,AOp.acts,AOp.reads,if_true,Bool.false_eq_true,if_false]
theorem R0 (n:Nat) (xs:List AOpd) (d:Option Nat) (wl wh:Nat) (ds:List ADOper) (e:Env) (σ:St) (next:Nat) (hist:List St) (reads:List ARead) (K:Env→St→Prop):wpD T (⟨⟨d,.mklit n xs,none⟩,wl,wh⟩::ds) e σ next hist reads K=bO (K:=⟨fun v σ'=>σ'=σ∧wpD T ds (Env.put e d v) σ next hist reads K⟩) (aop (.mklit n xs) e σ):=by
 simp only [wpD,bO,AOp.acts,AOp.reads,if_true,Bool.false_eq_true,if_false]
theorem T7 (n:Nat) (xs:List AOpd) (d:Option Nat) (wl wh:Nat) (ds:List ADOper) (e:Env) (σ:St) (next:Nat) (hist:List St) (reads:List ARead) (K:Env→St→Prop):wpD T (⟨⟨d,.mkref n xs,none⟩,wl,wh⟩::ds) e σ next hist reads K=bO (K:=⟨fun v σ'=>wpD T ds (Env.put e d v) σ' next (hist++[σ']) reads K⟩) (aop (.mkref n xs) e σ):=by
 simp only [wpD,bO,AOp.acts,AOp.reads,if_true,Bool.false_eq_true,if_false]
theorem Y7 (sh:Option Nat) (x:AOpd) (d:Option Nat) (wl wh:Nat) (ds:List ADOper) (e:Env) (σ:St) (next:Nat) (hist:List St) (reads:List ARead) (K:Env→St→Prop):wpD T (⟨⟨d,.load sh x,none⟩,wl,wh⟩::ds) e σ next hist reads K=bO (K:=⟨fun v σ'=>σ'=σ∧wpD T ds (Env.put e d v) σ next hist (⟨wl,wh,.load sh x,e,v⟩::reads) K⟩) (aop (.load sh x) e σ):=by
 simp only [wpD,bO,AOp.acts,AOp.reads,if_true,Bool.false_eq_true,if_false]
theorem RK (n:Nat) (x y:AOpd) (d:Option Nat) (wl wh:Nat) (ds:List ADOper) (e:Env) (σ:St) (next:Nat) (hist:List St) (reads:List ARead) (K:Env→St→Prop):wpD T (⟨⟨d,.store n x y,none⟩,wl,wh⟩::ds) e σ next hist reads K=bO (K:=⟨fun v σ'=>wpD T ds (Env.put e d v) σ' next (hist++[σ']) reads K⟩) (aop (.store n x y) e σ):=by
 simp only [wpD,bO,AOp.acts,AOp.reads,if_true,Bool.false_eq_true,if_false]
theorem HM (x:AOpd) (d:Option Nat) (wl wh:Nat) (ds:List ADOper) (e:Env) (σ:St) (next:Nat) (hist:List St) (reads:List ARead) (K:Env→St→Prop):wpD T (⟨⟨d,.nilCheck x,none⟩,wl,wh⟩::ds) e σ next hist reads K=bO (K:=⟨fun v σ'=>σ'=σ∧wpD T ds (Env.put e d v) σ next hist reads K⟩) (aop (.nilCheck x) e σ):=by
 simp only [wpD,bO,AOp.acts,AOp.reads,if_true,Bool.false_eq_true,if_false]
theorem aAL (op:BinOp) (x y:AOpd) (d:Option Nat) (wl wh:Nat) (ds:List ADOper) (e:Env) (σ:St) (next:Nat) (hist:List St) (reads:List ARead) (K:Env→St→Prop):wpD T (⟨⟨d,.bin op x y,none⟩,wl,wh⟩::ds) e σ next hist reads K=bO (K:=⟨fun v σ'=>σ'=σ∧wpD T ds (Env.put e d v) σ next hist reads K⟩) (aop (.bin op x y) e σ):=by
 simp only [wpD,bO,AOp.acts,AOp.reads,if_true,Bool.false_eq_true,if_false]
theorem aB6 (sh:EqTy) (n:Bool) (x y:AOpd) (d:Option Nat) (wl wh:Nat) (ds:List ADOper) (e:Env) (σ:St) (next:Nat) (hist:List St) (reads:List ARead) (K:Env→St→Prop):wpD T (⟨⟨d,.eql sh n x y,none⟩,wl,wh⟩::ds) e σ next hist reads K=bO (K:=⟨fun v σ'=>σ'=σ∧wpD T ds (Env.put e d v) σ next hist reads K⟩) (aop (.eql sh n x y) e σ):=by
 simp only [wpD,bO,AOp.acts,AOp.reads,if_true,Bool.false_eq_true,if_false]
theorem aAB (x:AOpd) (d:Option Nat) (wl wh:Nat) (ds:List ADOper) (e:Env) (σ:St) (next:Nat) (hist:List St) (reads:List ARead) (K:Env→St→Prop):wpD T (⟨⟨d,.not x,none⟩,wl,wh⟩::ds) e σ next hist reads K=bO (K:=⟨fun v σ'=>σ'=σ∧wpD T ds (Env.put e d v) σ next hist reads K⟩) (aop (.not x) e σ):=by
 simp only [wpD,bO,AOp.acts,AOp.reads,if_true,Bool.false_eq_true,if_false]
theorem aC5 (x:AOpd) (d:Option Nat) (wl wh:Nat) (ds:List ADOper) (e:Env) (σ:St) (next:Nat) (hist:List St) (reads:List ARead) (K:Env→St→Prop):wpD T (⟨⟨d,.neg x,none⟩,wl,wh⟩::ds) e σ next hist reads K=bO (K:=⟨fun v σ'=>σ'=σ∧wpD T ds (Env.put e d v) σ next hist reads K⟩) (aop (.neg x) e σ):=by
 simp only [wpD,bO,AOp.acts,AOp.reads,if_true,Bool.false_eq_true,if_false]
theorem YT (k:IntKind) (x:AOpd) (d:Option Nat) (wl wh:Nat) (ds:List ADOper) (e:Env) (σ:St) (next:Nat) (hist:List St) (reads:List ARead) (K:Env→St→Prop):wpD T (⟨⟨d,.conv k x,none⟩,wl,wh⟩::ds) e σ next hist reads K=bO (K:=⟨fun v σ'=>σ'=σ∧wpD T ds (Env.put e d v) σ next hist reads K⟩) (aop (.conv k x) e σ):=by
 simp only [wpD,bO,AOp.acts,AOp.reads,if_true,Bool.false_eq_true,if_false]
theorem Q2 (f:FuncId) (xs ys:List AOpd) (d:Option Nat) (wl wh:Nat) (ds:List ADOper) (e:Env) (σ:St) (next:Nat) (hist:List St) (reads:List ARead) (K:Env→St→Prop):wpD T (⟨⟨d,.mkfun f xs ys,none⟩,wl,wh⟩::ds) e σ next hist reads K=bO (K:=⟨fun v σ'=>σ'=σ∧wpD T ds (Env.put e d v) σ next hist reads K⟩) (aop (.mkfun f xs ys) e σ):=by
 simp only [wpD,bO,AOp.acts,AOp.reads,if_true,Bool.false_eq_true,if_false]
theorem TZ  (d:Option Nat) (wl wh:Nat) (ds:List ADOper) (e:Env) (σ:St) (next:Nat) (hist:List St) (reads:List ARead) (K:Env→St→Prop):wpD T (⟨⟨d,.mkmap,none⟩,wl,wh⟩::ds) e σ next hist reads K=bO (K:=⟨fun v σ'=>wpD T ds (Env.put e d v) σ' next (hist++[σ']) reads K⟩) (aop (.mkmap) e σ):=by
 simp only [wpD,bO,AOp.acts,AOp.reads,if_true,Bool.false_eq_true,if_false]
theorem LR (z:List AV) (b:Nat) (x y:AOpd) (d:Option Nat) (wl wh:Nat) (ds:List ADOper) (e:Env) (σ:St) (next:Nat) (hist:List St) (reads:List ARead) (K:Env→St→Prop):wpD T (⟨⟨d,.mkslice z b x y,none⟩,wl,wh⟩::ds) e σ next hist reads K=bO (K:=⟨fun v σ'=>wpD T ds (Env.put e d v) σ' next (hist++[σ']) reads K⟩) (aop (.mkslice z b x y) e σ):=by
 simp only [wpD,bO,AOp.acts,AOp.reads,if_true,Bool.false_eq_true,if_false]
theorem MM (n:Nat) (x:AOpd) (lo hi mx:Option AOpd) (d:Option Nat) (wl wh:Nat) (ds:List ADOper) (e:Env) (σ:St) (next:Nat) (hist:List St) (reads:List ARead) (K:Env→St→Prop):wpD T (⟨⟨d,.slicev n x lo hi mx,none⟩,wl,wh⟩::ds) e σ next hist reads K=bO (K:=⟨fun v σ'=>σ'=σ∧wpD T ds (Env.put e d v) σ next hist (⟨wl,wh,.slicev n x lo hi mx,e,v⟩::reads) K⟩) (aop (.slicev n x lo hi mx) e σ):=by
 simp only [wpD,bO,AOp.acts,AOp.reads,if_true,Bool.false_eq_true,if_false]
theorem PV (n s:Nat) (x:AOpd) (lo hi:Option AOpd) (d:Option Nat) (wl wh:Nat) (ds:List ADOper) (e:Env) (σ:St) (next:Nat) (hist:List St) (reads:List ARead) (K:Env→St→Prop):wpD T (⟨⟨d,.slicea n s x lo hi,none⟩,wl,wh⟩::ds) e σ next hist reads K=bO (K:=⟨fun v σ'=>σ'=σ∧wpD T ds (Env.put e d v) σ next hist reads K⟩) (aop (.slicea n s x lo hi) e σ):=by
 simp only [wpD,bO,AOp.acts,AOp.reads,if_true,Bool.false_eq_true,if_false]
theorem SB (x:AOpd) (o:Nat) (d:Option Nat) (wl wh:Nat) (ds:List ADOper) (e:Env) (σ:St) (next:Nat) (hist:List St) (reads:List ARead) (K:Env→St→Prop):wpD T (⟨⟨d,.faddr x o,none⟩,wl,wh⟩::ds) e σ next hist reads K=bO (K:=⟨fun v σ'=>σ'=σ∧wpD T ds (Env.put e d v) σ next hist reads K⟩) (aop (.faddr x o) e σ):=by
 simp only [wpD,bO,AOp.acts,AOp.reads,if_true,Bool.false_eq_true,if_false]
theorem RE (x:AOpd) (o:Nat) (sh:Option Nat) (d:Option Nat) (wl wh:Nat) (ds:List ADOper) (e:Env) (σ:St) (next:Nat) (hist:List St) (reads:List ARead) (K:Env→St→Prop):wpD T (⟨⟨d,.field x o sh,none⟩,wl,wh⟩::ds) e σ next hist reads K=bO (K:=⟨fun v σ'=>σ'=σ∧wpD T ds (Env.put e d v) σ next hist reads K⟩) (aop (.field x o sh) e σ):=by
 simp only [wpD,bO,AOp.acts,AOp.reads,if_true,Bool.false_eq_true,if_false]
theorem TO (a:Option Nat) (s:Nat) (x i:AOpd) (d:Option Nat) (wl wh:Nat) (ds:List ADOper) (e:Env) (σ:St) (next:Nat) (hist:List St) (reads:List ARead) (K:Env→St→Prop):wpD T (⟨⟨d,.iaddr a s x i,none⟩,wl,wh⟩::ds) e σ next hist reads K=bO (K:=⟨fun v σ'=>σ'=σ∧wpD T ds (Env.put e d v) σ next hist reads K⟩) (aop (.iaddr a s x i) e σ):=by
 simp only [wpD,bO,AOp.acts,AOp.reads,if_true,Bool.false_eq_true,if_false]
theorem TH (n s:Nat) (sh:Option Nat) (x i:AOpd) (d:Option Nat) (wl wh:Nat) (ds:List ADOper) (e:Env) (σ:St) (next:Nat) (hist:List St) (reads:List ARead) (K:Env→St→Prop):wpD T (⟨⟨d,.index n s sh x i,none⟩,wl,wh⟩::ds) e σ next hist reads K=bO (K:=⟨fun v σ'=>σ'=σ∧wpD T ds (Env.put e d v) σ next hist reads K⟩) (aop (.index n s sh x i) e σ):=by
 simp only [wpD,bO,AOp.acts,AOp.reads,if_true,Bool.false_eq_true,if_false]
theorem QF (x i:AOpd) (d:Option Nat) (wl wh:Nat) (ds:List ADOper) (e:Env) (σ:St) (next:Nat) (hist:List St) (reads:List ARead) (K:Env→St→Prop):wpD T (⟨⟨d,.sindex x i,none⟩,wl,wh⟩::ds) e σ next hist reads K=bO (K:=⟨fun v σ'=>σ'=σ∧wpD T ds (Env.put e d v) σ next hist reads K⟩) (aop (.sindex x i) e σ):=by
 simp only [wpD,bO,AOp.acts,AOp.reads,if_true,Bool.false_eq_true,if_false]
theorem OG (sh:EqTy) (ok:Bool) (z:AV) (m k:AOpd) (d:Option Nat) (wl wh:Nat) (ds:List ADOper) (e:Env) (σ:St) (next:Nat) (hist:List St) (reads:List ARead) (K:Env→St→Prop):wpD T (⟨⟨d,.lookup sh ok z m k,none⟩,wl,wh⟩::ds) e σ next hist reads K=bO (K:=⟨fun v σ'=>σ'=σ∧wpD T ds (Env.put e d v) σ next hist (⟨wl,wh,.lookup sh ok z m k,e,v⟩::reads) K⟩) (aop (.lookup sh ok z m k) e σ):=by
 simp only [wpD,bO,AOp.acts,AOp.reads,if_true,Bool.false_eq_true,if_false]
theorem QW (sh:EqTy) (m k v:AOpd) (d:Option Nat) (wl wh:Nat) (ds:List ADOper) (e:Env) (σ:St) (next:Nat) (hist:List St) (reads:List ARead) (K:Env→St→Prop):wpD T (⟨⟨d,.mapset sh m k v,none⟩,wl,wh⟩::ds) e σ next hist reads K=bO (K:=⟨fun v σ'=>wpD T ds (Env.put e d v) σ' next (hist++[σ']) reads K⟩) (aop (.mapset sh m k v) e σ):=by
 simp only [wpD,bO,AOp.acts,AOp.reads,if_true,Bool.false_eq_true,if_false]
theorem aBZ (x:AOpd) (i:Nat) (d:Option Nat) (wl wh:Nat) (ds:List ADOper) (e:Env) (σ:St) (next:Nat) (hist:List St) (reads:List ARead) (K:Env→St→Prop):wpD T (⟨⟨d,.ext x i,none⟩,wl,wh⟩::ds) e σ next hist reads K=bO (K:=⟨fun v σ'=>σ'=σ∧wpD T ds (Env.put e d v) σ next hist reads K⟩) (aop (.ext x i) e σ):=by
 simp only [wpD,bO,AOp.acts,AOp.reads,if_true,Bool.false_eq_true,if_false]
theorem aAM (k:Nat) (x:AOpd) (d:Option Nat) (wl wh:Nat) (ds:List ADOper) (e:Env) (σ:St) (next:Nat) (hist:List St) (reads:List ARead) (K:Env→St→Prop):wpD T (⟨⟨d,.len k x,none⟩,wl,wh⟩::ds) e σ next hist reads K=bO (K:=⟨fun v σ'=>σ'=σ∧wpD T ds (Env.put e d v) σ next hist (⟨wl,wh,.len k x,e,v⟩::reads) K⟩) (aop (.len k x) e σ):=by
 simp only [wpD,bO,AOp.acts,AOp.reads,if_true,Bool.false_eq_true,if_false]
theorem N7 (n b:Nat) (x y:AOpd) (d:Option Nat) (wl wh:Nat) (ds:List ADOper) (e:Env) (σ:St) (next:Nat) (hist:List St) (reads:List ARead) (K:Env→St→Prop):wpD T (⟨⟨d,.append n b x y,none⟩,wl,wh⟩::ds) e σ next hist reads K=bO (K:=⟨fun v σ'=>wpD T ds (Env.put e d v) σ' next (hist++[σ']) reads K⟩) (aop (.append n b x y) e σ):=by
 simp only [wpD,bO,AOp.acts,AOp.reads,if_true,Bool.false_eq_true,if_false]
theorem UO (n b:Nat) (x y:AOpd) (d:Option Nat) (wl wh:Nat) (ds:List ADOper) (e:Env) (σ:St) (next:Nat) (hist:List St) (reads:List ARead) (K:Env→St→Prop):wpD T (⟨⟨d,.apref n b x y,none⟩,wl,wh⟩::ds) e σ next hist reads K=bO (K:=⟨fun v σ'=>wpD T ds (Env.put e d v) σ' next (hist++[σ']) reads K⟩) (aop (.apref n b x y) e σ):=by
 simp only [wpD,bO,AOp.acts,AOp.reads,if_true,Bool.false_eq_true,if_false]
theorem XO (n:Nat) (x y:AOpd) (d:Option Nat) (wl wh:Nat) (ds:List ADOper) (e:Env) (σ:St) (next:Nat) (hist:List St) (reads:List ARead) (K:Env→St→Prop):wpD T (⟨⟨d,.copy n x y,none⟩,wl,wh⟩::ds) e σ next hist reads K=bO (K:=⟨fun v σ'=>wpD T ds (Env.put e d v) σ' next (hist++[σ']) reads K⟩) (aop (.copy n x y) e σ):=by
 simp only [wpD,bO,AOp.acts,AOp.reads,if_true,Bool.false_eq_true,if_false]
theorem aDC (xs:List AOpd) (d:Option Nat) (wl wh:Nat) (ds:List ADOper) (e:Env) (σ:St) (next:Nat) (hist:List St) (reads:List ARead) (K:Env→St→Prop):wpD T (⟨⟨d,.min xs,none⟩,wl,wh⟩::ds) e σ next hist reads K=bO (K:=⟨fun v σ'=>σ'=σ∧wpD T ds (Env.put e d v) σ next hist reads K⟩) (aop (.min xs) e σ):=by
 simp only [wpD,bO,AOp.acts,AOp.reads,if_true,Bool.false_eq_true,if_false]
theorem aCF (xs:List AOpd) (d:Option Nat) (wl wh:Nat) (ds:List ADOper) (e:Env) (σ:St) (next:Nat) (hist:List St) (reads:List ARead) (K:Env→St→Prop):wpD T (⟨⟨d,.max xs,none⟩,wl,wh⟩::ds) e σ next hist reads K=bO (K:=⟨fun v σ'=>σ'=σ∧wpD T ds (Env.put e d v) σ next hist reads K⟩) (aop (.max xs) e σ):=by
 simp only [wpD,bO,AOp.acts,AOp.reads,if_true,Bool.false_eq_true,if_false]
theorem OP (x:AOpd) (d:Option Nat) (wl wh:Nat) (ds:List ADOper) (e:Env) (σ:St) (next:Nat) (hist:List St) (reads:List ARead) (K:Env→St→Prop):wpD T (⟨⟨d,.srange x,none⟩,wl,wh⟩::ds) e σ next hist reads K=bO (K:=⟨fun v σ'=>wpD T ds (Env.put e d v) σ' next (hist++[σ']) reads K⟩) (aop (.srange x) e σ):=by
 simp only [wpD,bO,AOp.acts,AOp.reads,if_true,Bool.false_eq_true,if_false]
theorem UF (x:AOpd) (d:Option Nat) (wl wh:Nat) (ds:List ADOper) (e:Env) (σ:St) (next:Nat) (hist:List St) (reads:List ARead) (K:Env→St→Prop):wpD T (⟨⟨d,.snext x,none⟩,wl,wh⟩::ds) e σ next hist reads K=bO (K:=⟨fun v σ'=>wpD T ds (Env.put e d v) σ' next (hist++[σ']) reads K⟩) (aop (.snext x) e σ):=by
 simp only [wpD,bO,AOp.acts,AOp.reads,if_true,Bool.false_eq_true,if_false]
theorem N6 (f:AOpd) (xs:List AOpd) (t:Nat) (want:Bool) (d:Option Nat) (wl wh:Nat) (ds:List ADOper) (e:Env) (σ:St) (next:Nat) (hist:List St) (reads:List ARead) (K:Env→St→Prop):wpD T (⟨⟨d,.call f xs,some (t,want)⟩,wl,wh⟩::ds) e σ next hist reads K =
  bG (A:=⟨wpD T (⟨⟨d,.call f xs,none⟩,wl,wh⟩::ds) e σ next hist reads K⟩) (B:=⟨wpD T ds (Env.put e d (.tuple [])) σ next (hist++[σ]) reads K⟩) (Env.get e t) want:=by simp only [wpD,bG]
theorem aCP (x:AOpd) (t:Nat) (want:Bool) (d:Option Nat) (wl wh:Nat) (ds:List ADOper) (e:Env) (σ:St) (next:Nat) (hist:List St) (reads:List ARead) (K:Env→St→Prop):wpD T (⟨⟨d,.mov x,some (t,want)⟩,wl,wh⟩::ds) e σ next hist reads K =
  bG (A:=⟨wpD T (⟨⟨d,.mov x,none⟩,wl,wh⟩::ds) e σ next hist reads K⟩) (B:=⟨wpD T ds (Env.put e d (.tuple [])) σ next hist reads K⟩) (Env.get e t) want:=by
 simp only [wpD,bG,AOp.allocs,AOp.acts,true_and,if_true,Bool.false_eq_true,if_false]
theorem XD (c x y:AOpd) (t:Nat) (want:Bool) (d:Option Nat) (wl wh:Nat) (ds:List ADOper) (e:Env) (σ:St) (next:Nat) (hist:List St) (reads:List ARead) (K:Env→St→Prop):wpD T (⟨⟨d,.pick c x y,some (t,want)⟩,wl,wh⟩::ds) e σ next hist reads K =
  bG (A:=⟨wpD T (⟨⟨d,.pick c x y,none⟩,wl,wh⟩::ds) e σ next hist reads K⟩) (B:=⟨wpD T ds (Env.put e d (.tuple [])) σ next hist reads K⟩) (Env.get e t) want:=by
 simp only [wpD,bG,AOp.allocs,AOp.acts,true_and,if_true,Bool.false_eq_true,if_false]
theorem aCI (n:Nat) (x:AOpd) (t:Nat) (want:Bool) (d:Option Nat) (wl wh:Nat) (ds:List ADOper) (e:Env) (σ:St) (next:Nat) (hist:List St) (reads:List ARead) (K:Env→St→Prop):wpD T (⟨⟨d,.box n x,some (t,want)⟩,wl,wh⟩::ds) e σ next hist reads K =
  bG (A:=⟨wpD T (⟨⟨d,.box n x,none⟩,wl,wh⟩::ds) e σ next hist reads K⟩) (B:=⟨wpD T ds (Env.put e d (.tuple [])) σ next (hist++[σ]) reads K⟩) (Env.get e t) want:=by
 simp only [wpD,bG,AOp.allocs,AOp.acts,true_and,if_true,Bool.false_eq_true,if_false]
theorem TG (z:List AV) (ps:List (Nat×Nat×AOpd)) (t:Nat) (want:Bool) (d:Option Nat) (wl wh:Nat) (ds:List ADOper) (e:Env) (σ:St) (next:Nat) (hist:List St) (reads:List ARead) (K:Env→St→Prop):wpD T (⟨⟨d,.build z ps,some (t,want)⟩,wl,wh⟩::ds) e σ next hist reads K =
  bG (A:=⟨wpD T (⟨⟨d,.build z ps,none⟩,wl,wh⟩::ds) e σ next hist reads K⟩) (B:=⟨wpD T ds (Env.put e d (.tuple [])) σ next hist reads K⟩) (Env.get e t) want:=by
 simp only [wpD,bG,AOp.allocs,AOp.acts,true_and,if_true,Bool.false_eq_true,if_false]
theorem UC (n:Nat) (xs:List AOpd) (t:Nat) (want:Bool) (d:Option Nat) (wl wh:Nat) (ds:List ADOper) (e:Env) (σ:St) (next:Nat) (hist:List St) (reads:List ARead) (K:Env→St→Prop):wpD T (⟨⟨d,.mklit n xs,some (t,want)⟩,wl,wh⟩::ds) e σ next hist reads K =
  bG (A:=⟨wpD T (⟨⟨d,.mklit n xs,none⟩,wl,wh⟩::ds) e σ next hist reads K⟩) (B:=⟨wpD T ds (Env.put e d (.tuple [])) σ next hist reads K⟩) (Env.get e t) want:=by
 simp only [wpD,bG,AOp.allocs,AOp.acts,true_and,if_true,Bool.false_eq_true,if_false]
theorem UT (n:Nat) (xs:List AOpd) (t:Nat) (want:Bool) (d:Option Nat) (wl wh:Nat) (ds:List ADOper) (e:Env) (σ:St) (next:Nat) (hist:List St) (reads:List ARead) (K:Env→St→Prop):wpD T (⟨⟨d,.mkref n xs,some (t,want)⟩,wl,wh⟩::ds) e σ next hist reads K =
  bG (A:=⟨wpD T (⟨⟨d,.mkref n xs,none⟩,wl,wh⟩::ds) e σ next hist reads K⟩) (B:=⟨wpD T ds (Env.put e d (.tuple [])) σ next (hist++[σ]) reads K⟩) (Env.get e t) want:=by
 simp only [wpD,bG,AOp.allocs,AOp.acts,true_and,if_true,Bool.false_eq_true,if_false]
theorem ZW (sh:Option Nat) (x:AOpd) (t:Nat) (want:Bool) (d:Option Nat) (wl wh:Nat) (ds:List ADOper) (e:Env) (σ:St) (next:Nat) (hist:List St) (reads:List ARead) (K:Env→St→Prop):wpD T (⟨⟨d,.load sh x,some (t,want)⟩,wl,wh⟩::ds) e σ next hist reads K =
  bG (A:=⟨wpD T (⟨⟨d,.load sh x,none⟩,wl,wh⟩::ds) e σ next hist reads K⟩) (B:=⟨wpD T ds (Env.put e d (.tuple [])) σ next hist reads K⟩) (Env.get e t) want:=by
 simp only [wpD,bG,AOp.allocs,AOp.acts,true_and,if_true,Bool.false_eq_true,if_false]
theorem S9 (n:Nat) (x y:AOpd) (t:Nat) (want:Bool) (d:Option Nat) (wl wh:Nat) (ds:List ADOper) (e:Env) (σ:St) (next:Nat) (hist:List St) (reads:List ARead) (K:Env→St→Prop):wpD T (⟨⟨d,.store n x y,some (t,want)⟩,wl,wh⟩::ds) e σ next hist reads K =
  bG (A:=⟨wpD T (⟨⟨d,.store n x y,none⟩,wl,wh⟩::ds) e σ next hist reads K⟩) (B:=⟨wpD T ds (Env.put e d (.tuple [])) σ next (hist++[σ]) reads K⟩) (Env.get e t) want:=by
 simp only [wpD,bG,AOp.allocs,AOp.acts,true_and,if_true,Bool.false_eq_true,if_false]
theorem GC (x:AOpd) (t:Nat) (want:Bool) (d:Option Nat) (wl wh:Nat) (ds:List ADOper) (e:Env) (σ:St) (next:Nat) (hist:List St) (reads:List ARead) (K:Env→St→Prop):wpD T (⟨⟨d,.nilCheck x,some (t,want)⟩,wl,wh⟩::ds) e σ next hist reads K =
  bG (A:=⟨wpD T (⟨⟨d,.nilCheck x,none⟩,wl,wh⟩::ds) e σ next hist reads K⟩) (B:=⟨wpD T ds (Env.put e d (.tuple [])) σ next hist reads K⟩) (Env.get e t) want:=by
 simp only [wpD,bG,AOp.allocs,AOp.acts,true_and,if_true,Bool.false_eq_true,if_false]
theorem aA5 (op:BinOp) (x y:AOpd) (t:Nat) (want:Bool) (d:Option Nat) (wl wh:Nat) (ds:List ADOper) (e:Env) (σ:St) (next:Nat) (hist:List St) (reads:List ARead) (K:Env→St→Prop):wpD T (⟨⟨d,.bin op x y,some (t,want)⟩,wl,wh⟩::ds) e σ next hist reads K =
  bG (A:=⟨wpD T (⟨⟨d,.bin op x y,none⟩,wl,wh⟩::ds) e σ next hist reads K⟩) (B:=⟨wpD T ds (Env.put e d (.tuple [])) σ next hist reads K⟩) (Env.get e t) want:=by
 simp only [wpD,bG,AOp.allocs,AOp.acts,true_and,if_true,Bool.false_eq_true,if_false]
theorem aDA (sh:EqTy) (n:Bool) (x y:AOpd) (t:Nat) (want:Bool) (d:Option Nat) (wl wh:Nat) (ds:List ADOper) (e:Env) (σ:St) (next:Nat) (hist:List St) (reads:List ARead) (K:Env→St→Prop):wpD T (⟨⟨d,.eql sh n x y,some (t,want)⟩,wl,wh⟩::ds) e σ next hist reads K =
  bG (A:=⟨wpD T (⟨⟨d,.eql sh n x y,none⟩,wl,wh⟩::ds) e σ next hist reads K⟩) (B:=⟨wpD T ds (Env.put e d (.tuple [])) σ next hist reads K⟩) (Env.get e t) want:=by
 simp only [wpD,bG,AOp.allocs,AOp.acts,true_and,if_true,Bool.false_eq_true,if_false]
theorem aA4 (x:AOpd) (t:Nat) (want:Bool) (d:Option Nat) (wl wh:Nat) (ds:List ADOper) (e:Env) (σ:St) (next:Nat) (hist:List St) (reads:List ARead) (K:Env→St→Prop):wpD T (⟨⟨d,.not x,some (t,want)⟩,wl,wh⟩::ds) e σ next hist reads K =
  bG (A:=⟨wpD T (⟨⟨d,.not x,none⟩,wl,wh⟩::ds) e σ next hist reads K⟩) (B:=⟨wpD T ds (Env.put e d (.tuple [])) σ next hist reads K⟩) (Env.get e t) want:=by
 simp only [wpD,bG,AOp.allocs,AOp.acts,true_and,if_true,Bool.false_eq_true,if_false]
theorem aA8 (x:AOpd) (t:Nat) (want:Bool) (d:Option Nat) (wl wh:Nat) (ds:List ADOper) (e:Env) (σ:St) (next:Nat) (hist:List St) (reads:List ARead) (K:Env→St→Prop):wpD T (⟨⟨d,.neg x,some (t,want)⟩,wl,wh⟩::ds) e σ next hist reads K =
  bG (A:=⟨wpD T (⟨⟨d,.neg x,none⟩,wl,wh⟩::ds) e σ next hist reads K⟩) (B:=⟨wpD T ds (Env.put e d (.tuple [])) σ next hist reads K⟩) (Env.get e t) want:=by
 simp only [wpD,bG,AOp.allocs,AOp.acts,true_and,if_true,Bool.false_eq_true,if_false]
theorem ZR (k:IntKind) (x:AOpd) (t:Nat) (want:Bool) (d:Option Nat) (wl wh:Nat) (ds:List ADOper) (e:Env) (σ:St) (next:Nat) (hist:List St) (reads:List ARead) (K:Env→St→Prop):wpD T (⟨⟨d,.conv k x,some (t,want)⟩,wl,wh⟩::ds) e σ next hist reads K =
  bG (A:=⟨wpD T (⟨⟨d,.conv k x,none⟩,wl,wh⟩::ds) e σ next hist reads K⟩) (B:=⟨wpD T ds (Env.put e d (.tuple [])) σ next hist reads K⟩) (Env.get e t) want:=by
 simp only [wpD,bG,AOp.allocs,AOp.acts,true_and,if_true,Bool.false_eq_true,if_false]
theorem RC (f:FuncId) (xs ys:List AOpd) (t:Nat) (want:Bool) (d:Option Nat) (wl wh:Nat) (ds:List ADOper) (e:Env) (σ:St) (next:Nat) (hist:List St) (reads:List ARead) (K:Env→St→Prop):wpD T (⟨⟨d,.mkfun f xs ys,some (t,want)⟩,wl,wh⟩::ds) e σ next hist reads K =
  bG (A:=⟨wpD T (⟨⟨d,.mkfun f xs ys,none⟩,wl,wh⟩::ds) e σ next hist reads K⟩) (B:=⟨wpD T ds (Env.put e d (.tuple [])) σ next hist reads K⟩) (Env.get e t) want:=by
 simp only [wpD,bG,AOp.allocs,AOp.acts,true_and,if_true,Bool.false_eq_true,if_false]
theorem UJ  (t:Nat) (want:Bool) (d:Option Nat) (wl wh:Nat) (ds:List ADOper) (e:Env) (σ:St) (next:Nat) (hist:List St) (reads:List ARead) (K:Env→St→Prop):wpD T (⟨⟨d,.mkmap,some (t,want)⟩,wl,wh⟩::ds) e σ next hist reads K =
  bG (A:=⟨wpD T (⟨⟨d,.mkmap,none⟩,wl,wh⟩::ds) e σ next hist reads K⟩) (B:=⟨wpD T ds (Env.put e d (.tuple [])) σ next (hist++[σ]) reads K⟩) (Env.get e t) want:=by
 simp only [wpD,bG,AOp.allocs,AOp.acts,true_and,if_true,Bool.false_eq_true,if_false]
theorem MC (z:List AV) (b:Nat) (x y:AOpd) (t:Nat) (want:Bool) (d:Option Nat) (wl wh:Nat) (ds:List ADOper) (e:Env) (σ:St) (next:Nat) (hist:List St) (reads:List ARead) (K:Env→St→Prop):wpD T (⟨⟨d,.mkslice z b x y,some (t,want)⟩,wl,wh⟩::ds) e σ next hist reads K =
  bG (A:=⟨wpD T (⟨⟨d,.mkslice z b x y,none⟩,wl,wh⟩::ds) e σ next hist reads K⟩) (B:=⟨wpD T ds (Env.put e d (.tuple [])) σ next (hist++[σ]) reads K⟩) (Env.get e t) want:=by
 simp only [wpD,bG,AOp.allocs,AOp.acts,true_and,if_true,Bool.false_eq_true,if_false]
theorem OY (n:Nat) (x:AOpd) (lo hi mx:Option AOpd) (t:Nat) (want:Bool) (d:Option Nat) (wl wh:Nat) (ds:List ADOper) (e:Env) (σ:St) (next:Nat) (hist:List St) (reads:List ARead) (K:Env→St→Prop):wpD T (⟨⟨d,.slicev n x lo hi mx,some (t,want)⟩,wl,wh⟩::ds) e σ next hist reads K =
  bG (A:=⟨wpD T (⟨⟨d,.slicev n x lo hi mx,none⟩,wl,wh⟩::ds) e σ next hist reads K⟩) (B:=⟨wpD T ds (Env.put e d (.tuple [])) σ next hist reads K⟩) (Env.get e t) want:=by
 simp only [wpD,bG,AOp.allocs,AOp.acts,true_and,if_true,Bool.false_eq_true,if_false]
theorem PZ (n s:Nat) (x:AOpd) (lo hi:Option AOpd) (t:Nat) (want:Bool) (d:Option Nat) (wl wh:Nat) (ds:List ADOper) (e:Env) (σ:St) (next:Nat) (hist:List St) (reads:List ARead) (K:Env→St→Prop):wpD T (⟨⟨d,.slicea n s x lo hi,some (t,want)⟩,wl,wh⟩::ds) e σ next hist reads K =
  bG (A:=⟨wpD T (⟨⟨d,.slicea n s x lo hi,none⟩,wl,wh⟩::ds) e σ next hist reads K⟩) (B:=⟨wpD T ds (Env.put e d (.tuple [])) σ next hist reads K⟩) (Env.get e t) want:=by
 simp only [wpD,bG,AOp.allocs,AOp.acts,true_and,if_true,Bool.false_eq_true,if_false]
theorem TW (x:AOpd) (o:Nat) (t:Nat) (want:Bool) (d:Option Nat) (wl wh:Nat) (ds:List ADOper) (e:Env) (σ:St) (next:Nat) (hist:List St) (reads:List ARead) (K:Env→St→Prop):wpD T (⟨⟨d,.faddr x o,some (t,want)⟩,wl,wh⟩::ds) e σ next hist reads K =
  bG (A:=⟨wpD T (⟨⟨d,.faddr x o,none⟩,wl,wh⟩::ds) e σ next hist reads K⟩) (B:=⟨wpD T ds (Env.put e d (.tuple [])) σ next hist reads K⟩) (Env.get e t) want:=by
 simp only [wpD,bG,AOp.allocs,AOp.acts,true_and,if_true,Bool.false_eq_true,if_false]
theorem SM (x:AOpd) (o:Nat) (sh:Option Nat) (t:Nat) (want:Bool) (d:Option Nat) (wl wh:Nat) (ds:List ADOper) (e:Env) (σ:St) (next:Nat) (hist:List St) (reads:List ARead) (K:Env→St→Prop):wpD T (⟨⟨d,.field x o sh,some (t,want)⟩,wl,wh⟩::ds) e σ next hist reads K =
  bG (A:=⟨wpD T (⟨⟨d,.field x o sh,none⟩,wl,wh⟩::ds) e σ next hist reads K⟩) (B:=⟨wpD T ds (Env.put e d (.tuple [])) σ next hist reads K⟩) (Env.get e t) want:=by
 simp only [wpD,bG,AOp.allocs,AOp.acts,true_and,if_true,Bool.false_eq_true,if_false]
theorem TJ (a:Option Nat) (s:Nat) (x i:AOpd) (t:Nat) (want:Bool) (d:Option Nat) (wl wh:Nat) (ds:List ADOper) (e:Env) (σ:St) (next:Nat) (hist:List St) (reads:List ARead) (K:Env→St→Prop):wpD T (⟨⟨d,.iaddr a s x i,some (t,want)⟩,wl,wh⟩::ds) e σ next hist reads K =
  bG (A:=⟨wpD T (⟨⟨d,.iaddr a s x i,none⟩,wl,wh⟩::ds) e σ next hist reads K⟩) (B:=⟨wpD T ds (Env.put e d (.tuple [])) σ next hist reads K⟩) (Env.get e t) want:=by
 simp only [wpD,bG,AOp.allocs,AOp.acts,true_and,if_true,Bool.false_eq_true,if_false]
theorem S6 (n s:Nat) (sh:Option Nat) (x i:AOpd) (t:Nat) (want:Bool) (d:Option Nat) (wl wh:Nat) (ds:List ADOper) (e:Env) (σ:St) (next:Nat) (hist:List St) (reads:List ARead) (K:Env→St→Prop):wpD T (⟨⟨d,.index n s sh x i,some (t,want)⟩,wl,wh⟩::ds) e σ next hist reads K =
  bG (A:=⟨wpD T (⟨⟨d,.index n s sh x i,none⟩,wl,wh⟩::ds) e σ next hist reads K⟩) (B:=⟨wpD T ds (Env.put e d (.tuple [])) σ next hist reads K⟩) (Env.get e t) want:=by
 simp only [wpD,bG,AOp.allocs,AOp.acts,true_and,if_true,Bool.false_eq_true,if_false]
theorem NY (x i:AOpd) (t:Nat) (want:Bool) (d:Option Nat) (wl wh:Nat) (ds:List ADOper) (e:Env) (σ:St) (next:Nat) (hist:List St) (reads:List ARead) (K:Env→St→Prop):wpD T (⟨⟨d,.sindex x i,some (t,want)⟩,wl,wh⟩::ds) e σ next hist reads K =
  bG (A:=⟨wpD T (⟨⟨d,.sindex x i,none⟩,wl,wh⟩::ds) e σ next hist reads K⟩) (B:=⟨wpD T ds (Env.put e d (.tuple [])) σ next hist reads K⟩) (Env.get e t) want:=by
 simp only [wpD,bG,AOp.allocs,AOp.acts,true_and,if_true,Bool.false_eq_true,if_false]
theorem NB (sh:EqTy) (ok:Bool) (z:AV) (m k:AOpd) (t:Nat) (want:Bool) (d:Option Nat) (wl wh:Nat) (ds:List ADOper) (e:Env) (σ:St) (next:Nat) (hist:List St) (reads:List ARead) (K:Env→St→Prop):wpD T (⟨⟨d,.lookup sh ok z m k,some (t,want)⟩,wl,wh⟩::ds) e σ next hist reads K =
  bG (A:=⟨wpD T (⟨⟨d,.lookup sh ok z m k,none⟩,wl,wh⟩::ds) e σ next hist reads K⟩) (B:=⟨wpD T ds (Env.put e d (.tuple [])) σ next hist reads K⟩) (Env.get e t) want:=by
 simp only [wpD,bG,AOp.allocs,AOp.acts,true_and,if_true,Bool.false_eq_true,if_false]
theorem M4 (sh:EqTy) (m k v:AOpd) (t:Nat) (want:Bool) (d:Option Nat) (wl wh:Nat) (ds:List ADOper) (e:Env) (σ:St) (next:Nat) (hist:List St) (reads:List ARead) (K:Env→St→Prop):wpD T (⟨⟨d,.mapset sh m k v,some (t,want)⟩,wl,wh⟩::ds) e σ next hist reads K =
  bG (A:=⟨wpD T (⟨⟨d,.mapset sh m k v,none⟩,wl,wh⟩::ds) e σ next hist reads K⟩) (B:=⟨wpD T ds (Env.put e d (.tuple [])) σ next (hist++[σ]) reads K⟩) (Env.get e t) want:=by
 simp only [wpD,bG,AOp.allocs,AOp.acts,true_and,if_true,Bool.false_eq_true,if_false]
theorem aAU (x:AOpd) (i:Nat) (t:Nat) (want:Bool) (d:Option Nat) (wl wh:Nat) (ds:List ADOper) (e:Env) (σ:St) (next:Nat) (hist:List St) (reads:List ARead) (K:Env→St→Prop):wpD T (⟨⟨d,.ext x i,some (t,want)⟩,wl,wh⟩::ds) e σ next hist reads K =
  bG (A:=⟨wpD T (⟨⟨d,.ext x i,none⟩,wl,wh⟩::ds) e σ next hist reads K⟩) (B:=⟨wpD T ds (Env.put e d (.tuple [])) σ next hist reads K⟩) (Env.get e t) want:=by
 simp only [wpD,bG,AOp.allocs,AOp.acts,true_and,if_true,Bool.false_eq_true,if_false]
theorem aCE (k:Nat) (x:AOpd) (t:Nat) (want:Bool) (d:Option Nat) (wl wh:Nat) (ds:List ADOper) (e:Env) (σ:St) (next:Nat) (hist:List St) (reads:List ARead) (K:Env→St→Prop):wpD T (⟨⟨d,.len k x,some (t,want)⟩,wl,wh⟩::ds) e σ next hist reads K =
  bG (A:=⟨wpD T (⟨⟨d,.len k x,none⟩,wl,wh⟩::ds) e σ next hist reads K⟩) (B:=⟨wpD T ds (Env.put e d (.tuple [])) σ next hist reads K⟩) (Env.get e t) want:=by
 simp only [wpD,bG,AOp.allocs,AOp.acts,true_and,if_true,Bool.false_eq_true,if_false]
theorem PN (n b:Nat) (x y:AOpd) (t:Nat) (want:Bool) (d:Option Nat) (wl wh:Nat) (ds:List ADOper) (e:Env) (σ:St) (next:Nat) (hist:List St) (reads:List ARead) (K:Env→St→Prop):wpD T (⟨⟨d,.append n b x y,some (t,want)⟩,wl,wh⟩::ds) e σ next hist reads K =
  bG (A:=⟨wpD T (⟨⟨d,.append n b x y,none⟩,wl,wh⟩::ds) e σ next hist reads K⟩) (B:=⟨wpD T ds (Env.put e d (.tuple [])) σ next (hist++[σ]) reads K⟩) (Env.get e t) want:=by
 simp only [wpD,bG,AOp.allocs,AOp.acts,true_and,if_true,Bool.false_eq_true,if_false]
theorem TY (n b:Nat) (x y:AOpd) (t:Nat) (want:Bool) (d:Option Nat) (wl wh:Nat) (ds:List ADOper) (e:Env) (σ:St) (next:Nat) (hist:List St) (reads:List ARead) (K:Env→St→Prop):wpD T (⟨⟨d,.apref n b x y,some (t,want)⟩,wl,wh⟩::ds) e σ next hist reads K =
  bG (A:=⟨wpD T (⟨⟨d,.apref n b x y,none⟩,wl,wh⟩::ds) e σ next hist reads K⟩) (B:=⟨wpD T ds (Env.put e d (.tuple [])) σ next (hist++[σ]) reads K⟩) (Env.get e t) want:=by
 simp only [wpD,bG,AOp.allocs,AOp.acts,true_and,if_true,Bool.false_eq_true,if_false]
theorem XN (n:Nat) (x y:AOpd) (t:Nat) (want:Bool) (d:Option Nat) (wl wh:Nat) (ds:List ADOper) (e:Env) (σ:St) (next:Nat) (hist:List St) (reads:List ARead) (K:Env→St→Prop):wpD T (⟨⟨d,.copy n x y,some (t,want)⟩,wl,wh⟩::ds) e σ next hist reads K =
  bG (A:=⟨wpD T (⟨⟨d,.copy n x y,none⟩,wl,wh⟩::ds) e σ next hist reads K⟩) (B:=⟨wpD T ds (Env.put e d (.tuple [])) σ next (hist++[σ]) reads K⟩) (Env.get e t) want:=by
 simp only [wpD,bG,AOp.allocs,AOp.acts,true_and,if_true,Bool.false_eq_true,if_false]
theorem aCM (xs:List AOpd) (t:Nat) (want:Bool) (d:Option Nat) (wl wh:Nat) (ds:List ADOper) (e:Env) (σ:St) (next:Nat) (hist:List St) (reads:List ARead) (K:Env→St→Prop):wpD T (⟨⟨d,.min xs,some (t,want)⟩,wl,wh⟩::ds) e σ next hist reads K =
  bG (A:=⟨wpD T (⟨⟨d,.min xs,none⟩,wl,wh⟩::ds) e σ next hist reads K⟩) (B:=⟨wpD T ds (Env.put e d (.tuple [])) σ next hist reads K⟩) (Env.get e t) want:=by
 simp only [wpD,bG,AOp.allocs,AOp.acts,true_and,if_true,Bool.false_eq_true,if_false]
theorem aCJ (xs:List AOpd) (t:Nat) (want:Bool) (d:Option Nat) (wl wh:Nat) (ds:List ADOper) (e:Env) (σ:St) (next:Nat) (hist:List St) (reads:List ARead) (K:Env→St→Prop):wpD T (⟨⟨d,.max xs,some (t,want)⟩,wl,wh⟩::ds) e σ next hist reads K =
  bG (A:=⟨wpD T (⟨⟨d,.max xs,none⟩,wl,wh⟩::ds) e σ next hist reads K⟩) (B:=⟨wpD T ds (Env.put e d (.tuple [])) σ next hist reads K⟩) (Env.get e t) want:=by
 simp only [wpD,bG,AOp.allocs,AOp.acts,true_and,if_true,Bool.false_eq_true,if_false]
theorem PG (x:AOpd) (t:Nat) (want:Bool) (d:Option Nat) (wl wh:Nat) (ds:List ADOper) (e:Env) (σ:St) (next:Nat) (hist:List St) (reads:List ARead) (K:Env→St→Prop):wpD T (⟨⟨d,.srange x,some (t,want)⟩,wl,wh⟩::ds) e σ next hist reads K =
  bG (A:=⟨wpD T (⟨⟨d,.srange x,none⟩,wl,wh⟩::ds) e σ next hist reads K⟩) (B:=⟨wpD T ds (Env.put e d (.tuple [])) σ next (hist++[σ]) reads K⟩) (Env.get e t) want:=by
 simp only [wpD,bG,AOp.allocs,AOp.acts,true_and,if_true,Bool.false_eq_true,if_false]
theorem UN (x:AOpd) (t:Nat) (want:Bool) (d:Option Nat) (wl wh:Nat) (ds:List ADOper) (e:Env) (σ:St) (next:Nat) (hist:List St) (reads:List ARead) (K:Env→St→Prop):wpD T (⟨⟨d,.snext x,some (t,want)⟩,wl,wh⟩::ds) e σ next hist reads K =
  bG (A:=⟨wpD T (⟨⟨d,.snext x,none⟩,wl,wh⟩::ds) e σ next hist reads K⟩) (B:=⟨wpD T ds (Env.put e d (.tuple [])) σ next (hist++[σ]) reads K⟩) (Env.get e t) want:=by
 simp only [wpD,bG,AOp.allocs,AOp.acts,true_and,if_true,Bool.false_eq_true,if_false]
end Go.Am
namespace Go.Am
variable {T:FuncId→Option AFunc}
structure KeepS (σ σ':St) (lo:Nat):Prop where
 len:σ.length≤σ'.length
 low:∀ i,i<lo→i<σ.length→σ'[i]? = σ[i]?
 loops:∀ (i:Nat) (st:LS) (pe:Option AJump) (env:Env) (ps:List Nat) (a b:ACode),i<σ.length→σ'[i]? = some (.loop st pe env ps a b)→∃ st' pe',σ[i]? = some (.loop st' pe' env ps a b)
theorem KeepS.refl (σ:St) (lo:Nat):KeepS σ σ lo:=⟨Nat.le_refl _,fun _ _ _=>rfl,fun i st pe env ps a b _ h=>⟨st,pe,h⟩⟩
theorem KeepS.weak {σ σ':St} {lo l:Nat} (h:KeepS σ σ' lo) (hl:l≤lo):KeepS σ σ' l:=⟨h.len,fun i hi=>h.low i (by omega),h.loops⟩
theorem KeepS.trans {σ σ1 σ2:St} {l1 l2:Nat} (h:KeepS σ σ1 l1) (k:KeepS σ1 σ2 l2):KeepS σ σ2 (Nat.min l1 l2) where
 len:=Nat.le_trans h.len k.len
 low i hi hlt:=by
  have h1:i<l1:=Nat.lt_of_lt_of_le hi (Nat.min_le_left _ _)
  have h2:i<l2:=Nat.lt_of_lt_of_le hi (Nat.min_le_right _ _)
  rw [k.low i h2 (Nat.lt_of_lt_of_le hlt h.len),h.low i h1 hlt]
 loops i st pe env ps a b hlt e:=by
  obtain ⟨st1,pe1,e1⟩:=k.loops i st pe env ps a b (Nat.lt_of_lt_of_le hlt h.len) e
  exact h.loops i st1 pe1 env ps a b hlt e1
theorem KeepS.app (σ:St) (τ:St) (lo:Nat):KeepS σ (σ++τ) lo :=
 ⟨by simp,fun i _ hi=>List.getElem?_append_left hi,fun i st pe env ps a b hi e=>⟨st,pe,by rw [←List.getElem?_append_left (l₂:=τ) hi];exact e⟩⟩
theorem KeepS.set {σ:St} {i:Nat} {x:ABlk} (hx:∀ st pe env ps a b,x≠.loop st pe env ps a b):KeepS σ (σ.set i x) i where
 len:=by simp
 low j hj _:=List.getElem?_set_ne (by omega)
 loops j st pe env ps a b hj e:=by
  by_cases h:i=j
  ·subst h
   rw [List.getElem?_set_self hj] at e
   cases e
   exact absurd rfl (hx _ _ _ _ _ _)
  ·rw [List.getElem?_set_ne h] at e
   exact ⟨st,pe,e⟩
end Go.Am
namespace Go.Am
variable {T:FuncId→Option AFunc}
theorem KeepS.step {σ σ1 σ2:St} {l lo lo':Nat} (h:KeepS σ σ1 l) (k:lo'≤Nat.min lo l∧KeepS σ1 σ2 lo'):lo'≤lo∧KeepS σ σ2 lo':=by
 have h1:lo'≤l:=Nat.le_trans k.1 (Nat.min_le_right _ _)
 refine ⟨Nat.le_trans k.1 (Nat.min_le_left _ _),(h.trans k.2).weak ?_⟩
 exact Nat.le_min.2 ⟨h1,Nat.le_refl _⟩
end Go.Am
namespace Go.Am
variable {T:FuncId→Option AFunc}
theorem YO (e:Env):evs e []=[]:=by simp only [evs]
theorem YI (e:Env) (x:AOpd) (xs:List AOpd):evs e (x::xs)=x.ev e::evs e xs:=by simp only [evs]
theorem XM (e:Env):ovs e none=none:=by simp only [ovs]
theorem XF (e:Env) (x:AOpd):ovs e (some x)=some (x.ev e):=by simp only [ovs]
theorem UW {α β:Type} (f:α→β) (a:α):Option.map f (some a)=some (f a):=by simp
theorem OW {α β:Type} (f:α→Option β) (a:α):(some a).bind f=f a:=by simp
theorem WZ (i o:Nat):FA (.ptr i o)=some (.ptr i o):=by simp only [FA]
theorem XG (xs:List AV) (i o:Nat) (t:Option Nat):FA (.lptr xs i o t)=some (.lptr xs i o t):=by simp only [FA]
theorem WV (f:FuncId) (a b:List AV):FA (.func f a b)=some (.func f a b):=by simp only [FA]
theorem R1 (o:Nat) (sh:Option Nat) (cs:List AV):CN o sh (.agg cs)=fB sh cs o:=by simp only [CN]
theorem X3 (k k':IntKind) (n:Int):I1 k (.int k' n)=some (.int k (k.wrap n)):=by simp only [I1]
theorem aAW (k:IntKind) (n:Int):TV (.int k n)=some (.int k (k.wrap (0-n))):=by simp only [TV]
theorem S0 (x y:AV):CA (.bool true) x y=some x:=by simp only [CA]
theorem UH (x y:AV):CA (.bool false) x y=some y:=by simp only [CA]
theorem aB1 (s:ByteArray):UG (.str s)=some s:=by simp only [UG]
theorem VF (k:IntKind) (a b:Int):fV .i (.int k a) (.int k b)=some (a==b):=by simp [fV]
theorem aBE (a b:Bool):fV .b (.bool a) (.bool b)=some (a==b):=by simp [fV]
theorem aBS (a b:ByteArray):fV .s (.str a) (.str b)=some (a.toList==b.toList):=by simp [fV]
def T3:Option Bool→Option Bool→Option Bool
 |some p,some q=>some (p&&q)
 |_,_=>none
theorem N3 (p q:Bool):T3 (some p) (some q)=some (p&&q):=by simp only [T3]
theorem Z4:a9 [] [] []=some true:=by simp [a9]
theorem QI (k:SK) (ks:List SK) (a b:AV) (x y:List AV):a9 (k::ks) (a::x) (b::y)=T3 (fV k a b) (a9 ks x y):=by
 simp only [a9,T3];cases fV k a b<;>cases a9 ks x y<;>rfl
theorem aDE (k:SK) (x y:AV):AF (.one k) false x y=(fV k x y).map .bool:=by
 simp only [AF,iU];cases fV k x y<;>simp
theorem aBL (k:SK) (x y:AV):AF (.one k) true x y=(fV k x y).map fun b=>.bool !b:=by
 simp only [AF,iU];cases fV k x y<;>simp
theorem aBP (ks:List SK) (x y:List AV):AF (.agg ks) false (.agg x) (.agg y)=(a9 ks x y).map .bool:=by
 simp only [AF,iU];cases a9 ks x y<;>simp
theorem aB3 (ks:List SK) (x y:List AV):AF (.agg ks) true (.agg x) (.agg y)=(a9 ks x y).map fun b=>.bool !b:=by
 simp only [AF,iU];cases a9 ks x y<;>simp
theorem aBM (k:IntKind) (a b:Int):fD .add (.int k a) (.int k b)=some (.int k (k.wrap (a+b))):=by simp [fD,kC]
theorem aAV (k:IntKind) (a b:Int):fD .sub (.int k a) (.int k b)=some (.int k (k.wrap (a-b))):=by simp [fD,kC]
theorem aAJ (k:IntKind) (a b:Int):fD .mul (.int k a) (.int k b)=some (.int k (k.wrap (a*b))):=by simp [fD,kC]
theorem U1 (k:IntKind) (a b:Int) (h:b≠0):fD .rem (.int k a) (.int k b)=some (.int k (a.tmod b)):=by simp [fD,kC,h]
theorem aC4 (k:IntKind) (a b:Int):fD .lss (.int k a) (.int k b)=some (.bool (decide (a<b))):=by simp [fD,kC]
theorem aDI (k:IntKind) (a b:Int):fD .leq (.int k a) (.int k b)=some (.bool (decide (a≤b))):=by simp [fD,kC]
theorem aCS (k:IntKind) (a b:Int):fD .gtr (.int k a) (.int k b)=some (.bool (decide (b<a))):=by simp [fD,kC]
theorem aA7 (k:IntKind) (a b:Int):fD .geq (.int k a) (.int k b)=some (.bool (decide (b≤a))):=by simp [fD,kC]
theorem dZ {x:Int} (h:-9223372036854775808≤x∧x≤9223372036854775807):IntKind.i64.wrap x=x:=by
 simp only [IntKind.wrap,IntKind.signed,IntKind.bits]
 first
  |(rw [Int.bmod_eq_of_le]<;>omega)
  |(simp;omega)
theorem aAZ (σ:St) (xs:List AV) (f:Bool) (t:Option Nat):iK 1 σ (.lit xs f t)=some xs.length:=by simp only [iK]
theorem ZO (σ:St) (s:ByteArray):iK 0 σ (.str s)=some s.size:=by simp only [iK]
theorem ZA (σ:St) (id off len sz:Nat):iK 1 σ (.ref id off len sz)=some len:=by simp only [iK]
theorem aAK (sh:Option Nat) (σ:St) (id off:Nat):jO sh σ (.ptr id off)=(aG σ id).bind fun cs=>fB sh cs off:=by
 simp only [jO];cases aG σ id<;>simp
theorem ZF (sh:Option Nat) (σ:St) (xs:List AV) (i off:Nat) (t:Option Nat):jO sh σ (.lptr xs i off t)=(xs[i]?).bind fun x=>fB sh x.cells off:=by
 simp only [jO];cases xs[i]?<;>simp
theorem MR (b:List AV) (τ:St):aG (.cells b::τ) 0=some b:=by simp [aG]
theorem pG (b:ABlk) (τ:St) (k:Nat):aG (b::τ) (k+1)=aG τ k:=by simp [aG]
theorem qQ (σ τ:St) (k:Nat):aG (σ++τ) (σ.length+k)=aG τ k:=by simp only [aG,qG]
theorem iH (σ τ:St):aG (σ++τ) σ.length=aG τ 0:=qQ σ τ 0
theorem aBR (cs:List AV) (off:Nat):fB none cs off=cs[off]?:=by simp [fB]
theorem aBH (n:Nat) (cs:List AV) (off:Nat):fB (some n) cs off=if off+n≤cs.length then some (.agg ((cs.drop off).take n)) else none:=by simp [fB]
theorem Q4 (n:Nat) (σ:St) (id off:Nat) (v:AV):mT n σ (.ptr id off) v=(oI n v).bind fun us=>(aG σ id).bind fun cs=>(fN cs off us).map fun cs'=>σ.set id (.cells cs'):=by
 simp only [mT,oI]
 split
 ·simp only [Option.bind_some]
  cases aG σ id with
  |none=>simp
  |some cs=>simp only [Option.bind_some];cases fN cs off v.cells<;>simp
 ·simp
theorem aB7 (cs us:List AV) (off:Nat):fN cs off us=if off+us.length≤cs.length then some (cs.take off++us++cs.drop (off+us.length)) else none:=by simp only [fN]
def cC (n:Nat) (v:AV):Bool:=v.cells.length==n&&v.cells.all (·.cell)
theorem SV (n:Nat) (v:AV):oI n v=if cC n v=true then some v.cells else none:=by unfold oI cC;rfl
theorem NV (k:IntKind) (n:Int):cC 1 (.int k n)=true:=by simp [cC,AV.cells,AV.cell]
theorem ZU (b:Bool):cC 1 (.bool b)=true:=by simp [cC,AV.cells,AV.cell]
theorem U2 (b:ByteArray):cC 1 (.str b)=true:=by simp [cC,AV.cells,AV.cell]
theorem V9 (xs:List AV) (f:Bool) (t:Option Nat):cC 1 (.lit xs f t)=true:=by simp [cC,AV.cells,AV.cell]
theorem aAG (a b c d:Nat):cC 1 (.ref a b c d)=true:=by simp [cC,AV.cells,AV.cell]
theorem aAO (a b:Nat):cC 1 (.ptr a b)=true:=by simp [cC,AV.cells,AV.cell]
theorem X2 (f:FuncId) (a b:List AV):cC 1 (.func f a b)=true:=by simp [cC,AV.cells,AV.cell]
theorem aBN (i:Nat):cC 1 (.map i)=true:=by simp [cC,AV.cells,AV.cell]
theorem M0:cC 1 .nilPtr=true:=by simp [cC,AV.cells,AV.cell]
theorem KP:cC 1 .nilFunc=true:=by simp [cC,AV.cells,AV.cell]
def bK:List AV→Bool
 |[]=>true
 |v::vs=>v.cell&&bK vs
theorem aDD (n:Nat) (cs:List AV):cC n (.agg cs)=(cs.length==n&&bK cs):=by
 simp only [cC,AV.cells]
 congr 1
 induction cs with
 |nil=>rfl
 |cons c cs ih=>simp only [List.all_cons,bK,ih]
theorem C_0:bK []=true:=by simp only [bK]
theorem Z3 (k:IntKind) (n:Int) (cs:List AV):bK (.int k n::cs)=bK cs:=by simp [bK,AV.cell]
theorem RD (b:Bool) (cs:List AV):bK (.bool b::cs)=bK cs:=by simp [bK,AV.cell]
theorem YS (b:ByteArray) (cs:List AV):bK (.str b::cs)=bK cs:=by simp [bK,AV.cell]
theorem WR (xs:List AV) (f:Bool) (t:Option Nat) (cs:List AV):bK (.lit xs f t::cs)=bK cs:=by simp [bK,AV.cell]
theorem ZT (a b c d:Nat) (cs:List AV):bK (.ref a b c d::cs)=bK cs:=by simp [bK,AV.cell]
theorem XZ (a b:Nat) (cs:List AV):bK (.ptr a b::cs)=bK cs:=by simp [bK,AV.cell]
theorem SH (f:FuncId) (a b:List AV) (cs:List AV):bK (.func f a b::cs)=bK cs:=by simp [bK,AV.cell]
theorem XA (i:Nat) (cs:List AV):bK (.map i::cs)=bK cs:=by simp [bK,AV.cell]
theorem LI  (cs:List AV):bK (.nilPtr::cs)=bK cs:=by simp [bK,AV.cell]
theorem GV  (cs:List AV):bK (.nilFunc::cs)=bK cs:=by simp [bK,AV.cell]
theorem ZB {α:Type} (enc:α→AV) (l:List α) (h:∀ x,(enc x).cell=true):bK (l.map enc)=true:=by
 induction l with
 |nil=>rfl
 |cons x l ih=>simp [bK,h,ih]
theorem aBY (k:IntKind) (n:Int):(AV.int k n).cells=[.int k n]:=by simp [AV.cells]
theorem Y9 (b:Bool):(AV.bool b).cells=[.bool b]:=by simp [AV.cells]
theorem aAF (b:ByteArray):(AV.str b).cells=[.str b]:=by simp [AV.cells]
theorem aCW (xs:List AV) (f:Bool) (t:Option Nat):(AV.lit xs f t).cells=[.lit xs f t]:=by simp [AV.cells]
theorem aB0 (a b c d:Nat):(AV.ref a b c d).cells=[.ref a b c d]:=by simp [AV.cells]
theorem aCT (a b:Nat):(AV.ptr a b).cells=[.ptr a b]:=by simp [AV.cells]
theorem ZP (f:FuncId) (a b:List AV):(AV.func f a b).cells=[.func f a b]:=by simp [AV.cells]
theorem aBB (i:Nat):(AV.map i).cells=[.map i]:=by simp [AV.cells]
theorem aB2 (cs:List AV):(AV.agg cs).cells=cs:=by simp [AV.cells]
theorem P8:AV.nilPtr.cells=[.nilPtr]:=by simp [AV.cells]
theorem MB:AV.nilFunc.cells=[.nilFunc]:=by simp [AV.cells]
theorem aAE (e:Env) (cs:List AV):bV e cs []=some cs:=by simp only [bV]
theorem aBV (e:Env) (cs:List AV) (off n:Nat) (x:AOpd) (rest:List (Nat×Nat×AOpd)) :
  bV e cs ((off,n,x)::rest)=((oI n (x.ev e)).bind fun us=>fN cs off us).bind fun cs=>bV e cs rest:=Z9 e cs off n x rest
theorem OH (n:Nat):aM n []=true:=by simp [aM]
theorem NE (n:Nat) (x:AV) (xs:List AV):aM n (x::xs)=(cC n x&&aM n xs):=by simp [aM,cC]
theorem vN {α:Type} (n:Nat) (enc:α→AV) (l:List α) (h:∀ x,cC n (enc x)=true):aM n (l.map enc)=true:=by
 induction l with
 |nil=>exact OH n
 |cons x l ih=>rw [List.map_cons,NE,h,ih];rfl
theorem aBX (n:Nat) (xs:List AV):LK n xs=if aM n xs=true then some (.lit xs true none) else none:=by simp only [LK]
def DW (sz:Nat) (xs:List AV) (j:Int) (t:Option Nat):Option AV:=(xs[j.toNat]?).bind fun y=>if 0≤j∧y.cells.length=sz then some (.lptr xs j.toNat 0 t) else none
theorem aAI (sz:Nat) (xs:List AV) (f:Bool) (t:Option Nat) (k:IntKind) (j:Int):nH none sz (.lit xs f t) (.int k j)=DW sz xs j t:=by
 simp only [nH,fC,DW];cases xs[j.toNat]?<;>simp
theorem aCX (n sz id off:Nat) (k:IntKind) (j:Int):nH (some n) sz (.ptr id off) (.int k j)=if 0≤j∧j<n then some (.ptr id (off+j.toNat*sz)) else none:=by simp only [nH,fC]
theorem XV (n sz q off:Nat) (xs:List AV) (t:Option Nat) (k:IntKind) (j:Int):nH (some n) sz (.lptr xs q off t) (.int k j)=if 0≤j∧j<n then some (.lptr xs q (off+j.toNat*sz) t) else none:=by simp only [nH,fC]
theorem aCC (sz id off len sz':Nat) (k:IntKind) (j:Int):nH none sz (.ref id off len sz') (.int k j)=if 0≤j∧j<len∧sz'=sz then some (.ptr id (off+j.toNat*sz)) else none:=by simp only [nH,fC]
def WK (sz b:Nat) (xs ys:List AV):Prop:=aM sz xs=true∧aM sz ys=true∧(xs.length+ys.length)*b≤room∧xs.length+ys.length≤room
theorem DB {sz b:Nat} {σ:St} {xs ys:List AV} {t:Nat} {tk:Option Nat} {f ex:Bool} (h:WK sz b xs ys) (h0:ys.length≠0) (ht:σ[t]? = some (.tok sz xs.length ex)) :
  gO sz b σ (.lit xs false (some t)) (.lit ys f tk)=some (.lit (xs++ys) false (some t),σ.set t (.tok sz (xs.length+ys.length) true)):=by
 obtain ⟨h1,h2,h3,h4⟩:=h
 simp [gO,jH,wL,h0,h1,h2,h3,h4,ht]
def bS (σ:St) (m d:Nat) (v:AV):Option AV:=(snap σ m d v).map clr
def cN (σ:St) (m d:Nat) (vs:List AV):Option (List AV):=(snaps σ m d vs).map clrs
theorem M8 (σ:St) (m d:Nat) (k:IntKind) (n:Int):bS σ m d (.int k n)=some (.int k n):=by simp [bS,snap,clr]
theorem CJ (σ:St) (m d:Nat) (b:Bool):bS σ m d (.bool b)=some (.bool b):=by simp [bS,snap,clr]
theorem OR (σ:St) (m d:Nat) (b:ByteArray):bS σ m d (.str b)=some (.str b):=by simp [bS,snap,clr]
theorem PD (σ:St) (m d:Nat):bS σ m d .nilPtr=some .nilPtr:=by simp [bS,snap,clr]
theorem L7 (σ:St) (m d:Nat):bS σ m d .nilFunc=some .nilFunc:=by simp [bS,snap,clr]
theorem VB (σ:St) (m d id off:Nat):bS σ m d (.ptr id off)=if id<m then some (.ptr id off) else none:=by
 simp only [bS,snap];split<;>simp [clr]
theorem aA6 (σ:St) (m d id:Nat):bS σ m d (.map id)=if id<m then some (.map id) else none:=by
 simp only [bS,snap];split<;>simp [clr]
theorem JA (σ:St) (m d:Nat):cN σ m d []=some []:=by simp [cN,snaps,clrs]
theorem xS (σ:St) (m d:Nat) (v:AV) (vs:List AV):cN σ m d (v::vs)=(bS σ m d v).bind fun a=>(cN σ m d vs).map (a::·):=by
 simp only [cN,bS,snaps];cases snap σ m d v<;>cases snaps σ m d vs<;>simp [clrs]
theorem SG (σ:St) (m d:Nat) (vs:List AV):bS σ m d (.tuple vs)=(cN σ m d vs).map .tuple:=by
 simp only [cN,bS,snap];cases snaps σ m d vs<;>simp [clr]
theorem ON (σ:St) (m d:Nat) (vs:List AV):bS σ m d (.agg vs)=(cN σ m d vs).map .agg:=by
 simp only [cN,bS,snap];cases snaps σ m d vs<;>simp [clr]
theorem HC (σ:St) (m d:Nat) (vs:List AV) (f:Bool):bS σ m d (.lit vs f none)=(cN σ m d vs).map fun ys=>.lit ys false none:=by
 simp only [cN,bS,snap];cases snaps σ m d vs<;>simp [clr]
theorem WS (σ:St) (m d t:Nat) (vs:List AV) (f:Bool):bS σ m d (.lit vs f (some t))=(cN σ m d vs).map fun ys=>if t<m then .lit ys f (some t) else .lit ys false none:=by
 simp only [cN,bS,snap];cases snaps σ m d vs<;>by_cases h:t<m<;>simp [clr,h,Option.filter]
theorem DE (σ:St) (m d:Nat) (f:FuncId) (a b:List AV):bS σ m d (.func f a b)=(cN σ m d a).bind fun x=>(cN σ m d b).map fun y=>.func f x y:=by
 simp only [cN,bS,snap];cases snaps σ m d a<;>cases snaps σ m d b<;>simp [clr]
theorem IY (σ:St) (m d id off len sz:Nat):bS σ m (d+1) (.ref id off len sz) =
  if id<m then some (.ref id off len sz) else (jH σ (.ref id off len sz)).bind fun xs=>if (decide (0<sz)&&aM sz xs)=true then (cN σ m d xs).map fun ys=>.lit ys false none else none:=by
 simp only [bS,snap]
 split
 ·simp [clr]
 ·cases jH σ (.ref id off len sz) with
  |none=>simp
  |some xs =>
   simp only [Option.bind_some]
   split
   ·simp only [cN];cases snaps σ m d xs<;>simp [clr]
   ·simp
def kQ (v:AV):Prop:=okV 0 v∧clr v=v
def mI (vs:List AV):Prop:=okVs 0 vs∧clrs vs=vs
mutual
theorem snap_ok0 (σ:St) (m d:Nat):∀ (v:AV),okV 0 v→snap σ m d v=some v
 |.func f first cap,h=>by simp only [okV] at h;simp only [snap,snaps_ok0 σ m d first h.1,snaps_ok0 σ m d cap h.2]
 |.yield _,h|.ptr _ _,h|.ref _ _ _ _,h|.map _,h=>by simp [okV] at h
 |.lptr xs i o tk,h=>by
  simp only [okV] at h
  cases tk with
  |none=>simp [snap,snaps_ok0 σ m d xs h.2]
  |some t=>exact absurd (h.1 t rfl) (by omega)
 |.lit xs f tk,h=>by
  simp only [okV] at h
  cases tk with
  |none=>simp [snap,snaps_ok0 σ m d xs h.2]
  |some t=>exact absurd (h.1 t rfl) (by omega)
 |.agg cs,h=>by simp only [okV] at h;simp [snap,snaps_ok0 σ m d cs h]
 |.tuple cs,h=>by simp only [okV] at h;simp [snap,snaps_ok0 σ m d cs h]
 |.undef,_|.int _ _,_|.bool _,_|.str _,_|.nilFunc,_|.nilPtr,_|.nilMap,_=>by simp [snap]
theorem snaps_ok0 (σ:St) (m d:Nat):∀ (vs:List AV),okVs 0 vs→snaps σ m d vs=some vs
 |[],_=>by simp [snaps]
 |v::vs,h=>by simp only [okVs] at h;simp [snaps,snap_ok0 σ m d v h.1,snaps_ok0 σ m d vs h.2]
end
theorem WP {v:AV} (h:kQ v) (σ:St) (m d:Nat):bS σ m d v=some v:=by simp [bS,snap_ok0 σ m d v h.1,h.2]
theorem m4 {vs:List AV} (h:mI vs) (σ:St) (m d:Nat):cN σ m d vs=some vs:=by simp [cN,snaps_ok0 σ m d vs h.1,h.2]
theorem c9 (k:IntKind) (n:Int):kQ (.int k n):=⟨trivial,rfl⟩
theorem BH (b:Bool):kQ (.bool b):=⟨trivial,rfl⟩
theorem tQ (b:ByteArray):kQ (.str b):=⟨trivial,rfl⟩
theorem fE:mI []:=⟨trivial,rfl⟩
theorem bI {v:AV} {vs:List AV} (h:kQ v) (hs:mI vs):mI (v::vs):=⟨⟨h.1,hs.1⟩,by simp [clrs,h.2,hs.2]⟩
theorem jW {vs:List AV} (h:mI vs):kQ (.agg vs):=⟨h.1,by simp [clr,h.2]⟩
theorem ID {vs:List AV} (h:mI vs):kQ (.tuple vs):=⟨h.1,by simp [clr,h.2]⟩
theorem EE {vs:List AV} (h:mI vs):kQ (.lit vs false none):=⟨⟨(fun t e=>by cases e),h.1⟩,by simp [clr,h.2]⟩
theorem dE {α:Type} {enc:α→AV} (h:∀ x,kQ (enc x)) (l:List α):mI (l.map enc):=by
 induction l with
 |nil=>exact fE
 |cons x l ih=>exact bI (h x) ih
theorem iD {α:Type} {enc:α→AV} (h:∀ x,kQ (enc x)) (l:List α):kQ (.lit (l.map enc) false none):=EE (dE h l)
def GU (o:Option AV) (σ:St) (v:AV):Prop:=∃ v0,o=some v0∧bS σ 0 20 v0=some v
@[congr] theorem ZX {o o':Option AV} {σ σ':St} {v:AV} (h:o=o') (h2:σ=σ'):GU o σ v=GU o' σ' v:=by rw [h,h2]
theorem ZC (v0:AV) (σ:St) (v:AV):GU (some v0) σ v=(bS σ 0 20 v0=some v):=by simp [GU]
def M2 (rs:List ARes) (v:AV):KJ:=fun j e σ=>(j=none∨j=some .ret)∧GU (f9 rs e σ) σ v
theorem W9 (rs:List ARes) (v:AV) (e:Env) (σ:St):M2 rs v none e σ=GU (f9 rs e σ) σ v:=by simp [M2]
theorem aBA (rs:List ARes) (v:AV) (e:Env) (σ:St):M2 rs v (some .ret) e σ=GU (f9 rs e σ) σ v:=by simp [M2]
theorem bA {f:FuncId} {args:List AV} {v:AV} {af:AFunc} (hf:T f=some af) (hn:args.length≤af.ntmps) (hk:mI args) (h:wp T af.body (fI 0 args) [] (M2 af.results v)):eC T f args v:=by
 intro σ
 refine .frame hk.1 (.inl rfl) (R:=fun o=>o.v=v∧o.σ=[]) (.call hf hn (gK h fun o ho=>ho) fun o ho=>?_) fun o ho=>⟨ho.2,ho.1,rfl⟩
 obtain ⟨h1,v0,h2,h3⟩:=ho
 refine ⟨h1,v0,h2,?_⟩
 unfold bS at h3
 cases hs:snap o.σ 0 20 v0 with
 |none=>rw [hs] at h3;cases h3
 |some v1 =>
  rw [hs] at h3
  simp at h3
  exact .inr ⟨20,v1,v,hs,.inr h3.symm,fun i hi=>absurd hi (by simp),by simp,rfl,by simp⟩
theorem JM {f:FuncId} {args args0:List AV} {v:AV} (h:eC T f args0 v) (ha:clrs args=args0) (hk:okVs 0 args) (σ:St):Run T (.call f args σ) fun o=>o.v=v∧o.σ=σ :=
 .frame hk (.inr ha.symm) (h []) fun o ho=>⟨ho.2,ho.1,rfl⟩
theorem DP {f:FuncId} {first cap args args0:List AV} {v:AV} {σ:St} {K:AV→St→Prop} (h:eC T f args0 v) (ha:clrs (first++args++cap)=args0) (hk:okVs 0 (first++args++cap)) (k:K v σ):cK (K:=⟨K⟩) T (.func f first cap) args σ :=
 .callf (.mono (JM h ha hk σ) fun o ho=>by rw [ho.1,ho.2];exact k)
theorem E0 {f:FuncId} {first cap args args0:List AV} {v:AV} {σ:St} {K:AV→St→Prop} (h:eC T f args0 v) (ha:clrs (first++args++cap)=args0) (hk:okVs 0 (first++args++cap)) (k:K v σ):cD (K:=⟨K⟩) T (.func f first cap) args σ :=
 ⟨v,σ,.callf (JM h ha hk σ),k⟩
theorem aF {f:FuncId} {args args0:List AV} {v:AV} {σ:St} {K:AV→St→Prop} (h:eC T f args0 v) (ha:args=args0) (hk:mI args0) (k:K v σ):cK (K:=⟨K⟩) T (.func f [] []) args σ:=by
 subst ha;exact DP h (by simpa using hk.2) (by simpa using hk.1) k
theorem aH {f:FuncId} {args args0:List AV} {v:AV} {σ:St} {K:AV→St→Prop} (h:eC T f args0 v) (ha:args=args0) (hk:mI args0) (k:K v σ):cD (K:=⟨K⟩) T (.func f [] []) args σ:=by
 subst ha;exact E0 h (by simpa using hk.2) (by simpa using hk.1) k
theorem E1 {f:FuncId} {args args0:List AV} {v:AV} {σ:St} (h:eC T f args0 v) (ha:cN σ 0 20 args=some args0) (hv:Scal v):Run T (.call f args σ) fun o=>o.v=v∧o.σ=σ:=by
 unfold cN at ha
 cases hs:snaps σ 0 20 args with
 |none=>rw [hs] at ha;cases ha
 |some as1 =>
  rw [hs] at ha
  simp at ha
  exact .frameS hs (.inr ha.symm) (h []) fun o ho=>⟨ho.2,by rw [ho.1];exact hv,ho.1,rfl⟩
theorem xF {f:FuncId} {first cap args args0:List AV} {v:AV} {σ:St} {K:AV→St→Prop} (h:eC T f args0 v) (ha:cN σ 0 20 (first++args++cap)=some args0) (hv:Scal v) (k:K v σ):cK (K:=⟨K⟩) T (.func f first cap) args σ :=
 .callf (.mono (E1 h ha hv) fun o ho=>by rw [ho.1,ho.2];exact k)
theorem CE {f:FuncId} {first cap args args0:List AV} {v:AV} {σ:St} {K:AV→St→Prop} (h:eC T f args0 v) (ha:cN σ 0 20 (first++args++cap)=some args0) (hv:Scal v) (k:K v σ):cD (K:=⟨K⟩) T (.func f first cap) args σ :=
 ⟨v,σ,.callf (E1 h ha hv),k⟩
def InK (rs:List ARes) (K:AV→St→Prop):KJ:=fun j e σ=>(j=none∨j=some .ret)∧∃ v,f9 rs e σ=some v∧K v σ
def InR (o:Option AV) (σ:St) (K:AV→St→Prop):Prop:=∃ v,o=some v∧K v σ
@[congr] theorem Z6 {o o':Option AV} {σ σ':St} {K:AV→St→Prop} (h:o=o') (h2:σ=σ'):InR o σ K=InR o' σ' K:=by rw [h,h2]
theorem XE (v:AV) (σ:St) (K:AV→St→Prop):InR (some v) σ K=K v σ:=by simp [InR]
theorem W3 (rs:List ARes) (K:AV→St→Prop) (e:Env) (σ:St):InK rs K none e σ=InR (f9 rs e σ) σ K:=by simp [InK,InR]
theorem aA1 (rs:List ARes) (K:AV→St→Prop) (e:Env) (σ:St):InK rs K (some .ret) e σ=InR (f9 rs e σ) σ K:=by simp [InK,InR]
theorem qK {f:FuncId} {first cap args:List AV} {af:AFunc} {σ:St} {K:AV→St→Prop} (hf:T f=some af) (hn:(first++args++cap).length≤af.ntmps) (h:wp T af.body (fI 0 (first++args++cap)) σ (InK af.results K)) :
  cK (K:=⟨K⟩) T (.func f first cap) args σ :=
 .callf (.call hf hn (gK h fun o ho=>ho) fun o ho=>⟨ho.1,ho.2.choose,ho.2.choose_spec.1,.inl ho.2.choose_spec.2⟩)
def EqE (σ:St) (m:Nat) (e:Env):Env→Prop
 |[]=>True
 |(t,v)::e'=>bS σ m 20 (Env.get e t)=some v∧EqE σ m e e'
theorem aDU (σ:St) (m:Nat) (e:Env):EqE σ m e []=True:=by simp only [EqE]
theorem aEC (σ:St) (m:Nat) (e:Env) (t:Nat) (v:AV) (e':Env):EqE σ m e ((t,v)::e')=(bS σ m 20 (Env.get e t)=some v∧EqE σ m e e'):=by simp only [EqE]
theorem FD {σ:St} {m:Nat} {e:Env}:∀ {e':Env},EqE σ m e e'→JI σ m e e'
 |[],_=>trivial
 |(t,v)::e',h=>by
  refine ⟨.inr ?_,FD h.2⟩
  have h1:=h.1
  unfold bS at h1
  cases hs:snap σ m 20 (Env.get e t) with
  |none=>rw [hs] at h1;cases h1
  |some v1=>rw [hs] at h1;simp at h1;exact ⟨20,v1,hs,.inr h1.symm⟩
def EqS (m:Nat):St→St→St→Prop
 |_,_,[]=>True
 |s::ss,b::bs,c::cs=>(c=b∧(b=s∨aN m b))∧EqS m ss bs cs
 |[],b::bs,c::cs=>(c=b∧aN m b)∧EqS m [] bs cs
 |_,[],_::_=>False
theorem aEI (m:Nat) (a b:St):EqS m a b []=True:=by cases a<;>cases b<;>simp only [EqS]
theorem aDK (m:Nat) (s b c:ABlk) (ss bs cs:St):EqS m (s::ss) (b::bs) (c::cs)=((c=b∧(b=s∨aN m b))∧EqS m ss bs cs):=by simp only [EqS]
theorem aEX (m:Nat) (b c:ABlk) (bs cs:St):EqS m [] (b::bs) (c::cs)=((c=b∧aN m b)∧EqS m [] bs cs):=by simp only [EqS]
theorem y4 {m:Nat}:∀ {σ σ' σ'':St},EqS m σ σ' σ''→∀ i c,σ''[i]? = some c→σ'[i]? = some c∧((i<σ.length∧σ'[i]? = σ[i]?)∨aN m c)
 |_,_,[],_,i,c,h=>by simp at h
 |s::ss,b::bs,x::cs,h,i,c,hc=>by
  obtain ⟨⟨h1,h2⟩,h3⟩:=h
  cases i with
  |zero =>
   simp at hc
   subst hc
   subst h1
   refine ⟨rfl,?_⟩
   rcases h2 with h2|h2
   ·left;simp [h2]
   ·right;exact h2
  |succ i =>
   obtain ⟨q1,q2⟩:=y4 h3 i c (by simpa using hc)
   refine ⟨by simpa using q1,?_⟩
   rcases q2 with ⟨q2,q3⟩|q2
   ·left;exact ⟨by simp;omega,by simpa using q3⟩
   ·right;exact q2
 |[],b::bs,x::cs,h,i,c,hc=>by
  obtain ⟨⟨h1,h2⟩,h3⟩:=h
  cases i with
  |zero =>
   simp at hc
   subst hc
   subst h1
   exact ⟨rfl,.inr h2⟩
  |succ i =>
   obtain ⟨q1,q2⟩:=y4 h3 i c (by simpa using hc)
   refine ⟨by simpa using q1,?_⟩
   rcases q2 with ⟨q2,q3⟩|q2
   ·simp at q2
   ·right;exact q2
def aD (σ:St) (e':Env) (σ':St) (e'':Env) (σ'':St):Prop:=σ.length≤σ''.length∧σ''.length≤σ'.length∧EqE σ' σ''.length e' e''∧EqS σ''.length σ σ' σ''
@[congr] theorem U0 {σ σ1:St} {e' e1:Env} {σ' σ1':St} {e'':Env} {σ'':St} (h1:σ=σ1) (h2:e'=e1) (h3:σ'=σ1'):aD σ e' σ' e'' σ''=aD σ1 e1 σ1' e'' σ'':=by rw [h1,h2,h3]
theorem FE {σ:St} {e':Env} {σ':St} {e'':Env} {σ'':St} (h:aD σ e' σ' e'' σ''):vI σ e' σ' e'' σ'':=by
 obtain ⟨h1,h2,h3,h4⟩:=h
 refine ⟨h1,h2,FD h3,fun i hi=>?_⟩
 obtain ⟨c,hc⟩:∃ c,σ''[i]? = some c:=⟨_,List.getElem?_eq_getElem hi⟩
 obtain ⟨q1,q2⟩:=y4 h4 i c hc
 refine ⟨c,hc,?_⟩
 rcases q2 with ⟨q2,q3⟩|q2
 ·left;exact ⟨q2,.inl q3,q1⟩
 ·right;left;exact ⟨q1,q2⟩
def wH {S:Type} (P:S→Prop) (μ:S→Nat) (IE:S→Env) (IS:S→St) (s:S) (K:KJ):KJ:=fun j e σ =>
 match j with
 |none=>∃ s',P s'∧μ s'<μ s∧aD (IS s) e σ (IE s') (IS s')
 |some j=>K (some j) e σ
theorem HT {S:Type} (P:S→Prop) (μ:S→Nat) (IE:S→Env) (IS:S→St) (s:S) (K:KJ) (e:Env) (σ:St):wH P μ IE IS s K none e σ = ∃ s',P s'∧μ s'<μ s∧aD (IS s) e σ (IE s') (IS s'):=by simp only [wH]
theorem PU {S:Type} (P:S→Prop) (μ:S→Nat) (IE:S→Env) (IS:S→St) (s:S) (K:KJ) (j:AJump) (e:Env) (σ:St):wH P μ IE IS s K (some j) e σ=K (some j) e σ:=by simp only [wH]
def EqW (e:Env):Env→Prop
 |[]=>True
 |(t,v)::e'=>(Env.get e t=v∨clr (Env.get e t)=v)∧EqW e e'
theorem aDV (e:Env):EqW e []=True:=by simp only [EqW]
theorem aEW (e:Env) (t:Nat) (v:AV) (e':Env):EqW e ((t,v)::e')=((Env.get e t=v∨clr (Env.get e t)=v)∧EqW e e'):=by simp only [EqW]
theorem zS {e:Env}:∀ {e':Env},EqW e e'→∀ t,Env.get e' t = .undef∨Env.get e' t=Env.get e t∨Env.get e' t=clr (Env.get e t)
 |[],_,t=>.inl rfl
 |(k,v)::e',h,t=>by
  by_cases hk:k=t
  ·subst hk
   right
   rcases h.1 with h|h
   ·left;simp [Env.get,h]
   ·right;simp [Env.get,h]
  ·simpa [Env.get,hk] using zS h.2 t
theorem aB9 {S:Type} (P:S→Prop) (μ:S→Nat) (IE:S→Env) (IS:S→St) {b:ACode} {K:KJ} (step:∀ s,P s→wp T b (IE s) (IS s) (wH P μ IE IS s K)):∀ n s,μ s=n→P s→HD T (.loop b) (IE s) (IS s) K:=by
 intro n
 induction n using Nat.strongRecOn with
 |_ n ih =>
  intro s hs hp
  have h1:Run T (.code b (IE s) (IS s)) fun o=>(o.j=none∧∃ s',P s'∧μ s'<μ s∧o.env=IE s'∧o.σ=IS s')∨(o.j≠none∧K o.j o.env o.σ):=by
   refine .trim2 (gK (step s hp) fun o ho=>ho) fun o ho=>?_
   cases hj:o.j with
   |none =>
    rw [hj,HT] at ho
    obtain ⟨s',h1,h2,h3⟩:=ho
    exact .inr ⟨_,_,FE h3,.inl ⟨rfl,s',h1,h2,rfl,rfl⟩⟩
   |some j =>
    rw [hj,PU] at ho
    exact .inl (.inr ⟨by simp,ho⟩)
  refine .loop h1 (fun o ho hj=>?_) fun o ho hj=>?_
  ·rcases ho with ⟨_,s',q1,q2,q3,q4⟩|⟨q1,_⟩
   ·rw [q3,q4];exact ih _ (by omega) s' rfl q1
   ·exact absurd hj q1
  ·rcases ho with ⟨q,_⟩|⟨_,q⟩
   ·exact absurd q hj
   ·exact q
theorem dJ {S:Type} (s0:S) (P:S→Prop) (μ:S→Nat) (IE:S→Env) (IS:S→St) {b:ACode} {e:Env} {σ:St} {K:KJ} (hP:P s0) (hσ:σ=IS s0) (hE:EqW e (IE s0))
  (step:∀ s,P s→wp T b (IE s) (IS s) (wH P μ IE IS s K)):rK (K:=⟨K⟩) T (.loop b) e σ:=by
 subst hσ
 exact .weak (zS hE) (aB9 P μ IE IS step _ s0 rfl hP)
theorem sO {c:ACode} {e:Env} {σ:St} {K:KJ} (t sz:Nat) (xs:List AV) (ht:Env.get e t = .lit xs true none) (h:rK (K:=⟨K⟩) T c ((t,.lit xs false (some σ.length))::e) (σ++[.tok sz xs.length false])):rK (K:=⟨K⟩) T c e σ :=
 .ghost t sz xs ht h
end Go.Am
namespace Go.Am
variable {T:FuncId→Option AFunc}
def wV (e:Env) (σ:St):ARes→Option AV
 |.tmp t=>some (Env.get e t)
 |.cell t sh=>jO sh σ (Env.get e t)
def mX (e:Env) (σ:St):List ARes→Option (List AV)
 |[]=>some []
 |r::rs=>(wV e σ r).bind fun v=>(mX e σ rs).map (v::·)
theorem t7 (e:Env) (σ:St):∀ rs,mJ e σ rs=mX e σ rs
 |[]=>rfl
 |.tmp t::rs=>by simp [mJ,mX,wV,t7 e σ rs]
 |.cell t sh::rs=>by
  simp only [mJ,mX,wV,t7 e σ rs]
  cases jO sh σ (Env.get e t)<;>cases mX e σ rs<;>simp
theorem XC (e:Env) (σ:St):f9 [] e σ=some (.tuple []):=by simp [f9,mJ]
theorem XW (r:ARes) (e:Env) (σ:St):f9 [r] e σ=wV e σ r:=by
 simp only [f9,t7,mX];cases wV e σ r<;>simp
theorem ZZ (r s:ARes) (rs:List ARes) (e:Env) (σ:St):f9 (r::s::rs) e σ=(mX e σ (r::s::rs)).map .tuple:=by
 simp only [f9,t7,mX];cases wV e σ r<;>cases wV e σ s<;>cases mX e σ rs<;>simp
theorem aC3 (e:Env) (σ:St):mX e σ []=some []:=by simp only [mX]
theorem aAP (r:ARes) (rs:List ARes) (e:Env) (σ:St):mX e σ (r::rs)=(wV e σ r).bind fun v=>(mX e σ rs).map (v::·):=by simp only [mX]
theorem aDQ (t:Nat) (e:Env) (σ:St):wV e σ (.tmp t)=some (Env.get e t):=by simp only [wV]
theorem aET (t:Nat) (sh:Option Nat) (e:Env) (σ:St):wV e σ (.cell t sh)=jO sh σ (Env.get e t):=by simp only [wV]
theorem aD9 (id:Nat) (K:KJ) (e:Env) (σ:St):jJ id K none e σ=K none e σ:=by simp only [jJ]
theorem aEK (id:Nat) (K:KJ) (e:Env) (σ:St):jJ id K (some .ret) e σ=K (some .ret) e σ:=by simp only [jJ]
theorem aCO (id:Nat) (K:KJ) (e:Env) (σ:St):jJ id K (some (.exit id)) e σ=K none e σ:=by simp [jJ]
theorem aC8 (id i:Nat) (K:KJ) (e:Env) (σ:St) (h:i≠id):jJ id K (some (.exit i)) e σ=K (some (.exit i)) e σ:=by simp [jJ,h]
theorem WX {α:Type} {sz:Nat} {enc:α→AV} {l:List α} {k:Nat} {t:Option Nat} (h:k<l.length) (hs:∀ x,(enc x).cells.length=sz):DW sz (l.map enc) (k:Int) t=some (.lptr (l.map enc) k 0 t):=by
 simp [DW,List.getElem?_map,h,hs]
theorem WT {α:Type} {enc:α→AV} {l:List α} {k:Nat} (h:k<l.length):(l.map enc)[k]? = some (enc l[k]):=by simp [List.getElem?_map,h]
theorem rd0 {ds:List ADOper} {e:Env} {σ:St} {K:KJ} (hz:dI ds=[]) (h:wpD T ds e σ σ.length [σ] [] fun e σ=>K none e σ):rK (K:=⟨K⟩) T (.dreg ds) e σ:=by
 refine JT ?_
 rw [hz,List.append_nil]
 exact h
theorem rE {ds:List ADOper} {e:Env} {σ:St} {K:KJ} (zs:St) (hz:dI ds=zs) (h:wpD T ds e (σ++zs) σ.length [σ++zs] [] fun e σ=>K none e σ):rK (K:=⟨K⟩) T (.dreg ds) e σ:=by
 subst hz
 exact JT h
theorem cM {k n:Nat} (h:k<n) (hn:n<9223372036854775808):IntKind.i64.wrap ((k:Int)+1)=((k+1:Nat):Int):=by rw [dZ ⟨by omega,by omega⟩];omega
def ints (l:List Int):AV:=.lit (l.map (.int .i64)) false none
theorem jA (l:List Int):kQ (ints l):=iD (c9 .i64) l
theorem oY (σ:St) (m d:Nat) (k:IntKind) (l:List Int):cN σ m d (l.map (.int k))=some (l.map (.int k)):=m4 (dE (c9 k) l) σ m d
theorem YW (σ:St) (m d:Nat) (l:List ByteArray):cN σ m d (l.map .str)=some (l.map .str):=m4 (dE tQ l) σ m d
theorem V8 (σ:St) (m d:Nat):∀ xs ys:List AV,cN σ m d (xs++ys)=(cN σ m d xs).bind fun a=>(cN σ m d ys).map (a++·)
 |[],ys=>by rw [JA];simp
 |x::xs,ys=>by
  rw [List.cons_append,xS,xS,V8 σ m d xs ys]
  cases bS σ m d x<;>simp
  cases cN σ m d xs<;>simp
  cases cN σ m d ys<;>simp
def dD (l:List (List Int)):AV:=.lit (l.map ints) false none
theorem sR (l:List (List Int)):kQ (dD l):=iD jA l
theorem ZY (σ:St) (m d:Nat) (l:List Int):bS σ m d (ints l)=some (ints l):=WP (jA l) σ m d
theorem PK (σ:St) (m d:Nat) (l:List (List Int)):cN σ m d (l.map ints)=some (l.map ints):=m4 (dE jA l) σ m d
theorem WU (k:IntKind) (a b:Int):wJ [.int k a,.int k b]=some (.int k (min a b)):=by
 simp only [wJ,rQ,if_true,Option.some.injEq,AV.int.injEq,true_and];split<;>omega
theorem YU (k:IntKind) (a b:Int):wO [.int k a,.int k b]=some (.int k (max a b)):=by
 simp only [wO,rO,if_true,Option.some.injEq,AV.int.injEq,true_and];split<;>omega
def dY (s:ByteArray) (k:Nat):Int:=(((s[k]?).getD 0).toNat:Int)
theorem BT (s:ByteArray) (k:Nat):0≤dY s k∧dY s k<256:=by
 have:=((s[k]?).getD 0).toNat_lt
 unfold dY
 omega
theorem YE {s:ByteArray} {k:Nat} (h:k<s.size):xD (.str s) (.int .i64 (k:Int))=some (.int .u8 (dY s k)):=by
 simp [xD,fC,dY,h]
structure Span where
 lo:Int
 hi:Int
 deriving DecidableEq
def o4 (s:Span):AV:=.agg [.int .i64 s.lo,.int .i64 s.hi]
theorem aQ (s:Span):o4 s = .agg [.int .i64 s.lo,.int .i64 s.hi]:=by simp only [o4]
theorem KR (s:Span):kQ (o4 s):=jW (bI (c9 _ _) (bI (c9 _ _) fE))
def HE (l:List ByteArray):AV:=.lit (l.map .str) false none
theorem MA (l:List ByteArray):kQ (HE l):=iD tQ l
end Go.Am
namespace Go.Am
variable {T:FuncId→Option AFunc}
def iG (T:FuncId→Option AFunc) (f:AV) (args:List AV) (σ:St) (v:AV):Prop:=Run T (.callv f args σ) fun o=>o.v=v∧o.σ=σ
def zJ (o:Option AV) (σ0 σ:St) (v:AV):Prop:=∃ v0 τ,o=some v0∧σ=σ0++τ∧bS σ σ0.length 20 v0=some v
@[congr] theorem VG {o o':Option AV} {σ0 σ σ':St} {v:AV} (h:o=o') (h2:σ=σ'):zJ o σ0 σ v=zJ o' σ0 σ' v:=by rw [h,h2]
def FX (rs:List ARes) (σ0:St) (v:AV):KJ:=fun j e σ=>(j=none∨j=some .ret)∧zJ (f9 rs e σ) σ0 σ v
theorem ZI (rs:List ARes) (σ0:St) (v:AV) (e:Env) (σ:St):FX rs σ0 v none e σ=zJ (f9 rs e σ) σ0 σ v:=by simp [FX]
theorem aC1 (rs:List ARes) (σ0:St) (v:AV) (e:Env) (σ:St):FX rs σ0 v (some .ret) e σ=zJ (f9 rs e σ) σ0 σ v:=by simp [FX]
theorem eH {v0:AV} {σ0 σ:St} {v:AV} (τ:St) (h1:σ=σ0++τ) (h2:bS σ σ0.length 20 v0=some v):zJ (some v0) σ0 σ v:=⟨v0,τ,rfl,h1,h2⟩
theorem dX {f:FuncId} {first cap args:List AV} {σ:St} {af:AFunc} {v:AV} (hf:T f=some af) (hn:(first++args++cap).length≤af.ntmps) (h:wp T af.body (fI 0 (first++args++cap)) σ (FX af.results σ v)):iG T (.func f first cap) args σ v:=by
 refine .callf (.call hf hn (gK h fun o ho=>ho) fun o ho=>?_)
 obtain ⟨h1,v0,τ,h2,h3,h4⟩:=ho
 refine ⟨h1,v0,h2,?_⟩
 unfold bS at h4
 cases hs:snap o.σ σ.length 20 v0 with
 |none=>rw [hs] at h4;cases h4
 |some v1 =>
  rw [hs] at h4
  simp at h4
  exact .inr ⟨20,v1,v,hs,.inr h4.symm,fun i hi=>.inl (by rw [h3];exact List.getElem?_append_left hi),by rw [h3];simp,rfl,by rw [h3];simp⟩
theorem bM {f:AV} {args:List AV} {v:AV} {σ:St} {K:AV→St→Prop} (h:iG T f args σ v) (k:K v σ):cK (K:=⟨K⟩) T f args σ:=.mono h fun o ho=>by rw [ho.1,ho.2];exact k
theorem y2 {f:AV} {args:List AV} {v:AV} {σ:St} {K:AV→St→Prop} (h:iG T f args σ v) (k:K v σ):cD (K:=⟨K⟩) T f args σ:=⟨v,σ,h,k⟩
def sI (σ:St) (v:AV):Prop:=∀ τ,bS (σ++τ) σ.length 20 v=some v
theorem sI.nil {σ:St} {v:AV} (h:sI σ v):bS σ σ.length 20 v=some v:=by simpa using h []
theorem XT (m:Nat):∀ (σ τ:St),EqS m σ (σ++τ) σ=True
 |[],τ=>by cases τ<;>simp [EqS]
 |b::σ,τ=>by simp [EqS,XT m σ τ]
theorem aCD (m:Nat) (σ:St):EqS m σ σ σ=True:=by simpa using XT m σ []
theorem ZN (σ τ υ:St):σ++τ++υ=σ++(τ++υ):=List.append_assoc _ _ _
theorem P0 {s:ByteArray} {k:Nat} (h:k<s.size):vE [.siter s k] (.ptr 0 0)=some (.tuple [.bool true,.int .i64 k,.int .i32 (Utf8.decode s k).1],[.siter s (k+(Utf8.decode s k).2)]):=by
 simp [vE,h]
theorem MN {s:ByteArray} {k:Nat} (h:¬k<s.size):vE [.siter s k] (.ptr 0 0)=some (.tuple [.bool false],[.siter s k]):=by
 simp [vE,h]
theorem tK {s:ByteArray} {k:Nat} (h:k<s.size) (hb:dY s k<128):Utf8.decode s k=((dY s k).toNat,1):=by
 have e:dY s k=((s[k]'h).toNat:Int):=by simp [dY,h]
 rw [decode_ascii s k h (by omega),e]
 simp
theorem EZ {s:ByteArray} {k:Nat} (h:k<s.size) (hb:128≤dY s k):128≤(Utf8.decode s k).1:=by
 have e:dY s k=((s[k]'h).toNat:Int):=by simp [dY,h]
 exact (decode_high s k h (by omega)).1
theorem ZK {α:Type} {sz:Nat} {enc:α→AV} {l:List α} {i:Nat} {σ:St} {t:Option Nat} (hi:i≤l.length) (hs:∀ x,(enc x).cells.length=sz):w5 sz σ (.lit (l.map enc) false t) none (some (.int .i64 (i:Int))) none=some (.lit ((l.take i).map enc) false t):=by
 have hc:w7 sz (l.map enc) 0 (i:Int)=true:=by
  unfold w7
  by_cases h0:i=0
  ·subst h0;simp
  ·cases l with
   |nil=>simp at hi;omega
   |cons x l=>simp [hs]
 simp only [w5,iK,nE,Option.map_none,fC,lG]
 rw [if_pos ⟨by omega,by omega,by simp;omega,hc⟩]
 simp [List.map_take]
theorem d5 {f:FuncId} {args args0:List AV} {v:AV} {σ:St} {K:AV→St→Prop} (h:eC T f args0 v) (ha:clrs args=args0) (hk:okVs 0 args) (k:K v σ):cK (K:=⟨K⟩) T (.func f [] []) args σ :=
 DP h (by simpa using ha) (by simpa using hk) k
theorem eP {f:FuncId} {args args0:List AV} {v:AV} {σ:St} {K:AV→St→Prop} (h:eC T f args0 v) (ha:clrs args=args0) (hk:okVs 0 args) (k:K v σ):cD (K:=⟨K⟩) T (.func f [] []) args σ :=
 E0 h (by simpa using ha) (by simpa using hk) k
end Go.Am
namespace Go.Am
def QV:=And.intro @aB1 (And.intro @nL (And.intro @IL (And.intro @ZN (And.intro @YE (And.intro @WU (And.intro @YU (And.intro @aBJ (And.intro @XJ (And.intro @OM (And.intro @QL (And.intro @aA3 (And.intro @aBQ (And.intro @X5 (And.intro @UP (And.intro @MV (And.intro @MI (And.intro @MK (And.intro @rI (And.intro @o0 (And.intro @YO (And.intro @YI (And.intro @XM (And.intro @XF (And.intro @X9 (And.intro @UW (And.intro @OW (And.intro @WZ (And.intro @XG (And.intro @WV (And.intro @R1 (And.intro @X3 (And.intro @aAW (And.intro @S0 (And.intro @UH (And.intro @VF (And.intro @aBE (And.intro @aBS (And.intro @N3 (And.intro @Z4 (And.intro @QI (And.intro @aDE (And.intro @aBL (And.intro @aBP (And.intro @aB3 (And.intro @aBM (And.intro @aAV (And.intro @aAJ (And.intro @aC4 (And.intro @aDI (And.intro @aCS (And.intro @aA7 (And.intro @aAZ (And.intro @ZO (And.intro @ZA (And.intro @ND (And.intro @N9 (And.intro @ZJ (And.intro @XY (And.intro @aAK (And.intro @ZF (And.intro @MR (And.intro @pG (And.intro @qQ (And.intro @iH (And.intro @aBR (And.intro @aBH (And.intro @Q4 (And.intro @aB7 (And.intro @SV (And.intro @NV (And.intro @ZU (And.intro @U2 (And.intro @V9 (And.intro @aAG (And.intro @aAO (And.intro @X2 (And.intro @aBN (And.intro @M0 (And.intro @KP (And.intro @aDD (And.intro @C_0 (And.intro @Z3 (And.intro @RD (And.intro @YS (And.intro @WR (And.intro @ZT (And.intro @XZ (And.intro @SH (And.intro @XA (And.intro @LI (And.intro @GV (And.intro @aBY (And.intro @Y9 (And.intro @aAF (And.intro @aCW (And.intro @aB0 (And.intro @aCT (And.intro @ZP (And.intro @aBB (And.intro @aB2 (And.intro @P8 (And.intro @MB (And.intro @aAE (And.intro @aBV (And.intro @OH (And.intro @NE (And.intro @aBX (And.intro @aAI (And.intro @aCX (And.intro @XV (And.intro @aCC (And.intro @XC (And.intro @XW (And.intro @ZZ (And.intro @aC3 (And.intro @aAP (And.intro @aDQ (And.intro @aET (And.intro @ZC (And.intro @XE (And.intro @aCZ (And.intro @X7 (And.intro @S8 (And.intro @aCU (And.intro @S1 (And.intro @TP (And.intro @S2 (And.intro @YQ (And.intro @UE (And.intro @GO (And.intro @aDG (And.intro @aB8 (And.intro @aBW (And.intro @aBU (And.intro @Z0 (And.intro @T0 (And.intro @R3 (And.intro @LX (And.intro @O2 (And.intro @NJ (And.intro @S3 (And.intro @R9 (And.intro @UV (And.intro @RS (And.intro @MH (And.intro @PT (And.intro @OF (And.intro @aAA (And.intro @aB4 (And.intro @M7 (And.intro @TD (And.intro @YF (And.intro @aAS (And.intro @aBD (And.intro @PF (@TT))))))))))))))))))))))))))))))))))))))))))))))))))))))))))))))))))))))))))))))))))))))))))))))))))))))))))))))))))))))))))))))))))))))))))))))))))))))))))))
def QP:=And.intro @ZI (And.intro @aC1 (And.intro @aDH (And.intro @aAH (And.intro @XI (And.intro @XX (And.intro @RI (And.intro @YK (And.intro @UM (And.intro @UL (And.intro @aCB (And.intro @aD9 (And.intro @aEK (And.intro @aCO (And.intro @aC8 (And.intro @WX (And.intro @WT (And.intro @YP (And.intro @SL (And.intro @ZH (And.intro @YC (And.intro @RZ (And.intro @aBO (And.intro @W9 (And.intro @aBA (And.intro @W3 (And.intro @aA1 (And.intro @HT (And.intro @PU (And.intro @aA2 (And.intro @YV (And.intro @SA (And.intro @aC6 (And.intro @Q5 (And.intro @RY (And.intro @TU (And.intro @XU (And.intro @S7 (And.intro @G9 (And.intro @aCG (And.intro @aC7 (And.intro @aA0 (And.intro @aAT (And.intro @ZL (And.intro @RF (And.intro @RT (And.intro @LJ (And.intro @O9 (And.intro @PA (And.intro @SC (And.intro @SJ (And.intro @S5 (And.intro @RP (And.intro @PI (And.intro @MS (And.intro @O0 (And.intro @aA9 (And.intro @aAD (And.intro @O1 (And.intro @T6 (And.intro @X8 (And.intro @aCL (And.intro @aAX (And.intro @NW (@RM))))))))))))))))))))))))))))))))))))))))))))))))))))))))))))))))
def QD:=And.intro @aBI (And.intro @WW (And.intro @SD (And.intro @N6 (And.intro @Z8 (And.intro @ZV (And.intro @aAR (And.intro @TK (And.intro @R0 (And.intro @T7 (And.intro @Y7 (And.intro @RK (And.intro @HM (And.intro @aAL (And.intro @aB6 (And.intro @aAB (And.intro @aC5 (And.intro @YT (And.intro @Q2 (And.intro @TZ (And.intro @LR (And.intro @MM (And.intro @PV (And.intro @SB (And.intro @RE (And.intro @TO (And.intro @TH (And.intro @QF (And.intro @OG (And.intro @QW (And.intro @aBZ (And.intro @aAM (And.intro @N7 (And.intro @UO (And.intro @XO (And.intro @aDC (And.intro @aCF (And.intro @OP (And.intro @UF (And.intro @aCP (And.intro @XD (And.intro @aCI (And.intro @TG (And.intro @UC (And.intro @UT (And.intro @ZW (And.intro @S9 (And.intro @GC (And.intro @aA5 (And.intro @aDA (And.intro @aA4 (And.intro @aA8 (And.intro @ZR (And.intro @RC (And.intro @UJ (And.intro @MC (And.intro @OY (And.intro @PZ (And.intro @TW (And.intro @SM (And.intro @TJ (And.intro @S6 (And.intro @NY (And.intro @NB (And.intro @M4 (And.intro @aAU (And.intro @aCE (And.intro @PN (And.intro @TY (And.intro @XN (And.intro @aCM (And.intro @aCJ (And.intro @PG (@UN)))))))))))))))))))))))))))))))))))))))))))))))))))))))))))))))))))))))))
def QS:=And.intro @PK (And.intro @ZY (And.intro @V8 (And.intro @oY (And.intro @YW (And.intro @M8 (And.intro @CJ (And.intro @OR (And.intro @PD (And.intro @L7 (And.intro @VB (And.intro @aA6 (And.intro @JA (And.intro @xS (And.intro @SG (And.intro @ON (And.intro @HC (And.intro @WS (And.intro @DE (And.intro @UW (@OW))))))))))))))))))))
def QR:=And.intro @QZ (And.intro @QM (And.intro @Q7 (@UQ)))
def QT:=And.intro @XT (And.intro @aCD (And.intro @aDU (And.intro @aEC (And.intro @aEI (And.intro @aDK (And.intro @aEX (And.intro @aDV (And.intro @aEW (@OM)))))))))
variable {T:FuncId→Option AFunc}
mutual
theorem okV_up {m:Nat}:∀ v,okV 0 v→okV m v
 |.func _ first cap,h=>⟨okVs_up first h.1,okVs_up cap h.2⟩
 |.lptr xs _ _ tk,h=>⟨fun t e=>absurd (h.1 t e) (by omega),okVs_up xs h.2⟩
 |.lit xs _ tk,h=>⟨fun t e=>absurd (h.1 t e) (by omega),okVs_up xs h.2⟩
 |.agg cs,h=>okVs_up cs h
 |.tuple vs,h=>okVs_up vs h
 |.yield _,h|.ptr _ _,h|.ref _ _ _ _,h|.map _,h=>absurd h (by simp [okV])
 |.undef,_|.int _ _,_|.bool _,_|.str _,_|.nilFunc,_|.nilPtr,_|.nilMap,_=>trivial
theorem okVs_up {m:Nat}:∀ vs,okVs 0 vs→okVs m vs
 |[],_=>trivial
 |v::vs,h=>⟨okV_up v h.1,okVs_up vs h.2⟩
end
theorem IB {σ:St} {m d id off len sz:Nat} (h:id<m):bS σ m d (.ref id off len sz)=some (.ref id off len sz):=by
 cases d<;>simp [bS,snap,h,clr]
theorem uK {a:ACode} {e:Env} {σ:St} {K:KJ} (h:wp T a e σ K):Run T (.code a e σ) fun o=>K o.j o.env o.σ:=gK h fun o ho=>ho
end Go.Am
namespace Go.Am
theorem n9 (l:List Int):ints l = .lit (l.map (.int .i64)) false none:=by simp only [ints]
theorem OE (l:List ByteArray):HE l = .lit (l.map .str) false none:=by simp only [HE]
def QC:=And.intro @and_self (And.intro @and_true (And.intro @true_and (And.intro @true_or (And.intro @or_true (And.intro @n9 (And.intro @OE (And.intro @decide_true (And.intro @decide_false (And.intro @Nat.lt_irrefl (And.intro @Nat.le_refl (And.intro @List.length_cons.{0} (And.intro @List.length_nil.{0} (And.intro @List.cons_append.{0} (And.intro @List.nil_append.{0} (And.intro @List.append_nil.{0} (And.intro @List.getElem?_cons_zero.{0} (And.intro @List.getElem?_cons_succ.{0} (And.intro @List.take_zero.{0} (And.intro @List.drop_zero.{0} (And.intro @List.take_succ_cons.{0} (And.intro @List.drop_succ_cons.{0} (And.intro @List.take_nil.{0} (And.intro @List.drop_nil.{0} (And.intro @List.set_cons_zero.{0} (And.intro @List.set_cons_succ.{0} (And.intro @List.length_map.{0,0} (And.intro @Bool.and_true (And.intro @Bool.true_and (And.intro @Bool.and_self (And.intro @Bool.not_true (And.intro @Bool.not_false (And.intro @beq_self_eq_true.{0} (And.intro @Nat.zero_add (And.intro @implies_true.{0} (And.intro @implies_true.{1} (And.intro @forall_const.{0} (And.intro @forall_const.{1} (And.intro @ne_eq.{1} (And.intro @not_false_eq_true (@not_true_eq_false))))))))))))))))))))))))))))))))))))))))
def QA:=And.intro QP QD
def QB:=And.intro QR (And.intro QV (And.intro QS QC))
def QE:=And.intro QT (And.intro QS (And.intro @OM (And.intro @List.length_append.{0} (And.intro @Nat.le_add_right QC))))
class Dat (v:AV):Prop where
 h:kQ v
class Dats (vs:List AV):Prop where
 h:mI vs
theorem dd {vs:List AV} [k:Dats vs]:mI vs:=k.h
instance:Dats []:=⟨fE⟩
instance {v:AV} {vs:List AV} [a:Dat v] [b:Dats vs]:Dats (v::vs):=⟨bI a.h b.h⟩
instance (k:IntKind) (n:Int):Dat (.int k n):=⟨c9 k n⟩
instance (b:Bool):Dat (.bool b):=⟨BH b⟩
instance (s:ByteArray):Dat (.str s):=⟨tQ s⟩
instance (l:List Int):Dat (ints l):=⟨jA l⟩
instance (l:List (List Int)):Dat (dD l):=⟨sR l⟩
instance (l:List ByteArray):Dat (HE l):=⟨MA l⟩
instance (s:Span):Dat (o4 s):=⟨KR s⟩
instance {cs:List AV} [a:Dats cs]:Dat (.agg cs):=⟨jW a.h⟩
instance {cs:List AV} [a:Dats cs]:Dat (.tuple cs):=⟨ID a.h⟩
instance {cs:List AV} [a:Dats cs]:Dat (.lit cs false none):=⟨EE a.h⟩
instance (k:IntKind) (l:List Int):Dats (l.map (.int k)):=⟨dE (c9 k) l⟩
end Go.Am
namespace Go.Am.Room
def inR (n lo hi:Int):Bool:=decide (lo≤n)&&decide (n≤hi)
theorem eW (n lo hi:Int):eC T 62 [.int .i64 n,.int .i64 lo,.int .i64 hi] (.bool (inR n lo hi)):=by
 refine bA (af:=a62) rfl (by simp [a62]) dd ?_
 (repeat (first|simp only [↓QA,QB,Nat.reduceLT,reduceIte,Nat.reduceEqDiff,Nat.reduceAdd,Nat.reduceLeDiff,Nat.reduceMul,Nat.reduceBEq,a62]|refine rd0 rfl ?_))
 refine aI (fun h=>?_) fun h=>?_
 all_goals
  (repeat (first|simp only [↓QA,QB,Nat.reduceLT,reduceIte,Nat.reduceEqDiff,Nat.reduceAdd,Nat.reduceLeDiff,Nat.reduceMul,Nat.reduceBEq,h]|refine rd0 rfl ?_))
  simp [inR,h]
def mS (s:Span) (lo hi:Int):Int:=if !inR s.lo lo hi||!inR s.hi lo hi then 7 else if s.hi<s.lo then 2 else 0
theorem JX (s:Span) (lo hi:Int):eC T 103 [o4 s,.int .i64 lo,.int .i64 hi] (.int .i64 (mS s lo hi)):=by
 refine bA (af:=a103) rfl (by simp [a103]) dd ?_
 (repeat (first|simp only [↓QA,QB,Nat.reduceLT,reduceIte,Nat.reduceEqDiff,Nat.reduceAdd,Nat.reduceLeDiff,Nat.reduceMul,Nat.reduceBEq,a103,aQ]|refine rd0 rfl ?_))
 refine aF (eW _ _ _) rfl dd ?_
 (repeat (first|simp only [↓QA,QB,Nat.reduceLT,reduceIte,Nat.reduceEqDiff,Nat.reduceAdd,Nat.reduceLeDiff,Nat.reduceMul,Nat.reduceBEq]|refine rd0 rfl ?_))
 cases h1:inR s.lo lo hi
 ·(repeat (first|simp only [↓QA,QB,Nat.reduceLT,reduceIte,Nat.reduceEqDiff,Nat.reduceAdd,Nat.reduceLeDiff,Nat.reduceMul,Nat.reduceBEq]|refine rd0 rfl ?_))
  simp [mS,h1]
 ·(repeat (first|simp only [↓QA,QB,Nat.reduceLT,reduceIte,Nat.reduceEqDiff,Nat.reduceAdd,Nat.reduceLeDiff,Nat.reduceMul,Nat.reduceBEq]|refine rd0 rfl ?_))
  refine aF (eW _ _ _) rfl dd ?_
  (repeat (first|simp only [↓QA,QB,Nat.reduceLT,reduceIte,Nat.reduceEqDiff,Nat.reduceAdd,Nat.reduceLeDiff,Nat.reduceMul,Nat.reduceBEq]|refine rd0 rfl ?_))
  cases h2:inR s.hi lo hi
  ·(repeat (first|simp only [↓QA,QB,Nat.reduceLT,reduceIte,Nat.reduceEqDiff,Nat.reduceAdd,Nat.reduceLeDiff,Nat.reduceMul,Nat.reduceBEq]|refine rd0 rfl ?_))
   simp [mS,h1,h2]
  ·(repeat (first|simp only [↓QA,QB,Nat.reduceLT,reduceIte,Nat.reduceEqDiff,Nat.reduceAdd,Nat.reduceLeDiff,Nat.reduceMul,Nat.reduceBEq]|refine rd0 rfl ?_))
   refine aI (fun h=>?_) fun h=>?_
   all_goals
    (repeat (first|simp only [↓QA,QB,Nat.reduceLT,reduceIte,Nat.reduceEqDiff,Nat.reduceAdd,Nat.reduceLeDiff,Nat.reduceMul,Nat.reduceBEq,h]|refine rd0 rfl ?_))
    simp [mS,h1,h2]
    simpa using h
def kA (s:Span) (n:Int):Span:=⟨min s.lo n,max s.hi n⟩
theorem NG (l:List Int) (n:Int) (hl:l.length<9223372036854775808):eC T 43 [ints l,.int .i64 n] (.bool (l.contains n)):=by
 refine bA (af:=a43) rfl (by simp [a43]) dd ?_
 (repeat (first|simp only [↓QA,QB,Nat.reduceLT,reduceIte,Nat.reduceEqDiff,Nat.reduceAdd,Nat.reduceLeDiff,Nat.reduceMul,Nat.reduceBEq,a43]|refine rd0 rfl ?_))
 refine dJ (S:=Nat) 0 (·≤l.length) (fun k=>l.length-k) (fun k=>[(0,ints l),(1,.int .i64 n),(5,.bool ((l.take k).contains n)),(6,.int .i64 k)]) (fun _=>[]) (Nat.zero_le _) rfl ?_ fun k hk=>?_
 ·try simp only [aD,QE,Nat.reduceLT,reduceIte,Nat.reduceEqDiff,Nat.reduceAdd,Nat.reduceLeDiff,Nat.reduceMul,Nat.reduceBEq]
  try simp
 ·(repeat (first|simp only [↓QA,QB,Nat.reduceLT,reduceIte,Nat.reduceEqDiff,Nat.reduceAdd,Nat.reduceLeDiff,Nat.reduceMul,Nat.reduceBEq,VR]|refine rd0 rfl ?_))
  refine aI (fun h=>?_) fun h=>?_
  ·have hk1:k<l.length:=by simpa using h
   (repeat (first|simp only [↓QA,QB,Nat.reduceLT,reduceIte,Nat.reduceEqDiff,Nat.reduceAdd,Nat.reduceLeDiff,Nat.reduceMul,Nat.reduceBEq]|refine rd0 rfl ?_))
   refine aI (fun h2=>?_) fun h2=>?_
   all_goals
    (repeat (first|simp only [↓QA,QB,Nat.reduceLT,reduceIte,Nat.reduceEqDiff,Nat.reduceAdd,Nat.reduceLeDiff,Nat.reduceMul,Nat.reduceBEq,h2,hk1]|refine rd0 rfl ?_))
    refine ⟨k+1,by omega,by omega,?_⟩
    try simp only [aD,QE,Nat.reduceLT,reduceIte,Nat.reduceEqDiff,Nat.reduceAdd,Nat.reduceLeDiff,Nat.reduceMul,Nat.reduceBEq,cM hk1 hl]
    simp only [List.take_succ_eq_append_getElem hk1,List.contains_append,h2]
    simp
    try (rw [Bool.eq_iff_iff];simp;exact eq_comm)
  ·have:k=l.length:=by simp at h;omega
   (repeat (first|simp only [↓QA,QB,Nat.reduceLT,reduceIte,Nat.reduceEqDiff,Nat.reduceAdd,Nat.reduceLeDiff,Nat.reduceMul,Nat.reduceBEq]|refine rd0 rfl ?_))
   simp [this]
def less:List Int→List Int→Bool
 |_,[]=>false
 |[],_::_=>true
 |a::az,b::bs=>if a=b then less az bs else decide (a<b)
theorem KF {a b:List Int} {k:Nat} (ha:k<a.length) (hb:k<b.length) (h:a[k]=b[k]):less (a.drop (k+1)) (b.drop (k+1))=less (a.drop k) (b.drop k):=by
 rw [List.drop_eq_getElem_cons ha,List.drop_eq_getElem_cons hb];simp [less,h]
theorem I9 (a b:List Int) (ha:a.length<9223372036854775808) (hb:b.length<9223372036854775808):eC T 56 [ints a,ints b] (.bool (less a b)):=by
 refine bA (af:=a56) rfl (by simp [a56]) dd ?_
 (repeat (first|simp only [↓QA,QB,Nat.reduceLT,reduceIte,Nat.reduceEqDiff,Nat.reduceAdd,Nat.reduceLeDiff,Nat.reduceMul,Nat.reduceBEq,a56]|refine rd0 rfl ?_))
 refine dJ (S:=Nat) 0 (fun k=>k≤a.length∧k≤b.length∧less (a.drop k) (b.drop k)=less a b) (fun k=>a.length-k) (fun k=>[(0,ints a),(1,ints b),(5,.int .i64 k)]) (fun _=>[]) ⟨Nat.zero_le _,Nat.zero_le _,rfl⟩ rfl ?_ fun k hk=>?_
 ·try simp only [aD,QE,Nat.reduceLT,reduceIte,Nat.reduceEqDiff,Nat.reduceAdd,Nat.reduceLeDiff,Nat.reduceMul,Nat.reduceBEq]
  try simp
 ·obtain ⟨hka,hkb,hl⟩:=hk
  (repeat (first|simp only [↓QA,QB,Nat.reduceLT,reduceIte,Nat.reduceEqDiff,Nat.reduceAdd,Nat.reduceLeDiff,Nat.reduceMul,Nat.reduceBEq,VO]|refine rd0 rfl ?_))
  by_cases h1:k<a.length
  ·have g1:decide ((k:Int)<a.length)=true:=by simpa using h1
   by_cases h2:k<b.length
   ·have g2:decide ((k:Int)<b.length)=true:=by simpa using h2
    (repeat (first|simp only [↓QA,QB,Nat.reduceLT,reduceIte,Nat.reduceEqDiff,Nat.reduceAdd,Nat.reduceLeDiff,Nat.reduceMul,Nat.reduceBEq,g1,g2,h1,h2]|refine rd0 rfl ?_))
    refine aI (fun h3=>?_) fun h3=>?_
    ·have h3':a[k]=b[k]:=by simpa using h3
     (repeat (first|simp only [↓QA,QB,Nat.reduceLT,reduceIte,Nat.reduceEqDiff,Nat.reduceAdd,Nat.reduceLeDiff,Nat.reduceMul,Nat.reduceBEq,h3]|refine rd0 rfl ?_))
     refine ⟨k+1,⟨by omega,by omega,(KF h1 h2 h3').trans hl⟩,by omega,?_⟩
     try simp only [aD,QE,Nat.reduceLT,reduceIte,Nat.reduceEqDiff,Nat.reduceAdd,Nat.reduceLeDiff,Nat.reduceMul,Nat.reduceBEq,cM h1 ha]
    ·have h3':a[k]≠b[k]:=by simpa using h3
     have e1:((k:Int)==b.length)=false:=by simp;omega
     have e2:((k:Int)==a.length)=false:=by simp;omega
     (repeat (first|simp only [↓QA,QB,Nat.reduceLT,reduceIte,Nat.reduceEqDiff,Nat.reduceAdd,Nat.reduceLeDiff,Nat.reduceMul,Nat.reduceBEq,h3,e1,e2,h1,h2]|refine rd0 rfl ?_))
     rw [←hl,List.drop_eq_getElem_cons h1,List.drop_eq_getElem_cons h2]
     simp [less,h3']
   ·have hkb':k=b.length:=by omega
    have g2:decide ((k:Int)<b.length)=false:=by simp;omega
    have e1:((k:Int)==b.length)=true:=by simp;omega
    (repeat (first|simp only [↓QA,QB,Nat.reduceLT,reduceIte,Nat.reduceEqDiff,Nat.reduceAdd,Nat.reduceLeDiff,Nat.reduceMul,Nat.reduceBEq,g1,g2,e1]|refine rd0 rfl ?_))
    rw [←hl,hkb',List.drop_length]
    cases List.drop b.length a<;>simp [less]
  ·have g1:decide ((k:Int)<a.length)=false:=by simp;omega
   have e2:((k:Int)==a.length)=true:=by simp;omega
   have hka':k=a.length:=by omega
   (repeat (first|simp only [↓QA,QB,Nat.reduceLT,reduceIte,Nat.reduceEqDiff,Nat.reduceAdd,Nat.reduceLeDiff,Nat.reduceMul,Nat.reduceBEq,g1]|refine rd0 rfl ?_))
   refine aI (fun h3=>?_) fun h3=>?_
   ·have h3':k=b.length:=by simp at h3;omega
    (repeat (first|simp only [↓QA,QB,Nat.reduceLT,reduceIte,Nat.reduceEqDiff,Nat.reduceAdd,Nat.reduceLeDiff,Nat.reduceMul,Nat.reduceBEq]|refine rd0 rfl ?_))
    rw [←hl,h3',List.drop_length]
    cases List.drop b.length a<;>simp [less]
   ·have h3':k<b.length:=by simp at h3;omega
    (repeat (first|simp only [↓QA,QB,Nat.reduceLT,reduceIte,Nat.reduceEqDiff,Nat.reduceAdd,Nat.reduceLeDiff,Nat.reduceMul,Nat.reduceBEq,h3,e2]|refine rd0 rfl ?_))
    rw [←hl,hka',List.drop_length,List.drop_eq_getElem_cons (by omega)]
    simp [less]
theorem n8:∀ a,less a a=false
 |[]=>rfl
 |a::az=>by simp [less,n8 az]
theorem xI:∀ a b,less a b=false→less b a=false→a=b
 |[],[],_,_=>rfl
 |[],b::bs,h,_=>by simp [less] at h
 |a::az,[],_,h=>by simp [less] at h
 |a::az,b::bs,h1,h2=>by
  by_cases hab:a=b
  ·subst hab
   simp [less] at h1 h2
   rw [xI az bs h1 h2]
  ·simp [less,hab,Ne.symm hab] at h1 h2
   omega
theorem TE (a b:Nat):((a:Int)==(b:Int))=decide (a=b):=by rw [Bool.eq_iff_iff];simp;omega
theorem lD (a b:List Int) (ha:a.length<9223372036854775808) (hb:b.length<9223372036854775808):eC T 27 [ints a,ints b] (.bool (decide (a=b))):=by
 refine bA (af:=a27) rfl (by simp [a27]) dd ?_
 (repeat (first|simp only [↓QA,QB,Nat.reduceLT,reduceIte,Nat.reduceEqDiff,Nat.reduceAdd,Nat.reduceLeDiff,Nat.reduceMul,Nat.reduceBEq,a27]|refine rd0 rfl ?_))
 refine aI (fun h=>?_) fun h=>?_
 ·(repeat (first|simp only [↓QA,QB,Nat.reduceLT,reduceIte,Nat.reduceEqDiff,Nat.reduceAdd,Nat.reduceLeDiff,Nat.reduceMul,Nat.reduceBEq,h]|refine rd0 rfl ?_))
  refine aF (I9 a b ha hb) rfl dd ?_
  (repeat (first|simp only [↓QA,QB,Nat.reduceLT,reduceIte,Nat.reduceEqDiff,Nat.reduceAdd,Nat.reduceLeDiff,Nat.reduceMul,Nat.reduceBEq,h]|refine rd0 rfl ?_))
  cases h1:less a b
  ·(repeat (first|simp only [↓QA,QB,Nat.reduceLT,reduceIte,Nat.reduceEqDiff,Nat.reduceAdd,Nat.reduceLeDiff,Nat.reduceMul,Nat.reduceBEq,h]|refine rd0 rfl ?_))
   refine aF (I9 b a hb ha) rfl dd ?_
   (repeat (first|simp only [↓QA,QB,Nat.reduceLT,reduceIte,Nat.reduceEqDiff,Nat.reduceAdd,Nat.reduceLeDiff,Nat.reduceMul,Nat.reduceBEq,h]|refine rd0 rfl ?_))
   cases h2:less b a
   ·rw [xI a b h1 h2];simp
   ·have:a≠b:=by rintro rfl;rw [n8] at h2;cases h2
    simp [this]
  ·have:a≠b:=by rintro rfl;rw [n8] at h1;cases h1
   (repeat (first|simp only [↓QA,QB,Nat.reduceLT,reduceIte,Nat.reduceEqDiff,Nat.reduceAdd,Nat.reduceLeDiff,Nat.reduceMul,Nat.reduceBEq,h]|refine rd0 rfl ?_))
   simp [this]
 ·have:a≠b:=by rintro rfl;simp at h
  (repeat (first|simp only [↓QA,QB,Nat.reduceLT,reduceIte,Nat.reduceEqDiff,Nat.reduceAdd,Nat.reduceLeDiff,Nat.reduceMul,Nat.reduceBEq,h]|refine rd0 rfl ?_))
  simp [this]
def fO (a b:List Int):Bool:=if a.length=b.length then less a b else decide (a.length<b.length)
theorem DA (a b:ByteArray):(a.toList==b.toList)=decide (a=b):=by
 rw [Bool.eq_iff_iff];simp
 constructor
 ·intro h;rw [Go.Lib.toList_data,Go.Lib.toList_data] at h;exact ByteArray.ext (Array.toList_inj.1 h)
 ·rintro rfl;rfl
def iW (s:ByteArray):List ByteArray→Nat
 |[]=>0
 |x::xs=>if x=s then 0 else iW s xs+1
def zP (s:ByteArray) (l:List ByteArray):Int:=if iW s l=l.length then -1 else iW s l
theorem GL {s:ByteArray} {l:List ByteArray} {k:Nat} (h:k<l.length) (hx:l[k]≠s):k+iW s (l.drop k)=k+1+iW s (l.drop (k+1)):=by
 rw [List.drop_eq_getElem_cons h];simp [iW,hx];omega
theorem DO (l:List ByteArray) (s:ByteArray) (hl:l.length<9223372036854775808):eC T 104 [HE l,.str s] (.int .i64 (zP s l)):=by
 refine bA (af:=a104) rfl (by simp [a104]) dd ?_
 (repeat (first|simp only [↓QA,QB,Nat.reduceLT,reduceIte,Nat.reduceEqDiff,Nat.reduceAdd,Nat.reduceLeDiff,Nat.reduceMul,Nat.reduceBEq,a104]|refine rd0 rfl ?_))
 refine dJ (S:=Nat) 0 (fun k=>k≤l.length∧k+iW s (l.drop k)=iW s l) (fun k=>l.length-k) (fun k=>[(0,HE l),(1,.str s),(5,.int .i64 k)]) (fun _=>[]) ⟨Nat.zero_le _,by simp⟩ rfl ?_ fun k hk=>?_
 ·try simp only [aD,QE,Nat.reduceLT,reduceIte,Nat.reduceEqDiff,Nat.reduceAdd,Nat.reduceLeDiff,Nat.reduceMul,Nat.reduceBEq]
  try simp
 ·obtain ⟨hkl,ha⟩:=hk
  (repeat (first|simp only [↓QA,QB,Nat.reduceLT,reduceIte,Nat.reduceEqDiff,Nat.reduceAdd,Nat.reduceLeDiff,Nat.reduceMul,Nat.reduceBEq,PH,DA]|refine rd0 rfl ?_))
  refine aI (fun h=>?_) fun h=>?_
  ·have hk1:k<l.length:=by simpa using h
   have e2:((k:Int)==l.length)=false:=by simp;omega
   (repeat (first|simp only [↓QA,QB,Nat.reduceLT,reduceIte,Nat.reduceEqDiff,Nat.reduceAdd,Nat.reduceLeDiff,Nat.reduceMul,Nat.reduceBEq,h,hk1,DA]|refine rd0 rfl ?_))
   refine aI (fun h3=>?_) fun h3=>?_
   ·have h3':l[k]≠s:=by simpa using h3
    (repeat (first|simp only [↓QA,QB,Nat.reduceLT,reduceIte,Nat.reduceEqDiff,Nat.reduceAdd,Nat.reduceLeDiff,Nat.reduceMul,Nat.reduceBEq,h3]|refine rd0 rfl ?_))
    refine ⟨k+1,⟨by omega,by rw [←GL hk1 h3'];exact ha⟩,by omega,?_⟩
    try simp only [aD,QE,Nat.reduceLT,reduceIte,Nat.reduceEqDiff,Nat.reduceAdd,Nat.reduceLeDiff,Nat.reduceMul,Nat.reduceBEq,cM hk1 hl]
   ·have h3':l[k]=s:=by simpa using h3
    have h4:iW s (l.drop k)=0:=by rw [List.drop_eq_getElem_cons hk1];simp [iW,h3']
    (repeat (first|simp only [↓QA,QB,Nat.reduceLT,reduceIte,Nat.reduceEqDiff,Nat.reduceAdd,Nat.reduceLeDiff,Nat.reduceMul,Nat.reduceBEq,h3,e2]|refine rd0 rfl ?_))
    simp only [zP]
    rw [if_neg (by omega)]
    simp;omega
  ·have hk1:k=l.length:=by simp at h;omega
   have e2:((k:Int)==l.length)=true:=by simp;omega
   have h4:iW s (l.drop k)=0:=by rw [hk1,List.drop_length];rfl
   (repeat (first|simp only [↓QA,QB,Nat.reduceLT,reduceIte,Nat.reduceEqDiff,Nat.reduceAdd,Nat.reduceLeDiff,Nat.reduceMul,Nat.reduceBEq,h,e2]|refine rd0 rfl ?_))
   simp only [zP]
   rw [if_pos (by omega)]
def xX (i:Nat) (b:Int):Bool:=inR b 97 122||(decide (0<i)&&(b==46||inR b 48 57))
def fX (s:ByteArray):Nat→Bool
 |0=>true
 |k+1=>fX s k&&xX k (dY s k)
def nJ (s:ByteArray):Bool:=inR s.size 1 16&&fX s s.size
theorem wX (s:ByteArray) (hs:s.size<9223372036854775808):eC T 105 [.str s] (.bool (nJ s)):=by
 refine bA (af:=a105) rfl (by simp [a105]) dd ?_
 (repeat (first|simp only [↓QA,QB,Nat.reduceLT,reduceIte,Nat.reduceEqDiff,Nat.reduceAdd,Nat.reduceLeDiff,Nat.reduceMul,Nat.reduceBEq,a105]|refine rd0 rfl ?_))
 ((first|refine aF (eW _ _ _) rfl dd ?_|refine aH (eW _ _ _) rfl dd ?_);(repeat (first|simp only [↓QA,QB,Nat.reduceLT,reduceIte,Nat.reduceEqDiff,Nat.reduceAdd,Nat.reduceLeDiff,Nat.reduceMul,Nat.reduceBEq]|refine rd0 rfl ?_)))
 refine dJ (S:=Nat) 0 (fun k=>k≤s.size) (fun k=>s.size-k) (fun k=>[(0,.str s),(3,.bool (inR s.size 1 16&&fX s k)),(4,.int .i64 k)]) (fun _=>[]) (Nat.zero_le _) rfl ?_ fun k hk=>?_
 ·try simp only [aD,QE,Nat.reduceLT,reduceIte,Nat.reduceEqDiff,Nat.reduceAdd,Nat.reduceLeDiff,Nat.reduceMul,Nat.reduceBEq,fX]
  try simp
 ·(repeat (first|simp only [↓QA,QB,Nat.reduceLT,reduceIte,Nat.reduceEqDiff,Nat.reduceAdd,Nat.reduceLeDiff,Nat.reduceMul,Nat.reduceBEq,P1]|refine rd0 rfl ?_))
  refine aI (fun h=>?_) fun h=>?_
  ·have hk1:k<s.size:=by simpa using h
   have hb:=BT s k
   have hw:IntKind.i64.wrap (dY s k)=dY s k:=dZ ⟨by omega,by omega⟩
   have fin:∀ (later:Bool),later=(decide (0<k)&&(dY s k==46||inR (dY s k) 48 57))→(inR s.size 1 16&&fX s k&&(inR (dY s k) 97 122||later))=(inR s.size 1 16&&fX s (k+1)):=by
    rintro _ rfl
    simp only [fX,xX,Bool.and_assoc]
   have tail:∀ (later:Bool) (e:Env),later=(decide (0<k)&&(dY s k==46||inR (dY s k) 48 57))→True:=fun _ _ _=>trivial
   (repeat (first|simp only [↓QA,QB,Nat.reduceLT,reduceIte,Nat.reduceEqDiff,Nat.reduceAdd,Nat.reduceLeDiff,Nat.reduceMul,Nat.reduceBEq,hk1,hw]|refine rd0 rfl ?_))
   cases h0:decide ((0:Int)<k)
   ·have h0':decide (0<k)=false:=by simpa using h0
    (repeat (first|simp only [↓QA,QB,Nat.reduceLT,reduceIte,Nat.reduceEqDiff,Nat.reduceAdd,Nat.reduceLeDiff,Nat.reduceMul,Nat.reduceBEq,hk1,hw]|refine rd0 rfl ?_))
    cases hf:(inR s.size 1 16&&fX s k)
    ·(repeat (first|simp only [↓QA,QB,Nat.reduceLT,reduceIte,Nat.reduceEqDiff,Nat.reduceAdd,Nat.reduceLeDiff,Nat.reduceMul,Nat.reduceBEq,hk1,hw,hf]|refine rd0 rfl ?_))
     refine ⟨k+1,by omega,by omega,?_⟩
     try simp only [aD,QE,Nat.reduceLT,reduceIte,Nat.reduceEqDiff,Nat.reduceAdd,Nat.reduceLeDiff,Nat.reduceMul,Nat.reduceBEq,cM hk1 hs,←fin false (by simp [h0']),hf]
     try simp
    ·(repeat (first|simp only [↓QA,QB,Nat.reduceLT,reduceIte,Nat.reduceEqDiff,Nat.reduceAdd,Nat.reduceLeDiff,Nat.reduceMul,Nat.reduceBEq,hk1,hw,hf]|refine rd0 rfl ?_))
     ((first|refine aF (eW _ _ _) rfl dd ?_|refine aH (eW _ _ _) rfl dd ?_);(repeat (first|simp only [↓QA,QB,Nat.reduceLT,reduceIte,Nat.reduceEqDiff,Nat.reduceAdd,Nat.reduceLeDiff,Nat.reduceMul,Nat.reduceBEq]|refine rd0 rfl ?_)))
     cases h2:inR (dY s k) 97 122
     all_goals
      (repeat (first|simp only [↓QA,QB,Nat.reduceLT,reduceIte,Nat.reduceEqDiff,Nat.reduceAdd,Nat.reduceLeDiff,Nat.reduceMul,Nat.reduceBEq,hk1,hw,hf]|refine rd0 rfl ?_))
      refine ⟨k+1,by omega,by omega,?_⟩
      try simp only [aD,QE,Nat.reduceLT,reduceIte,Nat.reduceEqDiff,Nat.reduceAdd,Nat.reduceLeDiff,Nat.reduceMul,Nat.reduceBEq,cM hk1 hs,←fin false (by simp [h0']),hf,h2]
      try simp
   ·have h0':decide (0<k)=true:=by simpa using h0
    (repeat (first|simp only [↓QA,QB,Nat.reduceLT,reduceIte,Nat.reduceEqDiff,Nat.reduceAdd,Nat.reduceLeDiff,Nat.reduceMul,Nat.reduceBEq,hk1,hw]|refine rd0 rfl ?_))
    cases h1:(dY s k==46)
    ·(repeat (first|simp only [↓QA,QB,Nat.reduceLT,reduceIte,Nat.reduceEqDiff,Nat.reduceAdd,Nat.reduceLeDiff,Nat.reduceMul,Nat.reduceBEq,hk1,hw]|refine rd0 rfl ?_))
     ((first|refine aF (eW _ _ _) rfl dd ?_|refine aH (eW _ _ _) rfl dd ?_);(repeat (first|simp only [↓QA,QB,Nat.reduceLT,reduceIte,Nat.reduceEqDiff,Nat.reduceAdd,Nat.reduceLeDiff,Nat.reduceMul,Nat.reduceBEq]|refine rd0 rfl ?_)))
     cases hf:(inR s.size 1 16&&fX s k)
     ·(repeat (first|simp only [↓QA,QB,Nat.reduceLT,reduceIte,Nat.reduceEqDiff,Nat.reduceAdd,Nat.reduceLeDiff,Nat.reduceMul,Nat.reduceBEq,hk1,hw,hf]|refine rd0 rfl ?_))
      refine ⟨k+1,by omega,by omega,?_⟩
      try simp only [aD,QE,Nat.reduceLT,reduceIte,Nat.reduceEqDiff,Nat.reduceAdd,Nat.reduceLeDiff,Nat.reduceMul,Nat.reduceBEq,cM hk1 hs,←fin _ rfl,hf]
      try simp
     ·(repeat (first|simp only [↓QA,QB,Nat.reduceLT,reduceIte,Nat.reduceEqDiff,Nat.reduceAdd,Nat.reduceLeDiff,Nat.reduceMul,Nat.reduceBEq,hk1,hw,hf]|refine rd0 rfl ?_))
      ((first|refine aF (eW _ _ _) rfl dd ?_|refine aH (eW _ _ _) rfl dd ?_);(repeat (first|simp only [↓QA,QB,Nat.reduceLT,reduceIte,Nat.reduceEqDiff,Nat.reduceAdd,Nat.reduceLeDiff,Nat.reduceMul,Nat.reduceBEq]|refine rd0 rfl ?_)))
      cases h2:inR (dY s k) 97 122
      all_goals
       (repeat (first|simp only [↓QA,QB,Nat.reduceLT,reduceIte,Nat.reduceEqDiff,Nat.reduceAdd,Nat.reduceLeDiff,Nat.reduceMul,Nat.reduceBEq,hk1,hw,hf]|refine rd0 rfl ?_))
       refine ⟨k+1,by omega,by omega,?_⟩
       try simp only [aD,QE,Nat.reduceLT,reduceIte,Nat.reduceEqDiff,Nat.reduceAdd,Nat.reduceLeDiff,Nat.reduceMul,Nat.reduceBEq,cM hk1 hs,←fin _ rfl,hf,h2,h0',h1]
       try simp
    ·(repeat (first|simp only [↓QA,QB,Nat.reduceLT,reduceIte,Nat.reduceEqDiff,Nat.reduceAdd,Nat.reduceLeDiff,Nat.reduceMul,Nat.reduceBEq,hk1,hw]|refine rd0 rfl ?_))
     cases hf:(inR s.size 1 16&&fX s k)
     ·(repeat (first|simp only [↓QA,QB,Nat.reduceLT,reduceIte,Nat.reduceEqDiff,Nat.reduceAdd,Nat.reduceLeDiff,Nat.reduceMul,Nat.reduceBEq,hk1,hw,hf]|refine rd0 rfl ?_))
      refine ⟨k+1,by omega,by omega,?_⟩
      try simp only [aD,QE,Nat.reduceLT,reduceIte,Nat.reduceEqDiff,Nat.reduceAdd,Nat.reduceLeDiff,Nat.reduceMul,Nat.reduceBEq,cM hk1 hs,←fin _ rfl,hf]
      try simp
     ·(repeat (first|simp only [↓QA,QB,Nat.reduceLT,reduceIte,Nat.reduceEqDiff,Nat.reduceAdd,Nat.reduceLeDiff,Nat.reduceMul,Nat.reduceBEq,hk1,hw,hf]|refine rd0 rfl ?_))
      ((first|refine aF (eW _ _ _) rfl dd ?_|refine aH (eW _ _ _) rfl dd ?_);(repeat (first|simp only [↓QA,QB,Nat.reduceLT,reduceIte,Nat.reduceEqDiff,Nat.reduceAdd,Nat.reduceLeDiff,Nat.reduceMul,Nat.reduceBEq]|refine rd0 rfl ?_)))
      cases h2:inR (dY s k) 97 122
      all_goals
       (repeat (first|simp only [↓QA,QB,Nat.reduceLT,reduceIte,Nat.reduceEqDiff,Nat.reduceAdd,Nat.reduceLeDiff,Nat.reduceMul,Nat.reduceBEq,hk1,hw,hf]|refine rd0 rfl ?_))
       refine ⟨k+1,by omega,by omega,?_⟩
       try simp only [aD,QE,Nat.reduceLT,reduceIte,Nat.reduceEqDiff,Nat.reduceAdd,Nat.reduceLeDiff,Nat.reduceMul,Nat.reduceBEq,cM hk1 hs,←fin _ rfl,hf,h2,h0',h1]
       try simp
  ·have hk1:k=s.size:=by simp at h;omega
   (repeat (first|simp only [↓QA,QB,Nat.reduceLT,reduceIte,Nat.reduceEqDiff,Nat.reduceAdd,Nat.reduceLeDiff,Nat.reduceMul,Nat.reduceBEq]|refine rd0 rfl ?_))
   simp [nJ,hk1]
def fresh (s:ByteArray) (before:List ByteArray):Int:=if nJ s=false then 6 else if iW s before=before.length then 0 else 5
theorem O3 (s:ByteArray) (l:List ByteArray) (hs:s.size<9223372036854775808) (hl:l.length<9223372036854775808):eC T 75 [.str s,HE l] (.int .i64 (fresh s l)):=by
 refine bA (af:=a75) rfl (by simp [a75]) dd ?_
 (repeat (first|simp only [↓QA,QB,Nat.reduceLT,reduceIte,Nat.reduceEqDiff,Nat.reduceAdd,Nat.reduceLeDiff,Nat.reduceMul,Nat.reduceBEq,a75]|refine rd0 rfl ?_))
 ((first|refine aF (DO l s hl) rfl dd ?_|refine aH (DO l s hl) rfl dd ?_);(repeat (first|simp only [↓QA,QB,Nat.reduceLT,reduceIte,Nat.reduceEqDiff,Nat.reduceAdd,Nat.reduceLeDiff,Nat.reduceMul,Nat.reduceBEq]|refine rd0 rfl ?_)))
 refine aI (fun h=>?_) fun h=>?_
 ·have hin:iW s l≠l.length:=by
   intro e
   simp [zP,e] at h
  (repeat (first|simp only [↓QA,QB,Nat.reduceLT,reduceIte,Nat.reduceEqDiff,Nat.reduceAdd,Nat.reduceLeDiff,Nat.reduceMul,Nat.reduceBEq]|refine rd0 rfl ?_))
  ((first|refine aF (wX s hs) rfl dd ?_|refine aH (wX s hs) rfl dd ?_);(repeat (first|simp only [↓QA,QB,Nat.reduceLT,reduceIte,Nat.reduceEqDiff,Nat.reduceAdd,Nat.reduceLeDiff,Nat.reduceMul,Nat.reduceBEq]|refine rd0 rfl ?_)))
  cases hn:nJ s
  all_goals
   (repeat (first|simp only [↓QA,QB,Nat.reduceLT,reduceIte,Nat.reduceEqDiff,Nat.reduceAdd,Nat.reduceLeDiff,Nat.reduceMul,Nat.reduceBEq]|refine rd0 rfl ?_))
   simp [fresh,hn,hin]
 ·have hin:iW s l=l.length:=by
   simp only [zP] at h
   split at h
   ·assumption
   ·simp at h
  (repeat (first|simp only [↓QA,QB,Nat.reduceLT,reduceIte,Nat.reduceEqDiff,Nat.reduceAdd,Nat.reduceLeDiff,Nat.reduceMul,Nat.reduceBEq]|refine rd0 rfl ?_))
  ((first|refine aF (wX s hs) rfl dd ?_|refine aH (wX s hs) rfl dd ?_);(repeat (first|simp only [↓QA,QB,Nat.reduceLT,reduceIte,Nat.reduceEqDiff,Nat.reduceAdd,Nat.reduceLeDiff,Nat.reduceMul,Nat.reduceBEq]|refine rd0 rfl ?_)))
  cases hn:nJ s
  all_goals
   (repeat (first|simp only [↓QA,QB,Nat.reduceLT,reduceIte,Nat.reduceEqDiff,Nat.reduceAdd,Nat.reduceLeDiff,Nat.reduceMul,Nat.reduceBEq]|refine rd0 rfl ?_))
   simp [fresh,hn,hin]
def aO (a:Int):Nat→List Int
 |0=>[]
 |n+1=>a::aO (a+1) n
theorem mW:∀ n a,(aO a n).length=n
 |0,_=>rfl
 |n+1,a=>by simp [aO,mW n]
theorem cA:∀ n a x,x∈aO a n↔a≤x∧x<a+n
 |0,a,x=>by simp [aO]
 |n+1,a,x=>by simp [aO,cA n];omega
def zQ (i:Nat) (c:List Int):Int:=if 0<i then (c[i-1]?).getD 0+1 else 0
def IV (below i:Nat) (c:List Int):List (List Int):=(aO (zQ i c) ((below:Int)-zQ i c).toNat).map fun n=>c++[n]
def dK (below:Nat):Nat→List (List Int)
 |0=>[[]]
 |i+1=>(dK below i).flatMap (IV below i)
theorem lM (below:Nat):∀ i c,c∈dK below i→c.length=i∧∀ x∈c,0≤x∧x<below
 |0,c,h=>by simp [dK] at h;subst h;simp
 |i+1,c,h=>by
  simp only [dK,List.mem_flatMap] at h
  obtain ⟨d,h1,h2⟩:=h
  obtain ⟨q1,q2⟩:=lM below i d h1
  simp only [IV,List.mem_map,cA] at h2
  obtain ⟨n,h3,rfl⟩:=h2
  refine ⟨by simp [q1],fun x hx=>?_⟩
  rcases List.mem_append.1 hx with hx|hx
  ·exact q2 x hx
  ·simp at hx
   subst hx
   have:0≤zQ i d:=by
    unfold zQ
    split
    ·rename_i hi
     have hlt:i-1<d.length:=by omega
     have:=q2 d[i-1] (List.getElem_mem hlt)
     simp [hlt]
     omega
    ·omega
   omega
theorem IP {α β:Type} (f:α→List β) (b:Nat):∀ l:List α,(∀ x∈l,(f x).length≤b)→(l.flatMap f).length≤l.length*b
 |[],_=>by simp
 |x::l,h=>by
  have h1:=h x (by simp)
  have h2:=IP f b l fun y hy=>h y (List.mem_cons_of_mem _ hy)
  simp only [List.flatMap_cons,List.length_append,List.length_cons,Nat.add_mul]
  omega
theorem nG (l:List (List Int)):aM 1 (l.map ints)=true:=vN 1 ints l fun x=>V9 _ _ _
theorem uI (l:List Int):aM 1 (l.map (.int .i64))=true:=vN 1 _ l fun x=>NV _ _
theorem oO {a:Int} {below:Nat} (h:a<below):aO a ((below:Int)-a).toNat=a::aO (a+1) ((below:Int)-(a+1)).toNat:=by
 rw [show ((below:Int)-a).toNat=((below:Int)-(a+1)).toNat+1 by omega];rfl
theorem lL {a:Int} {below:Nat} (h:¬a<below):aO a ((below:Int)-a).toNat=[]:=by
 rw [show ((below:Int)-a).toNat=0 by omega];rfl
theorem sK:∀ {a b c:List Int},less a b=true→less b c=true→less a c=true
 |a,b,[],h1,h2=>by cases b<;>simp [less] at h2
 |a,[],c::cs,h1,h2=>by cases a<;>simp [less] at h1
 |[],b::bs,c::cs,h1,h2=>by simp [less]
 |a::az,b::bs,c::cs,h1,h2=>by
  simp only [less] at *
  by_cases hab:a=b
  ·subst hab
   by_cases hac:a=c
   ·subst hac
    simp only [if_true] at *
    exact sK h1 h2
   ·simp only [hac,if_false,if_true] at *
    exact h2
  ·by_cases hbc:b=c
   ·subst hbc
    simp only [hab,if_false,if_true,decide_eq_true_eq] at *
    exact h1
   ·simp only [hab,hbc,if_false,decide_eq_true_eq] at *
    rw [if_neg (by omega)]
    simp;omega
theorem vQ (a:List Int):fO a a=false:=by simp [fO,n8]
theorem v6 {a b c:List Int} (h1:fO a b=true) (h2:fO b c=true):fO a c=true:=by
 simp only [fO] at *
 by_cases e1:a.length=b.length<;>by_cases e2:b.length=c.length
 ·simp only [e1,e2,if_true] at *;exact sK h1 h2
 ·simp only [e1,e2,if_true,if_false,decide_eq_true_eq] at *;exact h2
 ·rw [if_neg e1] at h1;rw [if_neg (by omega)];simp at h1 ⊢;omega
 ·simp only [e1,e2,if_false,decide_eq_true_eq] at *
  rw [if_neg (by omega)];simp;omega
theorem BR {a b:List Int} (h1:fO a b=false) (h2:fO b a=false):a=b:=by
 simp only [fO] at *
 by_cases e1:a.length=b.length
 ·simp only [e1,if_true] at *
  exact xI a b h1 h2
 ·rw [if_neg e1] at h1;rw [if_neg (Ne.symm e1)] at h2
  simp at h1 h2;omega
theorem CY {a b c:List Int} (h1:fO b a=false) (h2:fO c b=false):fO c a=false:=by
 rw [Bool.eq_false_iff]
 intro h
 by_cases hab:fO a b=true
 ·rw [v6 h hab] at h2;cases h2
 ·have:=BR (by simpa using hab) h1
  subst this
  rw [h] at h2;cases h2
def lst (n s:Nat):List Int:=(aO 0 n).filter fun i=>decide (s/2^i.toNat%2=1)
theorem WQ:∀ n:Fin 7,∀ s:Fin 64,s.val<2^n.val→lst n s∈dK n (lst n s).length:=by decide +kernel
theorem NP:∀ n m:Fin 7,∀ c∈dK n m,∃ s:Fin 64,s.val<2^n.val∧lst n s=c:=by decide +kernel
theorem yU:∀ n m:Fin 7,(dK n m).Pairwise fun a b=>less a b=true:=by decide +kernel
theorem FY:∀ n:Fin 7,(dK n n).length=1:=by decide +kernel
theorem I5 (n s:Nat):(lst n s).length≤n:=by
 have:=List.length_filter_le (fun i:Int=>decide (s/2^i.toNat%2=1)) (aO 0 n)
 rw [mW] at this
 exact this
def dP (f:List Int→Bool) (n:Nat):Nat→Nat→Option (List Int)
 |0,_=>none
 |k+1,m=>match (dK n m).find? f with
  |some l=>some l
  |none=>dP f n k (m+1)
theorem C6:∀ n:Fin 7,∀ c∈dK n n,∀ j:Fin 7,j.val<n.val→c.contains ((j.val:Nat):Int)=true:=by decide +kernel
def iF (f:List Int→Bool) (o:Option (List Int)) (l:List Int):Option (List Int):=match o with
 |none=>if f l=true then some l else none
 |some b=>if fO b l=true then some b else if f l=true then some l else some b
def lF (f:List Int→Bool) (n:Nat):Nat→Nat→Option (List Int)→Option (List Int)
 |0,_,o=>o
 |k+1,s,o=>lF f n k (s+1) (iF f o (lst n s))
theorem tG (f:List Int→Bool) (n:Nat):∀ k s o,(∀ w,o=some w→f w=true∧∃ t,t<s∧w=lst n t∧∀ t',t'<s→f (lst n t')=true→fO (lst n t') w=false)→(o=none→∀ t,t<s→f (lst n t)=false) →
  (∀ w,lF f n k s o=some w→f w=true∧∃ t,t<s+k∧w=lst n t∧∀ t',t'<s+k→f (lst n t')=true→fO (lst n t') w=false)∧(lF f n k s o=none→∀ t,t<s+k→f (lst n t)=false)
 |0,s,o,h1,h2=>⟨h1,h2⟩
 |k+1,s,o,h1,h2=>by
  have ih:=tG f n k (s+1) (iF f o (lst n s))
  rw [show s+1+k=s+(k+1) by omega] at ih
  simp only [lF]
  have last:∀ (w:List Int) t',t'<s+1→(∀ t'',t''<s→f (lst n t'')=true→fO (lst n t'') w=false)→(f (lst n s)=true→fO (lst n s) w=false)→f (lst n t')=true→fO (lst n t') w=false:=by
   intro w t' ht h3 h4 hs
   by_cases he:t'=s
   ·subst he;exact h4 hs
   ·exact h3 t' (by omega) hs
  refine ih (fun w hw=>?_) fun hn t ht=>?_
  ·cases o with
   |none =>
    simp only [iF] at hw
    split at hw
    ·rename_i hs
     simp only [Option.some.injEq] at hw
     subst hw
     refine ⟨hs,s,by omega,rfl,fun t' ht hst=>last _ t' ht (fun t'' h4 h5=>by rw [h2 rfl t'' h4] at h5;cases h5) (fun _=>vQ _) hst⟩
    ·cases hw
   |some b =>
    obtain ⟨q1,t,q2,q3,q4⟩:=h1 b rfl
    simp only [iF] at hw
    split at hw
    ·rename_i hf
     simp only [Option.some.injEq] at hw
     subst hw
     refine ⟨q1,t,by omega,q3,fun t' ht hst=>last _ t' ht q4 (fun _=>?_) hst⟩
     rw [Bool.eq_false_iff]
     intro h5
     have:=v6 hf h5
     rw [vQ] at this;cases this
    ·rename_i hf
     split at hw
     ·rename_i hs
      simp only [Option.some.injEq] at hw
      subst hw
      refine ⟨hs,s,by omega,rfl,fun t' ht hst=>last _ t' ht (fun t'' h4 h5=>?_) (fun _=>vQ _) hst⟩
      exact CY (by simpa using hf) (q4 t'' h4 h5)
     ·rename_i hs
      simp only [Option.some.injEq] at hw
      subst hw
      exact ⟨q1,t,by omega,q3,fun t' ht hst=>last _ t' ht q4 (fun h5=>absurd h5 hs) hst⟩
  ·cases o with
   |none =>
    simp only [iF] at hn
    split at hn
    ·cases hn
    ·rename_i hs
     by_cases he:t=s
     ·subst he;simpa using hs
     ·exact h2 rfl t (by omega)
   |some b =>
    simp only [iF] at hn
    split at hn
    ·cases hn
    ·split at hn<;>cases hn
theorem sP:∀ {n i:Nat} {c:List Int},c∈dK n i→i≤n:=by
 intro n i
 cases i with
 |zero=>intros;omega
 |succ i =>
  intro c hc
  simp only [dK,List.mem_flatMap,IV,List.mem_map,cA] at hc
  obtain ⟨d,hd,x,hx,rfl⟩:=hc
  have key:∀ j (d:List Int),d∈dK n j→(j:Int)≤zQ j d:=by
   intro j
   induction j with
   |zero=>intro d _;simp [zQ]
   |succ j ih =>
    intro d hd
    simp only [dK,List.mem_flatMap,IV,List.mem_map,cA] at hd
    obtain ⟨d',hd',y,hy,rfl⟩:=hd
    have h5:=ih d' hd'
    have h6:=(lM n j d' hd').1
    simp only [zQ,Nat.succ_pos,if_true,Nat.add_sub_cancel]
    rw [List.getElem?_append_right (by omega),h6,Nat.sub_self]
    simp only [List.getElem?_cons_zero,Option.getD_some]
    omega
  have:=key i d hd
  omega
theorem qH (f:List Int→Bool) (n:Nat) (hN:n≤6):∀ k m,(∀ m',m'<m→∀ c∈dK n m',f c=false) →
  (∀ l,dP f n k m=some l→l∈dK n l.length∧f l=true∧∀ m',∀ c∈dK n m',f c=true→fO c l=false)∧(dP f n k m=none→∀ m',m'<m+k→∀ c∈dK n m',f c=false)
 |0,m,hlow=>⟨fun l h=>by simp [dP] at h,fun _ m' h c hc=>hlow m' (by omega) c hc⟩
 |k+1,m,hlow=>by
  simp only [dP]
  cases hf:(dK n m).find? f with
  |none =>
   simp only
   have ih:=qH f n hN k (m+1) fun m' hm' c hc=>by
    by_cases he:m'=m
    ·subst he
     rw [List.find?_eq_none] at hf
     simpa using hf c hc
    ·exact hlow m' (by omega) c hc
   exact ⟨ih.1,fun h m' hm'=>ih.2 h m' (by omega)⟩
  |some l =>
   simp only
   refine ⟨fun l' h=>?_,fun h=>by cases h⟩
   cases h
   have hmem:=List.mem_of_find?_eq_some hf
   have hs:=List.find?_some hf
   have hlen:=(lM _ _ _ hmem).1
   rw [hlen]
   refine ⟨hmem,hs,fun m' c hc hsc=>?_⟩
   have hcl:=(lM _ _ _ hc).1
   by_cases h1:m'<m
   ·rw [hlow m' h1 c hc] at hsc;cases hsc
   ·by_cases he:m'=m
    ·subst he
     rw [Bool.eq_false_iff]
     intro hlt
     simp only [fO,hcl,hlen,if_true] at hlt
     obtain ⟨pre,post,e1,e2⟩:=(List.find?_eq_some_iff_append.1 hf).2
     have hmn:=sP hmem
     have hpw:=yU ⟨n,by omega⟩ ⟨m',by omega⟩
     simp only at hpw
     rw [e1] at hc hpw
     rcases List.mem_append.1 hc with hc|hc
     ·have:=e2 c hc
      rw [hsc] at this;cases this
     ·rcases List.mem_cons.1 hc with rfl|hc
      ·rw [n8] at hlt;cases hlt
      ·have:=(List.pairwise_append.1 hpw).2.1
       have:=(List.pairwise_cons.1 this).1 c hc
       have h3:=sK hlt this
       rw [n8] at h3;cases h3
    ·simp only [fO];rw [if_neg (by omega)];simp;omega
theorem YL (f:List Int→Bool) (n:Nat) (hN:n≤6):lF f n (2^n) 0 none=dP f n (n+1) 0:=by
 have hp:2^n≤2^6:=Nat.pow_le_pow_right (by omega) hN
 obtain ⟨w1,w2⟩:=qH f n hN (n+1) 0 (fun m' h=>by omega)
 obtain ⟨s1,s2⟩:=tG f n (2^n) 0 none (fun w h=>by cases h) (fun _ t h=>by omega)
 rw [Nat.zero_add] at s1 s2
 cases hf:lF f n (2^n) 0 none with
 |none =>
  cases hg:dP f n (n+1) 0 with
  |none=>rfl
  |some l =>
   obtain ⟨a,b,c⟩:=w1 l hg
   have hle:=sP a
   obtain ⟨t,ht,hlt⟩:=NP ⟨n,by omega⟩ ⟨l.length,by omega⟩ l a
   have:=s2 hf t.val ht
   rw [show lst n t.val=l from hlt,b] at this;cases this
 |some w =>
  obtain ⟨q1,t',q2,q3,q4⟩:=s1 w hf
  have hin:=WQ ⟨n,by omega⟩ ⟨t',by omega⟩ q2
  simp only at hin
  rw [←q3] at hin
  have hle:w.length≤n:=by rw [q3];exact I5 _ _
  cases hg:dP f n (n+1) 0 with
  |none =>
   have:=w2 hg w.length (by omega) w hin
   rw [q1] at this;cases this
  |some l =>
   obtain ⟨a,b,c⟩:=w1 l hg
   have hll:=sP a
   obtain ⟨t,ht,hlt⟩:=NP ⟨n,by omega⟩ ⟨l.length,by omega⟩ l a
   have a1:=q4 t.val ht (by rw [show lst n t.val=l from hlt];exact b)
   rw [show lst n t.val=l from hlt] at a1
   have a2:=c w.length w hin q1
   rw [BR a1 a2]
open Go
variable {P:Program}
def mG (P:Program) (t:TypeId) (ts:List TypeId):Prop:=∃ fs,P.underlying t=some (.struct fs)∧fs.toList.map Field.type=ts
theorem yZ {n:Nat} {t:TypeId} {ts:List TypeId} {cs:List AV} (hu:mG P t ts) (h:Typ P (n+1) t cs):mkV P t cs = .agg cs∧BZ P n ts cs:=by
 obtain ⟨fs,h1,h2⟩:=hu
 have:=HA h1 h
 rw [h2] at this
 exact ⟨GI h1,this⟩
theorem NF {t:TypeId} {a:AV} {d:TypeDesc} (hu:P.underlying t=some d) (hd:∀ fs,d≠.struct fs:=by intro fs h;cases h) (hd2:∀ k e,d≠.array k e:=by intro k e h;cases h):mkV P t [a]=a:=SF (by rw [hu];intro fs e;cases e;exact hd _ rfl) (by rw [hu];intro k e h;cases h;exact hd2 _ _ rfl)
theorem SE {n:Nat} {i t:TypeId} {cs:List AV} (hi:P.underlying i=some (.int .i64)) (hs:mG P t [i,i]) (h:Typ P (n+2) t cs):∃ s:Span,cs=[.int .i64 s.lo,.int .i64 s.hi]:=by
 obtain ⟨_,a,b,rfl,h1,c,d,rfl,h2,rfl⟩:=yZ hs h
 obtain ⟨x,rfl,_⟩:=gX hi h1
 obtain ⟨y,rfl,_⟩:=gX hi h2
 exact ⟨⟨x,y⟩,rfl⟩
theorem ZS {n:Nat} {t:TypeId} {cs:List AV} (hi:P.underlying t=some (.int .i64)) (h:Typ P (n+1) t cs):∃ x:Int,mkV P t cs = .int .i64 x∧True:=by
 obtain ⟨x,rfl,_⟩:=gX hi h
 exact ⟨x,NF hi,trivial⟩
theorem R5 {n:Nat} {t i:TypeId} {cs:List AV} (hi:P.underlying i=some (.int .i64)) (hs:P.underlying t=some (.slice i)) (h:Typ P (n+2) t cs):∃ l:List Int,mkV P t cs=Go.Am.ints l∧cs=[Go.Am.ints l]∧l.length<9223372036854775808:=by
 obtain ⟨l,rfl,⟨h1,_⟩,_⟩:=rY (f:=fun x:Int=>AV.int .i64 x) hs h fun y hy=>ZS hi hy
 exact ⟨l,NF hs,rfl,h1⟩
theorem aDF {n:Nat} {t i:TypeId} {cs:List AV} (hi:P.underlying i=some (.int .u8)) (hs:P.underlying t=some (.array 2 i)) (h:Typ P (n+2) t cs):∃ x y:Int,mkV P t cs = .agg [.int .u8 x,.int .u8 y]∧(0≤x∧x<256)∧(0≤y∧y<256):=by
 have e:=KO (cs:=cs) hs
 obtain ⟨a,b,rfl,h1,c,d,rfl,h2,rfl⟩:=LE hs h
 obtain ⟨x,rfl,hx⟩:=gX hi h1
 obtain ⟨y,rfl,hy⟩:=gX hi h2
 exact ⟨x,y,e,V6 hx,V6 hy⟩
end Go.Am.Room
namespace Go.Am.Room
def aU {α:Type} (f:Nat→α→Int):List α→Nat→Option (Nat×Int)
 |[],_=>none
 |x::xs,i=>if f i x=0 then aU f xs (i+1) else some (i,f i x)
theorem gQ {α:Type} {f:Nat→α→Int} {l:List α} {k:Nat} (h:k<l.length):aU f (l.drop k) k=if f k l[k]=0 then aU f (l.drop (k+1)) (k+1) else some (k,f k l[k]):=by
 rw [List.drop_eq_getElem_cons h];rfl
theorem iE {α:Type} {f:Nat→α→Int} {l:List α} {k:Nat} (h:k=l.length):aU f (l.drop k) k=none:=by
 rw [h,List.drop_length];rfl
def fM:List Int→Span
 |[]=>⟨0,0⟩
 |x::xs=>xs.foldl kA ⟨x,x⟩
def d9 (yes all:Nat):Int:=if yes=all then 1 else if yes=0 then 2 else 0
theorem cX {n lo hi:Int}:inR n lo hi=true↔lo≤n∧n≤hi:=by simp [inR]
theorem BK {s:Span} {lo hi:Int} (h:mS s lo hi=0):lo≤s.lo∧s.lo≤s.hi∧s.hi≤hi:=by
 unfold mS at h
 split at h
 ·omega
 ·rename_i h1
  split at h
  ·omega
  ·simp [inR] at h1;omega
theorem R4 {s:Span} {lo hi:Int} (h:lo≤s.lo∧s.lo≤s.hi∧s.hi≤hi):mS s lo hi=0:=by
 unfold mS
 rw [cX.2 ⟨h.1,by omega⟩,cX.2 ⟨by omega,h.2.2⟩]
 simp
 omega
theorem jZ {α:Type} {f:Nat→α→Int}:∀ {l:List α} {i:Nat},aU f l i=none→∀ k (h:k<l.length),f (i+k) l[k]=0
 |[],_,_,k,h=>by simp at h
 |x::xs,i,h,k,hk=>by
  simp only [aU] at h
  split at h
  ·rename_i h0
   cases k with
   |zero=>exact h0
   |succ k =>
    have:=jZ h k (by simpa using hk)
    simpa [Nat.add_assoc,Nat.add_comm 1 k] using this
  ·cases h
theorem p9 {α:Type} {f:Nat→α→Int}:∀ {l:List α} {i:Nat},(∀ x∈l,∀ k,f k x=0)→aU f l i=none
 |[],_,_=>rfl
 |x::xs,i,h=>by
  simp only [aU]
  rw [if_pos (h x (by simp) i)]
  exact p9 fun y hy=>h y (by simp [hy])
theorem g8 {α:Type} {f:Nat→α→Int}:∀ {l:List α} {i j:Nat} {e:Int},aU f l i=some (j,e)→e≠0
 |[],_,_,_,h=>by cases h
 |x::xs,i,j,e,h=>by
  simp only [aU] at h
  split at h
  ·exact g8 h
  ·rename_i hn
   simp at h
   rw [←h.2]
   exact hn
theorem tN {α:Type} {f:Nat→α→Int}:∀ {l:List α} {i:Nat},(∀ k (h:k<l.length),f (i+k) l[k]=0)→aU f l i=none
 |[],_,_=>rfl
 |x::xs,i,h=>by
  simp only [aU]
  rw [if_pos (show f i x=0 from h 0 (by simp))]
  exact tN fun k hk=>by have:=h (k+1) (by simpa using hk);simpa [Nat.add_assoc,Nat.add_comm 1 k] using this
theorem uO:∀ (n:Nat) (a:Int),aO a (n+1)=aO a n++[a+n]
 |0,a=>by simp [aO]
 |n+1,a=>by
  rw [aO,uO n (a+1)]
  simp only [aO,List.cons_append]
  congr 3
  omega
structure Rail where
 a:Int
 b:Int
 mins:Span
 shut:Int
structure Tram where
 name:ByteArray
 frm:Int
 leaves:Int
 due:Int
 path:List Int
structure Seen where
 tram:Int
 minute:Int
structure Net where
 stations:Int
 rails:List Rail
 trams:List Tram
 seen:List Seen
def cV (r:Rail):AV:=.agg [.int .i64 r.a,.int .i64 r.b,.int .i64 r.mins.lo,.int .i64 r.mins.hi,.int .i64 r.shut]
theorem aR (r:Rail):cV r = .agg [.int .i64 r.a,.int .i64 r.b,.int .i64 r.mins.lo,.int .i64 r.mins.hi,.int .i64 r.shut]:=by simp only [cV]
theorem oB (r:Rail):kQ (cV r):=jW (bI (c9 _ _) (bI (c9 _ _) (bI (c9 _ _) (bI (c9 _ _) (bI (c9 _ _) fE)))))
instance (r:Rail):Dat (cV r):=⟨oB r⟩
instance (l:List Rail):Dats (l.map cV):=⟨dE oB l⟩
theorem aY (σ:St) (m d:Nat) (l:List Rail):cN σ m d (l.map cV)=some (l.map cV):=m4 (dE oB l) σ m d
def bX (t:Tram):AV:=.agg [.str t.name,.int .i64 t.frm,.int .i64 t.leaves,.int .i64 t.due,ints t.path]
theorem aT (t:Tram):bX t = .agg [.str t.name,.int .i64 t.frm,.int .i64 t.leaves,.int .i64 t.due,ints t.path]:=by simp only [bX]
theorem oE (t:Tram):kQ (bX t):=jW (bI (tQ _) (bI (c9 _ _) (bI (c9 _ _) (bI (c9 _ _) (bI (jA _) fE)))))
instance (t:Tram):Dat (bX t):=⟨oE t⟩
instance (l:List Tram):Dats (l.map bX):=⟨dE oE l⟩
theorem aW (σ:St) (m d:Nat) (l:List Tram):cN σ m d (l.map bX)=some (l.map bX):=m4 (dE oE l) σ m d
def dB (x:Seen):AV:=.agg [.int .i64 x.tram,.int .i64 x.minute]
theorem aS (x:Seen):dB x = .agg [.int .i64 x.tram,.int .i64 x.minute]:=by simp only [dB]
theorem nW (x:Seen):kQ (dB x):=jW (bI (c9 _ _) (bI (c9 _ _) fE))
instance (x:Seen):Dat (dB x):=⟨nW x⟩
instance (l:List Seen):Dats (l.map dB):=⟨dE nW l⟩
theorem aV (σ:St) (m d:Nat) (l:List Seen):cN σ m d (l.map dB)=some (l.map dB):=m4 (dE nW l) σ m d
def aB (v:Net):List AV:=[.int .i64 v.stations,.lit (v.rails.map cV) false none,.lit (v.trams.map bX) false none,.lit (v.seen.map dB) false none]
theorem aK (v:Net):aB v=[.int .i64 v.stations,.lit (v.rails.map cV) false none,.lit (v.trams.map bX) false none,.lit (v.seen.map dB) false none]:=by simp only [aB]
def dH (v:Net):AV:=.agg (aB v)
theorem aZ (v:Net):dH v = .agg (aB v):=by simp only [dH]
theorem P9 (v:Net):kQ (dH v):=jW (bI (c9 _ _) (bI (iD oB _) (bI (iD oE _) (bI (iD nW _) fE))))
instance (v:Net):Dat (dH v):=⟨P9 v⟩
structure Fits (v:Net):Prop where
 rails:v.rails.length<9223372036854775808
 trams:v.trams.length<9223372036854775808
 seen:v.seen.length<9223372036854775808
 names:∀ t∈v.trams,t.name.size<9223372036854775808
 paths:∀ t∈v.trams,t.path.length<9223372036854775808
def kK (v:Net) (s:Int):Bool:=inR s 0 (v.stations-1)
def bY (v:Net) (r:Rail):Int :=
 if kK v r.a=false∨kK v r.b=false then 4 else if r.a=r.b then 2
 else if mS r.mins 1 20=7∨inR r.shut 0 2=false then 7 else if mS r.mins 1 20≠0∨r.mins.lo+1<r.mins.hi then 2 else 0
def bU (r:Rail) (s:Int):Int:=if s=r.a then r.b else if s=r.b then r.a else -1
def cI (v:Net) (r:Int):Rail:=(v.rails[r.toNat]?).getD ⟨0,0,⟨0,0⟩,0⟩
def gL (v:Net):List Int→Int→List Int→Bool
 |[],s,_=>s==0
 |r::l,s,met =>
  if bU (cI v r) s<0∨met.contains (bU (cI v r) s)=true∨(bU (cI v r) s=0∧l≠[]) then false
  else gL v l (bU (cI v r) s) (met++[bU (cI v r) s])
def fH (v:Net) (s:Int) (path:List Int):Bool:=if inR path.length 1 4=false∨s=0 then false else gL v path s [s]
def eX (v:Net) (t:Tram):Int :=
 if kK v t.frm=false then 4 else if inR t.leaves 0 60=false∨inR t.due 0 400=false then 7
 else if inR t.path.length 1 4=false then 3 else if t.path.all (fun r=>inR r 0 ((v.rails.length:Int)-1))=false then 4
 else if fH v t.frm t.path=false then 2 else 0
def fP (v:Net) (i:Nat) (t:Tram):Int:=if fresh t.name ((v.trams.take i).map Tram.name)=0 then eX v t else fresh t.name ((v.trams.take i).map Tram.name)
def gV (v:Net) (_:Nat) (x:Seen):Int:=if inR x.tram 0 ((v.trams.length:Int)-1)=false then 4 else if inR x.minute (-1) 400=false then 7 else 0
def kU (v:Net):Int×Int×Int:=if 3<v.seen.length then (4,0,3) else match aU (gV v) v.seen 0 with|some (i,e)=>(4,i,e)|none=>(0,0,0)
def k6 (v:Net):Int×Int×Int:=if 3<v.trams.length then (3,0,3) else match aU (fP v) v.trams 0 with|some (i,e)=>(3,i,e)|none=>kU v
def kW (v:Net):Int×Int×Int:=if 5<v.rails.length then (2,0,3) else match aU (fun _ r=>bY v r) v.rails 0 with|some (i,e)=>(2,i,e)|none=>k6 v
def cF (v:Net):Int×Int×Int:=if inR v.stations 2 5=false then (1,0,7) else kW v
def s8 (v:Net) (but l:List Int) (r:Int):Bool:=!decide ((cI v r).shut=1)&&!but.contains r&&!l.contains r
def rZ (v:Net) (but l:List Int):List (List Int):=((aO 0 v.rails.length).filter (s8 v but l)).map fun r=>l++[r]
def eM (v:Net) (but:List Int):Nat→List (List Int)
 |0=>[[]]
 |k+1=>(eM v but k).flatMap (rZ v but)
def eD (v:Net) (s:Int) (but:List Int):Nat→List (List Int)
 |0=>[]
 |k+1=>eD v s but k++(eM v but (k+1)).filter (fH v s)
def bW (v:Net) (s:Int) (but:List Int):List (List Int):=eD v s but 4
def iJ (v:Net) (s:Int):List (List Int)×Int:=if (cF v).2.2=0 then (if kK v s=true then (bW v s [],0) else ([],4)) else ([],(cF v).2.2)
structure State where
 closed:List Bool
 mins:List Int
def yG (s:Span):List Int:=aO s.lo (s.hi+1-s.lo).toNat
def C8 (shut:Int) (c:Bool):Bool:=!(c&&decide (shut=0)||!c&&decide (shut=1))
def O6 (r:Rail) (s:State):List State:=(yG r.mins).flatMap fun m=>([false,true].filter (C8 r.shut)).map fun c=>⟨s.closed++[c],s.mins++[m]⟩
def y0 (rs:List Rail):Nat→List State
 |0=>[⟨[],[]⟩]
 |k+1=>match rs[k]? with|some r=>(y0 rs k).flatMap (O6 r)|none=>y0 rs k
def uA (v:Net):List State:=y0 v.rails v.rails.length
def eff (s:State) (r:Int):Int:=if (s.closed[r.toNat]?).getD false=true then 0 else (s.mins[r.toNat]?).getD 0
structure Stay where
 tram:Int
 rail:Int
 frm:Int
 til:Int
def iL (rail ready m:Int) (x:Stay):Bool:=decide (x.rail=rail)&&decide (x.frm<ready+m)&&decide (ready<x.til)
def tA (ss:List Stay) (rail m:Int):Nat→Int→Int
 |0,s=>s
 |k+1,s=>if ss.any (iL rail s m)=true then tA ss rail m k (s+1) else s
def j8 (ss:List Stay) (rail ready m:Int):Int:=tA ss rail m 1000 ready
def pB (m:Int→Int) (i:Int):List Int→Int→List Stay→List Stay×Int
 |[],at_,ss=>(ss,at_)
 |r::l,at_,ss=>pB m i l (j8 ss r at_ (m r)+m r) (ss++[⟨i,r,j8 ss r at_ (m r),j8 ss r at_ (m r)+m r⟩])
def nO (m:Int→Int) (i:Int) (leaves:Int) (path:List Int) (ss:List Stay):List Stay×Int :=
 if path.any (fun r=>m r==0)=true then (ss,-1) else pB m i path leaves ss
def l0 (v:Net) (i:Nat):Int:=match v.trams[i]? with|some t=>t.leaves|none=>0
def eE (ps:List (List Int)) (i:Nat):List Int:=(ps[i]?).getD []
def fJ (v:Net) (m:Int→Int) (ps:List (List Int)):Nat→List Stay×List Int
 |0=>([],[])
 |k+1=>((nO m k (l0 v k) (eE ps k) (fJ v m ps k).1).1,(fJ v m ps k).2++[(nO m k (l0 v k) (eE ps k) (fJ v m ps k).1).2])
def iR (v:Net) (ps:List (List Int)) (m:Int→Int):List Int:=(fJ v m ps v.trams.length).2
def lY (v:Net):List (List Int):=v.trams.map Tram.path
def uD (v:Net) (s:State):List Int:=iR v (lY v) (eff s)
def fL (cs:List Int) (t:Int):Int:=(cs[t.toNat]?).getD 0
def lW (v:Net) (but cs:List Int):Bool:=(List.range v.seen.length).all fun k=>match v.seen[k]? with|some x=>but.contains (k:Int)||fL cs x.tram==x.minute|none=>true
def bZ (v:Net) (but:List Int):List State:=(uA v).filter fun s=>lW v but (uD v s)
def yF (v:Net) (but:List Int):Bool:=!(bZ v but).isEmpty
def gZ (v:Net) (e:Int):Int:=if e=0 then (if (bZ v []).isEmpty then 8 else 0) else e
def fG (v:Net):Int:=gZ v (cF v).2.2
def lJ (v:Net) (t:Int):Int:=gZ v (if (cF v).2.2=0 then (if inR t 0 ((v.trams.length:Int)-1) then 0 else 4) else (cF v).2.2)
def I3 (v:Net) (l:List State) (t:Nat):List Int:=l.map fun s=>fL (uD v s) t
def eG (ats:List Int):List Int:=ats.filter fun c=>!decide (c = -1)
def oZ (ats:List Int):Span×Int:=(fM (eG ats),d9 (eG ats).length ats.length)
def pW (v:Net) (t:Int):Span×Int×Int:=if lJ v t=0 then ((oZ (I3 v (bZ v []) t.toNat)).1,(oZ (I3 v (bZ v []) t.toNat)).2,0) else (⟨0,0⟩,0,lJ v t)
def wB (v:Net) (t:Nat):Int:=match v.trams[t]? with|some x=>x.due|none=>0
def jT (v:Net) (t:Nat) (c:Int):Bool:=!decide (c = -1)&&decide (c≤wB v t)
def CZ (v:Net) (t:Int) (s:State):Bool:=!jT v t.toNat (fL (uD v s) t)
def FC (v:Net) (l:List State) (t:Int):Bool:=l.all (CZ v t)
def CR (v:Net) (l:List State) (t:Int):Bool:=l.any (CZ v t)
def NI (v:Net) (l:List State):List Int:=(aO 0 v.trams.length).filter (FC v l)
def EG (v:Net) (l:List State):List Int:=(aO 0 v.trams.length).filter (CR v l)
def u3 (v:Net):List Int×List Int×Int:=if fG v=0 then (NI v (bZ v []),EG v (bZ v []),0) else ([],[],fG v)
def iT (v:Net):List Int→Int→Int
 |[],b=>b
 |t::l,b=>iT v l (if b<0∨wB v t.toNat<wB v b.toNat then t else b)
def lK (v:Net):Int×Int:=if fG v=0 then (if EG v (bZ v [])=[] then (0,9) else (iT v (EG v (bZ v [])) (-1),0)) else (0,fG v)
def QH (v:Net) (ps:List (List Int)) (s:State):Bool:=(List.range v.trams.length).all fun t=>jT v t (fL (iR v ps (eff s)) t)
def MT (v:Net) (l:List State) (ps:List (List Int)):Bool:=l.all (QH v ps)
def lE (v:Net) (ps:List (List Int)):List Int:=(aO 0 ps.length).filter fun t=>!decide (eE ps t.toNat=eE (lY v) t.toNat)
def fK (v:Net) (t:Nat):Int:=match v.trams[t]? with|some x=>x.frm|none=>0
def lI (v:Net):Nat→List (List (List Int))
 |0=>[[]]
 |k+1=>(lI v k).flatMap fun p=>(bW v (fK v k) []).map fun w=>p++[w]
def uH (v:Net):List (List (List Int)):=lI v v.trams.length
def GZ (v:Net) (l:List State) (many:Nat) (p:List (List Int)):Bool:=(lE v p).length==many&&MT v l p
def uT (v:Net) (l:List State):Nat→Nat→Option (List (List Int))
 |0,_=>none
 |k+1,m=>match (uH v).find? (GZ v l m) with|some p=>some p|none=>uT v l k (m+1)
def pK (v:Net) (l:List State):Option (List (List Int)):=uT v l (v.trams.length+1) 0
def oU (v:Net):List (List Int)×List Int×Int:=if fG v=0 then (match pK v (bZ v []) with|some p=>(p,lE v p,0)|none=>([],[],9)) else ([],[],fG v)
def tV (r:Int) (s:State):Bool:=(s.closed[r.toNat]?).getD false
def N0 (v:Net) (l:List State):List Int:=(aO 0 v.rails.length).filter fun r=>l.all (tV r)
def YD (v:Net) (l:List State):List Int:=(aO 0 v.rails.length).filter fun r=>l.any (tV r)
def vJ (v:Net):List Int×List Int×Int:=if fG v=0 then (N0 v (bZ v []),YD v (bZ v []),0) else ([],[],fG v)
def eV (v:Net) (r:Int):Int:=(((List.range v.trams.length).filter fun t=>(bW v (fK v t) [r]).isEmpty).length:Int)
def nF (v:Net):List Int→Int×Int→Int×Int
 |[],b=>b
 |r::l,b=>nF v l (if (cI v r).shut=1 then b else if b.1<0∨b.2<eV v r then (r,eV v r) else b)
def oP (v:Net):Int×Int:=nF v (aO 0 v.rails.length) (-1,0)
def kI (v:Net):Int×Int×Int:=if (cF v).2.2=0 then (if (oP v).1<0 then (0,0,9) else ((oP v).1,(oP v).2,0)) else (0,0,(cF v).2.2)
def yO (v:Net):List Int:=(dP (yF v) v.seen.length v.seen.length 0).getD (((dK v.seen.length v.seen.length)[0]?).getD [])
def wZ (v:Net):List Int×Int:=if (cF v).2.2=0 then (yO v,0) else ([],(cF v).2.2)
def QN:ByteArray:=⟨#[114,101,100]⟩
def GQ:ByteArray:=⟨#[98,108,117,101]⟩
def exN (o:Bool) (l:List Seen):Net:=⟨4,[⟨1,0,⟨5,6⟩,if o then 2 else 0⟩,⟨2,1,⟨4,4⟩,0⟩,⟨2,0,⟨12,12⟩,if o then 0 else 2⟩,⟨3,2,⟨3,3⟩,0⟩],[⟨QN,2,0,12,[1,0]⟩,⟨GQ,3,0,24,[3,1,0]⟩],l⟩
def exH:Net:=exN false []
def exK:Net:=exN true []
def exS:Net:=exN true [⟨0,-1⟩,⟨1,15⟩]
def exT:Net:=exN true [⟨0,-1⟩]
theorem x1:iJ exH 3=([[3,2],[3,1,0]],0):=by decide +kernel
theorem x2:pW exH 1=(⟨14,16⟩,1,0):=by decide +kernel
theorem x3:(pW exK 1).2=(0,0):=by decide +kernel
theorem x4:(pW exT 0).2=(2,0):=by decide +kernel
theorem x5:u3 exK=([],[0,1],0):=by decide +kernel
theorem x6:lK exK=(0,0):=by decide +kernel
theorem x7:lK exH=(0,9):=by decide +kernel
theorem x8:oU exK=([[2],[3,2]],[0,1],0):=by decide +kernel
theorem x9:vJ exH=([],[2],0):=by decide +kernel
theorem x10:kI exH=(3,1,0):=by decide +kernel
theorem x11:wZ exS=([1],0):=by decide +kernel
theorem x12:lK exS=(0,8):=by decide +kernel
open Go
variable {P:Program}
structure Tys (P:Program):Prop where
 int:P.underlying 3=some (.int .i64)
 u8:P.underlying 5=some (.int .u8)
 str:P.underlying 9=some .string
 rails:P.underlying 22=some (.slice 87)
 trams:P.underlying 23=some (.slice 65)
 seens:P.underlying 24=some (.slice 53)
 net:mG P 26 [3,22,23,24]
 span:mG P 37 [3,3]
 ints:P.underlying 40=some (.slice 3)
 seen:mG P 53 [3,3]
 u16:P.underlying 56=some (.int .u16)
 tram:mG P 65 [9,3,3,3,40]
 u8s:P.underlying 74=some (.slice 5)
 rail:mG P 87 [3,3,37,3]
 a2:P.underlying 91=some (.array 2 5)
 seenB:P.bytesOf 53=16
 tramB:P.bytesOf 65=64
theorem TQ {n:Nat} {cs:List AV} (T:Tys P) (h:Typ P (n+3) 87 cs):∃ s:Rail,mkV P 87 cs=cV s∧True:=by
 obtain ⟨e,a1,b1,rfl,h1,a2,b2,rfl,h2,a3,b3,rfl,h3,a4,b4,rfl,h4,rfl⟩:=yZ T.rail h
 obtain ⟨x1,rfl,_⟩:=gX T.int h1
 obtain ⟨x2,rfl,_⟩:=gX T.int h2
 obtain ⟨x3,rfl⟩:=SE T.int T.span h3
 obtain ⟨x4,rfl,_⟩:=gX T.int h4
 exact ⟨⟨x1,x2,x3,x4⟩,e,trivial⟩
theorem SZ {n:Nat} {cs:List AV} (T:Tys P) (h:Typ P (n+3) 65 cs):∃ s:Tram,mkV P 65 cs=bX s∧(s.name.size<9223372036854775808∧s.path.length<9223372036854775808):=by
 obtain ⟨e,a1,b1,rfl,h1,a2,b2,rfl,h2,a3,b3,rfl,h3,a4,b4,rfl,h4,a5,b5,rfl,h5,rfl⟩:=yZ T.tram h
 obtain ⟨x1,rfl,hx⟩:=RW T.str h1
 obtain ⟨x2,rfl,_⟩:=gX T.int h2
 obtain ⟨x3,rfl,_⟩:=gX T.int h3
 obtain ⟨x4,rfl,_⟩:=gX T.int h4
 obtain ⟨x5,_,rfl,l5⟩:=R5 T.int T.ints h5
 exact ⟨⟨x1,x2,x3,x4,x5⟩,e,by simp only [maxLen] at hx;simp only;omega,l5⟩
theorem TC {n:Nat} {cs:List AV} (T:Tys P) (h:Typ P (n+2) 53 cs):∃ s:Seen,mkV P 53 cs=dB s∧True:=by
 obtain ⟨e,a,b,rfl,h1,c,d,rfl,h2,rfl⟩:=yZ T.seen h
 obtain ⟨x,rfl,_⟩:=gX T.int h1
 obtain ⟨y,rfl,_⟩:=gX T.int h2
 exact ⟨⟨x,y⟩,e,trivial⟩
theorem aC0 {n:Nat} {cs:List AV} (T:Tys P) (h:Typ P (n+2) 91 cs):∃ x y:Int,mkV P 91 cs = .agg [.int .u8 x,.int .u8 y]∧(0≤x∧x<256)∧(0≤y∧y<256):=aDF T.u8 T.a2 h
theorem SW {n:Nat} {cs:List AV} (T:Tys P) (h:Typ P (n+5) 26 cs):∃ s:Net,mkV P 26 cs=dH s∧Fits s∧s.seen.length*16≤140737488351232∧s.trams.length*64≤140737488351232:=by
 obtain ⟨e,a1,b1,rfl,h1,a2,b2,rfl,h2,a3,b3,rfl,h3,a4,b4,rfl,h4,rfl⟩:=yZ T.net h
 obtain ⟨x1,rfl,_⟩:=gX T.int h1
 obtain ⟨x2,rfl,⟨l2,_⟩,_⟩:=rY T.rails h2 fun y hy=>TQ T hy
 obtain ⟨x3,rfl,⟨l3,b3⟩,q3⟩:=rY T.trams h3 fun y hy=>SZ T hy
 obtain ⟨x4,rfl,⟨l4,b4⟩,_⟩:=rY T.seens h4 fun y hy=>TC T hy
 exact ⟨⟨x1,x2,x3,x4⟩,e,⟨l2,l3,l4,fun t ht=>(q3 t ht).1,fun t ht=>(q3 t ht).2⟩,by rw [T.seenB] at b4;simpa [reachBytes] using b4,by rw [T.tramB] at b3;simpa [reachBytes] using b3⟩
theorem YY {n:Nat} {cs:List AV} (T:Tys P) (h:Typ P (n+5) 26 cs):∃ s:Net,mkV P 26 cs=dH s∧Fits s:=by
 obtain ⟨r,h1,h2,_⟩:=SW T h
 exact ⟨r,h1,h2⟩
end Go.Am.Room
namespace Go.Am.Room
structure RailOk (v:Net) (r:Rail):Prop where
 a:0≤r.a∧r.a<v.stations
 b:0≤r.b∧r.b<v.stations
 ne:r.a≠r.b
 mins:1≤r.mins.lo∧r.mins.lo≤r.mins.hi∧r.mins.hi≤20∧r.mins.hi≤r.mins.lo+1
 shut:0≤r.shut∧r.shut≤2
structure Vd (v:Net):Prop where
 st:2≤v.stations∧v.stations≤5
 nra:v.rails.length≤5
 ra:∀ r∈v.rails,RailOk v r
 ntr:v.trams.length≤3
 tr:∀ i (h:i<v.trams.length),fP v i v.trams[i]=0
 nse:v.seen.length≤3
 se:∀ x∈v.seen,(0≤x.tram∧x.tram<v.trams.length)∧-1≤x.minute∧x.minute≤400
theorem jM {v:Net} {s:Int}:kK v s=true↔0≤s∧s<v.stations:=by
 rw [kK,cX];omega
theorem vV {v:Net} {r:Rail}:bY v r=0↔RailOk v r:=by
 constructor
 ·intro h
  unfold bY at h
  split at h
  ·omega
  rename_i h1
  split at h
  ·omega
  rename_i h2
  split at h
  ·omega
  rename_i h3
  split at h
  ·omega
  rename_i h4
  rw [not_or,Bool.not_eq_false,Bool.not_eq_false,jM,jM] at h1
  rw [not_or,Bool.not_eq_false,cX] at h3
  rw [not_or,Decidable.not_not] at h4
  have:=BK h4.1
  exact ⟨h1.1,h1.2,h2,by omega,h3.2⟩
 ·intro h
  have h1:=h.mins
  have e:=R4 (show 1≤r.mins.lo∧r.mins.lo≤r.mins.hi∧r.mins.hi≤20 by omega)
  rw [bY,if_neg (by simp [jM.2 h.a,jM.2 h.b]),if_neg h.ne,if_neg (by simp [e,cX.2 h.shut]),if_neg (by simp [e];omega)]
theorem g7 {v:Net} (h:(cF v).2.2=0):Vd v:=by
 unfold cF at h
 split at h
 ·simp at h
 rename_i c1
 unfold kW at h
 split at h
 ·simp at h
 rename_i c2
 split at h
 ·rename_i i e he;exact absurd h (g8 he)
 rename_i f2
 unfold k6 at h
 split at h
 ·simp at h
 rename_i c3
 split at h
 ·rename_i i e he;exact absurd h (g8 he)
 rename_i f3
 unfold kU at h
 split at h
 ·simp at h
 rename_i c4
 split at h
 ·rename_i i e he;exact absurd h (g8 he)
 rename_i f4
 rw [Bool.not_eq_false,cX] at c1
 refine ⟨c1,by omega,?_,by omega,fun i hi=>by simpa using jZ f3 i hi,by omega,?_⟩
 ·intro x hx
  obtain ⟨k,hk,rfl⟩:=List.getElem_of_mem hx
  exact vV.1 (jZ f2 k hk)
 ·intro x hx
  obtain ⟨k,hk,rfl⟩:=List.getElem_of_mem hx
  have:=jZ f4 k hk
  unfold gV at this
  split at this
  ·omega
  rename_i hi
  split at this
  ·omega
  rename_i hj
  rw [Bool.not_eq_false,cX] at hi hj
  omega
theorem qO {v:Net} (h:Vd v):cF v=(0,0,0):=by
 have h1:=h.st
 have h2:=h.nra
 have h3:=h.ntr
 have h4:=h.nse
 have g2:aU (fun _ r=>bY v r) v.rails 0=none:=p9 fun r hr k=>vV.2 (h.ra r hr)
 have g3:aU (fP v) v.trams 0=none:=tN fun k hk=>by simpa using h.tr k hk
 have g4:aU (gV v) v.seen 0=none:=p9 fun x hx k=>by
  have:=h.se x hx
  have a:inR x.tram 0 ((v.trams.length:Int)-1)=true:=cX.2 (by omega)
  have b:inR x.minute (-1) 400=true:=cX.2 (by omega)
  simp [gV,a,b]
 have e4:kU v=(0,0,0):=by rw [kU,if_neg (by omega),g4]
 have e3:k6 v=(0,0,0):=by rw [k6,if_neg (by omega),g3];exact e4
 have e2:kW v=(0,0,0):=by rw [kW,if_neg (by omega),g2];exact e3
 rw [cF,if_neg (by rw [Bool.not_eq_false];exact cX.2 h1)]
 exact e2
structure TramOk (v:Net) (t:Tram):Prop where
 frm:0≤t.frm∧t.frm<v.stations
 leaves:0≤t.leaves∧t.leaves≤60
 due:0≤t.due∧t.due≤400
 len:1≤t.path.length∧t.path.length≤4
 path:∀ r∈t.path,0≤r∧r<v.rails.length
 leads:fH v t.frm t.path=true
theorem NZ {v:Net} {t:Tram} (h:eX v t=0):TramOk v t:=by
 unfold eX at h
 split at h
 ·omega
 rename_i h1
 split at h
 ·omega
 rename_i h2
 split at h
 ·omega
 rename_i h3
 split at h
 ·omega
 rename_i h4
 split at h
 ·omega
 rename_i h5
 rw [Bool.not_eq_false] at h1 h3 h4 h5
 rw [not_or,Bool.not_eq_false,Bool.not_eq_false,cX,cX] at h2
 rw [jM] at h1
 rw [cX] at h3
 rw [List.all_eq_true] at h4
 exact ⟨h1,h2.1,h2.2,by omega,fun r hr=>by have:=cX.1 (h4 r hr);omega,h5⟩
theorem wC {v:Net} (h:Vd v) {i:Nat} (hi:i<v.trams.length):TramOk v v.trams[i]:=by
 have:=h.tr i hi
 unfold fP at this
 split at this
 ·exact NZ this
 ·rename_i h0;exact absurd this h0
theorem wY {v:Net} {r:Nat} (h:r<v.rails.length):cI v (r:Int)=v.rails[r]:=by simp [cI,h]
theorem u7 {σ:St} {sz b:Nat} {xs ys:List AV} {ex f:Bool} {t:Nat} {tk:Option Nat} (h:WK sz b xs ys) (h0:ys.length≠0) (n:Nat) (hn:n=xs.length) (ht:σ[t]? = some (.tok sz n ex)) :
  gO sz b σ (.lit xs false (some t)) (.lit ys f tk)=some (.lit (xs++ys) false (some t),σ.set t (.tok sz (n+ys.length) true)):=by
 subst hn
 exact DB h h0 ht
theorem dL (m:Nat):∀ (σ a b c:St),EqS m (σ++a) (σ++b) (σ++c)=EqS m a b c
 |[],a,b,c=>rfl
 |x::σ,a,b,c=>by simp only [List.cons_append,EqS,dL m σ a b c,true_or,true_and,and_self]
theorem aDX (a:Nat) (h:a<9223372036854775808):Go.Am.bits .and .i64 (a:Int) 1=((a%2:Nat):Int):=by
 have e1:(BitVec.ofInt 64 (a:Int) &&& BitVec.ofInt 64 1).toNat=a%2:=by
  rw [BitVec.toNat_and]
  have h1:(BitVec.ofInt 64 (a:Int)).toNat=a:=by
   rw [BitVec.toNat_ofInt]
   omega
  have h2:(BitVec.ofInt 64 1).toNat=1:=by decide
  rw [h1,h2,Nat.and_one_is_mod]
 show IntKind.i64.wrap (((BitVec.ofInt 64 (a:Int) &&& BitVec.ofInt 64 1).toNat:Nat):Int)=_
 rw [e1]
 exact dZ ⟨by omega,by omega⟩
theorem H7 (a:Nat) (h:a<9223372036854775808):fD .and (.int .i64 (a:Int)) (.int .i64 1)=some (.int .i64 ((a%2:Nat):Int)):=by
 simp [fD,kC,aDX a h]
theorem O7 (a i:Nat) (h:i≤60):fD .shr (.int .i64 (a:Int)) (.int .i64 (i:Int))=some (.int .i64 ((a/2^i:Nat):Int)):=by
 have hm:Nat.min i 64=i:=Nat.min_eq_left (by omega)
 have h0:¬(i:Int)<0:=by omega
 simp only [fD,h0,if_false,IntKind.bits,Int.toNat_natCast,hm,Option.some.injEq,AV.int.injEq,true_and]
 rw [Int.fdiv_eq_ediv_of_nonneg _ (Int.pow_nonneg (by omega))]
 norm_cast
theorem dR (m:Nat) (σ b c:St):EqS m σ (σ++b) (σ++c)=EqS m [] b c:=by have:=dL m σ [] b c;rwa [List.append_nil] at this
def xP (T:FuncId→Option AFunc) (f:AV) (args:List AV) (σ:St) (v:AV) (σ':St):Prop:=Run T (.callv f args σ) fun o=>o.v=v∧o.σ=σ'
theorem cO {f:AV} {args:List AV} {v:AV} {σ σ':St} {K:AV→St→Prop} (h:xP T f args σ v σ') (k:K v σ'):cK (K:=⟨K⟩) T f args σ:=.mono h fun o ho=>by rw [ho.1,ho.2];exact k
theorem HJ (n:Nat):(List.replicate n [AV.int .i64 0]).flatten=List.replicate n (.int .i64 0):=by
 induction n with
 |zero=>rfl
 |succ n ih=>simp [List.replicate_succ,ih]
theorem GW (l:List Int):(l.map (AV.int .i64)).flatMap AV.cells=l.map (.int .i64):=by
 induction l with
 |nil=>rfl
 |cons x l ih=>simp only [List.map_cons,List.flatMap_cons,ih,AV.cells];rfl
theorem xE (z v:AV):IX true z (some (some v))=some (.tuple [v,.bool true]):=rfl
theorem xH (z:AV):IX true z (some none)=some (.tuple [z,.bool false]):=rfl
theorem JO (k:Nat) (x:ABlk) (hx:aN k x):∀ (A a b c:St) (i:Nat),EqS k (A++a) (A.set i x++b) (A.set i x++c)=EqS k a b c
 |[],a,b,c,i=>by simp
 |y::A,a,b,c,0=>by
  simp only [List.set_cons_zero,List.cons_append,EqS,dL,hx,or_true,true_and,and_self]
 |y::A,a,b,c,i+1=>by
  have:=JO k x hx A a b c i
  simp only [List.set_cons_succ,List.cons_append,EqS,this,true_or,true_and,and_self]
theorem nC (i:Nat):cC 1 (.yield i)=true:=by simp [cC,AV.cells,AV.cell]
theorem m8 (i:Nat):(AV.yield i).cells=[.yield i]:=by simp [AV.cells]
theorem EK {f:AOpd} {g:FuncId} {first cap:List AV} {ps:List Nat} {a b:ACode} {e:Env} {σ:St} {K:KJ} {R:Out→Prop} (hf:f.ev e = .func g first cap)
  (h:Run T (.call g (first++[.yield σ.length]++cap) (σ++[.loop .ready none e ps a b])) R)
  (h1:∀ o,R o→∃ st pend env' ps' a' b',o.σ[σ.length]? = some (.loop st pend env' ps' a' b')∧st≠.busy∧K pend e (o.σ.set σ.length .dead)):rK (K:=⟨K⟩) T (.rangeFunc f ps a b) e σ:=.rangeFunc hf h h1
theorem qE {σ:St} {l:List Int} {a:Int} {ex:Bool} {t:Nat} (hn:l.length<100) (ht:σ[t]? = some (.tok 1 l.length ex)):gO 1 8 σ (.lit (l.map (.int .i64)) false (some t)) (.lit [.int .i64 a] true none)=some (.lit ((l++[a]).map (.int .i64)) false (some t),σ.set t (.tok 1 (l.length+1) true)):=by
 rw [DB (ex:=ex) ⟨vN 1 _ l (fun x=>NV _ _),by simp [aM,AV.cells,AV.cell],by simp [room];omega,by simp [room];omega⟩ (by simp) (by simpa using ht)]
 simp
theorem E7 {vs:List AV} (h:mI vs) (m:Nat):okVs m vs:=okVs_up _ h.1
theorem xG {v:AV} (h:kQ v) (m:Nat):okV m v:=(E7 (bI h fE) m).1
end Go.Am.Room
set_option maxRecDepth 4000
namespace Go.Am.Room
def aX:=And.intro @aZ (And.intro @aK (And.intro @aR (And.intro @aT (And.intro @aS (And.intro @aQ (And.intro @aY (And.intro @aW (@aV))))))))
theorem iV (v:Net) (s:Int) (hst:2≤v.stations∧v.stations≤5):eC T 78 [dH v,.int .i64 s] (.bool (kK v s)):=by
 refine bA (af:=a78) rfl (by simp [a78]) dd ?_
 have hw:IntKind.i64.wrap (v.stations-1)=v.stations-1:=dZ ⟨by omega,by omega⟩
 (repeat (first|simp only [↓QA,QB,Nat.reduceLT,reduceIte,Nat.reduceEqDiff,Nat.reduceAdd,Nat.reduceLeDiff,Nat.reduceMul,Nat.reduceBEq,aX,a78,hw]|refine rd0 rfl ?_))
 ((first|refine aF (eW s 0 (v.stations-1)) rfl dd ?_|refine aH (eW s 0 (v.stations-1)) rfl dd ?_);(repeat (first|simp only [↓QA,QB,Nat.reduceLT,reduceIte,Nat.reduceEqDiff,Nat.reduceAdd,Nat.reduceLeDiff,Nat.reduceMul,Nat.reduceBEq,aX,kK]|refine rd0 rfl ?_)))
theorem M6 (r:Rail) (s:Int):eC T 97 [cV r,.int .i64 s] (.int .i64 (bU r s)):=by
 refine bA (af:=a97) rfl (by simp [a97]) dd ?_
 (repeat (first|simp only [↓QA,QB,Nat.reduceLT,reduceIte,Nat.reduceEqDiff,Nat.reduceAdd,Nat.reduceLeDiff,Nat.reduceMul,Nat.reduceBEq,aX,a97]|refine rd0 rfl ?_))
 cases h1:(s==r.a)
 ·have h1':s≠r.a:=by simpa using h1
  (repeat (first|simp only [↓QA,QB,Nat.reduceLT,reduceIte,Nat.reduceEqDiff,Nat.reduceAdd,Nat.reduceLeDiff,Nat.reduceMul,Nat.reduceBEq,aX,h1]|refine rd0 rfl ?_))
  cases h2:(s==r.b)
  ·have h2':s≠r.b:=by simpa using h2
   (repeat (first|simp only [↓QA,QB,Nat.reduceLT,reduceIte,Nat.reduceEqDiff,Nat.reduceAdd,Nat.reduceLeDiff,Nat.reduceMul,Nat.reduceBEq,aX,h2]|refine rd0 rfl ?_))
   simp [bU,h1',h2']
  ·have h2':s=r.b:=by simpa using h2
   (repeat (first|simp only [↓QA,QB,Nat.reduceLT,reduceIte,Nat.reduceEqDiff,Nat.reduceAdd,Nat.reduceLeDiff,Nat.reduceMul,Nat.reduceBEq,aX,h2]|refine rd0 rfl ?_))
   simp only [bU,if_neg h1',if_pos h2']
 ·have h1':s=r.a:=by simpa using h1
  (repeat (first|simp only [↓QA,QB,Nat.reduceLT,reduceIte,Nat.reduceEqDiff,Nat.reduceAdd,Nat.reduceLeDiff,Nat.reduceMul,Nat.reduceBEq,aX,h1]|refine rd0 rfl ?_))
  simp only [bU,if_pos h1']
theorem MX (v:Net) (r:Rail) (hst:2≤v.stations∧v.stations≤5):eC T 74 [dH v,cV r] (.int .i64 (bY v r)):=by
 refine bA (af:=a74) rfl (by simp [a74]) dd ?_
 (repeat (first|simp only [↓QA,QB,Nat.reduceLT,reduceIte,Nat.reduceEqDiff,Nat.reduceAdd,Nat.reduceLeDiff,Nat.reduceMul,Nat.reduceBEq,aX,a74]|refine rd0 rfl ?_))
 ((first|refine aF (iV v r.a hst) rfl dd ?_|refine aH (iV v r.a hst) rfl dd ?_);(repeat (first|simp only [↓QA,QB,Nat.reduceLT,reduceIte,Nat.reduceEqDiff,Nat.reduceAdd,Nat.reduceLeDiff,Nat.reduceMul,Nat.reduceBEq,aX]|refine rd0 rfl ?_)))
 cases h1:kK v r.a
 ·(repeat (first|simp only [↓QA,QB,Nat.reduceLT,reduceIte,Nat.reduceEqDiff,Nat.reduceAdd,Nat.reduceLeDiff,Nat.reduceMul,Nat.reduceBEq,aX]|refine rd0 rfl ?_))
  simp [bY,h1]
 ·(repeat (first|simp only [↓QA,QB,Nat.reduceLT,reduceIte,Nat.reduceEqDiff,Nat.reduceAdd,Nat.reduceLeDiff,Nat.reduceMul,Nat.reduceBEq,aX]|refine rd0 rfl ?_))
  ((first|refine aF (iV v r.b hst) rfl dd ?_|refine aH (iV v r.b hst) rfl dd ?_);(repeat (first|simp only [↓QA,QB,Nat.reduceLT,reduceIte,Nat.reduceEqDiff,Nat.reduceAdd,Nat.reduceLeDiff,Nat.reduceMul,Nat.reduceBEq,aX]|refine rd0 rfl ?_)))
  cases h2:kK v r.b
  ·(repeat (first|simp only [↓QA,QB,Nat.reduceLT,reduceIte,Nat.reduceEqDiff,Nat.reduceAdd,Nat.reduceLeDiff,Nat.reduceMul,Nat.reduceBEq,aX]|refine rd0 rfl ?_))
   simp [bY,h2]
  ·(repeat (first|simp only [↓QA,QB,Nat.reduceLT,reduceIte,Nat.reduceEqDiff,Nat.reduceAdd,Nat.reduceLeDiff,Nat.reduceMul,Nat.reduceBEq,aX]|refine rd0 rfl ?_))
   cases h3:(r.a==r.b)
   ·have h3':r.a≠r.b:=by simpa using h3
    (repeat (first|simp only [↓QA,QB,Nat.reduceLT,reduceIte,Nat.reduceEqDiff,Nat.reduceAdd,Nat.reduceLeDiff,Nat.reduceMul,Nat.reduceBEq,aX,h3]|refine rd0 rfl ?_))
    ((first|refine aF (JX r.mins 1 20) rfl dd ?_|refine aH (JX r.mins 1 20) rfl dd ?_);(repeat (first|simp only [↓QA,QB,Nat.reduceLT,reduceIte,Nat.reduceEqDiff,Nat.reduceAdd,Nat.reduceLeDiff,Nat.reduceMul,Nat.reduceBEq,aX]|refine rd0 rfl ?_)))
    cases h4:(mS r.mins 1 20==7)
    ·have h4':mS r.mins 1 20≠7:=by simpa using h4
     (repeat (first|simp only [↓QA,QB,Nat.reduceLT,reduceIte,Nat.reduceEqDiff,Nat.reduceAdd,Nat.reduceLeDiff,Nat.reduceMul,Nat.reduceBEq,aX,h4]|refine rd0 rfl ?_))
     ((first|refine aF (eW r.shut 0 2) rfl dd ?_|refine aH (eW r.shut 0 2) rfl dd ?_);(repeat (first|simp only [↓QA,QB,Nat.reduceLT,reduceIte,Nat.reduceEqDiff,Nat.reduceAdd,Nat.reduceLeDiff,Nat.reduceMul,Nat.reduceBEq,aX]|refine rd0 rfl ?_)))
     cases h5:inR r.shut 0 2
     ·(repeat (first|simp only [↓QA,QB,Nat.reduceLT,reduceIte,Nat.reduceEqDiff,Nat.reduceAdd,Nat.reduceLeDiff,Nat.reduceMul,Nat.reduceBEq,aX]|refine rd0 rfl ?_))
      simp [bY,h1,h2,h3',h5]
     ·cases h6:(mS r.mins 1 20==0)
      ·have h6':mS r.mins 1 20≠0:=by simpa using h6
       (repeat (first|simp only [↓QA,QB,Nat.reduceLT,reduceIte,Nat.reduceEqDiff,Nat.reduceAdd,Nat.reduceLeDiff,Nat.reduceMul,Nat.reduceBEq,aX,h6]|refine rd0 rfl ?_))
       simp [bY,h1,h2,h3',h4',h5,h6']
      ·have h6':mS r.mins 1 20=0:=by simpa using h6
       have hb:=BK h6'
       have hw:IntKind.i64.wrap (r.mins.lo+1)=r.mins.lo+1:=dZ ⟨by omega,by omega⟩
       cases h7:decide (r.mins.lo+1<r.mins.hi)
       ·have h7':¬r.mins.lo+1<r.mins.hi:=by simpa using h7
        (repeat (first|simp only [↓QA,QB,Nat.reduceLT,reduceIte,Nat.reduceEqDiff,Nat.reduceAdd,Nat.reduceLeDiff,Nat.reduceMul,Nat.reduceBEq,aX,h6,hw,h7]|refine rd0 rfl ?_))
        simp [bY,h1,h2,h3',h5,h6',h7']
       ·have h7':r.mins.lo+1<r.mins.hi:=by simpa using h7
        (repeat (first|simp only [↓QA,QB,Nat.reduceLT,reduceIte,Nat.reduceEqDiff,Nat.reduceAdd,Nat.reduceLeDiff,Nat.reduceMul,Nat.reduceBEq,aX,h6,hw,h7]|refine rd0 rfl ?_))
        simp [bY,h1,h2,h3',h5,h6',h7']
    ·have h4':mS r.mins 1 20=7:=by simpa using h4
     (repeat (first|simp only [↓QA,QB,Nat.reduceLT,reduceIte,Nat.reduceEqDiff,Nat.reduceAdd,Nat.reduceLeDiff,Nat.reduceMul,Nat.reduceBEq,aX,h4]|refine rd0 rfl ?_))
     simp [bY,h1,h2,h3',h4']
   ·have h3':r.a=r.b:=by simpa using h3
    (repeat (first|simp only [↓QA,QB,Nat.reduceLT,reduceIte,Nat.reduceEqDiff,Nat.reduceAdd,Nat.reduceLeDiff,Nat.reduceMul,Nat.reduceBEq,aX,h3]|refine rd0 rfl ?_))
    rw [bY,if_neg (by simp [h1,h2]),if_pos h3']
theorem HB {v:Net} {p:List Int} {k:Nat} (hk:k<p.length) (s:Int) (met:List Int):gL v (p.drop k) s met=if bU (cI v p[k]) s<0∨met.contains (bU (cI v p[k]) s)=true∨(bU (cI v p[k]) s=0∧k+1<p.length) then false
  else gL v (p.drop (k+1)) (bU (cI v p[k]) s) (met++[bU (cI v p[k]) s]):=by
 rw [List.drop_eq_getElem_cons hk,gL]
 have:p.drop (k+1)≠[]↔k+1<p.length:=by
  rw [Ne,List.drop_eq_nil_iff];omega
 simp only [this]
theorem A2 (v:Net) (s:Int) (p:List Int) (hp:∀ r∈p,0≤r∧r<v.rails.length) (hl:p.length<9223372036854775808):eC T 61 [dH v,.int .i64 s,ints p] (.bool (fH v s p)):=by
 refine bA (af:=a61) rfl (by simp [a61]) dd ?_
 (repeat (first|simp only [↓QA,QB,Nat.reduceLT,reduceIte,Nat.reduceEqDiff,Nat.reduceAdd,Nat.reduceLeDiff,Nat.reduceMul,Nat.reduceBEq,aX,a61]|refine rd0 rfl ?_))
 ((first|refine aF (eW p.length 1 4) rfl dd ?_|refine aH (eW p.length 1 4) rfl dd ?_);(repeat (first|simp only [↓QA,QB,Nat.reduceLT,reduceIte,Nat.reduceEqDiff,Nat.reduceAdd,Nat.reduceLeDiff,Nat.reduceMul,Nat.reduceBEq,aX]|refine rd0 rfl ?_)))
 cases h1:inR p.length 1 4
 ·(repeat (first|simp only [↓QA,QB,Nat.reduceLT,reduceIte,Nat.reduceEqDiff,Nat.reduceAdd,Nat.reduceLeDiff,Nat.reduceMul,Nat.reduceBEq,aX]|refine rd0 rfl ?_))
  simp [fH,h1]
 ·have hpl:=cX.1 h1
  cases h2:(s==0)
  case' true =>
   have h2':s=0:=by simpa using h2
   (repeat (first|simp only [↓QA,QB,Nat.reduceLT,reduceIte,Nat.reduceEqDiff,Nat.reduceAdd,Nat.reduceLeDiff,Nat.reduceMul,Nat.reduceBEq,aX,h2]|refine rd0 rfl ?_))
   simp [fH,h1,h2']
  have h2':s≠0:=by simpa using h2
  obtain ⟨B,hB⟩:∃ B,fH v s p=B:=⟨_,rfl⟩
  have hB2:gL v p s [s]=B:=by rw [←hB,fH,if_neg (by simp [h1,h2'])]
  rw [hB]
  (repeat (first|simp only [↓QA,QB,Nat.reduceLT,reduceIte,Nat.reduceEqDiff,Nat.reduceAdd,Nat.reduceLeDiff,Nat.reduceMul,Nat.reduceBEq,aX,h2]|refine rd0 rfl ?_))
  refine sO 7 1 [.int .i64 s] rfl ?_
  refine dJ (S:=Nat×Int×List Int×Bool) (0,s,[s],false) (fun a=>a.1≤p.length∧a.2.2.1.length=a.1+1∧gL v (p.drop a.1) a.2.1 a.2.2.1=B) (fun a=>p.length-a.1)
   (fun a=>[(1,.int .i64 a.2.1),(2,ints p),(3,.ptr 0 0),(7,.lit (a.2.2.1.map (.int .i64)) false (some 1)),(8,.int .i64 a.1)]) (fun a=>[.cells (aB v),.tok 1 (a.1+1) a.2.2.2]) ⟨by simp,by simp,by simpa using hB2⟩ (by simp [aB,ints]) ?_ fun a ha=>?_
  ·try simp only [aD,QE,Nat.reduceLT,reduceIte,Nat.reduceEqDiff,Nat.reduceAdd,Nat.reduceLeDiff,Nat.reduceMul,Nat.reduceBEq,aX]
   try simp
  ·obtain ⟨k,c,met,ex⟩:=a
   obtain ⟨hk,hm,hgo⟩:=ha
   simp only at hk hm hgo
   (repeat (first|simp only [↓QA,QB,Nat.reduceLT,reduceIte,Nat.reduceEqDiff,Nat.reduceAdd,Nat.reduceLeDiff,Nat.reduceMul,Nat.reduceBEq,aX,VC]|refine rd0 rfl ?_))
   refine aI (fun h=>?_) fun h=>?_
   ·have hk1:k<p.length:=by simpa using h
    have hw:=cM hk1 (by omega)
    rw [HB hk1] at hgo
    have hpr:=hp _ (List.getElem_mem hk1)
    obtain ⟨R,hR⟩:∃ R:Nat,p[k]=(R:Int):=⟨p[k].toNat,by omega⟩
    rw [hR] at hpr hgo
    have hRl:R<v.rails.length:=by omega
    rw [wY hRl] at hgo
    obtain ⟨z,hz⟩:∃ z,v.rails[R]=z:=⟨_,rfl⟩
    rw [hz] at hgo
    have hov:=M6 z c
    obtain ⟨o,ho⟩:∃ o,bU z c=o:=⟨_,rfl⟩
    rw [ho] at hgo hov
    have hap:=fun (b0:ABlk) (τ:St)=>qE (σ:=b0::.tok 1 (k+1) ex::τ) (l:=met) (a:=o) (ex:=ex) (t:=1) (by omega) (by rw [hm];rfl)
    rw [hm] at hap
    (repeat (first|simp only [↓QA,QB,Nat.reduceLT,reduceIte,Nat.reduceEqDiff,Nat.reduceAdd,Nat.reduceLeDiff,Nat.reduceMul,Nat.reduceBEq,aX,hk1,hR,hRl,hz]|refine rd0 rfl ?_))
    ((first|refine aF (hov) rfl dd ?_|refine aH (hov) rfl dd ?_);(repeat (first|simp only [↓QA,QB,Nat.reduceLT,reduceIte,Nat.reduceEqDiff,Nat.reduceAdd,Nat.reduceLeDiff,Nat.reduceMul,Nat.reduceBEq,aX,hk1,hR,hRl,hz]|refine rd0 rfl ?_)))
    cases q1:decide (o<0)
    ·have q1':¬o<0:=by simpa using q1
     (repeat (first|simp only [↓QA,QB,Nat.reduceLT,reduceIte,Nat.reduceEqDiff,Nat.reduceAdd,Nat.reduceLeDiff,Nat.reduceMul,Nat.reduceBEq,aX,q1]|refine rd0 rfl ?_))
     ((first|refine xF (NG met o (by omega)) (by try simp only [QS,QC,Nat.reduceLT,reduceIte,Nat.reduceEqDiff,Nat.reduceAdd,Nat.reduceLeDiff,Nat.reduceMul,Nat.reduceBEq,aX]) trivial ?_|refine CE (NG met o (by omega)) (by try simp only [QS,QC,Nat.reduceLT,reduceIte,Nat.reduceEqDiff,Nat.reduceAdd,Nat.reduceLeDiff,Nat.reduceMul,Nat.reduceBEq,aX]) trivial ?_);(repeat (first|simp only [↓QA,QB,Nat.reduceLT,reduceIte,Nat.reduceEqDiff,Nat.reduceAdd,Nat.reduceLeDiff,Nat.reduceMul,Nat.reduceBEq,aX,q1]|refine rd0 rfl ?_)))
     cases q2:met.contains o
     ·cases q3:(o==0)
      ·have q3':o≠0:=by simpa using q3
       rw [if_neg (by rw [q2];simp [q1',q3'])] at hgo
       (repeat (first|simp only [↓QA,QB,Nat.reduceLT,reduceIte,Nat.reduceEqDiff,Nat.reduceAdd,Nat.reduceLeDiff,Nat.reduceMul,Nat.reduceBEq,aX,q3,hap,hw]|refine rd0 rfl ?_))
       refine ⟨(k+1,o,met++[o],true),⟨by simp only;omega,by simp [hm],hgo⟩,by simp only;omega,?_⟩
       try simp only [aD,QE,Nat.reduceLT,reduceIte,Nat.reduceEqDiff,Nat.reduceAdd,Nat.reduceLeDiff,Nat.reduceMul,Nat.reduceBEq,aX,hw,oY,List.map_append,List.map_cons,List.map_nil]
       try simp [aN]
      ·have q3':o=0:=by simpa using q3
       cases q4:decide (((k+1:Nat):Int)<(p.length:Int))
       ·have q4':¬k+1<p.length:=by have:=of_decide_eq_false q4;omega
        rw [if_neg (by rw [q2];simp [q1',q4'])] at hgo
        (repeat (first|simp only [↓QA,QB,Nat.reduceLT,reduceIte,Nat.reduceEqDiff,Nat.reduceAdd,Nat.reduceLeDiff,Nat.reduceMul,Nat.reduceBEq,aX,q3,hap,hw,q4]|refine rd0 rfl ?_))
        refine ⟨(k+1,o,met++[o],true),⟨by simp only;omega,by simp [hm],hgo⟩,by simp only;omega,?_⟩
        try simp only [aD,QE,Nat.reduceLT,reduceIte,Nat.reduceEqDiff,Nat.reduceAdd,Nat.reduceLeDiff,Nat.reduceMul,Nat.reduceBEq,aX,hw,oY,List.map_append,List.map_cons,List.map_nil]
        try simp [aN]
       ·have q4':k+1<p.length:=by
         have:=of_decide_eq_true q4
         omega
        rw [if_pos (.inr (.inr ⟨q3',q4'⟩))] at hgo
        (repeat (first|simp only [↓QA,QB,Nat.reduceLT,reduceIte,Nat.reduceEqDiff,Nat.reduceAdd,Nat.reduceLeDiff,Nat.reduceMul,Nat.reduceBEq,aX,q3,hw,q4,←hgo]|refine rd0 rfl ?_))
     ·rw [if_pos (.inr (.inl q2))] at hgo
      (repeat (first|simp only [↓QA,QB,Nat.reduceLT,reduceIte,Nat.reduceEqDiff,Nat.reduceAdd,Nat.reduceLeDiff,Nat.reduceMul,Nat.reduceBEq,aX,←hgo]|refine rd0 rfl ?_))
    ·have q1':o<0:=by simpa using q1
     rw [if_pos (.inl q1')] at hgo
     (repeat (first|simp only [↓QA,QB,Nat.reduceLT,reduceIte,Nat.reduceEqDiff,Nat.reduceAdd,Nat.reduceLeDiff,Nat.reduceMul,Nat.reduceBEq,aX,q1,←hgo]|refine rd0 rfl ?_))
   ·have hk1:k=p.length:=by simp at h;omega
    rw [hk1,List.drop_length,gL] at hgo
    (repeat (first|simp only [↓QA,QB,Nat.reduceLT,reduceIte,Nat.reduceEqDiff,Nat.reduceAdd,Nat.reduceLeDiff,Nat.reduceMul,Nat.reduceBEq,aX,hgo]|refine rd0 rfl ?_))
end Go.Am.Room
set_option maxRecDepth 4000
namespace Go.Am.Room
def aL:=And.intro @aZ (And.intro @aK (And.intro @aR (And.intro @aT (And.intro @aS (And.intro @aQ (And.intro @aY (And.intro @aW (@aV))))))))
def nQ (x:Int×Int×Int):AV:=.tuple [.int .i64 x.1,.int .i64 x.2.1,.int .i64 x.2.2]
theorem PL (v:Net) (t:Tram) (hst:2≤v.stations∧v.stations≤5) (hnr:v.rails.length≤5):eC T 76 [dH v,bX t] (.int .i64 (eX v t)):=by
 refine bA (af:=a76) rfl (by simp [a76]) dd ?_
 (repeat (first|simp only [↓QA,QB,Nat.reduceLT,reduceIte,Nat.reduceEqDiff,Nat.reduceAdd,Nat.reduceLeDiff,Nat.reduceMul,Nat.reduceBEq,aL,a76]|refine rd0 rfl ?_))
 ((first|refine aF (iV v t.frm hst) rfl dd ?_|refine aH (iV v t.frm hst) rfl dd ?_);(repeat (first|simp only [↓QA,QB,Nat.reduceLT,reduceIte,Nat.reduceEqDiff,Nat.reduceAdd,Nat.reduceLeDiff,Nat.reduceMul,Nat.reduceBEq,aL]|refine rd0 rfl ?_)))
 cases h1:kK v t.frm
 ·(repeat (first|simp only [↓QA,QB,Nat.reduceLT,reduceIte,Nat.reduceEqDiff,Nat.reduceAdd,Nat.reduceLeDiff,Nat.reduceMul,Nat.reduceBEq,aL]|refine rd0 rfl ?_))
  simp [eX,h1]
 ·(repeat (first|simp only [↓QA,QB,Nat.reduceLT,reduceIte,Nat.reduceEqDiff,Nat.reduceAdd,Nat.reduceLeDiff,Nat.reduceMul,Nat.reduceBEq,aL]|refine rd0 rfl ?_))
  ((first|refine aF (eW t.leaves 0 60) rfl dd ?_|refine aH (eW t.leaves 0 60) rfl dd ?_);(repeat (first|simp only [↓QA,QB,Nat.reduceLT,reduceIte,Nat.reduceEqDiff,Nat.reduceAdd,Nat.reduceLeDiff,Nat.reduceMul,Nat.reduceBEq,aL]|refine rd0 rfl ?_)))
  cases h2:inR t.leaves 0 60
  ·(repeat (first|simp only [↓QA,QB,Nat.reduceLT,reduceIte,Nat.reduceEqDiff,Nat.reduceAdd,Nat.reduceLeDiff,Nat.reduceMul,Nat.reduceBEq,aL]|refine rd0 rfl ?_))
   simp [eX,h1,h2]
  ·(repeat (first|simp only [↓QA,QB,Nat.reduceLT,reduceIte,Nat.reduceEqDiff,Nat.reduceAdd,Nat.reduceLeDiff,Nat.reduceMul,Nat.reduceBEq,aL]|refine rd0 rfl ?_))
   ((first|refine aF (eW t.due 0 400) rfl dd ?_|refine aH (eW t.due 0 400) rfl dd ?_);(repeat (first|simp only [↓QA,QB,Nat.reduceLT,reduceIte,Nat.reduceEqDiff,Nat.reduceAdd,Nat.reduceLeDiff,Nat.reduceMul,Nat.reduceBEq,aL]|refine rd0 rfl ?_)))
   cases h3:inR t.due 0 400
   ·(repeat (first|simp only [↓QA,QB,Nat.reduceLT,reduceIte,Nat.reduceEqDiff,Nat.reduceAdd,Nat.reduceLeDiff,Nat.reduceMul,Nat.reduceBEq,aL]|refine rd0 rfl ?_))
    simp [eX,h1,h2,h3]
   ·(repeat (first|simp only [↓QA,QB,Nat.reduceLT,reduceIte,Nat.reduceEqDiff,Nat.reduceAdd,Nat.reduceLeDiff,Nat.reduceMul,Nat.reduceBEq,aL]|refine rd0 rfl ?_))
    ((first|refine aF (eW t.path.length 1 4) rfl dd ?_|refine aH (eW t.path.length 1 4) rfl dd ?_);(repeat (first|simp only [↓QA,QB,Nat.reduceLT,reduceIte,Nat.reduceEqDiff,Nat.reduceAdd,Nat.reduceLeDiff,Nat.reduceMul,Nat.reduceBEq,aL]|refine rd0 rfl ?_)))
    cases h4:inR t.path.length 1 4
    ·(repeat (first|simp only [↓QA,QB,Nat.reduceLT,reduceIte,Nat.reduceEqDiff,Nat.reduceAdd,Nat.reduceLeDiff,Nat.reduceMul,Nat.reduceBEq,aL]|refine rd0 rfl ?_))
     simp [eX,h1,h2,h3,h4]
    ·have hpl:=cX.1 h4
     have hwl:IntKind.i64.wrap ((v.rails.length:Int)-1)=(v.rails.length:Int)-1:=dZ ⟨by omega,by omega⟩
     obtain ⟨q,hq⟩:∃ q:Int→Bool,(fun r=>inR r 0 ((v.rails.length:Int)-1))=q:=⟨_,rfl⟩
     have hqr:∀ r,inR r 0 ((v.rails.length:Int)-1)=q r:=fun r=>by rw [←hq]
     have hE:eX v t=if t.path.all q=false then 4 else if fH v t.frm t.path=false then 2 else 0:=by
      rw [eX,if_neg (by simp [h1]),if_neg (by simp [h2,h3]),if_neg (by simp [h4]),hq]
     rw [hE]
     (repeat (first|simp only [↓QA,QB,Nat.reduceLT,reduceIte,Nat.reduceEqDiff,Nat.reduceAdd,Nat.reduceLeDiff,Nat.reduceMul,Nat.reduceBEq,aL]|refine rd0 rfl ?_))
     refine dJ (S:=Nat) 0 (fun k=>k≤t.path.length∧(t.path.drop k).all q=t.path.all q) (fun k=>t.path.length-k)
      (fun k=>[(2,.ptr 0 0),(3,.ptr 1 0),(5,.int .i64 k)]) (fun _=>[.cells (aB v),.cells [.str t.name,.int .i64 t.frm,.int .i64 t.leaves,.int .i64 t.due,ints t.path]]) ⟨by simp,by simp⟩ (by simp [aB,ints]) ?_ fun k hk=>?_
     ·try simp only [aD,QE,Nat.reduceLT,reduceIte,Nat.reduceEqDiff,Nat.reduceAdd,Nat.reduceLeDiff,Nat.reduceMul,Nat.reduceBEq,aL]
      try simp
     ·obtain ⟨hk,hb⟩:=hk
      (repeat (first|simp only [↓QA,QB,Nat.reduceLT,reduceIte,Nat.reduceEqDiff,Nat.reduceAdd,Nat.reduceLeDiff,Nat.reduceMul,Nat.reduceBEq,aL,V7]|refine rd0 rfl ?_))
      refine aI (fun h=>?_) fun h=>?_
      ·have hk1:k<t.path.length:=by simpa using h
       have hw:=cM hk1 (by omega)
       rw [List.drop_eq_getElem_cons hk1,List.all_cons] at hb
       obtain ⟨r,hr⟩:∃ r,t.path[k]=r:=⟨_,rfl⟩
       rw [hr] at hb
       have hin:=eW r 0 ((v.rails.length:Int)-1)
       rw [hqr r] at hin
       (repeat (first|simp only [↓QA,QB,Nat.reduceLT,reduceIte,Nat.reduceEqDiff,Nat.reduceAdd,Nat.reduceLeDiff,Nat.reduceMul,Nat.reduceBEq,aL,hk1,hr,hwl]|refine rd0 rfl ?_))
       ((first|refine aF (hin) rfl dd ?_|refine aH (hin) rfl dd ?_);(repeat (first|simp only [↓QA,QB,Nat.reduceLT,reduceIte,Nat.reduceEqDiff,Nat.reduceAdd,Nat.reduceLeDiff,Nat.reduceMul,Nat.reduceBEq,aL,hk1,hr,hwl]|refine rd0 rfl ?_)))
       cases h5:q r
       ·rw [h5,Bool.false_and] at hb
        (repeat (first|simp only [↓QA,QB,Nat.reduceLT,reduceIte,Nat.reduceEqDiff,Nat.reduceAdd,Nat.reduceLeDiff,Nat.reduceMul,Nat.reduceBEq,aL,←hb]|refine rd0 rfl ?_))
       ·rw [h5,Bool.true_and] at hb
        (repeat (first|simp only [↓QA,QB,Nat.reduceLT,reduceIte,Nat.reduceEqDiff,Nat.reduceAdd,Nat.reduceLeDiff,Nat.reduceMul,Nat.reduceBEq,aL,hw]|refine rd0 rfl ?_))
        refine ⟨k+1,⟨by omega,hb⟩,by omega,?_⟩
        try simp only [aD,QE,Nat.reduceLT,reduceIte,Nat.reduceEqDiff,Nat.reduceAdd,Nat.reduceLeDiff,Nat.reduceMul,Nat.reduceBEq,aL,hw]
        try simp [aN]
      ·have hk1:k=t.path.length:=by simp at h;omega
       rw [hk1,List.drop_length,List.all_nil] at hb
       have hp:∀ r∈t.path,0≤r∧r<v.rails.length:=fun r hr=>by
        have:=List.all_eq_true.1 hb.symm r hr
        rw [←hqr,cX] at this
        omega
       (repeat (first|simp only [↓QA,QB,Nat.reduceLT,reduceIte,Nat.reduceEqDiff,Nat.reduceAdd,Nat.reduceLeDiff,Nat.reduceMul,Nat.reduceBEq,aL]|refine rd0 rfl ?_))
       ((first|refine aF (A2 v t.frm t.path hp (by omega)) rfl dd ?_|refine aH (A2 v t.frm t.path hp (by omega)) rfl dd ?_);(repeat (first|simp only [↓QA,QB,Nat.reduceLT,reduceIte,Nat.reduceEqDiff,Nat.reduceAdd,Nat.reduceLeDiff,Nat.reduceMul,Nat.reduceBEq,aL]|refine rd0 rfl ?_)))
       cases h6:fH v t.frm t.path
       ·(repeat (first|simp only [↓QA,QB,Nat.reduceLT,reduceIte,Nat.reduceEqDiff,Nat.reduceAdd,Nat.reduceLeDiff,Nat.reduceMul,Nat.reduceBEq,aL,←hb]|refine rd0 rfl ?_))
        rfl
       ·(repeat (first|simp only [↓QA,QB,Nat.reduceLT,reduceIte,Nat.reduceEqDiff,Nat.reduceAdd,Nat.reduceLeDiff,Nat.reduceMul,Nat.reduceBEq,aL,←hb]|refine rd0 rfl ?_))
        rfl
theorem IA {k:Nat} {ns:List ByteArray} {s:ByteArray} {b:ABlk} {ex:Bool} {τ:St} (hk:ns.length=k) (hn:k<16):gO 1 16 (b::.tok 1 k ex::τ) (.lit (ns.map .str) false (some 1)) (.lit [.str s] true none)=some (.lit ((ns++[s]).map .str) false (some 1),b::.tok 1 (k+1) true::τ):=by
 rw [DB (ex:=ex) ⟨vN 1 _ ns (fun x=>U2 _),by simp [aM,AV.cells,AV.cell],by simp [room,hk];omega,by simp [room,hk];omega⟩ (by simp) (by simp [hk])]
 simp [hk]
theorem J9 {v:Net} {k:Nat} (h:k<v.trams.length):(v.trams.take (k+1)).map Tram.name=(v.trams.take k).map Tram.name++[v.trams[k].name]:=by
 rw [List.take_succ_eq_append_getElem h,List.map_append];rfl
theorem wI (v:Net) (h:Fits v):eC T 18 [dH v] (nQ (cF v)):=by
 refine bA (af:=a18) rfl (by simp [a18]) dd ?_
 have hfr:=h.rails
 have hft:=h.trams
 have hfs:=h.seen
 (repeat (first|simp only [↓QA,QB,Nat.reduceLT,reduceIte,Nat.reduceEqDiff,Nat.reduceAdd,Nat.reduceLeDiff,Nat.reduceMul,Nat.reduceBEq,aL,a18]|refine rd0 rfl ?_))
 ((first|refine aF (eW v.stations 2 5) rfl dd ?_|refine aH (eW v.stations 2 5) rfl dd ?_);(repeat (first|simp only [↓QA,QB,Nat.reduceLT,reduceIte,Nat.reduceEqDiff,Nat.reduceAdd,Nat.reduceLeDiff,Nat.reduceMul,Nat.reduceBEq,aL]|refine rd0 rfl ?_)))
 cases h1:inR v.stations 2 5
 ·(repeat (first|simp only [↓QA,QB,Nat.reduceLT,reduceIte,Nat.reduceEqDiff,Nat.reduceAdd,Nat.reduceLeDiff,Nat.reduceMul,Nat.reduceBEq,aL]|refine rd0 rfl ?_))
  simp [cF,h1,nQ]
 ·have hst:=cX.1 h1
  have hc:cF v=kW v:=by simp only [cF,h1,Bool.true_eq_false,if_false]
  rw [hc]
  (repeat (first|simp only [↓QA,QB,Nat.reduceLT,reduceIte,Nat.reduceEqDiff,Nat.reduceAdd,Nat.reduceLeDiff,Nat.reduceMul,Nat.reduceBEq,aL]|refine rd0 rfl ?_))
  cases h2:decide ((5:Int)<(v.rails.length:Int))
  case' true =>
   have h2':5<v.rails.length:=by first|(have:=of_decide_eq_false h2;omega)|(have:=of_decide_eq_true h2;omega)
   (repeat (first|simp only [↓QA,QB,Nat.reduceLT,reduceIte,Nat.reduceEqDiff,Nat.reduceAdd,Nat.reduceLeDiff,Nat.reduceMul,Nat.reduceBEq,aL]|refine rd0 rfl ?_))
   simp [kW,h2',nQ]
  have h2':¬5<v.rails.length:=by first|(have:=of_decide_eq_false h2;omega)|(have:=of_decide_eq_true h2;omega)
  have hc:kW v=match aU (fun _ r=>bY v r) v.rails 0 with|some (i,e)=>(2,(i:Int),e)|none=>k6 v:=by simp only [kW,h2',if_false];try rfl
  rw [hc]
  (repeat (first|simp only [↓QA,QB,Nat.reduceLT,reduceIte,Nat.reduceEqDiff,Nat.reduceAdd,Nat.reduceLeDiff,Nat.reduceMul,Nat.reduceBEq,aL]|refine rd0 rfl ?_))
  refine dJ (S:=Nat) 0 (fun k=>k≤v.rails.length∧aU (fun _ r=>bY v r) (v.rails.drop k) k=aU (fun _ r=>bY v r) v.rails 0) (fun k=>v.rails.length-k)
   (fun k=>[(1,.ptr 0 0),(5,.int .i64 k)]) (fun _=>[.cells (aB v)]) ⟨Nat.zero_le _,by simp⟩ (by simp [aB,ints]) ?_ fun k hs=>?_
  ·try simp only [aD,QE,Nat.reduceLT,reduceIte,Nat.reduceEqDiff,Nat.reduceAdd,Nat.reduceLeDiff,Nat.reduceMul,Nat.reduceBEq,aL]
   try simp
  ·obtain ⟨hk,hb⟩:=hs
   (repeat (first|simp only [↓QA,QB,Nat.reduceLT,reduceIte,Nat.reduceEqDiff,Nat.reduceAdd,Nat.reduceLeDiff,Nat.reduceMul,Nat.reduceBEq,aL,VM]|refine rd0 rfl ?_))
   refine aI (fun hd=>?_) fun hd=>?_
   ·have hk1:k<v.rails.length:=by simpa using hd
    rw [gQ hk1] at hb
    have hw:=cM hk1 hfr
    obtain ⟨z,hz⟩:∃ z,v.rails[k]=z:=⟨_,rfl⟩
    rw [hz] at hb
    have hra:=MX v z hst
    obtain ⟨E,hE⟩:∃ E,bY v z=E:=⟨_,rfl⟩
    rw [hE] at hb hra
    (repeat (first|simp only [↓QA,QB,Nat.reduceLT,reduceIte,Nat.reduceEqDiff,Nat.reduceAdd,Nat.reduceLeDiff,Nat.reduceMul,Nat.reduceBEq,aL,hk1,hz]|refine rd0 rfl ?_))
    ((first|refine aF (hra) rfl dd ?_|refine aH (hra) rfl dd ?_);(repeat (first|simp only [↓QA,QB,Nat.reduceLT,reduceIte,Nat.reduceEqDiff,Nat.reduceAdd,Nat.reduceLeDiff,Nat.reduceMul,Nat.reduceBEq,aL,hk1,hz]|refine rd0 rfl ?_)))
    cases hf:(E==0)
    ·have hf':E≠0:=by simpa using hf
     rw [if_neg hf'] at hb
     rw [←hb]
     (repeat (first|simp only [↓QA,QB,Nat.reduceLT,reduceIte,Nat.reduceEqDiff,Nat.reduceAdd,Nat.reduceLeDiff,Nat.reduceMul,Nat.reduceBEq,aL,hf]|refine rd0 rfl ?_))
     rfl
    ·have hf':E=0:=by simpa using hf
     rw [if_pos hf'] at hb
     (repeat (first|simp only [↓QA,QB,Nat.reduceLT,reduceIte,Nat.reduceEqDiff,Nat.reduceAdd,Nat.reduceLeDiff,Nat.reduceMul,Nat.reduceBEq,aL,hf,hw]|refine rd0 rfl ?_))
     refine ⟨k+1,⟨by omega,hb⟩,by omega,?_⟩
     try simp only [aD,QE,Nat.reduceLT,reduceIte,Nat.reduceEqDiff,Nat.reduceAdd,Nat.reduceLeDiff,Nat.reduceMul,Nat.reduceBEq,aL,hw]
     try simp [aN]
   ·have hk1:k=v.rails.length:=by simp at hd;omega
    rw [iE hk1] at hb
    rw [←hb]
    (repeat (first|simp only [↓QA,QB,Nat.reduceLT,reduceIte,Nat.reduceEqDiff,Nat.reduceAdd,Nat.reduceLeDiff,Nat.reduceMul,Nat.reduceBEq,aL]|refine rd0 rfl ?_))
    cases h6:decide ((3:Int)<(v.trams.length:Int))
    case' true =>
     have h6':3<v.trams.length:=by first|(have:=of_decide_eq_false h6;omega)|(have:=of_decide_eq_true h6;omega)
     (repeat (first|simp only [↓QA,QB,Nat.reduceLT,reduceIte,Nat.reduceEqDiff,Nat.reduceAdd,Nat.reduceLeDiff,Nat.reduceMul,Nat.reduceBEq,aL]|refine rd0 rfl ?_))
     simp [k6,h6',nQ]
    have h6':¬3<v.trams.length:=by first|(have:=of_decide_eq_false h6;omega)|(have:=of_decide_eq_true h6;omega)
    have hc:k6 v=match aU (fP v) v.trams 0 with|some (i,e)=>(3,(i:Int),e)|none=>kU v:=by simp only [k6,h6',if_false];try rfl
    rw [hc]
    (repeat (first|simp only [↓QA,QB,Nat.reduceLT,reduceIte,Nat.reduceEqDiff,Nat.reduceAdd,Nat.reduceLeDiff,Nat.reduceMul,Nat.reduceBEq,aL]|refine rd0 rfl ?_))
    refine sO 7 1 [] rfl ?_
    refine dJ (S:=Nat×Bool) (0,false) (fun s=>s.1≤v.trams.length∧aU (fP v) (v.trams.drop s.1) s.1=aU (fP v) v.trams 0) (fun s=>v.trams.length-s.1)
     (fun s=>[(1,.ptr 0 0),(7,.lit (((v.trams.take s.1).map Tram.name).map .str) false (some 1)),(8,.int .i64 s.1)]) (fun s=>[.cells (aB v),.tok 1 s.1 s.2]) ⟨Nat.zero_le _,by simp⟩ (by simp [aB,ints]) ?_ fun s hs=>?_
    ·try simp only [aD,QE,Nat.reduceLT,reduceIte,Nat.reduceEqDiff,Nat.reduceAdd,Nat.reduceLeDiff,Nat.reduceMul,Nat.reduceBEq,aL]
     try simp
    ·obtain ⟨k,ex⟩:=s
     obtain ⟨hk,hb⟩:=hs
     simp only at hk hb
     have hlen:((v.trams.take k).map Tram.name).length=k:=by simp [hk]
     (repeat (first|simp only [↓QA,QB,Nat.reduceLT,reduceIte,Nat.reduceEqDiff,Nat.reduceAdd,Nat.reduceLeDiff,Nat.reduceMul,Nat.reduceBEq,aL,VS]|refine rd0 rfl ?_))
     refine aI (fun hd=>?_) fun hd=>?_
     ·have hk1:k<v.trams.length:=by simpa using hd
      rw [gQ hk1] at hb
      have hw:=cM hk1 hft
      have hap:=fun (τ:St)=>IA (k:=k) (ns:=(v.trams.take k).map Tram.name) (s:=v.trams[k].name) (b:=.cells (aB v)) (ex:=ex) (τ:=τ) hlen (by omega)
      simp only [aK] at hap
      have hset:fP v k v.trams[k]=if fresh v.trams[k].name ((v.trams.take k).map Tram.name)=0 then eX v v.trams[k] else fresh v.trams[k].name ((v.trams.take k).map Tram.name):=rfl
      have hfre:=O3 v.trams[k].name ((v.trams.take k).map Tram.name) (h.names _ (List.getElem_mem hk1)) (by rw [hlen];omega)
      have htn:=J9 hk1
      obtain ⟨p,hpe⟩:∃ p,v.trams[k]=p:=⟨_,rfl⟩
      rw [hpe] at hset hap hb htn hfre
      obtain ⟨F,hF⟩:∃ F,fresh p.name ((v.trams.take k).map Tram.name)=F:=⟨_,rfl⟩
      rw [hF] at hset hfre
      have htr:=PL v p hst (by omega)
      obtain ⟨E,hE⟩:∃ E,eX v p=E:=⟨_,rfl⟩
      rw [hE] at htr hset
      (repeat (first|simp only [↓QA,QB,Nat.reduceLT,reduceIte,Nat.reduceEqDiff,Nat.reduceAdd,Nat.reduceLeDiff,Nat.reduceMul,Nat.reduceBEq,aL,hk1,hpe]|refine rd0 rfl ?_))
      ((first|refine xF (hfre) (by try simp only [QS,QC,Nat.reduceLT,reduceIte,Nat.reduceEqDiff,Nat.reduceAdd,Nat.reduceLeDiff,Nat.reduceMul,Nat.reduceBEq,aL]) trivial ?_|refine CE (hfre) (by try simp only [QS,QC,Nat.reduceLT,reduceIte,Nat.reduceEqDiff,Nat.reduceAdd,Nat.reduceLeDiff,Nat.reduceMul,Nat.reduceBEq,aL]) trivial ?_);(repeat (first|simp only [↓QA,QB,Nat.reduceLT,reduceIte,Nat.reduceEqDiff,Nat.reduceAdd,Nat.reduceLeDiff,Nat.reduceMul,Nat.reduceBEq,aL,hk1,hpe,hap]|refine rd0 rfl ?_)))
      cases hf:(F==0)
      ·have hf':F≠0:=by simpa using hf
       rw [if_neg hf'] at hset
       rw [hset,if_neg hf'] at hb
       rw [←hb]
       (repeat (first|simp only [↓QA,QB,Nat.reduceLT,reduceIte,Nat.reduceEqDiff,Nat.reduceAdd,Nat.reduceLeDiff,Nat.reduceMul,Nat.reduceBEq,aL,hf]|refine rd0 rfl ?_))
       rfl
      ·have hf':F=0:=by simpa using hf
       rw [if_pos hf'] at hset
       rw [hset] at hb
       (repeat (first|simp only [↓QA,QB,Nat.reduceLT,reduceIte,Nat.reduceEqDiff,Nat.reduceAdd,Nat.reduceLeDiff,Nat.reduceMul,Nat.reduceBEq,aL,hf,hk1,hpe]|refine rd0 rfl ?_))
       ((first|refine aF (htr) rfl dd ?_|refine aH (htr) rfl dd ?_);(repeat (first|simp only [↓QA,QB,Nat.reduceLT,reduceIte,Nat.reduceEqDiff,Nat.reduceAdd,Nat.reduceLeDiff,Nat.reduceMul,Nat.reduceBEq,aL,hk1,hpe]|refine rd0 rfl ?_)))
       cases h9:(E==0)
       ·have h9':E≠0:=by simpa using h9
        rw [if_neg h9'] at hb
        (repeat (first|simp only [↓QA,QB,Nat.reduceLT,reduceIte,Nat.reduceEqDiff,Nat.reduceAdd,Nat.reduceLeDiff,Nat.reduceMul,Nat.reduceBEq,aL,h9]|refine rd0 rfl ?_))
        rw [←hb]
        rfl
       ·have h9':E=0:=by simpa using h9
        rw [if_pos h9'] at hb
        (repeat (first|simp only [↓QA,QB,Nat.reduceLT,reduceIte,Nat.reduceEqDiff,Nat.reduceAdd,Nat.reduceLeDiff,Nat.reduceMul,Nat.reduceBEq,aL,h9,hw]|refine rd0 rfl ?_))
        refine ⟨(k+1,true),⟨by simp only;omega,hb⟩,by simp only;omega,?_⟩
        try simp only [aD,QE,Nat.reduceLT,reduceIte,Nat.reduceEqDiff,Nat.reduceAdd,Nat.reduceLeDiff,Nat.reduceMul,Nat.reduceBEq,aL,htn,hw]
        try simp [aN]
     ·have hk1:k=v.trams.length:=by simp at hd;omega
      rw [iE hk1] at hb
      rw [←hb,hk1]
      (repeat (first|simp only [↓QA,QB,Nat.reduceLT,reduceIte,Nat.reduceEqDiff,Nat.reduceAdd,Nat.reduceLeDiff,Nat.reduceMul,Nat.reduceBEq,aL]|refine rd0 rfl ?_))
      cases h7:decide ((3:Int)<(v.seen.length:Int))
      case' true =>
       have h7':3<v.seen.length:=by first|(have:=of_decide_eq_false h7;omega)|(have:=of_decide_eq_true h7;omega)
       (repeat (first|simp only [↓QA,QB,Nat.reduceLT,reduceIte,Nat.reduceEqDiff,Nat.reduceAdd,Nat.reduceLeDiff,Nat.reduceMul,Nat.reduceBEq,aL]|refine rd0 rfl ?_))
       simp [kU,h7',nQ]
      have h7':¬3<v.seen.length:=by first|(have:=of_decide_eq_false h7;omega)|(have:=of_decide_eq_true h7;omega)
      have hc:kU v=match aU (gV v) v.seen 0 with|some (i,e)=>(4,(i:Int),e)|none=>(0,0,0):=by simp only [kU,h7',if_false];try rfl
      rw [hc]
      have hwl:IntKind.i64.wrap ((v.trams.length:Int)-1)=(v.trams.length:Int)-1:=dZ ⟨by omega,by omega⟩
      (repeat (first|simp only [↓QA,QB,Nat.reduceLT,reduceIte,Nat.reduceEqDiff,Nat.reduceAdd,Nat.reduceLeDiff,Nat.reduceMul,Nat.reduceBEq,aL]|refine rd0 rfl ?_))
      refine dJ (S:=Nat) 0 (fun k=>k≤v.seen.length∧aU (gV v) (v.seen.drop k) k=aU (gV v) v.seen 0) (fun k=>v.seen.length-k)
       (fun k=>[(1,.ptr 0 0),(10,.int .i64 k)]) (fun _=>[.cells (aB v),.tok 1 v.trams.length ex]) ⟨Nat.zero_le _,by simp⟩ (by simp [aB,ints]) ?_ fun m hm=>?_
      ·try simp only [aD,QE,Nat.reduceLT,reduceIte,Nat.reduceEqDiff,Nat.reduceAdd,Nat.reduceLeDiff,Nat.reduceMul,Nat.reduceBEq,aL]
       try simp
      ·obtain ⟨hm,hbm⟩:=hm
       (repeat (first|simp only [↓QA,QB,Nat.reduceLT,reduceIte,Nat.reduceEqDiff,Nat.reduceAdd,Nat.reduceLeDiff,Nat.reduceMul,Nat.reduceBEq,aL,VY]|refine rd0 rfl ?_))
       refine aI (fun hd3=>?_) fun hd3=>?_
       ·have hm1:m<v.seen.length:=by simpa using hd3
        rw [gQ hm1] at hbm
        have hw3:=cM hm1 hfs
        obtain ⟨x,hx⟩:∃ x,v.seen[m]=x:=⟨_,rfl⟩
        rw [hx] at hbm
        have hle:gV v m x=if inR x.tram 0 ((v.trams.length:Int)-1)=false then 4 else if inR x.minute (-1) 400=false then 7 else 0:=rfl
        rw [hle] at hbm
        (repeat (first|simp only [↓QA,QB,Nat.reduceLT,reduceIte,Nat.reduceEqDiff,Nat.reduceAdd,Nat.reduceLeDiff,Nat.reduceMul,Nat.reduceBEq,aL,hm1,hx,hwl]|refine rd0 rfl ?_))
        ((first|refine aF (eW x.tram 0 ((v.trams.length:Int)-1)) rfl dd ?_|refine aH (eW x.tram 0 ((v.trams.length:Int)-1)) rfl dd ?_);(repeat (first|simp only [↓QA,QB,Nat.reduceLT,reduceIte,Nat.reduceEqDiff,Nat.reduceAdd,Nat.reduceLeDiff,Nat.reduceMul,Nat.reduceBEq,aL,hm1,hx,hwl]|refine rd0 rfl ?_)))
        cases hi:inR x.tram 0 ((v.trams.length:Int)-1)
        ·rw [hi] at hbm
         (repeat (first|simp only [↓QA,QB,Nat.reduceLT,reduceIte,Nat.reduceEqDiff,Nat.reduceAdd,Nat.reduceLeDiff,Nat.reduceMul,Nat.reduceBEq,aL,hm1]|refine rd0 rfl ?_))
         rw [←hbm]
         rfl
        ·rw [hi] at hbm
         simp only [Bool.true_eq_false,if_false] at hbm
         (repeat (first|simp only [↓QA,QB,Nat.reduceLT,reduceIte,Nat.reduceEqDiff,Nat.reduceAdd,Nat.reduceLeDiff,Nat.reduceMul,Nat.reduceBEq,aL,hm1,hx]|refine rd0 rfl ?_))
         ((first|refine aF (eW x.minute (-1) 400) rfl dd ?_|refine aH (eW x.minute (-1) 400) rfl dd ?_);(repeat (first|simp only [↓QA,QB,Nat.reduceLT,reduceIte,Nat.reduceEqDiff,Nat.reduceAdd,Nat.reduceLeDiff,Nat.reduceMul,Nat.reduceBEq,aL,hm1,hx]|refine rd0 rfl ?_)))
         cases hi2:inR x.minute (-1) 400
         ·rw [hi2] at hbm
          (repeat (first|simp only [↓QA,QB,Nat.reduceLT,reduceIte,Nat.reduceEqDiff,Nat.reduceAdd,Nat.reduceLeDiff,Nat.reduceMul,Nat.reduceBEq,aL,hm1]|refine rd0 rfl ?_))
          rw [←hbm]
          simp [nQ]
         ·rw [hi2] at hbm
          (repeat (first|simp only [↓QA,QB,Nat.reduceLT,reduceIte,Nat.reduceEqDiff,Nat.reduceAdd,Nat.reduceLeDiff,Nat.reduceMul,Nat.reduceBEq,aL,hm1,hw3]|refine rd0 rfl ?_))
          refine ⟨m+1,⟨by omega,by rw [←hbm];rfl⟩,by omega,?_⟩
          try simp only [aD,QE,Nat.reduceLT,reduceIte,Nat.reduceEqDiff,Nat.reduceAdd,Nat.reduceLeDiff,Nat.reduceMul,Nat.reduceBEq,aL,hw3]
          try simp
       ·have hm1:m=v.seen.length:=by simp at hd3;omega
        rw [iE hm1] at hbm
        rw [←hbm]
        (repeat (first|simp only [↓QA,QB,Nat.reduceLT,reduceIte,Nat.reduceEqDiff,Nat.reduceAdd,Nat.reduceLeDiff,Nat.reduceMul,Nat.reduceBEq,aL]|refine rd0 rfl ?_))
        rfl
def eU (v:Net):List Int→Int→List Int→Option Int
 |[],s,_=>some s
 |r::l,s,met=>if s=0∨bU (cI v r) s<0∨met.contains (bU (cI v r) s)=true then none else eU v l (bU (cI v r) s) (met++[bU (cI v r) s])
def gS (v:Net) (s:Int) (p:List Int):Bool:=match eU v p s [s] with|some o=>o==0&&!p.isEmpty|none=>false
def d4 (v:Net) (s:Int) (p:List Int):Bool:=match eU v p s [s] with|some o=>!(o==0)|none=>false
theorem uV (v:Net):∀ (l:List Int) (s:Int) (met:List Int),s≠0→gL v l s met=(match eU v l s met with|some o=>o==0|none=>false)
 |[],s,met,h=>by simp [gL,eU]
 |r::l,s,met,h=>by
  simp only [gL,eU]
  obtain ⟨o,ho⟩:∃ o,bU (cI v r) s=o:=⟨_,rfl⟩
  rw [ho]
  by_cases h1:o<0
  ·simp [h1]
  ·by_cases h2:met.contains o=true
   ·rw [if_pos (.inr (.inl h2)),if_pos (.inr (.inr h2))]
   ·by_cases h3:o=0
    ·subst h3
     rw [if_neg (show ¬(s=0∨(0:Int)<0∨met.contains 0=true) from fun q=>by rcases q with q|q|q;exact h q;omega;exact h2 q)]
     cases l with
     |nil=>rw [if_neg (by simp only [ne_eq,not_true_eq_false,and_false,or_false];exact fun q=>by rcases q with q|q;omega;exact h2 q)];simp [gL,eU]
     |cons x l=>rw [if_pos (.inr (.inr ⟨rfl,by simp⟩))];simp [eU]
    ·rw [if_neg (fun q=>by rcases q with q|q|q;exact h1 q;exact h2 q;exact h3 q.1),if_neg (fun q=>by rcases q with q|q|q;exact h q;exact h1 q;exact h2 q)]
     exact uV v l o _ h3
theorem wA {v:Net} {s:Int} {p:List Int} (h:1≤p.length∧p.length≤4):fH v s p=gS v s p:=by
 have h1:inR p.length 1 4=true:=cX.2 (by omega)
 have he:p.isEmpty=false:=by cases p<;>simp at h ⊢
 rw [fH,gS,he]
 by_cases hs:s=0
 ·rw [if_pos (.inr hs),hs]
  cases p with
  |nil=>simp at he
  |cons x l=>simp [eU]
 ·rw [if_neg (by simp [h1,hs]),uV v p s [s] hs]
  cases eU v p s [s]<;>simp
theorem y8 (v:Net) (r:Int) (t:List Int):∀ (l:List Int) (s:Int) (met:List Int) (x:Int),eU v (l++r::t) s met=some x→∃ o,eU v l s met=some o∧o≠0
 |[],s,met,x,h=>by
  simp only [List.nil_append,eU] at h
  split at h
  ·cases h
  ·rename_i hn
   exact ⟨s,rfl,fun e=>hn (.inl e)⟩
 |y::l,s,met,x,h=>by
  simp only [List.cons_append,eU] at h ⊢
  split at h
  ·cases h
  ·rename_i hn
   rw [if_neg hn]
   exact y8 v r t l _ _ x h
theorem D7 {r:Rail} {s:Int} (h:¬bU r s<0):(s=r.a∧bU r s=r.b)∨(s=r.b∧bU r s=r.a):=by
 unfold bU at h ⊢
 split
 ·rename_i h1;exact .inl ⟨h1,rfl⟩
 ·rename_i h1
  rw [if_neg h1] at h
  split
  ·rename_i h2;exact .inr ⟨h2,rfl⟩
  ·rename_i h2
   rw [if_neg h2] at h
   omega
theorem D1 (v:Net) (r:Int):∀ (l:List Int) (s:Int) (met:List Int),(cI v r).a∈met→(cI v r).b∈met→r∈l→eU v l s met=none
 |[],s,met,_,_,h=>by cases h
 |y::l,s,met,ha,hb,h=>by
  simp only [eU]
  split
  ·rfl
  ·rename_i hn
   rcases List.mem_cons.1 h with rfl|h
   ·exfalso
    rw [not_or,not_or] at hn
    obtain ⟨h1,h2,h3⟩:=hn
    apply h3
    rw [List.contains_iff_mem]
    rcases D7 h2 with ⟨_,e⟩|⟨_,e⟩<;>rw [e]<;>assumption
   ·exact D1 v r l _ _ (List.mem_append_left _ ha) (List.mem_append_left _ hb) h
theorem sV (v:Net):∀ (l:List Int) (s:Int) (met:List Int) (x:Int),s∈met→eU v l s met=some x→l.Nodup
 |[],s,met,x,_,_=>List.nodup_nil
 |y::l,s,met,x,hs,h=>by
  simp only [eU] at h
  split at h
  ·cases h
  ·rename_i hn
   rw [not_or,not_or] at hn
   obtain ⟨h1,h2,h3⟩:=hn
   have hm:bU (cI v y) s∈met++[bU (cI v y) s]:=by simp
   have hs':s∈met++[bU (cI v y) s]:=List.mem_append_left _ hs
   refine List.nodup_cons.2 ⟨fun hy=>?_,sV v l _ _ x hm h⟩
   have hab:(cI v y).a∈met++[bU (cI v y) s]∧(cI v y).b∈met++[bU (cI v y) s]:=by
    rcases D7 h2 with ⟨e1,e2⟩|⟨e1,e2⟩
    ·rw [←e1,←e2];exact ⟨hs',hm⟩
    ·rw [←e1,←e2];exact ⟨hm,hs'⟩
   rw [D1 v y l _ _ hab.1 hab.2 hy] at h
   cases h
def nU (b:Int):List Int:=if b<0 then [] else [b]
def tR (v:Net) (b r:Int):Bool:=!(r==b)&&!decide ((cI v r).shut=1)
def F9 (v:Net) (b:Int) (l:List Int):List (List Int):=((aO 0 v.rails.length).filter (tR v b)).map fun r=>l++[r]
def sE (v:Net) (s b:Int):Nat→List (List Int)
 |0=>[[]]
 |k+1=>(sE v s b k).flatMap fun l=>(F9 v b l).filter (d4 v s)
def CD (v:Net) (s b:Int):Nat→List (List Int)
 |0=>[]
 |k+1=>CD v s b k++(sE v s b k).flatMap fun l=>(F9 v b l).filter (gS v s)
theorem vX (v:Net) (but:List Int):∀ k,∀ l∈eM v but k,l.length=k
 |0,l,h=>by simp [eM] at h;simp [h]
 |k+1,l,h=>by
  simp only [eM,List.mem_flatMap,rZ,List.mem_map] at h
  obtain ⟨a,ha,r,_,rfl⟩:=h
  simp [vX v but k a ha]
theorem kX {α β:Type} (p:β→Bool) (f:α→List β):∀ l:List α,(l.flatMap f).filter p=l.flatMap fun x=>(f x).filter p
 |[]=>rfl
 |x::l=>by rw [List.flatMap_cons,List.filter_append,kX p f l,List.flatMap_cons]
theorem kY {α β:Type} (p:α→Bool) (f:α→List β):∀ l:List α,(l.filter p).flatMap f=l.flatMap fun x=>if p x=true then f x else []
 |[]=>rfl
 |x::l=>by
  rw [List.flatMap_cons,List.filter_cons,←kY p f l]
  split<;>simp
theorem yN {v:Net} {s b:Int} {q:List Int→Bool} {l:List Int} (h:∀ r,q (l++[r])=true→d4 v s l=true∧r∉l):(rZ v (nU b) l).filter q=if d4 v s l=true then (F9 v b l).filter q else []:=by
 have e:(rZ v (nU b) l).filter q=(F9 v b l).filter q:=by
  simp only [rZ,F9,List.filter_map,List.filter_filter]
  congr 1
  refine List.filter_congr fun r hr=>?_
  have hr0:=(cA _ _ _).1 hr
  simp only [Function.comp_def]
  cases hq:q (l++[r]) with
  |false=>simp
  |true =>
   have hc:l.contains r=false:=by rw [Bool.eq_false_iff,Ne,List.contains_iff_mem];exact (h r hq).2
   have hb:(nU b).contains r=(r==b):=by
    unfold nU
    split
    ·rw [Bool.eq_iff_iff];simp;omega
    ·rw [Bool.eq_iff_iff];simp
   simp only [s8,tR,hc,hb,Bool.true_and,Bool.not_false,Bool.and_true]
   rw [Bool.and_comm]
 rw [e]
 split
 ·rfl
 ·rename_i hb
  rw [List.filter_eq_nil_iff]
  intro x hx
  simp only [F9,List.mem_map] at hx
  obtain ⟨r,_,rfl⟩:=hx
  intro hq
  exact hb (h r hq).1
theorem HW {v:Net} {s:Int} {l:List Int} {r:Int} (h:d4 v s (l++[r])=true):d4 v s l=true∧r∉l:=by
 unfold d4 at h
 split at h
 ·rename_i o ho
  obtain ⟨x,hx,h0⟩:=y8 v r [] l s [s] o ho
  refine ⟨by simp [d4,hx,h0],?_⟩
  have:=sV v _ s [s] o (by simp) ho
  rw [List.nodup_append] at this
  intro hm
  exact this.2.2 r hm r (by simp) rfl
 ·cases h
theorem LY {v:Net} {s:Int} {l:List Int} {r:Int} (h:gS v s (l++[r])=true):d4 v s l=true∧r∉l:=by
 unfold gS at h
 split at h
 ·rename_i o ho
  obtain ⟨x,hx,h0⟩:=y8 v r [] l s [s] o ho
  refine ⟨by simp [d4,hx,h0],?_⟩
  have:=sV v _ s [s] o (by simp) ho
  rw [List.nodup_append] at this
  intro hm
  exact this.2.2 r hm r (by simp) rfl
 ·cases h
theorem uC {v:Net} {s b:Int} (hs:s≠0):∀ k,sE v s b k=(eM v (nU b) k).filter (d4 v s)
 |0=>by
  have h:d4 v s []=true:=by simp [d4,eU,hs]
  simp only [sE,eM,List.filter_cons,h,if_true,List.filter_nil]
 |k+1=>by
  simp only [sE,eM]
  rw [uC hs k,kX,kY]
  congr 1
  funext l
  exact (yN fun r=>HW).symm
theorem CG {v:Net} {s b:Int} (hs:s≠0):∀ k,k≤4→CD v s b k=eD v s (nU b) k
 |0,_=>rfl
 |k+1,hk=>by
  simp only [CD,eD,eM]
  rw [CG hs k (by omega),uC hs k,kY]
  congr 1
  have e:((eM v (nU b) k).flatMap (rZ v (nU b))).filter (fH v s)=((eM v (nU b) k).flatMap (rZ v (nU b))).filter (gS v s):=by
   refine List.filter_congr fun l hl=>?_
   have:=vX v (nU b) (k+1) l hl
   exact wA (by omega)
  rw [e,kX]
  congr 1
  funext l
  exact (yN fun r=>LY).symm
theorem LP (v:Net) (but:List Int):bW v 0 but=[]:=by
 have key:∀ k,eD v 0 but k=[]:=by
  intro k
  induction k with
  |zero=>rfl
  |succ k ih =>
   rw [eD,ih,List.nil_append,List.filter_eq_nil_iff]
   intro l _
   simp [fH]
 exact key 4
theorem aDJ (v:Net) {s b:Int} (hs:s≠0):CD v s b 4=bW v s (nU b):=CG hs 4 (Nat.le_refl _)
def s7 (ss:List Stay) (rail m s t:Int):Prop:=s≤t∧ss.any (iL rail t m)=false∧∀ y,s≤y→y<t→ss.any (iL rail y m)=true
theorem LQ {ss:List Stay} {rail m s t u:Int} (h:s7 ss rail m s t) (k:s7 ss rail m s u):t=u:=by
 obtain ⟨h1,h2,h3⟩:=h
 obtain ⟨k1,k2,k3⟩:=k
 by_cases a:t<u
 ·rw [k3 t h1 a] at h2;cases h2
 ·by_cases b:u<t
  ·rw [h3 u k1 b] at k2;cases k2
  ·omega
theorem vW {ss:List Stay} {rail m s B:Int} (hB:∀ x∈ss,x.til≤B) (h:ss.any (iL rail s m)=true):s<B:=by
 rw [List.any_eq_true] at h
 obtain ⟨x,hx,hc⟩:=h
 have:=hB x hx
 simp [iL] at hc
 omega
theorem AO {ss:List Stay} {rail m B:Int} (hB:∀ x∈ss,x.til≤B):∀ (k:Nat) (s:Int),B≤s+k→s7 ss rail m s (tA ss rail m k s)
 |0,s,h=>⟨by simp [tA],by
   rw [tA,Bool.eq_false_iff]
   intro hc
   have:=vW hB hc
   omega,fun y h1 h2=>by simp [tA] at h2;omega⟩
 |k+1,s,h=>by
  rw [tA]
  split
  ·rename_i hc
   obtain ⟨h1,h2,h3⟩:=AO hB k (s+1) (by omega)
   refine ⟨by omega,h2,fun y q1 q2=>?_⟩
   by_cases e:y=s
   ·subst e;exact hc
   ·exact h3 y (by omega) q2
  ·rename_i hc
   exact ⟨Int.le_refl _,by simpa using hc,fun y q1 q2=>by omega⟩
theorem B4 {ss:List Stay} {rail m B s:Int} (hB:∀ x∈ss,x.til≤B) (h:B≤s+1000):s7 ss rail m s (j8 ss rail s m):=AO hB 1000 s h
theorem RQ {ss:List Stay} {rail m B s t:Int} (hB:∀ x∈ss,x.til≤B) (h:s7 ss rail m s t) (hs:s≤B):t≤B:=by
 by_cases e:s=t
 ·omega
 ·have h1:=h.1
  have:=vW hB (h.2.2 (t-1) (by omega) (by omega))
  omega
theorem GK {rail m s:Int} {x:Stay} (h:iL rail s m x=true) {y:Int} (h1:s≤y) (h2:y<x.til):iL rail y m x=true:=by
 simp [iL] at h ⊢
 omega
theorem yY {rail m s:Int} {x:Stay} (h:iL rail s m x=true):s<x.til:=by
 simp [iL] at h
 omega
def rF (ss:List Stay) (rail m s t:Int):Prop:=s≤t∧∀ y,s≤y→y<t→ss.any (iL rail y m)=true
theorem L6 (ss:List Stay) (rail m s:Int):rF ss rail m s s:=⟨Int.le_refl _,fun y h1 h2=>by omega⟩
theorem KI {ss:List Stay} {rail m s t u:Int} {x:Stay} (h:rF ss rail m s t) (hx:x∈ss) (ht:t≤u) (hc:iL rail u m x=true) (hm:∀ y,t≤y→y<u→ss.any (iL rail y m)=true):rF ss rail m s x.til:=by
 have:=yY hc
 refine ⟨by have:=h.1;omega,fun y h1 h2=>?_⟩
 by_cases a:y<t
 ·exact h.2 y h1 a
 ·by_cases b:y<u
  ·exact hm y (by omega) b
  ·rw [List.any_eq_true]
   exact ⟨x,hx,GK hc (by omega) h2⟩
theorem KU {ss:List Stay} {rail m s t:Int} (h:rF ss rail m s t) (hf:ss.any (iL rail t m)=false):s7 ss rail m s t:=⟨h.1,hf,h.2⟩
theorem JP {ss:List Stay} {rail m B s t:Int} (hB:∀ x∈ss,x.til≤B) (h:rF ss rail m s t) (hs:s≤B):t≤B:=by
 by_cases e:s=t
 ·omega
 ·have h1:=h.1
  have:=vW hB (h.2 (t-1) (by omega) (by omega))
  omega
structure RunOk (v:Net) (ps:List (List Int)):Prop where
 len:ps.length=v.trams.length
 few:∀ p∈ps,p.length≤4
 rails:∀ p∈ps,∀ r∈p,0≤r∧r<v.rails.length
def DG (v:Net) (m:Int→Int):Prop:=∀ r:Int,0≤r→r<v.rails.length→0≤m r∧m r≤20
structure StaysOk (ss:List Stay) (n:Nat):Prop where
 len:ss.length≤n
 til:∀ x∈ss,x.til≤60+20*n
 frm:∀ x∈ss,0≤x.frm
theorem EF {ss:List Stay} {n k:Nat} (h:StaysOk ss n) (hk:n≤k):StaysOk ss k:=⟨by have:=h.len;omega,fun x hx=>by have:=h.til x hx;omega,h.frm⟩
theorem JV {ss:List Stay} {n:Nat} (h:StaysOk ss n) (hn:n≤40) {rail m s:Int} (h0:0≤s) (hs:s≤60+20*n):s7 ss rail m s (j8 ss rail s m)∧s≤j8 ss rail s m∧j8 ss rail s m≤60+20*n:=by
 have h1:=B4 (rail:=rail) (m:=m) h.til (show (60:Int)+20*n≤s+1000 by omega)
 exact ⟨h1,h1.1,RQ h.til h1 hs⟩
theorem OQ {m:Int→Int} {i:Int}:∀ (l:List Int) (a:Int) (ss:List Stay) (n:Nat),StaysOk ss n→n+l.length≤40→0≤a→a≤60+20*n→(∀ r∈l,0≤m r∧m r≤20) →
  StaysOk (pB m i l a ss).1 (n+l.length)∧a≤(pB m i l a ss).2∧(pB m i l a ss).2≤60+20*(n+l.length:Nat)
 |[],a,ss,n,h,hn,h0,h1,hm=>by simp only [pB,List.length_nil,Nat.add_zero];exact ⟨h,Int.le_refl _,h1⟩
 |r::l,a,ss,n,h,hn,h0,h1,hm=>by
  simp only [List.length_cons] at hn ⊢
  obtain ⟨f1,f2,f3⟩:=JV (rail:=r) (m:=m r) h (by omega) h0 h1
  have hmr:=hm r (by simp)
  simp only [pB]
  obtain ⟨q1,q2,q3⟩:=OQ (m:=m) (i:=i) l (j8 ss r a (m r)+m r) (ss++[⟨i,r,j8 ss r a (m r),j8 ss r a (m r)+m r⟩]) (n+1) ⟨by have:=h.len;simp;omega,fun x hx=>by
   rcases List.mem_append.1 hx with hx|hx
   ·have:=h.til x hx;omega
   ·simp only [List.mem_singleton] at hx;subst hx;simp only;omega,fun x hx=>by
   rcases List.mem_append.1 hx with hx|hx
   ·exact h.frm x hx
   ·simp only [List.mem_singleton] at hx;subst hx;simp only;omega⟩ (by omega) (by omega) (by omega) (fun x hx=>hm x (by simp [hx]))
  rw [show n+(l.length+1)=n+1+l.length by omega]
  exact ⟨q1,by omega,q3⟩
theorem B7 {v:Net} {i:Nat} (h:i<v.trams.length):l0 v i=v.trams[i].leaves:=by simp [l0,h]
theorem T5 {m:Int→Int} {i a:Int} {l:List Int} {ss:List Stay} {n:Nat} (h:StaysOk ss n) (hn:n+l.length≤40) (h0:0≤a) (h1:a≤60) (hm:∀ r∈l,0≤m r∧m r≤20) :
  StaysOk (nO m i a l ss).1 (n+l.length)∧-1≤(nO m i a l ss).2∧(nO m i a l ss).2≤60+20*(n+l.length:Nat):=by
 unfold nO
 split
 ·exact ⟨EF h (by omega),by simp only;omega,by simp only;omega⟩
 ·obtain ⟨q1,q2,q3⟩:=OQ (i:=i) l a ss n h hn h0 (by omega) hm
  exact ⟨q1,by omega,q3⟩
theorem xB (v:Net) (m:Int→Int) (ps:List (List Int)):∀ k,(fJ v m ps k).2.length=k
 |0=>rfl
 |k+1=>by simp [fJ,xB v m ps k]
theorem EO {v:Net} {ps:List (List Int)} (h:RunOk v ps) {i:Nat} (hi:i<v.trams.length):eE ps i∈ps:=by
 have:i<ps.length:=by rw [h.len];exact hi
 simp [eE,this]
theorem OA {v:Net} (hv:Vd v) {m:Int→Int} (hm:DG v m) {ps:List (List Int)} (hp:RunOk v ps):∀ k,k≤v.trams.length→StaysOk (fJ v m ps k).1 (4*k)∧∀ c∈(fJ v m ps k).2,-1≤c∧c≤300
 |0,_=>⟨⟨by simp [fJ],by simp [fJ],by simp [fJ]⟩,by simp [fJ]⟩
 |k+1,hk=>by
  have hn:=hv.ntr
  obtain ⟨h1,h2⟩:=OA hv hm hp k (by omega)
  have ht:=wC hv (show k<v.trams.length by omega)
  have hpm:=EO hp (show k<v.trams.length by omega)
  have hpl:=hp.few _ hpm
  have h60:=ht.leaves
  rw [←B7 (show k<v.trams.length by omega)] at h60
  obtain ⟨q1,q2,q3⟩:=T5 (m:=m) (i:=k) (a:=l0 v k) (l:=eE ps k) h1 (by omega) h60.1 h60.2 (fun r hr=>by
   have:=hp.rails _ hpm r hr
   exact hm r this.1 this.2)
  simp only [fJ]
  refine ⟨EF q1 (by omega),fun c hc=>?_⟩
  rcases List.mem_append.1 hc with hc|hc
  ·exact h2 c hc
  ·simp only [List.mem_singleton] at hc
   subst hc
   omega
theorem YH {v:Net} (hv:Vd v):RunOk v (lY v):=by
 have key:∀ p∈lY v,p.length≤4∧∀ r∈p,0≤r∧r<v.rails.length:=by
  intro p hp
  simp only [lY,List.mem_map] at hp
  obtain ⟨t,ht,rfl⟩:=hp
  obtain ⟨i,hi,rfl⟩:=List.getElem_of_mem ht
  have:=wC hv hi
  exact ⟨this.len.2,this.path⟩
 exact ⟨by simp [lY],fun p hp=>(key p hp).1,fun p hp=>(key p hp).2⟩
end Go.Am.Room
